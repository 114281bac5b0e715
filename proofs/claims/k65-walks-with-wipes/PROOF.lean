import PyProof.Rows.All
import Wide.All
import OpenK.AllK
import Wide.FinOn
import HandS.ForMost
import HandS.Defaults
import HandS.TupAny
import HandS.Style
import HandS.Wide
import HandS.IsInst
import HandS.Deep
import HandS.SortInts
import HandS.Zip
import HandS.DictComp
import HandS.Conv
import KE.KDictZip
import HandS.SetFor
import HandS.Set
import HandS.Strs
import HandS.SortRule
import KE.KStateDown
import Lean
import HandS.WordsExc
import HandS.Head0
import HandS.Head1
import HandS.Head2
import HandS.HeadEnd
import HandS.HeadHook1
import HandS.HeadHook2
import PySem.Challenge.RW_onlyundone_k65_walks_with_wipes
set_option Elab.async false
set_option linter.all false
set_option maxRecDepth 100000
set_option maxHeartbeats 0
/-! plain data over the layer -/
namespace Py
open PySem PySem.Spec PyProof.Rows L2

/-! ### data, a store of things that change, slots -/
inductive D where
  | non | bl (b : Bool) | int (i : Int) | str (x : Str)
  | tup (l : List D) | lst (l : List D) | scr (l : List D) | dct (l : List (D × D))
  | obj (c : Str) (fs : List (Str × D)) | loc (i : Nat) | glo (x : Str)
inductive MO where
  | lst (l : List D) | dct (l : List (D × D)) | ins (c : Str) (fs : List (Str × D))
inductive Slot where
  | un | dat (d : D) | lst (l : List D) | dct (l : List (D × D))
abbrev Stor := List MO
abbrev Env' := List Slot
abbrev Cm (α : Type) := Stor → Option (α × Stor)
/-- a key as data -/
def kD : Key → D
  | .inl i => .int i
  | .inr x => .str x
def kT (l : List Key) : D := .tup (l.map kD)

variable (K : PySem.W.Frag) (mg : Str → Option Value)
/-- written in the program's top, as a list, a tuple -/
def WrL (a : Addr) (xs : List V) : Prop := ∃ (o : Obj) (its : Array Value) (n : Nat), K.lookup a = some o ∧ o.cls = .type "list" ∧ o.dict = none ∧ o.data = .seq its n ∧ its.size ≤ sizeLine ∧ Vals xs its.toList
def WrT (a : Addr) (xs : List V) : Prop := ∃ (o : Obj) (its : Array Value) (n : Nat), K.lookup a = some o ∧ o.cls = .type "tuple" ∧ o.data = .seq its n ∧ its.size ≤ sizeLine ∧ Vals xs its.toList
mutual
inductive Rep (β ex : List Addr) (H : Hp) : V → D → Prop
  | non : Rep β ex H .non .non
  | bl (b : Bool) : Rep β ex H (.bl b) (.bl b)
  | int (i : Int) : Rep β ex H (.int i) (.int i)
  | str (x : Str) : Rep β ex H (.str x) (.str x)
  | tup {a : Addr} {vs : List V} {l : List D} : (H a = some (.tup vs) ∧ a ∉ ex) ∨ WrT K a vs → vs.length ≤ sizeLine → Reps β ex H vs l → Rep β ex H (.ref a) (.tup l)
  | lst {a : Addr} {vs : List V} {l : List D} : H a = some (.lst vs) → a ∉ ex → vs.length ≤ sizeLine → Reps β ex H vs l → Rep β ex H (.ref a) (.lst l)
  | scr {a : Addr} {vs : List V} {l : List D} : (Rd H a (.lst vs) ∧ a ∉ ex) ∨ WrL K a vs → vs.length ≤ sizeLine → Reps β ex H vs l → Rep β ex H (.ref a) (.scr l)
  | dctK {a : Addr} {kvs : List (Key × V)} {l : List (D × D)} : Rd H a (.dK kvs) → a ∉ ex → kvs.map (fun p => kD p.1) = l.map (·.1) → Reps β ex H (kvs.map (·.2)) (l.map (·.2)) → Rep β ex H (.ref a) (.dct l)
  | dctT {a : Addr} {kvs : List (List Key × V)} {l : List (D × D)} : Rd H a (.dT kvs) → a ∉ ex → kvs.map (fun p => kT p.1) = l.map (·.1) → Reps β ex H (kvs.map (·.2)) (l.map (·.2)) → Rep β ex H (.ref a) (.dct l)
  | obj {a C dx : Addr} {c : Str} {fv : List (Str × V)} {fs : List (Str × D)} : H a = some (.ins C dx fv) → a ∉ ex → mg c = some (.ref C) → fv.map (·.1) = fs.map (·.1) → Reps β ex H (fv.map (·.2)) (fs.map (·.2)) → Rep β ex H (.ref a) (.obj c fs)
  | loc {a : Addr} {i : Nat} : β[i]? = some a → Rep β ex H (.ref a) (.loc i)
  | glo {a : Addr} {x : Str} : mg x = some (.ref a) → Rep β ex H (.ref a) (.glo x)
inductive Reps (β ex : List Addr) (H : Hp) : List V → List D → Prop
  | nil : Reps β ex H [] []
  | cons {v : V} {d : D} {vs : List V} {l : List D} : Rep β ex H v d → Reps β ex H vs l → Reps β ex H (v :: vs) (d :: l)
end
variable {K mg}
section
variable {β ex β' ex' : List Addr} {H H' : Hp}
/-- all that data lean on stays -/
structure Keep (β ex : List Addr) (H : Hp) (β' ex' : List Addr) (H' : Hp) : Prop where
  pre : ∀ (i : Nat) (a : Addr), β[i]? = some a → β'[i]? = some a
  obj : ∀ (a : Addr) (o : HO), H a = some o → a ∉ ex → H' a = some o ∧ a ∉ ex'
theorem Keep.rd (k : Keep β ex H β' ex' H') {a : Addr} {u : HO} (h : Rd H a u) (n : a ∉ ex) : Rd H' a u ∧ a ∉ ex' := by
  rcases h with h | ⟨o, h⟩
  · obtain ⟨h1, h2⟩ := k.obj a _ h n
    exact ⟨.inl h1, h2⟩
  · obtain ⟨h1, h2⟩ := k.obj a _ h n
    exact ⟨.inr ⟨o, h1⟩, h2⟩
mutual
theorem Rep.keep (k : Keep β ex H β' ex' H') : ∀ {v : V} {d : D}, Rep K mg β ex H v d → Rep K mg β' ex' H' v d
  | _, _, .non => .non
  | _, _, .bl b => .bl b
  | _, _, .int i => .int i
  | _, _, .str x => .str x
  | _, _, .tup h l r => .tup (h.imp (fun h => k.obj _ _ h.1 h.2) id) l (Reps.keep k r)
  | _, _, .lst h n l r => .lst (k.obj _ _ h n).1 (k.obj _ _ h n).2 l (Reps.keep k r)
  | _, _, .scr h l r => .scr (h.imp (fun h => k.rd h.1 h.2) id) l (Reps.keep k r)
  | _, _, .dctK h n e r => .dctK (k.rd h n).1 (k.rd h n).2 e (Reps.keep k r)
  | _, _, .dctT h n e r => .dctT (k.rd h n).1 (k.rd h n).2 e (Reps.keep k r)
  | _, _, .obj h n m e r => .obj (k.obj _ _ h n).1 (k.obj _ _ h n).2 m e (Reps.keep k r)
  | _, _, .loc h => .loc (k.pre _ _ h)
  | _, _, .glo h => .glo h
theorem Reps.keep (k : Keep β ex H β' ex' H') : ∀ {vs : List V} {l : List D}, Reps K mg β ex H vs l → Reps K mg β' ex' H' vs l
  | _, _, .nil => .nil
  | _, _, .cons h r => .cons (Rep.keep k h) (Reps.keep k r)
end
theorem Reps.length : ∀ {vs : List V} {l : List D}, Reps K mg β ex H vs l → vs.length = l.length
  | _, _, .nil => rfl
  | _, _, .cons _ r => congrArg Nat.succ (Reps.length r)
theorem Reps.append : ∀ {vs ws : List V} {l m : List D}, Reps K mg β ex H vs l → Reps K mg β ex H ws m → Reps K mg β ex H (vs ++ ws) (l ++ m)
  | _, _, _, _, .nil, s => s
  | _, _, _, _, .cons h r, s => .cons h (Reps.append r s)
theorem Reps.one {v : V} {d : D} (h : Rep K mg β ex H v d) : Reps K mg β ex H [v] [d] := .cons h .nil
theorem Reps.get : ∀ {vs : List V} {l : List D} {i : Nat} {v : V}, Reps K mg β ex H vs l → vs[i]? = some v → ∃ d, l[i]? = some d ∧ Rep K mg β ex H v d
  | _, _, _, _, .nil, e => by simp at e
  | _, _, 0, _, .cons h _, e => by simp at e; subst e; exact ⟨_, rfl, h⟩
  | _, _, i + 1, _, .cons _ r, e => by
    obtain ⟨d, e1, e2⟩ := Reps.get (i := i) r (by simpa using e)
    exact ⟨d, by simpa using e1, e2⟩
theorem Reps.getD : ∀ {vs : List V} {l : List D} {i : Nat} {d : D}, Reps K mg β ex H vs l → l[i]? = some d → ∃ v, vs[i]? = some v ∧ Rep K mg β ex H v d
  | _, _, _, _, .nil, e => by simp at e
  | _, _, 0, _, .cons h _, e => by simp at e; subst e; exact ⟨_, rfl, h⟩
  | _, _, i + 1, _, .cons _ r, e => by
    obtain ⟨d, e1, e2⟩ := Reps.getD (i := i) r (by simpa using e)
    exact ⟨d, by simpa using e1, e2⟩
theorem Reps.take : ∀ {vs : List V} {l : List D} (n : Nat), Reps K mg β ex H vs l → Reps K mg β ex H (vs.take n) (l.take n)
  | _, _, 0, _ => .nil
  | _, _, _ + 1, .nil => .nil
  | _, _, n + 1, .cons h r => .cons h (Reps.take n r)
theorem Reps.drop : ∀ {vs : List V} {l : List D} (n : Nat), Reps K mg β ex H vs l → Reps K mg β ex H (vs.drop n) (l.drop n)
  | _, _, 0, r => r
  | _, _, _ + 1, .nil => .nil
  | _, _, n + 1, .cons _ r => Reps.drop n r
theorem Reps.set {v : V} {d : D} (h : Rep K mg β ex H v d) : ∀ {vs : List V} {l : List D} (i : Nat), Reps K mg β ex H vs l → Reps K mg β ex H (vs.set i v) (l.set i d)
  | _, _, _, .nil => .nil
  | _, _, 0, .cons _ r => .cons h r
  | _, _, i + 1, .cons q r => .cons q (Reps.set h i r)
theorem Reps.reverse : ∀ {vs : List V} {l : List D}, Reps K mg β ex H vs l → Reps K mg β ex H vs.reverse l.reverse
  | _, _, .nil => .nil
  | _, _, .cons h r => by
    rw [List.reverse_cons, List.reverse_cons]
    exact (Reps.reverse r).append (.one h)
end

/-! ### the store, the slots -/
section
variable (K mg)
def ObjR (β ex : List Addr) (H : Hp) (a : Addr) : MO → Prop
  | .lst l => ∃ vs, H a = some (.lst vs) ∧ vs.length ≤ sizeLine ∧ Reps K mg β ex H vs l
  | .dct l => (∃ kvs, H a = some (.dK kvs) ∧ kvs.map (fun p => kD p.1) = l.map (·.1) ∧ Reps K mg β ex H (kvs.map (·.2)) (l.map (·.2))) ∨
    (∃ kvs, H a = some (.dT kvs) ∧ kvs.map (fun p => kT p.1) = l.map (·.1) ∧ Reps K mg β ex H (kvs.map (·.2)) (l.map (·.2)))
  | .ins c fs => ∃ C dx fv, H a = some (.ins C dx fv) ∧ mg c = some (.ref C) ∧ fv.map (·.1) = fs.map (·.1) ∧ Reps K mg β ex H (fv.map (·.2)) (fs.map (·.2))
structure Hold (β ex : List Addr) (H : Hp) (M : Stor) : Prop where
  len : β.length = M.length
  nd : β.Nodup
  sub : ∀ a ∈ β, a ∈ ex
  live : ∀ a ∈ ex, H a ≠ none
  objs : ∀ (i : Nat) (a : Addr) (o : MO), β[i]? = some a → M[i]? = some o → ObjR K mg β ex H a o
def SlotR (β ex : List Addr) (H : Hp) (s : Option V) (o : Option Addr) : Slot → Prop
  | .un => o = none
  | .dat d => o = none ∧ ∃ v, s = some v ∧ Rep K mg β ex H v d
  | .lst l => ∃ a, o = some a ∧ s = some (.ref a) ∧ ObjR K mg β ex H a (.lst l)
  | .dct l => ∃ a, o = some a ∧ s = some (.ref a) ∧ ObjR K mg β ex H a (.dct l)
structure Fram (β ex : List Addr) (os : List (Option Addr)) (σ : L2.St) (H : Hp) (ρ : Env') : Prop where
  len : σ.length = ρ.length
  leo : os.length = ρ.length
  sl : ∀ (i : Nat) (s : Slot), ρ[i]? = some s → SlotR K mg β ex H (σ[i]?).join (os[i]?).join s
  nd : ∀ (i j : Nat) (a : Addr), os[i]? = some (some a) → os[j]? = some (some a) → i = j
  ow : ∀ (i : Nat) (a : Addr), os[i]? = some (some a) → a ∈ ex ∧ a ∉ β
end
/-- behind an expression: own things stay -/
structure After (β ex : List Addr) (H : Hp) (β' ex' : List Addr) (H' : Hp) : Prop where
  pre : ∃ n, β' = β ++ n ∧ ∀ a ∈ n, H a = none
  up : ∀ a ∈ ex, a ∈ ex'
  nw : ∀ a ∈ ex', a ∈ ex ∨ H a = none
  same : ∀ a o, H a = some o → a ∉ β → H' a = some o
  dom : ∀ a, H' a = none → H a = none
/-- behind a statement -/
structure AfterS (β ex : List Addr) (os : List (Option Addr)) (H : Hp) (β' ex' : List Addr) (os' : List (Option Addr)) (H' : Hp) : Prop where
  pre : ∃ n, β' = β ++ n ∧ ∀ a ∈ n, H a = none
  up : ∀ a ∈ ex, a ∈ ex' ∨ some a ∈ os
  nw : ∀ a ∈ ex', a ∈ ex ∨ H a = none
  nwo : ∀ a, some a ∈ os' → some a ∈ os ∨ H a = none
  same : ∀ a o, H a = some o → a ∉ β → some a ∉ os → H' a = some o
  dom : ∀ a, H' a = none → H a = none
section
variable {β ex β' ex' β'' ex'' : List Addr} {os os' os'' : List (Option Addr)} {H H' H'' : Hp} {M : Stor} {σ : L2.St} {ρ : Env'}
theorem After.refl : After β ex H β ex H := ⟨⟨[], by simp, by simp⟩, fun _ h => h, fun _ h => .inl h, fun _ _ h _ => h, fun _ h => h⟩
theorem After.trans (a : After β ex H β' ex' H') (b : After β' ex' H' β'' ex'' H'') : After β ex H β'' ex'' H'' := by
  obtain ⟨n, e, hn⟩ := a.pre
  obtain ⟨m, e', hm⟩ := b.pre
  refine ⟨⟨n ++ m, by rw [e', e, List.append_assoc], fun x hx => ?_⟩, fun x h => b.up x (a.up x h), fun x h => ?_, fun x o h h1 => ?_, fun x h => a.dom x (b.dom x h)⟩
  · rcases List.mem_append.mp hx with h | h
    · exact hn x h
    · exact a.dom x (hm x h)
  · rcases b.nw x h with h | h
    · exact a.nw x h
    · exact .inr (a.dom x h)
  · refine b.same x o (a.same x o h h1) fun hx => ?_
    rw [e] at hx
    rcases List.mem_append.mp hx with q | q
    · exact h1 q
    · rw [hn x q] at h; cases h
theorem After.keep (a : After β ex H β' ex' H') (hd : Hold K mg β ex H M) : Keep β ex H β' ex' H' := by
  obtain ⟨n, e, hn⟩ := a.pre
  refine ⟨fun i x h => ?_, fun x o h hx => ⟨a.same x o h fun q => hx (hd.sub x q), fun q => ?_⟩⟩
  · rw [e, List.getElem?_append_left (List.getElem?_eq_some_iff.mp h).1]
    exact h
  · rcases a.nw x q with z | z
    · exact hx z
    · rw [z] at h; cases h
/-- a new thing on the heap -/
def Grow (H H' : Hp) : Prop := ∀ a o, H a = some o → H' a = some o
theorem Grow.refl : Grow H H := fun _ _ h => h
theorem Grow.trans (a : Grow H H') (b : Grow H' H'') : Grow H H'' := fun x o h => b x o (a x o h)
theorem Grow.new {p : Addr} {o : HO} (h : H p = none) : Grow H (upd H p o) := fun a x e => by rw [upd_ne (ne_of_none e h)]; exact e
theorem Grow.dom (g : Grow H H') {a : Addr} (h : H' a = none) : H a = none := by
  cases e : H a with
  | none => rfl
  | some o => rw [g a o e] at h; cases h
theorem Grow.after (g : Grow H H') : After β ex H β ex H' := ⟨⟨[], by simp, by simp⟩, fun _ h => h, fun _ h => .inl h, fun a o h _ => g a o h, fun a h => g.dom h⟩
theorem Grow.keep (g : Grow H H') : Keep β ex H β ex H' := ⟨fun _ _ h => h, fun a o h n => ⟨g a o h, n⟩⟩
theorem ObjR.keep (k : Keep β ex H β' ex' H') {a : Addr} (hs : ∀ o, H a = some o → H' a = some o) : ∀ {o : MO}, ObjR K mg β ex H a o → ObjR K mg β' ex' H' a o
  | .lst l, ⟨vs, h, z, r⟩ => ⟨vs, hs _ h, z, r.keep k⟩
  | .dct l, .inl ⟨kvs, h, z, r⟩ => .inl ⟨kvs, hs _ h, z, r.keep k⟩
  | .dct l, .inr ⟨kvs, h, z, r⟩ => .inr ⟨kvs, hs _ h, z, r.keep k⟩
  | .ins c fs, ⟨C, dx, fv, h, z, y, r⟩ => ⟨C, dx, fv, hs _ h, z, y, r.keep k⟩
theorem ObjR.tracked {a : Addr} : ∀ {o : MO}, ObjR K mg β ex H a o → H a ≠ none
  | .lst l, ⟨vs, h, _⟩ => by rw [h]; simp
  | .dct l, .inl ⟨kvs, h, _⟩ => by rw [h]; simp
  | .dct l, .inr ⟨kvs, h, _⟩ => by rw [h]; simp
  | .ins c fs, ⟨C, dx, fv, h, _⟩ => by rw [h]; simp
theorem Hold.grow (hd : Hold K mg β ex H M) (g : Grow H H') : Hold K mg β ex H' M :=
  ⟨hd.len, hd.nd, hd.sub, fun a h => fun e => hd.live a h (g.dom e), fun i a o h1 h2 => (hd.objs i a o h1 h2).keep g.keep (g a)⟩
theorem SlotR.keep (k : Keep β ex H β' ex' H') {s : Option V} {o : Option Addr} (hs : ∀ a, o = some a → ∀ u, H a = some u → H' a = some u) : ∀ {q : Slot}, SlotR K mg β ex H s o q → SlotR K mg β' ex' H' s o q
  | .un, h => h
  | .dat d, ⟨h, v, e, r⟩ => ⟨h, v, e, r.keep k⟩
  | .lst l, ⟨a, e, e', r⟩ => ⟨a, e, e', r.keep k (hs a e)⟩
  | .dct l, ⟨a, e, e', r⟩ => ⟨a, e, e', r.keep k (hs a e)⟩
theorem Fram.after (f : Fram K mg β ex os σ H ρ) (hd : Hold K mg β ex H M) (a : After β ex H β' ex' H') : Fram K mg β' ex' os σ H' ρ := by
  obtain ⟨n, e, hn⟩ := a.pre
  refine ⟨f.len, f.leo, fun i s h => (f.sl i s h).keep (a.keep hd) fun x hx u hu => ?_, f.nd, fun i x h => ?_⟩
  · have : os[i]? = some (some x) := by
      cases q : os[i]? with
      | none => rw [q] at hx; cases hx
      | some y => rw [q] at hx; exact congrArg some hx
    exact a.same x u hu (f.ow i x this).2
  · obtain ⟨h1, h2⟩ := f.ow i x h
    refine ⟨a.up x h1, fun q => ?_⟩
    rw [e] at q
    rcases List.mem_append.mp q with q | q
    · exact h2 q
    · exact hd.live x h1 (hn x q)
theorem AfterS.refl : AfterS β ex os H β ex os H := ⟨⟨[], by simp, by simp⟩, fun _ h => .inl h, fun _ h => .inl h, fun _ h => .inl h, fun _ _ h _ _ => h, fun _ h => h⟩
theorem After.toS (a : After β ex H β' ex' H') : AfterS β ex os H β' ex' os H' := ⟨a.pre, fun x h => .inl (a.up x h), a.nw, fun _ h => .inl h, fun x o h h1 _ => a.same x o h h1, a.dom⟩
theorem AfterS.trans (a : AfterS β ex os H β' ex' os' H') (b : AfterS β' ex' os' H' β'' ex'' os'' H'') (lv : ∀ x ∈ ex, H x ≠ none) : AfterS β ex os H β'' ex'' os'' H'' := by
  obtain ⟨n, e, hn⟩ := a.pre
  obtain ⟨m, e', hm⟩ := b.pre
  refine ⟨⟨n ++ m, by rw [e', e, List.append_assoc], fun x hx => ?_⟩, fun x h => ?_, fun x h => ?_, fun x h => ?_, fun x o h h1 h2 => ?_, fun x h => a.dom x (b.dom x h)⟩
  · rcases List.mem_append.mp hx with h | h
    · exact hn x h
    · exact a.dom x (hm x h)
  · rcases a.up x h with q | q
    · rcases b.up x q with z | z
      · exact .inl z
      · rcases a.nwo x z with y | y
        · exact .inr y
        · exact absurd y (lv x h)
    · exact .inr q
  · rcases b.nw x h with h | h
    · exact a.nw x h
    · exact .inr (a.dom x h)
  · rcases b.nwo x h with h | h
    · exact a.nwo x h
    · exact .inr (a.dom x h)
  · refine b.same x o (a.same x o h h1 h2) (fun hx => ?_) fun hx => ?_
    · rw [e] at hx
      rcases List.mem_append.mp hx with q | q
      · exact h1 q
      · rw [hn x q] at h; cases h
    · rcases a.nwo x hx with q | q
      · exact h2 q
      · rw [q] at h; cases h
end
end Py
/-! the judgements over plain data -/
namespace Py
open PySem PySem.Spec PyProof.Rows L2

/-! ### small computations -/
def bnd {α β : Type} (x : Option (α × Stor)) (f : α → Stor → Option (β × Stor)) : Option (β × Stor) := match x with
  | some (a, M) => f a M
  | none => none
@[simp] theorem bnd_some {α β : Type} {a : α} {M : Stor} {f : α → Stor → Option (β × Stor)} : bnd (some (a, M)) f = f a M := rfl
@[simp] theorem bnd_none {α β : Type} {f : α → Stor → Option (β × Stor)} : bnd none f = none := rfl
theorem bnd_eq {α β : Type} {x : Option (α × Stor)} {f : α → Stor → Option (β × Stor)} {r : β × Stor} (h : bnd x f = some r) : ∃ a M, x = some (a, M) ∧ f a M = some r := by
  cases x with
  | none => cases h
  | some p => exact ⟨p.1, p.2, rfl, h⟩
def lft {α : Type} (x : Option α) (M : Stor) : Option (α × Stor) := match x with
  | some a => some (a, M)
  | none => none
@[simp] theorem lft_some {α : Type} {a : α} {M : Stor} : lft (some a) M = some (a, M) := rfl
@[simp] theorem lft_none {α : Type} {M : Stor} : lft (none : Option α) M = none := rfl
theorem lft_eq {α : Type} {x : Option α} {M : Stor} {r : α × Stor} (h : lft x M = some r) : x = some r.1 ∧ r.2 = M := by
  cases x with
  | none => cases h
  | some a => cases h; exact ⟨rfl, rfl⟩
def lim : Nat := 16000000
theorem lim_ok {n : Nat} (h : n ≤ lim) : n < sizeLine := Nat.lt_of_le_of_lt h (by decide)

/-! ### expressions -/
abbrev Rel (α : Type) := List Addr → List Addr → Hp → Hp → V → α → Prop
/-- an expression whose value stands for what g gives, by R -/
def tG (K : PySem.W.Frag) (mg : Str → Option Value) {α : Type} (R : Rel α) (g : Env' → Cm α) : TE := fun σ H Q => ∃ β ex os ρ M a M', Hold K mg β ex H M ∧ Fram K mg β ex os σ H ρ ∧ g ρ M = some (a, M') ∧
  ∀ v H' β' ex', After β ex H β' ex' H' → Hold K mg β' ex' H' M' → R β' ex' H H' v a → Q v H'
abbrev RD (K : PySem.W.Frag) (mg : Str → Option Value) : Rel D := fun β ex _ H' v d => Rep K mg β ex H' v d
/-- a new list of one's own -/
def RL (K : PySem.W.Frag) (mg : Str → Option Value) : Rel (List D) := fun β ex H H' v l => ∃ p, v = .ref p ∧ H p = none ∧ p ∈ ex ∧ p ∉ β ∧ ObjR K mg β ex H' p (.lst l)
def RM (K : PySem.W.Frag) (mg : Str → Option Value) : Rel (List (D × D)) := fun β ex H H' v l => ∃ p, v = .ref p ∧ H p = none ∧ p ∈ ex ∧ p ∉ β ∧ ObjR K mg β ex H' p (.dct l)
/-- what is put into a slot -/
def RS (K : PySem.W.Frag) (mg : Str → Option Value) : Rel Slot := fun β ex H H' v s => match s with
  | .un => False
  | .dat d => Rep K mg β ex H' v d
  | .lst l => RL K mg β ex H H' v l
  | .dct l => RM K mg β ex H H' v l
/-- a sequence that is walked -/
def SeqV (K : PySem.W.Frag) (T : Addr → Prop) (H : Hp) (p : Addr) (vs : List V) : Prop := (Rd H p (.lst vs) ∧ T p) ∨ (Rd H p (.tup vs) ∧ T p) ∨ WrL K p vs ∨ WrT K p vs
theorem SeqV.imp {K : PySem.W.Frag} {T T' : Addr → Prop} {H : Hp} {p : Addr} {vs : List V} (h : SeqV K T H p vs) (i : T p → T' p) : SeqV K T' H p vs := by
  rcases h with h | h | h | h
  · exact .inl ⟨h.1, i h.2⟩
  · exact .inr (.inl ⟨h.1, i h.2⟩)
  · exact .inr (.inr (.inl h))
  · exact .inr (.inr (.inr h))
def RQ (K : PySem.W.Frag) (mg : Str → Option Value) : Rel (List D) := fun β ex _ H' v l => ∃ p vs, v = .ref p ∧ vs.length ≤ sizeLine ∧ Reps K mg β ex H' vs l ∧ SeqV K (fun a => a ∉ β) H' p vs
abbrev DE (X : Cx) (e : Expr) (g : Env' → Cm D) : Prop := PE X e (tG X.K X.mg (RD X.K X.mg) g)
abbrev DL (X : Cx) (e : Expr) (g : Env' → Cm (List D)) : Prop := PE X e (tG X.K X.mg (RL X.K X.mg) g)
abbrev DM (X : Cx) (e : Expr) (g : Env' → Cm (List (D × D))) : Prop := PE X e (tG X.K X.mg (RM X.K X.mg) g)
abbrev DV (X : Cx) (e : Expr) (g : Env' → Cm Slot) : Prop := PE X e (tG X.K X.mg (RS X.K X.mg) g)
abbrev DQ (X : Cx) (e : Expr) (g : Env' → Cm (List D)) : Prop := PE X e (tG X.K X.mg (RQ X.K X.mg) g)
def tA' (K : PySem.W.Frag) (mg : Str → Option Value) (g : Env' → Cm (List D)) : TA := fun σ H Q => ∃ β ex os ρ M ds M', Hold K mg β ex H M ∧ Fram K mg β ex os σ H ρ ∧ g ρ M = some (ds, M') ∧
  ∀ vs H' β' ex', After β ex H β' ex' H' → Hold K mg β' ex' H' M' → Reps K mg β' ex' H' vs ds → Q vs H'
abbrev DA (X : Cx) (es : List Expr) (g : Env' → Cm (List D)) : Prop := PA X es (tA' X.K X.mg g)
def tT' (K : PySem.W.Frag) (mg : Str → Option Value) (g : Env' → Cm Bool) : TT := fun σ H Q => ∃ β ex os ρ M b M', Hold K mg β ex H M ∧ Fram K mg β ex os σ H ρ ∧ g ρ M = some (b, M') ∧
  ∀ H' β' ex', After β ex H β' ex' H' → Hold K mg β' ex' H' M' → Q b H'
abbrev DT (X : Cx) (e : Expr) (g : Env' → Cm Bool) : Prop := PT X e (tT' X.K X.mg g)
abbrev DW (X : Cx) (e : Expr) (g : Env' → Cm Bool) : Prop := PW X e (tT' X.K X.mg g)
section
variable {X : Cx} {e : Expr} {pos : Pos}
theorem _root_.L2.PE.imp {t t' : TE} (h : PE X e t) (i : ∀ σ H Q, t' σ H Q → t σ H Q) : PE X e t' := ⟨fun pins s σ H Q I hw => h.run pins s σ H Q I (i σ H Q hw)⟩
theorem _root_.L2.PT.imp {t t' : TT} (h : PT X e t) (i : ∀ σ H Q, t' σ H Q → t σ H Q) : PT X e t' := ⟨fun pins s σ H Q I hw => h.run pins s σ H Q I (i σ H Q hw)⟩
theorem _root_.L2.PW.imp {t t' : TT} (h : PW X e t) (i : ∀ σ H Q, t' σ H Q → t σ H Q) : PW X e t' := ⟨fun w pins s σ H Q I hw => h.run w pins s σ H Q I (i σ H Q hw)⟩
theorem _root_.L2.PA.imp {es : List Expr} {t t' : TA} (h : PA X es t) (i : ∀ σ H Q, t' σ H Q → t σ H Q) : PA X es t' := ⟨fun p pins s σ H Q I hw => h.run p pins s σ H Q I (i σ H Q hw)⟩

/-- one more computation behind one -/
theorem tG.go {K : PySem.W.Frag} {mg : Str → Option Value} {α : Type} {R : Rel α} {g : Env' → Cm α} {β ex : List Addr} {os : List (Option Addr)} {ρ : Env'} {M M' : Stor} {a : α} {σ : L2.St} {H : Hp} {Q : VK} (hd : Hold K mg β ex H M) (fr : Fram K mg β ex os σ H ρ) (hg : g ρ M = some (a, M'))
    (k : ∀ v H' β' ex', After β ex H β' ex' H' → Hold K mg β' ex' H' M' → Fram K mg β' ex' os σ H' ρ → R β' ex' H H' v a → Q v H') : tG K mg R g σ H Q :=
  ⟨β, ex, os, ρ, M, a, M', hd, fr, hg, fun v H' β' ex' af hd' r => k v H' β' ex' af hd' (fr.after hd af) r⟩
theorem tA'.go {K : PySem.W.Frag} {mg : Str → Option Value} {g : Env' → Cm (List D)} {β ex : List Addr} {os : List (Option Addr)} {ρ : Env'} {M M' : Stor} {a : List D} {σ : L2.St} {H : Hp} {Q : List V → Hp → Prop} (hd : Hold K mg β ex H M) (fr : Fram K mg β ex os σ H ρ) (hg : g ρ M = some (a, M'))
    (k : ∀ v H' β' ex', After β ex H β' ex' H' → Hold K mg β' ex' H' M' → Fram K mg β' ex' os σ H' ρ → Reps K mg β' ex' H' v a → Q v H') : tA' K mg g σ H Q :=
  ⟨β, ex, os, ρ, M, a, M', hd, fr, hg, fun v H' β' ex' af hd' r => k v H' β' ex' af hd' (fr.after hd af) r⟩
theorem tT'.go {K : PySem.W.Frag} {mg : Str → Option Value} {g : Env' → Cm Bool} {β ex : List Addr} {os : List (Option Addr)} {ρ : Env'} {M M' : Stor} {a : Bool} {σ : L2.St} {H : Hp} {Q : Bool → Hp → Prop} (hd : Hold K mg β ex H M) (fr : Fram K mg β ex os σ H ρ) (hg : g ρ M = some (a, M'))
    (k : ∀ H' β' ex', After β ex H β' ex' H' → Hold K mg β' ex' H' M' → Fram K mg β' ex' os σ H' ρ → Q a H') : tT' K mg g σ H Q :=
  ⟨β, ex, os, ρ, M, a, M', hd, fr, hg, fun H' β' ex' af hd' => k H' β' ex' af hd' (fr.after hd af)⟩

/-! ### names, constants -/
def gVar (i : Nat) : Env' → Cm D := fun ρ M => match ρ[i]? with
  | some (.dat d) => some (d, M)
  | _ => none
theorem de_var' (i : Nat) (h : PE X e (tVar i)) : DE X e (gVar i) := h.imp fun σ H Q ⟨β, ex, os, ρ, M, a, M', hd, fr, hg, k⟩ => by
  unfold gVar at hg
  split at hg
  · rename_i d hd'
    cases hg
    obtain ⟨_, v, e, r⟩ := fr.sl i _ hd'
    refine ⟨v, ?_, k v H β ex .refl hd r⟩
    cases q : σ[i]? with
    | none => rw [q] at e; cases e
    | some y => rw [q] at e; exact congrArg some e
  · cases hg
theorem dv (i : Nat) {x : Str} {pos : Pos} (hN : X.N[i]? = some x := by rfl) (hv : Vis X.env.scope x := by first | exact Or.inl rfl | exact Or.inr (Or.inl rfl) | exact Or.inr (Or.inr rfl)) (hd : (x == ("__debug__" : Str)) = false := by decide)
    (hcd : (x == ("__classdict__" : Str)) = false := by decide) : DE X (.Name x pos) (gVar i) := de_var' i (pe_var hN hv hd hcd)
def gC (d : D) : Env' → Cm D := fun _ M => some (d, M)
theorem de_const {v : V} {d : D} (h : PE X e (tC v)) (r : ∀ β ex H, Rep X.K X.mg β ex H v d) : DE X e (gC d) := h.imp fun σ H Q ⟨β, ex, os, ρ, M, a, M', hd, fr, hg, k⟩ => by
  cases hg
  exact k v H β ex .refl hd (r β ex H)
theorem de_int {i : Int} {j : Nat} : DE X (.Constant (.int i) j pos) (gC (.int i)) := de_const pe_int fun _ _ _ => .int i
theorem de_bl {b : Bool} {j : Nat} : DE X (.Constant (.bool b) j pos) (gC (.bl b)) := de_const pe_bl fun _ _ _ => .bl b
theorem de_non {j : Nat} : DE X (.Constant .none j pos) (gC .non) := de_const pe_non fun _ _ _ => .non
theorem de_str {x : Str} {j : Nat} : DE X (.Constant (.str x) j pos) (gC (.str x)) := de_const pe_str fun _ _ _ => .str x

/-! ### operators -/
def gBin (f : D → D → Option D) (ga gb : Env' → Cm D) : Env' → Cm D := fun ρ M => bnd (ga ρ M) fun x M1 => bnd (gb ρ M1) fun y M2 => lft (f x y) M2
def gUn (f : D → Option D) (ga : Env' → Cm D) : Env' → Cm D := fun ρ M => bnd (ga ρ M) fun x M1 => lft (f x) M1
/-- an operator's rule over data: nothing but new things are laid -/
def OkR2 (K : PySem.W.Frag) (mg : Str → Option Value) (r : R2) (f : D → D → Option D) : Prop := ∀ (β ex : List Addr) (H : Hp) (M : Stor) (x y : V) (a b d : D) (Q : VK), Hold K mg β ex H M → Rep K mg β ex H x a → Rep K mg β ex H y b → f a b = some d →
  (∀ v H', Grow H H' → Rep K mg β ex H' v d → Q v H') → r x y H Q
theorem tOp_ok {K : PySem.W.Frag} {mg : Str → Option Value} {r : R2} {f : D → D → Option D} (h : OkR2 K mg r f) {ga gb : Env' → Cm D} {σ : L2.St} {H : Hp} {Q : VK} (q : tG K mg (RD K mg) (gBin f ga gb) σ H Q) : tOp r (tG K mg (RD K mg) ga) (tG K mg (RD K mg) gb) σ H Q := by
  obtain ⟨β, ex, os, ρ, M, a, M', hd, fr, hg, k⟩ := q
  obtain ⟨x, M1, e1, hg⟩ := bnd_eq hg
  obtain ⟨y, M2, e2, hg⟩ := bnd_eq hg
  obtain ⟨e3, e4⟩ := lft_eq hg
  refine tG.go hd fr e1 fun v1 H1 β1 ex1 af1 hd1 fr1 r1 => tG.go hd1 fr1 e2 fun v2 H2 β2 ex2 af2 hd2 fr2 r2 => ?_
  refine h β2 ex2 H2 M2 v1 v2 x y a Q hd2 (r1.keep (af2.keep hd1)) r2 e3 fun v H' gr rv => ?_
  refine k v H' β2 ex2 (af1.trans (af2.trans gr.after)) ?_ rv
  rw [show M' = M2 from e4]
  exact hd2.grow gr
variable {a b : Expr} {ga gb : Env' → Cm D}
theorem de_op {op : Operator} {r : R2} {f : D → D → Option D} (ho : OpR X (binaryOp op) r) (h : OkR2 X.K X.mg r f) (ha : DE X a ga) (hb : DE X b gb) : DE X (.BinOp a op b pos) (gBin f ga gb) := (pe_op ho ha hb).imp fun _ _ _ q => tOp_ok h q
theorem de_cmp {op : CmpOp} {r : R2} {f : D → D → Option D} (ho : OpR X (compareOp op) r) (h : OkR2 X.K X.mg r f) (ha : DE X a ga) (hb : DE X b gb) (hm : behindInMarks op b = false) : DE X (.Compare a [op] [b] pos) (gBin f ga gb) := (pe_cmpR ho ha hb hm).imp fun _ _ _ q => tOp_ok h q
theorem de_ix {r : R2} {f : D → D → Option D} (ho : IxR X r) (h : OkR2 X.K X.mg r f) (ha : DE X a ga) (hb : DE X b gb) (hs : PlainIx b) : DE X (.Subscript a b pos) (gBin f ga gb) := (pe_ix ho ha hb hs).imp fun _ _ _ q => tOp_ok h q
theorem de_un {op : UnaryOp} {r : V → Hp → VK → Prop} {f : D → Option D} (ho : UnR X (unaryOp op) r) (h : ∀ β ex H x a d Q, Rep X.K X.mg β ex H x a → f a = some d → (∀ v, Rep X.K X.mg β ex H v d → Q v H) → r x H Q) (ha : DE X a ga) : DE X (.UnaryOp op a pos) (gUn f ga) :=
  (pe_un ho ha).imp fun σ H Q ⟨β, ex, os, ρ, M, a, M', hd, fr, hg, k⟩ => by
    obtain ⟨x, M1, e1, hg⟩ := bnd_eq hg
    obtain ⟨e3, e4⟩ := lft_eq hg
    refine tG.go hd fr e1 fun v1 H1 β1 ex1 af1 hd1 fr1 r1 => ?_
    refine h β1 ex1 H1 v1 x a Q r1 e3 fun v rv => k v H1 β1 ex1 af1 ?_ rv
    rw [show M' = M1 from e4]
    exact hd1

/-! ### tests -/
def gTb (g : Env' → Cm D) : Env' → Cm Bool := fun ρ M => bnd (g ρ M) fun d M1 => match d with
  | .bl b => some (b, M1)
  | _ => none
theorem Rep.bl_inv {K : PySem.W.Frag} {mg : Str → Option Value} {β ex : List Addr} {H : Hp} {v : V} {b : Bool} (r : Rep K mg β ex H v (.bl b)) : v = .bl b := by cases r; rfl
theorem Rep.int_inv {K : PySem.W.Frag} {mg : Str → Option Value} {β ex : List Addr} {H : Hp} {v : V} {b : Int} (r : Rep K mg β ex H v (.int b)) : v = .int b := by cases r; rfl
theorem Rep.str_inv {K : PySem.W.Frag} {mg : Str → Option Value} {β ex : List Addr} {H : Hp} {v : V} {b : Str} (r : Rep K mg β ex H v (.str b)) : v = .str b := by cases r; rfl
theorem Rep.non_inv {K : PySem.W.Frag} {mg : Str → Option Value} {β ex : List Addr} {H : Hp} {v : V} (r : Rep K mg β ex H v .non) : v = .non := by cases r; rfl
theorem tTest_ok {K : PySem.W.Frag} {mg : Str → Option Value} {t : TE} {g : Env' → Cm D} {σ : L2.St} {H : Hp} {Q : Bool → Hp → Prop} (ht : ∀ σ H Q, tG K mg (RD K mg) g σ H Q → t σ H Q) (q : tT' K mg (gTb g) σ H Q) : t σ H fun x H' => ∃ k, x = .bl k ∧ Q k H' := by
  obtain ⟨β, ex, os, ρ, M, b, M', hd, fr, hg, k⟩ := q
  obtain ⟨x, M1, e1, hg⟩ := bnd_eq hg
  refine ht _ _ _ (tG.go hd fr e1 fun v1 H1 β1 ex1 af1 hd1 fr1 r1 => ?_)
  cases x with
  | bl c =>
    cases hg
    exact ⟨b, r1.bl_inv, k H1 β1 ex1 af1 hd1⟩
  | _ => cases hg
theorem dt_cmp {op : CmpOp} {r : R2} {f : D → D → Option D} (ho : OpR X (compareOp op) r) (h : OkR2 X.K X.mg r f) (ha : DE X a ga) (hb : DE X b gb) (hm : behindInMarks op b = false) : DT X (.Compare a [op] [b] pos) (gTb (gBin f ga gb)) :=
  (pt_cmpR ho ha hb hm).imp fun _ _ _ q => tTest_ok (fun _ _ _ q => tOp_ok h q) q
theorem dt_val {g : Env' → Cm D} (h : DE X e g) (he : ∀ whole, isTrue e X.env whole = (do let v ← whole; standAt e.pos; holding [v] (truthy v)) := by intro _; rfl) : DT X e (gTb g) := (pt_val h he).imp fun _ _ _ q => tTest_ok (fun _ _ _ q => q) q
def gAnd (g h : Env' → Cm Bool) : Env' → Cm Bool := fun ρ M => bnd (g ρ M) fun b M1 => if b then h ρ M1 else some (false, M1)
def gOr (g h : Env' → Cm Bool) : Env' → Cm Bool := fun ρ M => bnd (g ρ M) fun b M1 => if b then some (true, M1) else h ρ M1
def gNot (g : Env' → Cm Bool) : Env' → Cm Bool := fun ρ M => bnd (g ρ M) fun b M1 => some (!b, M1)
variable {rest : List Expr} {g h : Env' → Cm Bool}
theorem dw_and1 (ha : DT X a g) : DW X (.BoolOp .And [a] pos) g := pw_and1 ha
theorem dw_or1 (ha : DT X a g) : DW X (.BoolOp .Or [a] pos) g := pw_or1 ha
theorem dw_and (ha : DT X a g) (hb : DW X (.BoolOp .And (b :: rest) pos) h) : DW X (.BoolOp .And (a :: b :: rest) pos) (gAnd g h) := (pw_and ha hb).imp fun σ H Q ⟨β, ex, os, ρ, M, c, M', hd, fr, hg, k⟩ => by
  obtain ⟨x, M1, e1, hg⟩ := bnd_eq hg
  refine tT'.go hd fr e1 fun H1 β1 ex1 af1 hd1 fr1 => ?_
  cases x with
  | true => exact iteT ⟨β1, ex1, os, ρ, M1, c, M', hd1, fr1, hg, fun H' β' ex' af hd' => k H' β' ex' (af1.trans af) hd'⟩
  | false =>
    cases hg
    exact iteF (k H1 β1 ex1 af1 hd1)
theorem dw_or (ha : DT X a g) (hb : DW X (.BoolOp .Or (b :: rest) pos) h) : DW X (.BoolOp .Or (a :: b :: rest) pos) (gOr g h) := (pw_or ha hb).imp fun σ H Q ⟨β, ex, os, ρ, M, c, M', hd, fr, hg, k⟩ => by
  obtain ⟨x, M1, e1, hg⟩ := bnd_eq hg
  refine tT'.go hd fr e1 fun H1 β1 ex1 af1 hd1 fr1 => ?_
  cases x with
  | false => exact iteF ⟨β1, ex1, os, ρ, M1, c, M', hd1, fr1, hg, fun H' β' ex' af hd' => k H' β' ex' (af1.trans af) hd'⟩
  | true =>
    cases hg
    exact iteT (k H1 β1 ex1 af1 hd1)
theorem dt_not (ha : DT X a g) : DT X (.UnaryOp .Not a pos) (gNot g) := (pt_not ha).imp fun σ H Q ⟨β, ex, os, ρ, M, c, M', hd, fr, hg, k⟩ => by
  obtain ⟨x, M1, e1, hg⟩ := bnd_eq hg
  cases hg
  exact tT'.go hd fr e1 fun H1 β1 ex1 af1 hd1 fr1 => k H1 β1 ex1 af1 hd1
/-- as values -/
def gAndV (ga gb : Env' → Cm D) : Env' → Cm D := fun ρ M => bnd (ga ρ M) fun d M1 => match d with
  | .bl true => gb ρ M1
  | .bl false => some (.bl false, M1)
  | _ => none
def gOrV (ga gb : Env' → Cm D) : Env' → Cm D := fun ρ M => bnd (ga ρ M) fun d M1 => match d with
  | .bl false => gb ρ M1
  | .bl true => some (.bl true, M1)
  | _ => none
def gNotV (ga : Env' → Cm D) : Env' → Cm D := fun ρ M => bnd (ga ρ M) fun d M1 => match d with
  | .bl b => some (.bl (!b), M1)
  | _ => none
theorem de_one {op} (h : DE X a ga) : DE X (.BoolOp op [a] pos) ga := pe_one h
theorem de_and (ha : DE X a ga) (hb : DE X (.BoolOp .And (b :: rest) pos) gb) : DE X (.BoolOp .And (a :: b :: rest) pos) (gAndV ga gb) := (pe_and ha hb).imp fun σ H Q ⟨β, ex, os, ρ, M, c, M', hd, fr, hg, k⟩ => by
  obtain ⟨x, M1, e1, hg⟩ := bnd_eq hg
  refine tG.go hd fr e1 fun v1 H1 β1 ex1 af1 hd1 fr1 r1 => ?_
  cases x with
  | bl c' =>
    refine ⟨c', r1.bl_inv, ?_⟩
    cases c' with
    | true => exact iteT ⟨β1, ex1, os, ρ, M1, c, M', hd1, fr1, hg, fun v H' β' ex' af hd' r => k v H' β' ex' (af1.trans af) hd' r⟩
    | false =>
      cases hg
      exact iteF (k _ H1 β1 ex1 af1 hd1 (.bl false))
  | _ => cases hg
theorem de_or (ha : DE X a ga) (hb : DE X (.BoolOp .Or (b :: rest) pos) gb) : DE X (.BoolOp .Or (a :: b :: rest) pos) (gOrV ga gb) := (pe_or ha hb).imp fun σ H Q ⟨β, ex, os, ρ, M, c, M', hd, fr, hg, k⟩ => by
  obtain ⟨x, M1, e1, hg⟩ := bnd_eq hg
  refine tG.go hd fr e1 fun v1 H1 β1 ex1 af1 hd1 fr1 r1 => ?_
  cases x with
  | bl c' =>
    refine ⟨c', r1.bl_inv, ?_⟩
    cases c' with
    | false => exact iteF ⟨β1, ex1, os, ρ, M1, c, M', hd1, fr1, hg, fun v H' β' ex' af hd' r => k v H' β' ex' (af1.trans af) hd' r⟩
    | true =>
      cases hg
      exact iteT (k _ H1 β1 ex1 af1 hd1 (.bl true))
  | _ => cases hg
theorem de_not (ha : DE X a ga) : DE X (.UnaryOp .Not a pos) (gNotV ga) := (pe_not ha).imp fun σ H Q ⟨β, ex, os, ρ, M, c, M', hd, fr, hg, k⟩ => by
  obtain ⟨x, M1, e1, hg⟩ := bnd_eq hg
  refine tG.go hd fr e1 fun v1 H1 β1 ex1 af1 hd1 fr1 r1 => ?_
  cases x with
  | bl c' =>
    cases hg
    exact ⟨c', r1.bl_inv, k _ H1 β1 ex1 af1 hd1 (.bl _)⟩
  | _ => cases hg
def gIf {α : Type} (g : Env' → Cm Bool) (ga gb : Env' → Cm α) : Env' → Cm α := fun ρ M => bnd (g ρ M) fun b M1 => if b then ga ρ M1 else gb ρ M1
theorem tIf_ok {K : PySem.W.Frag} {mg : Str → Option Value} {α : Type} {R : Rel α} (hR : ∀ β ex H H1 H2 v a, (∀ x, H1 x = none → H x = none) → R β ex H1 H2 v a → R β ex H H2 v a) {g : Env' → Cm Bool} {ga gb : Env' → Cm α} {σ : L2.St} {H : Hp} {Q : VK} (q : tG K mg R (gIf g ga gb) σ H Q) : tIf (tT' K mg g) (tG K mg R ga) (tG K mg R gb) σ H Q := by
  obtain ⟨β, ex, os, ρ, M, c, M', hd, fr, hg, k⟩ := q
  obtain ⟨x, M1, e1, hg⟩ := bnd_eq hg
  refine tT'.go hd fr e1 fun H1 β1 ex1 af1 hd1 fr1 => ?_
  cases x with
  | true => exact iteT ⟨β1, ex1, os, ρ, M1, c, M', hd1, fr1, hg, fun v H' β' ex' af hd' r => k v H' β' ex' (af1.trans af) hd' (hR _ _ _ _ _ _ _ af1.dom r)⟩
  | false => exact iteF ⟨β1, ex1, os, ρ, M1, c, M', hd1, fr1, hg, fun v H' β' ex' af hd' r => k v H' β' ex' (af1.trans af) hd' (hR _ _ _ _ _ _ _ af1.dom r)⟩
theorem RL.back {K : PySem.W.Frag} {mg : Str → Option Value} (β ex : List Addr) (H H1 H2 : Hp) (v : V) (l : List D) (h : ∀ x, H1 x = none → H x = none) (r : RL K mg β ex H1 H2 v l) : RL K mg β ex H H2 v l := by
  obtain ⟨p, e, n, r⟩ := r
  exact ⟨p, e, h p n, r⟩
theorem RM.back {K : PySem.W.Frag} {mg : Str → Option Value} (β ex : List Addr) (H H1 H2 : Hp) (v : V) (l : List (D × D)) (h : ∀ x, H1 x = none → H x = none) (r : RM K mg β ex H1 H2 v l) : RM K mg β ex H H2 v l := by
  obtain ⟨p, e, n, r⟩ := r
  exact ⟨p, e, h p n, r⟩
theorem RS.back {K : PySem.W.Frag} {mg : Str → Option Value} (β ex : List Addr) (H H1 H2 : Hp) (v : V) : ∀ (s : Slot) (h : ∀ x, H1 x = none → H x = none) (r : RS K mg β ex H1 H2 v s), RS K mg β ex H H2 v s
  | .un, _, r => r
  | .dat _, _, r => r
  | .lst _, h, r => RL.back _ _ _ _ _ _ _ h r
  | .dct _, h, r => RM.back _ _ _ _ _ _ _ h r
theorem de_if {c : Expr} (hc : DT X c g) (ha : DE X a ga) (hb : DE X b gb) : DE X (.IfExp c a b pos) (gIf g ga gb) := (pe_ifExp hc ha hb).imp fun _ _ _ q => tIf_ok (fun _ _ _ _ _ _ _ _ r => r) q
theorem dl_if {c : Expr} {ga gb : Env' → Cm (List D)} (hc : DT X c g) (ha : DL X a ga) (hb : DL X b gb) : DL X (.IfExp c a b pos) (gIf g ga gb) := (pe_ifExp hc ha hb).imp fun _ _ _ q => tIf_ok RL.back q

/-! ### kinds of values -/
/-- a new list is kept as data -/
def gFz (g : Env' → Cm (List D)) : Env' → Cm D := fun ρ M => bnd (g ρ M) fun l M1 => some (.lst l, M1)
theorem Hold.less {K : PySem.W.Frag} {mg : Str → Option Value} {β ex ex' : List Addr} {H : Hp} {M : Stor} (hd : Hold K mg β ex H M) (hs : ∀ a ∈ ex', a ∈ ex) (hb : ∀ a ∈ β, a ∈ ex') : Hold K mg β ex' H M :=
  ⟨hd.len, hd.nd, hb, fun a h => hd.live a (hs a h), fun i a o h1 h2 => (hd.objs i a o h1 h2).keep ⟨fun _ _ h => h, fun a o h n => ⟨h, fun z => n (hs a z)⟩⟩ fun _ h => h⟩
/-- a thing of one's own is let go: it is data from here on -/
theorem freeze {K : PySem.W.Frag} {mg : Str → Option Value} {β ex ex0 : List Addr} {H0 H : Hp} {β0 : List Addr} {M : Stor} {p : Addr} (af : After β0 ex0 H0 β ex H) (hd : Hold K mg β ex H M) (hp : H0 p = none) (hn : p ∉ β) (lv : ∀ a ∈ ex0, H0 a ≠ none) :
    After β0 ex0 H0 β (ex.filter fun a => decide (a ≠ p)) H ∧ Hold K mg β (ex.filter fun a => decide (a ≠ p)) H M ∧ Keep β ex H β (ex.filter fun a => decide (a ≠ p)) H ∧ p ∉ ex.filter fun a => decide (a ≠ p) := by
  have hs : ∀ a ∈ ex.filter fun a => decide (a ≠ p), a ∈ ex := fun a h => (List.mem_filter.mp h).1
  refine ⟨⟨af.pre, fun a h => List.mem_filter.mpr ⟨af.up a h, decide_eq_true fun e => ?_⟩, fun a h => af.nw a (hs a h), af.same, af.dom⟩, hd.less hs fun a h => List.mem_filter.mpr ⟨hd.sub a h, decide_eq_true fun e => hn (e ▸ h)⟩, ⟨fun _ _ h => h, fun a o h n => ⟨h, fun z => n (hs a z)⟩⟩, fun h => ?_⟩
  · rw [e] at h
    exact lv p h hp
  · exact of_decide_eq_true (List.mem_filter.mp h).2 rfl
theorem de_fz {g : Env' → Cm (List D)} (h : DL X e g) : DE X e (gFz g) := h.imp fun σ H Q ⟨β, ex, os, ρ, M, c, M', hd, fr, hg, k⟩ => by
  obtain ⟨x, M1, e1, hg⟩ := bnd_eq hg
  cases hg
  refine tG.go hd fr e1 fun v1 H1 β1 ex1 af1 hd1 fr1 ⟨p, ep, hp, hx, hn, vs, hv, hz, rs⟩ => ?_
  obtain ⟨q1, q2, q3, q4⟩ := freeze af1 hd1 hp hn hd.live
  subst ep
  exact k _ H1 β1 _ q1 q2 (.lst hv q4 hz (rs.keep q3))
def gFzM (g : Env' → Cm (List (D × D))) : Env' → Cm D := fun ρ M => bnd (g ρ M) fun l M1 => some (.dct l, M1)
theorem de_fzM {g : Env' → Cm (List (D × D))} (h : DM X e g) : DE X e (gFzM g) := h.imp fun σ H Q ⟨β, ex, os, ρ, M, c, M', hd, fr, hg, k⟩ => by
  obtain ⟨x, M1, e1, hg⟩ := bnd_eq hg
  cases hg
  refine tG.go hd fr e1 fun v1 H1 β1 ex1 af1 hd1 fr1 ⟨p, ep, hp, hx, hn, ob⟩ => ?_
  obtain ⟨q1, q2, q3, q4⟩ := freeze af1 hd1 hp hn hd.live
  subst ep
  rcases ob with ⟨kvs, hv, hz, rs⟩ | ⟨kvs, hv, hz, rs⟩
  · exact k _ H1 β1 _ q1 q2 (.dctK (.inl hv) q4 hz (rs.keep q3))
  · exact k _ H1 β1 _ q1 q2 (.dctT (.inl hv) q4 hz (rs.keep q3))
def gSd (g : Env' → Cm D) : Env' → Cm Slot := fun ρ M => bnd (g ρ M) fun d M1 => some (.dat d, M1)
def gSl (g : Env' → Cm (List D)) : Env' → Cm Slot := fun ρ M => bnd (g ρ M) fun d M1 => some (.lst d, M1)
def gSm (g : Env' → Cm (List (D × D))) : Env' → Cm Slot := fun ρ M => bnd (g ρ M) fun d M1 => some (.dct d, M1)
theorem dv_d {g : Env' → Cm D} (h : DE X e g) : DV X e (gSd g) := h.imp fun σ H Q ⟨β, ex, os, ρ, M, c, M', hd, fr, hg, k⟩ => by
  obtain ⟨x, M1, e1, hg⟩ := bnd_eq hg
  cases hg
  exact tG.go hd fr e1 fun v1 H1 β1 ex1 af1 hd1 fr1 r => k _ _ _ _ af1 hd1 r
theorem dv_l {g : Env' → Cm (List D)} (h : DL X e g) : DV X e (gSl g) := h.imp fun σ H Q ⟨β, ex, os, ρ, M, c, M', hd, fr, hg, k⟩ => by
  obtain ⟨x, M1, e1, hg⟩ := bnd_eq hg
  cases hg
  exact tG.go hd fr e1 fun v1 H1 β1 ex1 af1 hd1 fr1 r => k _ _ _ _ af1 hd1 r
theorem dv_m {g : Env' → Cm (List (D × D))} (h : DM X e g) : DV X e (gSm g) := h.imp fun σ H Q ⟨β, ex, os, ρ, M, c, M', hd, fr, hg, k⟩ => by
  obtain ⟨x, M1, e1, hg⟩ := bnd_eq hg
  cases hg
  exact tG.go hd fr e1 fun v1 H1 β1 ex1 af1 hd1 fr1 r => k _ _ _ _ af1 hd1 r
/-- what is walked: data, a new list, a list of one's own -/
def seqD : D → Option (List D)
  | .tup l => some l
  | .lst l => some l
  | .scr l => some l
  | _ => none
def gQd (g : Env' → Cm D) : Env' → Cm (List D) := fun ρ M => bnd (g ρ M) fun d M1 => lft (seqD d) M1
theorem Rep.seqV {K : PySem.W.Frag} {mg : Str → Option Value} {β ex : List Addr} {H : Hp} {v : V} {d : D} {l : List D} (r : Rep K mg β ex H v d) (h : seqD d = some l) : ∃ p vs, v = .ref p ∧ vs.length ≤ sizeLine ∧ Reps K mg β ex H vs l ∧ SeqV K (fun a => a ∉ ex) H p vs := by
  cases r with
  | tup q z rs =>
    cases h
    exact ⟨_, _, rfl, z, rs, q.elim (fun q => .inr (.inl ⟨.inl q.1, q.2⟩)) fun q => .inr (.inr (.inr q))⟩
  | lst q n z rs =>
    cases h
    exact ⟨_, _, rfl, z, rs, .inl ⟨.inl q, n⟩⟩
  | scr q z rs =>
    cases h
    exact ⟨_, _, rfl, z, rs, q.elim (fun q => .inl q) fun q => .inr (.inr (.inl q))⟩
  | _ => cases h
theorem Rep.seq {K : PySem.W.Frag} {mg : Str → Option Value} {β ex : List Addr} {H : Hp} {v : V} {d : D} {l : List D} (hb : ∀ a ∈ β, a ∈ ex) (r : Rep K mg β ex H v d) (h : seqD d = some l) : RQ K mg β ex H H v l := by
  obtain ⟨p, vs, e, z, rs, sv⟩ := r.seqV h
  exact ⟨p, vs, e, z, rs, sv.imp fun n q => n (hb _ q)⟩
theorem dq_d {g : Env' → Cm D} (h : DE X e g) : DQ X e (gQd g) := h.imp fun σ H Q ⟨β, ex, os, ρ, M, c, M', hd, fr, hg, k⟩ => by
  obtain ⟨x, M1, e1, hg⟩ := bnd_eq hg
  obtain ⟨e3, e4⟩ := lft_eq hg
  refine tG.go hd fr e1 fun v1 H1 β1 ex1 af1 hd1 fr1 r => k _ _ _ _ af1 ?_ (r.seq hd1.sub e3)
  rw [show M' = M1 from e4]
  exact hd1
theorem dq_l {g : Env' → Cm (List D)} (h : DL X e g) : DQ X e g := h.imp fun σ H Q ⟨β, ex, os, ρ, M, c, M', hd, fr, hg, k⟩ =>
  tG.go hd fr hg fun v1 H1 β1 ex1 af1 hd1 fr1 ⟨p, ep, hp, hx, hn, vs, hv, hz, rs⟩ => k _ _ _ _ af1 hd1 ⟨p, vs, ep, hz, rs, .inl ⟨.inl hv, hn⟩⟩
def gOwn (i : Nat) : Env' → Cm (List D) := fun ρ M => match ρ[i]? with
  | some (.lst l) => some (l, M)
  | _ => none
theorem dq_own' (i : Nat) (h : PE X e (tVar i)) : DQ X e (gOwn i) := h.imp fun σ H Q ⟨β, ex, os, ρ, M, a, M', hd, fr, hg, k⟩ => by
  unfold gOwn at hg
  split at hg
  · rename_i l hl
    cases hg
    obtain ⟨p, e1, e2, vs, hv, hz, rs⟩ := fr.sl i _ hl
    have eo : os[i]? = some (some p) := by
      cases q : os[i]? with
      | none => rw [q] at e1; cases e1
      | some y => rw [q] at e1; exact congrArg some e1
    refine ⟨.ref p, ?_, k _ H β ex .refl hd ⟨p, vs, rfl, hz, rs, .inl ⟨.inl hv, (fr.ow i p eo).2⟩⟩⟩
    cases q : σ[i]? with
    | none => rw [q] at e2; cases e2
    | some y => rw [q] at e2; exact congrArg some e2
  · cases hg
theorem dq_own (i : Nat) {x : Str} {pos : Pos} (hN : X.N[i]? = some x := by rfl) (hv : Vis X.env.scope x := by first | exact Or.inl rfl | exact Or.inr (Or.inl rfl) | exact Or.inr (Or.inr rfl)) (hd : (x == ("__debug__" : Str)) = false := by decide)
    (hcd : (x == ("__classdict__" : Str)) = false := by decide) : DQ X (.Name x pos) (gOwn i) := dq_own' i (pe_var hN hv hd hcd)

/-! ### lists of expressions, displays -/
def gNil : Env' → Cm (List D) := fun _ M => some ([], M)
def gCons (ga : Env' → Cm D) (gr : Env' → Cm (List D)) : Env' → Cm (List D) := fun ρ M => bnd (ga ρ M) fun x M1 => bnd (gr ρ M1) fun l M2 => some (x :: l, M2)
variable {es : List Expr} {gl : Env' → Cm (List D)}
theorem da_nil : DA X [] gNil := pa_nil.imp fun σ H Q ⟨β, ex, os, ρ, M, a, M', hd, fr, hg, k⟩ => by
  cases hg
  exact k _ _ _ _ .refl hd .nil
theorem da_cons (ha : DE X a ga) (hr : DA X es gl) (hs : starEach (a :: es) X.env = (false, eval a X.env) :: starEach es X.env := by rfl) : DA X (a :: es) (gCons ga gl) := (pa_cons ha hr hs).imp fun σ H Q ⟨β, ex, os, ρ, M, c, M', hd, fr, hg, k⟩ => by
  obtain ⟨x, M1, e1, hg⟩ := bnd_eq hg
  obtain ⟨l, M2, e2, hg⟩ := bnd_eq hg
  cases hg
  refine tG.go hd fr e1 fun v1 H1 β1 ex1 af1 hd1 fr1 r1 => tA'.go hd1 fr1 e2 fun v2 H2 β2 ex2 af2 hd2 fr2 r2 => ?_
  exact k _ _ _ _ (af1.trans af2) hd2 (.cons (r1.keep (af2.keep hd1)) r2)
def gTup (gl : Env' → Cm (List D)) : Env' → Cm D := fun ρ M => bnd (gl ρ M) fun l M1 => if l.length ≤ lim then some (.tup l, M1) else none
theorem live_new {K : PySem.W.Frag} {mg : Str → Option Value} {β ex : List Addr} {H : Hp} {M : Stor} {p : Addr} (hd : Hold K mg β ex H M) (hp : H p = none) : p ∉ ex := fun h => hd.live p h hp
theorem Hold.nb {K : PySem.W.Frag} {mg : Str → Option Value} {β ex : List Addr} {H : Hp} {M : Stor} {p : Addr} (hd : Hold K mg β ex H M) (hp : H p = none) : p ∉ β := fun h => live_new hd hp (hd.sub p h)
theorem de_tup {n : Nat} (ha : DA X es gl) : DE X (.Tuple es n pos) (gTup gl) := (pe_tup ha).imp fun σ H Q ⟨β, ex, os, ρ, M, c, M', hd, fr, hg, k⟩ => by
  obtain ⟨x, M1, e1, hg⟩ := bnd_eq hg
  split at hg
  · rename_i hl
    cases hg
    refine tA'.go hd fr e1 fun vs H1 β1 ex1 af1 hd1 fr1 r1 => ?_
    have hz : vs.length ≤ sizeLine := by rw [r1.length]; exact Nat.le_of_lt (lim_ok hl)
    refine ⟨hz, fun p hp => ?_⟩
    have gr : Grow H1 (upd H1 p (.tup vs)) := Grow.new hp
    exact k _ _ _ _ (af1.trans gr.after) (hd1.grow gr) (.tup (.inl ⟨upd_same, live_new hd1 hp⟩) hz (r1.keep gr.keep))
  · cases hg
/-- a list laid at p is one's own -/
theorem own_new {K : PySem.W.Frag} {mg : Str → Option Value} {β ex : List Addr} {H H0 : Hp} {M : Stor} {p : Addr} {vs : List V} {l : List D} (h0 : ∀ x, H x = none → H0 x = none) (hd : Hold K mg β ex H M) (hp : H p = none) (hz : vs.length ≤ sizeLine) (r : Reps K mg β ex H vs l) :
    After β ex H β (p :: ex) (upd H p (.lst vs)) ∧ Hold K mg β (p :: ex) (upd H p (.lst vs)) M ∧ RL K mg β (p :: ex) H0 (upd H p (.lst vs)) (.ref p) l := by
  have gr : Grow H (upd H p (.lst vs)) := Grow.new hp
  have kp : Keep β ex H β (p :: ex) (upd H p (.lst vs)) := ⟨fun _ _ h => h, fun a o h n => ⟨gr a o h, fun z => by
    rcases List.mem_cons.mp z with z | z
    · rw [z, hp] at h; cases h
    · exact n z⟩⟩
  refine ⟨⟨⟨[], by simp, by simp⟩, fun a h => List.mem_cons_of_mem _ h, fun a h => ?_, fun a o h _ => gr a o h, fun a h => gr.dom h⟩, ⟨hd.len, hd.nd, fun a h => List.mem_cons_of_mem _ (hd.sub a h), fun a h => ?_, fun i a o h1 h2 => (hd.objs i a o h1 h2).keep kp (gr a)⟩,
    ⟨p, rfl, h0 p hp, List.mem_cons_self .., hd.nb hp, vs, upd_same, hz, r.keep kp⟩⟩
  · rcases List.mem_cons.mp h with h | h
    · rw [h]; exact .inr hp
    · exact .inl h
  · rcases List.mem_cons.mp h with h | h
    · rw [h, upd_same]; simp
    · exact fun e => hd.live a h (gr.dom e)
def gLst (gl : Env' → Cm (List D)) : Env' → Cm (List D) := fun ρ M => bnd (gl ρ M) fun l M1 => if l.length ≤ lim then some (l, M1) else none
theorem dl_lst (ha : DA X es gl) : DL X (.List es pos) (gLst gl) := (pe_lst ha).imp fun σ H Q ⟨β, ex, os, ρ, M, c, M', hd, fr, hg, k⟩ => by
  obtain ⟨x, M1, e1, hg⟩ := bnd_eq hg
  split at hg
  · rename_i hl
    cases hg
    refine tA'.go hd fr e1 fun vs H1 β1 ex1 af1 hd1 fr1 r1 => ?_
    have hz : vs.length ≤ sizeLine := by rw [r1.length]; exact Nat.le_of_lt (lim_ok hl)
    refine ⟨hz, fun p hp => ?_⟩
    obtain ⟨q1, q2, q3⟩ := own_new (H0 := H) af1.dom hd1 hp hz r1
    exact k _ _ _ _ (af1.trans q1) q2 q3
  · cases hg
end
end Py
/-! statements, loops, calls over plain data -/
namespace Py
open PySem PySem.Spec PyProof.Rows L2

inductive Fl where
  | nx | bk | ct | rt (d : D)
abbrev GS := Env' → Cm (Fl × Env')
def EndR (K : PySem.W.Frag) (mg : Str → Option Value) (D : Ends) (σ : L2.St) (H : Hp) (β ex : List Addr) : Fl → Prop
  | .nx => D.nx σ H
  | .bk => D.bk σ H
  | .ct => D.ct σ H
  | .rt d => ∀ v, Rep K mg β ex H v d → D.rt v H
/-- a statement that does what g does -/
def tS' (K : PySem.W.Frag) (mg : Str → Option Value) (g : GS) : TS := fun D σ H => ∃ β ex os ρ M fl ρ' M', Hold K mg β ex H M ∧ Fram K mg β ex os σ H ρ ∧ g ρ M = some ((fl, ρ'), M') ∧
  ∀ σ' H' β' ex' os', AfterS β ex os H β' ex' os' H' → Hold K mg β' ex' H' M' → Fram K mg β' ex' os' σ' H' ρ' →
    match fl with
    | .nx => D.nx σ' H'
    | .bk => D.bk σ' H'
    | .ct => D.ct σ' H'
    | .rt d => ∀ v, Rep K mg β' ex' H' v d → D.rt v H'
abbrev DS (X : Cx) (st : Stmt) (g : GS) : Prop := PS X st (tS' X.K X.mg g)
abbrev DSs (X : Cx) (st : List Stmt) (g : GS) : Prop := PSs X st (tS' X.K X.mg g)
theorem _root_.L2.PS.imp {X : Cx} {e : Stmt} {t t' : TS} (h : PS X e t) (i : ∀ D σ H, t' D σ H → t D σ H) : PS X e t' := ⟨fun pins s σ H D I hw => h.run pins s σ H D I (i D σ H hw)⟩
theorem _root_.L2.PSs.imp {X : Cx} {e : List Stmt} {t t' : TS} (h : PSs X e t) (i : ∀ D σ H, t' D σ H → t D σ H) : PSs X e t' := ⟨fun pins s σ H D I hw => h.run pins s σ H D I (i D σ H hw)⟩
/-- what follows a statement's end, as a statement about it -/
def Fin (K : PySem.W.Frag) (mg : Str → Option Value) (β ex : List Addr) (os : List (Option Addr)) (H : Hp) (fl : Fl) (ρ' : Env') (M' : Stor) (D : Ends) : Prop := ∀ σ' H' β' ex' os', AfterS β ex os H β' ex' os' H' → Hold K mg β' ex' H' M' → Fram K mg β' ex' os' σ' H' ρ' →
    match fl with
    | .nx => D.nx σ' H'
    | .bk => D.bk σ' H'
    | .ct => D.ct σ' H'
    | .rt d => ∀ v, Rep K mg β' ex' H' v d → D.rt v H'
theorem Fin.from {K : PySem.W.Frag} {mg : Str → Option Value} {β ex β' ex' : List Addr} {os os' : List (Option Addr)} {H H' : Hp} {fl : Fl} {ρ' : Env'} {M M' : Stor} {D : Ends} (f : Fin K mg β ex os H fl ρ' M' D) (hd : Hold K mg β ex H M) (a : AfterS β ex os H β' ex' os' H') : Fin K mg β' ex' os' H' fl ρ' M' D := fun σ' H'' β'' ex'' os'' b hd' fr' => f σ' H'' β'' ex'' os'' (a.trans b hd.live) hd' fr'
section
variable {X : Cx} {st : Stmt} {rest : List Stmt} {pos : Pos} {g h : GS} {e : Expr}
def gPass : GS := fun ρ M => some ((.nx, ρ), M)
theorem dss_nil : DSs X [] gPass := pss_nil.imp fun D σ H ⟨β, ex, os, ρ, M, fl, ρ', M', hd, fr, hg, k⟩ => by
  cases hg
  exact k _ _ _ _ _ .refl hd fr
def gSeq (g h : GS) : GS := fun ρ M => bnd (g ρ M) fun r M1 => match r.1 with
  | .nx => h r.2 M1
  | f => some ((f, r.2), M1)
theorem dss_cons (h1 : DS X st g) (h2 : DSs X rest h) : DSs X (st :: rest) (gSeq g h) := (pss_cons h1 h2).imp fun D σ H ⟨β, ex, os, ρ, M, fl, ρ', M', hd, fr, hg, k⟩ => by
  obtain ⟨⟨f1, ρ1⟩, M1, e1, hg⟩ := bnd_eq hg
  refine ⟨β, ex, os, ρ, M, f1, ρ1, M1, hd, fr, e1, fun σ1 H1 β1 ex1 os1 af1 hd1 fr1 => ?_⟩
  cases f1 with
  | nx => exact ⟨β1, ex1, os1, ρ1, M1, fl, ρ', M', hd1, fr1, hg, Fin.from (D := D) k hd af1⟩
  | bk => cases hg; exact k _ _ _ _ _ af1 hd1 fr1
  | ct => cases hg; exact k _ _ _ _ _ af1 hd1 fr1
  | rt d => cases hg; exact k _ _ _ _ _ af1 hd1 fr1
theorem dss_one (h1 : DS X st g) : DSs X [st] g := pss_one h1
theorem ds_pass : DS X (.Pass pos) gPass := ps_pass.imp fun D σ H ⟨β, ex, os, ρ, M, fl, ρ', M', hd, fr, hg, k⟩ => by
  cases hg
  exact k _ _ _ _ _ .refl hd fr
def gBreak : GS := fun ρ M => some ((.bk, ρ), M)
theorem ds_break : DS X (.Break pos) gBreak := ps_break.imp fun D σ H ⟨β, ex, os, ρ, M, fl, ρ', M', hd, fr, hg, k⟩ => by
  cases hg
  exact k _ _ _ _ _ .refl hd fr
def gCont : GS := fun ρ M => some ((.ct, ρ), M)
theorem ds_cont : DS X (.Continue pos) gCont := ps_continue.imp fun D σ H ⟨β, ex, os, ρ, M, fl, ρ', M', hd, fr, hg, k⟩ => by
  cases hg
  exact k _ _ _ _ _ .refl hd fr
/-- never reached -/
def gNever : GS := fun _ _ => none
theorem ds_never : DS X st gNever := ps_never.imp fun D σ H ⟨β, ex, os, ρ, M, fl, ρ', M', hd, fr, hg, k⟩ => by cases hg
theorem dss_never : DSs X rest gNever := pss_never.imp fun D σ H ⟨β, ex, os, ρ, M, fl, ρ', M', hd, fr, hg, k⟩ => by cases hg
def gDrop (g : Env' → Cm D) : GS := fun ρ M => bnd (g ρ M) fun _ M1 => some ((.nx, ρ), M1)
theorem ds_expr {g : Env' → Cm D} (h : DE X e g) (hs : swapsWith e none pos.line X.env = pure false := by rfl) : DS X (.Expr e pos) (gDrop g) := (ps_expr h hs).imp fun D σ H ⟨β, ex, os, ρ, M, fl, ρ', M', hd, fr, hg, k⟩ => by
  obtain ⟨x, M1, e1, hg⟩ := bnd_eq hg
  cases hg
  exact tG.go hd fr e1 fun v1 H1 β1 ex1 af1 hd1 fr1 r1 => k _ _ _ _ _ af1.toS hd1 fr1
def gRet (g : Env' → Cm D) : GS := fun ρ M => bnd (g ρ M) fun d M1 => some ((.rt d, ρ), M1)
theorem ds_ret {g : Env' → Cm D} (h : DE X e g) : DS X (.Return (some e) pos) (gRet g) := (ps_ret h).imp fun D σ H ⟨β, ex, os, ρ, M, fl, ρ', M', hd, fr, hg, k⟩ => by
  obtain ⟨x, M1, e1, hg⟩ := bnd_eq hg
  cases hg
  exact tG.go hd fr e1 fun v1 H1 β1 ex1 af1 hd1 fr1 r1 => k σ H1 _ _ _ af1.toS hd1 fr1 v1 r1
def gRetN : GS := fun ρ M => some ((.rt .non, ρ), M)
theorem ds_retN : DS X (.Return none pos) gRetN := ps_retN.imp fun D σ H ⟨β, ex, os, ρ, M, fl, ρ', M', hd, fr, hg, k⟩ => by
  cases hg
  exact k σ _ _ _ _ .refl hd fr _ .non
def gIfS (c : Env' → Cm Bool) (g h : GS) : GS := fun ρ M => bnd (c ρ M) fun b M1 => if b then g ρ M1 else h ρ M1
theorem ds_if {c : Expr} {a b : List Stmt} {gc : Env' → Cm Bool} (hc : DT X c gc) (ha : DSs X a g) (hb : DSs X b h) : DS X (.If c a b pos) (gIfS gc g h) := (ps_if hc ha hb).imp fun D σ H ⟨β, ex, os, ρ, M, fl, ρ', M', hd, fr, hg, k⟩ => by
  obtain ⟨x, M1, e1, hg⟩ := bnd_eq hg
  refine tT'.go hd fr e1 fun H1 β1 ex1 af1 hd1 fr1 => ?_
  cases x with
  | true => exact iteT ⟨β1, ex1, os, ρ, M1, fl, ρ', M', hd1, fr1, hg, Fin.from (D := D) k hd af1.toS⟩
  | false => exact iteF ⟨β1, ex1, os, ρ, M1, fl, ρ', M', hd1, fr1, hg, Fin.from (D := D) k hd af1.toS⟩

/-! ### a slot is stored -/
/-- where the old thing of the slot goes: it is let go -/
theorem Fram.store {K : PySem.W.Frag} {mg : Str → Option Value} {β ex : List Addr} {os : List (Option Addr)} {σ : L2.St} {H H0 : Hp} {ρ : Env'} {M : Stor} {i : Nat} {v : V} {s : Slot} (hi : i < ρ.length) (hd : Hold K mg β ex H M) (fr : Fram K mg β ex os σ H ρ) (lv : ∀ (j : Nat) (a : Addr), os[j]? = some (some a) → H0 a ≠ none) (r : RS K mg β ex H0 H v s) :
    ∃ os', Fram K mg β ex os' (σ.set i (some v)) H (ρ.set i s) ∧ (∀ a, some a ∈ os' → some a ∈ os ∨ H0 a = none) := by
  have set1 : ∀ {α : Type} (l : List α) (x : α) (j : Nat), i < l.length → (l.set i x)[j]? = if j = i then some x else l[j]? := fun l x j hl => by
    by_cases e : j = i
    · subst e; rw [if_pos rfl, List.getElem?_set_self hl]
    · rw [if_neg e, List.getElem?_set_ne (Ne.symm e)]
  have hσ : i < σ.length := by rw [fr.len]; exact hi
  have ho : i < os.length := by rw [fr.leo]; exact hi
  have key : ∀ (o : Option Addr), SlotR K mg β ex H (some v) o s → (∀ a, o = some a → H0 a = none ∧ a ∈ ex ∧ a ∉ β) → ∃ os', Fram K mg β ex os' (σ.set i (some v)) H (ρ.set i s) ∧ (∀ a, some a ∈ os' → some a ∈ os ∨ H0 a = none) := fun o hs hf => by
    refine ⟨os.set i o, ⟨by simp [fr.len], by simp [fr.leo], fun j t hj => ?_, fun j k a h1 h2 => ?_, fun j a h1 => ?_⟩, fun a ha => ?_⟩
    · rw [set1 _ _ _ hi] at hj
      rw [set1 _ _ _ hσ, set1 _ _ _ ho]
      by_cases e : j = i
      · rw [if_pos e] at hj ⊢
        rw [if_pos e]
        cases hj
        exact hs
      · rw [if_neg e] at hj ⊢
        rw [if_neg e]
        exact fr.sl j t hj
    · rw [set1 _ _ _ ho] at h1 h2
      by_cases e : j = i
      · by_cases e' : k = i
        · rw [e, e']
        · rw [if_pos e] at h1
          rw [if_neg e'] at h2
          exact absurd (hf a (Option.some.inj h1)).1 (lv k a h2)
      · by_cases e' : k = i
        · rw [if_pos e'] at h2
          rw [if_neg e] at h1
          exact absurd (hf a (Option.some.inj h2)).1 (lv j a h1)
        · rw [if_neg e] at h1
          rw [if_neg e'] at h2
          exact fr.nd j k a h1 h2
    · rw [set1 _ _ _ ho] at h1
      by_cases e : j = i
      · rw [if_pos e] at h1
        exact (hf a (Option.some.inj h1)).2
      · rw [if_neg e] at h1
        exact fr.ow j a h1
    · obtain ⟨j, hj⟩ := List.getElem?_of_mem ha
      rw [set1 _ _ _ ho] at hj
      by_cases e : j = i
      · rw [if_pos e] at hj
        exact .inr (hf a (Option.some.inj hj)).1
      · rw [if_neg e] at hj
        exact .inl (List.mem_of_getElem? hj)
  cases s with
  | un => exact r.elim
  | dat d => exact key none ⟨rfl, v, rfl, r⟩ fun a h => by cases h
  | lst l =>
    obtain ⟨p, e, hp, hx, hn, ob⟩ := r
    exact key (some p) ⟨p, rfl, by rw [e], ob⟩ fun a h => by cases h; exact ⟨hp, hx, hn⟩
  | dct l =>
    obtain ⟨p, e, hp, hx, hn, ob⟩ := r
    exact key (some p) ⟨p, rfl, by rw [e], ob⟩ fun a h => by cases h; exact ⟨hp, hx, hn⟩
theorem Fram.lv {K : PySem.W.Frag} {mg : Str → Option Value} {β ex : List Addr} {os : List (Option Addr)} {σ : L2.St} {H : Hp} {ρ : Env'} {M : Stor} (fr : Fram K mg β ex os σ H ρ) (hd : Hold K mg β ex H M) : ∀ (j : Nat) (a : Addr), os[j]? = some (some a) → H a ≠ none := fun j a h => hd.live a (fr.ow j a h).1
def gAsg (i : Nat) (g : Env' → Cm Slot) : GS := fun ρ M => if i < ρ.length then bnd (g ρ M) fun s M1 => some ((.nx, ρ.set i s), M1) else none
theorem ds_asg {i : Nat} {x : Str} {xp : Pos} {g : Env' → Cm Slot} (hN : X.N.Nodup) (hi : X.N[i]? = some x) (h : DV X e g) (hl : X.env.scope.names.lookup x = some .local ∨ X.env.scope.names.lookup x = some .cell) (hf : X.fn x = true ∨ X.env.scope.names.lookup x = some .local := by first | exact .inl rfl | exact .inr rfl)
    (hs : swapsWithSole [.Name x xp] e pos.line X.env = pure false := by rfl) (hw : swappedStores [.Name x xp] e X.env = pure none := by rfl) (h1 : (assignEach [.Name x xp] X.env).map (·.2) = [assign (.Name x xp) X.env] := by rfl) :
    DS X (.Assign [.Name x xp] e pos) (gAsg i g) := (ps_asg h (pg_name hN hi hl hf) hs hw h1).imp fun D σ H ⟨β, ex, os, ρ, M, fl, ρ', M', hd, fr, hg, k⟩ => by
  unfold gAsg at hg
  split at hg
  · rename_i hlt
    obtain ⟨s, M1, e1, hg⟩ := bnd_eq hg
    cases hg
    refine tG.go hd fr e1 fun v1 H1 β1 ex1 af1 hd1 fr1 r1 => ?_
    obtain ⟨os', q1, q2⟩ := Fram.store (H0 := H) hlt hd1 fr1 (fr.lv hd) r1
    have a := af1.toS (os := os)
    exact k _ _ _ _ os' ⟨a.pre, a.up, a.nw, q2, a.same, a.dom⟩ hd1 q1
  · cases hg
/-- x = [.. for ..] on one line -/
theorem ds_asgLc {i : Nat} {g : Env' → Cm Slot} {t : TE} (h : PS X st (tAsg t (gName i))) (ht : ∀ σ H Q, tG X.K X.mg (RS X.K X.mg) g σ H Q → t σ H Q) : DS X st (gAsg i g) := h.imp fun D σ H ⟨β, ex, os, ρ, M, fl, ρ', M', hd, fr, hg, k⟩ => by
  unfold gAsg at hg
  split at hg
  · rename_i hlt
    obtain ⟨s, M1, e1, hg⟩ := bnd_eq hg
    cases hg
    refine ht _ _ _ (tG.go hd fr e1 fun v1 H1 β1 ex1 af1 hd1 fr1 r1 => ?_)
    obtain ⟨os', q1, q2⟩ := Fram.store (H0 := H) hlt hd1 fr1 (fr.lv hd) r1
    have a := af1.toS (os := os)
    exact k _ _ _ _ os' ⟨a.pre, a.up, a.nw, q2, a.same, a.dom⟩ hd1 q1
  · cases hg
/-- return x, x a list of one's own -/
def gRetOwn (i : Nat) : GS := fun ρ M => match ρ[i]? with
  | some (.lst l) => some ((.rt (.lst l), ρ.set i .un), M)
  | _ => none
theorem Fram.loose {K : PySem.W.Frag} {mg : Str → Option Value} {β ex : List Addr} {os : List (Option Addr)} {σ : L2.St} {H : Hp} {ρ : Env'} {M : Stor} {i : Nat} (hi : i < ρ.length) (hd : Hold K mg β ex H M) (fr : Fram K mg β ex os σ H ρ) : Fram K mg β ex (os.set i none) σ H (ρ.set i .un) := by
  have set1 : ∀ {α : Type} (l : List α) (x : α) (j : Nat), i < l.length → (l.set i x)[j]? = if j = i then some x else l[j]? := fun l x j hl => by
    by_cases e : j = i
    · subst e; rw [if_pos rfl, List.getElem?_set_self hl]
    · rw [if_neg e, List.getElem?_set_ne (Ne.symm e)]
  have ho : i < os.length := by rw [fr.leo]; exact hi
  have old : ∀ j a, (os.set i none)[j]? = some (some a) → os[j]? = some (some a) ∧ j ≠ i := fun j a h => by
    rw [set1 _ _ _ ho] at h
    by_cases e : j = i
    · rw [if_pos e] at h; cases h
    · rw [if_neg e] at h; exact ⟨h, e⟩
  refine ⟨by simp [fr.len], by simp [fr.leo], fun j t hj => ?_, fun j k a h1 h2 => fr.nd j k a (old j a h1).1 (old k a h2).1, fun j a h1 => fr.ow j a (old j a h1).1⟩
  rw [set1 _ _ _ hi] at hj
  rw [set1 _ _ _ ho]
  by_cases e : j = i
  · rw [if_pos e] at hj ⊢
    cases hj
    rfl
  · rw [if_neg e] at hj ⊢
    exact fr.sl j t hj
/-- a list of one's own is let go -/
theorem Fram.thaw {K : PySem.W.Frag} {mg : Str → Option Value} {β ex : List Addr} {os : List (Option Addr)} {σ : L2.St} {H : Hp} {ρ : Env'} {M : Stor} {i : Nat} {l : List D} (hi : ρ[i]? = some (.lst l)) (hd : Hold K mg β ex H M) (fr : Fram K mg β ex os σ H ρ) :
    ∃ p vs, σ[i]? = some (some (.ref p)) ∧ os[i]? = some (some p) ∧ H p = some (.lst vs) ∧ vs.length ≤ sizeLine ∧ AfterS β ex os H β (ex.filter fun a => decide (a ≠ p)) (os.set i none) H ∧ Hold K mg β (ex.filter fun a => decide (a ≠ p)) H M ∧
      Fram K mg β (ex.filter fun a => decide (a ≠ p)) (os.set i none) σ H (ρ.set i .un) ∧ Rep K mg β (ex.filter fun a => decide (a ≠ p)) H (.ref p) (.lst l) := by
  have hlt : i < ρ.length := (List.getElem?_eq_some_iff.mp hi).1
  obtain ⟨p, e1, e2, vs, hv, hz, rs⟩ := fr.sl i _ hi
  have eo : os[i]? = some (some p) := by
    cases q : os[i]? with
    | none => rw [q] at e1; cases e1
    | some y => rw [q] at e1; exact congrArg some e1
  have es : σ[i]? = some (some (.ref p)) := by
    cases q : σ[i]? with
    | none => rw [q] at e2; cases e2
    | some y => rw [q] at e2; exact congrArg some e2
  have hs : ∀ a ∈ ex.filter fun a => decide (a ≠ p), a ∈ ex := fun a h => (List.mem_filter.mp h).1
  have np := (fr.ow i p eo).2
  have kp : Keep β ex H β (ex.filter fun a => decide (a ≠ p)) H := ⟨fun _ _ h => h, fun a o h n => ⟨h, fun z => n (hs a z)⟩⟩
  have hd' : Hold K mg β (ex.filter fun a => decide (a ≠ p)) H M := hd.less hs fun a h => List.mem_filter.mpr ⟨hd.sub a h, decide_eq_true fun e => np (e ▸ h)⟩
  have fr1 := fr.loose hlt hd
  have ho : i < os.length := by rw [fr.leo]; exact hlt
  have old : ∀ j a, (os.set i none)[j]? = some (some a) → os[j]? = some (some a) ∧ j ≠ i := fun j a h => by
    by_cases e : j = i
    · subst e; rw [List.getElem?_set_self ho] at h; cases h
    · rw [List.getElem?_set_ne (Ne.symm e)] at h; exact ⟨h, e⟩
  refine ⟨p, vs, es, eo, hv, hz, ⟨⟨[], by simp, by simp⟩, fun a h => ?_, fun a h => .inl (hs a h), fun a h => ?_, fun a o h _ _ => h, fun a h => h⟩, hd', ⟨fr1.len, fr1.leo, fun j t hj => (fr1.sl j t hj).keep kp fun _ _ _ h => h, fr1.nd, fun j a h => ?_⟩, .lst hv (fun z => of_decide_eq_true (List.mem_filter.mp z).2 rfl) hz (rs.keep kp)⟩
  · by_cases e : a = p
    · rw [e]; exact .inr (List.mem_of_getElem? eo)
    · exact .inl (List.mem_filter.mpr ⟨h, decide_eq_true e⟩)
  · obtain ⟨j, hj⟩ := List.getElem?_of_mem h
    exact .inl (List.mem_of_getElem? (old j a hj).1)
  · obtain ⟨h1, h2⟩ := old j a h
    obtain ⟨q1, q2⟩ := fr.ow j a h1
    exact ⟨List.mem_filter.mpr ⟨q1, decide_eq_true fun e => h2 (fr.nd j i p (e ▸ h1) eo)⟩, q2⟩
theorem ds_retOwn (i : Nat) (h : PE X e (tVar i)) : DS X (.Return (some e) pos) (gRetOwn i) := (ps_ret h).imp fun D σ H ⟨β, ex, os, ρ, M, fl, ρ', M', hd, fr, hg, k⟩ => by
  unfold gRetOwn at hg
  split at hg
  · rename_i l hl
    cases hg
    obtain ⟨p, vs, es, eo, hv, hz, af, hd', fr', r⟩ := fr.thaw hl hd
    exact ⟨.ref p, es, k _ _ _ _ _ af hd' fr' _ r⟩
  · cases hg
/-- x = y, y a list of one's own: y is let go -/
def gMove (i j : Nat) : GS := fun ρ M => match ρ[j]? with
  | some (.lst l) => if i < ρ.length then some ((.nx, (ρ.set j .un).set i (.dat (.lst l))), M) else none
  | _ => none
theorem ds_move {i j : Nat} {x : Str} {xp : Pos} (hN : X.N.Nodup) (hi : X.N[i]? = some x) (h : PE X e (tVar j)) (hl : X.env.scope.names.lookup x = some .local ∨ X.env.scope.names.lookup x = some .cell) (hf : X.fn x = true ∨ X.env.scope.names.lookup x = some .local := by first | exact .inl rfl | exact .inr rfl)
    (hs : swapsWithSole [.Name x xp] e pos.line X.env = pure false := by rfl) (hw : swappedStores [.Name x xp] e X.env = pure none := by rfl) (h1 : (assignEach [.Name x xp] X.env).map (·.2) = [assign (.Name x xp) X.env] := by rfl) :
    DS X (.Assign [.Name x xp] e pos) (gMove i j) := (ps_asg h (pg_name hN hi hl hf) hs hw h1).imp fun D σ H ⟨β, ex, os, ρ, M, fl, ρ', M', hd, fr, hg, k⟩ => by
  unfold gMove at hg
  split at hg
  · rename_i l hl
    split at hg
    · rename_i hlt
      cases hg
      obtain ⟨p, vs, es, eo, hv, hz, af, hd', fr', r⟩ := fr.thaw hl hd
      obtain ⟨os', q1, q2⟩ := Fram.store (H0 := H) (i := i) (s := .dat (.lst l)) (by simpa using hlt) hd' fr' (fr'.lv hd') r
      exact ⟨.ref p, es, k _ _ _ _ os' ⟨af.pre, af.up, af.nw, fun a ha => (q2 a ha).elim (af.nwo a) .inr, af.same, af.dom⟩ hd' q1⟩
    · cases hg
  · cases hg
end

/-! ### calls -/
/-- a def's promise: it does what φ does -/
def spF (K : PySem.W.Frag) (mg : Str → Option Value) (n : Nat) (φ : List D → Cm D) : Sp := fun vs H Q _ => ∃ β ex M ds d M', ds.length = n ∧ Hold K mg β ex H M ∧ Reps K mg β ex H vs ds ∧ φ ds M = some (d, M') ∧
  ∀ v H' β' ex', After β ex H β' ex' H' → Hold K mg β' ex' H' M' → Rep K mg β' ex' H' v d → Q v H'
def gCall (φ : List D → Cm D) (ga : Env' → Cm (List D)) : Env' → Cm D := fun ρ M => bnd (ga ρ M) fun ds M1 => φ ds M1
section
variable {X : Cx} {pos : Pos} {e : Expr} {es : List Expr} {ga : Env' → Cm (List D)}
/-- f(e, ..), every parameter given -/
theorem de_call {k n : Nat} {f : Addr} {fd : FuncData} {ps : List Str} {φ : List D → Cm D} {x : Str} {p : Pos} (F : FnOk X.prog X.w X.K X.mg X.base CX0 k f fd ps (spF X.K X.mg n φ)) (hr : Room k X.A) (hg : Gl X x) (hm : X.mg x = some (.ref f)) (hk : PySem.W.keepIn X.K (.ref f) = true) (hb : Binds X.K fd ps [])
    (ha : DA X (e :: es) ga) (hn : n = es.length + 1) (hdb : (x == ("__debug__" : Str)) = false := by decide) (he : starEach (e :: es) X.env = (false, eval e X.env) :: starEach es X.env := by rfl) (hpl : (backTo pos (starEach es X.env)).any (·.1) = false := by rfl)
    (hlen : ∀ ρ M ds M', ga ρ M = some (ds, M') → ds.length = es.length + 1) :
    DE X (.Call (.Name x p) (e :: es) [] pos) (gCall φ ga) := (pe_call F hr hg hm hk hb .nil pass0 ha hdb he hpl).imp fun σ H Q ⟨β, ex, os, ρ, M, c, M', hd, fr, hg, k⟩ => by
  obtain ⟨ds, M1, e1, hg⟩ := bnd_eq hg
  refine tA'.go hd fr e1 fun vs H1 β1 ex1 af1 hd1 fr1 r1 => ?_
  rw [List.append_nil]
  exact ⟨β1, ex1, M1, ds, c, M', by rw [hn]; exact hlen _ _ _ _ e1, hd1, r1, hg, fun v H' β' ex' af hd' r => k v H' β' ex' (af1.trans af) hd' r⟩
end
theorem gNil_len : ∀ ρ M ds M', gNil ρ M = some (ds, M') → ds.length = 0 := fun ρ M ds M' h => by cases h; rfl
theorem gCons_len {ga : Env' → Cm D} {gr : Env' → Cm (List D)} {n : Nat} (h : ∀ ρ M ds M', gr ρ M = some (ds, M') → ds.length = n) : ∀ ρ M ds M', gCons ga gr ρ M = some (ds, M') → ds.length = n + 1 := fun ρ M ds M' q => by
  obtain ⟨x, M1, e1, q⟩ := bnd_eq q
  obtain ⟨l, M2, e2, q⟩ := bnd_eq q
  cases q
  rw [List.length_cons, h _ _ _ _ e2]

/-! ### a def's body -/
def env0 (n : Nat) (ds : List D) : Env' := ds.map Slot.dat ++ List.replicate (n - ds.length) .un
theorem fram0 {K : PySem.W.Frag} {mg : Str → Option Value} {β ex : List Addr} {H : Hp} {N : List Str} {vs : List V} {ds : List D} (r : Reps K mg β ex H vs ds) : Fram K mg β ex (List.replicate (env0 N.length ds).length none) (L2.start N vs) H (env0 N.length ds) := by
  have hl := r.length
  have no : ∀ (j : Nat) (a : Addr), (List.replicate (env0 N.length ds).length (none : Option Addr))[j]? ≠ some (some a) := fun j a h => by
    rw [List.getElem?_replicate] at h
    split at h <;> cases h
  refine ⟨by simp [L2.start, env0, hl], by simp, fun i s h => ?_, fun i j a h => absurd h (no i a), fun i a h => absurd h (no i a)⟩
  have hj : ((List.replicate (env0 N.length ds).length (none : Option Addr))[i]?).join = none := by
    rw [List.getElem?_replicate]
    split <;> rfl
  rw [hj]
  unfold env0 at h
  unfold L2.start
  by_cases hi : i < ds.length
  · rw [List.getElem?_append_left (by simpa using hi), List.getElem?_map] at h
    cases q : ds[i]? with
    | none => rw [q] at h; cases h
    | some d =>
      rw [q] at h
      cases h
      obtain ⟨v, e1, e2⟩ := r.getD q
      refine ⟨rfl, v, ?_, e2⟩
      rw [List.getElem?_append_left (by simp [hl]; exact hi), List.getElem?_map, e1]
      rfl
  · rw [List.getElem?_append_right (by simpa using Nat.le_of_not_lt hi), List.getElem?_replicate] at h
    split at h
    · cases h; rfl
    · cases h
/-- what is kept of the store behind a def: nothing but what stood, or all -/
theorem Hold.cut {K : PySem.W.Frag} {mg : Str → Option Value} {β ex β' ex' : List Addr} {H H' : Hp} {M E : Stor} (hd : Hold K mg β ex H M) (af : After β ex H β' ex' H') (hd' : Hold K mg β' ex' H' (M ++ E)) (hs : ∀ a ∈ β, ∀ o, H a = some o → H' a = some o) : Hold K mg β ex H' M ∧ After β ex H β ex H' := by
  have g : Grow H H' := fun a o h => by
    by_cases hb : a ∈ β
    · exact hs a hb o h
    · exact af.same a o h hb
  exact ⟨hd.grow g, g.after⟩
section
variable {P : Program} {w : World} {K : PySem.W.Frag} {mg : Str → Option Value} {base : Heap}
/-- THE RULE for a def over plain data -/
theorem fn_ok {x qual : Str} {params : Arguments} {body : List Stmt} {scope : Scope} {dvs : List V} {kws : List (Str × V)} {f : Addr} {fd : FuncData} {N ps : List Str} {k n : Nat} {φ : List D → Cm D} {g : GS} (F : FunD K x qual params body scope dvs kws f fd) (S : FnScope N ps scope) (hn : n = ps.length)
    (hb : ∀ (cdv : Value) (A : Around) (outer : List Env) (s : Shared) (H : Hp) (E : XK), Room k (A.deeper (envOfC qual scope s.heap.objs.size f cdv)) → DSs (cxOf CX0 P w K mg base N qual scope f cdv A outer s H E).nox body g)
    (hφ : ∀ ds M d M', ds.length = n → φ ds M = some (d, M') → ∃ fl ρ', g (env0 N.length ds) M = some ((fl, ρ'), M') ∧ (fl = .rt d ∨ (fl = .nx ∧ d = .non))) : FnOk P w K mg base CX0 (k + 1) f fd ps (spF K mg n φ) := by
  refine F.ok S (fun vs H Q E h => ?_) (fun cdv A outer s H vs Q E hr h => ?_)
  · obtain ⟨β, ex, M, ds, d, M', hl, hd, rs, hp, k⟩ := h
    rw [rs.length, hl, hn]
  · obtain ⟨β, ex, M, ds, d, M', hl, hd, rs, hp, kk⟩ := h
    obtain ⟨fl, ρ', hg, hf⟩ := hφ ds M d M' hl hp
    refine ⟨_, PSs.nox (hb cdv A outer s H E hr), ⟨β, ex, _, env0 N.length ds, M, fl, ρ', M', hd, fram0 rs, hg, fun σ' H' β' ex' os' af hd' fr' => ?_⟩⟩
    have nno : ∀ a : Addr, some a ∉ List.replicate (env0 N.length ds).length (none : Option Addr) := fun a h => by
      have := List.eq_of_mem_replicate h
      cases this
    have af' : After β ex H β' ex' H' := ⟨af.pre, fun a h => (af.up a h).resolve_right (nno a), af.nw, fun a o h h1 => af.same a o h h1 (nno a), af.dom⟩
    rcases hf with rfl | ⟨rfl, rfl⟩
    · exact fun v r => kk v H' β' ex' af' hd' r
    · exact kk .non H' β' ex' af' hd' .non
end
end Py
/-! what is walked; targets; for, while, comprehensions over plain data -/
namespace Py
open PySem PySem.Spec PyProof.Rows L2

/-! ### what is walked -/
/-- J walks l from (β, ex, H) on, as long as what prot tells stays -/
def WalkD (K : PySem.W.Frag) (mg : Str → Option Value) (J : It) (l : List D) (β ex : List Addr) (H : Hp) (prot : Addr → Prop) : Prop := ∀ (i : Nat) (β' ex' : List Addr) (H' : Hp), (∀ a o, H a = some o → prot a → H' a = some o) → Keep β ex H β' ex' H' →
  (l.length ≤ i → J.stop i H') ∧ ∀ d, l[i]? = some d → J.go i H' ∧ ∀ x H'', J.yld i H' x H'' → Grow H' H'' ∧ Rep K mg β' ex' H'' x d
/-- own: the slot whose list is walked, if it is one of one's own -/
def tI' (K : PySem.W.Frag) (mg : Str → Option Value) (own : Option Nat) (g : Env' → Cm (List D)) : TI := fun σ H R => ∃ β ex os ρ M l M', Hold K mg β ex H M ∧ Fram K mg β ex os σ H ρ ∧ g ρ M = some (l, M') ∧
  ∀ J H' β' ex' (S : List Addr), After β ex H β' ex' H' → Hold K mg β' ex' H' M' → (∀ a ∈ S, a ∉ β' ∧ (some a ∈ os → ∃ i, own = some i ∧ os[i]? = some (some a))) → (∀ prot, (∀ a ∈ S, prot a) → WalkD K mg J l β' ex' H' prot) → R J H'
abbrev DP (X : Cx) (tg it : Expr) (own : Option Nat) (g : Env' → Cm (List D)) : Prop := PI X tg it (tI' X.K X.mg own g)
theorem _root_.L2.PI.imp {X : Cx} {tg e : Expr} {t t' : TI} (h : PI X tg e t) (i : ∀ σ H R, t' σ H R → t σ H R) : PI X tg e t' := ⟨fun pins s σ H R I hw => h.run pins s σ H R I (i σ H R hw)⟩
/-- a list, a tuple -/
def iSeq (K : PySem.W.Frag) (tl : TE) : TI := fun σ H R => tl σ H fun x H1 => ∃ a, x = .ref a ∧ (((∃ xs, SqL K H1 a xs) ∧ R (Itl K a) H1) ∨ ((∃ xs, SqT K H1 a xs) ∧ R (Itt K a) H1))
theorem pi_seq {X : Cx} {tg l : Expr} {tl : TE} (hl : PE X l tl) : PI X tg l (iSeq X.K tl) := by
  refine ⟨fun pins s σ H R I h => ?_⟩
  refine thn (hl.run pins s σ H _ I h) fun v s1 ⟨x, H1, I1, r1, q1⟩ => ?_
  obtain ⟨a, e, q⟩ := q1
  subst e
  cases r1
  rcases q with ⟨⟨xs, hq⟩, q⟩ | ⟨⟨xs, hq⟩, q⟩
  · obtain ⟨its, rv, p, hz⟩ := I1.list hq
    refine wpAny_pyIter_list p.isList ?_
    refine ⟨s1.heap.objs.size, [s1.heap.objs.size], _, _, H1, rfl, I1.kept (t' := s1.toks) fun b o e => Heap.get?_push_of_some _ e, turn_list a _, ⟨_, Heap.get?_push_size _ rfl, rfl, rfl⟩, fun b hb => ?_, q⟩
    have e : b = s1.heap.objs.size := by simpa using hb
    subst e
    exact I1.fpOk (Nat.le_refl _) (I1.hok.fresh (Nat.le_refl _))
  · obtain ⟨its, rv, p, hz⟩ := I1.tuple hq
    refine wpAny_pyIter_tuple (show s1.heap.IsTuple a its.toArray from p) ?_
    refine ⟨s1.heap.objs.size, [s1.heap.objs.size], _, _, H1, rfl, I1.kept (t' := s1.toks) fun b o e => Heap.get?_push_of_some _ e, turn_tuple a _, ⟨_, Heap.get?_push_size _ rfl, rfl, rfl⟩, fun b hb => ?_, q⟩
    have e : b = s1.heap.objs.size := by simpa using hb
    subst e
    exact I1.fpOk (Nat.le_refl _) (I1.hok.fresh (Nat.le_refl _))
theorem SeqV.sq {K : PySem.W.Frag} {T : Addr → Prop} {H : Hp} {p : Addr} {vs : List V} (h : SeqV K T H p vs) : SqL K H p vs ∨ SqT K H p vs := by
  rcases h with h | h | h | h
  · exact .inl (.inl h.1)
  · exact .inr (.inl h.1)
  · exact .inl (.inr h)
  · exact .inr (.inr h)
theorem walk_seq {K : PySem.W.Frag} {mg : Str → Option Value} {β ex : List Addr} {H : Hp} {T : Addr → Prop} {p : Addr} {vs : List V} {l : List D} (rs : Reps K mg β ex H vs l) (sv : SeqV K T H p vs) :
    ∃ (J : It) (S : List Addr), (∀ a ∈ S, a = p ∧ T a) ∧ (∀ prot, (∀ a ∈ S, prot a) → WalkD K mg J l β ex H prot) ∧ (((∃ xs, SqL K H p xs) ∧ J = Itl K p) ∨ ((∃ xs, SqT K H p xs) ∧ J = Itt K p)) := by
  have hl := rs.length
  have rd : ∀ {u : HO}, Rd H p u → ∀ H' : Hp, (∀ o, H p = some o → H' p = some o) → Rd H' p u := fun h H' hs => h.imp (hs _) fun ⟨o, h⟩ => ⟨o, hs _ h⟩
  have mkL : ∀ (S : List Addr), (∀ H' : Hp, (∀ a ∈ S, ∀ o, H a = some o → H' a = some o) → SqL K H' p vs) → ∀ prot : Addr → Prop, (∀ a ∈ S, prot a) → WalkD K mg (Itl K p) l β ex H prot := fun S hS prot hp i β' ex' H' hs kp => by
    have hq : SqL K H' p vs := hS H' fun a ha o h => hs a o h (hp a ha)
    refine ⟨fun hle => ⟨vs, hq, by omega⟩, fun d hd => ?_⟩
    obtain ⟨v, e1, e2⟩ := rs.getD hd
    exact ⟨⟨vs, v, hq, e1⟩, fun x H'' y => by
      obtain ⟨e, y⟩ := y
      subst e
      have e3 := y vs hq
      rw [e1] at e3
      cases e3
      exact ⟨Grow.refl, e2.keep kp⟩⟩
  have mkT : ∀ (S : List Addr), (∀ H' : Hp, (∀ a ∈ S, ∀ o, H a = some o → H' a = some o) → SqT K H' p vs) → ∀ prot : Addr → Prop, (∀ a ∈ S, prot a) → WalkD K mg (Itt K p) l β ex H prot := fun S hS prot hp i β' ex' H' hs kp => by
    have hq : SqT K H' p vs := hS H' fun a ha o h => hs a o h (hp a ha)
    refine ⟨fun hle => ⟨vs, hq, by omega⟩, fun d hd => ?_⟩
    obtain ⟨v, e1, e2⟩ := rs.getD hd
    exact ⟨⟨vs, v, hq, e1⟩, fun x H'' y => by
      obtain ⟨e, y⟩ := y
      subst e
      have e3 := y vs hq
      rw [e1] at e3
      cases e3
      exact ⟨Grow.refl, e2.keep kp⟩⟩
  have m1 : p ∈ [p] := List.mem_singleton.mpr rfl
  rcases sv with h | h | h | h
  · exact ⟨_, [p], fun a ha => by cases List.mem_singleton.mp ha; exact ⟨rfl, h.2⟩, mkL [p] fun H' hs => .inl (rd h.1 H' (hs p m1)), .inl ⟨⟨vs, .inl h.1⟩, rfl⟩⟩
  · exact ⟨_, [p], fun a ha => by cases List.mem_singleton.mp ha; exact ⟨rfl, h.2⟩, mkT [p] fun H' hs => .inl (rd h.1 H' (hs p m1)), .inr ⟨⟨vs, .inl h.1⟩, rfl⟩⟩
  · exact ⟨Itl K p, [], fun a ha => absurd ha (by simp), mkL [] fun H' _ => .inr h, .inl ⟨⟨vs, .inr h⟩, rfl⟩⟩
  · exact ⟨Itt K p, [], fun a ha => absurd ha (by simp), mkT [] fun H' _ => .inr h, .inr ⟨⟨vs, .inr h⟩, rfl⟩⟩
section
variable {X : Cx} {tg e : Expr} {pos : Pos}
theorem iSeq_use {K : PySem.W.Frag} {J : It} {H1 : Hp} {p : Addr} {R : It → Hp → Prop} (hJ : ((∃ xs, SqL K H1 p xs) ∧ J = Itl K p) ∨ ((∃ xs, SqT K H1 p xs) ∧ J = Itt K p)) (q : R J H1) : ∃ a, V.ref p = .ref a ∧ (((∃ xs, SqL K H1 a xs) ∧ R (Itl K a) H1) ∨ ((∃ xs, SqT K H1 a xs) ∧ R (Itt K a) H1)) := by
  rcases hJ with ⟨h, rfl⟩ | ⟨h, rfl⟩
  · exact ⟨p, rfl, .inl ⟨h, q⟩⟩
  · exact ⟨p, rfl, .inr ⟨h, q⟩⟩
/-- data that is walked -/
theorem dp_d {g : Env' → Cm D} (h : DE X e g) : DP X tg e none (gQd g) := (pi_seq h).imp fun σ H R ⟨β, ex, os, ρ, M, c, M', hd, fr, hg, k⟩ => by
  obtain ⟨x, M1, e1, hg⟩ := bnd_eq hg
  obtain ⟨e3, e4⟩ := lft_eq hg
  refine tG.go hd fr e1 fun v1 H1 β1 ex1 af1 hd1 fr1 r => ?_
  have e4 : M' = M1 := e4
  subst e4
  obtain ⟨p, vs, rfl, z, rs, sv⟩ := r.seqV e3
  obtain ⟨J, S, hS, hW, hJ⟩ := walk_seq rs sv
  refine iSeq_use hJ (k J H1 β1 ex1 S af1 hd1 (fun a ha => ⟨fun q => (hS a ha).2 (hd1.sub a q), fun q => ?_⟩) hW)
  obtain ⟨j, hj⟩ := List.getElem?_of_mem q
  exact absurd (fr1.ow j a hj).1 (hS a ha).2
/-- a new list that is walked -/
theorem dp_l {g : Env' → Cm (List D)} (h : DL X e g) : DP X tg e none g := (pi_seq h).imp fun σ H R ⟨β, ex, os, ρ, M, c, M', hd, fr, hg, k⟩ => by
  refine tG.go hd fr hg fun v1 H1 β1 ex1 af1 hd1 fr1 ⟨p, ep, hp, hx, hn, vs, hv, hz, rs⟩ => ?_
  subst ep
  obtain ⟨J, S, hS, hW, hJ⟩ := walk_seq (T := fun a => a ∉ β1) rs (.inl ⟨.inl hv, hn⟩)
  refine iSeq_use hJ (k J H1 β1 ex1 S af1 hd1 (fun a ha => ⟨(hS a ha).2, fun q => ?_⟩) hW)
  obtain ⟨j, hj⟩ := List.getElem?_of_mem q
  rw [(hS a ha).1] at hj
  exact absurd hp (hd.live p (fr.ow j p hj).1)
/-- a list of one's own that is walked -/
theorem dp_own' (i : Nat) (h : PE X e (tVar i)) : DP X tg e (some i) (gOwn i) := (pi_seq h).imp fun σ H R ⟨β, ex, os, ρ, M, a, M', hd, fr, hg, k⟩ => by
  unfold gOwn at hg
  split at hg
  · rename_i l hl
    cases hg
    obtain ⟨p, e1, e2, vs, hv, hz, rs⟩ := fr.sl i _ hl
    have eo : os[i]? = some (some p) := by
      cases q : os[i]? with
      | none => rw [q] at e1; cases e1
      | some y => rw [q] at e1; exact congrArg some e1
    have es : σ[i]? = some (some (.ref p)) := by
      cases q : σ[i]? with
      | none => rw [q] at e2; cases e2
      | some y => rw [q] at e2; exact congrArg some e2
    obtain ⟨J, S, hS, hW, hJ⟩ := walk_seq (T := fun a => a ∉ β) rs (.inl ⟨.inl hv, (fr.ow i p eo).2⟩)
    exact ⟨.ref p, es, iSeq_use hJ (k J H β ex S .refl hd (fun a ha => ⟨(hS a ha).2, fun _ => ⟨i, rfl, by rw [(hS a ha).1]; exact eo⟩⟩) hW)⟩
  · cases hg
theorem dp_own (i : Nat) {x : Str} {pos : Pos} (hN : X.N[i]? = some x := by rfl) (hv : Vis X.env.scope x := by first | exact Or.inl rfl | exact Or.inr (Or.inl rfl) | exact Or.inr (Or.inr rfl)) (hd : (x == ("__debug__" : Str)) = false := by decide)
    (hcd : (x == ("__classdict__" : Str)) = false := by decide) : DP X tg (.Name x pos) (some i) (gOwn i) := dp_own' i (pe_var hN hv hd hcd)
/-- range(e) -/
def rgD (lo : Int) (n : Nat) : List D := (List.range n).map fun i => .int (lo + (i : Nat))
def gRg (g : Env' → Cm D) : Env' → Cm (List D) := fun ρ M => bnd (g ρ M) fun d M1 => match d with
  | .int j => if j ≤ (lim : Int) ∧ -(lim : Int) ≤ j then some (rgD 0 j.toNat, M1) else none
  | _ => none
theorem walk_rg {K : PySem.W.Frag} {mg : Str → Option Value} {β ex : List Addr} {H : Hp} {lo : Int} {n : Nat} {prot : Addr → Prop} : WalkD K mg (Itr lo n) (rgD lo n) β ex H prot := fun i β' ex' H' hs kp => by
  refine ⟨fun h => show n ≤ i by simpa [rgD] using h, fun d hd => ?_⟩
  unfold rgD at hd
  rw [List.getElem?_map] at hd
  cases q : (List.range n)[i]? with
  | none => rw [q] at hd; cases hd
  | some j =>
    rw [q] at hd
    cases hd
    obtain ⟨h1, h2⟩ := List.getElem?_eq_some_iff.mp q
    rw [List.getElem_range] at h2
    subst h2
    refine ⟨show i < n by simpa using h1, fun x H'' y => ?_⟩
    obtain ⟨e1, e2⟩ := y
    subst e1 e2
    exact ⟨Grow.refl, .int _⟩
theorem dp_rg {g : Env' → Cm D} {p : Pos} (hg : Gl X "range") (hm : X.mg "range" = none) (h : DE X e g) (hs : starEach [e] X.env = [(false, eval e X.env)] := by rfl) : DP X tg (.Call (.Name "range" p) [e] [] pos) none (gRg g) :=
  (pi_range1 hg hm (pa_cons h pa_nil hs) hs).imp fun σ H R ⟨β, ex, os, ρ, M, c, M', hd, fr, hg, k⟩ => by
    obtain ⟨x, M1, e1, hg⟩ := bnd_eq hg
    refine tG.go hd fr e1 fun v1 H1 β1 ex1 af1 hd1 fr1 r => ?_
    cases x with
    | int j =>
      cases r.int_inv
      dsimp only at hg
      split at hg
      · rename_i hj
        cases hg
        have hlim : (lim : Int) = 16000000 := rfl
        refine ⟨j, rfl, by omega, by omega, k _ H1 β1 ex1 [] af1 hd1 (fun a ha => absurd ha (by simp)) fun prot _ => walk_rg⟩
      · cases hg
    | _ => cases hg
end

/-! ### targets -/
def tGt (K : PySem.W.Frag) (mg : Str → Option Value) (is : List Nat) (t : D → Env' → Option Env') : TG := fun v σ H Q => ∃ β ex os ρ M d ρ', Hold K mg β ex H M ∧ Fram K mg β ex os σ H ρ ∧ Rep K mg β ex H v d ∧ t d ρ = some ρ' ∧
  ∀ σ' os', Fram K mg β ex os' σ' H ρ' → (∀ a, some a ∈ os' → some a ∈ os) → (∀ j, j ∉ is → σ'[j]? = σ[j]?) → σ'.length = σ.length → Q σ' H
abbrev DG (X : Cx) (target : Expr) (is : List Nat) (t : D → Env' → Option Env') : Prop := PG X target (tGt X.K X.mg is t)
theorem _root_.L2.PG.imp {X : Cx} {e : Expr} {t t' : TG} (h : PG X e t) (i : ∀ v σ H Q, t' v σ H Q → t v σ H Q) : PG X e t' := ⟨fun pins s σ H v u Q I r hw => h.run pins s σ H v u Q I r (i v σ H Q hw)⟩
theorem _root_.L2.PGs.imp {X : Cx} {e : List Expr} {t t' : TGs} (h : PGs X e t) (i : ∀ v σ H Q, t' v σ H Q → t v σ H Q) : PGs X e t' := ⟨fun pins s σ H v u Q I r hw => h.run pins s σ H v u Q I r (i v σ H Q hw)⟩
def gtN (i : Nat) : D → Env' → Option Env' := fun d ρ => if i < ρ.length then some (ρ.set i (.dat d)) else none
section
variable {X : Cx} {pos : Pos} {e : Expr} {es : List Expr}
theorem Fram.storeD {K : PySem.W.Frag} {mg : Str → Option Value} {β ex : List Addr} {os : List (Option Addr)} {σ : L2.St} {H : Hp} {ρ : Env'} {M : Stor} {i : Nat} {v : V} {d : D} (hi : i < ρ.length) (hd : Hold K mg β ex H M) (fr : Fram K mg β ex os σ H ρ) (r : Rep K mg β ex H v d) :
    ∃ os', Fram K mg β ex os' (σ.set i (some v)) H (ρ.set i (.dat d)) ∧ (∀ a, some a ∈ os' → some a ∈ os) := by
  obtain ⟨os', q1, q2⟩ := Fram.store (H0 := fun _ => some (.lst [])) (s := .dat d) hi hd fr (fun _ _ _ => by simp) r
  exact ⟨os', q1, fun a h => (q2 a h).resolve_right (by simp)⟩
theorem dg_n' {i : Nat} (h : PG X e (gName i)) : DG X e [i] (gtN i) := h.imp fun v σ H Q ⟨β, ex, os, ρ, M, d, ρ', hd, fr, r, ht, k⟩ => by
  unfold gtN at ht
  split at ht
  · rename_i hi
    cases ht
    obtain ⟨os', q1, q2⟩ := fr.storeD hi hd r
    exact k _ os' q1 q2 (fun j hj => List.getElem?_set_ne (by simpa using Ne.symm (by simpa using hj))) (by simp)
  · cases ht
theorem dg_n {i : Nat} {x : Str} (hN : X.N.Nodup) (hi : X.N[i]? = some x) (hx : Loc X.env.scope x) (hf : X.fn x = true ∨ X.env.scope.names.lookup x = some .local := by first | exact .inl rfl | exact .inr rfl | assumption) : DG X (.Name x pos) [i] (gtN i) := dg_n' (pg_name hN hi hx hf)
def tGts (K : PySem.W.Frag) (mg : Str → Option Value) (is : List Nat) (t : List D → Env' → Option Env') : TGs := fun vs σ H Q => ∃ β ex os ρ M ds ρ', Hold K mg β ex H M ∧ Fram K mg β ex os σ H ρ ∧ Reps K mg β ex H vs ds ∧ t ds ρ = some ρ' ∧
  ∀ σ' os', Fram K mg β ex os' σ' H ρ' → (∀ a, some a ∈ os' → some a ∈ os) → (∀ j, j ∉ is → σ'[j]? = σ[j]?) → σ'.length = σ.length → Q σ' H
abbrev DGs (X : Cx) (ts : List Expr) (is : List Nat) (t : List D → Env' → Option Env') : Prop := PGs X ts (tGts X.K X.mg is t)
def gtNil : List D → Env' → Option Env' := fun ds ρ => match ds with
  | [] => some ρ
  | _ => none
def gtCons (t : D → Env' → Option Env') (u : List D → Env' → Option Env') : List D → Env' → Option Env' := fun ds ρ => match ds with
  | d :: r => (match t d ρ with
    | some ρ1 => u r ρ1
    | none => none)
  | _ => none
theorem dgs_nil : DGs X [] [] gtNil := pgs_nil.imp fun v σ H Q ⟨β, ex, os, ρ, M, d, ρ', hd, fr, r, ht, k⟩ => by
  cases r with
  | nil =>
    cases ht
    exact ⟨rfl, k _ os fr (fun _ h => h) (fun _ _ => rfl) rfl⟩
  | cons _ _ => cases ht
theorem dgs_cons {is js : List Nat} {t : D → Env' → Option Env'} {u : List D → Env' → Option Env'} (h1 : DG X e is t) (h2 : DGs X es js u) (hs : (assignEach (e :: es) X.env).map (·.2) = assign e X.env :: (assignEach es X.env).map (·.2) := by rfl) : DGs X (e :: es) (is ++ js) (gtCons t u) := (pgs_cons h1 h2 hs).imp fun v σ H Q ⟨β, ex, os, ρ, M, d, ρ', hd, fr, r, ht, k⟩ => by
  cases r with
  | nil => cases ht
  | cons r rr =>
    unfold gtCons at ht
    dsimp only at ht
    split at ht
    · rename_i ρ1 h1
      refine ⟨_, _, rfl, β, ex, os, ρ, M, _, ρ1, hd, fr, r, h1, fun σ1 os1 fr1 q1 q2 q3 => ⟨β, ex, os1, ρ1, M, _, ρ', hd, fr1, rr, ht, fun σ2 os2 fr2 z1 z2 z3 => ?_⟩⟩
      refine k σ2 os2 fr2 (fun a h => q1 a (z1 a h)) (fun j hj => ?_) (z3.trans q3)
      rw [z2 j fun h => hj (List.mem_append_right _ h), q2 j fun h => hj (List.mem_append_left _ h)]
    · cases ht
def gtT (u : List D → Env' → Option Env') : D → Env' → Option Env' := fun d ρ => match d with
  | .tup l => u l ρ
  | _ => none
theorem dg_t {is : List Nat} {k n : Nat} {u : List D → Env' → Option Env'} (hc : X.calm = true) (h : DGs X es is u) (hl : ∀ l ρ ρ', u l ρ = some ρ' → l.length = n) (hn : (assignEach es X.env).length = n := by rfl) (hst : (assignEach es X.env).findIdx? (·.1) = none := by rfl) : DG X (.Tuple es k pos) is (gtT u) :=
  (pg_tup hc h hn hst).imp fun v σ H Q ⟨β, ex, os, ρ, M, d, ρ', hd, fr, r, ht, k⟩ => by
    cases r with
    | tup q z rs =>
      refine ⟨_, _, rfl, ?_, by rw [rs.length]; exact hl _ _ _ ht, β, ex, os, ρ, M, _, ρ', hd, fr, rs, ht, k⟩
      exact q.elim (fun q => .inl (.inl q.1)) .inr
    | _ => cases ht
theorem gtNil_len : ∀ l ρ ρ', gtNil l ρ = some ρ' → l.length = 0 := fun l ρ ρ' h => by
  cases l with
  | nil => rfl
  | cons _ _ => cases h
theorem gtCons_len {t : D → Env' → Option Env'} {u : List D → Env' → Option Env'} {n : Nat} (h : ∀ l ρ ρ', u l ρ = some ρ' → l.length = n) : ∀ l ρ ρ', gtCons t u l ρ = some ρ' → l.length = n + 1 := fun l ρ ρ' q => by
  cases l with
  | nil => cases q
  | cons d r =>
    unfold gtCons at q
    dsimp only at q
    split at q
    · rw [List.length_cons, h _ _ _ q]
    · cases q
end

/-! ### for -/
def forL (tg : D → Env' → Option Env') (body : GS) : List D → GS
  | [], ρ, M => some ((.nx, ρ), M)
  | d :: ds, ρ, M => match tg d ρ with
    | some ρ1 => bnd (body ρ1 M) fun r M1 => match r.1 with
      | .nx => forL tg body ds r.2 M1
      | .ct => forL tg body ds r.2 M1
      | .bk => some ((.nx, r.2), M1)
      | .rt v => some ((.rt v, r.2), M1)
    | none => none
def gFor (src : Env' → Cm (List D)) (tg : D → Env' → Option Env') (body : GS) : GS := fun ρ M => bnd (src ρ M) fun l M1 => forL tg body l ρ M1
theorem AfterS.keep {K : PySem.W.Frag} {mg : Str → Option Value} {β ex β' ex' : List Addr} {os os' : List (Option Addr)} {σ : L2.St} {H H' : Hp} {M : Stor} {ρ : Env'} (a : AfterS β ex os H β' ex' os' H') (hd : Hold K mg β ex H M) (fr : Fram K mg β ex os σ H ρ) : Keep β ex H β' ex' H' := by
  obtain ⟨n, e, hn⟩ := a.pre
  refine ⟨fun i x h => ?_, fun x o h hx => ⟨a.same x o h (fun q => hx (hd.sub x q)) fun q => ?_, fun q => ?_⟩⟩
  · rw [e, List.getElem?_append_left (List.getElem?_eq_some_iff.mp h).1]
    exact h
  · obtain ⟨j, hj⟩ := List.getElem?_of_mem q
    exact hx (fr.ow j x hj).1
  · rcases a.nw x q with z | z
    · exact hx z
    · rw [z] at h; cases h
section
variable {X : Cx} {pos : Pos} {tg iter : Expr} {body : List Stmt}
theorem ds_for {is : List Nat} {src : Env' → Cm (List D)} {t : D → Env' → Option Env'} {g : GS} (hp : PassesOwn (model X.prog X.w) X.A X.env X.xe) (hc : X.calm = true) (hi : DP X tg iter none src) (hg : DG X tg is t) (hb : DSs X body g)
    (hs : ∀ x, foldedSetIterable iter X.env x = pure x := by intro _; rfl) : DS X (.For tg iter body [] pos) (gFor src t g) := (ps_for hp hc hi hg hb hs).imp fun D σ H ⟨β, ex, os, ρ, M, fl, ρ', M', hd, fr, hg, k⟩ => by
  obtain ⟨l, M1, e1, hg⟩ := bnd_eq hg
  refine ⟨β, ex, os, ρ, M, l, M1, hd, fr, e1, fun J H1 β1 ex1 S af1 hd1 hS hW => ?_⟩
  have fr1 := fr.after hd af1
  have W := hW (fun a => a ∉ β1 ∧ some a ∉ os) fun a ha => ⟨(hS a ha).1, fun q => by
    obtain ⟨i, e, _⟩ := (hS a ha).2 q
    cases e⟩
  refine ⟨fun i m σ2 H2 => ∃ β2 ex2 os2 ρ2 M2, i ≤ l.length ∧ m = l.length - i ∧ AfterS β1 ex1 os H1 β2 ex2 os2 H2 ∧ Hold X.K X.mg β2 ex2 H2 M2 ∧ Fram X.K X.mg β2 ex2 os2 σ2 H2 ρ2 ∧ forL t g (l.drop i) ρ2 M2 = some ((fl, ρ'), M'),
    ⟨l.length, β1, ex1, os, ρ, M1, Nat.zero_le _, rfl, .refl, hd1, fr1, by rw [List.drop_zero]; exact hg⟩, fun i m σ2 H2 hw => ?_⟩
  obtain ⟨β2, ex2, os2, ρ2, M2, hi, hm, af2, hd2, fr2, hf⟩ := hw
  have w := W i β2 ex2 H2 (fun a o h q => af2.same a o h q.1 q.2) (af2.keep hd1 fr1)
  by_cases hlt : i < l.length
  · have hget : l[i]? = some l[i] := List.getElem?_eq_getElem hlt
    obtain ⟨go, y⟩ := w.2 _ hget
    rw [List.drop_eq_getElem_cons hlt] at hf
    refine .inr ⟨go, fun σ3 H3 => ∃ β3 ex3 os3 ρ3 M3, AfterS β1 ex1 os H1 β3 ex3 os3 H3 ∧ Hold X.K X.mg β3 ex3 H3 M3 ∧ Fram X.K X.mg β3 ex3 os3 σ3 H3 ρ3 ∧ forL t g (l.drop (i + 1)) ρ3 M3 = some ((fl, ρ'), M'), fun σ3 H3 h3 => ?_, fun x H3 hy => ?_⟩
    · obtain ⟨β3, ex3, os3, ρ3, M3, q1, q2, q3, q4⟩ := h3
      exact ⟨l.length - (i + 1), by omega, β3, ex3, os3, ρ3, M3, hlt, rfl, q1, q2, q3, q4⟩
    · obtain ⟨gr, rx⟩ := y x H3 hy
      unfold forL at hf
      split at hf
      · rename_i ρ3 h3
        obtain ⟨⟨f4, ρ4⟩, M4, e4, hf⟩ := bnd_eq hf
        have hd3 := hd2.grow gr
        have fr3 := fr2.after hd2 gr.after
        have af3 : AfterS β1 ex1 os H1 β2 ex2 os2 H3 := af2.trans gr.after.toS hd1.live
        refine ⟨β2, ex2, os2, ρ2, M2, _, ρ3, hd3, fr3, rx, h3, fun σ4 os4 fr4 z1 z2 z3 => ⟨β2, ex2, os4, ρ3, M2, f4, ρ4, M4, hd3, fr4, e4, fun σ5 H5 β5 ex5 os5 af5 hd5 fr5 => ?_⟩⟩
        have af4 : AfterS β1 ex1 os H1 β2 ex2 os4 H3 := ⟨af3.pre, af3.up, af3.nw, fun a h => af3.nwo a (z1 a h), af3.same, af3.dom⟩
        have af6 := af4.trans af5 hd1.live
        have fin := Fin.from (D := D) k hd (af1.toS.trans af6 hd.live)
        cases f4 with
        | nx => exact ⟨β5, ex5, os5, ρ4, M4, af6, hd5, fr5, hf⟩
        | ct => exact ⟨β5, ex5, os5, ρ4, M4, af6, hd5, fr5, hf⟩
        | bk =>
          cases hf
          exact fin σ5 H5 β5 ex5 os5 .refl hd5 fr5
        | rt v =>
          cases hf
          exact fin σ5 H5 β5 ex5 os5 .refl hd5 fr5
      · cases hf
  · have e : i = l.length := by omega
    subst e
    rw [List.drop_length] at hf
    cases hf
    exact .inl ⟨w.1 (Nat.le_refl _), k σ2 H2 β2 ex2 os2 (af1.toS.trans af2 hd.live) hd2 fr2⟩

/-! ### while -/
def whileF (c : Env' → Cm Bool) (body : GS) : Nat → GS
  | 0, _, _ => none
  | n + 1, ρ, M => bnd (c ρ M) fun b M1 => if b then bnd (body ρ M1) fun r M2 => match r.1 with
      | .nx => whileF c body n r.2 M2
      | .ct => whileF c body n r.2 M2
      | .bk => some ((.nx, r.2), M2)
      | .rt v => some ((.rt v, r.2), M2)
    else some ((.nx, ρ), M1)
/-- by so many turns at the most -/
def gWhile (n : Nat) (c : Env' → Cm Bool) (body : GS) : GS := fun ρ M => whileF c body n ρ M
theorem ds_while {n : Nat} {c : Expr} {gc : Env' → Cm Bool} {g : GS} (hp : PassesOwn (model X.prog X.w) X.A X.env X.xe) (hc : DT X c gc) (hb : DSs X body g) : DS X (.While c body [] pos) (gWhile n gc g) := (ps_while hp hc hb).imp fun D σ H ⟨β, ex, os, ρ, M, fl, ρ', M', hd, fr, hg, k⟩ => by
  refine ⟨fun m σ2 H2 => ∃ β2 ex2 os2 ρ2 M2, AfterS β ex os H β2 ex2 os2 H2 ∧ Hold X.K X.mg β2 ex2 H2 M2 ∧ Fram X.K X.mg β2 ex2 os2 σ2 H2 ρ2 ∧ whileF gc g m ρ2 M2 = some ((fl, ρ'), M'), ⟨n, β, ex, os, ρ, M, .refl, hd, fr, hg⟩, fun m σ2 H2 hw => ?_⟩
  obtain ⟨β2, ex2, os2, ρ2, M2, af2, hd2, fr2, hf⟩ := hw
  cases m with
  | zero => cases hf
  | succ m =>
    unfold whileF at hf
    obtain ⟨b, M3, e3, hf⟩ := bnd_eq hf
    refine tT'.go hd2 fr2 e3 fun H3 β3 ex3 af3 hd3 fr3 => ?_
    have af := af2.trans (af3.toS (os := os2)) hd.live
    cases b with
    | false =>
      cases hf
      exact iteF (k σ2 H3 β3 ex3 os2 af hd3 fr3)
    | true =>
      obtain ⟨⟨f4, ρ4⟩, M4, e4, hf⟩ := bnd_eq hf
      refine iteT ⟨fun σ5 H5 => ∃ β5 ex5 os5 ρ5 M5, AfterS β ex os H β5 ex5 os5 H5 ∧ Hold X.K X.mg β5 ex5 H5 M5 ∧ Fram X.K X.mg β5 ex5 os5 σ5 H5 ρ5 ∧ whileF gc g m ρ5 M5 = some ((fl, ρ'), M'), fun σ5 H5 h5 => ⟨m, Nat.lt_succ_self m, h5⟩,
        β3, ex3, os2, ρ2, M3, f4, ρ4, M4, hd3, fr3, e4, fun σ5 H5 β5 ex5 os5 af5 hd5 fr5 => ?_⟩
      have af6 := af.trans af5 hd.live
      have fin := Fin.from (D := D) k hd af6
      cases f4 with
      | nx => exact ⟨β5, ex5, os5, ρ4, M4, af6, hd5, fr5, hf⟩
      | ct => exact ⟨β5, ex5, os5, ρ4, M4, af6, hd5, fr5, hf⟩
      | bk =>
        cases hf
        exact fin σ5 H5 β5 ex5 os5 .refl hd5 fr5
      | rt v =>
        cases hf
        exact fin σ5 H5 β5 ex5 os5 .refl hd5 fr5
end

end Py
namespace Py
open PySem PySem.Spec PyProof.Rows L2

/-! ### list comprehensions -/
def wipeE (ρ : Env') : List Nat → Env'
  | [] => ρ
  | v :: vs => (wipeE ρ vs).set v .un
def lcL (tg : D → Env' → Option Env') (c : Env' → Cm Bool) (e : Env' → Cm D) (ρ : Env') : List D → Cm (List D)
  | [], M => some ([], M)
  | d :: ds, M => match tg d ρ with
    | some ρ1 => bnd (c ρ1 M) fun b M1 => if b then bnd (e ρ1 M1) fun y M2 => bnd (lcL tg c e ρ ds M2) fun ys M3 => some (y :: ys, M3) else lcL tg c e ρ ds M1
    | none => none
def gLc (src : Env' → Cm (List D)) (tg : D → Env' → Option Env') (c : Env' → Cm Bool) (e : Env' → Cm D) (vs : List Nat) : Env' → Cm (List D) := fun ρ M => bnd (src ρ M) fun l M1 => if l.length ≤ lim then lcL tg c e (wipeE ρ vs) l M1 else none
def gYes : Env' → Cm Bool := fun _ M => some (true, M)
theorem wipe_at (σ : L2.St) (j : Nat) : ∀ vs : List Nat, (wipe σ vs)[j]? = if j ∈ vs ∧ j < σ.length then some none else σ[j]?
  | [] => by simp [wipe]
  | v :: vs => by
    unfold wipe
    by_cases e : v = j
    · subst e
      by_cases h : v < σ.length
      · rw [List.getElem?_set_self (by rw [wipe_length]; exact h), if_pos ⟨List.mem_cons_self .., h⟩]
      · rw [if_neg fun z => h z.2, List.getElem?_eq_none (by rw [List.length_set, wipe_length]; omega), List.getElem?_eq_none (by omega)]
    · rw [List.getElem?_set_ne e, wipe_at σ j vs]
      have : (j ∈ v :: vs) ↔ j ∈ vs := ⟨fun h => (List.mem_cons.mp h).resolve_left (Ne.symm e), List.mem_cons_of_mem _⟩
      simp only [this]
theorem wipe_same {σ σ' : L2.St} {vs : List Nat} (h : ∀ j, j ∉ vs → σ'[j]? = (wipe σ vs)[j]?) (hl : σ'.length = (wipe σ vs).length) : wipe σ' vs = wipe σ vs := by
  refine List.ext_getElem? fun j => ?_
  rw [wipe_length] at hl
  rw [wipe_at, wipe_at, hl]
  split
  · rfl
  · rename_i n
    by_cases hj : j ∈ vs
    · have : ¬ j < σ.length := fun z => n ⟨hj, z⟩
      rw [List.getElem?_eq_none (by omega), List.getElem?_eq_none (by omega)]
    · rw [h j hj, wipe_at, if_neg fun z => hj z.1]
theorem Fram.wipe1 {K : PySem.W.Frag} {mg : Str → Option Value} {β ex : List Addr} {os : List (Option Addr)} {σ : L2.St} {H : Hp} {ρ : Env'} (fr : Fram K mg β ex os σ H ρ) (i : Nat) : Fram K mg β ex (os.set i none) (σ.set i none) H (ρ.set i .un) := by
  have old : ∀ j a, (os.set i none)[j]? = some (some a) → os[j]? = some (some a) := fun j a h => by
    rw [List.getElem?_set] at h
    split at h
    · split at h <;> cases h
    · exact h
  refine ⟨by simp [fr.len], by simp [fr.leo], fun j t hj => ?_, fun j k a h1 h2 => fr.nd j k a (old j a h1) (old k a h2), fun j a h1 => fr.ow j a (old j a h1)⟩
  rw [List.getElem?_set] at hj
  rw [List.getElem?_set, List.getElem?_set]
  by_cases e : i = j
  · rw [if_pos e] at hj ⊢
    rw [if_pos e]
    split at hj
    · cases hj
      show (if i < os.length then some none else none : Option (Option Addr)).join = none
      split <;> rfl
    · cases hj
  · rw [if_neg e] at hj ⊢
    rw [if_neg e]
    exact fr.sl j t hj
theorem Fram.wipe {K : PySem.W.Frag} {mg : Str → Option Value} {β ex : List Addr} {os : List (Option Addr)} {σ : L2.St} {H : Hp} {ρ : Env'} (fr : Fram K mg β ex os σ H ρ) : ∀ vs : List Nat, ∃ os', Fram K mg β ex os' (wipe σ vs) H (wipeE ρ vs)
  | [] => ⟨os, fr⟩
  | v :: vs => by
    obtain ⟨os', h⟩ := fr.wipe vs
    exact ⟨_, h.wipe1 v⟩
section
variable {X : Cx} {pos : Pos} {tg iter elt : Expr}
theorem lc_ok {K : PySem.W.Frag} {mg : Str → Option Value} {own : Option Nat} {is vs : List Nat} {src : Env' → Cm (List D)} {t : D → Env' → Option Env'} {c : Env' → Cm Bool} {e : Env' → Cm D} {σ : L2.St} {H : Hp} {Q : VK} (hv : ∀ i ∈ is, i ∈ vs) (h : tG K mg (RL K mg) (gLc src t c e vs) σ H Q) :
    tLc (tI' K mg own src) (tGt K mg is t) (tT' K mg c) (tG K mg (RD K mg) e) vs σ H Q := by
  obtain ⟨β, ex, os, ρ, M, ys, M', hd, fr, hg, k⟩ := h
  obtain ⟨l, M1, e1, hg⟩ := bnd_eq hg
  split at hg
  case isFalse => cases hg
  rename_i hlim
  refine ⟨β, ex, os, ρ, M, l, M1, hd, fr, e1, fun J H1 β1 ex1 S af1 hd1 hS hW Dd hD => ?_⟩
  have W := hW (fun a => a ∉ β1) fun a ha => (hS a ha).1
  obtain ⟨b1, b2, b3⟩ := own_new (H0 := H) (vs := []) (l := []) af1.dom hd1 hD (Nat.zero_le _) .nil
  refine ⟨fun i m H2 => ∃ β2 ex2 M2 acc zs ws, i ≤ l.length ∧ m = l.length - i ∧ After β1 ex1 H1 β2 ex2 H2 ∧ Dd ∈ ex2 ∧ Hold K mg β2 ex2 H2 M2 ∧ H2 Dd = some (.lst acc) ∧ acc.length ≤ i ∧ Reps K mg β2 ex2 H2 acc zs ∧ Dd ∉ β2 ∧
      lcL t c e (wipeE ρ vs) (l.drop i) M2 = some (ws, M') ∧ ys = zs ++ ws,
    ⟨l.length, β1, Dd :: ex1, M1, [], [], ys, Nat.zero_le _, rfl, b1, List.mem_cons_self .., b2, upd_same, Nat.le_refl _, .nil, hd1.nb hD, by rw [List.drop_zero]; exact hg, rfl⟩, fun i m H2 hw => ?_⟩
  obtain ⟨β2, ex2, M2, acc, zs, ws, hi, hm, af2, dx2, hd2, hacc, hal, hrs, hnd, hf, hys⟩ := hw
  -- all of it from the source's end on
  have w := W i β2 ex2 H2 (fun a o h q => af2.same a o h q) (af2.keep hd1)
  by_cases hlt : i < l.length
  · have hget : l[i]? = some l[i] := List.getElem?_eq_getElem hlt
    obtain ⟨go, y⟩ := w.2 _ hget
    rw [List.drop_eq_getElem_cons hlt] at hf
    refine .inr ⟨go, fun H3 => ∃ β2 ex2 M2 acc zs ws, After β1 ex1 H1 β2 ex2 H3 ∧ Dd ∈ ex2 ∧ Hold K mg β2 ex2 H3 M2 ∧ H3 Dd = some (.lst acc) ∧ acc.length ≤ i + 1 ∧ Reps K mg β2 ex2 H3 acc zs ∧ Dd ∉ β2 ∧
      lcL t c e (wipeE ρ vs) (l.drop (i + 1)) M2 = some (ws, M') ∧ ys = zs ++ ws, fun H3 h3 => ?_, fun x H3 hy => ?_⟩
    · obtain ⟨β3, ex3, M3, acc3, zs3, ws3, q1, q2, q3, q4, q5, q6, q7, q8, q9⟩ := h3
      exact ⟨l.length - (i + 1), by omega, β3, ex3, M3, acc3, zs3, ws3, hlt, rfl, q1, q2, q3, q4, q5, q6, q7, q8, q9⟩
    · obtain ⟨gr, rx⟩ := y x H3 hy
      unfold lcL at hf
      split at hf
      · rename_i ρ3 h3
        obtain ⟨b, M4, e4, hf⟩ := bnd_eq hf
        have hd3 := hd2.grow gr
        have af3 := af2.trans (gr.after (β := β2) (ex := ex2))
        -- the frame, wiped, over the heap as it stands
        have aft : After β ex H β2 ex2 H3 := af1.trans af3
        obtain ⟨osw, frw⟩ := (fr.after hd aft).wipe vs
        refine ⟨β2, ex2, osw, wipeE ρ vs, M2, _, ρ3, hd3, frw, rx, h3, fun σ4 os4 fr4 z1 z2 z3 => ⟨wipe_same (fun j hj => z2 j fun z => hj (hv j z)) z3, β2, ex2, os4, ρ3, M2, b, M4, hd3, fr4, e4, fun H5 β5 ex5 af5 hd5 => ?_⟩⟩
        have fr5 := fr4.after hd3 af5
        have af6 := af3.trans af5
        have hac5 : H5 Dd = some (.lst acc) := af5.same Dd _ (gr Dd _ hacc) hnd
        have nb : ∀ {β0 ex0 β0' ex0' : List Addr} {G G' : Hp} {o : HO}, After β0 ex0 G β0' ex0' G' → Dd ∉ β0 → G Dd = some o → Dd ∉ β0' := fun a h1 h2 z => by
          obtain ⟨n, e, hn⟩ := a.pre
          rw [e] at z
          rcases List.mem_append.mp z with z | z
          · exact h1 z
          · have := hn Dd z
            rw [h2] at this
            cases this
        have hn5 : Dd ∉ β5 := nb af5 hnd (gr Dd _ hacc)
        have dx5 : Dd ∈ ex5 := af5.up _ dx2
        have hrs5 : Reps K mg β5 ex5 H5 acc zs := (hrs.keep (gr.keep (β := β2) (ex := ex2))).keep (af5.keep hd3)
        cases b with
        | false => exact iteF ⟨β5, ex5, M4, acc, zs, ws, af6, dx5, hd5, hac5, by omega, hrs5, hn5, hf, hys⟩
        | true =>
          obtain ⟨yv, M6, e6, hf⟩ := bnd_eq hf
          obtain ⟨ws', M7, e7, hf⟩ := bnd_eq hf
          cases hf
          refine iteT (tG.go hd5 fr5 e6 fun v7 H7 β7 ex7 af7 hd7 fr7 r7 => ?_)
          have hac7 : H7 Dd = some (.lst acc) := af7.same Dd _ hac5 hn5
          have hn7 : Dd ∉ β7 := nb af7 hn5 hac5
          have dx7 : Dd ∈ ex7 := af7.up _ dx5
          have kp : Keep β7 ex7 H7 β7 ex7 (upd H7 Dd (.lst (acc ++ [v7]))) := ⟨fun _ _ h => h, fun a o h n => ⟨by
            rw [upd_ne fun z => n (by rw [z]; exact dx7)]
            exact h, n⟩⟩
          have rs7 : Reps K mg β7 ex7 (upd H7 Dd (.lst (acc ++ [v7]))) (acc ++ [v7]) (zs ++ [yv]) := ((hrs5.keep (af7.keep hd5)).append (.one r7)).keep kp
          have af8 := af6.trans af7
          refine ⟨acc, hac7, lim_ok (by omega), β7, ex7, M6, acc ++ [v7], zs ++ [yv], ws', ⟨af8.pre, af8.up, af8.nw, fun a o h q => ?_, fun a h => af8.dom a ?_⟩, dx7, ⟨hd7.len, hd7.nd, hd7.sub, fun a h => ?_, fun j a o h1 h2 => ?_⟩, upd_same, by rw [List.length_append, List.length_singleton]; omega, rs7, hn7, e7, by rw [hys, List.append_assoc]; rfl⟩
          · rw [upd_ne (ne_of_none h hD)]
            exact af8.same a o h q
          · by_cases z : a = Dd
            · rw [z, upd_same] at h; cases h
            · rw [upd_ne z] at h; exact h
          · by_cases z : a = Dd
            · rw [z, upd_same]; simp
            · rw [upd_ne z]; exact hd7.live a h
          · have na : a ≠ Dd := fun z => hn7 (z ▸ List.mem_of_getElem? h1)
            exact (hd7.objs j a o h1 h2).keep kp fun o h => by rw [upd_ne na]; exact h
      · cases hf
  · have e : i = l.length := by omega
    subst e
    rw [List.drop_length] at hf
    cases hf
    rw [List.append_nil] at hys
    subst hys
    refine .inl ⟨w.1 (Nat.le_refl _), k _ H2 β2 ex2 (af1.trans af2) hd2 ⟨Dd, rfl, af1.dom _ hD, dx2, hnd, acc, hacc, Nat.le_of_lt (lim_ok (by omega)), hrs⟩⟩
abbrev DTs (X : Cx) (ifs : List Expr) (g : Env' → Cm Bool) : Prop := PTs X ifs (tT' X.K X.mg g)
theorem dts_nil : DTs X [] gYes := ⟨fun pins s σ H Q I ⟨β, ex, os, ρ, M, b, M', hd, fr, hg, k⟩ => by
  cases hg
  exact pts_nil.run pins s σ H Q I (k _ _ _ .refl hd)⟩
theorem dts_one {c : Expr} {g : Env' → Cm Bool} (h : DT X c g) : DTs X [c] g := pts_one h
theorem dl_lc {scope : Scope} {ifs : List Expr} {own : List (Str × Nat)} {ow : Option Nat} {is : List Nat} {src : Env' → Cm (List D)} {t : D → Env' → Option Env'} {c : Env' → Cm Bool} {ge : Env' → Cm D} (hc : X.calm = true) (hN : X.N.Nodup) (hi : DP X tg iter ow src) (ok : BlkOk X.N X.env.scope scope own)
    (hg : ∀ (s : Shared) (H : Hp) (C : Addr) (cl : List (Str × Addr)) (fp : List Addr), DG (X.blk s H scope (compEnvC scope cl C X.env) fp) tg is t) (ht : ∀ (s : Shared) (H : Hp) (C : Addr) (cl : List (Str × Addr)) (fp : List Addr), DTs (X.blk s H scope (compEnvC scope cl C X.env) fp) ifs c)
    (he : ∀ (s : Shared) (H : Hp) (C : Addr) (cl : List (Str × Addr)) (fp : List Addr), DE (X.blk s H scope (compEnvC scope cl C X.env) fp) elt ge) (hv : ∀ i ∈ is, i ∈ own.map (·.2) := by decide) (hs : ∀ x, foldedSetIterable iter X.env x = pure x := by intro _; rfl) :
    DL X (.ListComp elt [⟨tg, iter, ifs, 0⟩] scope pos) (gLc src t c ge (own.map (·.2))) := (pe_lc hc hN hi ok hg ht he hs).imp fun σ H Q h => lc_ok hv h
/-- x = [..] on one line -/
theorem ds_setLc {i : Nat} {y : Str} {py spos : Pos} {gs : Env' → Cm Slot} {scope : Scope} {ifs : List Expr} {own : List (Str × Nat)} {ow : Option Nat} {is : List Nat} {src : Env' → Cm (List D)} {t : D → Env' → Option Env'} {c : Env' → Cm Bool} {ge : Env' → Cm D} (hc : X.calm = true) (hN : X.N.Nodup) (hy : X.N[i]? = some y) (hyl : X.env.scope.names.lookup y = some .local)
    (hsw : swapsWith (.ListComp elt [⟨tg, iter, ifs, 0⟩] scope pos) (some (.Name y py)) spos.line X.env = pure true) (hi : DP X tg iter ow src) (ok : BlkOk X.N X.env.scope scope own)
    (hg : ∀ (s : Shared) (H : Hp) (C : Addr) (cl : List (Str × Addr)) (fp : List Addr), DG (X.blk s H scope (compEnvC scope cl C X.env) fp) tg is t) (ht : ∀ (s : Shared) (H : Hp) (C : Addr) (cl : List (Str × Addr)) (fp : List Addr), DTs (X.blk s H scope (compEnvC scope cl C X.env) fp) ifs c)
    (he : ∀ (s : Shared) (H : Hp) (C : Addr) (cl : List (Str × Addr)) (fp : List Addr), DE (X.blk s H scope (compEnvC scope cl C X.env) fp) elt ge)
    (hq : ∀ K mg σ H Q, tG K mg (RS K mg) gs σ H Q → tG K mg (RL K mg) (gLc src t c ge (own.map (·.2))) σ H Q) (hv : ∀ i ∈ is, i ∈ own.map (·.2) := by decide) (hs : ∀ x, foldedSetIterable iter X.env x = pure x := by intro _; rfl) :
    DS X (.Assign [.Name y py] (.ListComp elt [⟨tg, iter, ifs, 0⟩] scope pos) spos) (gAsg i gs) := ds_asgLc (ps_setLc hc hN hy hyl hsw hi ok hg ht he hs) fun σ H Q h => lc_ok hv (hq _ _ σ H Q h)
theorem lq_own {g : Env' → Cm (List D)} (K : PySem.W.Frag) (mg : Str → Option Value) (σ : L2.St) (H : Hp) (Q : VK) (h : tG K mg (RS K mg) (gSl g) σ H Q) : tG K mg (RL K mg) g σ H Q := by
  obtain ⟨β, ex, os, ρ, M, c, M', hd, fr, hg, k⟩ := h
  obtain ⟨x, M1, e1, hg⟩ := bnd_eq hg
  cases hg
  exact tG.go hd fr e1 fun v1 H1 β1 ex1 af1 hd1 fr1 r => k _ _ _ _ af1 hd1 r
theorem lq_fz {g : Env' → Cm (List D)} (K : PySem.W.Frag) (mg : Str → Option Value) (σ : L2.St) (H : Hp) (Q : VK) (h : tG K mg (RS K mg) (gSd (gFz g)) σ H Q) : tG K mg (RL K mg) g σ H Q := by
  obtain ⟨β, ex, os, ρ, M, c, M', hd, fr, hg, k⟩ := h
  obtain ⟨x, M1, e1, hg⟩ := bnd_eq hg
  cases hg
  obtain ⟨x, M1, e1, hg⟩ := bnd_eq e1
  cases hg
  refine tG.go hd fr e1 fun v1 H1 β1 ex1 af1 hd1 fr1 ⟨p, ep, hp, hx, hn, vs, hv, hz, rs⟩ => ?_
  obtain ⟨q1, q2, q3, q4⟩ := freeze af1 hd1 hp hn hd.live
  subst ep
  exact k _ H1 β1 _ q1 q2 (.lst hv q4 hz (rs.keep q3))
end
end Py
/-! operators over plain data -/
namespace Py
open PySem PySem.Spec PyProof.Rows L2
section
variable {K : PySem.W.Frag} {mg : Str → Option Value}
theorem OkR2.or {r r' : R2} {f : D → D → Option D} (h : ∀ a b d, f a b = some d → (∀ (β ex : List Addr) (H : Hp) (M : Stor) (x y : V) (Q : VK), Hold K mg β ex H M → Rep K mg β ex H x a → Rep K mg β ex H y b → (∀ v H', Grow H H' → Rep K mg β ex H' v d → Q v H') → r x y H Q ∨ r' x y H Q)) :
    OkR2 K mg (fun x y H Q => r x y H Q ∨ r' x y H Q) f := fun β ex H M x y a b d Q hd ra rb hf k => h a b d hf β ex H M x y Q hd ra rb k
def iOp (C : Int → Int → Bool) (f : Int → Int → Int) : D → D → Option D := fun a b => match a, b with
  | .int i, .int j => if C i j then some (.int (f i j)) else none
  | _, _ => none
theorem ok_i {P : Int → Int → Prop} {C : Int → Int → Bool} {f : Int → Int → Int} (h : ∀ i j, C i j = true → P i j) : OkR2 K mg (rI P fun i j => .int (f i j)) (iOp C f) := fun β ex H M x y a b d Q hd ra rb hf k => by
  unfold iOp at hf
  split at hf
  · split at hf
    · rename_i hc
      cases hf
      cases ra.int_inv
      cases rb.int_inv
      exact ⟨_, _, rfl, rfl, h _ _ hc, k _ _ Grow.refl (.int _)⟩
    · cases hf
  · cases hf
def iOp0 (f : Int → Int → Int) : D → D → Option D := fun a b => match a, b with
  | .int i, .int j => some (.int (f i j))
  | _, _ => none
theorem ok_i0 {f : Int → Int → Int} : OkR2 K mg (rI0 fun i j => .int (f i j)) (iOp0 f) := fun β ex H M x y a b d Q hd ra rb hf k => by
  unfold iOp0 at hf
  split at hf
  · cases hf
    cases ra.int_inv
    cases rb.int_inv
    exact ⟨_, _, rfl, rfl, k _ _ Grow.refl (.int _)⟩
  · cases hf
def iCmp (f : Int → Int → Bool) : D → D → Option D := fun a b => match a, b with
  | .int i, .int j => some (.bl (f i j))
  | _, _ => none
theorem ok_ic {f : Int → Int → Bool} : OkR2 K mg (rI0 fun i j => .bl (f i j)) (iCmp f) := fun β ex H M x y a b d Q hd ra rb hf k => by
  unfold iCmp at hf
  split at hf
  · cases hf
    cases ra.int_inv
    cases rb.int_inv
    exact ⟨_, _, rfl, rfl, k _ _ Grow.refl (.bl _)⟩
  · cases hf
end
section
variable {X : Cx} {pos : Pos} {a b c e : Expr} {ga gb gc : Env' → Cm D}
/-- + of ints, texts, tuples, lists (a new list as data) -/
def dAdd : D → D → Option D := fun a b => match a, b with
  | .int i, .int j => some (.int (i + j))
  | .str x, .str y => if x.length + y.length ≤ lim then some (.str (x ++ y)) else none
  | .tup l, .tup m => if l.length + m.length ≤ lim then some (.tup (l ++ m)) else none
  | .lst l, .lst m => if l.length + m.length ≤ lim then some (.lst (l ++ m)) else none
  | _, _ => none
theorem le_lim {n : Nat} (h : n ≤ lim) : n ≤ sizeLine := Nat.le_of_lt (lim_ok h)
theorem Rep.tup_inv {K : PySem.W.Frag} {mg : Str → Option Value} {β ex : List Addr} {H : Hp} {v : V} {l : List D} (r : Rep K mg β ex H v (.tup l)) : ∃ a vs, v = .ref a ∧ SqT K H a vs ∧ vs.length ≤ sizeLine ∧ Reps K mg β ex H vs l := by
  cases r with
  | tup q z rs => exact ⟨_, _, rfl, q.elim (fun q => .inl (.inl q.1)) .inr, z, rs⟩
theorem Rep.lst_inv {K : PySem.W.Frag} {mg : Str → Option Value} {β ex : List Addr} {H : Hp} {v : V} {l : List D} (r : Rep K mg β ex H v (.lst l)) : ∃ a vs, v = .ref a ∧ H a = some (.lst vs) ∧ a ∉ ex ∧ vs.length ≤ sizeLine ∧ Reps K mg β ex H vs l := by
  cases r with
  | lst q n z rs => exact ⟨_, _, rfl, q, n, z, rs⟩
theorem new_tup {K : PySem.W.Frag} {mg : Str → Option Value} {β ex : List Addr} {H : Hp} {M : Stor} {p : Addr} {vs : List V} {l : List D} (hd : Hold K mg β ex H M) (hp : H p = none) (hz : vs.length ≤ sizeLine) (r : Reps K mg β ex H vs l) : Grow H (upd H p (.tup vs)) ∧ Rep K mg β ex (upd H p (.tup vs)) (.ref p) (.tup l) := by
  have gr : Grow H (upd H p (.tup vs)) := Grow.new hp
  exact ⟨gr, .tup (.inl ⟨upd_same, live_new hd hp⟩) hz (r.keep gr.keep)⟩
theorem new_lst {K : PySem.W.Frag} {mg : Str → Option Value} {β ex : List Addr} {H : Hp} {M : Stor} {p : Addr} {vs : List V} {l : List D} (hd : Hold K mg β ex H M) (hp : H p = none) (hz : vs.length ≤ sizeLine) (r : Reps K mg β ex H vs l) : Grow H (upd H p (.lst vs)) ∧ Rep K mg β ex (upd H p (.lst vs)) (.ref p) (.lst l) := by
  have gr : Grow H (upd H p (.lst vs)) := Grow.new hp
  exact ⟨gr, .lst upd_same (live_new hd hp) hz (r.keep gr.keep)⟩
theorem Reps.nil_iff {K : PySem.W.Frag} {mg : Str → Option Value} {β ex : List Addr} {H : Hp} {vs : List V} {l : List D} (r : Reps K mg β ex H vs l) : vs = [] ↔ l = [] := by
  cases r <;> simp
abbrev rAddD (K : PySem.W.Frag) : R2 := fun x y H Q => (rI0 fun i j => .int (i + j)) x y H Q ∨ (∃ i j, x = .str i ∧ y = .str j ∧ i.length + j.length ≤ sizeLine ∧ Q (.str (i ++ j)) H) ∨ rCatA K x y H Q ∨ rCat x y H Q
theorem op_addD : OpR X (binaryOp .Add) (rAddD X.K) := op_add.or (op_add_str.or (op_catA.or op_cat))
theorem ok_addD {K : PySem.W.Frag} {mg : Str → Option Value} : OkR2 K mg (rAddD K) dAdd := fun β ex H M x y a b d Q hd ra rb hf k => by
  unfold dAdd at hf
  split at hf
  · cases hf
    cases ra.int_inv
    cases rb.int_inv
    exact .inl ⟨_, _, rfl, rfl, k _ _ Grow.refl (.int _)⟩
  · split at hf
    · rename_i hl
      cases hf
      cases ra.str_inv
      cases rb.str_inv
      exact .inr (.inl ⟨_, _, rfl, rfl, le_lim hl, k _ _ Grow.refl (.str _)⟩)
    · cases hf
  · split at hf
    · rename_i hl
      cases hf
      obtain ⟨p, vs, rfl, h1, z1, r1⟩ := ra.tup_inv
      obtain ⟨q, ws, rfl, h2, z2, r2⟩ := rb.tup_inv
      refine .inr (.inr (.inl ⟨p, q, vs, ws, rfl, rfl, h1, h2, by rw [r1.length, r2.length]; exact le_lim hl, fun e => ?_, fun _ e => ?_, fun _ _ t ht => ?_⟩))
      · cases r1.nil_iff.mp e
        exact k _ _ Grow.refl rb
      · cases r2.nil_iff.mp e
        refine k _ _ Grow.refl ?_
        rw [List.append_nil]
        exact ra
      · obtain ⟨g, r⟩ := new_tup hd ht (by rw [List.length_append, r1.length, r2.length]; exact le_lim hl) (r1.append r2)
        exact k _ _ g r
    · cases hf
  · split at hf
    · rename_i hl
      cases hf
      obtain ⟨p, vs, rfl, h1, n1, z1, r1⟩ := ra.lst_inv
      obtain ⟨q, ws, rfl, h2, n2, z2, r2⟩ := rb.lst_inv
      refine .inr (.inr (.inr ⟨p, q, vs, ws, rfl, rfl, h1, h2, by rw [r1.length, r2.length]; exact le_lim hl, fun t ht => ?_⟩))
      obtain ⟨g, r⟩ := new_lst hd ht (by rw [List.length_append, r1.length, r2.length]; exact le_lim hl) (r1.append r2)
      exact k _ _ g r
    · cases hf
  · cases hf
theorem de_add (ha : DE X a ga) (hb : DE X b gb) : DE X (.BinOp a .Add b pos) (gBin dAdd ga gb) := de_op op_addD ok_addD ha hb
def dSub := iOp0 (· - ·)
theorem de_sub (ha : DE X a ga) (hb : DE X b gb) : DE X (.BinOp a .Sub b pos) (gBin dSub ga gb) := de_op op_sub ok_i0 ha hb
/-- * of ints, a list times an int -/
def cMul (i j : Int) : Bool := decide (i.natAbs.log2 + j.natAbs.log2 < 1000000)
def dMul : D → D → Option D := fun a b => match a, b with
  | .int i, .int j => if cMul i j then some (.int (i * j)) else none
  | .lst l, .int k => if l.length * k.toNat ≤ lim ∧ 0 ≤ k ∧ k ≤ (lim : Int) then some (.lst (List.replicate k.toNat l).flatten) else none
  | _, _ => none
theorem Reps.rep {K : PySem.W.Frag} {mg : Str → Option Value} {β ex : List Addr} {H : Hp} {vs : List V} {l : List D} (r : Reps K mg β ex H vs l) : ∀ n : Nat, Reps K mg β ex H (List.replicate n vs).flatten (List.replicate n l).flatten
  | 0 => .nil
  | n + 1 => by
    rw [List.replicate_succ, List.replicate_succ, List.flatten_cons, List.flatten_cons]
    exact r.append (Reps.rep r n)
theorem flat_rep_len {α : Type} (l : List α) : ∀ n : Nat, (List.replicate n l).flatten.length = l.length * n
  | 0 => rfl
  | n + 1 => by rw [List.replicate_succ, List.flatten_cons, List.length_append, flat_rep_len l n, Nat.mul_succ, Nat.add_comm]
abbrev rMulD : R2 := fun x y H Q => (rI CMulW fun i j => .int (i * j)) x y H Q ∨ rRep x y H Q
theorem ok_mulD {K : PySem.W.Frag} {mg : Str → Option Value} : OkR2 K mg rMulD dMul := fun β ex H M x y a b d Q hd ra rb hf k => by
  unfold dMul at hf
  split at hf
  · split at hf
    · rename_i hc
      cases hf
      cases ra.int_inv
      cases rb.int_inv
      exact .inl ⟨_, _, rfl, rfl, (show _ < _ from of_decide_eq_true (show decide (_ < _) = true from hc)), k _ _ Grow.refl (.int _)⟩
    · cases hf
  · split at hf
    · rename_i l kk hl
      cases hf
      obtain ⟨p, vs, rfl, h1, n1, z1, r1⟩ := ra.lst_inv
      cases rb.int_inv
      have e1 : (lim : Int) = 16000000 := rfl
      have e2 : (lim : Nat) = 16000000 := rfl
      refine .inr ⟨p, _, vs, rfl, rfl, h1, by omega, by omega, by rw [r1.length]; exact le_lim hl.1, fun t ht => ?_⟩
      obtain ⟨g, r⟩ := new_lst hd ht (by rw [flat_rep_len, r1.length]; exact le_lim hl.1) (r1.rep kk.toNat)
      exact k _ _ g r
    · cases hf
  · cases hf
theorem de_mul (ha : DE X a ga) (hb : DE X b gb) : DE X (.BinOp a .Mult b pos) (gBin dMul ga gb) := de_op (op_mulW.or op_rep) ok_mulD ha hb
def dFdiv := iOp (fun _ j => decide (j ≠ 0 ∧ j.natAbs < 1073741824)) Int.fdiv
theorem de_fdiv (ha : DE X a ga) (hb : DE X b gb) : DE X (.BinOp a .FloorDiv b pos) (gBin dFdiv ga gb) := de_op op_fdivN (ok_i fun _ _ h => (show _ ∧ _ from of_decide_eq_true (show decide (_ ∧ _) = true from h))) ha hb
def dMod := iOp (fun _ j => decide (j ≠ 0)) Int.fmod
theorem de_mod (ha : DE X a ga) (hb : DE X b gb) : DE X (.BinOp a .Mod b pos) (gBin dMod ga gb) := de_op op_modN (ok_i fun _ _ h => of_decide_eq_true h) ha hb
def cPow (i j : Int) : Bool := decide (0 ≤ j ∧ j ≤ 1000000 ∧ i.natAbs < 2 ^ 64)
def dPow := iOp cPow fun i j => i ^ j.toNat
theorem de_pow (ha : DE X a ga) (hb : DE X b gb) : DE X (.BinOp a .Pow b pos) (gBin dPow ga gb) := de_op op_pow (ok_i fun _ _ h => (show _ ∧ _ from of_decide_eq_true (show decide (_ ∧ _) = true from h))) ha hb
def dShl := iOp cPow fun i j => i * 2 ^ j.toNat
theorem de_shl (ha : DE X a ga) (hb : DE X b gb) : DE X (.BinOp a .LShift b pos) (gBin dShl ga gb) := de_op op_shl (ok_i fun _ _ h => (show _ ∧ _ from of_decide_eq_true (show decide (_ ∧ _) = true from h))) ha hb
def dShr := iOp (fun _ j => decide (0 ≤ j)) fun i j => i / 2 ^ j.toNat
theorem de_shr (ha : DE X a ga) (hb : DE X b gb) : DE X (.BinOp a .RShift b pos) (gBin dShr ga gb) := de_op op_shr (ok_i fun _ _ h => of_decide_eq_true h) ha hb
def dAnd := iOp0 Builtin.bitAnd
theorem de_band (ha : DE X a ga) (hb : DE X b gb) : DE X (.BinOp a .BitAnd b pos) (gBin dAnd ga gb) := de_op op_and ok_i0 ha hb
def dOr := iOp0 Builtin.bitOr
theorem de_bor (ha : DE X a ga) (hb : DE X b gb) : DE X (.BinOp a .BitOr b pos) (gBin dOr ga gb) := de_op op_or ok_i0 ha hb
def dXor := iOp0 Builtin.bitXor
theorem de_bxor (ha : DE X a ga) (hb : DE X b gb) : DE X (.BinOp a .BitXor b pos) (gBin dXor ga gb) := de_op op_xor ok_i0 ha hb
def iUn (f : Int → Int) : D → Option D := fun a => match a with
  | .int i => some (.int (f i))
  | _ => none
theorem ok_iu {K : PySem.W.Frag} {mg : Str → Option Value} {f : Int → Int} : ∀ β ex H x a d Q, Rep K mg β ex H x a → iUn f a = some d → (∀ v, Rep K mg β ex H v d → Q v H) → rU (fun i => .int (f i)) x H Q := fun β ex H x a d Q r h k => by
  unfold iUn at h
  split at h
  · cases h
    cases r.int_inv
    exact ⟨_, rfl, k _ (.int _)⟩
  · cases h
def dNeg := iUn Neg.neg
theorem de_neg (ha : DE X a ga) : DE X (.UnaryOp .USub a pos) (gUn dNeg ga) := de_un un_neg ok_iu ha
def dInv := iUn Builtin.bitNot
theorem de_inv (ha : DE X a ga) : DE X (.UnaryOp .Invert a pos) (gUn dInv ga) := de_un un_inv ok_iu ha

/-! ### comparisons -/
def dLt := iCmp fun i j => decide (i < j)
def dLe := iCmp fun i j => decide (i ≤ j)
def dGt := iCmp fun i j => decide (j < i)
def dGe := iCmp fun i j => decide (j ≤ i)
/- data that are compared -/
mutual
def toP : D → PyData
  | .non => .none
  | .bl b => .bool b
  | .int i => .int i
  | .str x => .str x
  | .tup l => .tuple (toPs l)
  | .lst l => .list (toPs l)
  | .scr l => .list (toPs l)
  | .dct _ => .dict []
  | .obj _ _ => .dict []
  | .loc _ => .dict []
  | .glo _ => .dict []
def toPs : List D → List PyData
  | [] => []
  | d :: l => toP d :: toPs l
end
mutual
theorem Rep.dp {K : PySem.W.Frag} {mg : Str → Option Value} {β ex : List Addr} {H : Hp} : ∀ {v : V} {d : D}, Rep K mg β ex H v d → (toP d).canLay0 = true → Dp K H v (toP d)
  | _, _, .non, _ => .non
  | _, _, .bl b, _ => .bl b
  | _, _, .int i, _ => .int i
  | _, _, .str x, _ => .str x
  | _, _, .tup q _ rs, h => .tup (q.elim (fun q => .inl (.inl q.1)) .inr) (Reps.dp rs (by simpa only [toP, PyData.canLay0] using h))
  | _, _, .lst q _ _ rs, h => .lst (.inl (.inl q)) (Reps.dp rs (by simpa only [toP, PyData.canLay0] using h))
  | _, _, .scr q _ rs, h => .lst (q.elim (fun q => .inl q.1) .inr) (Reps.dp rs (by simpa only [toP, PyData.canLay0] using h))
  | _, _, .dctK _ _ _ _, h => by simp [toP, PyData.canLay0] at h
  | _, _, .dctT _ _ _ _, h => by simp [toP, PyData.canLay0] at h
  | _, _, .obj _ _ _ _ _, h => by simp [toP, PyData.canLay0] at h
  | _, _, .loc _, h => by simp [toP, PyData.canLay0] at h
  | _, _, .glo _, h => by simp [toP, PyData.canLay0] at h
theorem Reps.dp {K : PySem.W.Frag} {mg : Str → Option Value} {β ex : List Addr} {H : Hp} : ∀ {vs : List V} {l : List D}, Reps K mg β ex H vs l → PyData.canLayAll0 (toPs l) = true → DpAll K H vs (toPs l)
  | _, _, .nil, _ => .nil
  | _, _, .cons r rs, h => by
    simp only [toPs, PyData.canLayAll0, Bool.and_eq_true] at h
    exact .cons (Rep.dp r h.1) (Reps.dp rs h.2)
end
def shp (d : D) : Bool := SeqAt.shaped (toP d)
def eqD (a b : D) : Bool := PyData.eqv (toP a) (toP b)
def dEq : D → D → Option D := fun a b => if shp a && shp b then some (.bl (eqD a b)) else none
def dNe : D → D → Option D := fun a b => if shp a && shp b then some (.bl (!eqD a b)) else none
theorem Rep.dp' {K : PySem.W.Frag} {mg : Str → Option Value} {β ex : List Addr} {H : Hp} {v : V} {d : D} (r : Rep K mg β ex H v d) (h : shp d = true) : Dp K H v (toP d) := r.dp (SeqAt.canLay_of_shaped h)
theorem ok_eqD {K : PySem.W.Frag} {mg : Str → Option Value} : OkR2 K mg (rEqD K) dEq := fun β ex H M x y a b d Q hd ra rb hf k => by
  unfold dEq at hf
  split at hf
  · rename_i hs
    cases hf
    obtain ⟨h1, h2⟩ := Bool.and_eq_true_iff.mp hs
    exact ⟨_, _, ra.dp' h1, rb.dp' h2, h1, h2, k _ _ Grow.refl (.bl _)⟩
  · cases hf
theorem ok_neD {K : PySem.W.Frag} {mg : Str → Option Value} : OkR2 K mg (rNeD K) dNe := fun β ex H M x y a b d Q hd ra rb hf k => by
  unfold dNe at hf
  split at hf
  · rename_i hs
    cases hf
    obtain ⟨h1, h2⟩ := Bool.and_eq_true_iff.mp hs
    exact ⟨_, _, ra.dp' h1, rb.dp' h2, h1, h2, k _ _ Grow.refl (.bl _)⟩
  · cases hf
/-- x is None, x is True, x is False -/
def isC (c : D) : D → Bool := fun a => match a, c with
  | .non, .non => true
  | .bl i, .bl j => i == j
  | _, _ => false
def rIsC (neg : Bool) : R2 := fun x y H Q => ∃ b, (y = .non ∧ b = decide (x = .non) ∨ ∃ j, y = .bl j ∧ b = decide (x = .bl j)) ∧ (∀ t, x ≠ .ty t) ∧ Q (.bl (if neg then !b else b)) H
theorem RelV.not_builtin {x : V} {v : Value} (r : RelV x v) : ∀ s, v ≠ .builtin s := fun s e => by
  subst e
  cases x with
  | non => cases r
  | bl _ => cases r
  | int _ => obtain ⟨_, e⟩ := r; cases e
  | str _ => obtain ⟨_, e⟩ := r; cases e
  | byt _ => obtain ⟨_, e⟩ := r; cases e
  | flt _ => obtain ⟨_, e⟩ := r; cases e
  | ref _ => cases r
  | ty _ => cases r
theorem plain_bl {v : Value} {j : Bool} (h : ∀ s, v ≠ .builtin s) : plainIs v (.bool j) = true := by
  cases v <;> first | rfl | exact absurd rfl (h _)
theorem rel_bl {x : V} {v : Value} {j : Bool} (r : RelV x v) : (v == Value.bool j) = decide (x = .bl j) := by
  by_cases e : x = .bl j
  · subst e
    cases r
    simp
  · rw [decide_eq_false e]
    refine beq_eq_false_iff_ne.mpr fun z => e ?_
    subst z
    have := RelV.abs r
    cases this
    rfl
theorem op_isC : OpR X (compareOp .Is) (rIsC false) := by
  intro pins s σ H x y v u Q I rx ry h
  obtain ⟨b, hb, hn, q⟩ := h
  rcases hb with ⟨rfl, rfl⟩ | ⟨j, rfl, rfl⟩
  · cases ry
    exact is_none_gen ⟨.bl _, H, I, by rw [rx.none_iff]; rfl, q⟩
  · cases ry
    exact wpAny_is_plain (plain_bl (RelV.not_builtin rx)) ⟨.bl _, H, I, by rw [rel_bl rx]; rfl, q⟩
theorem op_isNotC : OpR X (compareOp .IsNot) (rIsC true) := by
  intro pins s σ H x y v u Q I rx ry h
  obtain ⟨b, hb, hn, q⟩ := h
  rcases hb with ⟨rfl, rfl⟩ | ⟨j, rfl, rfl⟩
  · cases ry
    exact isnot_none_gen ⟨.bl _, H, I, by rw [rx.none_iff]; rfl, q⟩
  · cases ry
    exact wpAny_isNot_plain (plain_bl (RelV.not_builtin rx)) ⟨.bl _, H, I, by rw [rel_bl rx]; rfl, q⟩
def dIs (neg : Bool) : D → D → Option D := fun a b => match b with
  | .non => some (.bl (if neg then !isC b a else isC b a))
  | .bl _ => some (.bl (if neg then !isC b a else isC b a))
  | _ => none
theorem Rep.is_non {K : PySem.W.Frag} {mg : Str → Option Value} {β ex : List Addr} {H : Hp} {v : V} {d : D} (r : Rep K mg β ex H v d) : isC .non d = decide (v = .non) := by
  cases r <;> rfl
theorem Rep.is_bl {K : PySem.W.Frag} {mg : Str → Option Value} {β ex : List Addr} {H : Hp} {v : V} {d : D} {j : Bool} (r : Rep K mg β ex H v d) : isC (.bl j) d = decide (v = .bl j) := by
  cases r with
  | bl b =>
    show (b == j) = _
    rw [Bool.beq_eq_decide_eq]
    exact decide_eq_decide.mpr ⟨fun e => congrArg V.bl e, fun e => V.bl.inj e⟩
  | _ => simp [isC]
theorem Rep.no_ty {K : PySem.W.Frag} {mg : Str → Option Value} {β ex : List Addr} {H : Hp} {v : V} {d : D} (r : Rep K mg β ex H v d) : ∀ t, v ≠ .ty t := fun t e => by
  subst e
  cases r
theorem ok_isD {K : PySem.W.Frag} {mg : Str → Option Value} {neg : Bool} : OkR2 K mg (rIsC neg) (dIs neg) := fun β ex H M x y a b d Q hd ra rb hf k => by
  unfold dIs at hf
  split at hf
  · cases hf
    cases rb.non_inv
    refine ⟨isC .non a, .inl ⟨rfl, ra.is_non⟩, ra.no_ty, k _ _ Grow.refl (.bl _)⟩
  · cases hf
    cases rb.bl_inv
    exact ⟨_, .inr ⟨_, rfl, ra.is_bl⟩, ra.no_ty, k _ _ Grow.refl (.bl _)⟩
  · cases hf
end
end Py
/-! in, subscripts, slices, built-ins over plain data -/
namespace Py
open PySem PySem.Spec PyProof.Rows L2
section
variable {X : Cx} {pos : Pos} {a b c e : Expr} {ga gb gc : Env' → Cm D} {gq : Env' → Cm (List D)}

/-! ### in -/
def flatD : D → Bool
  | .non => true
  | .bl _ => true
  | .int _ => true
  | .str _ => true
  | _ => false
def vOf : D → V
  | .bl b => .bl b
  | .int i => .int i
  | .str x => .str x
  | _ => .non
theorem Rep.flat {K : PySem.W.Frag} {mg : Str → Option Value} {β ex : List Addr} {H : Hp} {v : V} {d : D} (r : Rep K mg β ex H v d) (h : flatD d = true) : v = vOf d ∧ flatV v = true := by
  cases r <;> first | exact ⟨rfl, rfl⟩ | cases h
theorem Reps.flat {K : PySem.W.Frag} {mg : Str → Option Value} {β ex : List Addr} {H : Hp} : ∀ {vs : List V} {l : List D}, Reps K mg β ex H vs l → l.all flatD = true → vs = l.map vOf ∧ vs.all flatV = true
  | _, _, .nil, _ => ⟨rfl, rfl⟩
  | _, _, .cons r rs, h => by
    rw [List.all_cons, Bool.and_eq_true] at h
    obtain ⟨h1, h2⟩ := r.flat h.1
    obtain ⟨h3, h4⟩ := Reps.flat rs h.2
    exact ⟨by rw [h1, h3]; rfl, by rw [List.all_cons, h2, h4]; rfl⟩
/-- == of flat data -/
def eqF (a b : D) : Bool := eqV (vOf a) (vOf b)
def memF (a : D) (l : List D) : Bool := l.any fun d => eqF d a
def gIn (neg : Bool) (ga : Env' → Cm D) (gq : Env' → Cm (List D)) : Env' → Cm D := fun ρ M => bnd (ga ρ M) fun x M1 => bnd (gq ρ M1) fun l M2 => if flatD x && l.all flatD then some (.bl (if neg then !memF x l else memF x l), M2) else none
theorem in_ok {K : PySem.W.Frag} {mg : Str → Option Value} {neg : Bool} {σ : L2.St} {H : Hp} {Q : VK} (q : tG K mg (RD K mg) (gIn neg ga gq) σ H Q) : tOp (rIn K neg) (tG K mg (RD K mg) ga) (tG K mg (RQ K mg) gq) σ H Q := by
  obtain ⟨β, ex, os, ρ, M, d, M', hd, fr, hg, k⟩ := q
  obtain ⟨x, M1, e1, hg⟩ := bnd_eq hg
  obtain ⟨l, M2, e2, hg⟩ := bnd_eq hg
  split at hg
  · rename_i hf
    cases hg
    obtain ⟨f1, f2⟩ := Bool.and_eq_true_iff.mp hf
    refine tG.go hd fr e1 fun v1 H1 β1 ex1 af1 hd1 fr1 r1 => tG.go hd1 fr1 e2 fun v2 H2 β2 ex2 af2 hd2 fr2 ⟨p, vs, ep, hz, rs, sv⟩ => ?_
    obtain ⟨q1, q2⟩ := r1.flat f1
    obtain ⟨q3, q4⟩ := rs.flat f2
    have em : inV v1 vs = memF x l := by
      subst q1 q3
      unfold inV memF
      rw [List.any_map]
      rfl
    refine ⟨p, vs, ep, sv.sq, q2, q4, ?_⟩
    rw [em]
    exact k _ H2 β2 ex2 (af1.trans af2) hd2 (.bl _)
  · cases hg
theorem de_in (ha : DE X a ga) (hb : DQ X b gq) (hm : behindInMarks .In b = false := by rfl) : DE X (.Compare a [.In] [b] pos) (gIn false ga gq) := (pe_cmpR op_in_seq ha hb hm).imp fun _ _ _ q => in_ok q
theorem de_nin (ha : DE X a ga) (hb : DQ X b gq) (hm : behindInMarks .NotIn b = false := by rfl) : DE X (.Compare a [.NotIn] [b] pos) (gIn true ga gq) := (pe_cmpR op_notIn_seq ha hb hm).imp fun _ _ _ q => in_ok q
theorem dt_in (ha : DE X a ga) (hb : DQ X b gq) (hm : behindInMarks .In b = false := by rfl) : DT X (.Compare a [.In] [b] pos) (gTb (gIn false ga gq)) := (pt_cmpR op_in_seq ha hb hm).imp fun _ _ _ q => tTest_ok (fun _ _ _ q => in_ok q) q
theorem dt_nin (ha : DE X a ga) (hb : DQ X b gq) (hm : behindInMarks .NotIn b = false := by rfl) : DT X (.Compare a [.NotIn] [b] pos) (gTb (gIn true ga gq)) := (pt_cmpR op_notIn_seq ha hb hm).imp fun _ _ _ q => tTest_ok (fun _ _ _ q => in_ok q) q

/-! ### subscripts -/
def gIx (gq : Env' → Cm (List D)) (gb : Env' → Cm D) : Env' → Cm D := fun ρ M => bnd (gq ρ M) fun l M1 => bnd (gb ρ M1) fun i M2 => match i with
  | .int i => lft (atI l i) M2
  | _ => none
theorem Reps.atI {K : PySem.W.Frag} {mg : Str → Option Value} {β ex : List Addr} {H : Hp} {vs : List V} {l : List D} {i : Int} {d : D} (r : Reps K mg β ex H vs l) (h : L2.atI l i = some d) : ∃ v, L2.atI vs i = some v ∧ Rep K mg β ex H v d := by
  unfold L2.atI at h ⊢
  rw [r.length]
  cases q : ixN l.length i with
  | none => rw [q] at h; cases h
  | some j =>
    rw [q] at h
    exact r.getD h
theorem ix_ok {K : PySem.W.Frag} {mg : Str → Option Value} {σ : L2.St} {H : Hp} {Q : VK} (q : tG K mg (RD K mg) (gIx gq gb) σ H Q) : tOp (rIx K) (tG K mg (RQ K mg) gq) (tG K mg (RD K mg) gb) σ H Q := by
  obtain ⟨β, ex, os, ρ, M, d, M', hd, fr, hg, k⟩ := q
  obtain ⟨l, M1, e1, hg⟩ := bnd_eq hg
  obtain ⟨i, M2, e2, hg⟩ := bnd_eq hg
  cases i with
  | int i =>
    obtain ⟨e3, e4⟩ := lft_eq hg
    have e4 : M' = M2 := e4
    subst e4
    refine tG.go hd fr e1 fun v1 H1 β1 ex1 af1 hd1 fr1 ⟨p, vs, ep, hz, rs, sv⟩ => tG.go hd1 fr1 e2 fun v2 H2 β2 ex2 af2 hd2 fr2 r2 => ?_
    have rs2 := rs.keep (af2.keep hd1)
    obtain ⟨v, h1, h2⟩ := rs2.atI e3
    have fin := k v H2 β2 ex2 (af1.trans af2) hd2 h2
    -- the sequence still stands
    have rd : ∀ {u : HO}, Rd H1 p u → p ∉ β1 → Rd H2 p u := fun h n => h.imp (fun h => af2.same p _ h n) fun ⟨o, h⟩ => ⟨o, af2.same p _ h n⟩
    rcases sv with h | h | h | h
    · exact .inl ⟨p, vs, i, v, ep, r2.int_inv, .inl (rd h.1 h.2), h1, fin⟩
    · exact .inr (.inl ⟨p, vs, i, v, ep, r2.int_inv, .inl (rd h.1 h.2), h1, fin⟩)
    · exact .inl ⟨p, vs, i, v, ep, r2.int_inv, .inr h, h1, fin⟩
    · exact .inr (.inl ⟨p, vs, i, v, ep, r2.int_inv, .inr h, h1, fin⟩)
  | _ => cases hg
theorem de_ixq (ha : DQ X a gq) (hb : DE X b gb) (hs : PlainIx b) : DE X (.Subscript a b pos) (gIx gq gb) := (pe_ix ix_seq ha hb hs).imp fun _ _ _ q => ix_ok q
/-- a text's sign -/
def dIxS : D → D → Option D := fun a b => match a, b with
  | .str z, .int i => if z.length ≤ lim then (atI z.cps.toList i).map fun c => .str ⟨#[c]⟩ else none
  | _, _ => none
theorem ok_ixS {K : PySem.W.Frag} {mg : Str → Option Value} : OkR2 K mg rIxS dIxS := fun β ex H M x y a b d Q hd ra rb hf k => by
  unfold dIxS at hf
  split at hf
  · split at hf
    · rename_i hl
      cases q : L2.atI _ _ with
      | none => rw [q] at hf; cases hf
      | some c =>
        rw [q] at hf
        cases hf
        exact ⟨_, _, c, ra.str_inv, rb.int_inv, le_lim hl, q, k _ _ Grow.refl (.str _)⟩
    · cases hf
  · cases hf
theorem de_ixS (ha : DE X a ga) (hb : DE X b gb) (hs : PlainIx b) : DE X (.Subscript a b pos) (gBin dIxS ga gb) := de_ix ix_str ok_ixS ha hb hs

/-! ### slices -/
def tO' (K : PySem.W.Frag) (mg : Str → Option Value) (g : Env' → Cm (Option Int)) : TO := fun σ H Q => ∃ β ex os ρ M o M', Hold K mg β ex H M ∧ Fram K mg β ex os σ H ρ ∧ g ρ M = some (o, M') ∧ ∀ H' β' ex', After β ex H β' ex' H' → Hold K mg β' ex' H' M' → Q o H'
abbrev DO (X : Cx) (e : Option Expr) (g : Env' → Cm (Option Int)) : Prop := PO X e (tO' X.K X.mg g)
def goN : Env' → Cm (Option Int) := fun _ M => some (none, M)
def goS (g : Env' → Cm D) : Env' → Cm (Option Int) := fun ρ M => bnd (g ρ M) fun d M1 => match d with
  | .int i => some (some i, M1)
  | _ => none
theorem do_n : DO X none goN := ⟨fun pins s σ H Q I ⟨β, ex, os, ρ, M, o, M', hd, fr, hg, k⟩ => by
  cases hg
  exact po_none.run pins s σ H Q I (k H β ex .refl hd)⟩
theorem do_s {g : Env' → Cm D} (h : DE X e g) : DO X (some e) (goS g) := ⟨fun pins s σ H Q I ⟨β, ex, os, ρ, M, o, M', hd, fr, hg, k⟩ => by
  obtain ⟨d, M1, e1, hg⟩ := bnd_eq hg
  refine (po_some h).run pins s σ H Q I (tG.go hd fr e1 fun v1 H1 β1 ex1 af1 hd1 fr1 r1 => ?_)
  cases d with
  | int i =>
    cases hg
    exact ⟨i, r1.int_inv, k H1 β1 ex1 af1 hd1⟩
  | _ => cases hg⟩
theorem tO'.go {K : PySem.W.Frag} {mg : Str → Option Value} {g : Env' → Cm (Option Int)} {β ex : List Addr} {os : List (Option Addr)} {ρ : Env'} {M M' : Stor} {a : Option Int} {σ : L2.St} {H : Hp} {Q : Option Int → Hp → Prop} (hd : Hold K mg β ex H M) (fr : Fram K mg β ex os σ H ρ) (hg : g ρ M = some (a, M'))
    (k : ∀ H' β' ex', After β ex H β' ex' H' → Hold K mg β' ex' H' M' → Fram K mg β' ex' os σ H' ρ → Q a H') : tO' K mg g σ H Q :=
  ⟨β, ex, os, ρ, M, a, M', hd, fr, hg, fun H' β' ex' af hd' => k H' β' ex' af hd' (fr.after hd af)⟩
def cutD {α : Type} (xs : List α) (lo hi : Option Int) : List α := (xs.drop (HT.sIx xs.length 0 lo)).take (HT.sIx xs.length xs.length hi - HT.sIx xs.length 0 lo)
theorem cutD_length {α : Type} (xs : List α) (lo hi : Option Int) : (cutD xs lo hi).length ≤ xs.length := by
  unfold cutD
  rw [List.length_take, List.length_drop]
  omega
theorem Reps.slc {K : PySem.W.Frag} {mg : Str → Option Value} {β ex : List Addr} {H : Hp} {vs : List V} {l : List D} (r : Reps K mg β ex H vs l) (lo hi : Option Int) : Reps K mg β ex H (cutV vs lo hi) (cutD l lo hi) := by
  unfold cutV cutD
  rw [r.length]
  exact (r.drop _).take _
/-- xs[lo:hi] of a list: a new list -/
def gSl1 (gq : Env' → Cm (List D)) (gl gh : Env' → Cm (Option Int)) : Env' → Cm (List D) := fun ρ M => bnd (gq ρ M) fun l M1 => bnd (gl ρ M1) fun lo M2 => bnd (gh ρ M2) fun hi M3 => some (cutD l lo hi, M3)
/-- what is a list, read -/
def RLs (K : PySem.W.Frag) (mg : Str → Option Value) : Rel (List D) := fun β ex _ H' v l => ∃ p vs, v = .ref p ∧ vs.length ≤ sizeLine ∧ Reps K mg β ex H' vs l ∧ ((Rd H' p (.lst vs) ∧ p ∉ β) ∨ WrL K p vs)
abbrev DLs (X : Cx) (e : Expr) (g : Env' → Cm (List D)) : Prop := PE X e (tG X.K X.mg (RLs X.K X.mg) g)
def lstD : D → Option (List D)
  | .lst l => some l
  | .scr l => some l
  | _ => none
def gLd (g : Env' → Cm D) : Env' → Cm (List D) := fun ρ M => bnd (g ρ M) fun d M1 => lft (lstD d) M1
theorem dls_d {g : Env' → Cm D} (h : DE X e g) : DLs X e (gLd g) := h.imp fun σ H Q ⟨β, ex, os, ρ, M, c, M', hd, fr, hg, k⟩ => by
  obtain ⟨x, M1, e1, hg⟩ := bnd_eq hg
  obtain ⟨e3, e4⟩ := lft_eq hg
  have e4 : M' = M1 := e4
  subst e4
  refine tG.go hd fr e1 fun v1 H1 β1 ex1 af1 hd1 fr1 r => k _ _ _ _ af1 hd1 ?_
  cases r with
  | lst q n z rs =>
    cases e3
    exact ⟨_, _, rfl, z, rs, .inl ⟨.inl q, fun z => n (hd1.sub _ z)⟩⟩
  | scr q z rs =>
    cases e3
    exact ⟨_, _, rfl, z, rs, q.imp (fun q => ⟨q.1, fun z => q.2 (hd1.sub _ z)⟩) id⟩
  | _ => cases e3
theorem dls_l {g : Env' → Cm (List D)} (h : DL X e g) : DLs X e g := h.imp fun σ H Q ⟨β, ex, os, ρ, M, c, M', hd, fr, hg, k⟩ =>
  tG.go hd fr hg fun v1 H1 β1 ex1 af1 hd1 fr1 ⟨p, ep, hp, hx, hn, vs, hv, hz, rs⟩ => k _ _ _ _ af1 hd1 ⟨p, vs, ep, hz, rs, .inl ⟨.inl hv, hn⟩⟩
theorem dls_own' (i : Nat) (h : PE X e (tVar i)) : DLs X e (gOwn i) := h.imp fun σ H Q ⟨β, ex, os, ρ, M, a, M', hd, fr, hg, k⟩ => by
  unfold gOwn at hg
  split at hg
  · rename_i l hl
    cases hg
    obtain ⟨p, e1, e2, vs, hv, hz, rs⟩ := fr.sl i _ hl
    have eo : os[i]? = some (some p) := by
      cases q : os[i]? with
      | none => rw [q] at e1; cases e1
      | some y => rw [q] at e1; exact congrArg some e1
    refine ⟨.ref p, ?_, k _ H β ex .refl hd ⟨p, vs, rfl, hz, rs, .inl ⟨.inl hv, (fr.ow i p eo).2⟩⟩⟩
    cases q : σ[i]? with
    | none => rw [q] at e2; cases e2
    | some y => rw [q] at e2; exact congrArg some e2
  · cases hg
theorem dls_own (i : Nat) {x : Str} {pos : Pos} (hN : X.N[i]? = some x := by rfl) (hv : Vis X.env.scope x := by first | exact Or.inl rfl | exact Or.inr (Or.inl rfl) | exact Or.inr (Or.inr rfl)) (hd : (x == ("__debug__" : Str)) = false := by decide)
    (hcd : (x == ("__classdict__" : Str)) = false := by decide) : DLs X (.Name x pos) (gOwn i) := dls_own' i (pe_var hN hv hd hcd)
variable {lo hi : Option Expr} {gl gh : Env' → Cm (Option Int)}
theorem RLs.later {K : PySem.W.Frag} {mg : Str → Option Value} {β ex β' ex' : List Addr} {H0 H H' : Hp} {M : Stor} {v : V} {l : List D} (r : RLs K mg β ex H0 H v l) (hd : Hold K mg β ex H M) (af : After β ex H β' ex' H') : ∃ p vs, v = .ref p ∧ vs.length ≤ sizeLine ∧ Reps K mg β' ex' H' vs l ∧ SqL K H' p vs := by
  obtain ⟨p, vs, e, z, rs, q⟩ := r
  refine ⟨p, vs, e, z, rs.keep (af.keep hd), q.imp (fun q => ?_) id⟩
  exact q.1.imp (fun h => af.same p _ h q.2) fun ⟨o, h⟩ => ⟨o, af.same p _ h q.2⟩
theorem dl_sl {p2 : Pos} (ha : DLs X a gq) (hl : DO X lo gl) (hh : DO X hi gh) : DL X (.Subscript a (.Slice lo hi none p2) pos) (gSl1 gq gl gh) := (pe_slice sl_list ha hl hh).imp fun σ H Q ⟨β, ex, os, ρ, M, c, M', hd, fr, hg, k⟩ => by
  obtain ⟨l, M1, e1, hg⟩ := bnd_eq hg
  obtain ⟨lo, M2, e2, hg⟩ := bnd_eq hg
  obtain ⟨hi, M3, e3, hg⟩ := bnd_eq hg
  cases hg
  refine tG.go hd fr e1 fun v1 H1 β1 ex1 af1 hd1 fr1 r1 => tO'.go hd1 fr1 e2 fun H2 β2 ex2 af2 hd2 fr2 => tO'.go hd2 fr2 e3 fun H3 β3 ex3 af3 hd3 fr3 => ?_
  obtain ⟨p, vs, ep, hz, rs, sq⟩ := r1.later hd1 (af2.trans af3)
  refine ⟨p, vs, ep, sq, fun t ht => ?_⟩
  have af := af1.trans (af2.trans af3)
  obtain ⟨q1, q2, q3⟩ := own_new (H0 := H) af.dom hd3 ht (Nat.le_trans (cutV_length _ _ _) hz) (rs.slc lo hi)
  exact k _ _ _ _ (af.trans q1) q2 q3
/-- t[lo:hi] of a tuple -/
def gSlT (ga : Env' → Cm D) (gl gh : Env' → Cm (Option Int)) : Env' → Cm D := fun ρ M => bnd (ga ρ M) fun d M1 => bnd (gl ρ M1) fun lo M2 => bnd (gh ρ M2) fun hi M3 => match d with
  | .tup l => some (.tup (cutD l lo hi), M3)
  | _ => none
theorem sIx_all {α : Type} {xs : List α} {lo hi : Option Int} (h : HT.sIx xs.length 0 lo = 0 ∧ HT.sIx xs.length xs.length hi = xs.length) : cutD xs lo hi = xs := by
  unfold cutD
  rw [h.1, h.2, List.drop_zero, Nat.sub_zero, List.take_length]
theorem de_slT {p2 : Pos} (ha : DE X a ga) (hl : DO X lo gl) (hh : DO X hi gh) : DE X (.Subscript a (.Slice lo hi none p2) pos) (gSlT ga gl gh) := (pe_slice sl_tupA ha hl hh).imp fun σ H Q ⟨β, ex, os, ρ, M, c, M', hd, fr, hg, k⟩ => by
  obtain ⟨d, M1, e1, hg⟩ := bnd_eq hg
  obtain ⟨lo, M2, e2, hg⟩ := bnd_eq hg
  obtain ⟨hi, M3, e3, hg⟩ := bnd_eq hg
  split at hg
  · cases hg
    refine tG.go hd fr e1 fun v1 H1 β1 ex1 af1 hd1 fr1 r1 => tO'.go hd1 fr1 e2 fun H2 β2 ex2 af2 hd2 fr2 => tO'.go hd2 fr2 e3 fun H3 β3 ex3 af3 hd3 fr3 => ?_
    have r3 := (r1.keep (af2.keep hd1)).keep (af3.keep hd2)
    obtain ⟨p, vs, ep, sq, hz, rs⟩ := r3.tup_inv
    have af := af1.trans (af2.trans af3)
    refine ⟨p, vs, ep, sq, fun hw => ?_, fun _ t ht => ?_⟩
    · refine k _ H3 β3 ex3 af hd3 ?_
      rw [rs.length] at hw
      rw [sIx_all hw, ← ep]
      exact r3
    · obtain ⟨gr, r⟩ := new_tup hd3 ht (Nat.le_trans (cutV_length _ _ _) hz) (rs.slc lo hi)
      exact k _ _ _ _ (af.trans gr.after) (hd3.grow gr) r
  · cases hg
/-- xs[::-1] of a list -/
def gRev (gq : Env' → Cm (List D)) : Env' → Cm (List D) := fun ρ M => bnd (gq ρ M) fun l M1 => some (l.reverse, M1)
theorem dl_rev {k : Nat} {p1 p2 p3 : Pos} (ha : DLs X a gq) : DL X (.Subscript a (.Slice none none (some (.UnaryOp .USub (.Constant (.int 1) k p1) p2)) p3) pos) (gRev gq) := (pe_revL ha).imp fun σ H Q ⟨β, ex, os, ρ, M, c, M', hd, fr, hg, kk⟩ => by
  obtain ⟨l, M1, e1, hg⟩ := bnd_eq hg
  cases hg
  refine tG.go hd fr e1 fun v1 H1 β1 ex1 af1 hd1 fr1 r1 => ?_
  obtain ⟨p, vs, ep, hz, rs, sq⟩ := r1.later hd1 .refl
  refine ⟨p, vs, ep, sq, fun t ht => ?_⟩
  obtain ⟨q1, q2, q3⟩ := own_new (H0 := H) af1.dom hd1 ht (by rw [List.length_reverse]; exact hz) rs.reverse
  exact kk _ _ _ _ (af1.trans q1) q2 q3

/-! ### built-ins of one argument -/
theorem tCB1 {r : List V → Hp → VK → Prop} {t : TE} {σ : L2.St} {H : Hp} {Q : VK} (h : t σ H fun x H1 => r [x] H1 Q) : tCB r (tCons t tNil) σ H Q := h
def gLen (gq : Env' → Cm (List D)) : Env' → Cm D := fun ρ M => bnd (gq ρ M) fun l M1 => some (.int l.length, M1)
variable {p : Pos}
theorem len_ok {K : PySem.W.Frag} {mg : Str → Option Value} {σ : L2.St} {H : Hp} {Q : VK} (q : tG K mg (RD K mg) (gLen gq) σ H Q) : tCB (fun xs H Q => ∃ p ys, xs = [.ref p] ∧ (SqL K H p ys ∨ SqT K H p ys) ∧ Q (.int ys.length) H) (tCons (tG K mg (RQ K mg) gq) tNil) σ H Q := by
  obtain ⟨β, ex, os, ρ, M, d, M', hd, fr, hg, k⟩ := q
  obtain ⟨l, M1, e1, hg⟩ := bnd_eq hg
  cases hg
  refine tCB1 (tG.go hd fr e1 fun v1 H1 β1 ex1 af1 hd1 fr1 ⟨p, vs, ep, hz, rs, sv⟩ => ?_)
  subst ep
  refine ⟨p, vs, rfl, sv.sq, ?_⟩
  rw [rs.length]
  exact k _ H1 β1 ex1 af1 hd1 (.int _)
theorem de_len (hg : Gl X "len") (hm : X.mg "len" = none) (ha : DQ X a gq) (hs : starEach [a] X.env = (false, eval a X.env) :: starEach [] X.env := by rfl) (hpl : (backTo pos (starEach [] X.env)).any (·.1) = false := by rfl) : DE X (.Call (.Name "len" p) [a] [] pos) (gLen gq) :=
  (pe_callB call_len_seq hg hm boot_len (pa_cons ha pa_nil hs) (he := hs) (hpl := rfl)).imp fun _ _ _ q => len_ok q
def gLenS (ga : Env' → Cm D) : Env' → Cm D := fun ρ M => bnd (ga ρ M) fun d M1 => match d with
  | .str z => if z.length ≤ lim then some (.int z.length, M1) else none
  | _ => none
theorem de_lenS (hg : Gl X "len") (hm : X.mg "len" = none) (ha : DE X a ga) (hs : starEach [a] X.env = (false, eval a X.env) :: starEach [] X.env := by rfl) : DE X (.Call (.Name "len" p) [a] [] pos) (gLenS ga) :=
  (pe_callB call_len_str hg hm boot_len (pa_cons ha pa_nil hs) (he := hs) (hpl := rfl)).imp fun σ H Q ⟨β, ex, os, ρ, M, d, M', hd, fr, hg, k⟩ => by
    obtain ⟨x, M1, e1, hg⟩ := bnd_eq hg
    refine tCB1 (tG.go hd fr e1 fun v1 H1 β1 ex1 af1 hd1 fr1 r1 => ?_)
    cases x with
    | str z =>
      dsimp only at hg
      split at hg
      · rename_i hl
        cases hg
        cases r1.str_inv
        exact ⟨z, rfl, le_lim hl, k _ H1 β1 ex1 af1 hd1 (.int _)⟩
      · cases hg
    | _ => cases hg
def gTuple (gq : Env' → Cm (List D)) : Env' → Cm D := fun ρ M => bnd (gq ρ M) fun l M1 => some (.tup l, M1)
/-- tuple(x) of a list: a new tuple; of a tuple: itself -/
theorem de_tuple (hg : Gl X "tuple") (hm : X.mg "tuple" = none) (ha : DLs X a gq) (hs : starEach [a] X.env = (false, eval a X.env) :: starEach [] X.env := by rfl) : DE X (.Call (.Name "tuple" p) [a] [] pos) (gTuple gq) :=
  (pe_callTy call_tuple_of hg hm (by decide +kernel) (pa_cons ha pa_nil hs) (he := hs) (hpl := rfl)).imp fun σ H Q ⟨β, ex, os, ρ, M, d, M', hd, fr, hg, k⟩ => by
    obtain ⟨l, M1, e1, hg⟩ := bnd_eq hg
    cases hg
    refine tCB1 (tG.go hd fr e1 fun v1 H1 β1 ex1 af1 hd1 fr1 r1 => ?_)
    obtain ⟨p, vs, ep, hz, rs, sq⟩ := r1.later hd1 .refl
    subst ep
    refine ⟨p, vs, rfl, .inl ⟨sq, fun t ht => ?_⟩⟩
    obtain ⟨gr, r⟩ := new_tup hd1 ht hz rs
    exact k _ _ _ _ (af1.trans gr.after) (hd1.grow gr) r
/-- tuple(x) of data of either kind -/
def gTupD (ga : Env' → Cm D) : Env' → Cm D := fun ρ M => bnd (ga ρ M) fun d M1 => lft ((seqD d).map .tup) M1
theorem de_tupD (hg : Gl X "tuple") (hm : X.mg "tuple" = none) (ha : DE X a ga) (hs : starEach [a] X.env = (false, eval a X.env) :: starEach [] X.env := by rfl) : DE X (.Call (.Name "tuple" p) [a] [] pos) (gTupD ga) :=
  (pe_callTy call_tuple_of hg hm (by decide +kernel) (pa_cons ha pa_nil hs) (he := hs) (hpl := rfl)).imp fun σ H Q ⟨β, ex, os, ρ, M, d, M', hd, fr, hg, k⟩ => by
    obtain ⟨x, M1, e1, hg⟩ := bnd_eq hg
    obtain ⟨e3, e4⟩ := lft_eq hg
    have e4 : M' = M1 := e4
    subst e4
    refine tCB1 (tG.go hd fr e1 fun v1 H1 β1 ex1 af1 hd1 fr1 r1 => ?_)
    cases r1 with
    | tup q z rs =>
      cases e3
      exact ⟨_, _, rfl, .inr ⟨q.elim (fun q => .inl (.inl q.1)) .inr, k _ _ _ _ af1 hd1 (.tup q z rs)⟩⟩
    | lst q n z rs =>
      cases e3
      refine ⟨_, _, rfl, .inl ⟨.inl (.inl q), fun t ht => ?_⟩⟩
      obtain ⟨gr, r⟩ := new_tup hd1 ht z rs
      exact k _ _ _ _ (af1.trans gr.after) (hd1.grow gr) r
    | scr q z rs =>
      cases e3
      refine ⟨_, _, rfl, .inl ⟨q.elim (fun q => .inl q.1) .inr, fun t ht => ?_⟩⟩
      obtain ⟨gr, r⟩ := new_tup hd1 ht z rs
      exact k _ _ _ _ (af1.trans gr.after) (hd1.grow gr) r
    | _ => cases e3
/-- list(x): a new list -/
theorem dl_list (hg : Gl X "list") (hm : X.mg "list" = none) (ha : DQ X a gq) (hs : starEach [a] X.env = (false, eval a X.env) :: starEach [] X.env := by rfl) : DL X (.Call (.Name "list" p) [a] [] pos) gq :=
  (pe_callTy call_list_of hg hm (by decide +kernel) (pa_cons ha pa_nil hs) (he := hs) (hpl := rfl)).imp fun σ H Q ⟨β, ex, os, ρ, M, d, M', hd, fr, hg, k⟩ => by
    refine tCB1 (tG.go hd fr hg fun v1 H1 β1 ex1 af1 hd1 fr1 ⟨p, vs, ep, hz, rs, sv⟩ => ?_)
    subst ep
    refine ⟨p, vs, rfl, sv.sq, fun t ht => ?_⟩
    obtain ⟨q1, q2, q3⟩ := own_new (H0 := H) af1.dom hd1 ht hz rs
    exact k _ _ _ _ (af1.trans q1) q2 q3
def gInt (ga : Env' → Cm D) : Env' → Cm D := fun ρ M => bnd (ga ρ M) fun d M1 => match d with
  | .int i => some (.int i, M1)
  | _ => none
theorem de_int1 (hg : Gl X "int") (hm : X.mg "int" = none) (ha : DE X a ga) (hs : starEach [a] X.env = (false, eval a X.env) :: starEach [] X.env := by rfl) : DE X (.Call (.Name "int" p) [a] [] pos) (gInt ga) :=
  (pe_callTy call_int1 hg hm (by decide +kernel) (pa_cons ha pa_nil hs) (he := hs) (hpl := rfl)).imp fun σ H Q ⟨β, ex, os, ρ, M, d, M', hd, fr, hg, k⟩ => by
    obtain ⟨x, M1, e1, hg⟩ := bnd_eq hg
    refine tCB1 (tG.go hd fr e1 fun v1 H1 β1 ex1 af1 hd1 fr1 r1 => ?_)
    cases x with
    | int z =>
      cases hg
      cases r1.int_inv
      exact .inl ⟨z, rfl, k _ H1 β1 ex1 af1 hd1 (.int _)⟩
    | _ => cases hg
def gAbs (ga : Env' → Cm D) : Env' → Cm D := fun ρ M => bnd (ga ρ M) fun d M1 => match d with
  | .int i => some (.int (if i < 0 then -i else i), M1)
  | _ => none
theorem de_abs (hg : Gl X "abs") (hm : X.mg "abs" = none) (ha : DE X a ga) (hs : starEach [a] X.env = (false, eval a X.env) :: starEach [] X.env := by rfl) : DE X (.Call (.Name "abs" p) [a] [] pos) (gAbs ga) :=
  (pe_callB call_abs hg hm (by decide +kernel) (pa_cons ha pa_nil hs) (he := hs) (hpl := rfl)).imp fun σ H Q ⟨β, ex, os, ρ, M, d, M', hd, fr, hg, k⟩ => by
    obtain ⟨x, M1, e1, hg⟩ := bnd_eq hg
    refine tCB1 (tG.go hd fr e1 fun v1 H1 β1 ex1 af1 hd1 fr1 r1 => ?_)
    cases x with
    | int z =>
      cases hg
      cases r1.int_inv
      exact ⟨z, rfl, k _ H1 β1 ex1 af1 hd1 (.int _)⟩
    | _ => cases hg
/-- lists of whole numbers -/
def intsOf : List D → Option (List Int)
  | [] => some []
  | .int i :: l => (intsOf l).map (i :: ·)
  | _ => none
theorem Reps.ints {K : PySem.W.Frag} {mg : Str → Option Value} {β ex : List Addr} {H : Hp} : ∀ {vs : List V} {l : List D} {ns : List Int}, Reps K mg β ex H vs l → intsOf l = some ns → vs = ns.map V.int
  | _, _, _, .nil, h => by cases h; rfl
  | _, _, ns, .cons r rs, h => by
    cases r with
    | int i =>
      unfold intsOf at h
      cases q : intsOf _ with
      | none => rw [q] at h; cases h
      | some ms =>
        rw [q] at h
        cases h
        rw [Reps.ints rs q]
        rfl
    | _ => cases h
def gSum (gq : Env' → Cm (List D)) : Env' → Cm D := fun ρ M => bnd (gq ρ M) fun l M1 => lft ((intsOf l).map fun ns => .int ns.sum) M1
theorem de_sum (hc : X.calm = true) (hg : Gl X "sum") (hm : X.mg "sum" = none) (ha : DLs X a gq) (hs : starEach [a] X.env = (false, eval a X.env) :: starEach [] X.env := by rfl) : DE X (.Call (.Name "sum" p) [a] [] pos) (gSum gq) :=
  (pe_callB (cr_sum hc) hg hm (by decide +kernel) (pa_cons ha pa_nil hs) (he := hs) (hpl := rfl)).imp fun σ H Q ⟨β, ex, os, ρ, M, d, M', hd, fr, hg, k⟩ => by
    obtain ⟨l, M1, e1, hg⟩ := bnd_eq hg
    obtain ⟨e3, e4⟩ := lft_eq hg
    have e4 : M' = M1 := e4
    subst e4
    refine tCB1 (tG.go hd fr e1 fun v1 H1 β1 ex1 af1 hd1 fr1 r1 => ?_)
    obtain ⟨p, vs, ep, hz, rs, sq⟩ := r1.later hd1 .refl
    subst ep
    cases q : intsOf l with
    | none => rw [q] at e3; cases e3
    | some ns =>
      rw [q] at e3
      cases e3
      rw [rs.ints q] at sq
      exact ⟨p, ns, rfl, sq, k _ _ _ _ af1 hd1 (.int _)⟩
/-- sorted(xs), whole numbers: a new list -/
def sortI (ns : List Int) : List Int := ns.mergeSort (fun a b => decide (a ≤ b))
theorem sortI_uniq {ns ms : List Int} (h : ms.Perm ns) (hp : ms.Pairwise (· ≤ ·)) : ms = sortI ns := by
  refine List.Perm.eq_of_pairwise (le := (· ≤ ·)) (fun a b _ _ h1 h2 => Int.le_antisymm h1 h2) hp ?_ (h.trans (List.mergeSort_perm _ _).symm)
  have := List.pairwise_mergeSort (le := fun a b : Int => decide (a ≤ b)) (fun a b c h1 h2 => decide_eq_true (Int.le_trans (of_decide_eq_true h1) (of_decide_eq_true h2))) (fun a b => by simp only [Bool.or_eq_true, decide_eq_true_eq]; exact Int.le_total a b) ns
  exact this.imp fun h => of_decide_eq_true h
def gSortI (gq : Env' → Cm (List D)) : Env' → Cm (List D) := fun ρ M => bnd (gq ρ M) fun l M1 => lft ((intsOf l).map fun ns => (sortI ns).map D.int) M1
theorem Reps.mapInt {K : PySem.W.Frag} {mg : Str → Option Value} {β ex : List Addr} {H : Hp} : ∀ ns : List Int, Reps K mg β ex H (ns.map V.int) (ns.map D.int)
  | [] => .nil
  | n :: ns => .cons (.int n) (Reps.mapInt ns)
theorem dl_sortI (hg : Gl X "sorted") (hm : X.mg "sorted" = none) (ha : DLs X a gq) (hs : starEach [a] X.env = (false, eval a X.env) :: starEach [] X.env := by rfl) : DL X (.Call (.Name "sorted" p) [a] [] pos) (gSortI gq) :=
  (pe_callB cr_sortedI hg hm (by decide +kernel) (pa_cons ha pa_nil hs) (he := hs) (hpl := rfl)).imp fun σ H Q ⟨β, ex, os, ρ, M, d, M', hd, fr, hg, k⟩ => by
    obtain ⟨l, M1, e1, hg⟩ := bnd_eq hg
    obtain ⟨e3, e4⟩ := lft_eq hg
    have e4 : M' = M1 := e4
    subst e4
    refine tCB1 (tG.go hd fr e1 fun v1 H1 β1 ex1 af1 hd1 fr1 r1 => ?_)
    obtain ⟨p, vs, ep, hz, rs, sq⟩ := r1.later hd1 .refl
    subst ep
    cases q : intsOf l with
    | none => rw [q] at e3; cases e3
    | some ns =>
      rw [q] at e3
      cases e3
      have ev := rs.ints q
      rw [ev] at sq hz
      refine ⟨p, ns, rfl, sq, fun ms t h1 h2 ht => ?_⟩
      have em := sortI_uniq h1 h2
      subst em
      obtain ⟨q1, q2, q3⟩ := own_new (H0 := H) af1.dom hd1 ht (by rw [List.length_map] at hz ⊢; rw [h1.length_eq]; exact hz) (Reps.mapInt _)
      exact k _ _ _ _ (af1.trans q1) q2 q3
end
end Py
/-! lists that change: in the store, in a slot; parallel stores; the store is cut behind a def -/
namespace Py
open PySem PySem.Spec PyProof.Rows L2

/-! ### a thing of the store is changed -/
theorem Hold.at {K : PySem.W.Frag} {mg : Str → Option Value} {β ex : List Addr} {H : Hp} {M : Stor} {i : Nat} {a : Addr} {o : MO} (hd : Hold K mg β ex H M) (ha : β[i]? = some a) (ho : M[i]? = some o) : ObjR K mg β ex H a o := hd.objs i a o ha ho
theorem Hold.get {K : PySem.W.Frag} {mg : Str → Option Value} {β ex : List Addr} {H : Hp} {M : Stor} {v : V} {i : Nat} {o : MO} (hd : Hold K mg β ex H M) (r : Rep K mg β ex H v (.loc i)) (ho : M[i]? = some o) : ∃ a, v = .ref a ∧ β[i]? = some a ∧ a ∈ β ∧ ObjR K mg β ex H a o := by
  cases r with
  | loc h => exact ⟨_, rfl, h, List.mem_of_getElem? h, hd.objs _ _ _ h ho⟩
/-- one thing of the store stands otherwise -/
theorem Hold.put {K : PySem.W.Frag} {mg : Str → Option Value} {β ex : List Addr} {H : Hp} {M : Stor} {i : Nat} {a : Addr} {o : MO} {ob : HO} (hd : Hold K mg β ex H M) (ha : β[i]? = some a) (new : ObjR K mg β ex (upd H a ob) a o) :
    After β ex H β ex (upd H a ob) ∧ Hold K mg β ex (upd H a ob) (M.set i o) ∧ Keep β ex H β ex (upd H a ob) := by
  have hb : a ∈ β := List.mem_of_getElem? ha
  have hx := hd.sub a hb
  have kp : Keep β ex H β ex (upd H a ob) := ⟨fun _ _ h => h, fun x u h n => ⟨by
    rw [upd_ne fun z => n (by rw [z]; exact hx)]
    exact h, n⟩⟩
  refine ⟨⟨⟨[], by simp, by simp⟩, fun _ h => h, fun _ h => .inl h, fun x u h n => ?_, fun x h => ?_⟩, ⟨by rw [List.length_set]; exact hd.len, hd.nd, hd.sub, fun x h => ?_, fun j x u h1 h2 => ?_⟩, kp⟩
  · rw [upd_ne fun z => n (by rw [z]; exact hb)]
    exact h
  · by_cases z : x = a
    · rw [z, upd_same] at h; cases h
    · rw [upd_ne z] at h; exact h
  · by_cases z : x = a
    · rw [z, upd_same]; simp
    · rw [upd_ne z]; exact hd.live x h
  · by_cases z : j = i
    · subst z
      rw [ha] at h1
      cases h1
      rw [List.getElem?_set_self (by rw [← hd.len]; exact (List.getElem?_eq_some_iff.mp ha).1)] at h2
      cases h2
      exact new
    · rw [List.getElem?_set_ne (Ne.symm z)] at h2
      have nx : x ≠ a := fun e => z (by
        subst e
        obtain ⟨p1, p2⟩ := List.getElem?_eq_some_iff.mp h1
        obtain ⟨p3, p4⟩ := List.getElem?_eq_some_iff.mp ha
        exact (List.getElem_inj hd.nd).mp (p2.trans p4.symm))
      exact (hd.objs j x u h1 h2).keep kp fun q h => by rw [upd_ne nx]; exact h
section
variable {X : Cx} {pos p : Pos} {a b c e : Expr} {ga gb gc : Env' → Cm D} {gq : Env' → Cm (List D)}
/-- deal[j] -/
def lstAt (M : Stor) (d : D) : Option (List D) := match d with
  | .loc i => (match M[i]? with
    | some (.lst l) => some l
    | _ => none)
  | _ => none
theorem lstAt_inv {K : PySem.W.Frag} {mg : Str → Option Value} {β ex : List Addr} {H : Hp} {M : Stor} {v : V} {d : D} {l : List D} (hd : Hold K mg β ex H M) (r : Rep K mg β ex H v d) (h : lstAt M d = some l) : ∃ i a vs, d = .loc i ∧ M[i]? = some (.lst l) ∧ v = .ref a ∧ β[i]? = some a ∧ H a = some (.lst vs) ∧ vs.length ≤ sizeLine ∧ Reps K mg β ex H vs l := by
  cases d with
  | loc i =>
    unfold lstAt at h
    dsimp only at h
    split at h
    · rename_i m hm
      cases h
      obtain ⟨a, e, hb, _, vs, hv, hz, rs⟩ := hd.get r hm
      exact ⟨i, a, vs, rfl, hm, e, hb, hv, hz, rs⟩
    · cases h
  | _ => cases h
def gIxM (ga gb : Env' → Cm D) : Env' → Cm D := fun ρ M => bnd (ga ρ M) fun d M1 => bnd (gb ρ M1) fun i M2 => match i with
  | .int i => lft ((lstAt M2 d).bind fun l => atI l i) M2
  | _ => none
theorem de_ixM (ha : DE X a ga) (hb : DE X b gb) (hs : PlainIx b) : DE X (.Subscript a b pos) (gIxM ga gb) := (pe_ix ix_list ha hb hs).imp fun σ H Q ⟨β, ex, os, ρ, M, d, M', hd, fr, hg, k⟩ => by
  obtain ⟨x, M1, e1, hg⟩ := bnd_eq hg
  obtain ⟨i, M2, e2, hg⟩ := bnd_eq hg
  cases i with
  | int i =>
    obtain ⟨e3, e4⟩ := lft_eq hg
    have e4 : M' = M2 := e4
    subst e4
    refine tG.go hd fr e1 fun v1 H1 β1 ex1 af1 hd1 fr1 r1 => tG.go hd1 fr1 e2 fun v2 H2 β2 ex2 af2 hd2 fr2 r2 => ?_
    cases q : lstAt M' x with
    | none => rw [q] at e3; cases e3
    | some l =>
      rw [q] at e3
      obtain ⟨j, p, vs, rfl, hm, rfl, hb, hv, hz, rs⟩ := lstAt_inv hd2 (r1.keep (af2.keep hd1)) q
      obtain ⟨v, h1, h2⟩ := rs.atI e3
      exact ⟨p, vs, i, v, rfl, r2.int_inv, .inl (.inl hv), h1, k v H2 β2 ex2 (af1.trans af2) hd2 h2⟩
  | _ => cases hg
def gLenM (ga : Env' → Cm D) : Env' → Cm D := fun ρ M => bnd (ga ρ M) fun d M1 => lft ((lstAt M1 d).map fun l => .int l.length) M1
theorem de_lenM (hg : Gl X "len") (hm : X.mg "len" = none) (ha : DE X a ga) (hs : starEach [a] X.env = (false, eval a X.env) :: starEach [] X.env := by rfl) : DE X (.Call (.Name "len" p) [a] [] pos) (gLenM ga) :=
  (pe_callB call_len_seq hg hm boot_len (pa_cons ha pa_nil hs) (he := hs) (hpl := rfl)).imp fun σ H Q ⟨β, ex, os, ρ, M, d, M', hd, fr, hg, k⟩ => by
    obtain ⟨x, M1, e1, hg⟩ := bnd_eq hg
    obtain ⟨e3, e4⟩ := lft_eq hg
    have e4 : M' = M1 := e4
    subst e4
    refine tCB1 (tG.go hd fr e1 fun v1 H1 β1 ex1 af1 hd1 fr1 r1 => ?_)
    cases q : lstAt M' x with
    | none => rw [q] at e3; cases e3
    | some l =>
      rw [q] at e3
      cases e3
      obtain ⟨j, p, vs, rfl, hm, rfl, hb, hv, hz, rs⟩ := lstAt_inv hd1 r1 q
      refine ⟨p, vs, rfl, .inl (.inl (.inl hv)), ?_⟩
      rw [rs.length]
      exact k _ H1 β1 ex1 af1 hd1 (.int _)
/-- xs.pop(), xs in the store -/
def setL (M : Stor) (d : D) (l : List D) : Stor := match d with
  | .loc i => M.set i (.lst l)
  | _ => M
def gPopM (ga : Env' → Cm D) : Env' → Cm D := fun ρ M => bnd (ga ρ M) fun d M1 => match lstAt M1 d with
  | some l => (match l[l.length - 1]? with
    | some y => some (y, setL M1 d l.dropLast)
    | none => none)
  | none => none
theorem Reps.dropLast {K : PySem.W.Frag} {mg : Str → Option Value} {β ex : List Addr} {H : Hp} {vs : List V} {l : List D} (r : Reps K mg β ex H vs l) : Reps K mg β ex H vs.dropLast l.dropLast := by
  rw [List.dropLast_eq_take, List.dropLast_eq_take, r.length]
  exact r.take _
theorem de_popM {apos cpos : Pos} (ha : DE X a ga) (hbase : attributeBase a "pop" X.env (eval a X.env) = eval a X.env := by rfl) (hline : (apos.endLine == cpos.line) = true := by rfl) : DE X (.Call (.Attribute a "pop" apos) [] [] cpos) (gPopM ga) :=
  (pe_bm0 PySem.F.plainAttrs_list PySem.F.slot_list_pop PySem.F.type_list_pop mt_pop ha hbase hline).imp fun σ H Q ⟨β, ex, os, ρ, M, d, M', hd, fr, hg, k⟩ => by
    obtain ⟨x, M1, e1, hg⟩ := bnd_eq hg
    refine tG.go hd fr e1 fun v1 H1 β1 ex1 af1 hd1 fr1 r1 => ?_
    split at hg
    · rename_i l q
      split at hg
      · rename_i y hy
        cases hg
        obtain ⟨j, p, vs, rfl, hm, rfl, hb, hv, hz, rs⟩ := lstAt_inv hd1 r1 q
        obtain ⟨w, h1, h2⟩ := rs.getD hy
        refine ⟨.inl ⟨rfl, _, .inl (.inl hv)⟩, p, vs, w, rfl, rfl, hv, by rw [rs.length]; exact h1, ?_⟩
        have kp : Keep β1 ex1 H1 β1 ex1 (upd H1 p (.lst vs.dropLast)) := ⟨fun _ _ h => h, fun x u h n => ⟨by
          rw [upd_ne fun z => n (by rw [z]; exact hd1.sub _ (List.mem_of_getElem? hb))]
          exact h, n⟩⟩
        obtain ⟨q1, q2, q3⟩ := hd1.put (o := .lst l.dropLast) (ob := .lst vs.dropLast) hb ⟨_, upd_same, by rw [List.length_dropLast]; omega, rs.dropLast.keep kp⟩
        exact k _ _ β1 ex1 (af1.trans q1) q2 (h2.keep q3)
      · cases hg
    · cases hg
/-- xs.pop(i), xs in the store -/
theorem Reps.eraseIdx {K : PySem.W.Frag} {mg : Str → Option Value} {β ex : List Addr} {H : Hp} : ∀ {vs : List V} {l : List D} (i : Nat), Reps K mg β ex H vs l → Reps K mg β ex H (vs.eraseIdx i) (l.eraseIdx i)
  | _, _, _, .nil => .nil
  | _, _, 0, .cons _ t => t
  | _, _, i + 1, .cons r t => .cons r (Reps.eraseIdx i t)
def gPopAtM (ga gb : Env' → Cm D) : Env' → Cm D := fun ρ M => bnd (ga ρ M) fun d M1 => match lstAt M1 d with
  | some _ => bnd (gb ρ M1) fun i M2 => (match i with
    | .int i => (match lstAt M2 d with
      | some l => (match ixN l.length i with
        | some k => (match l[k]? with
          | some y => if l.length ≤ lim then some (y, setL M2 d (l.eraseIdx k)) else none
          | none => none)
        | none => none)
      | none => none)
    | _ => none)
  | none => none
def tyLM {K : PySem.W.Frag} {mg : Str → Option Value} : True := trivial
theorem de_popAtM {apos cpos : Pos} (ha : DE X a ga) (hb : DE X b gb)
    (hbase : attributeBase a "pop" X.env (eval a X.env) = eval a X.env := by rfl)
    (hfew : ((backTo cpos (starEach [b] X.env)).all (fun x => !x.1) && (backToKw cpos (keywordEach [] X.env)).all (fun x => x.1.isSome) && decide ([b].length + ([] : List Keyword).length + (if ([] : List Keyword).isEmpty then 0 else 1) < 30)) = true := by rfl)
    (hline : (apos.endLine == cpos.line) = true := by rfl) (hs : starEach [b] X.env = (false, eval b X.env) :: starEach [] X.env := by rfl) : DE X (.Call (.Attribute a "pop" apos) [b] [] cpos) (gPopAtM ga gb) :=
  (pe_bm PySem.F.plainAttrs_list PySem.F.slot_list_pop PySem.F.type_list_pop mt_popAt ha (pa_cons hb pa_nil hs) hbase hfew hline hs rfl).imp fun σ H Q ⟨β, ex, os, ρ, M, d, M', hd, fr, hg, k⟩ => by
    obtain ⟨x, M1, e1, hg⟩ := bnd_eq hg
    split at hg
    case h_2 => cases hg
    rename_i l0 h0
    obtain ⟨i, M2, e2, hg⟩ := bnd_eq hg
    refine tG.go hd fr e1 fun v1 H1 β1 ex1 af1 hd1 fr1 r1 => ?_
    obtain ⟨j0, p0, vs0, rfl, hm0, rfl, hb0, hv0, hz0, rs0⟩ := lstAt_inv hd1 r1 h0
    refine ⟨.inl ⟨rfl, _, .inl (.inl hv0)⟩, tG.go hd1 fr1 e2 fun v2 H2 β2 ex2 af2 hd2 fr2 r2 => ?_⟩
    cases i with
    | int i =>
      cases r2.int_inv
      dsimp only at hg
      split at hg
      · rename_i l q
        split at hg
        · rename_i kk hk
          split at hg
          · rename_i y hy
            split at hg
            · rename_i hl
              cases hg
              obtain ⟨j, p, vs, e, hm, ep, hb, hv, hz, rs⟩ := lstAt_inv hd2 (r1.keep (af2.keep hd1)) q
              cases e
              cases ep
              obtain ⟨w, h1, h2⟩ := rs.getD hy
              obtain ⟨s1, s2, s3, s4⟩ := ixN_seq hk
              have e1 : (lim : Nat) = 16000000 := rfl
              refine ⟨p0, vs, i, kk, w, rfl, rfl, hv, by omega, by omega, by rw [rs.length]; exact s1, h1, ?_⟩
              have kp : Keep β2 ex2 H2 β2 ex2 (upd H2 p0 (.lst (vs.eraseIdx kk))) := ⟨fun _ _ h => h, fun x u h n => ⟨by
                rw [upd_ne fun z => n (by rw [z]; exact hd2.sub _ (List.mem_of_getElem? hb))]
                exact h, n⟩⟩
              obtain ⟨q1, q2, q3⟩ := hd2.put (o := .lst (l.eraseIdx kk)) (ob := .lst (vs.eraseIdx kk)) hb ⟨_, upd_same, Nat.le_trans (len_erase vs kk) hz, (rs.eraseIdx kk).keep kp⟩
              exact k _ _ β2 ex2 (af1.trans (af2.trans q1)) q2 (h2.keep q3)
            · cases hg
          · cases hg
        · cases hg
      · cases hg
    | _ => cases hg
/-- xs.append(e), xs in the store -/
def gAppM (ga gb : Env' → Cm D) : Env' → Cm D := fun ρ M => bnd (ga ρ M) fun d M1 => match lstAt M1 d with
  | some _ => bnd (gb ρ M1) fun y M2 => (match lstAt M2 d with
    | some l => if l.length ≤ lim then some (.non, setL M2 d (l ++ [y])) else none
    | none => none)
  | none => none
theorem de_appM {apos cpos : Pos} (ha : DE X a ga) (hb : DE X b gb)
    (hbase : attributeBase a "append" X.env (eval a X.env) = eval a X.env := by rfl)
    (hfew : ((backTo cpos (starEach [b] X.env)).all (fun x => !x.1) && (backToKw cpos (keywordEach [] X.env)).all (fun x => x.1.isSome) && decide ([b].length + ([] : List Keyword).length + (if ([] : List Keyword).isEmpty then 0 else 1) < 30)) = true := by rfl)
    (hline : (apos.endLine == cpos.line) = true := by rfl) (hs : starEach [b] X.env = (false, eval b X.env) :: starEach [] X.env := by rfl) : DE X (.Call (.Attribute a "append" apos) [b] [] cpos) (gAppM ga gb) :=
  (pe_bm PySem.F.plainAttrs_list PySem.F.slot_list_append PySem.F.type_list_append mt_append ha (pa_cons hb pa_nil hs) hbase hfew hline hs rfl).imp fun σ H Q ⟨β, ex, os, ρ, M, d, M', hd, fr, hg, k⟩ => by
    obtain ⟨x, M1, e1, hg⟩ := bnd_eq hg
    refine tG.go hd fr e1 fun v1 H1 β1 ex1 af1 hd1 fr1 r1 => ?_
    split at hg
    · rename_i l0 h0
      obtain ⟨y, M2, e2, hg⟩ := bnd_eq hg
      obtain ⟨j0, p0, vs0, rfl, hm0, rfl, hb0, hv0, hz0, rs0⟩ := lstAt_inv hd1 r1 h0
      refine ⟨.inl ⟨rfl, _, .inl (.inl hv0)⟩, tG.go hd1 fr1 e2 fun v2 H2 β2 ex2 af2 hd2 fr2 r2 => ?_⟩
      split at hg
      · rename_i l q
        split at hg
        · rename_i hl
          cases hg
          obtain ⟨j, p, vs, e, hm, ep, hb, hv, hz, rs⟩ := lstAt_inv hd2 (r1.keep (af2.keep hd1)) q
          cases e
          cases ep
          refine ⟨p0, vs, v2, rfl, rfl, hv, by rw [rs.length]; exact lim_ok hl, ?_⟩
          have kp : Keep β2 ex2 H2 β2 ex2 (upd H2 p0 (.lst (vs ++ [v2]))) := ⟨fun _ _ h => h, fun x u h n => ⟨by
            rw [upd_ne fun z => n (by rw [z]; exact hd2.sub _ (List.mem_of_getElem? hb))]
            exact h, n⟩⟩
          obtain ⟨q1, q2, q3⟩ := hd2.put (o := .lst (l ++ [y])) (ob := .lst (vs ++ [v2])) hb ⟨_, upd_same, by rw [List.length_append, rs.length]; exact (lim_ok hl), ((rs.append (.one r2)).keep kp)⟩
          exact k _ _ β2 ex2 (af1.trans (af2.trans q1)) q2 .non
        · cases hg
      · cases hg
    · cases hg
/-- xs[i] = e, xs in the store -/
def gSetM (gv ga gb : Env' → Cm D) : GS := fun ρ M => bnd (gv ρ M) fun v M1 => bnd (ga ρ M1) fun d M2 => bnd (gb ρ M2) fun i M3 => match i with
  | .int i => (match lstAt M3 d with
    | some l => (match ixN l.length i with
      | some k => some ((.nx, ρ), setL M3 d (l.set k v))
      | none => none)
    | none => none)
  | _ => none
theorem ds_setM {gv : Env' → Cm D} {spos : Pos} (hv : DE X e gv) (ha : DE X a ga) (hb : DE X b gb)
    (hA : ∀ v, assign (.Subscript a b spos) X.env v = (do
      let ov ← holding [v] (eval a X.env)
      let iv ← holding [v, ov] (eval b X.env)
      standAt spos
      holding [v, ov, iv] (setItem ov iv v)
      release [v, ov, iv] []) := by intro _; rfl) (hs : swapsWithSole [.Subscript a b spos] e pos.line X.env = pure false := by rfl) (hw : swappedStores [.Subscript a b spos] e X.env = pure none := by rfl)
    (h1 : (assignEach [.Subscript a b spos] X.env).map (·.2) = [assign (.Subscript a b spos) X.env] := by rfl) : DS X (.Assign [.Subscript a b spos] e pos) (gSetM gv ga gb) := (ps_asg hv (pg_sub ha hb set_list hA) hs hw h1).imp fun D σ H ⟨β, ex, os, ρ, M, fl, ρ', M', hd, fr, hg, k⟩ => by
  obtain ⟨v, M1, e1, hg⟩ := bnd_eq hg
  obtain ⟨d, M2, e2, hg⟩ := bnd_eq hg
  obtain ⟨i, M3, e3, hg⟩ := bnd_eq hg
  refine tG.go hd fr e1 fun v1 H1 β1 ex1 af1 hd1 fr1 r1 => tG.go hd1 fr1 e2 fun v2 H2 β2 ex2 af2 hd2 fr2 r2 => tG.go hd2 fr2 e3 fun v3 H3 β3 ex3 af3 hd3 fr3 r3 => ?_
  cases i with
  | int i =>
    dsimp only at hg
    split at hg
    · rename_i l q
      split at hg
      · rename_i kk hk
        cases hg
        obtain ⟨j, p, vs, rfl, hm, rfl, hb, hv, hz, rs⟩ := lstAt_inv hd3 (r2.keep (af3.keep hd2)) q
        refine ⟨p, vs, i, kk, rfl, r3.int_inv, hv, by rw [rs.length]; exact hk, ?_⟩
        have kp : Keep β3 ex3 H3 β3 ex3 (upd H3 p (.lst (vs.set kk v1))) := ⟨fun _ _ h => h, fun x u h n => ⟨by
          rw [upd_ne fun z => n (by rw [z]; exact hd3.sub _ (List.mem_of_getElem? hb))]
          exact h, n⟩⟩
        have r13 := (r1.keep (af2.keep hd1)).keep (af3.keep hd2)
        obtain ⟨q1, q2, q3⟩ := hd3.put (o := .lst (l.set kk v)) (ob := .lst (vs.set kk v1)) hb ⟨_, upd_same, by rw [List.length_set]; exact hz, (rs.set r13 kk).keep kp⟩
        have af := af1.trans (af2.trans (af3.trans q1))
        exact k _ _ _ _ _ af.toS q2 (fr.after hd af)
      · cases hg
    · cases hg
  | _ => cases hg
/-- a new list goes into the store -/
def gNewL (g : Env' → Cm (List D)) : Env' → Cm D := fun ρ M => bnd (g ρ M) fun l M1 => some (.loc M1.length, M1 ++ [.lst l])
theorem into_store {K : PySem.W.Frag} {mg : Str → Option Value} {β ex β0 ex0 : List Addr} {H0 H : Hp} {M : Stor} {p : Addr} {o : MO} (af : After β0 ex0 H0 β ex H) (hd : Hold K mg β ex H M) (h0 : H0 p = none) (hx : p ∈ ex) (hn : p ∉ β) (ob : ObjR K mg β ex H p o) :
    After β0 ex0 H0 (β ++ [p]) ex H ∧ Hold K mg (β ++ [p]) ex H (M ++ [o]) ∧ Rep K mg (β ++ [p]) ex H (.ref p) (.loc M.length) := by
  have kp : Keep β ex H (β ++ [p]) ex H := ⟨fun i a h => by rw [List.getElem?_append_left (List.getElem?_eq_some_iff.mp h).1]; exact h, fun a o h n => ⟨h, n⟩⟩
  obtain ⟨n, e, hf⟩ := af.pre
  refine ⟨⟨⟨n ++ [p], by rw [e, List.append_assoc], fun a h => ?_⟩, af.up, af.nw, af.same, af.dom⟩, ⟨by simp [hd.len], ?_, fun a h => ?_, hd.live, fun i a u h1 h2 => ?_⟩, .loc ?_⟩
  · rcases List.mem_append.mp h with h | h
    · exact hf a h
    · rw [List.mem_singleton.mp h]; exact h0
  · refine List.nodup_append.mpr ⟨hd.nd, by simp, fun a h b hb => ?_⟩
    rw [List.mem_singleton.mp hb]
    exact fun z => hn (z ▸ h)
  · rcases List.mem_append.mp h with h | h
    · exact hd.sub a h
    · rw [List.mem_singleton.mp h]; exact hx
  · by_cases hi : i < β.length
    · rw [List.getElem?_append_left hi] at h1
      rw [List.getElem?_append_left (by rw [← hd.len]; exact hi)] at h2
      exact (hd.objs i a u h1 h2).keep kp fun _ h => h
    · rw [List.getElem?_append_right (Nat.le_of_not_lt hi)] at h1
      rw [List.getElem?_append_right (by rw [← hd.len]; exact Nat.le_of_not_lt hi), ← hd.len] at h2
      cases q : i - β.length with
      | zero =>
        rw [q] at h1 h2
        cases h1
        cases h2
        exact ob.keep kp fun _ h => h
      | succ m =>
        rw [q] at h1
        simp at h1
  · rw [← hd.len, List.getElem?_append_right (Nat.le_refl _), Nat.sub_self]
    rfl
theorem de_newL {g : Env' → Cm (List D)} (h : DL X e g) : DE X e (gNewL g) := h.imp fun σ H Q ⟨β, ex, os, ρ, M, c, M', hd, fr, hg, k⟩ => by
  obtain ⟨x, M1, e1, hg⟩ := bnd_eq hg
  cases hg
  refine tG.go hd fr e1 fun v1 H1 β1 ex1 af1 hd1 fr1 ⟨p, ep, hp, hx, hn, ob⟩ => ?_
  obtain ⟨q1, q2, q3⟩ := into_store af1 hd1 hp hx hn ob
  subst ep
  exact k _ H1 _ _ q1 q2 q3

/-! ### a list in a slot is changed -/
theorem Fram.own {K : PySem.W.Frag} {mg : Str → Option Value} {β ex : List Addr} {os : List (Option Addr)} {σ : L2.St} {H : Hp} {ρ : Env'} {i : Nat} {l : List D} (fr : Fram K mg β ex os σ H ρ) (h : ρ[i]? = some (.lst l)) : ∃ p vs, os[i]? = some (some p) ∧ σ[i]? = some (some (.ref p)) ∧ H p = some (.lst vs) ∧ vs.length ≤ sizeLine ∧ Reps K mg β ex H vs l ∧ p ∈ ex ∧ p ∉ β := by
  obtain ⟨p, e1, e2, vs, hv, hz, rs⟩ := fr.sl i _ h
  have eo : os[i]? = some (some p) := by
    cases q : os[i]? with
    | none => rw [q] at e1; cases e1
    | some y => rw [q] at e1; exact congrArg some e1
  have es : σ[i]? = some (some (.ref p)) := by
    cases q : σ[i]? with
    | none => rw [q] at e2; cases e2
    | some y => rw [q] at e2; exact congrArg some e2
  exact ⟨p, vs, eo, es, hv, hz, rs, (fr.ow i p eo).1, (fr.ow i p eo).2⟩
theorem own_put {K : PySem.W.Frag} {mg : Str → Option Value} {β ex : List Addr} {os : List (Option Addr)} {σ : L2.St} {H : Hp} {M : Stor} {ρ : Env'} {i : Nat} {p : Addr} {l l' : List D} {ws : List V} (hd : Hold K mg β ex H M) (fr : Fram K mg β ex os σ H ρ) (hl : ρ[i]? = some (.lst l)) (eo : os[i]? = some (some p)) (es : σ[i]? = some (some (.ref p))) (hz : ws.length ≤ sizeLine) (rs : Reps K mg β ex H ws l') :
    AfterS β ex os H β ex os (upd H p (.lst ws)) ∧ Hold K mg β ex (upd H p (.lst ws)) M ∧ Fram K mg β ex os σ (upd H p (.lst ws)) (ρ.set i (.lst l')) ∧ Keep β ex H β ex (upd H p (.lst ws)) := by
  obtain ⟨hx, hn⟩ := fr.ow i p eo
  have hi : i < ρ.length := (List.getElem?_eq_some_iff.mp hl).1
  have kp : Keep β ex H β ex (upd H p (.lst ws)) := ⟨fun _ _ h => h, fun x u h n => ⟨by
    rw [upd_ne fun z => n (by rw [z]; exact hx)]
    exact h, n⟩⟩
  refine ⟨⟨⟨[], by simp, by simp⟩, fun _ h => .inl h, fun _ h => .inl h, fun _ h => .inl h, fun x u h _ h2 => ?_, fun x h => ?_⟩, ⟨hd.len, hd.nd, hd.sub, fun x h => ?_, fun j x u h1 h2 => ?_⟩, ⟨by simp [fr.len], by simp [fr.leo], fun j t hj => ?_, fr.nd, fr.ow⟩, kp⟩
  · rw [upd_ne fun z => h2 (by rw [z]; exact List.mem_of_getElem? eo)]
    exact h
  · by_cases z : x = p
    · rw [z, upd_same] at h; cases h
    · rw [upd_ne z] at h; exact h
  · by_cases z : x = p
    · rw [z, upd_same]; simp
    · rw [upd_ne z]; exact hd.live x h
  · have nx : x ≠ p := fun z => hn (z ▸ List.mem_of_getElem? h1)
    exact (hd.objs j x u h1 h2).keep kp fun q h => by rw [upd_ne nx]; exact h
  · by_cases e : j = i
    · subst e
      rw [List.getElem?_set_self hi] at hj
      cases hj
      exact ⟨p, by rw [eo]; rfl, by rw [es]; rfl, ws, upd_same, hz, rs.keep kp⟩
    · rw [List.getElem?_set_ne (Ne.symm e)] at hj
      refine (fr.sl j t hj).keep kp fun x hx' u h => ?_
      rw [upd_ne fun z => e ?_]
      · exact h
      · subst z
        have : os[j]? = some (some x) := by
          cases q : os[j]? with
          | none => rw [q] at hx'; cases hx'
          | some y => rw [q] at hx'; exact congrArg some hx'
        exact fr.nd j i x this eo
/-- x.append(e) as a statement -/
def gApp (i : Nat) (gb : Env' → Cm D) : GS := fun ρ M => match ρ[i]? with
  | some (.lst l) => bnd (gb ρ M) fun y M1 => if l.length ≤ lim then some ((.nx, ρ.set i (.lst (l ++ [y]))), M1) else none
  | _ => none
theorem ds_app {apos cpos : Pos} (i : Nat) (ha : PE X a (tVar i)) (hb : DE X b gb)
    (hbase : attributeBase a "append" X.env (eval a X.env) = eval a X.env := by rfl)
    (hfew : ((backTo cpos (starEach [b] X.env)).all (fun x => !x.1) && (backToKw cpos (keywordEach [] X.env)).all (fun x => x.1.isSome) && decide ([b].length + ([] : List Keyword).length + (if ([] : List Keyword).isEmpty then 0 else 1) < 30)) = true := by rfl)
    (hline : (apos.endLine == cpos.line) = true := by rfl) (hs : starEach [b] X.env = (false, eval b X.env) :: starEach [] X.env := by rfl) (hsw : swapsWith (.Call (.Attribute a "append" apos) [b] [] cpos) none pos.line X.env = pure false := by rfl) :
    DS X (.Expr (.Call (.Attribute a "append" apos) [b] [] cpos) pos) (gApp i gb) :=
  (ps_expr (pe_bm PySem.F.plainAttrs_list PySem.F.slot_list_append PySem.F.type_list_append mt_append ha (pa_cons hb pa_nil hs) hbase hfew hline hs rfl) hsw).imp fun D σ H ⟨β, ex, os, ρ, M, fl, ρ', M', hd, fr, hg, k⟩ => by
    unfold gApp at hg
    split at hg
    · rename_i l hl
      obtain ⟨y, M1, e1, hg⟩ := bnd_eq hg
      split at hg
      · rename_i hlim
        cases hg
        obtain ⟨p, vs, eo, es, hv, hz, rs, hx, hn⟩ := fr.own hl
        refine ⟨.ref p, es, .inl ⟨rfl, _, .inl (.inl hv)⟩, tG.go hd fr e1 fun v1 H1 β1 ex1 af1 hd1 fr1 r1 => ?_⟩
        obtain ⟨p1, vs1, eo1, es1, hv1, hz1, rs1, hx1, hn1⟩ := fr1.own hl
        rw [eo] at eo1
        cases eo1
        obtain ⟨q1, q2, q3, q4⟩ := own_put (l' := l ++ [y]) (ws := vs1 ++ [v1]) hd1 fr1 hl eo es (by rw [List.length_append, rs1.length]; exact lim_ok hlim) (rs1.append (.one r1))
        exact ⟨p, vs1, v1, rfl, rfl, hv1, by rw [rs1.length]; exact lim_ok hlim, k _ _ _ _ _ (af1.toS.trans q1 hd.live) q2 q3⟩
      · cases hg
    · cases hg
/-- y = x.pop(), a, b = x.pop(): x a list of one's own -/
def gPop (i : Nat) (t : D → Env' → Option Env') : GS := fun ρ M => match ρ[i]? with
  | some (.lst l) => (match l[l.length - 1]? with
    | some y => (match t y (ρ.set i (.lst l.dropLast)) with
      | some ρ1 => some ((.nx, ρ1), M)
      | none => none)
    | none => none)
  | _ => none
theorem ds_pop {apos cpos : Pos} {tg : Expr} {is : List Nat} {t : D → Env' → Option Env'} (i : Nat) (ha : PE X a (tVar i)) (hg : DG X tg is t)
    (hbase : attributeBase a "pop" X.env (eval a X.env) = eval a X.env := by rfl) (hline : (apos.endLine == cpos.line) = true := by rfl)
    (hs : swapsWithSole [tg] (.Call (.Attribute a "pop" apos) [] [] cpos) pos.line X.env = pure false := by rfl) (hw : swappedStores [tg] (.Call (.Attribute a "pop" apos) [] [] cpos) X.env = pure none := by rfl)
    (h1 : (assignEach [tg] X.env).map (·.2) = [assign tg X.env] := by rfl) : DS X (.Assign [tg] (.Call (.Attribute a "pop" apos) [] [] cpos) pos) (gPop i t) :=
  (ps_asg (pe_bm0 PySem.F.plainAttrs_list PySem.F.slot_list_pop PySem.F.type_list_pop mt_pop ha hbase hline) hg hs hw h1).imp fun D σ H ⟨β, ex, os, ρ, M, fl, ρ', M', hd, fr, hg, k⟩ => by
    unfold gPop at hg
    split at hg
    · rename_i l hl
      split at hg
      · rename_i y hy
        split at hg
        · rename_i ρ1 ht
          cases hg
          obtain ⟨p, vs, eo, es, hv, hz, rs, hx, hn⟩ := fr.own hl
          obtain ⟨w, h1, h2⟩ := rs.getD hy
          obtain ⟨q1, q2, q3, q4⟩ := own_put (l' := l.dropLast) (ws := vs.dropLast) hd fr hl eo es (by rw [List.length_dropLast]; omega) rs.dropLast
          refine ⟨.ref p, es, .inl ⟨rfl, _, .inl (.inl hv)⟩, p, vs, w, rfl, rfl, hv, by rw [rs.length]; exact h1, β, ex, os, _, M, y, ρ', q2, q3, h2.keep q4, ht, fun σ' os' fr' z1 z2 z3 => ?_⟩
          exact k _ _ _ _ os' ⟨q1.pre, q1.up, q1.nw, fun a h => q1.nwo a (z1 a h), q1.same, q1.dom⟩ q2 fr'
        · cases hg
      · cases hg
    · cases hg
/-- y = e, a, b = e: data -/
def gAsgT (g : Env' → Cm D) (t : D → Env' → Option Env') : GS := fun ρ M => bnd (g ρ M) fun d M1 => match t d ρ with
  | some ρ1 => some ((.nx, ρ1), M1)
  | none => none
theorem ds_asgT {tg : Expr} {is : List Nat} {t : D → Env' → Option Env'} (h : DE X e ga) (hg : DG X tg is t)
    (hs : swapsWithSole [tg] e pos.line X.env = pure false := by rfl) (hw : swappedStores [tg] e X.env = pure none := by rfl) (h1 : (assignEach [tg] X.env).map (·.2) = [assign tg X.env] := by rfl) : DS X (.Assign [tg] e pos) (gAsgT ga t) :=
  (ps_asg h hg hs hw h1).imp fun D σ H ⟨β, ex, os, ρ, M, fl, ρ', M', hd, fr, hg, k⟩ => by
    obtain ⟨x, M1, e1, hg⟩ := bnd_eq hg
    split at hg
    · rename_i ρ1 ht
      cases hg
      refine tG.go hd fr e1 fun v1 H1 β1 ex1 af1 hd1 fr1 r1 => ⟨β1, ex1, os, ρ, _, x, ρ', hd1, fr1, r1, ht, fun σ' os' fr' z1 z2 z3 => ?_⟩
      have a := af1.toS (os := os)
      exact k _ _ _ _ os' ⟨a.pre, a.up, a.nw, fun a h => .inl (z1 a h), a.same, a.dom⟩ hd1 fr'
    · cases hg
/-- x, y = e1, e2: plain names -/
def gPar (i j : Nat) (g h : Env' → Cm Slot) : GS := fun ρ M => if i < ρ.length ∧ j < ρ.length then bnd (g ρ M) fun s M1 => bnd (h ρ M1) fun t M2 => some ((.nx, (ρ.set i s).set j t), M2) else none
theorem RS.keep {K : PySem.W.Frag} {mg : Str → Option Value} {β ex β' ex' : List Addr} {H0 H H' : Hp} {M : Stor} {v : V} {s : Slot} (r : RS K mg β ex H0 H v s) (hd : Hold K mg β ex H M) (af : After β ex H β' ex' H') : RS K mg β' ex' H0 H' v s := by
  have nb : ∀ q, q ∈ ex → q ∉ β → q ∉ β' := fun q h1 h2 z => by
    obtain ⟨n, e, hn⟩ := af.pre
    rw [e] at z
    rcases List.mem_append.mp z with z | z
    · exact h2 z
    · exact hd.live q h1 (hn q z)
  cases s with
  | un => exact r.elim
  | dat d => exact Rep.keep (af.keep hd) r
  | lst l =>
    obtain ⟨p, e, hp, hx, hn, ob⟩ := r
    exact ⟨p, e, hp, af.up _ hx, nb p hx hn, ob.keep (af.keep hd) fun o h => af.same p o h hn⟩
  | dct l =>
    obtain ⟨p, e, hp, hx, hn, ob⟩ := r
    exact ⟨p, e, hp, af.up _ hx, nb p hx hn, ob.keep (af.keep hd) fun o h => af.same p o h hn⟩
theorem ds_par {i j : Nat} {x y : Str} {px py pt : Pos} {kt k2 : Nat} {pt2 : Pos} {g h : Env' → Cm Slot} (hc : X.calm = true) (hN : X.N.Nodup) (hi : X.N[i]? = some x) (hj : X.N[j]? = some y) (hij : i ≠ j) (hx : X.env.scope.names.lookup x = some .local) (hy : X.env.scope.names.lookup y = some .local)
    (ha : DV X a g) (hb : DV X b h) (hw : swappedStores [.Tuple [.Name x px, .Name y py] kt pt] (.Tuple [a, b] k2 pt2) X.env = pure (some [x, y]) := by rfl)
    (hs : swapsWithSole [.Tuple [.Name x px, .Name y py] kt pt] (.Tuple [a, b] k2 pt2) pos.line X.env = pure false := by rfl) (hs1 : starEach [a, b] X.env = (false, eval a X.env) :: starEach [b] X.env := by rfl) (hs2 : starEach [b] X.env = (false, eval b X.env) :: starEach [] X.env := by rfl) :
    DS X (.Assign [.Tuple [.Name x px, .Name y py] kt pt] (.Tuple [a, b] k2 pt2) pos) (gPar i j g h) := (ps_par hc hN hi hj hij hx hy (pa_cons ha (pa_cons hb pa_nil hs2) hs1) hw hs).imp fun D σ H ⟨β, ex, os, ρ, M, fl, ρ', M', hd, fr, hg, k⟩ => by
  unfold gPar at hg
  split at hg
  · rename_i hlt
    obtain ⟨s, M1, e1, hg⟩ := bnd_eq hg
    obtain ⟨t, M2, e2, hg⟩ := bnd_eq hg
    cases hg
    refine tG.go hd fr e1 fun v1 H1 β1 ex1 af1 hd1 fr1 r1 => tG.go hd1 fr1 e2 fun v2 H2 β2 ex2 af2 hd2 fr2 r2 => ⟨v1, v2, rfl, ?_⟩
    obtain ⟨os1, q1, q2⟩ := Fram.store (H0 := H) hlt.1 hd1 fr1 (fr.lv hd) r1
    obtain ⟨os2, q3, q4⟩ := Fram.store (H0 := H1) (by rw [List.length_set]; exact hlt.2) hd2 (q1.after hd1 af2) (q1.lv hd1) r2
    have a := (af1.trans af2).toS (os := os)
    refine k _ _ _ _ os2 ⟨a.pre, a.up, a.nw, fun a h => ?_, a.same, a.dom⟩ hd2 q3
    rcases q4 a h with z | z
    · exact q2 a z
    · exact .inr (af1.dom a z)
  · cases hg
end
end Py
/-! the store behind a def; attributes, making, methods; calls with keywords; isinstance -/
namespace Py
open PySem PySem.Spec PyProof.Rows L2

/-! ### what names things of the store -/
mutual
def lcLt (n : Nat) : D → Bool
  | .tup l => lcLts n l
  | .lst l => lcLts n l
  | .scr l => lcLts n l
  | .dct l => lcLtp n l
  | .obj _ l => lcLtf n l
  | .loc i => decide (i < n)
  | _ => true
def lcLts (n : Nat) : List D → Bool
  | [] => true
  | d :: l => lcLt n d && lcLts n l
def lcLtp (n : Nat) : List (D × D) → Bool
  | [] => true
  | (k, d) :: l => lcLt n d && lcLtp n l
def lcLtf (n : Nat) : List (Str × D) → Bool
  | [] => true
  | (k, d) :: l => lcLt n d && lcLtf n l
end
theorem lcLtp_map (n : Nat) : ∀ l : List (D × D), lcLtp n l = lcLts n (l.map (·.2))
  | [] => rfl
  | (k, d) :: l => by
    show (lcLt n d && lcLtp n l) = (lcLt n d && lcLts n (l.map (·.2)))
    rw [lcLtp_map n l]
theorem lcLtf_map (n : Nat) : ∀ l : List (Str × D), lcLtf n l = lcLts n (l.map (·.2))
  | [] => rfl
  | (k, d) :: l => by
    show (lcLt n d && lcLtf n l) = (lcLt n d && lcLts n (l.map (·.2)))
    rw [lcLtf_map n l]
def moLt (n : Nat) : MO → Bool
  | .lst l => lcLts n l
  | .dct l => lcLts n (l.map (·.2))
  | .ins _ l => lcLts n (l.map (·.2))
def wfM (M : Stor) : Bool := M.all (moLt M.length)
section
variable {K : PySem.W.Frag} {mg : Str → Option Value} {β ex n : List Addr} {H : Hp}
mutual
theorem Rep.lcLt : ∀ {v : V} {d : D}, Rep K mg β ex H v d → Py.lcLt β.length d = true
  | _, _, .non => rfl
  | _, _, .bl _ => rfl
  | _, _, .int _ => rfl
  | _, _, .str _ => rfl
  | _, _, .tup _ _ r => by simpa only [Py.lcLt] using Reps.lcLts r
  | _, _, .lst _ _ _ r => by simpa only [Py.lcLt] using Reps.lcLts r
  | _, _, .scr _ _ r => by simpa only [Py.lcLt] using Reps.lcLts r
  | _, _, .dctK _ _ _ r => by rw [Py.lcLt, lcLtp_map]; exact Reps.lcLts r
  | _, _, .dctT _ _ _ r => by rw [Py.lcLt, lcLtp_map]; exact Reps.lcLts r
  | _, _, .obj _ _ _ _ r => by rw [Py.lcLt, lcLtf_map]; exact Reps.lcLts r
  | _, _, .loc h => by rw [Py.lcLt]; exact decide_eq_true (List.getElem?_eq_some_iff.mp h).1
  | _, _, .glo _ => rfl
theorem Reps.lcLts : ∀ {vs : List V} {l : List D}, Reps K mg β ex H vs l → Py.lcLts β.length l = true
  | _, _, .nil => rfl
  | _, _, .cons h r => by rw [Py.lcLts, Rep.lcLt h, Reps.lcLts r]; rfl
end
mutual
theorem Rep.cut : ∀ {v : V} {d : D}, Rep K mg (β ++ n) ex H v d → Py.lcLt β.length d = true → Rep K mg β ex H v d
  | _, _, .non, _ => .non
  | _, _, .bl b, _ => .bl b
  | _, _, .int b, _ => .int b
  | _, _, .str b, _ => .str b
  | _, _, .tup q z r, h => .tup q z (Reps.cut r (by simpa only [Py.lcLt] using h))
  | _, _, .lst q m z r, h => .lst q m z (Reps.cut r (by simpa only [Py.lcLt] using h))
  | _, _, .scr q z r, h => .scr q z (Reps.cut r (by simpa only [Py.lcLt] using h))
  | _, _, .dctK q m z r, h => .dctK q m z (Reps.cut r (by rw [Py.lcLt, lcLtp_map] at h; exact h))
  | _, _, .dctT q m z r, h => .dctT q m z (Reps.cut r (by rw [Py.lcLt, lcLtp_map] at h; exact h))
  | _, _, .obj q m z y r, h => .obj q m z y (Reps.cut r (by rw [Py.lcLt, lcLtf_map] at h; exact h))
  | _, _, .loc q, h => .loc (by
    rw [Py.lcLt] at h
    rw [List.getElem?_append_left (of_decide_eq_true h)] at q
    exact q)
  | _, _, .glo h, _ => .glo h
theorem Reps.cut : ∀ {vs : List V} {l : List D}, Reps K mg (β ++ n) ex H vs l → Py.lcLts β.length l = true → Reps K mg β ex H vs l
  | _, _, .nil, _ => .nil
  | _, _, .cons r rs, h => by
    rw [Py.lcLts, Bool.and_eq_true] at h
    exact .cons (Rep.cut r h.1) (Reps.cut rs h.2)
end
theorem ObjR.cut {a : Addr} : ∀ {o : MO}, ObjR K mg (β ++ n) ex H a o → moLt β.length o = true → ObjR K mg β ex H a o
  | .lst _, ⟨vs, h, z, r⟩, q => ⟨vs, h, z, Reps.cut r q⟩
  | .dct _, .inl ⟨kvs, h, z, r⟩, q => .inl ⟨kvs, h, z, Reps.cut r q⟩
  | .dct _, .inr ⟨kvs, h, z, r⟩, q => .inr ⟨kvs, h, z, Reps.cut r q⟩
  | .ins _ _, ⟨C, dx, fv, h, z, y, r⟩, q => ⟨C, dx, fv, h, z, y, Reps.cut r q⟩
theorem ObjR.moLt {a : Addr} : ∀ {o : MO}, ObjR K mg β ex H a o → Py.moLt β.length o = true
  | .lst _, ⟨vs, h, z, r⟩ => r.lcLts
  | .dct _, .inl ⟨kvs, h, z, r⟩ => r.lcLts
  | .dct _, .inr ⟨kvs, h, z, r⟩ => r.lcLts
  | .ins _ _, ⟨C, dx, fv, h, z, y, r⟩ => r.lcLts
theorem Hold.wf {M : Stor} (hd : Hold K mg β ex H M) : wfM M = true := List.all_eq_true.mpr fun o ho => by
  obtain ⟨i, hi⟩ := List.getElem?_of_mem ho
  have hlt : i < β.length := by rw [hd.len]; exact (List.getElem?_eq_some_iff.mp hi).1
  rw [← hd.len]
  exact (hd.objs i _ o (List.getElem?_eq_getElem hlt) hi).moLt
end
section
variable {P : Program} {w : World} {K : PySem.W.Frag} {mg : Str → Option Value} {base : Heap}
/-- THE RULE for a def, its own things let go behind it -/
theorem fn_okC {x qual : Str} {params : Arguments} {body : List Stmt} {scope : Scope} {dvs : List V} {kws : List (Str × V)} {f : Addr} {fd : FuncData} {N ps : List Str} {k n : Nat} {φ : List D → Cm D} {g : GS} (F : FunD K x qual params body scope dvs kws f fd) (S : FnScope N ps scope) (hn : n = ps.length)
    (hb : ∀ (cdv : Value) (A : Around) (outer : List Env) (s : Shared) (H : Hp) (E : XK), Room k (A.deeper (envOfC qual scope s.heap.objs.size f cdv)) → DSs (cxOf CX0 P w K mg base N qual scope f cdv A outer s H E).nox body g)
    (hφ : ∀ ds M d M', ds.length = n → wfM M = true → lcLts M.length ds = true → φ ds M = some (d, M') → ∃ fl ρ' E, g (env0 N.length ds) M = some ((fl, ρ'), M' ++ E) ∧ (fl = .rt d ∨ (fl = .nx ∧ d = .non)) ∧ M'.length = M.length ∧ wfM M' = true ∧ lcLt M.length d = true) : FnOk P w K mg base CX0 (k + 1) f fd ps (spF K mg n φ) := by
  refine F.ok S (fun vs H Q E h => ?_) (fun cdv A outer s H vs Q E hr h => ?_)
  · obtain ⟨β, ex, M, ds, d, M', hl, hd, rs, hp, k⟩ := h
    rw [rs.length, hl, hn]
  · obtain ⟨β, ex, M, ds, d, M', hl, hd, rs, hp, kk⟩ := h
    obtain ⟨fl, ρ', Eg, hg, hf, hlen, hwf, hlt⟩ := hφ ds M d M' hl hd.wf (by rw [← hd.len]; exact rs.lcLts) hp
    refine ⟨_, PSs.nox (hb cdv A outer s H E hr), ⟨β, ex, _, env0 N.length ds, M, fl, ρ', M' ++ Eg, hd, fram0 rs, hg, fun σ' H' β' ex' os' af hd' fr' => ?_⟩⟩
    have nno : ∀ a : Addr, some a ∉ List.replicate (env0 N.length ds).length (none : Option Addr) := fun a h => by
      have := List.eq_of_mem_replicate h
      cases this
    obtain ⟨m, eβ, hm⟩ := af.pre
    subst eβ
    have hsub : ∀ a ∈ β, a ∈ ex' := fun a h => hd'.sub a (List.mem_append_left _ h)
    have af' : After β ex H β ex' H' := ⟨⟨[], by simp, by simp⟩, fun a h => (af.up a h).resolve_right (nno a), af.nw, fun a o h h1 => af.same a o h h1 (nno a), af.dom⟩
    have hlb : β.length = M'.length := by rw [hd.len, hlen]
    have hd2 : Hold K mg β ex' H' M' := by
      refine ⟨hlb, (List.nodup_append.mp hd'.nd).1, hsub, hd'.live, fun i a o h1 h2 => ?_⟩
      have hi := (List.getElem?_eq_some_iff.mp h1).1
      have hi' := (List.getElem?_eq_some_iff.mp h2).1
      refine (hd'.objs i a o (by rw [List.getElem?_append_left hi]; exact h1) (by rw [List.getElem?_append_left hi']; exact h2)).cut ?_
      rw [hlb]
      exact List.all_eq_true.mp hwf o (List.mem_of_getElem? h2)
    have fin : ∀ v, Rep K mg (β ++ m) ex' H' v d → Q v H' := fun v r => kk v H' β ex' af' hd2 (r.cut (by rw [hd.len]; exact hlt))
    rcases hf with rfl | ⟨rfl, rfl⟩
    · exact fin
    · exact fin .non .non
end

/-! ### attributes -/
theorem lookup_rep {K : PySem.W.Frag} {mg : Str → Option Value} {β ex : List Addr} {H : Hp} {f : Str} {d : D} : ∀ {fv : List (Str × V)} {fs : List (Str × D)}, fv.map (·.1) = fs.map (·.1) → Reps K mg β ex H (fv.map (·.2)) (fs.map (·.2)) → fs.lookup f = some d → ∃ v, fv.lookup f = some v ∧ Rep K mg β ex H v d
  | [], [], _, _, h => by cases h
  | [], _ :: _, e, _, _ => by cases e
  | _ :: _, [], e, _, _ => by cases e
  | (g, v) :: fv, (g', d') :: fs, e, r, h => by
    have e1 : g = g' := (List.cons.inj e).1
    subst e1
    cases r with
    | cons r rs =>
      rw [List.lookup_cons] at h ⊢
      by_cases q : f == g
      · rw [q] at h ⊢
        cases h
        exact ⟨v, rfl, r⟩
      · rw [show (f == g) = false from Bool.eq_false_iff.mpr q] at h ⊢
        exact lookup_rep (List.cons.inj e).2 rs h
theorem lookup_none {f : Str} : ∀ {fv : List (Str × V)} {fs : List (Str × D)}, fv.map (·.1) = fs.map (·.1) → fs.lookup f = none → fv.lookup f = none
  | [], [], _, _ => rfl
  | [], _ :: _, e, _ => by cases e
  | _ :: _, [], e, _ => by cases e
  | (g, v) :: fv, (g', d') :: fs, e, h => by
    have e1 : g = g' := (List.cons.inj e).1
    subst e1
    rw [List.lookup_cons] at h ⊢
    by_cases q : f == g
    · rw [q] at h; cases h
    · rw [show (f == g) = false from Bool.eq_false_iff.mpr q] at h ⊢
      exact lookup_none (List.cons.inj e).2 h
/-- the class and the attributes of an instance -/
def insAt (M : Stor) (d : D) : Option (Str × List (Str × D)) := match d with
  | .obj c fs => some (c, fs)
  | .loc i => (match M[i]? with
    | some (.ins c fs) => some (c, fs)
    | _ => none)
  | _ => none
theorem insAt_inv {K : PySem.W.Frag} {mg : Str → Option Value} {β ex : List Addr} {H : Hp} {M : Stor} {v : V} {d : D} {c : Str} {fs : List (Str × D)} (hd : Hold K mg β ex H M) (r : Rep K mg β ex H v d) (h : insAt M d = some (c, fs)) :
    ∃ a C dx fv, v = .ref a ∧ H a = some (.ins C dx fv) ∧ mg c = some (.ref C) ∧ fv.map (·.1) = fs.map (·.1) ∧ Reps K mg β ex H (fv.map (·.2)) (fs.map (·.2)) := by
  cases r with
  | obj q n m e rs =>
    cases h
    exact ⟨_, _, _, _, rfl, q, m, e, rs⟩
  | loc hb =>
    unfold insAt at h
    dsimp only at h
    split at h
    · rename_i c' fs' hm
      cases h
      obtain ⟨C, dx, fv, h1, h2, h3, h4⟩ := hd.objs _ _ _ hb hm
      exact ⟨_, C, dx, fv, rfl, h1, h2, h3, h4⟩
    · cases h
  | _ => cases h
section
variable {X : Cx} {pos p : Pos} {a b c e : Expr} {ga gb gc : Env' → Cm D} {gq : Env' → Cm (List D)}
def gFld (c f : Str) (ga : Env' → Cm D) : Env' → Cm D := fun ρ M => bnd (ga ρ M) fun d M1 => match insAt M1 d with
  | some (c', fs) => if c' = c then lft (fs.lookup f) M1 else none
  | none => none
theorem de_fld {c f : Str} {C : Addr} (hC : X.mg c = some (.ref C)) (cl : Cls X.K C) (na : NoAttr X.K C f) (ha : DE X a ga) (hb : attributeBase a f X.env (eval a X.env) = eval a X.env := by rfl) : DE X (.Attribute a f pos) (gFld c f ga) := (pe_fld ha hb).imp fun σ H Q ⟨β, ex, os, ρ, M, d, M', hd, fr, hg, k⟩ => by
  obtain ⟨x, M1, e1, h2'⟩ := bnd_eq hg
  clear hg
  refine tG.go hd fr e1 fun v1 H1 β1 ex1 af1 hd1 fr1 r1 => ?_
  cases hi : insAt M1 x with
  | none => rw [hi] at h2'; cases h2'
  | some cf =>
    obtain ⟨c', fs⟩ := cf
    rw [hi] at h2'
    dsimp only at h2'
    by_cases ec : c' = c
    · rw [if_pos ec] at h2'
      subst ec
      obtain ⟨e3, e4⟩ := lft_eq h2'
      have e4 : M' = M1 := e4
      subst e4
      obtain ⟨p, C', dx, fv, rfl, h1, h2, h3, h4⟩ := insAt_inv hd1 r1 hi
      rw [hC] at h2
      cases h2
      obtain ⟨v, l1, l2⟩ := lookup_rep h3 h4 e3
      exact ⟨p, C, dx, fv, v, rfl, h1, cl, na, l1, k v H1 β1 ex1 af1 hd1 l2⟩
    · rw [if_neg ec] at h2'
      cases h2'
/-- o.f = e, o in the store -/
def putFD (f : Str) (d : D) : List (Str × D) → List (Str × D)
  | [] => [(f, d)]
  | (g, x) :: r => if g = f then (g, d) :: r else (g, x) :: putFD f d r
theorem putF_rep {K : PySem.W.Frag} {mg : Str → Option Value} {β ex : List Addr} {H : Hp} {f : Str} {v : V} {d : D} (r : Rep K mg β ex H v d) : ∀ {fv : List (Str × V)} {fs : List (Str × D)}, fv.map (·.1) = fs.map (·.1) → Reps K mg β ex H (fv.map (·.2)) (fs.map (·.2)) →
    (putF f v fv).map (·.1) = (putFD f d fs).map (·.1) ∧ Reps K mg β ex H ((putF f v fv).map (·.2)) ((putFD f d fs).map (·.2))
  | [], [], _, _ => ⟨rfl, .one r⟩
  | [], _ :: _, e, _ => by cases e
  | _ :: _, [], e, _ => by cases e
  | (g, x) :: fv, (g', x') :: fs, e, rs => by
    have e1 : g = g' := (List.cons.inj e).1
    subst e1
    cases rs with
    | cons q rs =>
      unfold putF putFD
      by_cases h : g = f
      · rw [if_pos h, if_pos h]
        exact ⟨e, .cons r rs⟩
      · rw [if_neg h, if_neg h]
        obtain ⟨h1, h2⟩ := putF_rep r (List.cons.inj e).2 rs
        exact ⟨congrArg (g :: ·) h1, .cons q h2⟩
/-- an instance of the store -/
def insM (M : Stor) (d : D) : Option (Nat × Str × List (Str × D)) := match d with
  | .loc i => (match M[i]? with
    | some (.ins c fs) => some (i, c, fs)
    | _ => none)
  | _ => none
theorem insM_inv {K : PySem.W.Frag} {mg : Str → Option Value} {β ex : List Addr} {H : Hp} {M : Stor} {v : V} {d : D} {i : Nat} {c : Str} {fs : List (Str × D)} (hd : Hold K mg β ex H M) (r : Rep K mg β ex H v d) (h : insM M d = some (i, c, fs)) :
    ∃ a C dx fv, v = .ref a ∧ β[i]? = some a ∧ H a = some (.ins C dx fv) ∧ mg c = some (.ref C) ∧ fv.map (·.1) = fs.map (·.1) ∧ Reps K mg β ex H (fv.map (·.2)) (fs.map (·.2)) := by
  cases r with
  | loc hb =>
    unfold insM at h
    dsimp only at h
    split at h
    · rename_i c' fs' hm
      cases h
      obtain ⟨C, dx, fv, h1, h2, h3, h4⟩ := hd.objs _ _ _ hb hm
      exact ⟨_, C, dx, fv, rfl, hb, h1, h2, h3, h4⟩
    · cases h
  | _ => cases h
def gPut (c f : Str) (gv ga : Env' → Cm D) : GS := fun ρ M => bnd (gv ρ M) fun v M1 => bnd (ga ρ M1) fun d M2 => match insM M2 d with
  | some (i, c', fs) => if c' = c ∧ fs.length < 900 then some ((.nx, ρ), M2.set i (.ins c (putFD f v fs))) else none
  | none => none
theorem ds_put {c f : Str} {C : Addr} {gv : Env' → Cm D} {pos' : Pos} (hC : X.mg c = some (.ref C)) (cl : Cls X.K C) (na : NoAttr X.K C f) (ha : DE X a ga) (hv : DE X e gv) (hs : swapsWith e (some (.Attribute a f pos')) pos.line X.env = pure false := by rfl) : DS X (.Assign [.Attribute a f pos'] e pos) (gPut c f gv ga) := (ps_fld ha hv hs).imp fun D σ H ⟨β, ex, os, ρ, M, fl, ρ', M', hd, fr, hg, k⟩ => by
  obtain ⟨v, M1, e1, hg⟩ := bnd_eq hg
  obtain ⟨d, M2, e2, hg⟩ := bnd_eq hg
  refine tG.go hd fr e1 fun v1 H1 β1 ex1 af1 hd1 fr1 r1 => tG.go hd1 fr1 e2 fun v2 H2 β2 ex2 af2 hd2 fr2 r2 => ?_
  cases hi : insM M2 d with
  | none => rw [hi] at hg; cases hg
  | some cf =>
    obtain ⟨i, c', fs⟩ := cf
    rw [hi] at hg
    dsimp only at hg
    by_cases ec : c' = c ∧ fs.length < 900
    · rw [if_pos ec] at hg
      obtain ⟨ec, hl⟩ := ec
      subst ec
      cases hg
      obtain ⟨p, C', dx, fv, rfl, hb, h1, h2, h3, h4⟩ := insM_inv hd2 r2 hi
      rw [hC] at h2
      cases h2
      have hlen : fv.length = fs.length := by simpa using congrArg List.length h3
      have r12 := r1.keep (af2.keep hd1)
      obtain ⟨h5, h6⟩ := putF_rep (f := f) r12 h3 h4
      have kp : Keep β2 ex2 H2 β2 ex2 (upd H2 p (.ins C dx (putF f v1 fv))) := ⟨fun _ _ h => h, fun x u h n => ⟨by
        rw [upd_ne fun z => n (by rw [z]; exact hd2.sub _ (List.mem_of_getElem? hb))]
        exact h, n⟩⟩
      obtain ⟨q1, q2, q3⟩ := hd2.put (o := .ins c' (putFD f v fs)) (ob := .ins C dx (putF f v1 fv)) hb ⟨C, dx, _, upd_same, hC, h5, h6.keep kp⟩
      have af := af1.trans (af2.trans q1)
      exact ⟨p, C, dx, fv, rfl, h1, cl, na, by omega, k _ _ _ _ _ af.toS q2 (fr.after hd af)⟩
    · rw [if_neg ec] at hg
      cases hg

/-! ### C(..): an instance in the store; as data -/
def gMake (c : Str) (φ : List D → Cm D) (ga : Env' → Cm (List D)) : Env' → Cm D := fun ρ M => bnd (ga ρ M) fun ds M1 => bnd (φ (.loc M1.length :: ds) (M1 ++ [.ins c []])) fun _ M2 => some (.loc M1.length, M2)
theorem new_ins {K : PySem.W.Frag} {mg : Str → Option Value} {β ex : List Addr} {H : Hp} {M : Stor} {x dx C : Addr} {c : Str} (hd : Hold K mg β ex H M) (hC : mg c = some (.ref C)) (nx : H x = none) (nd : H dx = none) (ne : dx ≠ x) :
    After β ex H (β ++ [x]) (x :: ex) (upd (upd H dx (.own x)) x (.ins C dx [])) ∧ Hold K mg (β ++ [x]) (x :: ex) (upd (upd H dx (.own x)) x (.ins C dx [])) (M ++ [.ins c []]) ∧ Keep β ex H (β ++ [x]) (x :: ex) (upd (upd H dx (.own x)) x (.ins C dx [])) := by
  have gr : Grow H (upd (upd H dx (.own x)) x (.ins C dx [])) := fun a o h => by
    rw [upd_ne (ne_of_none h nx), upd_ne (ne_of_none h nd)]
    exact h
  have hd1 := hd.grow gr
  have nxe : x ∉ ex := live_new hd nx
  have hdx : Hold K mg β (x :: ex) (upd (upd H dx (.own x)) x (.ins C dx [])) M := ⟨hd.len, hd.nd, fun a h => List.mem_cons_of_mem _ (hd.sub a h), fun a h => by
    rcases List.mem_cons.mp h with h | h
    · rw [h, upd_same]; simp
    · exact hd1.live a h, fun i a o h1 h2 => (hd.objs i a o h1 h2).keep ⟨fun _ _ h => h, fun b o h n => ⟨gr b o h, fun z => (List.mem_cons.mp z).elim (fun z => by rw [z, nx] at h; cases h) n⟩⟩ (gr a)⟩
  have af0 : After β ex H β (x :: ex) (upd (upd H dx (.own x)) x (.ins C dx [])) := ⟨⟨[], by simp, by simp⟩, fun a h => List.mem_cons_of_mem _ h, fun a h => (List.mem_cons.mp h).elim (fun z => .inr (by rw [z]; exact nx)) .inl, fun a o h _ => gr a o h, fun a h => gr.dom h⟩
  obtain ⟨q1, q2, q3⟩ := into_store af0 hdx nx (List.mem_cons_self ..) (hd.nb nx) (o := .ins c []) ⟨C, dx, [], upd_same, hC, rfl, .nil⟩
  exact ⟨q1, q2, q1.keep hd⟩
theorem de_make {k n : Nat} {f C : Addr} {fd : FuncData} {ps : List Str} {φ : List D → Cm D} {c : Str} {es : List Expr} {ga : Env' → Cm (List D)} (Mk' : Mk X.K C f) (F : FnOk X.prog X.w X.K X.mg X.base CX0 k f fd ps (spF X.K X.mg n φ)) (hr : Room (k + 1) X.A) (hg : Gl X c) (hm : X.mg c = some (.ref C)) (hb : Binds X.K fd ps [])
    (ha : DA X (e :: es) ga) (hn : n = es.length + 2) (hφ : ∀ ds M d M', φ ds M = some (d, M') → d = .non) (hdb : (c == ("__debug__" : Str)) = false := by decide) (he : starEach (e :: es) X.env = (false, eval e X.env) :: starEach es X.env := by rfl) (hpl : (backTo pos (starEach es X.env)).any (·.1) = false := by rfl)
    (hlen : ∀ ρ M ds M', ga ρ M = some (ds, M') → ds.length = es.length + 1) : DE X (.Call (.Name c p) (e :: es) [] pos) (gMake c φ ga) := (pe_make Mk' F hr hg hm hb .nil pass0 ha hdb he hpl).imp fun σ H Q ⟨β, ex, os, ρ, M, d, M', hd, fr, hg, k⟩ => by
  obtain ⟨ds, M1, e1, hg⟩ := bnd_eq hg
  obtain ⟨d2, M2, e2, hg⟩ := bnd_eq hg
  cases hg
  have hd2 := hφ _ _ _ _ e2
  subst hd2
  refine tA'.go hd fr e1 fun vs H1 β1 ex1 af1 hd1 fr1 r1 x dx nx nd ne => ?_
  rw [List.append_nil]
  obtain ⟨q1, q2, q3⟩ := new_ins (c := c) hd1 hm nx nd ne
  refine ⟨β1 ++ [x], x :: ex1, _, _, _, _, by rw [List.length_cons, hlen _ _ _ _ e1, hn], q2, .cons (.loc (by rw [← hd1.len, List.getElem?_append_right (Nat.le_refl _), Nat.sub_self]; rfl)) (r1.keep q3), e2, fun v H' β' ex' af hd' r => ⟨r.non_inv, ?_⟩⟩
  refine k _ H' β' ex' (af1.trans (q1.trans af)) hd' (.loc ?_)
  obtain ⟨m, em, _⟩ := af.pre
  rw [em, List.append_assoc, List.getElem?_append_right (by rw [hd1.len]; exact Nat.le_refl _), hd1.len, Nat.sub_self]
  rfl
/-- an instance that is data from its making on: __init__ puts attributes, and that is all -/
def gMakeO (c : Str) (φ : List D → Cm D) (ga : Env' → Cm (List D)) : Env' → Cm D := fun ρ M => bnd (ga ρ M) fun ds M1 => match φ (.loc M1.length :: ds) (M1 ++ [.ins c []]) with
  | some (_, M2) => (match M2[M1.length]? with
    | some (.ins c' fs) => if c' = c ∧ M.length ≤ M1.length ∧ lcLts M1.length (fs.map (·.2)) = true ∧ M2.length = M1.length + 1 ∧ wfM (M2.take M1.length) = true then some (.obj c fs, M2.take M1.length) else none
    | _ => none)
  | none => none
theorem de_makeO {k n : Nat} {f C : Addr} {fd : FuncData} {ps : List Str} {φ : List D → Cm D} {c : Str} {es : List Expr} {ga : Env' → Cm (List D)} (Mk' : Mk X.K C f) (F : FnOk X.prog X.w X.K X.mg X.base CX0 k f fd ps (spF X.K X.mg n φ)) (hr : Room (k + 1) X.A) (hg : Gl X c) (hm : X.mg c = some (.ref C)) (hb : Binds X.K fd ps [])
    (ha : DA X (e :: es) ga) (hn : n = es.length + 2) (hφ : ∀ ds M d M', φ ds M = some (d, M') → d = .non) (hdb : (c == ("__debug__" : Str)) = false := by decide) (he : starEach (e :: es) X.env = (false, eval e X.env) :: starEach es X.env := by rfl) (hpl : (backTo pos (starEach es X.env)).any (·.1) = false := by rfl)
    (hlen : ∀ ρ M ds M', ga ρ M = some (ds, M') → ds.length = es.length + 1) : DE X (.Call (.Name c p) (e :: es) [] pos) (gMakeO c φ ga) := (de_make Mk' F hr hg hm hb ha hn hφ hdb he hpl hlen).imp fun σ H Q ⟨β, ex, os, ρ, M, d, M', hd, fr, hg, k⟩ => by
  obtain ⟨ds, M1, e1, hg⟩ := bnd_eq hg
  cases e2 : φ (.loc M1.length :: ds) (M1 ++ [.ins c []]) with
  | none => rw [e2] at hg; cases hg
  | some r =>
    obtain ⟨d2, M2⟩ := r
    rw [e2] at hg
    dsimp only at hg
    split at hg
    · rename_i c' fs hM
      by_cases ec : c' = c ∧ M.length ≤ M1.length ∧ lcLts M1.length (fs.map (·.2)) = true ∧ M2.length = M1.length + 1 ∧ wfM (M2.take M1.length) = true
      · rw [if_pos ec] at hg
        obtain ⟨ec, hle, hlc, hl2, hwf⟩ := ec
        subst ec
        cases hg
        refine tG.go hd fr (a := .loc M1.length) (M' := M2) (by unfold gMake; rw [e1, bnd_some, e2]; rfl) fun v1 H1 β1 ex1 af1 hd1 fr1 r1 => ?_
        -- the new instance stands at the store's end
        obtain ⟨a, ep, hb, hbm, C', dx, fv, h1, h2, h3, h4⟩ := hd1.get r1 hM
        subst ep
        have hbl : β1.length = M1.length + 1 := by rw [hd1.len, hl2]
        have eb : β1 = β1.take M1.length ++ [a] := by
          have hx := List.take_append_drop M1.length β1
          rw [List.drop_eq_getElem_cons (by omega)] at hx
          have e3 : β1[M1.length] = a := by
            have := hb
            rw [List.getElem?_eq_getElem (by omega)] at this
            exact Option.some.inj this
          rw [e3, List.drop_eq_nil_of_le (by omega)] at hx
          exact hx.symm
        have htl : (β1.take M1.length).length = M1.length := by rw [List.length_take]; omega
        obtain ⟨nn, en, hnf⟩ := af1.pre
        have hbm0 : β.length ≤ M1.length := by rw [hd.len]; exact hle
        generalize hB : β1.take M1.length = B at eb htl
        subst eb
        have hnd := List.nodup_append.mp hd1.nd
        have hna : a ∉ B := fun z => hnd.2.2 a z a (by simp) rfl
        have hpre : ∃ m, B = β ++ m ∧ (∀ x ∈ m, H x = none) ∧ H a = none := by
          have t1 : B = (β ++ nn).take B.length := by rw [← en]; simp
          rw [List.take_append, List.take_of_length_le (by omega)] at t1
          have t2 : a ∈ nn := by
            have t3 : (β ++ nn)[B.length]? = some a := by rw [← en]; simp
            rw [List.getElem?_append_right (by omega)] at t3
            exact List.mem_of_getElem? t3
          exact ⟨_, t1, fun x hx => hnf x (List.mem_of_mem_take hx), hnf a t2⟩
        obtain ⟨m, em, hm0, ha0⟩ := hpre
        have hs : ∀ x ∈ ex1.filter fun x => decide (x ≠ a), x ∈ ex1 := fun x h => (List.mem_filter.mp h).1
        have kp : Keep B ex1 H1 B (ex1.filter fun x => decide (x ≠ a)) H1 := ⟨fun _ _ h => h, fun x o h n => ⟨h, fun z => n (hs x z)⟩⟩
        refine k _ H1 B (ex1.filter fun x => decide (x ≠ a)) ⟨⟨m, em, hm0⟩, fun x h => List.mem_filter.mpr ⟨af1.up x h, decide_eq_true fun z => hd.live x h (by rw [z]; exact ha0)⟩, fun x h => af1.nw x (hs x h), af1.same, af1.dom⟩ ?_ ?_
        · refine ⟨by rw [htl, List.length_take]; omega, hnd.1, fun x h => List.mem_filter.mpr ⟨hd1.sub x (List.mem_append_left _ h), decide_eq_true fun z => hna (z ▸ h)⟩, fun x h => hd1.live x (hs x h), fun i x o q1 q2 => ?_⟩
          have hi := (List.getElem?_eq_some_iff.mp q1).1
          rw [List.getElem?_take] at q2
          rw [if_pos (by omega)] at q2
          have ob := (hd1.objs i x o (by rw [List.getElem?_append_left hi]; exact q1) q2)
          refine (ob.cut ?_).keep kp fun _ h => h
          have := List.all_eq_true.mp hwf o (List.mem_of_getElem? (by rw [List.getElem?_take, if_pos (show i < M1.length by omega)]; exact q2))
          rw [List.length_take, show min M1.length M2.length = B.length by omega] at this
          exact this
        · rw [hm] at h2
          cases h2
          refine .obj h1 (fun z => of_decide_eq_true (List.mem_filter.mp z).2 rfl) hm h3 ((h4.cut ?_).keep kp)
          rw [htl]
          exact hlc
      · rw [if_neg ec] at hg
        cases hg
    · cases hg
end
end Py
/-! isinstance; calls with keywords alone -/
namespace Py
open PySem PySem.Spec PyProof.Rows L2

/-! ### isinstance -/
def knd : D → Option String
  | .non => some "NoneType"
  | .bl _ => some "bool"
  | .int _ => some "int"
  | .str _ => some "str"
  | .tup _ => some "tuple"
  | .lst _ => some "list"
  | .scr _ => some "list"
  | _ => none
def isT (n : String) (d : D) : Option Bool := match knd d with
  | some k => some (k == n || (k == "bool" && n == "int"))
  | none => none
section
variable {K : PySem.W.Frag} {mg : Str → Option Value}
theorem Rep.tyX {β ex : List Addr} {H : Hp} {v : V} {d : D} {n : String} (r : Rep K mg β ex H v d) (h : knd d = some n) : TyX K H v (.type n) := by
  cases r with
  | non => cases h; exact .base .non
  | bl b => cases h; exact .base (.bl b)
  | int i => cases h; exact .base (.int i)
  | str x => cases h; exact .base (.str x)
  | tup q z rs =>
    cases h
    rcases q with q | q
    · exact .base (.tup q.1)
    · obtain ⟨o, its, m, e, c, _⟩ := q
      exact .kTuple e c
  | lst q z rs => cases h; exact .base (.lst q)
  | scr q z rs =>
    cases h
    rcases q with q | q
    · rcases q.1 with q | ⟨o, q⟩
      · exact .base (.lst q)
      · exact .base (.frz q)
    · obtain ⟨o, its, m, e, c, _⟩ := q
      exact .kList e c
  | _ => cases h
def clsN : List String := ["bool", "int", "str", "tuple", "list"]
theorem kitB_all : ∀ a ∈ ["NoneType", "bool", "int", "str", "tuple", "list"], ∀ b ∈ clsN, kitB a b = some (a == b || (a == "bool" && b == "int")) := by decide +kernel
theorem isT_kit {d : D} {n b : String} {r : Bool} (hn : knd d = some n) (hb : b ∈ clsN) (h : isT b d = some r) : PySem.W.kitOne K (.type n) (.type b) = some r := by
  refine kit_ty ?_
  have hk : n ∈ ["NoneType", "bool", "int", "str", "tuple", "list"] := by
    cases d <;> cases hn <;> decide
  unfold isT at h
  rw [hn] at h
  rw [kitB_all n hk b hb, ← h]
theorem isT_knd {d : D} {b : String} {r : Bool} (h : isT b d = some r) : ∃ n, knd d = some n := by
  unfold isT at h
  split at h
  · rename_i k hk
    exact ⟨k, hk⟩
  · cases h
end
section
variable {X : Cx} {a : Expr} {ga : Env' → Cm D} {p q pos : Pos}
def gIsi (b : String) (ga : Env' → Cm D) : Env' → Cm D := fun ρ M => bnd (ga ρ M) fun d M1 => lft ((isT b d).map .bl) M1
theorem de_isi {x : Str} {b : String} (hb : b ∈ clsN) (hg : Gl X "isinstance") (hm : X.mg "isinstance" = none) (hg2 : Gl X x) (hm2 : X.mg x = none) (hv : bootBuiltins x = some (.type b)) (ha : DE X a ga)
    (hs : starEach [a, .Name x q] X.env = (false, eval a X.env) :: starEach [.Name x q] X.env := by rfl) (hs2 : starEach [.Name x q] X.env = (false, eval (.Name x q) X.env) :: starEach [] X.env := by rfl) (hpl : (backTo pos (starEach [.Name x q] X.env)).any (·.1) = false := by rfl)
    (hn : x ≠ "__name__" := by decide) (hdb : (x == ("__debug__" : Str)) = false := by decide) :
    DE X (.Call (.Name "isinstance" p) [a, .Name x q] [] pos) (gIsi b ga) :=
  (pe_callB call_isi hg hm boot_isinstance (pa_cons ha (pa_cons (pe_bltn (v := .ty b) hg2 hm2 hv rfl hn hdb) pa_nil hs2) hs) (he := hs) (hpl := hpl)).imp fun σ H Q ⟨β, ex, os, ρ, M, d, M', hd, fr, hg, k⟩ => by
    obtain ⟨z, M1, e1, hg⟩ := bnd_eq hg
    obtain ⟨e3, e4⟩ := lft_eq hg
    have e4 : M' = M1 := e4
    subst e4
    refine (show tCB (rIsi X.K) (tCons (tG X.K X.mg (RD X.K X.mg) ga) (tCons (tC (.ty b)) tNil)) σ H Q from ?_)
    refine tG.go hd fr e1 fun v1 H1 β1 ex1 af1 hd1 fr1 r1 => ?_
    cases hz : isT b z with
    | none => rw [hz] at e3; cases e3
    | some r =>
      rw [hz] at e3
      cases e3
      obtain ⟨n, hn⟩ := isT_knd hz
      exact ⟨v1, .ty b, .type n, .type b, r, rfl, .ty b, r1.tyX hn, isT_kit hn hb hz, k _ H1 β1 ex1 af1 hd1 (.bl r)⟩
/-- of two classes -/
def gIsi2 (b c : String) (ga : Env' → Cm D) : Env' → Cm D := fun ρ M => bnd (ga ρ M) fun d M1 => match isT b d, isT c d with
  | some r, some s => some (.bl (r || s), M1)
  | _, _ => none
theorem de_isi2 {x y : Str} {b c : String} {kt : Nat} {tpos q2 : Pos} (hb : b ∈ clsN) (hc : c ∈ clsN) (hg : Gl X "isinstance") (hm : X.mg "isinstance" = none) (hg2 : Gl X x) (hm2 : X.mg x = none) (hv : bootBuiltins x = some (.type b)) (hg3 : Gl X y) (hm3 : X.mg y = none) (hv3 : bootBuiltins y = some (.type c)) (ha : DE X a ga)
    (hs : starEach [a, .Tuple [.Name x q, .Name y q2] kt tpos] X.env = (false, eval a X.env) :: starEach [.Tuple [.Name x q, .Name y q2] kt tpos] X.env := by rfl) (hs2 : starEach [.Tuple [.Name x q, .Name y q2] kt tpos] X.env = (false, eval (.Tuple [.Name x q, .Name y q2] kt tpos) X.env) :: starEach [] X.env := by rfl) (hpl : (backTo pos (starEach [.Tuple [.Name x q, .Name y q2] kt tpos] X.env)).any (·.1) = false := by rfl)
    (hs3 : starEach [.Name x q, .Name y q2] X.env = (false, eval (.Name x q) X.env) :: starEach [.Name y q2] X.env := by rfl) (hs4 : starEach [.Name y q2] X.env = (false, eval (.Name y q2) X.env) :: starEach [] X.env := by rfl)
    (hn : x ≠ "__name__" := by decide) (hdb : (x == ("__debug__" : Str)) = false := by decide) (hn' : y ≠ "__name__" := by decide) (hdb' : (y == ("__debug__" : Str)) = false := by decide) :
    DE X (.Call (.Name "isinstance" p) [a, .Tuple [.Name x q, .Name y q2] kt tpos] [] pos) (gIsi2 b c ga) :=
  (pe_callB call_isiT hg hm boot_isinstance (pa_cons ha (pa_cons (pe_tup (pa_cons (pe_bltn (v := .ty b) hg2 hm2 hv rfl hn hdb) (pa_cons (pe_bltn (v := .ty c) hg3 hm3 hv3 rfl hn' hdb') pa_nil hs4) hs3)) pa_nil hs2) hs) (he := hs) (hpl := hpl)).imp fun σ H Q ⟨β, ex, os, ρ, M, d, M', hd, fr, hg, k⟩ => by
    obtain ⟨z, M1, e1, hg⟩ := bnd_eq hg
    refine (show tCB (rIsiT X.K) (tCons (tG X.K X.mg (RD X.K X.mg) ga) (tCons (tTup (tCons (tC (.ty b)) (tCons (tC (.ty c)) tNil))) tNil)) σ H Q from ?_)
    refine tG.go hd fr e1 fun v1 H1 β1 ex1 af1 hd1 fr1 r1 => ?_
    split at hg
    · rename_i r s h1 h2
      cases hg
      obtain ⟨n, hn⟩ := isT_knd h1
      refine ⟨by show 2 ≤ sizeLine; rw [sizeLine_eq]; omega, fun t ht => ?_⟩
      have gr : Grow H1 (upd H1 t (.tup [.ty b, .ty c])) := Grow.new ht
      refine ⟨v1, t, [.ty b, .ty c], .type n, [.type b, .type c], r || s, rfl, upd_same, .cons (.ty b) (.cons (.ty c) .nil), (r1.keep gr.keep).tyX hn, ?_, k _ _ β1 ex1 (af1.trans gr.after) (hd1.grow gr) (.bl _)⟩
      refine kitAny_cons (isT_kit hn hb h1) (fun er => ?_) (fun er => by rw [er]; rfl)
      rw [er, Bool.false_or]
      exact kitAny_cons (isT_kit hn hc h2) (fun es => by rw [es]; rfl) fun es => es
    · cases hg
end

/-! ### calls with keywords alone -/
def tK' (K : PySem.W.Frag) (mg : Str → Option Value) (g : Env' → Cm (List D)) : TA := tA' K mg g
abbrev DK (X : Cx) (kws : List Keyword) (g : Env' → Cm (List D)) : Prop := PK X kws (tA' X.K X.mg g)
section
variable {X : Cx} {e : Expr} {kws : List Keyword} {ga : Env' → Cm D} {gr : Env' → Cm (List D)} {nm : Option Str} {kpos pos p : Pos}
theorem _root_.L2.PK.imp {kws : List Keyword} {t t' : TA} (h : PK X kws t) (i : ∀ σ H Q, t' σ H Q → t σ H Q) : PK X kws t' := ⟨fun p pins s σ H Q I hw => h.run p pins s σ H Q I (i σ H Q hw)⟩
theorem dk_nil : DK X [] gNil := pk_nil.imp fun σ H Q ⟨β, ex, os, ρ, M, ds, M', hd, fr, hg, k⟩ => by
  cases hg
  exact k [] H β ex .refl hd .nil
theorem dk_cons (ha : DE X e ga) (hr : DK X kws gr) : DK X (⟨nm, e, kpos⟩ :: kws) (gCons ga gr) := (pk_cons ha hr).imp fun σ H Q ⟨β, ex, os, ρ, M, ds, M', hd, fr, hg, k⟩ => by
  obtain ⟨d, M1, e1, hg⟩ := bnd_eq hg
  obtain ⟨l, M2, e2, hg⟩ := bnd_eq hg
  cases hg
  refine tG.go hd fr e1 fun v1 H1 β1 ex1 af1 hd1 fr1 r1 => tA'.go hd1 fr1 e2 fun vs H2 β2 ex2 af2 hd2 fr2 r2 => ?_
  exact k _ H2 β2 ex2 (af1.trans af2) hd2 (.cons (r1.keep (af2.keep hd1)) r2)
/-- the parameters' order: perm gives for each parameter its place among the keywords -/
def pick {α : Type} (is : List Nat) (l : List α) : List α := is.filterMap fun i => l[i]?
theorem Reps.pick {K : PySem.W.Frag} {mg : Str → Option Value} {β ex : List Addr} {H : Hp} {vs : List V} {l : List D} (r : Reps K mg β ex H vs l) : ∀ is : List Nat, Reps K mg β ex H (pick is vs) (pick is l)
  | [] => .nil
  | i :: is => by
    have ih := Reps.pick r is
    unfold Py.pick at ih ⊢
    rw [List.filterMap_cons, List.filterMap_cons]
    cases h : l[i]? with
    | none =>
      have h2 : vs[i]? = none := by rw [List.getElem?_eq_none_iff] at h ⊢; rw [r.length]; exact h
      rw [h2]
      exact ih
    | some d =>
      obtain ⟨v, h2, h3⟩ := r.getD h
      rw [h2]
      exact .cons h3 ih
theorem vals_pick {vs : List V} {us : List Value} (r : Vals vs us) : ∀ is : List Nat, Vals (pick is vs) (pick is us)
  | [] => .nil
  | i :: is => by
    have ih := vals_pick r is
    unfold Py.pick at ih ⊢
    rw [List.filterMap_cons, List.filterMap_cons]
    cases h : vs[i]? with
    | none =>
      have h2 : us[i]? = none := by rw [List.getElem?_eq_none_iff] at h ⊢; rw [← Paired.length r]; exact h
      rw [h2]
      exact ih
    | some v =>
      obtain ⟨u, h2, h3⟩ := Vals.get r h
      rw [h2]
      exact .cons h3 ih
def gCallK (φ : List D → Cm D) (is : List Nat) (ga : Env' → Cm (List D)) : Env' → Cm D := fun ρ M => bnd (ga ρ M) fun ds M1 => φ (pick is ds) M1
theorem de_callK0 {k n : Nat} {f : Addr} {fd : FuncData} {ps ks : List Str} {is : List Nat} {φ : List D → Cm D} {x : Str} {ga : Env' → Cm (List D)} (F : FnOk X.prog X.w X.K X.mg X.base CX0 k f fd ps (spF X.K X.mg n φ)) (hr : Room k X.A) (hg : Gl X x) (hm : X.mg x = some (.ref f)) (hk : PySem.W.keepIn X.K (.ref f) = true)
    (hb : KBinds X.K fd ps ks (fun _ ws => pick is ws) (fun _ zs => pick is zs)) (hkw : DK X kws ga) (hln : ∀ ρ M ds M', ga ρ M = some (ds, M') → (pick is ds).length = n) (hall : (backToKw pos (keywordEach kws X.env)).all (·.1.isSome) = true := by rfl) (hks : (backToKw pos (keywordEach kws X.env)).filterMap (·.1) = ks := by rfl)
    (hdb : (x == ("__debug__" : Str)) = false := by decide) (hpl : ((backTo pos (starEach [] X.env)).any (·.1) || (backToKw pos (keywordEach kws X.env)).any (·.1.isNone)) = false := by rfl) :
    DE X (.Call (.Name x p) [] kws pos) (gCallK φ is ga) := ⟨fun pins s σ H Q I ⟨β, ex, os, ρ, M, d, M', hd, fr, hgg, k⟩ => by
  obtain ⟨ds, M1, e1, hgg⟩ := bnd_eq hgg
  refine wpAny_Call_Name_kw (ld_glob I hg hm ?_ hdb)
  refine PySem.W.callWith_KW0 (h₀ := X.base) I.ok.mod.kin hk hall ?_ hpl
  refine thn (hkw.run pos pins s σ H (fun zs H1 => spF X.K X.mg n φ (pick is zs) H1 Q (fun _ _ _ => False)) I (tA'.go hd fr e1 fun vs H1 β1 ex1 af1 hd1 fr1 r1 => ?_)) fun ws s2 ⟨zs, H2, I2, rz, q2⟩ => ⟨I2.kIn, ?_⟩
  · exact ⟨β1, ex1, M1, pick is ds, d, M', hln _ _ _ _ e1, hd1, r1.pick is, hgg, fun v H' β' ex' af hd' r => k v H' β' ex' (af1.trans af) hd' r⟩
  · rw [hks]
    exact run_fnk F hr hb pass0 I2 .nil rz q2⟩
end
end Py
/-! dicts -/
namespace Py
open PySem PySem.Spec PyProof.Rows L2

/-! ### keys -/
def keyD : D → Option Key
  | .int i => some (.inl i)
  | .str x => some (.inr x)
  | _ => none
def keysD : List D → Option (List Key)
  | [] => some []
  | d :: l => match keyD d, keysD l with
    | some k, some ks => some (k :: ks)
    | _, _ => none
theorem keyD_kD (k : Key) : keyD (kD k) = some k := by cases k <;> rfl
theorem keyD_inv {d : D} {k : Key} (h : keyD d = some k) : d = kD k := by
  cases d <;> cases h <;> rfl
theorem kD_inj {j k : Key} (h : kD j = kD k) : j = k := Option.some.inj (by rw [← keyD_kD j, h, keyD_kD])
theorem keysD_inv : ∀ {l : List D} {ks : List Key}, keysD l = some ks → l = ks.map kD
  | [], _, h => by cases h; rfl
  | d :: l, ks, h => by
    unfold keysD at h
    split at h
    · rename_i k ks' h1 h2
      cases h
      rw [keyD_inv h1, keysD_inv h2]; rfl
    · cases h
section
variable {K : PySem.W.Frag} {mg : Str → Option Value} {β ex : List Addr} {H : Hp}
theorem Rep.key {v : V} {d : D} {k : Key} (r : Rep K mg β ex H v d) (h : keyD d = some k) : v = kV k := by
  have e := keyD_inv h
  subst e
  cases k with
  | inl i => exact r.int_inv
  | inr x => exact r.str_inv
theorem kRep (k : Key) : Rep K mg β ex H (kV k) (kD k) := by
  cases k with
  | inl i => exact .int i
  | inr x => exact .str x
/-- what stands at a key -/
def lookK : List (D × D) → Key → Option D
  | [], _ => none
  | (d, v) :: l, k => if keyD d = some k then some v else lookK l k
def putKD : List (D × D) → Key → D → List (D × D)
  | [], k, v => [(kD k, v)]
  | (d, u) :: l, k, v => if keyD d = some k then (d, v) :: l else (d, u) :: putKD l k v
theorem lookK_rep {k : Key} : ∀ {kvs : List (Key × V)} {l : List (D × D)}, kvs.map (fun p => kD p.1) = l.map (·.1) → Reps K mg β ex H (kvs.map (·.2)) (l.map (·.2)) →
    (∀ d, lookK l k = some d → ∃ v, valV kvs k = some v ∧ Rep K mg β ex H v d) ∧ (lookK l k = none → valV kvs k = none)
  | [], [], _, _ => ⟨fun d h => (by cases h), fun _ => rfl⟩
  | [], _ :: _, h, _ => by cases h
  | _ :: _, [], h, _ => by cases h
  | (j, v) :: kvs, (d, u) :: l, h, r => by
    have h1 := (List.cons.inj h).1
    have h2 := (List.cons.inj h).2
    cases r with
    | cons r1 r2 =>
    have ih := lookK_rep (k := k) h2 r2
    have hd : keyD d = some j := by rw [show d = kD j from h1.symm, keyD_kD]
    unfold lookK
    rw [hd]
    by_cases e : j = k
    · rw [if_pos (by rw [e]), valV_pos e]
      exact ⟨fun d h => ⟨v, rfl, (by cases h; exact r1)⟩, fun h => (by cases h)⟩
    · rw [if_neg (fun z => e (Option.some.inj z)), valV_neg e]
      exact ih
theorem putK_cons {j k : Key} {v u : V} {kvs : List (Key × V)} (nd : j ∉ kvs.map (·.1)) : putK ((j, u) :: kvs) k v = if j = k then (j, v) :: kvs else (j, u) :: putK kvs k v := by
  by_cases e : j = k
  · rw [if_pos e]
    subst e
    unfold putK
    rw [if_pos (by simp)]
    rw [List.map_cons]
    congr 1
    · simp
    · refine (List.map_congr_left (g := id) fun p hp => ?_).trans (List.map_id _)
      rw [if_neg fun z : p.1 = j => nd (by rw [← z]; exact List.mem_map_of_mem hp)]
      rfl
  · rw [if_neg e]
    unfold putK
    rw [List.any_cons, decide_eq_false e, Bool.false_or, List.map_cons, if_neg e]
    split <;> rfl
/-- the keys are unlike -/
def ndK (l : List (D × D)) : Prop := ((l.map (·.1)).filterMap keyD).Nodup
theorem keys_of {kvs : List (Key × V)} : ∀ {l : List (D × D)}, kvs.map (fun p => kD p.1) = l.map (·.1) → (l.map (·.1)).filterMap keyD = kvs.map (·.1) := fun {l} h => by
  rw [← h]
  clear h
  induction kvs with
  | nil => rfl
  | cons p kvs ih =>
    rw [List.map_cons, List.filterMap_cons, keyD_kD, ih]; rfl
theorem putKD_rep {k : Key} {v : V} {d : D} (r : Rep K mg β ex H v d) : ∀ {kvs : List (Key × V)} {l : List (D × D)}, (kvs.map (·.1)).Nodup → kvs.map (fun p => kD p.1) = l.map (·.1) → Reps K mg β ex H (kvs.map (·.2)) (l.map (·.2)) →
    (putK kvs k v).map (fun p => kD p.1) = (putKD l k d).map (·.1) ∧ Reps K mg β ex H ((putK kvs k v).map (·.2)) ((putKD l k d).map (·.2)) ∧ ((putK kvs k v).map (·.1)).Nodup
  | [], [], _, _, _ => ⟨rfl, .one r, by simp [putK]⟩
  | [], _ :: _, _, h, _ => by cases h
  | _ :: _, [], _, h, _ => by cases h
  | (j, u) :: kvs, (dk, w) :: l, nd, h, rs => by
    have h1 := (List.cons.inj h).1
    have h2 := (List.cons.inj h).2
    have nd1 := List.nodup_cons.mp nd
    cases rs with
    | cons r1 r2 =>
    obtain ⟨i1, i2, i3⟩ := putKD_rep r nd1.2 h2 r2
    have hd : keyD dk = some j := by rw [show dk = kD j from h1.symm, keyD_kD]
    rw [putK_cons nd1.1]
    unfold putKD
    rw [hd]
    by_cases e : j = k
    · rw [if_pos e, if_pos (by rw [e])]
      refine ⟨by rw [List.map_cons, List.map_cons, h2, show kD j = dk from h1], .cons r r2, nd⟩
    · rw [if_neg e, if_neg (fun z => e (Option.some.inj z))]
      refine ⟨by rw [List.map_cons, List.map_cons, i1, show kD j = dk from h1], .cons r1 i2, ?_⟩
      rw [List.map_cons, List.nodup_cons]
      refine ⟨fun z => ?_, i3⟩
      have : j ∈ kvs.map (·.1) ∨ j = k := by
        unfold putK at z
        split at z
        · left
          rw [List.map_map] at z
          obtain ⟨p, hp, hq⟩ := List.mem_map.mp z
          refine List.mem_map.mpr ⟨p, hp, ?_⟩
          have hq : (if p.1 = k then (p.1, v) else p).1 = j := hq
          rw [← hq]
          split <;> rfl
        · rw [List.map_append] at z
          rcases List.mem_append.mp z with z | z
          · exact .inl z
          · exact .inr (by simpa using z)
      exact this.elim nd1.1 e
end

/-! ### a display -/
section
variable {X : Cx} {pos : Pos}
def gPairs : List ((Env' → Cm D) × (Env' → Cm D)) → Env' → Cm (List (D × D))
  | [] => fun _ M => some ([], M)
  | (gk, gv) :: r => fun ρ M => bnd (gk ρ M) fun k M1 => bnd (gv ρ M1) fun v M2 => bnd (gPairs r ρ M2) fun l M3 => some ((k, v) :: l, M3)
def trD (X : Cx) (gs : List ((Env' → Cm D) × (Env' → Cm D))) : List (TE × TE) := gs.map fun p => (tG X.K X.mg (RD X.K X.mg) p.1, tG X.K X.mg (RD X.K X.mg) p.2)
abbrev DPs (X : Cx) (pos : Pos) (keys : List (Option Expr)) (values : List Expr) (gs : List ((Env' → Cm D) × (Env' → Cm D))) : Prop := PPs X pos keys values (trD X gs)
theorem dps_nil : DPs X pos [] [] [] := pps_nil
theorem dps_cons {k v : Expr} {ks : List (Option Expr)} {vs : List Expr} {gk gv : Env' → Cm D} {gs : List ((Env' → Cm D) × (Env' → Cm D))} (hk : DE X k gk) (hv : DE X v gv) (hr : DPs X pos ks vs gs) : DPs X pos (some k :: ks) (v :: vs) ((gk, gv) :: gs) := pps_cons hk hv hr
theorem pairs_ok (X : Cx) : ∀ (gs : List ((Env' → Cm D) × (Env' → Cm D))) {β ex : List Addr} {os : List (Option Addr)} {ρ : Env'} {M M' : Stor} {l : List (D × D)} {σ : L2.St} {H : Hp} {Q : List (V × V) → Hp → Prop}, Hold X.K X.mg β ex H M → Fram X.K X.mg β ex os σ H ρ → gPairs gs ρ M = some (l, M') →
    (∀ ps H' β' ex', After β ex H β' ex' H' → Hold X.K X.mg β' ex' H' M' → Reps X.K X.mg β' ex' H' (ps.map (·.1)) (l.map (·.1)) → Reps X.K X.mg β' ex' H' (ps.map (·.2)) (l.map (·.2)) → Q ps H') → tPairs (trD X gs) σ H Q
  | [], β, ex, os, ρ, M, M', l, σ, H, Q, hd, fr, hg, k => by
    cases hg
    exact k [] H β ex .refl hd .nil .nil
  | (gk, gv) :: gs, β, ex, os, ρ, M, M', l, σ, H, Q, hd, fr, hg, k => by
    obtain ⟨x, M1, e1, hg⟩ := bnd_eq hg
    obtain ⟨y, M2, e2, hg⟩ := bnd_eq hg
    obtain ⟨l', M3, e3, hg⟩ := bnd_eq hg
    cases hg
    refine tG.go hd fr e1 fun v1 H1 β1 ex1 af1 hd1 fr1 r1 => tG.go hd1 fr1 e2 fun v2 H2 β2 ex2 af2 hd2 fr2 r2 => ?_
    refine pairs_ok X gs hd2 fr2 e3 fun ps H3 β3 ex3 af3 hd3 q1 q2 => ?_
    have k2 := af2.keep hd1
    have k3 := af3.keep hd2
    exact k _ H3 β3 ex3 (af1.trans (af2.trans af3)) hd3 (.cons ((r1.keep k2).keep k3) q1) (.cons (r2.keep k3) q2)
/-- a dict of one's own at p -/
theorem own_newM {K : PySem.W.Frag} {mg : Str → Option Value} {β ex : List Addr} {H H0 : Hp} {M : Stor} {p : Addr} {kvs : List (Key × V)} {l : List (D × D)} (h0 : H0 p = none) (hx : p ∈ ex) (hn : p ∉ β) (hp : H p = some (.dK kvs)) (hk : kvs.map (fun q => kD q.1) = l.map (·.1)) (r : Reps K mg β ex H (kvs.map (·.2)) (l.map (·.2))) :
    RM K mg β ex H0 H (.ref p) l := ⟨p, rfl, h0, hx, hn, .inl ⟨kvs, hp, hk, r⟩⟩
/-- p, one's own, written again -/
theorem own_upd {K : PySem.W.Frag} {mg : Str → Option Value} {β ex β0 ex0 : List Addr} {H H0 : Hp} {M : Stor} {p : Addr} {o : HO} (af : After β0 ex0 H0 β ex H) (hd : Hold K mg β ex H M) (h0 : H0 p = none) (hx : p ∈ ex) (hn : p ∉ β) :
    After β0 ex0 H0 β ex (upd H p o) ∧ Hold K mg β ex (upd H p o) M ∧ Keep β ex H β ex (upd H p o) := by
  have kp : Keep β ex H β ex (upd H p o) := ⟨fun _ _ h => h, fun a q h n => ⟨by rw [upd_ne fun z => n (by rw [z]; exact hx)]; exact h, n⟩⟩
  refine ⟨⟨af.pre, af.up, af.nw, fun a q h h1 => ?_, fun a h => af.dom a ?_⟩, ⟨hd.len, hd.nd, hd.sub, fun a h => ?_, fun j a q h1 h2 => ?_⟩, kp⟩
  · rw [upd_ne (ne_of_none h h0)]
    exact af.same a q h h1
  · by_cases z : a = p
    · rw [z, upd_same] at h; cases h
    · rw [upd_ne z] at h; exact h
  · by_cases z : a = p
    · rw [z, upd_same]; simp
    · rw [upd_ne z]; exact hd.live a h
  · have na : a ≠ p := fun z => hn (z ▸ List.mem_of_getElem? h1)
    exact (hd.objs j a q h1 h2).keep kp fun o h => by rw [upd_ne na]; exact h
/-- an own thing is laid at p -/
theorem own_lay {K : PySem.W.Frag} {mg : Str → Option Value} {β ex : List Addr} {H : Hp} {M : Stor} {p : Addr} {o : HO} (hd : Hold K mg β ex H M) (hp : H p = none) :
    After β ex H β (p :: ex) (upd H p o) ∧ Hold K mg β (p :: ex) (upd H p o) M := by
  have gr : Grow H (upd H p o) := Grow.new hp
  have kp : Keep β ex H β (p :: ex) (upd H p o) := ⟨fun _ _ h => h, fun a o h n => ⟨gr a o h, fun z => by
    rcases List.mem_cons.mp z with z | z
    · rw [z, hp] at h; cases h
    · exact n z⟩⟩
  refine ⟨⟨⟨[], by simp, by simp⟩, fun a h => List.mem_cons_of_mem _ h, fun a h => ?_, fun a o h _ => gr a o h, fun a h => gr.dom h⟩, ⟨hd.len, hd.nd, fun a h => List.mem_cons_of_mem _ (hd.sub a h), fun a h => ?_, fun i a o h1 h2 => (hd.objs i a o h1 h2).keep kp (gr a)⟩⟩
  · rcases List.mem_cons.mp h with h | h
    · rw [h]; exact .inr hp
    · exact .inl h
  · rcases List.mem_cons.mp h with h | h
    · rw [h, upd_same]; simp
    · exact fun e => hd.live a h (gr.dom e)
theorem After.nb {K : PySem.W.Frag} {mg : Str → Option Value} {β ex β' ex' : List Addr} {H H' : Hp} {p : Addr} {o : HO} (a : After β ex H β' ex' H') (h1 : p ∉ β) (h2 : H p = some o) : p ∉ β' := fun z => by
  obtain ⟨n, e, hn⟩ := a.pre
  rw [e] at z
  rcases List.mem_append.mp z with z | z
  · exact h1 z
  · have := hn p z
    rw [h2] at this
    cases this
def gDisp (gs : List ((Env' → Cm D) × (Env' → Cm D))) : Env' → Cm (List (D × D)) := fun ρ M => bnd (gPairs gs ρ M) fun l M1 => match keysD (l.map (·.1)) with
  | some ks => if ks.Nodup ∧ l.length ≤ 15 then some (l, M1) else none
  | none => none
theorem mergeK_nodup : ∀ (more kvs : List (Key × V)), ((kvs ++ more).map (·.1)).Nodup → mergeK kvs more = kvs ++ more
  | [], kvs, _ => by rw [List.append_nil]; rfl
  | p :: r, kvs, h => by
    have e : putK kvs p.1 p.2 = kvs ++ [p] := by
      unfold putK
      rw [if_neg]
      intro z
      obtain ⟨q, h1, h2⟩ := List.any_eq_true.mp z
      have h2 : q.1 = p.1 := of_decide_eq_true h2
      rw [List.map_append, List.nodup_append] at h
      exact h.2.2 q.1 (List.mem_map_of_mem h1) p.1 (by simp) h2
    show mergeK (putK kvs p.1 p.2) r = _
    rw [e, mergeK_nodup r (kvs ++ [p]) (by rw [List.append_assoc]; exact h), List.append_assoc]
    rfl
theorem zip_form : ∀ {ps : List (V × V)} {ks : List Key}, ps.map (·.1) = ks.map kV → ps = (ks.zip (ps.map (·.2))).map fun kv => (kV kv.1, kv.2)
  | [], [], _ => rfl
  | [], _ :: _, h => by cases h
  | _ :: _, [], h => by cases h
  | (x, y) :: ps, j :: ks, h => by
    have h1 : x = kV j := (List.cons.inj h).1
    have ih := zip_form (List.cons.inj h).2
    rw [List.map_cons, List.zip_cons_cons, List.map_cons, ← ih, h1]
theorem dm_disp {keys : List (Option Expr)} {values : List Expr} {gs : List ((Env' → Cm D) × (Env' → Cm D))} (h : DPs X pos keys values gs) (hall : keys.all (·.isSome) = true := by rfl) (hl : keys.length = values.length := by rfl) (h0 : keys ≠ [] := by simp)
    (h15 : keys.length ≤ 15 := by decide) : DM X (.Dict keys values pos) (gDisp gs) := (pe_disp h hall hl h0 h15).imp fun σ H Q ⟨β, ex, os, ρ, M, l, M', hd, fr, hg, k⟩ => by
  obtain ⟨l', M1, e1, hg⟩ := bnd_eq hg
  split at hg
  case h_2 => cases hg
  rename_i ks hk
  split at hg
  case isFalse => cases hg
  rename_i hn
  cases hg
  intro p hp
  obtain ⟨a1, hd1⟩ := own_lay (o := .dK []) hd hp
  refine pairs_ok X gs hd1 (fr.after hd a1) e1 fun ps H2 β2 ex2 af2 hd2 q1 q2 => ?_
  have hpβ : p ∉ β := hd.nb hp
  have hp2 : H2 p = some (.dK []) := af2.same p _ upd_same hpβ
  have hb2 : p ∉ β2 := After.nb (K := X.K) (mg := X.mg) af2 hpβ upd_same
  have hx2 : p ∈ ex2 := af2.up _ (List.mem_cons_self ..)
  have ek := keysD_inv hk
  have ev : ps.map (·.1) = ks.map kV := by
    rw [ek] at q1
    generalize ps.map (·.1) = us at q1
    clear hk ek hn e1
    induction ks generalizing us with
    | nil => cases q1; rfl
    | cons j ks ih =>
      cases q1 with
      | cons r1 r2 =>
        rw [r1.key (keyD_kD j), ih _ r2]; rfl
  have hlk : ks.length = ps.length := by
    have := congrArg List.length ev
    rw [List.length_map, List.length_map] at this
    exact this.symm
  have hzip := zip_form ev
  have hl2 : (ks.zip (ps.map (·.2))).map (·.1) = ks := List.map_fst_zip (by rw [List.length_map, hlk]; exact Nat.le_refl _)
  have hl3 : (ks.zip (ps.map (·.2))).map (·.2) = ps.map (·.2) := List.map_snd_zip (by rw [List.length_map, hlk]; exact Nat.le_refl _)
  refine ⟨hp2, ks.zip (ps.map (·.2)), hzip, ?_, ?_⟩
  · rw [List.length_zip, List.length_map]
    have : ps.length = l.length := by
      have := q1.length
      rwa [List.length_map, List.length_map] at this
    omega
  · rw [mergeK_nodup _ [] (by rw [List.nil_append, hl2]; exact hn.1), List.nil_append]
    have af : After β ex H β2 ex2 H2 := a1.trans af2
    obtain ⟨z1, z2, z3⟩ := own_upd (o := .dK (ks.zip (ps.map (·.2)))) af hd2 hp hx2 hb2
    refine k _ _ _ _ z1 z2 (own_newM (M := M') hp hx2 hb2 upd_same ?_ ?_)
    · rw [show (fun q : Key × V => kD q.1) = kD ∘ (·.1) from rfl, ← List.map_map, hl2, ek]
    · rw [hl3]
      exact q2.keep z3
/-! ### what stands at a key -/
def dctAt (d : D) : Option (List (D × D)) := match d with
  | .dct l => some l
  | _ => none
def gDGet (ga gb : Env' → Cm D) : Env' → Cm D := fun ρ M => bnd (ga ρ M) fun d M1 => bnd (gb ρ M1) fun i M2 => match dctAt d, keyD i with
  | some l, some k => lft (if (l.map (·.1)).all (fun d => (keyD d).isSome) then lookK l k else none) M2
  | _, _ => none
variable {a b : Expr} {ga gb : Env' → Cm D}
theorem de_dget (hu : X.A.units + 1 < cLine) (ha : DE X a ga) (hb : DE X b gb) (hs : NoSl b) : DE X (.Subscript a b pos) (gDGet ga gb) := (pe_dget hu ha hb hs).imp fun σ H Q ⟨β, ex, os, ρ, M, d, M', hd, fr, hg, k⟩ => by
  obtain ⟨x, M1, e1, hg⟩ := bnd_eq hg
  obtain ⟨y, M2, e2, hg⟩ := bnd_eq hg
  split at hg
  case h_2 => cases hg
  rename_i l j h1 h2
  obtain ⟨e3, e4⟩ := lft_eq hg
  have e4 : M' = M2 := e4
  subst e4
  split at e3
  case isFalse => cases e3
  rename_i hall
  refine tG.go hd fr e1 fun v1 H1 β1 ex1 af1 hd1 fr1 r1 => tG.go hd1 fr1 e2 fun v2 H2 β2 ex2 af2 hd2 fr2 r2 => ?_
  have r1' := r1.keep (af2.keep hd1)
  have ev := r2.key h2
  subst ev
  cases x with
  | dct l' =>
    cases h1
    cases r1' with
    | dctK q n e rs =>
      obtain ⟨v, hv, rv⟩ := (lookK_rep (k := j) e rs).1 _ e3
      exact ⟨_, v, rfl, .inl ⟨_, j, q, rfl, hv.symm⟩, k _ H2 β2 ex2 (af1.trans af2) hd2 rv⟩
    | @dctT _ kvs _ q n e rs =>
      cases l with
      | nil => cases e3
      | cons p l =>
        cases kvs with
        | nil => cases e
        | cons u kvs =>
          have := (List.cons.inj e).1
          rw [List.map_cons, List.all_cons, Bool.and_eq_true] at hall
          rw [← show kT u.1 = p.1 from this] at hall
          exact absurd hall.1 (by simp [kT, keyD])
  | _ => cases h1
end
end Py
/-! dict comprehensions; a dict's keys -/
namespace Py
open PySem PySem.Spec PyProof.Rows L2

def DctR (K : PySem.W.Frag) (mg : Str → Option Value) (β ex : List Addr) (H : Hp) (kvs : List (Key × V)) (l : List (D × D)) : Prop := (kvs.map (·.1)).Nodup ∧ kvs.map (fun p => kD p.1) = l.map (·.1) ∧ Reps K mg β ex H (kvs.map (·.2)) (l.map (·.2))
theorem DctR.keep {K : PySem.W.Frag} {mg : Str → Option Value} {β ex β' ex' : List Addr} {H H' : Hp} {kvs : List (Key × V)} {l : List (D × D)} (h : DctR K mg β ex H kvs l) (k : Keep β ex H β' ex' H') : DctR K mg β' ex' H' kvs l := ⟨h.1, h.2.1, h.2.2.keep k⟩
theorem DctR.put {K : PySem.W.Frag} {mg : Str → Option Value} {β ex : List Addr} {H : Hp} {kvs : List (Key × V)} {l : List (D × D)} {k : Key} {v : V} {d : D} (h : DctR K mg β ex H kvs l) (r : Rep K mg β ex H v d) : DctR K mg β ex H (putK kvs k v) (putKD l k d) := by
  obtain ⟨h1, h2, h3⟩ := putKD_rep (k := k) r h.1 h.2.1 h.2.2
  exact ⟨h3, h1, h2⟩
/-- with keys that are ints and texts -/
def RMK (K : PySem.W.Frag) (mg : Str → Option Value) : Rel (List (D × D)) := fun β ex H H' v l => ∃ p, v = .ref p ∧ H p = none ∧ p ∈ ex ∧ p ∉ β ∧ ∃ kvs, H' p = some (.dK kvs) ∧ kvs.map (fun p => kD p.1) = l.map (·.1) ∧ Reps K mg β ex H' (kvs.map (·.2)) (l.map (·.2))
abbrev DMK (X : Cx) (e : Expr) (g : Env' → Cm (List (D × D))) : Prop := PE X e (tG X.K X.mg (RMK X.K X.mg) g)
theorem dm_mk {X : Cx} {e : Expr} {g : Env' → Cm (List (D × D))} (h : DMK X e g) : DM X e g := h.imp fun σ H Q ⟨β, ex, os, ρ, M, c, M', hd, fr, hg, k⟩ =>
  tG.go hd fr hg fun v1 H1 β1 ex1 af1 hd1 fr1 ⟨p, ep, hp, hx, hn, kvs, q⟩ => k _ _ _ _ af1 hd1 ⟨p, ep, hp, hx, hn, .inl ⟨kvs, q⟩⟩
def dcL (tg : D → Env' → Option Env') (c : Env' → Cm Bool) (ek ev : Env' → Cm D) (ρ : Env') : List D → List (D × D) → Cm (List (D × D))
  | [], acc => fun M => some (acc, M)
  | d :: l, acc => fun M => match tg d ρ with
    | some ρ1 => bnd (c ρ1 M) fun b M1 => if b then bnd (ek ρ1 M1) fun k M2 => bnd (ev ρ1 M2) fun v M3 => match keyD k with
        | some kk => dcL tg c ek ev ρ l (putKD acc kk v) M3
        | none => none
      else dcL tg c ek ev ρ l acc M1
    | none => none
def gDc (src : Env' → Cm (List D)) (tg : D → Env' → Option Env') (c : Env' → Cm Bool) (ek ev : Env' → Cm D) (vs : List Nat) : Env' → Cm (List (D × D)) := fun ρ M => bnd (src ρ M) fun l M1 => if l.length ≤ lim then dcL tg c ek ev (wipeE ρ vs) l [] M1 else none
theorem dc_ok {K : PySem.W.Frag} {mg : Str → Option Value} {own : Option Nat} {is vs : List Nat} {src : Env' → Cm (List D)} {t : D → Env' → Option Env'} {c : Env' → Cm Bool} {ek ev : Env' → Cm D} {σ : L2.St} {H : Hp} {Q : VK} (hv : ∀ i ∈ is, i ∈ vs) (h : tG K mg (RMK K mg) (gDc src t c ek ev vs) σ H Q) :
    tDc (tI' K mg own src) (tGt K mg is t) (tT' K mg c) (tG K mg (RD K mg) ek) (tG K mg (RD K mg) ev) vs σ H Q := by
  obtain ⟨β, ex, os, ρ, M, ys, M', hd, fr, hg, k⟩ := h
  obtain ⟨l, M1, e1, hg⟩ := bnd_eq hg
  split at hg
  case isFalse => cases hg
  rename_i hlim
  refine ⟨β, ex, os, ρ, M, l, M1, hd, fr, e1, fun J H1 β1 ex1 S af1 hd1 hS hW Dd hD => ?_⟩
  have W := hW (fun a => a ∉ β1) fun a ha => (hS a ha).1
  obtain ⟨b1, b2⟩ := own_lay (o := .dK []) hd1 hD
  refine ⟨fun i m H2 => ∃ β2 ex2 M2 acc zs, i ≤ l.length ∧ m = l.length - i ∧ After β1 ex1 H1 β2 ex2 H2 ∧ Dd ∈ ex2 ∧ Hold K mg β2 ex2 H2 M2 ∧ H2 Dd = some (.dK acc) ∧ acc.length ≤ i ∧ DctR K mg β2 ex2 H2 acc zs ∧ Dd ∉ β2 ∧
      dcL t c ek ev (wipeE ρ vs) (l.drop i) zs M2 = some (ys, M'),
    ⟨l.length, β1, Dd :: ex1, M1, [], [], Nat.zero_le _, rfl, b1, List.mem_cons_self .., b2, upd_same, Nat.le_refl _, ⟨List.nodup_nil, rfl, .nil⟩, hd1.nb hD, by rw [List.drop_zero]; exact hg⟩, fun i m H2 hw => ?_⟩
  obtain ⟨β2, ex2, M2, acc, zs, hi, hm, af2, dx2, hd2, hacc, hal, hrs, hnd, hf⟩ := hw
  -- all of it from the source's end on
  have w := W i β2 ex2 H2 (fun a o h q => af2.same a o h q) (af2.keep hd1)
  by_cases hlt : i < l.length
  · have hget : l[i]? = some l[i] := List.getElem?_eq_getElem hlt
    obtain ⟨go, y⟩ := w.2 _ hget
    rw [List.drop_eq_getElem_cons hlt] at hf
    refine .inr ⟨go, fun H3 => ∃ β2 ex2 M2 acc zs, After β1 ex1 H1 β2 ex2 H3 ∧ Dd ∈ ex2 ∧ Hold K mg β2 ex2 H3 M2 ∧ H3 Dd = some (.dK acc) ∧ acc.length ≤ i + 1 ∧ DctR K mg β2 ex2 H3 acc zs ∧ Dd ∉ β2 ∧
      dcL t c ek ev (wipeE ρ vs) (l.drop (i + 1)) zs M2 = some (ys, M'), fun H3 h3 => ?_, fun x H3 hy => ?_⟩
    · obtain ⟨β3, ex3, M3, acc3, zs3, q1, q2, q3, q4, q5, q6, q7, q8⟩ := h3
      exact ⟨l.length - (i + 1), by omega, β3, ex3, M3, acc3, zs3, hlt, rfl, q1, q2, q3, q4, q5, q6, q7, q8⟩
    · obtain ⟨gr, rx⟩ := y x H3 hy
      unfold dcL at hf
      split at hf
      · rename_i ρ3 h3
        obtain ⟨b, M4, e4, hf⟩ := bnd_eq hf
        have hd3 := hd2.grow gr
        have af3 := af2.trans (gr.after (β := β2) (ex := ex2))
        -- the frame, wiped, over the heap as it stands
        have aft : After β ex H β2 ex2 H3 := af1.trans af3
        obtain ⟨osw, frw⟩ := (fr.after hd aft).wipe vs
        refine ⟨β2, ex2, osw, wipeE ρ vs, M2, _, ρ3, hd3, frw, rx, h3, fun σ4 os4 fr4 z1 z2 z3 => ⟨wipe_same (fun j hj => z2 j fun z => hj (hv j z)) z3, β2, ex2, os4, ρ3, M2, b, M4, hd3, fr4, e4, fun H5 β5 ex5 af5 hd5 => ?_⟩⟩
        have fr5 := fr4.after hd3 af5
        have af6 := af3.trans af5
        have hac5 : H5 Dd = some (.dK acc) := af5.same Dd _ (gr Dd _ hacc) hnd
        have nb : ∀ {β0 ex0 β0' ex0' : List Addr} {G G' : Hp} {o : HO}, After β0 ex0 G β0' ex0' G' → Dd ∉ β0 → G Dd = some o → Dd ∉ β0' := fun a h1 h2 z => by
          obtain ⟨n, e, hn⟩ := a.pre
          rw [e] at z
          rcases List.mem_append.mp z with z | z
          · exact h1 z
          · have := hn Dd z
            rw [h2] at this
            cases this
        have hn5 : Dd ∉ β5 := nb af5 hnd (gr Dd _ hacc)
        have dx5 : Dd ∈ ex5 := af5.up _ dx2
        have hrs5 : DctR K mg β5 ex5 H5 acc zs := (hrs.keep (gr.keep (β := β2) (ex := ex2))).keep (af5.keep hd3)
        cases b with
        | false => exact iteF ⟨β5, ex5, M4, acc, zs, af6, dx5, hd5, hac5, by omega, hrs5, hn5, hf⟩
        | true =>
          obtain ⟨yk, M6, e6, hf⟩ := bnd_eq hf
          obtain ⟨yv, M8, e8, hf⟩ := bnd_eq hf
          split at hf
          case h_2 => cases hf
          rename_i kk hkk
          refine iteT (tG.go hd5 fr5 e6 fun v7 H7 β7 ex7 af7 hd7 fr7 r7 => tG.go hd7 fr7 e8 fun v9 H9 β9 ex9 af9 hd9 fr9 r9 => ?_)
          have hac7 : H7 Dd = some (.dK acc) := af7.same Dd _ hac5 hn5
          have hn7 : Dd ∉ β7 := nb af7 hn5 hac5
          have dx7 : Dd ∈ ex7 := af7.up _ dx5
          have hac9 : H9 Dd = some (.dK acc) := af9.same Dd _ hac7 hn7
          have hn9 : Dd ∉ β9 := nb af9 hn7 hac7
          have dx9 : Dd ∈ ex9 := af9.up _ dx7
          have rs9 : DctR K mg β9 ex9 H9 acc zs := (hrs5.keep (af7.keep hd5)).keep (af9.keep hd7)
          obtain ⟨z1, z2, z3⟩ := own_upd (o := .dK (putK acc kk v9)) ((af6.trans af7).trans af9) hd9 hD dx9 hn9
          have hpl := length_putK acc kk v9
          refine ⟨acc, kk, r7.key hkk, hac9, lim_ok (by omega), β9, ex9, M8, putK acc kk v9, putKD zs kk yv, z1, dx9, z2, upd_same, by omega, (rs9.put r9).keep z3, hn9, hf⟩
      · cases hf
  · have e : i = l.length := by omega
    subst e
    rw [List.drop_length] at hf
    cases hf
    refine .inl ⟨w.1 (Nat.le_refl _), k _ H2 β2 ex2 (af1.trans af2) hd2 ⟨Dd, rfl, af1.dom _ hD, dx2, hnd, acc, hacc, hrs.2.1, hrs.2.2⟩⟩
section
variable {X : Cx} {kx vx tg iter : Expr} {pos p : Pos}
theorem dm_dc {scope : Scope} {ifs : List Expr} {own : List (Str × Nat)} {ow : Option Nat} {is : List Nat} {src : Env' → Cm (List D)} {t : D → Env' → Option Env'} {c : Env' → Cm Bool} {gk gv : Env' → Cm D} (hc : X.calm = true) (hN : X.N.Nodup) (hi : DP X tg iter ow src) (ok : BlkOk X.N X.env.scope scope own)
    (hg : ∀ (s : Shared) (H : Hp) (C : Addr) (cl : List (Str × Addr)) (fp : List Addr), DG (X.blk s H scope (compEnvC scope cl C X.env) fp) tg is t) (ht : ∀ (s : Shared) (H : Hp) (C : Addr) (cl : List (Str × Addr)) (fp : List Addr), DTs (X.blk s H scope (compEnvC scope cl C X.env) fp) ifs c)
    (hk : ∀ (s : Shared) (H : Hp) (C : Addr) (cl : List (Str × Addr)) (fp : List Addr), DE (X.blk s H scope (compEnvC scope cl C X.env) fp) kx gk)
    (he : ∀ (s : Shared) (H : Hp) (C : Addr) (cl : List (Str × Addr)) (fp : List Addr), DE (X.blk s H scope (compEnvC scope cl C X.env) fp) vx gv) (hv : ∀ i ∈ is, i ∈ own.map (·.2) := by decide) (hs : ∀ x, foldedSetIterable iter X.env x = pure x := by intro _; rfl) :
    DMK X (.DictComp kx vx [⟨tg, iter, ifs, 0⟩] scope pos) (gDc src t c gk gv (own.map (·.2))) := (pe_dc hc hN hi ok hg ht hk he hs).imp fun σ H Q h => dc_ok hv h
/-- list(d) of a new dict -/
def gKeysL (g : Env' → Cm (List (D × D))) : Env' → Cm (List D) := fun ρ M => bnd (g ρ M) fun l M1 => if (l.map (·.1)).all (fun d => (keyD d).isSome) = true ∧ l.length ≤ lim then some (l.map (·.1), M1) else none
theorem dl_listM {a : Expr} {g : Env' → Cm (List (D × D))} (hc : X.calm = true) (hg : Gl X "list") (hm : X.mg "list" = none) (ha : DMK X a g) (hs : starEach [a] X.env = (false, eval a X.env) :: starEach [] X.env := by rfl) : DL X (.Call (.Name "list" p) [a] [] pos) (gKeysL g) :=
  (pe_callTy (call_list_dK hc) hg hm (by decide +kernel) (pa_cons ha pa_nil hs) (he := hs) (hpl := rfl)).imp fun σ H Q ⟨β, ex, os, ρ, M, d, M', hd, fr, hg, k⟩ => by
    obtain ⟨l, M1, e1, hg⟩ := bnd_eq hg
    split at hg
    case isFalse => cases hg
    rename_i hall
    cases hg
    refine tCB1 (tG.go hd fr e1 fun v1 H1 β1 ex1 af1 hd1 fr1 ⟨q, ep, hp, hx, hn, kvs, hv, hk, rs⟩ => ?_)
    subst ep
    · refine ⟨q, kvs, rfl, hv, fun t ht => ?_⟩
      have rk : Reps X.K X.mg β1 ex1 H1 (kvs.map fun kv => kV kv.1) (l.map (·.1)) := by
        rw [← hk]
        clear hv hk rs
        induction kvs with
        | nil => exact .nil
        | cons u kvs ih => exact .cons (kRep u.1) ih
      obtain ⟨q1, q2, q3⟩ := own_new (H0 := H) af1.dom hd1 ht (by rw [rk.length, List.length_map]; exact le_lim hall.2) rk
      exact k _ _ _ _ (af1.trans q1) q2 q3
end
end Py
/-! list(zip(s, t)) of two tuples of one length -/
namespace Py
open PySem PySem.Spec PyProof.Rows L2 PySem.Calls

section
variable {prog : Program} {w : World} {A : Around} {E : Value → Shared → Prop} {s : Shared}

theorem zipT_item_held {z TI TO T i1 i2 l1 l2 : Addr} {f : Bool} {oT : Obj} {k1 k2 : Nat} {xs ys : Array Value} {x y : Value} {Q : Value → Shared → Prop} (D : ZipApart z TI TO i1 i2 l1 l2)
    (hz : IsZipHeld s.heap z TI TO T f) (hT : s.heap.get? T = some oT) (hTI : IsPair s.heap TI (.ref i1) (.ref i2))
    (h1 : s.heap.IsTupleIter i1 l1 k1) (h2 : s.heap.IsTupleIter i2 l2 k2) (hl1 : s.heap.IsTuple l1 xs) (hl2 : s.heap.IsTuple l2 ys) (hx : xs[k1]? = some x) (hy : ys[k2]? = some y)
    (hQ : ∀ h', IsZipHeld h' z TI TO T true → h'.IsTupleIter i1 l1 (k1 + 1) → h'.IsTupleIter i2 l2 (k2 + 1) → IsPair h' s.heap.objs.size x y → h'.objs.size = s.heap.objs.size + 1 →
      (∀ c o, c ≠ z → c ≠ i1 → c ≠ i2 → s.heap.get? c = some o → h'.get? c = some o) → Q (.ref s.heap.objs.size) { s with heap := h' }) :
    wpAny (model prog w) A (Builtin.«zip.__next__» ⟨[.ref z], []⟩) (fun fin s' => ∃ v, fin = .done (.ret v) ∧ Q v s') E s := by
  show wpAny _ _ (field (.ref z) 2 >>= _) _ _ _
  refine wpAny_bind (wpAny_field hz rfl (x := .bool false) rfl ?_)
  show wpAny _ _ (field (.ref z) 3 >>= _) _ _ _
  refine wpAny_bind (wpAny_field hz rfl (x := .ref TI) rfl ?_)
  refine wpAny_bind (wpAny_seqItems hTI rfl ?_)
  show wpAny _ _ (Builtin.SmallTypes.ownedTupleIsFree (.ref z) >>= _) _ _ _
  refine wpAny_bind (PySem.wpAny_tupleHeld_zip hz hT fun h₁ hz₁ hs₁ => ?_)
  simp only [Bool.false_eq_true, if_false]
  refine wpAny_bind ?_
  rw [← Array.forIn_toList]
  simp only [List.forIn_cons, List.forIn_nil]
  refine wpAny_bind (wpAny_bind (wpAny_holding ?_))
  show wpAny _ _ (Builtin.SmallTypes.nextOf (.ref i1) >>= _) _ _ _
  refine wpAny_bind (RZ.nextOf_tuple_item (s := { s with heap := h₁ }) (h1.extBut hs₁.extBut D.i1z) (hl1.extBut hs₁.extBut D.l1z) hx fun h₂ h1₂ hs₂ => wpAny_pure ?_)
  refine wpAny_pure ?_
  refine wpAny_bind (wpAny_bind (wpAny_holding ?_))
  show wpAny _ _ (Builtin.SmallTypes.nextOf (.ref i2) >>= _) _ _ _
  refine wpAny_bind (RZ.nextOf_tuple_item (s := { s with heap := h₂ }) ((h2.extBut hs₁.extBut D.i2z).extBut hs₂.extBut D.i12.symm) ((hl2.extBut hs₁.extBut D.l2z).extBut hs₂.extBut D.l2i1) hy fun h₃ h2₃ hs₃ => wpAny_pure ?_)
  refine wpAny_pure (wpAny_pure ?_)
  show wpAny _ _ (newTuple [x, y] >>= _) _ _ _
  refine wpAny_bind (wpAny_newTuple ?_)
  have hsz : h₃.objs.size = s.heap.objs.size := by rw [hs₃.1, hs₂.1, hs₁.1]
  have hz₃ : IsZipHeld h₃ z TI TO T true := hs₃.extBut _ _ D.i2z.symm (hs₂.extBut _ _ D.i1z.symm hz₁)
  have hk : ∀ c o, c ≠ z → c ≠ i1 → c ≠ i2 → s.heap.get? c = some o → h₃.get? c = some o := fun c o c1 c2 c3 e => hs₃.extBut _ _ c3 (hs₂.extBut _ _ c2 (hs₁.extBut _ _ c1 e))
  have h1₃ : h₃.IsTupleIter i1 l1 (k1 + 1) := h1₂.extBut hs₃.extBut D.i12
  refine wpAny_pure ⟨_, rfl, ?_⟩
  show Q (.ref h₃.objs.size) _
  have hp : IsPair (h₃.push { cls := .type "tuple", data := .seq #[x, y] }) h₃.objs.size x y := Heap.get?_push_size _ rfl
  have hz4 : (h₃.push { cls := .type "tuple", data := .seq #[x, y] }).objs.size = h₃.objs.size + 1 := Heap.size_push ..
  rw [hsz] at hp hz4 ⊢
  exact hQ _ (Heap.get?_push_of_some _ hz₃) (h1₃.at fun o e => Heap.get?_push_of_some _ e) (h2₃.at fun o e => Heap.get?_push_of_some _ e) hp hz4 fun c o c1 c2 c3 e => Heap.get?_push_of_some _ (hk c o c1 c2 c3 e)
theorem zipT_end_held {z TI TO T i1 i2 l1 l2 : Addr} {f : Bool} {oT : Obj} {k1 k2 : Nat} {xs ys : Array Value} {Q : PySem.Fin → Shared → Prop} (hh : A.handled = none) (D : ZipApart z TI TO i1 i2 l1 l2)
    (hz : IsZipHeld s.heap z TI TO T f) (hT : s.heap.get? T = some oT) (hTI : IsPair s.heap TI (.ref i1) (.ref i2))
    (h1 : s.heap.IsTupleIter i1 l1 k1) (hl1 : s.heap.IsTuple l1 xs) (hend : xs[k1]? = none)
    (hE : ∀ h' e, (∀ c o, c ≠ z → c ≠ i1 → c ≠ i2 → s.heap.get? c = some o → h'.get? c = some o) → (∃ o, h'.get? e = some o ∧ o.cls = .type "StopIteration") → E (.ref e) { s with heap := h' }) :
    wpAny (model prog w) A (Builtin.«zip.__next__» ⟨[.ref z], []⟩) Q E s := by
  show wpAny _ _ (field (.ref z) 2 >>= _) _ _ _
  refine wpAny_bind (wpAny_field hz rfl (x := .bool false) rfl ?_)
  show wpAny _ _ (field (.ref z) 3 >>= _) _ _ _
  refine wpAny_bind (wpAny_field hz rfl (x := .ref TI) rfl ?_)
  refine wpAny_bind (wpAny_seqItems hTI rfl ?_)
  show wpAny _ _ (Builtin.SmallTypes.ownedTupleIsFree (.ref z) >>= _) _ _ _
  refine wpAny_bind (PySem.wpAny_tupleHeld_zip hz hT fun h₁ hz₁ hs₁ => ?_)
  simp only [Bool.false_eq_true, if_false]
  refine wpAny_bind ?_
  rw [← Array.forIn_toList]
  simp only [List.forIn_cons, List.forIn_nil]
  refine wpAny_bind (wpAny_bind (wpAny_holding ?_))
  show wpAny _ _ (Builtin.SmallTypes.nextOf (.ref i1) >>= _) _ _ _
  refine wpAny_bind (RZ.nextOf_tuple_end (s := { s with heap := h₁ }) hh (h1.extBut hs₁.extBut D.i1z) (hl1.extBut hs₁.extBut D.l1z) hend fun h₂ e hs₂ he => ?_)
  exact hE h₂ e (fun c o c1 c2 _ x => hs₂ _ _ c2 (hs₁.extBut _ _ c1 x)) he
theorem pyNext_zipT_item_held {z TI TO T i1 i2 l1 l2 : Addr} {f : Bool} {oT : Obj} {k1 k2 : Nat} {xs ys : Array Value} {x y : Value} {Q : Option Value → Shared → Prop} (D : ZipApart z TI TO i1 i2 l1 l2)
    (hz : IsZipHeld s.heap z TI TO T f) (hT : s.heap.get? T = some oT) (hTI : IsPair s.heap TI (.ref i1) (.ref i2))
    (h1 : s.heap.IsTupleIter i1 l1 k1) (h2 : s.heap.IsTupleIter i2 l2 k2) (hl1 : s.heap.IsTuple l1 xs) (hl2 : s.heap.IsTuple l2 ys) (hx : xs[k1]? = some x) (hy : ys[k2]? = some y)
    (hQ : ∀ h', IsZipHeld h' z TI TO T true → h'.IsTupleIter i1 l1 (k1 + 1) → h'.IsTupleIter i2 l2 (k2 + 1) → IsPair h' s.heap.objs.size x y → h'.objs.size = s.heap.objs.size + 1 →
      (∀ c o, c ≠ z → c ≠ i1 → c ≠ i2 → s.heap.get? c = some o → h'.get? c = some o) → Q (some (.ref s.heap.objs.size)) { s with heap := h' }) :
    wpAny (model prog w) A (pyNext (.ref z)) Q E s := by
  have hTy : s.TypeIs (.ref z) "zip" := ⟨_, hz, rfl⟩
  unfold pyNext
  exact wpAny_bind (wpAny_attempt (wpAny_callSpecial?_slot (name := Str.ofString "__next__") hTy F.slot_zip_next
    (wpAny_call_entry F.slot_zip_next hTy F.entry_zip_next
      (zipT_item_held D hz hT hTI h1 h2 hl1 hl2 hx hy fun h' a1 a3 a4 a5 a6 a7 => wpAny_pure (hQ h' a1 a3 a4 a5 a6 a7)) (F.args_zip_next_1 _))))
theorem pyNext_zipT_end_held {z TI TO T i1 i2 l1 l2 : Addr} {f : Bool} {oT : Obj} {k1 k2 : Nat} {xs ys : Array Value} {Q : Option Value → Shared → Prop} (hh : A.handled = none) (D : ZipApart z TI TO i1 i2 l1 l2)
    (hz : IsZipHeld s.heap z TI TO T f) (hT : s.heap.get? T = some oT) (hTI : IsPair s.heap TI (.ref i1) (.ref i2))
    (h1 : s.heap.IsTupleIter i1 l1 k1) (hl1 : s.heap.IsTuple l1 xs) (hend : xs[k1]? = none)
    (hQ : ∀ h', (∀ c o, c ≠ z → c ≠ i1 → c ≠ i2 → s.heap.get? c = some o → h'.get? c = some o) → Q none { s with heap := h' }) : wpAny (model prog w) A (pyNext (.ref z)) Q E s := by
  have hTy : s.TypeIs (.ref z) "zip" := ⟨_, hz, rfl⟩
  unfold pyNext
  refine wpAny_bind (wpAny_attempt (wpAny_callSpecial?_slot (name := Str.ofString "__next__") hTy F.slot_zip_next
    (wpAny_call_entry F.slot_zip_next hTy F.entry_zip_next (zipT_end_held (k2 := k2) (ys := ys) (l2 := l2) hh D hz hT hTI h1 hl1 hend fun h' e hk he => ?_) (F.args_zip_next_1 _))))
  obtain ⟨o, ho, hc⟩ := he
  refine wpAny_bind (wpAny_isInstance (T := "StopIteration") (b := true) ⟨o, ho, hc⟩ isSubtype_stop ?_)
  exact wpAny_pure (hQ _ hk)
/-- the zip and its parts ahead of item i -/
def ZSt (h : Heap) (z TI TO i1 i2 l1 l2 S : Addr) (i : Nat) : Prop := IsPair h TI (.ref i1) (.ref i2) ∧ h.IsTupleIter i1 l1 i ∧ h.IsTupleIter i2 l2 i ∧
  ((IsZip h z TI TO .none ∧ ∃ a b, IsPair h TO a b) ∨ ∃ T f oT, IsZipHeld h z TI TO T f ∧ h.get? T = some oT ∧ T ≠ S ∧ T ≠ z ∧ T ≠ i1 ∧ T ≠ i2)
theorem zst_item {z TI TO i1 i2 l1 l2 S : Addr} {i : Nat} {xs ys : Array Value} {x y : Value} {Q : Option Value → Shared → Prop} (D : ZipApart z TI TO i1 i2 l1 l2) (st : ZSt s.heap z TI TO i1 i2 l1 l2 S i) (hS : S < s.heap.objs.size)
    (hl1 : s.heap.IsTuple l1 xs) (hl2 : s.heap.IsTuple l2 ys) (hx : xs[i]? = some x) (hy : ys[i]? = some y)
    (hQ : ∀ h', ZSt h' z TI TO i1 i2 l1 l2 S (i + 1) → IsPair h' s.heap.objs.size x y → h'.objs.size = s.heap.objs.size + 1 → (∀ c o, c ∉ [z, TO, i1, i2] → s.heap.get? c = some o → h'.get? c = some o) → Q (some (.ref s.heap.objs.size)) { s with heap := h' }) :
    wpAny (model prog w) A (pyNext (.ref z)) Q E s := by
  obtain ⟨hTI, h1, h2, q⟩ := st
  have zl : z < s.heap.objs.size := by
    rcases q with ⟨hz, _⟩ | ⟨T, f, oT, hz, _⟩
    · exact Heap.lt_size hz
    · exact Heap.lt_size hz
  have l1' : i1 < s.heap.objs.size := by obtain ⟨_, e, _⟩ := h1; exact Heap.lt_size e
  have l2' : i2 < s.heap.objs.size := by obtain ⟨_, e, _⟩ := h2; exact Heap.lt_size e
  rcases q with ⟨hz, a, b, hTO⟩ | ⟨T, f, oT, hz, hT, n1, n2, n3, n4⟩
  · refine RZ.pyNext_zipT_item D hz hTI hTO h1 h2 hl1 hl2 hx hy fun h' a1 a2 a3 a4 a5 a6 a7 => hQ h' ⟨a7 _ _ D.TIz D.TITO D.TIi1 D.TIi2 hTI, a3, a4, .inr ⟨s.heap.objs.size, false, _, a1, a5, Nat.ne_of_gt hS, Nat.ne_of_gt zl, Nat.ne_of_gt l1', Nat.ne_of_gt l2'⟩⟩ a5 a6 fun c o hc e => ?_
    simp only [List.mem_cons, List.not_mem_nil, or_false, not_or] at hc
    exact a7 c o hc.1 hc.2.1 hc.2.2.1 hc.2.2.2 e
  · refine pyNext_zipT_item_held D hz hT hTI h1 h2 hl1 hl2 hx hy fun h' a1 a3 a4 a5 a6 a7 => hQ h' ⟨a7 _ _ D.TIz D.TIi1 D.TIi2 hTI, a3, a4, .inr ⟨T, true, oT, a1, a7 T oT n2 n3 n4 hT, n1, n2, n3, n4⟩⟩ a5 a6 fun c o hc e => ?_
    simp only [List.mem_cons, List.not_mem_nil, or_false, not_or] at hc
    exact a7 c o hc.1 hc.2.2.1 hc.2.2.2 e
theorem zst_done {z TI TO i1 i2 l1 l2 S : Addr} {i : Nat} {xs ys : Array Value} {Q : Option Value → Shared → Prop} (hh : A.handled = none) (D : ZipApart z TI TO i1 i2 l1 l2) (st : ZSt s.heap z TI TO i1 i2 l1 l2 S i)
    (hl1 : s.heap.IsTuple l1 xs) (hl2 : s.heap.IsTuple l2 ys) (hx : xs[i]? = none)
    (hQ : ∀ h', (∀ c o, c ∉ [z, TO, i1, i2] → s.heap.get? c = some o → h'.get? c = some o) → Q none { s with heap := h' }) : wpAny (model prog w) A (pyNext (.ref z)) Q E s := by
  obtain ⟨hTI, h1, h2, q⟩ := st
  rcases q with ⟨hz, a, b, hTO⟩ | ⟨T, f, oT, hz, hT, n1, n2, n3, n4⟩
  · refine RZ.pyNext_zipT_end hh D hz hTI hTO h1 h2 hl1 hl2 (.inl hx) fun h' a7 => hQ h' fun c o hc e => ?_
    simp only [List.mem_cons, List.not_mem_nil, or_false, not_or] at hc
    exact a7 c o hc.1 hc.2.1 hc.2.2.1 hc.2.2.2 e
  · refine pyNext_zipT_end_held (k2 := i) (xs := xs) (ys := ys) hh D hz hT hTI h1 hl1 hx fun h' a7 => hQ h' fun c o hc e => ?_
    simp only [List.mem_cons, List.not_mem_nil, or_false, not_or] at hc
    exact a7 c o hc.1 hc.2.2.1 hc.2.2.2 e
theorem ZSt.keep {h h' : Heap} {z TI TO i1 i2 l1 l2 S : Addr} {i : Nat} (st : ZSt h z TI TO i1 i2 l1 l2 S i) (hS : S ∉ [z, TI, TO, i1, i2]) (k : ∀ c o, c ≠ S → h.get? c = some o → h'.get? c = some o) : ZSt h' z TI TO i1 i2 l1 l2 S i := by
  simp only [List.mem_cons, List.not_mem_nil, or_false, not_or] at hS
  obtain ⟨hTI, h1, h2, q⟩ := st
  refine ⟨k _ _ (Ne.symm hS.2.1) hTI, h1.at fun o e => k _ o (Ne.symm hS.2.2.2.1) e, h2.at fun o e => k _ o (Ne.symm hS.2.2.2.2) e, ?_⟩
  rcases q with ⟨hz, a, b, hTO⟩ | ⟨T, f, oT, hz, hT, n1, n2, n3, n4⟩
  · exact .inl ⟨k _ _ (Ne.symm hS.1) hz, a, b, k _ _ (Ne.symm hS.2.2.1) hTO⟩
  · exact .inr ⟨T, f, oT, k _ _ (Ne.symm hS.1) hz, k _ _ n1 hT, n1, n2, n3, n4⟩
theorem zip_len : typeLookup (.type "zip") "__len__" = pure none := by rw [typeLookup_type, builtinLookup_eq_fast]; kernel_rfl
theorem zip_hint : typeLookup (.type "zip") "__length_hint__" = pure none := by rw [typeLookup_type, builtinLookup_eq_fast]; kernel_rfl
theorem lz_hint {r : Addr} (hT : s.TypeIs (.ref r) "zip") {Q : Bool → Shared → Prop} (h : Q true s) : wpAny (model prog w) A (Builtin.List.listLengthHint (.ref r)) Q E s := by
  unfold Builtin.List.listLengthHint
  refine wpAny_bind (wpAny_specialOf hT zip_len ?_)
  refine wpAny_bind (wpAny_specialOf hT zip_hint ?_)
  exact wpAny_pure h
end
end Py
/-! list(zip(s, t)), the loop -/
namespace Py
open PySem PySem.Spec PyProof.Rows L2 PySem.Calls

theorem sqT_mono {K : PySem.W.Frag} {H H' : Hp} {a : Addr} {xs : List V} (g : Grow H H') (h : SqT K H a xs) : SqT K H' a xs := by
  rcases h with (h | ⟨o, h⟩) | h
  · exact .inl (.inl (g _ _ h))
  · exact .inl (.inr ⟨o, g _ _ h⟩)
  · exact .inr h
section
variable {X : Cx} {pins : List (Addr × Obj)} {σ : L2.St}
/-- the pairs that have been laid -/
def Prs (H0 H : Hp) (xs ys : List V) (Ts : List Addr) : Prop := ∀ (j : Nat) (T : Addr), Ts[j]? = some T → ∃ x y, xs[j]? = some x ∧ ys[j]? = some y ∧ H0 T = none ∧ H T = some (.tup [x, y])
theorem lz_loop {z TI TO i1 i2 a b S : Addr} {A : Around} {R : Result → Shared → Prop} {res : Value} {xs ys : List V} {H0 : Hp} {B : Nat} (hB : ∀ c ∈ [z, TO, i1, i2], c < B) (hA : A.handled = none) (D : ZipApart z TI TO i1 i2 a b) (hlen : xs.length = ys.length) (hz : xs.length ≤ sizeLine) (hSn : S ∉ [z, TI, TO, i1, i2]) (hS0 : H0 S = none)
    (hqx : SqT X.K H0 a xs) (hqy : SqT X.K H0 b ys)
    (hR : ∀ s' H' Ts, L2.Inv X pins σ H' s' → (∀ c o, H0 c = some o → H' c = some o) → (∀ c, H' c = none → H0 c = none) → H' S = some (.lst (Ts.map V.ref)) → Ts.length = xs.length → Prs H0 H' xs ys Ts → R (.ok (.ret res)) s') :
    ∀ (k i : Nat) (s : Shared) (H : Hp) (Ts : List Addr), xs.length - i = k → i ≤ xs.length → L2.Inv X pins σ H s → ZSt s.heap z TI TO i1 i2 a b S i → (∀ c ∈ [z, TO, i1, i2], FpOk X pins H c) → (∀ c o, H0 c = some o → H c = some o) → (∀ c, H c = none → H0 c = none) → H S = some (.lst (Ts.map V.ref)) →
      Ts.length = i → Prs H0 H xs ys Ts → B ≤ s.heap.objs.size → codeAny (model X.prog X.w) A (.builtin "list.extend.loop" ⟨[.ref S, .ref z, res], []⟩) R s := by
  intro k
  induction k with
  | zero =>
    intro i s H Ts hk hi I st hf up dn hS hT hP hBs
    have hin : i = xs.length := by omega
    obtain ⟨its, rv, p, _⟩ := I.tuple (sqT_mono up hqx)
    obtain ⟨its2, rv2, p2, _⟩ := I.tuple (sqT_mono up hqy)
    refine codeAny_builtin PySem.F.entry_extend_loop ?_
    rw [Around.under_plainId PySem.F.plain_extend_loop _]
    show wpAny _ A.in1 (pyNext (.ref z) >>= _) _ _ _
    refine wpAny_bind (zst_done (A := A.in1) hA D st p p2 (by have := rv.length; simp; omega) fun h' hk' => ?_)
    refine wpAny_pure (hR _ H Ts (I.turnedL (t' := s.toks) (ch := [z, TO, i1, i2]) hk' hf) up dn hS (by omega) hP)
  | succ k ih =>
    intro i s H Ts hk hi I st hf up dn hS hT hP hBs
    have hlt : i < xs.length := by omega
    obtain ⟨its, rv, p, _⟩ := I.tuple (sqT_mono up hqx)
    obtain ⟨its2, rv2, p2, _⟩ := I.tuple (sqT_mono up hqy)
    have ex : xs[i]? = some xs[i] := List.getElem?_eq_getElem hlt
    have ey : ys[i]? = some ys[i] := List.getElem?_eq_getElem (by omega)
    obtain ⟨u, hu, ru⟩ := rv.get ex
    obtain ⟨u2, hu2, ru2⟩ := rv2.get ey
    obtain ⟨zS, itS, cS, rS, eS⟩ := (show ObjOk X.prog X.w H s.heap S (.lst (Ts.map V.ref)) from I.hok S _ hS)
    refine codeAny_builtin PySem.F.entry_extend_loop ?_
    rw [Around.under_plainId PySem.F.plain_extend_loop _]
    show wpAny _ A.in1 (pyNext (.ref z) >>= _) _ _ _
    refine wpAny_bind (zst_item (S := S) D st (Heap.lt_size eS) p p2 (x := u) (y := u2) (by simpa using hu) (by simpa using hu2) fun h' st' hp hsz hk' => ?_)
    have hSn' : S ∉ [z, TO, i1, i2] := fun q => hSn (by simp only [List.mem_cons, List.not_mem_nil, or_false] at q ⊢; rcases q with q | q | q | q <;> simp [q])
    have hS' := hk' S _ hSn' eS
    have nT : H s.heap.objs.size = none := I.hok.fresh (Nat.le_refl _)
    have new : ObjOk X.prog X.w (upd H s.heap.objs.size (.tup [xs[i], ys[i]])) h' s.heap.objs.size (.tup [xs[i], ys[i]]) :=
      ⟨by show 2 ≤ sizeLine; decide, [u, u2], .cons ru (.cons ru2 .nil), ⟨_, hp, rfl, _, rfl⟩⟩
    have I1 : L2.Inv X pins σ (upd H s.heap.objs.size (.tup [xs[i], ys[i]])) { s with heap := h' } := I.turnedNew (t' := s.toks) (ch := [z, TO, i1, i2]) hk' hf (Nat.le_refl _) new
    have neS : S ≠ s.heap.objs.size := Nat.ne_of_lt (Heap.lt_size eS)
    have hS1 : upd H s.heap.objs.size (.tup [xs[i], ys[i]]) S = some (.lst (Ts.map V.ref)) := by rw [upd_ne neS]; exact hS
    have lS := rS.length
    rw [List.length_map, hT] at lS
    show wpAny _ A.in1 (updateSeq S (·.push (Value.ref s.heap.objs.size)) >>= _) _ _ _
    refine wpAny_bind ?_
    refine wpAny_updateSeq hS' rfl (wpAny_pure ⟨plainId_quiet PySem.F.plain_extend_loop _, ?_⟩) (by rw [List.size_toArray]; omega) (by show (itS.toArray.push (Value.ref s.heap.objs.size)).size ≤ sizeLine + 1; rw [Array.size_push, List.size_toArray]; omega)
    have hb : Heap.SameBut S h' (h'.update S (Obj.mapSeq (·.push (Value.ref s.heap.objs.size)))) := Heap.SameBut.update ..
    have hg := Heap.get?_update_self (Obj.mapSeq (·.push (Value.ref s.heap.objs.size))) hS' rfl
    have I2 : L2.Inv X pins σ (upd (upd H s.heap.objs.size (.tup [xs[i], ys[i]])) S (.lst (Ts.map V.ref ++ [.ref s.heap.objs.size]))) { s with heap := h'.update S (Obj.mapSeq (·.push (Value.ref s.heap.objs.size))) } :=
      I1.write (t' := s.toks) (x := S) (e := S) (by rw [hS1]; trivial) (.inl rfl) (fun c o hc q => (hb.2 c hc).trans q) ⟨_, hg⟩ ⟨by rw [List.length_append, List.length_map, List.length_singleton, hT]; omega, itS ++ [.ref s.heap.objs.size], _, rS.append (.cons (show L2.RelV (.ref s.heap.objs.size) (.ref s.heap.objs.size) from rfl) .nil), by
        refine hg.trans ?_
        simp [Obj.mapSeq]
        rfl⟩
    have cases2 : ∀ c, upd (upd H s.heap.objs.size (.tup [xs[i], ys[i]])) S (.lst (Ts.map V.ref ++ [.ref s.heap.objs.size])) c = none → H c = none := fun c hc => by
      by_cases q : c = S
      · rw [q, upd_same] at hc; cases hc
      · rw [upd_ne q] at hc
        by_cases q2 : c = s.heap.objs.size
        · rw [q2]; exact nT
        · rw [upd_ne q2] at hc; exact hc
    have old : ∀ c o, c ≠ S → H c = some o → upd (upd H s.heap.objs.size (.tup [xs[i], ys[i]])) S (.lst (Ts.map V.ref ++ [.ref s.heap.objs.size])) c = some o := fun c o hc q => by
      rw [upd_ne hc, upd_ne (ne_of_none q nT)]; exact q
    refine ih (i + 1) _ _ (Ts ++ [s.heap.objs.size]) (by omega) hlt I2 (st'.keep hSn fun c o hc q => (hb.2 c hc).trans q) (fun c hc => ?_) (fun c o q => old c o (fun e => by rw [e, hS0] at q; cases q) (up c o q)) (fun c hc => dn c (cases2 c hc)) ?_ (by rw [List.length_append, hT]; rfl) ?_ (by show B ≤ (h'.update S _).objs.size; rw [Heap.size_update, hsz]; omega)
    · obtain ⟨f0, f⟩ := hf c hc
      refine ⟨?_, f⟩
      rw [upd_ne (show c ≠ S from fun q => hSn' (by rw [← q]; exact hc)), upd_ne (show c ≠ s.heap.objs.size from fun q => ?_)]
      · exact f0
      · have : c < s.heap.objs.size := Nat.lt_of_lt_of_le (hB c hc) hBs
        rw [q] at this
        exact Nat.lt_irrefl _ this
    · rw [upd_same, List.map_append]; rfl
    · intro j T hj
      rcases Nat.lt_trichotomy j Ts.length with h1 | h1 | h1
      · rw [List.getElem?_append_left h1] at hj
        obtain ⟨x, y, q1, q2, q3, q4⟩ := hP j T hj
        exact ⟨x, y, q1, q2, q3, old T _ (ne_of q4 hS (by simp)) q4⟩
      · rw [List.getElem?_append_right (by omega), h1, Nat.sub_self] at hj
        cases hj
        have hji : j = i := h1.trans hT
        refine ⟨xs[i], ys[i], (congrArg (fun n => xs[n]?) hji).trans ex, (congrArg (fun n => ys[n]?) hji).trans ey, dn _ nT, ?_⟩
        rw [upd_ne (Ne.symm neS), upd_same]
      · rw [List.getElem?_eq_none (by rw [List.length_append, List.length_singleton]; omega)] at hj
        cases hj
/-- list(z), z a new zip of two tuples of one length -/
theorem lz_call {A : Around} {E : Value → Shared → Prop} {z TI TO i1 i2 a b : Addr} {Q : Value → Shared → Prop} {xs ys : List V} {H0 : Hp} {s : Shared} (hA : A.handled = none) (D : ZipApart z TI TO i1 i2 a b) (hlen : xs.length = ys.length) (hz : xs.length ≤ sizeLine)
    (hqx : SqT X.K H0 a xs) (hqy : SqT X.K H0 b ys) (I : L2.Inv X pins σ H0 s) (st : IsZip s.heap z TI TO .none ∧ IsPair s.heap TI (.ref i1) (.ref i2) ∧ (∃ x y, IsPair s.heap TO x y) ∧ s.heap.IsTupleIter i1 a 0 ∧ s.heap.IsTupleIter i2 b 0) (hf : ∀ c ∈ [z, TO, i1, i2], FpOk X pins H0 c)
    (hQ : ∀ s' H' S Ts, L2.Inv X pins σ H' s' → H0 S = none → (∀ c o, H0 c = some o → H' c = some o) → (∀ c, H' c = none → H0 c = none) → H' S = some (.lst (Ts.map V.ref)) → Ts.length = xs.length → Prs H0 H' xs ys Ts → Q (.ref S) s') :
    wpAny (model X.prog X.w) A (call (.type "list") [.ref z]) Q E s := by
  obtain ⟨st1, st2, ⟨x0, y0, st3⟩, st4, st5⟩ := st
  refine callType_codes (Q₁ := fun obj s₁ => obj = .ref s.heap.objs.size ∧ s₁ = { s with heap := s.heap.push { cls := .type "list", data := .seq #[] } }) PySem.F.called_list (PySem.F.typeCall_list_1 _) PySem.F.entry_list_init
    (code_list_new _ ⟨rfl, rfl⟩) fun obj s₁ h₁ => ?_
  obtain ⟨rfl, rfl⟩ := h₁
  have hS : (s.heap.push { cls := .type "list", data := .seq #[] }).get? s.heap.objs.size = some { cls := .type "list", data := .seq #[] } := Heap.get?_push_size _ rfl
  generalize eS : s.heap.objs.size = S at hS
  have zl : z < S := by rw [← eS]; exact Heap.lt_size st1
  have TIl : TI < S := by rw [← eS]; exact Heap.lt_size st2
  have TOl : TO < S := by rw [← eS]; exact Heap.lt_size st3
  have i1l : i1 < S := by rw [← eS]; obtain ⟨_, e, _⟩ := st4; exact Heap.lt_size e
  have i2l : i2 < S := by rw [← eS]; obtain ⟨_, e, _⟩ := st5; exact Heap.lt_size e
  have hSn : S ∉ [z, TI, TO, i1, i2] := fun q => by
    simp only [List.mem_cons, List.not_mem_nil, or_false] at q
    rcases q with q | q | q | q | q
    · exact absurd zl (by rw [q]; exact Nat.lt_irrefl _)
    · exact absurd TIl (by rw [q]; exact Nat.lt_irrefl _)
    · exact absurd TOl (by rw [q]; exact Nat.lt_irrefl _)
    · exact absurd i1l (by rw [q]; exact Nat.lt_irrefl _)
    · exact absurd i2l (by rw [q]; exact Nat.lt_irrefl _)
  have nS : H0 S = none := I.hok.fresh (by omega)
  refine ⟨⟨_, hS, rfl⟩, PySem.F.args_list_init_2 _ _, ?_⟩
  show wpAny _ _ (do let old ← Builtin.List.listItems (.ref S); Builtin.List.listUpdate (.ref S) (fun _ => #[]); letGo old.toList.reverse; Builtin.List.listExtendWith (.ref S) (.ref z) .none) _ _ _
  refine wpAny_bind ?_
  unfold Builtin.List.listItems
  refine wpAny_bind (wpAny_seqItems hS rfl (wpAny_pure ?_))
  show wpAny _ _ (updateSeq S (fun _ => #[]) >>= fun _ => letGo (#[] : Array Value).toList.reverse >>= fun _ => Builtin.List.listExtendWith (.ref S) (.ref z) .none) _ _ _
  refine wpAny_bind (wpAny_updateSeq hS rfl ?_)
  have hS₂ := Heap.get?_update_self (Obj.mapSeq (fun _ => (#[] : Array Value))) hS rfl
  refine wpAny_bind (wpAny_letGo ?_)
  generalize hh1 : (s.heap.push { cls := .type "list", data := .seq #[] }).update S (Obj.mapSeq (fun _ => (#[] : Array Value))) = h1 at hS₂
  have k1 : ∀ c o, s.heap.get? c = some o → h1.get? c = some o := fun c o e => by
    rw [← hh1]
    exact (Heap.get?_update_other _ _ (Nat.ne_of_gt (by rw [← eS]; exact Heap.lt_size e))).trans (Heap.get?_push_of_some _ e)
  have sz1 : h1.objs.size = S + 1 := by rw [← hh1, Heap.size_update, Heap.size_push, eS]
  unfold Builtin.List.listExtendWith
  have hT1 : Shared.TypeIs { s with heap := h1 } (.ref z) "zip" := ⟨_, k1 _ _ st1, rfl⟩
  refine wpAny_bind (wpAny_typeOf (T := "zip") hT1 ?_)
  have e1 : Builtin.List.listSameRef (.ref S) (.ref z) = false := by
    have : S ≠ z := Nat.ne_of_gt zl
    simp [Builtin.List.listSameRef, this]
  have e2 : (Value.type "zip" == Value.type "list") = false := by decide
  have e3 : (Value.type "zip" == Value.type "tuple") = false := by decide
  simp only [e1, e2, e3, Bool.or_false, Bool.false_eq_true, if_false]
  refine wpAny_bind (wpAny_pyIter_zip (k1 _ _ st1) ?_)
  refine wpAny_bind (wpAny_holding (lz_hint hT1 ?_))
  refine wpAny_ite_split (fun _ => ?_) (fun hab => absurd (by rw [Bool.true_or]) hab)
  refine wpAny_bind (wpAny_rule ?_)
  refine wpAny_bind ?_
  show wpAny _ _ (updateSeq S (·.push .none) >>= fun _ => updateSeq S (·.pop)) _ _ _
  refine wpAny_bind (wpAny_updateSeq hS₂ rfl ?_)
  have hS₃ := Heap.get?_update_self (Obj.mapSeq (·.push Value.none)) hS₂ rfl
  refine wpAny_updateSeq (hz := by seq_fits) hS₃ rfl ?_
  have hS₄ := Heap.get?_update_self (Obj.mapSeq (·.pop)) hS₃ rfl
  generalize hh2 : (h1.update S (Obj.mapSeq (·.push Value.none))).update S (Obj.mapSeq (·.pop)) = h2 at hS₄
  have k2 : ∀ c o, c ≠ S → h1.get? c = some o → h2.get? c = some o := fun c o hc e => by
    rw [← hh2]
    exact (Heap.get?_update_other _ _ (Ne.symm hc)).trans ((Heap.get?_update_other _ _ (Ne.symm hc)).trans e)
  have k3 : ∀ c o, s.heap.get? c = some o → h2.get? c = some o := fun c o e => k2 c o (Nat.ne_of_lt (by rw [← eS]; exact Heap.lt_size e)) (k1 c o e)
  have sz2 : h2.objs.size = S + 1 := by rw [← hh2, Heap.size_update, Heap.size_update, sz1]
  refine wpAny_pure ⟨plainId_quiet PySem.F.plain_extend_loop _, ?_⟩
  have I2 : L2.Inv X pins σ (upd H0 S (.lst [])) { s with heap := h2 } := I.laid (t' := s.toks) k3 (by omega) ⟨Nat.zero_le _, [], _, .nil, hS₄⟩
  refine lz_loop (A := A.in1) (R := wants (fun r s₂ => r = Value.none ∧ Q (Value.ref S) s₂) E) (X := X) (pins := pins) (σ := σ) (H0 := H0) (B := S) (xs := xs) (ys := ys) (fun c hc => ?_) hA D hlen hz hSn nS hqx hqy (fun s' H' Ts I' up dn q1 q2 q3 => ?_) xs.length 0 _ (upd H0 S (.lst [])) [] (Nat.sub_zero _) (Nat.zero_le _) I2
    ⟨k3 _ _ st2, st4.at fun o e => k3 _ o e, st5.at fun o e => k3 _ o e, .inl ⟨k3 _ _ st1, x0, y0, k3 _ _ st3⟩⟩ (fun c hc => ?_) (fun c o q => ?_) (fun c q => ?_) upd_same rfl (fun j T h => by simp at h) (by show S ≤ h2.objs.size; omega)
  · simp only [List.mem_cons, List.not_mem_nil, or_false] at hc
    rcases hc with q | q | q | q <;> rw [q] <;> assumption
  · exact ⟨rfl, hQ s' H' S Ts I' nS up dn q1 q2 q3⟩
  · obtain ⟨f0, f⟩ := hf c hc
    refine ⟨?_, f⟩
    rw [upd_ne (fun q => hSn ?_)]
    · exact f0
    · rw [← q]
      simp only [List.mem_cons, List.not_mem_nil, or_false] at hc ⊢
      rcases hc with q | q | q | q <;> simp [q]
  · rw [upd_ne (ne_of_none q nS)]; exact q
  · by_cases e : c = S
    · rw [e, upd_same] at q; cases q
    · rw [upd_ne e] at q; exact q
end
section
variable {X : Cx}
def tLZ (K : PySem.W.Frag) (ta : TA) : TE := fun σ H Q => ta σ H fun vs H1 => ∃ a b xs ys, vs = [.ref a, .ref b] ∧ SqT K H1 a xs ∧ SqT K H1 b ys ∧ xs.length = ys.length ∧
  ∀ S Ts H', H1 S = none → Grow H1 H' → H' S = some (.lst (Ts.map V.ref)) → Ts.length = xs.length → Prs H1 H' xs ys Ts → Q (.ref S) H'
theorem pe_listZip {e e2 : Expr} {ta : TA} {p p2 pos pos2 : Pos} (hc : X.calm = true) (hg : Gl X "list") (hm : X.mg "list" = none) (hg2 : Gl X "zip") (hm2 : X.mg "zip" = none) (ha : PA X [e, e2] ta)
    (hs0 : starEach [.Call (.Name "zip" p2) [e, e2] [] pos2] X.env = (false, eval (.Call (.Name "zip" p2) [e, e2] [] pos2) X.env) :: starEach [] X.env := by rfl)
    (hs : starEach [e, e2] X.env = (false, eval e X.env) :: starEach [e2] X.env := by rfl) (hpl : (backTo pos2 (starEach [e2] X.env)).any (·.1) = false := by rfl) :
    PE X (.Call (.Name "list" p) [.Call (.Name "zip" p2) [e, e2] [] pos2] [] pos) (tLZ X.K ta) := by
  refine ⟨fun pins s σ H Q I h => ?_⟩
  refine wpAny_Call_Name_kw (ld_blt I hg hm (u := .type "list") (by decide +kernel) ?_)
  refine PyProof.Rows.callWith_type1 ?_ hs0 (by rfl)
  rw [hs0]
  show wpAny _ _ (spliced ((false, eval (.Call (.Name "zip" p2) [e, e2] [] pos2) X.env) :: backTo pos (starEach [] X.env))) _ _ s
  refine Calls.spliced_cons (Call_ (ld_blt I hg2 hm2 PyProof.Rows.boot_zip (PyProof.Rows.callWith_type1 (thn (ha.run pos2 pins s σ H _ I h) fun us s1 ⟨vs, H1, I1, r1, q1⟩ => ?_) hs hpl)))
  obtain ⟨a, b, xs, ys, ex, hqx, hqy, hlen, q1⟩ := q1
  subst ex
  cases r1 with
  | cons r rr =>
    cases rr with
    | cons r' rr =>
      cases rr
      cases r
      cases r'
      obtain ⟨its, rv, p1, zx⟩ := I1.tuple hqx
      obtain ⟨its2, rv2, p3, _⟩ := I1.tuple hqy
      obtain ⟨o1, ho1, _⟩ := id p1
      obtain ⟨o2, ho2, _⟩ := id p3
      refine RZ.call_zipT (show s1.heap.IsTuple a its.toArray from p1) (show s1.heap.IsTuple b its2.toArray from p3) fun h' hz hTI hTO h1 h2 hsz hk => ?_
      have I2 : L2.Inv X pins σ H1 { s1 with heap := h' } := I1.kept (t' := s1.toks) hk
      refine Calls.spliced_nil ?_
      refine lz_call (X := X) (I1.ok.hd hc) (PySem.W.ktu_apart s1.heap.objs.size a b (Heap.lt_size ho1) (Heap.lt_size ho2)) hlen zx hqx hqy I2 ⟨hz, hTI, ⟨_, _, hTO⟩, h1, h2⟩ (fun c hcm => ?_) fun s' H' S Ts I' nS up dn q2 q3 q4 => ⟨.ref S, H', I', rfl, q1 S Ts H' nS up q2 q3 q4⟩
      have hle : s1.heap.objs.size ≤ c := by
        simp only [List.mem_cons, List.not_mem_nil, or_false] at hcm
        rcases hcm with z | z | z | z <;> rw [z]
        · exact Nat.le_add_right _ _
        · exact Nat.le_add_right _ _
        · exact Nat.le_refl _
        · exact Nat.le_add_right _ _
      exact I1.fpOk hle (I1.hok.fresh hle)
/-- over data -/
def tupD : D → Option (List D)
  | .tup l => some l
  | _ => none
def gListZip (ga gb : Env' → Cm D) : Env' → Cm (List D) := fun ρ M => bnd (ga ρ M) fun x M1 => bnd (gb ρ M1) fun y M2 => match tupD x, tupD y with
  | some l, some m => if l.length = m.length then some ((l.zip m).map fun p => .tup [p.1, p.2], M2) else none
  | _, _ => none
theorem own_adopt {K : PySem.W.Frag} {mg : Str → Option Value} {β ex : List Addr} {H H' H0 : Hp} {M : Stor} {p : Addr} {vs : List V} {l : List D} (h0 : ∀ x, H x = none → H0 x = none) (hd : Hold K mg β ex H M) (gr : Grow H H') (hp : H p = none) (hv : H' p = some (.lst vs)) (hz : vs.length ≤ sizeLine) (r : Reps K mg β (p :: ex) H' vs l) :
    After β ex H β (p :: ex) H' ∧ Hold K mg β (p :: ex) H' M ∧ RL K mg β (p :: ex) H0 H' (.ref p) l := by
  have kp : Keep β ex H β (p :: ex) H' := ⟨fun _ _ h => h, fun a o h n => ⟨gr a o h, fun z => by
    rcases List.mem_cons.mp z with z | z
    · rw [z, hp] at h; cases h
    · exact n z⟩⟩
  refine ⟨⟨⟨[], by simp, by simp⟩, fun a h => List.mem_cons_of_mem _ h, fun a h => ?_, fun a o h _ => gr a o h, fun a h => gr.dom h⟩, ⟨hd.len, hd.nd, fun a h => List.mem_cons_of_mem _ (hd.sub a h), fun a h => ?_, fun i a o h1 h2 => (hd.objs i a o h1 h2).keep kp (gr a)⟩,
    ⟨p, rfl, h0 p hp, List.mem_cons_self .., hd.nb hp, vs, hv, hz, r⟩⟩
  · rcases List.mem_cons.mp h with h | h
    · rw [h]; exact .inr hp
    · exact .inl h
  · rcases List.mem_cons.mp h with h | h
    · rw [h, hv]; simp
    · exact fun e => hd.live a h (gr.dom e)
theorem prs_reps {K : PySem.W.Frag} {mg : Str → Option Value} {β ex : List Addr} {H : Hp} : ∀ {xs ys : List V} {l m : List D} {Ts : List Addr}, xs.length = ys.length → Ts.length = xs.length → Reps K mg β ex H xs l → Reps K mg β ex H ys m → (∀ (j : Nat) (T : Addr), Ts[j]? = some T → ∃ x y, xs[j]? = some x ∧ ys[j]? = some y ∧ T ∉ ex ∧ H T = some (.tup [x, y])) →
    Reps K mg β ex H (Ts.map V.ref) ((l.zip m).map fun p => .tup [p.1, p.2])
  | [], [], _, _, [], _, _, .nil, .nil, _ => .nil
  | [], _ :: _, _, _, _, h, _, _, _, _ => by cases h
  | _ :: _, [], _, _, _, h, _, _, _, _ => by cases h
  | _ :: _, _ :: _, _, _, [], _, h, _, _, _ => by cases h
  | [], [], _, _, _ :: _, _, h, _, _, _ => by cases h
  | x :: xs, y :: ys, d :: l, e :: m, T :: Ts, h1, h2, .cons r1 r2, .cons s1 s2, h => by
    obtain ⟨x', y', q1, q2, q3, q4⟩ := h 0 T rfl
    cases q1
    cases q2
    exact .cons (.tup (.inl ⟨q4, q3⟩) (by show 2 ≤ sizeLine; rw [sizeLine_eq]; omega) (.cons r1 (.cons s1 .nil))) (prs_reps (by simpa using h1) (by simpa using h2) r2 s2 fun j T hj => h (j + 1) T hj)
variable {a b : Expr} {ga gb : Env' → Cm D} {p p2 pos pos2 : Pos}
theorem dl_listZip (hc : X.calm = true) (hg : Gl X "list") (hm : X.mg "list" = none) (hg2 : Gl X "zip") (hm2 : X.mg "zip" = none) (ha : DE X a ga) (hb : DE X b gb)
    (hs0 : starEach [.Call (.Name "zip" p2) [a, b] [] pos2] X.env = (false, eval (.Call (.Name "zip" p2) [a, b] [] pos2) X.env) :: starEach [] X.env := by rfl)
    (hs : starEach [a, b] X.env = (false, eval a X.env) :: starEach [b] X.env := by rfl) (hs2 : starEach [b] X.env = (false, eval b X.env) :: starEach [] X.env := by rfl) (hpl : (backTo pos2 (starEach [b] X.env)).any (·.1) = false := by rfl) :
    DL X (.Call (.Name "list" p) [.Call (.Name "zip" p2) [a, b] [] pos2] [] pos) (gListZip ga gb) := (pe_listZip hc hg hm hg2 hm2 (pa_cons ha (pa_cons hb pa_nil hs2) hs) hs0 hs hpl).imp fun σ H Q ⟨β, ex, os, ρ, M, c, M', hd, fr, hg, k⟩ => by
  obtain ⟨x, M1, e1, hg⟩ := bnd_eq hg
  obtain ⟨y, M2, e2, hg⟩ := bnd_eq hg
  refine tG.go hd fr e1 fun v1 H1 β1 ex1 af1 hd1 fr1 r1 => tG.go hd1 fr1 e2 fun v2 H2 β2 ex2 af2 hd2 fr2 r2 => ?_
  have r1 := r1.keep (af2.keep hd1)
  cases x with
  | tup l =>
    cases y with
    | tup m =>
      dsimp only [tupD] at hg
      split at hg
      · rename_i hl
        cases hg
        obtain ⟨q1, vs1, ep1, sq1, z1, rs1⟩ := r1.tup_inv
        obtain ⟨q2, vs2, ep2, sq2, z2, rs2⟩ := r2.tup_inv
        subst ep1 ep2
        refine ⟨q1, q2, vs1, vs2, rfl, sq1, sq2, by rw [rs1.length, rs2.length, hl], fun S Ts H' nS gr hS hTl hP => ?_⟩
        have kp : Keep β2 ex2 H2 β2 (S :: ex2) H' := ⟨fun _ _ h => h, fun a o h n => ⟨gr a o h, fun z => by
          rcases List.mem_cons.mp z with z | z
          · rw [z, nS] at h; cases h
          · exact n z⟩⟩
        have rr := prs_reps (by rw [rs1.length, rs2.length, hl]) hTl (rs1.keep kp) (rs2.keep kp) fun j T hj => by
          obtain ⟨x, y, a1, a2, a3, a4⟩ := hP j T hj
          refine ⟨x, y, a1, a2, fun z => ?_, a4⟩
          rcases List.mem_cons.mp z with z | z
          · rw [z, hS] at a4; cases a4
          · exact hd2.live T z a3
        obtain ⟨w1, w2, w3⟩ := own_adopt (H0 := H) (fun x h => af1.dom x (af2.dom x h)) hd2 gr nS hS (by rw [List.length_map, hTl]; exact z1) rr
        exact k _ _ _ _ (af1.trans (af2.trans w1)) w2 w3
      · cases hg
    | _ => cases hg
  | _ => cases hg
end
end Py
/-! sorted(set(..)), sorted lists of tuples -/
namespace Py
open PySem PySem.Spec PyProof.Rows L2 PySem.Calls PyProof
section
variable {P : Program} {w : World} {A : Around} {E : Value → Shared → Prop} {s : Shared}
set_option maxHeartbeats 3200000 in
theorem call_set_lstI {l : Addr} {items : Array Value} (ns : List Int) {Q : Value → Shared → Prop} (hh : A.handled = none) (hl : s.heap.IsList l items) (hit : IntsAre items.toList ns) (hb : ns.length + 1 < scanBound)
    (h : ∀ (h' : Heap) (tk c : Nat), SetR w h' s.heap.objs.size (fun j => decide (j ∈ ns)) c → c ≤ ns.length → (∀ b o, s.heap.get? b = some o → h'.get? b = some o) → Q (.ref s.heap.objs.size) { s with heap := h', toks := tk }) :
    wpAny (model P w) A (call (.type "set") [.ref l]) Q E s := by
  have hisz : items.size = ns.length := by
    have q := IntsAre.length hit
    rw [Array.length_toList] at q
    exact q
  obtain ⟨c, tl, hmro⟩ := F.called_set.mro
  have hmade := F.called_set.made
  have hsub := F.called_set.sub
  refine wpAny_call (codeAny_of_tree ?_)
  show wpAny _ _ (callAny (.type "set") _) _ _ _
  refine wpAny_pure ⟨Code.quiet_builtin _ (by decide +kernel), codeAny_builtin F.entry_type_call ?_⟩
  rw [Around.under_plain (weight_type_call_type "set" [.ref l] []) rfl]
  have h1 := F.called_set.notType
  have h2 := F.called_set.canCreate
  have hct := F.typeCall_set_1 (.ref l)
  repeat (any_goals (first | assumption | wp_step))

  refine codeAny_mono (code_set_led1 (.ref l) (E := E) (Q₁ := fun obj s₁ => obj = .ref s.heap.objs.size ∧ s₁ = { s with heap := s.heap.push { cls := .type "set", dict := none, data := .set #[] 0 (.fresh 0 0 (!w.params.followText "set-order")) } }) ⟨rfl, rfl⟩) fun r s₁ hr => ?_
  cases r with
  | error e => exact hr
  | ok fl =>
    cases fl with
    | ret obj =>
      obtain ⟨rfl, rfl⟩ := hr
      have hS : (s.heap.push { cls := .type "set", dict := none, data := .set #[] 0 (.fresh 0 0 (!w.params.followText "set-order")) }).get? s.heap.objs.size = some { cls := .type "set", dict := none, data := .set #[] 0 (.fresh 0 0 (!w.params.followText "set-order")) } := Heap.get?_push_size _ rfl
      have hT : Shared.TypeIs { s with heap := s.heap.push { cls := .type "set", dict := none, data := .set #[] 0 (.fresh 0 0 (!w.params.followText "set-order")) } } (.ref s.heap.objs.size) "set" := ⟨_, hS, rfl⟩
      have hli := F.called_set.init.lookup
      have hbi := F.called_set.init.bind (.ref s.heap.objs.size)
      repeat (any_goals (first | assumption | wp_step))

      refine codeAny_mono (codeAny_call_builtin (R := wants (fun r s₂ => r = .none ∧ ∃ h' tk c, s₂ = { s with heap := h', toks := tk } ∧ SetR w h' s.heap.objs.size (fun j => decide (j ∈ ns)) c ∧ c ≤ ns.length ∧
          (∀ b o, s.heap.get? b = some o → h'.get? b = some o)) E) F.called_set.init.plain F.entry_set_init (check_set_init_1 hT ?_)) fun r₂ s₂ hr₂ => ?_
      · obtain ⟨ol, hol, hcl, nl, hdl⟩ := hl
        obtain ⟨ocls, odict, odata, oslots⟩ := ol
        simp only at hcl hdl
        subst hcl; subst hdl
        have hol' : (s.heap.push { cls := .type "set", dict := none, data := .set #[] 0 (.fresh 0 0 (!w.params.followText "set-order")) }).get? l = some { cls := .type "list", dict := odict, data := .seq items nl, slots := oslots } := Heap.get?_push_of_some _ hol
        have hsls := F.sub_list_set
        have hslf := F.sub_list_frozenset
        have hne : (Value.type "list" == Value.type "dict") = false := by decide
        have hl1 : (s.heap.push { cls := .type "set", dict := none, data := .set #[] 0 (.fresh 0 0 (!w.params.followText "set-order")) }).IsList l items := ⟨_, hol', rfl, nl, rfl⟩
        unfold Builtin.«set.__init__» noKeywords Builtin.Frozenset.updateFrom
        generalize hPI : pyIter = PI
        wp_walk
        subst hPI

        refine wpAny_pyIter_list hl1 ?_
        refine wpAny_bind (wpAny_runValue ?_)
        have hlS : l < s.heap.objs.size := Heap.lt_size hol
        have hh3 : A.in1.in1.in1.handled = none := by simp [hh]
        have hz1 : (s.heap.push { cls := .type "set", dict := none, data := .set #[] 0 (.fresh 0 0 (!w.params.followText "set-order")) }).objs.size = s.heap.objs.size + 1 := Heap.size_push ..
        have hneI : l ≠ (s.heap.push { cls := .type "set", dict := none, data := .set #[] 0 (.fresh 0 0 (!w.params.followText "set-order")) }).objs.size := by
          rw [Heap.size_push]; exact Nat.ne_of_lt (Nat.lt_succ_of_lt hlS)
        have hSf : s.heap.objs.size ∉ [(s.heap.push { cls := .type "set", dict := none, data := .set #[] 0 (.fresh 0 0 (!w.params.followText "set-order")) }).objs.size, l] := by
          rw [Heap.size_push]; simp only [List.mem_cons, List.mem_singleton, List.not_mem_nil, or_false, not_or]
          exact ⟨Nat.ne_of_lt (Nat.lt_succ_self _), Nat.ne_of_gt hlS⟩
        have hval : ∀ (i : Nat) (v : Value), items[i]? = some v → ∃ k t, ns[i]? = some k ∧ v = .int k t := fun i v hv => by
          have hi : i < ns.length := by rw [← hisz]; exact (Array.getElem?_eq_some_iff.mp hv).1
          obtain ⟨t, e⟩ := PyProof.Rows.IntsAre.int_at hit i v (by rw [Array.getElem?_toList]; exact hv)
          refine ⟨ns[i], t, List.getElem?_eq_getElem hi, ?_⟩
          rw [e, List.getD_eq_getElem?_getD, List.getElem?_eq_getElem hi] <;> rfl
        refine set_update_ints ((Walks.list hh3 _ l hneI items).toS) s.heap.objs.size
          hSf ns hisz hb hval (items.size - 0) 0 _ (by omega) (Nat.zero_le _)
          ⟨⟨_, Heap.get?_push_size _ rfl, rfl, rfl⟩, (hl1.push _)⟩ ?hS0 ?hR
        case hS0 =>
          have hget : ((s.heap.push { cls := .type "set", dict := none, data := .set #[] 0 (.fresh 0 0 (!w.params.followText "set-order")) }).push { cls := .type "list_iterator", data := .fields #[.ref l, .int 0 0] }).get? s.heap.objs.size
              = some { cls := .type "set", dict := none, data := .set #[] 0 (.fresh 0 0 (!w.params.followText "set-order")) } := Heap.get?_push_of_some _ hS
          exact ⟨0, Nat.le_refl 0, setR_new_at hget⟩
        case hR =>
          intro s' c' hm hc' hS'
          obtain ⟨h', g2, d', tk', os'⟩ := s'
          have eg : g2 = s.gens := hm.gens
          have ed : d' = s.drawn := hm.drawn
          have eo : os' = s.os := hm.os
          subst eg; subst ed; subst eo
          show wpAny _ _ _ _ _ _
          refine wpAny_pure ?_
          show wpAny _ _ (ret Value.none) _ _ _
          rw [hisz] at hc'
          refine wpAny_pure ⟨rfl, h', tk', c', rfl, hS', hc', fun b o e => ?_⟩
          have hb0 : b < s.heap.objs.size := Heap.lt_size e
          have hb1 : b ≠ s.heap.objs.size := Nat.ne_of_lt hb0
          have hb2 : b ≠ (s.heap.push { cls := .type "set", dict := none, data := .set #[] 0 (.fresh 0 0 (!w.params.followText "set-order")) }).objs.size := by
            rw [Heap.size_push]; exact Nat.ne_of_lt (Nat.lt_succ_of_lt hb0)
          exact hm.heap b o (by simp only [List.mem_cons, List.mem_singleton, List.not_mem_nil, or_false, not_or]; exact ⟨hb1, hb2⟩) (Heap.get?_push_of_some _ (Heap.get?_push_of_some _ e))

      · cases r₂ with
        | error e => exact hr₂
        | ok fl₂ =>
          cases fl₂ with
          | ret r =>
            obtain ⟨rfl, h', tk, c', rfl, hS', hc', hk'⟩ := hr₂
            repeat (any_goals (first | assumption | wp_step))
            exact h _ _ _ hS' hc' hk'
          | _ => exact hr₂.elim
    | _ => exact hr.elim


end
end Py
/-! sorted(set(..)) over data -/
namespace Py
open PySem PySem.Spec PyProof.Rows L2
section
variable {X : Cx}
def rSetL (w : World) (K : PySem.W.Frag) : List V → Hp → VK → Prop := fun xs H Q => ∃ (l : Addr) (ns : List Int), xs = [V.ref l] ∧ SqL K H l (ns.map V.int) ∧ ns.length + 1 < scanBound ∧
  ∀ a c, H a = none → c ≤ ns.length → Q (.ref a) (upd H a (SetO w a (fun j => decide (j ∈ ns)) c))
theorem cr_setL (hc : X.calm = true) : CallR X (.type "set") (rSetL X.w X.K) := by
  intro pins s σ H xs us Q I r h
  obtain ⟨l, ns, rfl, hl, hb, q⟩ := h
  rw [Vals.ref1 r]
  obtain ⟨its, rv, pl, hz⟩ := I.list hl
  have hn : H s.heap.objs.size = none := I.hok.fresh (Nat.le_refl _)
  refine call_set_lstI (P := X.prog) (w := X.w) ns (I.ok.hd hc) pl.isList (by simpa using ints_of_vals rv) hb fun h' tk c R hc' k => ?_
  exact ⟨.ref s.heap.objs.size, upd H s.heap.objs.size (SetO X.w s.heap.objs.size (fun j => decide (j ∈ ns)) c), I.laid (t' := tk) k (Nat.le_refl _) (setO_new R), rfl, q _ c hn hc'⟩
def dedI : List Int → List Int
  | [] => []
  | a :: l => if a ∈ l then dedI l else a :: dedI l
theorem mem_dedI {k : Int} : ∀ {l : List Int}, k ∈ dedI l ↔ k ∈ l
  | [] => Iff.rfl
  | a :: l => by
    unfold dedI
    split
    · rename_i h
      rw [mem_dedI (l := l), List.mem_cons]
      exact ⟨.inr, fun q => q.elim (fun e => e ▸ h) id⟩
    · rw [List.mem_cons, List.mem_cons, mem_dedI (l := l)]
theorem nodup_dedI : ∀ l : List Int, (dedI l).Nodup
  | [] => List.nodup_nil
  | a :: l => by
    unfold dedI
    split
    · exact nodup_dedI l
    · rename_i h
      exact List.nodup_cons.mpr ⟨fun q => h (mem_dedI.mp q), nodup_dedI l⟩
def setI (ns : List Int) : List Int := sortI (dedI ns)
theorem setI_uniq {ns ms : List Int} (h : ∀ k, k ∈ ms ↔ k ∈ ns) (hp : ms.Pairwise (· < ·)) : ms = setI ns := by
  refine sortI_uniq ?_ (hp.imp fun h => Int.le_of_lt h)
  have nd : ms.Nodup := hp.imp fun h => Int.ne_of_lt h
  exact (List.perm_ext_iff_of_nodup nd (nodup_dedI ns)).mpr fun k => by rw [h, mem_dedI]
variable {a : Expr} {gq : Env' → Cm (List D)} {p p2 pos pos2 : Pos}
def gSortSet (gq : Env' → Cm (List D)) : Env' → Cm (List D) := fun ρ M => bnd (gq ρ M) fun l M1 => if l.length < 64 then lft ((intsOf l).map fun ns => (setI ns).map D.int) M1 else none
theorem dl_sortSet (hc : X.calm = true) (hg : Gl X "sorted") (hm : X.mg "sorted" = none) (hg2 : Gl X "set") (hm2 : X.mg "set" = none) (ha : DLs X a gq) (hs : starEach [a] X.env = (false, eval a X.env) :: starEach [] X.env := by rfl)
    (hs0 : starEach [.Call (.Name "set" p2) [a] [] pos2] X.env = (false, eval (.Call (.Name "set" p2) [a] [] pos2) X.env) :: starEach [] X.env := by rfl) :
    DL X (.Call (.Name "sorted" p) [.Call (.Name "set" p2) [a] [] pos2] [] pos) (gSortSet gq) :=
  (pe_callB (cr_sortedSet hc) hg hm (by decide +kernel) (pa_cons (pe_callTy (cr_setL hc) hg2 hm2 (by decide +kernel) (pa_cons ha pa_nil hs) (he := hs) (hpl := rfl)) pa_nil hs0) (he := hs0) (hpl := rfl)).imp fun σ H Q ⟨β, ex, os, ρ, M, d, M', hd, fr, hg, k⟩ => by
    obtain ⟨l, M1, e1, hg⟩ := bnd_eq hg
    split at hg
    case isFalse => cases hg
    rename_i h64
    obtain ⟨e3, e4⟩ := lft_eq hg
    have e4 : M' = M1 := e4
    subst e4
    refine tCB1 (show tCB (rSetL X.w X.K) (tCons (tG X.K X.mg (RLs X.K X.mg) gq) tNil) σ H _ from tCB1 (tG.go hd fr e1 fun v1 H1 β1 ex1 af1 hd1 fr1 r1 => ?_))
    obtain ⟨q, vs, ep, hz, rs, sq⟩ := r1.later hd1 .refl
    subst ep
    cases qi : intsOf l with
    | none => rw [qi] at e3; cases e3
    | some ns =>
      rw [qi] at e3
      cases e3
      have ev := rs.ints qi
      have hnl : ns.length = l.length := by rw [← rs.length, ev, List.length_map]
      rw [ev] at sq
      refine ⟨q, ns, rfl, sq, Nat.lt_of_lt_of_le (show ns.length + 1 < 65 by omega) (by decide), fun t c ht hcl => ?_⟩
      have gr : Grow H1 (upd H1 t (SetO X.w t (fun j => decide (j ∈ ns)) c)) := Grow.new ht
      refine ⟨t, _, c, rfl, upd_same, by omega, fun ms t2 hs hmem hl2 ht2 => ?_⟩
      have em := setI_uniq (ns := ns) (fun k => (hmem k).trans (by simp)) hs
      subst em
      obtain ⟨q1, q2, q3⟩ := own_new (H0 := H) (fun x h => af1.dom x (gr.dom h)) (hd1.grow gr) ht2 (by rw [List.length_map, hl2, sizeLine_eq]; omega) (Reps.mapInt _)
      exact k _ _ _ _ (af1.trans ((gr.after).trans q1)) q2 q3
end
end Py
/-! sorted lists of tuples of ints -/
namespace Py
open PySem PySem.Spec PyProof.Rows L2

def lexI : List Int → List Int → Bool
  | [], [] => false
  | [], _ :: _ => true
  | _ :: _, [] => false
  | a :: l, b :: m => if a = b then lexI l m else decide (a < b)
theorem lexI_cons {a b : Int} {l m : List Int} : lexI (a :: l) (b :: m) = if a = b then lexI l m else decide (a < b) := rfl
theorem lexI_asym : ∀ {x y : List Int}, lexI x y = true → lexI y x = false
  | [], [], h => by cases h
  | [], _ :: _, _ => rfl
  | _ :: _, [], h => by cases h
  | a :: l, b :: m, h => by
    rw [lexI_cons] at h ⊢
    by_cases e : a = b
    · rw [if_pos e] at h
      rw [if_pos e.symm]
      exact lexI_asym h
    · rw [if_neg e] at h
      rw [if_neg (Ne.symm e)]
      have := of_decide_eq_true h
      exact decide_eq_false (by omega)
theorem lexI_tr : ∀ {x y z : List Int}, lexI y x = false → lexI z y = false → lexI z x = false
  | [], [], z, _, h => h
  | [], _ :: _, [], _, _ => rfl
  | [], b :: m, c :: n, _, _ => rfl
  | _ :: _, [], _, h, _ => by cases h
  | a :: l, b :: m, [], _, h => by cases h
  | a :: l, b :: m, c :: n, h1, h2 => by
    rw [lexI_cons] at h1 h2 ⊢
    by_cases e : b = a
    · subst e
      rw [if_pos rfl] at h1
      by_cases e2 : c = b
      · subst e2
        rw [if_pos rfl] at h2 ⊢
        exact lexI_tr h1 h2
      · rw [if_neg e2] at h2 ⊢
        exact h2
    · rw [if_neg e] at h1
      have h1 := of_decide_eq_false h1
      by_cases e2 : c = b
      · subst e2
        rw [if_neg e]
        exact decide_eq_false h1
      · rw [if_neg e2] at h2
        have h2 := of_decide_eq_false h2
        rw [if_neg (by omega)]
        exact decide_eq_false (by omega)
theorem lexI_eq : ∀ {x y : List Int}, lexI x y = false → lexI y x = false → x = y
  | [], [], _, _ => rfl
  | [], _ :: _, h, _ => by cases h
  | _ :: _, [], _, h => by cases h
  | a :: l, b :: m, h1, h2 => by
    rw [lexI_cons] at h1 h2
    by_cases e : a = b
    · rw [if_pos e] at h1
      rw [if_pos e.symm] at h2
      rw [e, lexI_eq h1 h2]
    · rw [if_neg e] at h1
      rw [if_neg (Ne.symm e)] at h2
      have h1 := of_decide_eq_false h1
      have h2 := of_decide_eq_false h2
      omega
theorem swo_lexI {α : Type} (k : α → List Int) : SrtO.Swo fun v u => lexI (k v) (k u) := ⟨fun x y h => lexI_asym h, fun x y z h1 h2 => lexI_tr h1 h2⟩
/-- the sorted list -/
def sortL (l : List (List Int)) : List (List Int) := l.mergeSort fun a b => !lexI b a
theorem sortL_uniq {l m : List (List Int)} (h : m.Perm l) (hp : m.Pairwise fun x y => lexI y x = false) : m = sortL l := by
  have h1 : (sortL l).Pairwise fun a b => (!lexI b a) = true := List.pairwise_mergeSort (fun a b c q1 q2 => by
    simp only [Bool.not_eq_true'] at q1 q2 ⊢
    exact lexI_tr q1 q2) (fun a b => by
    cases q : lexI b a with
    | false => rfl
    | true => rw [lexI_asym q]; rfl) l
  have h2 : (sortL l).Perm l := List.mergeSort_perm l _
  refine List.Perm.eq_of_pairwise (le := fun x y => lexI y x = false) (fun a b _ _ q1 q2 => lexI_eq q2 q1) hp (h1.imp fun q => by simpa using q) (h.trans h2.symm)
/-- a tuple of ints in the heap -/
def IsTI (h : Heap) (v : Value) (ns : List Int) : Prop := ∃ a o its n, v = .ref a ∧ h.get? a = some o ∧ o.cls = .type "tuple" ∧ o.data = .seq (List.toArray its) n ∧ IntsAre its ns
theorem IsTI.keeps {h h' : Heap} {v : Value} {ns : List Int} (p : IsTI h v ns) (k : ∀ b o, h.get? b = some o → o.cls = .type "tuple" → h'.get? b = some o) : IsTI h' v ns := by
  obtain ⟨a, o, its, n, e, ho, hc, hd, hi⟩ := p
  exact ⟨a, o, its, n, e, k _ _ ho hc, hc, hd, hi⟩
section
variable {prog : Program} {w : World} {A : Around} {E : Value → Shared → Prop} {s : Shared}
theorem lex_kat {Q : Bool → Shared → Prop} : ∀ {xs ys : List Value} {l m : List Int} {fin : Bool} (i : Nat), IntsAre xs l → IntsAre ys m → (l.length ≤ m.length → m.length ≤ l.length → fin = false) → (l.length < m.length → fin = true) → (m.length < l.length → fin = false) → Q (lexI l m) s → PySem.W.KatLex prog w A true fin Q (xs.zip ys) i s
  | [], [], _, _, fin, i, .nil, .nil, h1, _, _, q => by
    rw [List.zip_nil_left]
    refine PySem.W.kat_nil ?_
    rw [h1 (Nat.le_refl _) (Nat.le_refl _)]; exact q
  | [], _ :: _, _, _, fin, i, .nil, .cons _ _ _, _, h2, _, q => by
    rw [List.zip_nil_left]
    refine PySem.W.kat_nil ?_
    rw [h2 (Nat.succ_pos _)]; exact q
  | _ :: _, [], _, _, fin, i, .cons _ _ _, .nil, _, _, h3, q => by
    rw [List.zip_nil_right]
    refine PySem.W.kat_nil ?_
    rw [h3 (Nat.succ_pos _)]; exact q
  | _ :: _, _ :: _, _, _, fin, i, .cons x t r1, .cons y u r2, h1, h2, h3, q => by
    rw [List.zip_cons_cons]
    refine PySem.W.kat_cons (SeqAt.EqAt.int_int x t y u prog w _ _ ?_)
    rw [lexI_cons] at q
    refine PySem.W.kat_go (fun e1 => ?_) (fun e1 => ?_)
    · have ex : x = y := by simpa using e1
      rw [if_pos ex] at q
      simp only [List.length_cons] at h1 h2 h3
      exact PySem.W.kat_yes (lex_kat (i + 1) r1 r2 (fun a b => h1 (by omega) (by omega)) (fun a => h2 (by omega)) (fun a => h3 (by omega)) q)
    · have ex : ¬ x = y := by simpa using e1
      rw [if_neg ex] at q
      exact PySem.W.kat_no (TS.oneLt_ints _ q)
theorem ti_cmp {vs : List Value} {k : Value → List Int} (hp : ∀ v ∈ vs, IsTI s.heap v (k v)) : SrtO.Cmp prog w A s (tuples' true) (fun p => p.1 ∈ vs) (SrtO.lt2 fun v u => lexI (k v) (k u)) := by
  intro p q hm hm'
  show wpAny (model prog w) A (keyLt' (tuples' true) p.1 q.1) (fun r s' => s' = s ∧ r = lexI (k p.1) (k q.1)) (fun _ _ => False) s
  obtain ⟨a, o, its, n, e, ho, hc, hd, hi⟩ := hp _ hm
  obtain ⟨a', o', its', n', e', ho', hc', hd', hi'⟩ := hp _ hm'
  rw [e, e'] at *
  refine PySem.W.kat_lt ho hd ho' hd' ?_
  have l1 := hi.length
  have l2 := hi'.length
  refine lex_kat 0 (by simpa using hi) (by simpa using hi') (fun a b => ?_) (fun a => ?_) (fun a => ?_) ⟨rfl, rfl⟩
  · simp; omega
  · simp; omega
  · simp; omega
theorem ti_firsts {h : Heap} {k : Value → List Int} : ∀ {vs : List Value}, (∀ v ∈ vs, IsTI h v (k v) ∧ k v ≠ []) → ∃ fs : List Value, PySem.W.KatTups h vs fs ∧ fs.length = vs.length ∧ ∀ f ∈ fs, ∃ x t, f = Value.int x t
  | [], _ => ⟨[], PySem.W.KatTups.nil, rfl, fun _ hm => by simp at hm⟩
  | v :: vs, hp => by
    obtain ⟨fs, h1, h2, h3⟩ := ti_firsts (vs := vs) fun v' hm => hp v' (List.mem_cons_of_mem _ hm)
    obtain ⟨⟨a, o, its, n, e, ho, hc, hd, hi⟩, hne⟩ := hp v (List.mem_cons_self ..)
    subst e
    generalize k (.ref a) = ks at hi hne
    cases hi with
    | nil => exact absurd rfl hne
    | @cons x t _ _ hi =>
      refine ⟨.int x t :: fs, PySem.W.KatTups.cons ho hc hd (by simp) h1, by rw [List.length_cons, List.length_cons, h2], fun f hm => ?_⟩
      rcases List.mem_cons.mp hm with rfl | hm
      · exact ⟨x, t, rfl⟩
      · exact h3 f hm
theorem ti_sortable {a : Addr} {vs : List Value} {k : Value → List Int} (h0 : 0 < vs.length) (hp : ∀ v ∈ vs, IsTI s.heap v (k v) ∧ k v ≠ []) (ha : ∀ o, s.heap.get? a = some o → o.cls ≠ .type "tuple") : SrtO.SortableO prog w A s a vs fun v u => lexI (k v) (k u) := by
  intro h' keep
  have hp' : ∀ v ∈ vs, IsTI h' v (k v) ∧ k v ≠ [] := fun v hm => ⟨(hp v hm).1.keeps fun b o e c => keep b o (fun z => by subst z; exact ha o e c) e, (hp v hm).2⟩
  obtain ⟨fs, h1, h2, h3⟩ := ti_firsts hp'
  refine ⟨tuples' true, fun Q E hq => ?_, ti_cmp fun v hm => (hp' v hm).1⟩
  refine PySem.W.kat_kind (T := .type "int") h1 (by omega) (fun f hm => ?_) (by rfl) ?_
  · obtain ⟨x, t, rfl⟩ := h3 f hm
    exact PySem.W.Looks.now
  · have e : (Value.type "int" != Value.type "tuple") = true := by first | decide +kernel | rfl | decide
    rw [e]
    exact hq
theorem sorted_ti {l : Addr} {vs : List Value} {k : Value → List Int} {Q : Value → Shared → Prop} (hl : s.heap.IsList l vs.toArray) (hz : vs.length ≤ sizeLine) (hp : 2 ≤ vs.length → ∀ v ∈ vs, IsTI s.heap v (k v) ∧ k v ≠ [])
    (h : ∀ (h' : Heap) (d : Addr) (out : List Value), SrtO.Srtd (fun v u => lexI (k v) (k u)) out → out.Perm vs → (∀ b o, s.heap.get? b = some o → h'.get? b = some o) → s.heap.objs.size ≤ d → (∃ n, h'.get? d = some (seqObj "list" out.toArray n)) → Q (.ref d) { s with heap := h' }) :
    wpAny (model prog w) A (call (.builtin "sorted") [.ref l]) Q E s := by
  refine SrtO.sorted_ord (swo_lexI k) hl hz (fun h2 h₁ a ha kk => ?_) fun out hs hb => ?_
  · refine ti_sortable (s := { s with heap := h₁ }) (by omega) (fun v hm => ⟨(hp h2 v hm).1.keeps fun b o e _ => (kk b o e).2, (hp h2 v hm).2⟩) fun o e => ?_
    have e' : some o = some (seqObj "list" vs.toArray 0) := e.symm.trans ha
    cases e'
    intro c
    exact absurd (Value.type.inj c) (by decide)
  · exact h _ _ out hs hb.perm (fun b o e => PyProof.Rows.sortedAll_old e) (Nat.le_succ _) (PyProof.Rows.sortedAll_at s.heap vs out.toArray)
end

theorem ints_fun {us : List Value} {ns ms : List Int} (h : IntsAre us ns) (h2 : IntsAre us ms) : ns = ms := by
  induction h generalizing ms with
  | nil => cases h2; rfl
  | cons n t h ih =>
    cases h2 with
    | cons _ _ h2 => rw [ih h2]
theorem IsTI.fun {h : Heap} {v : Value} {ns ms : List Int} (p : IsTI h v ns) (q : IsTI h v ms) : ns = ms := by
  obtain ⟨a, o, its, n, e, ho, hc, hd, hi⟩ := p
  obtain ⟨a', o', its', n', e', ho', hc', hd', hi'⟩ := q
  rw [e] at e'
  cases e'
  rw [ho] at ho'
  cases ho'
  rw [hd] at hd'
  have e2 := (Data.seq.inj hd').1
  have e3 : its = its' := by simpa using e2
  subst e3
  exact ints_fun hi hi'
open Classical in
noncomputable def tiK (h : Heap) (v : Value) : List Int := if p : ∃ ns, IsTI h v ns then Classical.choose p else []
theorem tiK_eq {h : Heap} {v : Value} {ns : List Int} (p : IsTI h v ns) : tiK h v = ns := by
  have hx : ∃ ns, IsTI h v ns := ⟨ns, p⟩
  unfold tiK
  rw [dif_pos hx]
  exact (Classical.choose_spec hx).fun p
section
variable {X : Cx}
def rSortT (K : PySem.W.Frag) : List V → Hp → VK → Prop := fun vs H Q => ∃ (a : Addr) (xs : List V) (nss : List (List Int)) (R : V → List Int → Prop), vs = [V.ref a] ∧ SqL K H a xs ∧ Paired R xs nss ∧ (∀ x ns, R x ns → ∃ t, x = .ref t ∧ SqT K H t (ns.map V.int)) ∧ (2 ≤ xs.length → ∀ ns ∈ nss, ns ≠ []) ∧
  ∀ ys p, Paired R ys (sortL nss) → H p = none → Q (.ref p) (upd H p (.lst ys))
theorem paired_mem {α β : Type} {R : α → β → Prop} : ∀ {xs : List α} {ys : List β}, Paired R xs ys → ∀ x ∈ xs, ∃ y ∈ ys, R x y
  | _, _, .nil, x, h => by cases h
  | _, _, .cons r t, x, h => by
    rcases List.mem_cons.mp h with e | h
    · exact ⟨_, List.mem_cons_self .., e ▸ r⟩
    · obtain ⟨y, h1, h2⟩ := paired_mem t x h
      exact ⟨y, List.mem_cons_of_mem _ h1, h2⟩
theorem paired_map {α β γ : Type} {R : β → γ → Prop} {f : α → β} {g : α → γ} : ∀ {l : List α}, (∀ a ∈ l, R (f a) (g a)) → Paired R (l.map f) (l.map g)
  | [], _ => .nil
  | a :: l, h => .cons (h a (List.mem_cons_self ..)) (paired_map fun b hb => h b (List.mem_cons_of_mem _ hb))
theorem cr_sortT : CallR X (.builtin "sorted") (rSortT X.K) := by
  intro pins s σ H vs us Q I r h
  obtain ⟨a, xs, nss, R, rfl, hs, hP, hR, h2, q⟩ := h
  obtain ⟨its, rv, hl, hz⟩ := I.list hs
  obtain ⟨u, rfl, ru⟩ := vals1 r
  obtain rfl : u = Value.ref a := ru
  obtain ⟨e1, e2⟩ := refs_back rv fun x m => by
    obtain ⟨ns, _, hr⟩ := paired_mem hP x m
    obtain ⟨t, e, _⟩ := hR x ns hr
    exact ⟨t, e⟩
  have key : ∀ v ∈ its, ∃ ns ∈ nss, R (backV v) ns ∧ IsTI s.heap v ns := fun v hv => by
    obtain ⟨t, rfl⟩ := e2 v hv
    have hm : V.ref t ∈ xs := by rw [e1]; exact List.mem_map.mpr ⟨_, hv, rfl⟩
    obtain ⟨ns, h1, hr⟩ := paired_mem hP _ hm
    obtain ⟨t', e, ht⟩ := hR _ ns hr
    cases e
    obtain ⟨its2, r2, ⟨o, ho, hc, n, hd⟩, _⟩ := I.tuple ht
    exact ⟨ns, h1, hr, t, o, its2, n, rfl, ho, hc, hd, ints_of_vals r2⟩
  have hm : its.map (tiK s.heap) = nss := by
    have : ∀ {xs : List V} {its : List Value} {nss : List (List Int)}, Vals xs its → Paired R xs nss → (∀ x ns, R x ns → ∃ t, x = .ref t ∧ SqT X.K H t (ns.map V.int)) → its.map (tiK s.heap) = nss := by
      intro xs its nss rv hP hR
      clear e1 e2 key hl hs hz h2 q
      induction hP generalizing its with
      | nil => cases rv; rfl
      | cons hr ht ih =>
        cases rv with
        | cons r1 r2 =>
          obtain ⟨t, e, hT⟩ := hR _ _ hr
          subst e
          cases r1
          obtain ⟨its2, r3, ⟨o, ho, hc, n, hd⟩, _⟩ := I.tuple hT
          rw [List.map_cons, ih r2, tiK_eq ⟨t, o, its2, n, rfl, ho, hc, hd, ints_of_vals r3⟩]
    exact this rv hP hR
  refine sorted_ti (k := tiK s.heap) hl.isList (by rw [← rv.length]; exact hz) (fun hl2 v hv => ?_) fun h' d out h1 hpm kp hd hn => ?_
  · obtain ⟨ns, hm1, _, ht⟩ := key v hv
    rw [tiK_eq ht]
    exact ⟨ht, h2 (by rw [rv.length]; exact hl2) ns hm1⟩
  · have h3 : ∀ u ∈ out, ∃ a, u = Value.ref a := fun u hu => e2 u (hpm.mem_iff.mp hu)
    obtain ⟨n, hn⟩ := hn
    have es : out.map (tiK s.heap) = sortL nss := sortL_uniq (by rw [← hm]; exact hpm.map _) (List.pairwise_map.mpr h1)
    have hp : Paired R (out.map backV) (sortL nss) := by
      rw [← es]
      exact paired_map fun u hu => by
        obtain ⟨ns, _, hr, ht⟩ := key u (hpm.mem_iff.mp hu)
        rw [tiK_eq ht]
        exact hr
    refine ⟨.ref d, upd H d (.lst (out.map backV)), I.laid (t' := s.toks) kp hd ⟨?_, out, n, vals_back h3, hn⟩, rfl, q _ d hp (I.hok.fresh hd)⟩
    rw [List.length_map, hpm.length_eq, ← rv.length]
    exact hz
/-- tuples of ints -/
def tisOf : List D → Option (List (List Int))
  | [] => some []
  | .tup l :: r => match intsOf l, tisOf r with
    | some ns, some nss => some (ns :: nss)
    | _, _ => none
  | _ => none
def tiD (ns : List Int) : D := .tup (ns.map D.int)
theorem intsOf_inv : ∀ {l : List D} {ns : List Int}, intsOf l = some ns → l = ns.map D.int
  | [], _, h => by cases h; rfl
  | .int i :: l, ns, h => by
    unfold intsOf at h
    cases q : intsOf l with
    | none => rw [q] at h; cases h
    | some ms => rw [q] at h; cases h; rw [intsOf_inv q]; rfl
  | .non :: l, ns, h => by cases h
  | .bl _ :: l, ns, h => by cases h
  | .str _ :: l, ns, h => by cases h
  | .tup _ :: l, ns, h => by cases h
  | .lst _ :: l, ns, h => by cases h
  | .scr _ :: l, ns, h => by cases h
  | .dct _ :: l, ns, h => by cases h
  | .obj _ _ :: l, ns, h => by cases h
  | .loc _ :: l, ns, h => by cases h
  | .glo _ :: l, ns, h => by cases h
theorem tisOf_inv : ∀ {l : List D} {ns : List (List Int)}, tisOf l = some ns → l = ns.map tiD
  | [], _, h => by cases h; rfl
  | .tup m :: l, ns, h => by
    unfold tisOf at h
    split at h
    · rename_i a b h1 h2
      cases h
      rw [intsOf_inv h1, tisOf_inv h2]; rfl
    · cases h
  | .int i :: l, ns, h => by cases h
  | .non :: l, ns, h => by cases h
  | .bl _ :: l, ns, h => by cases h
  | .str _ :: l, ns, h => by cases h
  | .lst _ :: l, ns, h => by cases h
  | .scr _ :: l, ns, h => by cases h
  | .dct _ :: l, ns, h => by cases h
  | .obj _ _ :: l, ns, h => by cases h
  | .loc _ :: l, ns, h => by cases h
  | .glo _ :: l, ns, h => by cases h
theorem reps_paired {K : PySem.W.Frag} {mg : Str → Option Value} {β ex : List Addr} {H : Hp} : ∀ {vs : List V} {nss : List (List Int)}, Reps K mg β ex H vs (nss.map tiD) ↔ Paired (fun v ns => Rep K mg β ex H v (tiD ns)) vs nss
  | _, [] => ⟨fun h => by cases h; exact .nil, fun h => by cases h; exact .nil⟩
  | _, _ :: _ => ⟨fun h => by cases h with | cons r t => exact .cons r (reps_paired.mp t), fun h => by cases h with | cons r t => exact .cons r (reps_paired.mpr t)⟩
theorem intsReps {K : PySem.W.Frag} {mg : Str → Option Value} {β ex : List Addr} {H : Hp} : ∀ {vs : List V} {ns : List Int}, Reps K mg β ex H vs (ns.map D.int) → vs = ns.map V.int
  | _, [], h => by cases h; rfl
  | _, n :: ns, h => by cases h with | cons r t => rw [r.int_inv, intsReps t]; rfl
variable {a : Expr} {gq : Env' → Cm (List D)} {p pos : Pos}
def gSortT (gq : Env' → Cm (List D)) : Env' → Cm (List D) := fun ρ M => bnd (gq ρ M) fun l M1 => match tisOf l with
  | some nss => if nss.length < 2 ∨ nss.all (fun ns => !ns.isEmpty) = true then some ((sortL nss).map tiD, M1) else none
  | none => none
theorem dl_sortT (hg : Gl X "sorted") (hm : X.mg "sorted" = none) (ha : DLs X a gq) (hs : starEach [a] X.env = (false, eval a X.env) :: starEach [] X.env := by rfl) : DL X (.Call (.Name "sorted" p) [a] [] pos) (gSortT gq) :=
  (pe_callB cr_sortT hg hm (by decide +kernel) (pa_cons ha pa_nil hs) (he := hs) (hpl := rfl)).imp fun σ H Q ⟨β, ex, os, ρ, M, d, M', hd, fr, hg, k⟩ => by
    obtain ⟨l, M1, e1, hg⟩ := bnd_eq hg
    split at hg
    case h_2 => cases hg
    rename_i nss hn
    split at hg
    case isFalse => cases hg
    rename_i hc
    cases hg
    refine tCB1 (tG.go hd fr e1 fun v1 H1 β1 ex1 af1 hd1 fr1 r1 => ?_)
    obtain ⟨q, vs, ep, hz, rs, sq⟩ := r1.later hd1 .refl
    subst ep
    rw [tisOf_inv hn] at rs
    refine ⟨q, vs, nss, fun v ns => Rep X.K X.mg β1 ex1 H1 v (tiD ns), rfl, sq, reps_paired.mp rs, fun x ns hr => ?_, fun h2 ns hm => ?_, fun ys t hP ht => ?_⟩
    · obtain ⟨a, vs, e, sqt, _, rr⟩ := hr.tup_inv
      rw [intsReps rr] at sqt
      exact ⟨a, e, sqt⟩
    · rcases hc with hc | hc
      · have := rs.length
        rw [List.length_map] at this
        omega
      · have := List.all_eq_true.mp hc ns hm
        intro e
        rw [e] at this
        cases this
    · have rr := reps_paired.mpr hP
      obtain ⟨q1, q2, q3⟩ := own_new (H0 := H) af1.dom hd1 ht (by
        have h1 := rr.length
        have h2 := rs.length
        rw [List.length_map] at h1 h2
        rw [h1, show (sortL nss).length = nss.length from List.length_mergeSort _, ← h2]
        exact hz) rr
      exact k _ _ _ _ (af1.trans q1) q2 q3
end
end Py
/-! lists added; defs in bundles -/
namespace Py
open PySem PySem.Spec PyProof.Rows L2

section
variable {X : Cx} {e a b : Expr} {pos p : Pos}
/-- a list that is no written one -/
def RLt (K : PySem.W.Frag) (mg : Str → Option Value) : Rel (List D) := fun β ex _ H' v l => ∃ p vs, v = .ref p ∧ vs.length ≤ sizeLine ∧ Reps K mg β ex H' vs l ∧ H' p = some (.lst vs) ∧ p ∉ β
abbrev DLt (X : Cx) (e : Expr) (g : Env' → Cm (List D)) : Prop := PE X e (tG X.K X.mg (RLt X.K X.mg) g)
def lstT : D → Option (List D)
  | .lst l => some l
  | _ => none
def gLt (g : Env' → Cm D) : Env' → Cm (List D) := fun ρ M => bnd (g ρ M) fun d M1 => lft (lstT d) M1
theorem dlt_d {g : Env' → Cm D} (h : DE X e g) : DLt X e (gLt g) := h.imp fun σ H Q ⟨β, ex, os, ρ, M, c, M', hd, fr, hg, k⟩ => by
  obtain ⟨x, M1, e1, hg⟩ := bnd_eq hg
  obtain ⟨e3, e4⟩ := lft_eq hg
  have e4 : M' = M1 := e4
  subst e4
  refine tG.go hd fr e1 fun v1 H1 β1 ex1 af1 hd1 fr1 r => k _ _ _ _ af1 hd1 ?_
  cases r with
  | lst q n z rs =>
    cases e3
    exact ⟨_, _, rfl, z, rs, q, fun z => n (hd1.sub _ z)⟩
  | _ => cases e3
theorem dlt_l {g : Env' → Cm (List D)} (h : DL X e g) : DLt X e g := h.imp fun σ H Q ⟨β, ex, os, ρ, M, c, M', hd, fr, hg, k⟩ =>
  tG.go hd fr hg fun v1 H1 β1 ex1 af1 hd1 fr1 ⟨p, ep, hp, hx, hn, vs, hv, hz, rs⟩ => k _ _ _ _ af1 hd1 ⟨p, vs, ep, hz, rs, hv, hn⟩
theorem dlt_own' (i : Nat) (h : PE X e (tVar i)) : DLt X e (gOwn i) := h.imp fun σ H Q ⟨β, ex, os, ρ, M, a, M', hd, fr, hg, k⟩ => by
  unfold gOwn at hg
  split at hg
  · rename_i l hl
    cases hg
    obtain ⟨p, vs, eo, es, hv, hz, rs, hx, hn⟩ := fr.own hl
    exact ⟨.ref p, es, k _ H β ex .refl hd ⟨p, vs, rfl, hz, rs, hv, hn⟩⟩
  · cases hg
theorem dlt_own (i : Nat) {x : Str} {pos : Pos} (hN : X.N[i]? = some x := by rfl) (hv : Vis X.env.scope x := by first | exact Or.inl rfl | exact Or.inr (Or.inl rfl) | exact Or.inr (Or.inr rfl)) (hd : (x == ("__debug__" : Str)) = false := by decide)
    (hcd : (x == ("__classdict__" : Str)) = false := by decide) : DLt X (.Name x pos) (gOwn i) := dlt_own' i (pe_var hN hv hd hcd)
def gCat (ga gb : Env' → Cm (List D)) : Env' → Cm (List D) := fun ρ M => bnd (ga ρ M) fun l M1 => bnd (gb ρ M1) fun m M2 => if l.length + m.length ≤ lim then some (l ++ m, M2) else none
theorem dl_cat {ga gb : Env' → Cm (List D)} (ha : DLt X a ga) (hb : DLt X b gb) : DL X (.BinOp a .Add b pos) (gCat ga gb) := (pe_op op_cat ha hb).imp fun σ H Q ⟨β, ex, os, ρ, M, c, M', hd, fr, hg, k⟩ => by
  obtain ⟨l, M1, e1, hg⟩ := bnd_eq hg
  obtain ⟨m, M2, e2, hg⟩ := bnd_eq hg
  split at hg
  · rename_i hl
    cases hg
    refine tG.go hd fr e1 fun v1 H1 β1 ex1 af1 hd1 fr1 ⟨p, vs, ep, hz, rs, hv, hn⟩ => tG.go hd1 fr1 e2 fun v2 H2 β2 ex2 af2 hd2 fr2 ⟨q, ws, eq, hz2, rs2, hv2, hn2⟩ => ?_
    subst ep eq
    have hv' := af2.same p _ hv hn
    have rs' := rs.keep (af2.keep hd1)
    have hlen : vs.length + ws.length ≤ sizeLine := by rw [rs.length, rs2.length]; exact le_lim hl
    refine ⟨p, q, vs, ws, rfl, rfl, hv', hv2, hlen, fun t ht => ?_⟩
    obtain ⟨q1, q2, q3⟩ := own_new (H0 := H) (fun x h => af1.dom x (af2.dom x h)) hd2 ht (by rw [List.length_append]; exact hlen) (rs'.append rs2)
    exact k _ _ _ _ (af1.trans (af2.trans q1)) q2 q3
  · cases hg
end

/-! ### defs in bundles -/
structure Dfn (P : Program) (w : World) (K : PySem.W.Frag) (mg : Str → Option Value) (base : Heap) (x : Str) (n k : Nat) (φ : List D → Cm D) : Prop where
  ex : ∃ f fd ps, FnOk P w K mg base CX0 k f fd ps (spF K mg n φ) ∧ mg x = some (.ref f) ∧ PySem.W.keepIn K (.ref f) = true ∧ Binds K fd ps []
structure DfnK (P : Program) (w : World) (K : PySem.W.Frag) (mg : Str → Option Value) (base : Heap) (x : Str) (ks : List Str) (is : List Nat) (n k : Nat) (φ : List D → Cm D) : Prop where
  ex : ∃ f fd ps, FnOk P w K mg base CX0 k f fd ps (spF K mg n φ) ∧ mg x = some (.ref f) ∧ PySem.W.keepIn K (.ref f) = true ∧ (∀ (s : Shared) (ws : List Value), ws.length = ks.length → BindsTo s fd ⟨[], ks.zip ws⟩ (ps.zip (pick is ws)))
structure Mkn (P : Program) (w : World) (K : PySem.W.Frag) (mg : Str → Option Value) (base : Heap) (c : Str) (n k : Nat) (φ : List D → Cm D) : Prop where
  ex : ∃ f C fd ps, Mk K C f ∧ FnOk P w K mg base CX0 k f fd ps (spF K mg n φ) ∧ mg c = some (.ref C) ∧ Binds K fd ps []
structure Fldn (K : PySem.W.Frag) (mg : Str → Option Value) (c f : Str) : Prop where
  ex : ∃ C, mg c = some (.ref C) ∧ Cls K C ∧ NoAttr K C f
section
variable {X : Cx} {e a : Expr} {es : List Expr} {ga : Env' → Cm (List D)} {pos p : Pos} {x c : Str} {n k : Nat} {φ : List D → Cm D}
theorem de_callD (F : Dfn X.prog X.w X.K X.mg X.base x n k φ) (hr : Room k X.A) (hg : Gl X x) (ha : DA X (e :: es) ga) (hn : n = es.length + 1) (hlen : ∀ ρ M ds M', ga ρ M = some (ds, M') → ds.length = es.length + 1)
    (hdb : (x == ("__debug__" : Str)) = false := by decide) (he : starEach (e :: es) X.env = (false, eval e X.env) :: starEach es X.env := by rfl) (hpl : (backTo pos (starEach es X.env)).any (·.1) = false := by rfl) : DE X (.Call (.Name x p) (e :: es) [] pos) (gCall φ ga) := by
  obtain ⟨f, fd, ps, F1, hm, hk, hb⟩ := F.ex
  exact de_call F1 hr hg hm hk hb ha hn hdb he hpl hlen
theorem de_callKD {kws : List Keyword} {ks : List Str} {is : List Nat} (F : DfnK X.prog X.w X.K X.mg X.base x ks is n k φ) (hr : Room k X.A) (hg : Gl X x) (hkw : DK X kws ga) (hlen : ∀ ρ M ds M', ga ρ M = some (ds, M') → ds.length = ks.length) (hpk : ∀ l : List D, l.length = ks.length → (pick is l).length = n)
    (hall : (backToKw pos (keywordEach kws X.env)).all (·.1.isSome) = true := by rfl) (hks : (backToKw pos (keywordEach kws X.env)).filterMap (·.1) = ks := by rfl)
    (hdb : (x == ("__debug__" : Str)) = false := by decide) (hpl : ((backTo pos (starEach [] X.env)).any (·.1) || (backToKw pos (keywordEach kws X.env)).any (·.1.isNone)) = false := by rfl) :
    DE X (.Call (.Name x p) [] kws pos) (gCallK φ is ga) := ⟨fun pins s σ H Q I ⟨β, ex, os, ρ, M, d, M', hd, fr, hgg, kk⟩ => by
  obtain ⟨f, fd, ps, F1, hm, hk, hb⟩ := F.ex
  obtain ⟨ds, M1, e1, hgg⟩ := bnd_eq hgg
  refine wpAny_Call_Name_kw (ld_glob I hg hm ?_ hdb)
  refine PySem.W.callWith_KW0 (h₀ := X.base) I.ok.mod.kin hk hall ?_ hpl
  refine thn (hkw.run pos pins s σ H (fun zs H1 => zs.length = ks.length ∧ spF X.K X.mg n φ (pick is zs) H1 Q (fun _ _ _ => False)) I (tA'.go hd fr e1 fun vs H1 β1 ex1 af1 hd1 fr1 r1 => ?_)) fun ws s2 ⟨zs, H2, I2, rz, hzl, q2⟩ => ⟨I2.kIn, ?_⟩
  · have hl := hlen _ _ _ _ e1
    exact ⟨by rw [r1.length, hl], β1, ex1, M1, pick is ds, d, M', hpk _ hl, hd1, r1.pick is, hgg, fun v H' β' ex' af hd' r => kk v H' β' ex' (af1.trans af) hd' r⟩
  · rw [hks]
    refine wpAny_call (codeAny_mono (F1.run X.A X.stack s2 H2 ⟨[], ks.zip ws⟩ (pick is ws) (pick is zs) Q (fun _ _ _ => False) hr I2.env0 (hb s2 ws (by rw [← rz.length]; exact hzl)) (vals_pick rz is) q2) fun r s' hq => ?_)
    cases r with
    | error e => exact hq.elim
    | ok fl =>
      cases fl with
      | ret u => exact I2.after hq
      | next => exact False.elim hq
      | brk => exact False.elim hq
      | cont => exact False.elim hq⟩
theorem de_makeD (F : Mkn X.prog X.w X.K X.mg X.base c n k φ) (hr : Room (k + 1) X.A) (hg : Gl X c) (ha : DA X (e :: es) ga) (hn : n = es.length + 2) (hφ : ∀ ds M d M', φ ds M = some (d, M') → d = .non) (hlen : ∀ ρ M ds M', ga ρ M = some (ds, M') → ds.length = es.length + 1)
    (hdb : (c == ("__debug__" : Str)) = false := by decide) (he : starEach (e :: es) X.env = (false, eval e X.env) :: starEach es X.env := by rfl) (hpl : (backTo pos (starEach es X.env)).any (·.1) = false := by rfl) : DE X (.Call (.Name c p) (e :: es) [] pos) (gMakeO c φ ga) := by
  obtain ⟨f, C, fd, ps, Mk', F1, hm, hb⟩ := F.ex
  exact de_makeO Mk' F1 hr hg hm hb ha hn hφ hdb he hpl hlen
theorem de_fldD {f : Str} {ga : Env' → Cm D} (F : Fldn X.K X.mg c f) (ha : DE X a ga) (hb : attributeBase a f X.env (eval a X.env) = eval a X.env := by rfl) : DE X (.Attribute a f pos) (gFld c f ga) := by
  obtain ⟨C, hC, cl, na⟩ := F.ex
  exact de_fld hC cl na ha hb
theorem ds_putD {f : Str} {ga gv : Env' → Cm D} {pos' : Pos} (F : Fldn X.K X.mg c f) (ha : DE X a ga) (hv : DE X e gv) (hs : swapsWith e (some (.Attribute a f pos')) pos.line X.env = pure false := by rfl) : DS X (.Assign [.Attribute a f pos'] e pos) (gPut c f gv ga) := by
  obtain ⟨C, hC, cl, na⟩ := F.ex
  exact ds_put hC cl na ha hv hs
end
/-! ### what a def does -/
def cutR (M : Stor) (d : D) (M' : Stor) : Option (D × Stor) := if M.length ≤ M'.length ∧ wfM (M'.take M.length) = true ∧ lcLt M.length d = true then some (d, M'.take M.length) else none
def runC (N n : Nat) (g : GS) : List D → Cm D := fun ds M => if ds.length = n then match g (env0 N ds) M with
  | some ((.rt d, _), M') => cutR M d M'
  | some ((.nx, _), M') => cutR M .non M'
  | _ => none else none
def runF (N n : Nat) (g : GS) : List D → Cm D := fun ds M => if ds.length = n then match g (env0 N ds) M with
  | some ((.rt d, _), M') => some (d, M')
  | some ((.nx, _), M') => some (.non, M')
  | _ => none else none
theorem cutR_inv {M M' M2 : Stor} {d d2 : D} (h : cutR M d M' = some (d2, M2)) : d = d2 ∧ M2.length = M.length ∧ wfM M2 = true ∧ lcLt M.length d2 = true ∧ ∃ E, M' = M2 ++ E := by
  unfold cutR at h
  split at h
  · rename_i hc
    cases h
    refine ⟨rfl, by rw [List.length_take]; omega, hc.2.1, hc.2.2, M'.drop M.length, (List.take_append_drop _ _).symm⟩
  · cases h
section
variable {P : Program} {w : World} {K : PySem.W.Frag} {mg : Str → Option Value} {base : Heap}
variable {x qual : Str} {params : Arguments} {body : List Stmt} {scope : Scope} {dvs : List V} {kws : List (Str × V)} {f : Addr} {fd : FuncData} {N ps : List Str} {k n : Nat} {g : GS}
theorem okC (F : FunD K x qual params body scope dvs kws f fd) (S : FnScope N ps scope) (hn : n = ps.length)
    (hb : ∀ (cdv : Value) (A : Around) (outer : List Env) (s : Shared) (H : Hp) (E : XK), Room k (A.deeper (envOfC qual scope s.heap.objs.size f cdv)) → DSs (cxOf CX0 P w K mg base N qual scope f cdv A outer s H E).nox body g) : FnOk P w K mg base CX0 (k + 1) f fd ps (spF K mg n (runC N.length n g)) := fn_okC F S hn hb fun ds M d M' hl _ _ h => by
  unfold runC at h
  rw [if_pos hl] at h
  split at h
  · rename_i d' ρ' M2 hg
    obtain ⟨rfl, h1, h2, h3, E, h4⟩ := cutR_inv h
    exact ⟨_, ρ', E, by rw [← h4]; exact hg, .inl rfl, h1, h2, h3⟩
  · rename_i ρ' M2 hg
    obtain ⟨rfl, h1, h2, h3, E, h4⟩ := cutR_inv h
    exact ⟨_, ρ', E, by rw [← h4]; exact hg, .inr ⟨rfl, rfl⟩, h1, h2, h3⟩
  · cases h
theorem okF (F : FunD K x qual params body scope dvs kws f fd) (S : FnScope N ps scope) (hn : n = ps.length)
    (hb : ∀ (cdv : Value) (A : Around) (outer : List Env) (s : Shared) (H : Hp) (E : XK), Room k (A.deeper (envOfC qual scope s.heap.objs.size f cdv)) → DSs (cxOf CX0 P w K mg base N qual scope f cdv A outer s H E).nox body g) : FnOk P w K mg base CX0 (k + 1) f fd ps (spF K mg n (runF N.length n g)) := Py.fn_ok F S hn hb fun ds M d M' hl h => by
  unfold runF at h
  rw [if_pos hl] at h
  split at h
  · rename_i d' ρ' M2 hg
    cases h
    exact ⟨_, ρ', hg, .inl rfl⟩
  · rename_i ρ' M2 hg
    cases h
    exact ⟨_, ρ', hg, .inr ⟨rfl, rfl⟩⟩
  · cases h
theorem FunD.bindsK0 (F : FunD K x qual params body scope [] kws f fd) {ks : List Str} {is : List Nat}
    (h : ∀ (kV doc pm : Value) (an : Option Addr) (cdv ct : Value) (ws : List Value), ws.length = ks.length → bindArgs (PySem.W.fnOf x qual params body scope .none kV doc pm an cdv ct) ⟨[], ks.zip ws⟩ = pure (ps.zip (pick is ws))) : ∀ (s : Shared) (ws : List Value), ws.length = ks.length → BindsTo s fd ⟨[], ks.zip ws⟩ (ps.zip (pick is ws)) := by
  obtain ⟨oc, od, dV, kV, doc, pm, an, cdv, ct, osl, rfl, lk, hcd, hD, hK⟩ := F.ex
  rcases hD with ⟨_, rfl⟩ | ⟨e, _⟩
  · exact fun s ws hl => .of_eq (h kV doc pm an cdv ct ws hl)
  · exact absurd rfl e
theorem runF_non {N n : Nat} {g : GS} (h : ∀ ρ M fl ρ' M', g ρ M = some ((fl, ρ'), M') → fl = .nx) : ∀ ds M d M', runF N n g ds M = some (d, M') → d = .non := fun ds M d M' q => by
  unfold runF at q
  split at q
  · split at q
    · rename_i d' ρ' M2 hg
      cases h _ _ _ _ _ hg
    · cases q; rfl
    · cases q
  · cases q
theorem nx_put {c f : Str} {gv ga : Env' → Cm D} : ∀ ρ M fl ρ' M', gPut c f gv ga ρ M = some ((fl, ρ'), M') → fl = .nx := fun ρ M fl ρ' M' h => by
  unfold gPut at h
  obtain ⟨v, M1, e1, h⟩ := bnd_eq h
  obtain ⟨d, M2, e2, h⟩ := bnd_eq h
  split at h
  · split at h
    · cases h; rfl
    · cases h
  · cases h
theorem nx_seq {g h : GS} (hg : ∀ ρ M fl ρ' M', g ρ M = some ((fl, ρ'), M') → fl = .nx) (hh : ∀ ρ M fl ρ' M', h ρ M = some ((fl, ρ'), M') → fl = .nx) : ∀ ρ M fl ρ' M', gSeq g h ρ M = some ((fl, ρ'), M') → fl = .nx := fun ρ M fl ρ' M' q => by
  unfold gSeq at q
  obtain ⟨⟨fl1, ρ1⟩, M1, e1, q⟩ := bnd_eq q
  cases hg _ _ _ _ _ e1
  exact hh _ _ _ _ _ q
end
end Py
/-! list(range(n)); small things for the walks -/
namespace Py
open PySem PySem.Spec PyProof.Rows L2
section
variable {X : Cx} {a : Expr} {g : Env' → Cm D} {p p2 pos pos2 : Pos}
theorem rgV_eq (n : Int) : rgV 0 n = (List.range n.toNat).map fun (i : Nat) => V.int (0 + (i : Int)) := by
  unfold rgV
  rw [Int.sub_zero]
theorem dl_listRg (hc : X.calm = true) (hg : Gl X "list") (hm : X.mg "list" = none) (hg2 : Gl X "range") (hm2 : X.mg "range" = none) (ha : DE X a g) (hs : starEach [a] X.env = (false, eval a X.env) :: starEach [] X.env := by rfl)
    (hs0 : starEach [.Call (.Name "range" p2) [a] [] pos2] X.env = (false, eval (.Call (.Name "range" p2) [a] [] pos2) X.env) :: starEach [] X.env := by rfl) :
    DL X (.Call (.Name "list" p) [.Call (.Name "range" p2) [a] [] pos2] [] pos) (gRg g) := (pe_listRg hc hg hm (prg_1 hg2 hm2 ha hs) hs0).imp fun σ H Q ⟨β, ex, os, ρ, M, c, M', hd, fr, hg, k⟩ => by
  obtain ⟨x, M1, e1, hg⟩ := bnd_eq hg
  refine tG.go hd fr e1 fun v1 H1 β1 ex1 af1 hd1 fr1 r => ?_
  cases x with
  | int j =>
    cases r.int_inv
    dsimp only at hg
    split at hg
    · rename_i hj
      cases hg
      have hlim : (lim : Int) = 16000000 := rfl
      refine ⟨j, rfl, ⟨by omega, by omega, by omega, by omega, by omega⟩, fun t ht => ?_⟩
      have er : rgV 0 j = ((List.range j.toNat).map fun (i : Nat) => (0 : Int) + (i : Int)).map V.int := by
        rw [rgV_eq, List.map_map]; rfl
      have ed : rgD 0 j.toNat = ((List.range j.toNat).map fun (i : Nat) => (0 : Int) + (i : Int)).map D.int := by
        unfold rgD
        rw [List.map_map]; rfl
      rw [er]
      rw [ed] at k
      obtain ⟨q1, q2, q3⟩ := own_new (H0 := H) af1.dom hd1 ht (by rw [List.length_map, List.length_map, List.length_range, sizeLine_eq]; omega) (Reps.mapInt ((List.range j.toNat).map fun (i : Nat) => (0 : Int) + (i : Int)))
      exact k _ _ _ _ (af1.trans q1) q2 q3
    · cases hg
  | _ => cases hg
end
theorem hu1 {k : Nat} {A : Around} (r : Room k A) : A.units + 1 < cLine := by have := r.units; omega
/-- a block's names, looked at -/
def blkB (N : List Str) (sc scope : Scope) (own : List (Str × Nat)) : Bool :=
  (match scope.kind with | .function => true | _ => false) && scope.names.all (fun y => decide (scope.names.lookup y.1 = some y.2)) && own.all (fun p => decide (N[p.2]? = some p.1)) &&
  scope.names.all (fun y => decide (y.2 = .free → sc.names.lookup y.1 = some .cell ∨ sc.names.lookup y.1 = some .free)) && scope.names.all (fun y => decide (y.2 = .local ∨ y.2 = .cell → y.1 ∈ own.map (·.1) ∨ y.1 ∉ N))
theorem blk_ok {N : List Str} {sc scope : Scope} {own : List (Str × Nat)} (h : blkB N sc scope own = true) : BlkOk N sc scope own := by
  unfold blkB at h
  simp only [Bool.and_eq_true] at h
  obtain ⟨⟨⟨⟨h1, h2⟩, h3⟩, h4⟩, h5⟩ := h
  refine ⟨?_, fun y hy => of_decide_eq_true (List.all_eq_true.mp h2 y hy), fun y hy => of_decide_eq_true (List.all_eq_true.mp h3 y hy), fun y hy => of_decide_eq_true (List.all_eq_true.mp h4 y hy), fun y hy => of_decide_eq_true (List.all_eq_true.mp h5 y hy)⟩
  split at h1
  · rename_i e; exact e
  · cases h1
theorem end_ok {K : PySem.W.Frag} {mg : Str → Option Value} {φ : List D → Cm D} {ns : List Int} {H : Hp} {a : Addr} {E : XK} (h : ∃ M', φ [.scr (ns.map D.int)] [] = some (.bl true, M')) (hl : ns.length ≤ 63) (hS : SqL K H a (ns.map V.int)) : spF K mg 1 φ [.ref a] H (fun v _ => v = .bl true) E := by
  obtain ⟨M', h⟩ := h
  refine ⟨[], [], [], [.scr (ns.map D.int)], .bl true, M', rfl, ⟨rfl, List.nodup_nil, fun _ h => absurd h (by simp), fun _ h => absurd h (by simp), fun i a o h _ => by simp at h⟩, .cons (.scr ?_ (by rw [List.length_map, sizeLine_eq]; omega) (Reps.mapInt ns)) .nil, h, fun v H' β' ex' _ _ r => r.bl_inv⟩
  rcases hS with hS | hS
  · exact .inl ⟨hS, by simp⟩
  · exact .inr hS
end Py
/-! what meanings come to, step by step -/
namespace Py
open PySem PySem.Spec PyProof.Rows
variable {ρ ρ1 ρ2 : Env'} {M M1 M2 M3 : Stor} {α : Type}
section
variable {ga gb gm gt g h : Env' → Cm D} {x y z d : D} {gl gl2 gq : Env' → Cm (List D)} {l m l' : List D} {gc gc2 : Env' → Cm Bool} {b c : Bool} {gs gs2 : Env' → Cm Slot} {s s2 : Slot} {i j : Nat}
theorem v_var (e : ρ[i]? = some (.dat d)) : gVar i ρ M = some (d, M) := by unfold gVar; rw [e]
theorem v_c : gC d ρ M = some (d, M) := rfl
theorem v_bin {f : D → D → Option D} (h1 : ga ρ M = some (x, M1)) (h2 : gb ρ M1 = some (y, M2)) (h3 : f x y = some z) : gBin f ga gb ρ M = some (z, M2) := by
  unfold gBin; rw [h1, bnd_some, h2, bnd_some, h3]; rfl
theorem v_un {f : D → Option D} (h1 : ga ρ M = some (x, M1)) (h3 : f x = some z) : gUn f ga ρ M = some (z, M1) := by
  unfold gUn; rw [h1, bnd_some, h3]; rfl
theorem v_tb (h1 : ga ρ M = some (.bl b, M1)) : gTb ga ρ M = some (b, M1) := by
  unfold gTb; rw [h1]; rfl
theorem v_and (h1 : gc ρ M = some (b, M1)) (h2 : b = true → gc2 ρ M1 = some (c, M2)) (h3 : b = false → M1 = M2) : gAnd gc gc2 ρ M = some (b && c, M2) := by
  unfold gAnd; rw [h1, bnd_some]
  cases b with
  | true => rw [if_pos rfl, h2 rfl]; rfl
  | false => rw [if_neg (by decide), h3 rfl]; rfl
theorem v_or (h1 : gc ρ M = some (b, M1)) (h2 : b = false → gc2 ρ M1 = some (c, M2)) (h3 : b = true → M1 = M2) : gOr gc gc2 ρ M = some (b || c, M2) := by
  unfold gOr; rw [h1, bnd_some]
  cases b with
  | true => rw [if_pos rfl, h3 rfl]; rfl
  | false => rw [if_neg (by decide), h2 rfl]; rfl
theorem v_not (h1 : gc ρ M = some (b, M1)) : gNot gc ρ M = some (!b, M1) := by unfold gNot; rw [h1]; rfl
theorem v_andV (h1 : ga ρ M = some (.bl b, M1)) (h2 : b = true → gb ρ M1 = some (.bl c, M2)) (h3 : b = false → M1 = M2) : gAndV ga gb ρ M = some (.bl (b && c), M2) := by
  unfold gAndV; rw [h1, bnd_some]
  cases b with
  | true => exact h2 rfl
  | false => rw [h3 rfl]; rfl
theorem v_orV (h1 : ga ρ M = some (.bl b, M1)) (h2 : b = false → gb ρ M1 = some (.bl c, M2)) (h3 : b = true → M1 = M2) : gOrV ga gb ρ M = some (.bl (b || c), M2) := by
  unfold gOrV; rw [h1, bnd_some]
  cases b with
  | true => rw [h3 rfl]; rfl
  | false => exact h2 rfl
theorem v_notV (h1 : ga ρ M = some (.bl b, M1)) : gNotV ga ρ M = some (.bl (!b), M1) := by unfold gNotV; rw [h1]; rfl
theorem v_ifT {g h : Env' → Cm α} (h1 : gc ρ M = some (true, M1)) {r : Option (α × Stor)} (h2 : g ρ M1 = r) : gIf gc g h ρ M = r := by unfold gIf; rw [h1, bnd_some, if_pos rfl, h2]
theorem v_ifF {g h : Env' → Cm α} (h1 : gc ρ M = some (false, M1)) {r : Option (α × Stor)} (h2 : h ρ M1 = r) : gIf gc g h ρ M = r := by unfold gIf; rw [h1, bnd_some, if_neg (by decide), h2]
theorem v_fz (h1 : gl ρ M = some (l, M1)) : gFz gl ρ M = some (.lst l, M1) := by unfold gFz; rw [h1]; rfl
theorem v_tup (h1 : gl ρ M = some (l, M1)) (hl : l.length ≤ lim) : Py.gTup gl ρ M = some (.tup l, M1) := by unfold Py.gTup; rw [h1, bnd_some, if_pos hl]
theorem v_nil : Py.gNil ρ M = some ([], M) := rfl
theorem v_cons (h1 : ga ρ M = some (x, M1)) (h2 : gl ρ M1 = some (l, M2)) : Py.gCons ga gl ρ M = some (x :: l, M2) := by unfold Py.gCons; rw [h1, bnd_some, h2]; rfl
theorem v_lst (h1 : gl ρ M = some (l, M1)) (hl : l.length ≤ lim) : gLst gl ρ M = some (l, M1) := by unfold gLst; rw [h1, bnd_some, if_pos hl]
theorem v_call {φ : List D → Cm D} (h1 : gl ρ M = some (l, M1)) {r : Option (D × Stor)} (h2 : φ l M1 = r) : gCall φ gl ρ M = r := by unfold gCall; rw [h1, bnd_some, h2]
theorem v_callK {φ : List D → Cm D} {is : List Nat} (h1 : gl ρ M = some (l, M1)) {r : Option (D × Stor)} (h2 : φ (pick is l) M1 = r) : gCallK φ is gl ρ M = r := by unfold gCallK; rw [h1, bnd_some, h2]
theorem v_int {k : Int} (h1 : ga ρ M = some (.int k, M1)) : gInt ga ρ M = some (.int k, M1) := by unfold gInt; rw [h1]; rfl
theorem v_len (h1 : gl ρ M = some (l, M1)) : gLen gl ρ M = some (.int l.length, M1) := by unfold gLen; rw [h1]; rfl
theorem v_qd (h1 : ga ρ M = some (x, M1)) (h2 : seqD x = some l) : gQd ga ρ M = some (l, M1) := by unfold gQd; rw [h1, bnd_some, h2]; rfl
theorem v_ld (h1 : ga ρ M = some (x, M1)) (h2 : lstD x = some l) : gLd ga ρ M = some (l, M1) := by unfold gLd; rw [h1, bnd_some, h2]; rfl
theorem v_lt (h1 : ga ρ M = some (x, M1)) (h2 : lstT x = some l) : gLt ga ρ M = some (l, M1) := by unfold gLt; rw [h1, bnd_some, h2]; rfl
theorem v_own (e : ρ[i]? = some (.lst l)) : gOwn i ρ M = some (l, M) := by unfold gOwn; rw [e]
theorem v_tuple (h1 : gl ρ M = some (l, M1)) : gTuple gl ρ M = some (.tup l, M1) := by unfold gTuple; rw [h1]; rfl
theorem v_tupD (h1 : ga ρ M = some (x, M1)) (h2 : seqD x = some l) : gTupD ga ρ M = some (.tup l, M1) := by unfold gTupD; rw [h1, bnd_some, h2]; rfl
theorem v_ix {k : Int} (h1 : gl ρ M = some (l, M1)) (h2 : gb ρ M1 = some (.int k, M2)) (h3 : L2.atI l k = some d) : gIx gl gb ρ M = some (d, M2) := by
  unfold gIx; rw [h1, bnd_some, h2, bnd_some]; dsimp only; rw [h3]; rfl
theorem v_cat (h1 : gl ρ M = some (l, M1)) (h2 : gl2 ρ M1 = some (m, M2)) (hl : l.length + m.length ≤ lim) : gCat gl gl2 ρ M = some (l ++ m, M2) := by unfold gCat; rw [h1, bnd_some, h2, bnd_some, if_pos hl]
theorem v_sd (h1 : ga ρ M = some (d, M1)) : gSd ga ρ M = some (.dat d, M1) := by unfold gSd; rw [h1]; rfl
theorem v_sl (h1 : gl ρ M = some (l, M1)) : gSl gl ρ M = some (.lst l, M1) := by unfold gSl; rw [h1]; rfl
theorem v_newL (h1 : gl ρ M = some (l, M1)) : gNewL gl ρ M = some (.loc M1.length, M1 ++ [.lst l]) := by unfold gNewL; rw [h1]; rfl
theorem v_dget {t : List (D × D)} {k : L2.Key} (h1 : ga ρ M = some (.dct t, M1)) (h2 : gb ρ M1 = some (x, M2)) (h3 : keyD x = some k) (h4 : (t.map (·.1)).all (fun d => (keyD d).isSome) = true) (h5 : lookK t k = some d) : gDGet ga gb ρ M = some (d, M2) := by
  unfold gDGet; rw [h1, bnd_some, h2, bnd_some]; dsimp only [dctAt]; rw [h3]; dsimp only; rw [if_pos h4, h5]; rfl
theorem v_isi {n : String} {r : Bool} (h1 : ga ρ M = some (x, M1)) (h2 : isT n x = some r) : gIsi n ga ρ M = some (.bl r, M1) := by unfold gIsi; rw [h1, bnd_some, h2]; rfl
theorem v_isi2 {n n2 : String} {r r2 : Bool} (h1 : ga ρ M = some (x, M1)) (h2 : isT n x = some r) (h3 : isT n2 x = some r2) : gIsi2 n n2 ga ρ M = some (.bl (r || r2), M1) := by unfold gIsi2; rw [h1, bnd_some, h2, h3]
theorem v_in {neg : Bool} (h1 : ga ρ M = some (x, M1)) (h2 : gl ρ M1 = some (l, M2)) (hx : flatD x = true) (hl : l.all flatD = true) : gIn neg ga gl ρ M = some (.bl (if neg then !memF x l else memF x l), M2) := by unfold gIn; rw [h1, bnd_some, h2, bnd_some, hx, hl]; rfl
theorem v_fld {c f : Str} {fs : List (Str × D)} (h1 : ga ρ M = some (.obj c fs, M1)) (h2 : fs.lookup f = some d) : gFld c f ga ρ M = some (d, M1) := by
  unfold gFld; rw [h1, bnd_some]; simp [insAt, h2]
theorem v_sl1 {lo hi : Option Int} {go1 go2 : Env' → Cm (Option Int)} (h1 : gl ρ M = some (l, M1)) (h2 : go1 ρ M1 = some (lo, M2)) (h3 : go2 ρ M2 = some (hi, M3)) : gSl1 gl go1 go2 ρ M = some (cutD l lo hi, M3) := by unfold gSl1; rw [h1, bnd_some, h2, bnd_some, h3]; rfl
theorem v_on : goN ρ M = some (none, M) := rfl
theorem v_os {k : Int} (h1 : ga ρ M = some (.int k, M1)) : goS ga ρ M = some (some k, M1) := by unfold goS; rw [h1]; rfl
end
section
variable {g h : GS} {gd : Env' → Cm D} {gs gs2 : Env' → Cm Slot} {s s2 : Slot} {i j : Nat} {d : D} {gc : Env' → Cm Bool} {r : Option ((Fl × Env') × Stor)} {l : List D}
theorem s_seq (h1 : g ρ M = some ((.nx, ρ1), M1)) (h2 : h ρ1 M1 = r) : gSeq g h ρ M = r := by unfold gSeq; rw [h1, bnd_some]; exact h2
theorem s_seqR {fl : Fl} (h1 : g ρ M = some ((.rt d, ρ1), M1)) : gSeq g h ρ M = some ((.rt d, ρ1), M1) := by unfold gSeq; rw [h1, bnd_some]
theorem s_asg (hi : i < ρ.length) (h1 : gs ρ M = some (s, M1)) : gAsg i gs ρ M = some ((.nx, ρ.set i s), M1) := by unfold gAsg; rw [if_pos hi, h1]; rfl
theorem s_par (hi : i < ρ.length ∧ j < ρ.length) (h1 : gs ρ M = some (s, M1)) (h2 : gs2 ρ M1 = some (s2, M2)) : gPar i j gs gs2 ρ M = some ((.nx, (ρ.set i s).set j s2), M2) := by unfold gPar; rw [if_pos hi, h1, bnd_some, h2]; rfl
theorem s_ret (h1 : gd ρ M = some (d, M1)) : Py.gRet gd ρ M = some ((.rt d, ρ), M1) := by unfold Py.gRet; rw [h1]; rfl
theorem s_ifT (h1 : gc ρ M = some (true, M1)) (h2 : g ρ M1 = r) : gIfS gc g h ρ M = r := by unfold gIfS; rw [h1, bnd_some, if_pos rfl, h2]
theorem s_ifF (h1 : gc ρ M = some (false, M1)) (h2 : h ρ M1 = r) : gIfS gc g h ρ M = r := by unfold gIfS; rw [h1, bnd_some, if_neg (by decide), h2]
theorem s_pass : gPass ρ M = some ((.nx, ρ), M) := rfl
theorem s_drop (h1 : gd ρ M = some (d, M1)) : gDrop gd ρ M = some ((.nx, ρ), M1) := by unfold gDrop; rw [h1]; rfl
theorem s_for {src : Env' → Cm (List D)} {tg : D → Env' → Option Env'} (h1 : src ρ M = some (l, M1)) (h2 : forL tg g l ρ M1 = r) : gFor src tg g ρ M = r := by unfold gFor; rw [h1, bnd_some, h2]
theorem s_app (e : ρ[i]? = some (.lst l)) (h1 : gd ρ M = some (d, M1)) (hl : l.length ≤ lim) : gApp i gd ρ M = some ((.nx, ρ.set i (.lst (l ++ [d]))), M1) := by unfold gApp; rw [e]; show bnd _ _ = _; rw [h1, bnd_some, if_pos hl]
theorem s_retOwn (e : ρ[i]? = some (.lst l)) : ∃ ρ', gRetOwn i ρ M = some ((.rt (.lst l), ρ'), M) := by unfold gRetOwn; rw [e]; exact ⟨_, rfl⟩
theorem cut_id {M : Stor} {d : D} (h : wfM M = true) (hd : lcLt M.length d = true) : cutR M d M = some (d, M) := by
  unfold cutR
  rw [if_pos ⟨Nat.le_refl _, by rw [List.take_length]; exact h, hd⟩, List.take_length]
theorem run_ret {N n : Nat} {ds : List D} (hl : ds.length = n) (h1 : g (env0 N ds) M = some ((.rt d, ρ1), M)) (h : wfM M = true) (hd : lcLt M.length d = true) : runC N n g ds M = some (d, M) := by
  unfold runC; rw [if_pos hl, h1]; exact cut_id h hd
theorem run_retC {N n : Nat} {ds : List D} (hl : ds.length = n) (h1 : g (env0 N ds) M = some ((.rt d, ρ1), M1)) {r : Option (D × Stor)} (h : cutR M d M1 = r) : runC N n g ds M = r := by
  unfold runC; rw [if_pos hl, h1]; exact h
end
/-! ### comprehensions, loops -/
theorem lcL_map {tg : D → Env' → Option Env'} {c : Env' → Cm Bool} {e : Env' → Cm D} {ρ : Env'} {M : Stor} (g : α → D) (p : α → Bool) (f : α → D) : ∀ {l : List α}, (∀ d ∈ l, ∃ ρ1, tg (g d) ρ = some ρ1 ∧ c ρ1 M = some (p d, M) ∧ (p d = true → e ρ1 M = some (f d, M))) → lcL tg c e ρ (l.map g) M = some ((l.filter p).map f, M)
  | [], _ => rfl
  | d :: l, h => by
    obtain ⟨ρ1, h1, h2, h3⟩ := h d (List.mem_cons_self ..)
    have ih := lcL_map g p f fun d hd => h d (List.mem_cons_of_mem _ hd)
    rw [List.map_cons]
    unfold lcL
    rw [h1]
    dsimp only
    rw [h2, bnd_some]
    cases q : p d with
    | true =>
      rw [if_pos rfl, h3 q, bnd_some, ih, bnd_some, List.filter_cons_of_pos q]; rfl
    | false =>
      rw [if_neg (by decide), ih, List.filter_cons_of_neg (by rw [q]; decide)]
/-- a comprehension over a list that is at hand -/
theorem gLc_map {src : Env' → Cm (List D)} {tg : D → Env' → Option Env'} {c : Env' → Cm Bool} {e : Env' → Cm D} {vs : List Nat} {ρ : Env'} {M M0 : Stor} (g : α → D) (p : α → Bool) (f : α → D) {l : List α} (hs : src ρ M0 = some (l.map g, M)) (hl : l.length ≤ lim)
    (h : ∀ d ∈ l, ∃ ρ1, tg (g d) (wipeE ρ vs) = some ρ1 ∧ c ρ1 M = some (p d, M) ∧ (p d = true → e ρ1 M = some (f d, M))) : gLc src tg c e vs ρ M0 = some ((l.filter p).map f, M) := by
  unfold gLc
  rw [hs, bnd_some, if_pos (by rw [List.length_map]; exact hl)]
  exact lcL_map g p f h
/-- a comprehension whose items change the store, by an invariant; out i is the i-th item -/
theorem lcL_inv {tg : D → Env' → Option Env'} {e : Env' → Cm D} {ρ : Env'} (I : Nat → Stor → Prop) (R : Nat → D → Prop) : ∀ {l : List D} {k : Nat} {M : Stor}, I k M → (∀ i d M, l[i]? = some d → I (k + i) M → ∃ ρ1 y M2, tg d ρ = some ρ1 ∧ e ρ1 M = some (y, M2) ∧ R (k + i) y ∧ I (k + i + 1) M2) →
    ∃ ys M', lcL tg gYes e ρ l M = some (ys, M') ∧ I (k + l.length) M' ∧ ys.length = l.length ∧ ∀ i y, ys[i]? = some y → R (k + i) y
  | [], k, M, h0, _ => ⟨[], M, rfl, h0, rfl, fun i y h => by simp at h⟩
  | d :: l, k, M, h0, h => by
    obtain ⟨ρ1, y, M2, h1, h2, h3, h4⟩ := h 0 d M rfl h0
    obtain ⟨ys, M', h5, h6, h7, h8⟩ := lcL_inv I R (l := l) (k := k + 1) h4 fun i d M hd hi => by
      have := h (i + 1) d M hd (by rw [show k + (i + 1) = k + 1 + i by omega]; exact hi)
      rw [show k + (i + 1) = k + 1 + i by omega] at this
      exact this
    refine ⟨y :: ys, M', ?_, by rw [List.length_cons, show k + (l.length + 1) = k + 1 + l.length by omega]; exact h6, by rw [List.length_cons, List.length_cons, h7], fun i z hz => ?_⟩
    · unfold lcL
      rw [h1]
      dsimp only
      show bnd (some (true, M)) _ = _
      rw [bnd_some, if_pos rfl, h2, bnd_some, h5]
      rfl
    · cases i with
      | zero => cases hz; exact h3
      | succ i =>
        have := h8 i z (by simpa using hz)
        rw [show k + (i + 1) = k + 1 + i by omega]
        exact this
/-- a loop that goes on to its end -/
theorem forL_inv {tg : D → Env' → Option Env'} {body : GS} (I : Nat → Env' → Stor → Prop) : ∀ {l : List D} {k : Nat} {ρ : Env'} {M : Stor}, I k ρ M → (∀ i d ρ M, l[i]? = some d → I (k + i) ρ M → ∃ ρ1 ρ2 M2, tg d ρ = some ρ1 ∧ body ρ1 M = some ((.nx, ρ2), M2) ∧ I (k + i + 1) ρ2 M2) →
    ∃ ρ' M', forL tg body l ρ M = some ((.nx, ρ'), M') ∧ I (k + l.length) ρ' M'
  | [], k, ρ, M, h0, _ => ⟨ρ, M, rfl, h0⟩
  | d :: l, k, ρ, M, h0, h => by
    obtain ⟨ρ1, ρ2, M2, h1, h2, h3⟩ := h 0 d ρ M rfl h0
    obtain ⟨ρ', M', h4, h5⟩ := forL_inv I (l := l) (k := k + 1) h3 fun i d ρ M hd hi => by
      have := h (i + 1) d ρ M hd (by rw [show k + (i + 1) = k + 1 + i by omega]; exact hi)
      rw [show k + (i + 1) = k + 1 + i by omega] at this
      exact this
    refine ⟨ρ', M', ?_, by rw [List.length_cons, show k + (l.length + 1) = k + 1 + l.length by omega]; exact h5⟩
    unfold forL
    rw [h1]
    dsimp only
    rw [h2, bnd_some]
    exact h4
theorem forL_nx {tg : D → Env' → Option Env'} {body : GS} {d : D} {l : List D} {r : Option ((Fl × Env') × Stor)} (h1 : tg d ρ = some ρ1) (h2 : body ρ1 M = some ((.nx, ρ2), M2)) (h3 : forL tg body l ρ2 M2 = r) : forL tg body (d :: l) ρ M = r := by
  unfold forL; rw [h1]; dsimp only; rw [h2, bnd_some]; exact h3
theorem forL_rt {tg : D → Env' → Option Env'} {body : GS} {d v : D} {l : List D} (h1 : tg d ρ = some ρ1) (h2 : body ρ1 M = some ((.rt v, ρ2), M2)) : forL tg body (d :: l) ρ M = some ((.rt v, ρ2), M2) := by
  unfold forL; rw [h1]; dsimp only; rw [h2, bnd_some]
/-! ### ints -/
theorem dadd_int {a b : Int} : dAdd (.int a) (.int b) = some (.int (a + b)) := rfl
theorem dsub_int {a b : Int} : dSub (.int a) (.int b) = some (.int (a - b)) := rfl
theorem dneg_int {a : Int} : dNeg (.int a) = some (.int (-a)) := rfl
theorem dlt_int {a b : Int} : dLt (.int a) (.int b) = some (.bl (decide (a < b))) := rfl
theorem dle_int {a b : Int} : dLe (.int a) (.int b) = some (.bl (decide (a ≤ b))) := rfl
theorem dgt_int {a b : Int} : dGt (.int a) (.int b) = some (.bl (decide (b < a))) := rfl
theorem dge_int {a b : Int} : dGe (.int a) (.int b) = some (.bl (decide (b ≤ a))) := rfl
theorem dmod_int {a b : Int} (h : b ≠ 0) : dMod (.int a) (.int b) = some (.int (a.fmod b)) := by
  simp [dMod, iOp, h]
theorem dfdiv_int {a b : Int} (h : b ≠ 0) (h2 : b.natAbs < 1073741824) : dFdiv (.int a) (.int b) = some (.int (a.fdiv b)) := by
  simp [dFdiv, iOp, h, h2]
theorem dmul_int {a b : Int} (h : cMul a b = true) : dMul (.int a) (.int b) = some (.int (a * b)) := by
  simp [dMul, h]
theorem eqD_int {a b : Int} : eqD (.int a) (.int b) = decide (a = b) := by
  show (a == b) = _
  by_cases h : a = b <;> simp [h]
theorem deq_int {a b : Int} : dEq (.int a) (.int b) = some (.bl (decide (a = b))) := by
  unfold dEq
  rw [eqD_int]
  rfl
theorem dne_int {a b : Int} : dNe (.int a) (.int b) = some (.bl (!decide (a = b))) := by
  unfold dNe
  rw [eqD_int]
  rfl
end Py
namespace Onl
open PySem PySem.Spec PyProof.Rows L2
def topS (i : Nat) : Stmt := PySem.Challenge.pw_onlyundone_k65_walks_with_wipes.main.body.getD i (.Pass ⟨0, 0, 0, 0⟩)
abbrev s_unlike : Stmt := (topS 1)
def d_unlike : He.DefD := ⟨("unlike", none), "unlike", "unlike", L2.defArgs s_unlike, L2.defBody s_unlike, L2.defScope s_unlike, [], []⟩
abbrev s_lot_of_words : Stmt := (topS 2)
def d_lot_of_words : He.DefD := ⟨("lot_of_words", none), "lot_of", "lot_of", L2.defArgs s_lot_of_words, L2.defBody s_lot_of_words, L2.defScope s_lot_of_words, [], []⟩
abbrev s_is_within : Stmt := (topS 4)
def d_is_within : He.DefD := ⟨("is_within", none), "is_within", "is_within", L2.defArgs s_is_within, L2.defBody s_is_within, L2.defScope s_is_within, [], []⟩
abbrev s_with_thing : Stmt := (topS 5)
def d_with_thing : He.DefD := ⟨("with_thing", none), "with_thing", "with_thing", L2.defArgs s_with_thing, L2.defBody s_with_thing, L2.defScope s_with_thing, [], []⟩
abbrev s_without_thing : Stmt := (topS 6)
def d_without_thing : He.DefD := ⟨("without_thing", none), "without_thing", "without_thing", L2.defArgs s_without_thing, L2.defBody s_without_thing, L2.defScope s_without_thing, [], []⟩
abbrev s_Web_init : Stmt := (L2.inClass (topS 8) 0)
def d_Web_init : He.DefD := ⟨("Web", some "__init__"), "__init__", "Web.__init__", L2.defArgs s_Web_init, L2.defBody s_Web_init, L2.defScope s_Web_init, [], []⟩
abbrev s_Web_eq : Stmt := (L2.inClass (topS 8) 1)
def d_Web_eq : He.DefD := ⟨("Web", some "__eq__"), "__eq__", "Web.__eq__", L2.defArgs s_Web_eq, L2.defBody s_Web_eq, L2.defScope s_Web_eq, [], []⟩
abbrev s_lot_of : Stmt := (topS 10)
def d_lot_of : He.DefD := ⟨("lot_of", none), "lot_of", "lot_of", L2.defArgs s_lot_of, L2.defBody s_lot_of, L2.defScope s_lot_of, [], []⟩
abbrev s_joined : Stmt := (topS 12)
def d_joined : He.DefD := ⟨("joined", none), "joined", "joined", L2.defArgs s_joined, L2.defBody s_joined, L2.defScope s_joined, [], []⟩
abbrev s_less_one : Stmt := (topS 13)
def d_less_one : He.DefD := ⟨("less_one", none), "less_one", "less_one", L2.defArgs s_less_one, L2.defBody s_less_one, L2.defScope s_less_one, [], []⟩
abbrev s_is_borne : Stmt := (topS 15)
def d_is_borne : He.DefD := ⟨("is_borne", none), "is_borne", "is_borne", L2.defArgs s_is_borne, L2.defBody s_is_borne, L2.defScope s_is_borne, [], []⟩
abbrev s_let_at : Stmt := (topS 16)
def d_let_at : He.DefD := ⟨("let_at", none), "let_at", "let_at", L2.defArgs s_let_at, L2.defBody s_let_at, L2.defScope s_let_at, [], []⟩
abbrev s_turned_thing : Stmt := (topS 17)
def d_turned_thing : He.DefD := ⟨("turned_thing", none), "turned_thing", "turned_thing", L2.defArgs s_turned_thing, L2.defBody s_turned_thing, L2.defScope s_turned_thing, [], []⟩
abbrev s_stepped_standings : Stmt := (topS 18)
def d_stepped_standings : He.DefD := ⟨("stepped_standings", none), "stepped", "stepped", L2.defArgs s_stepped_standings, L2.defBody s_stepped_standings, L2.defScope s_stepped_standings, [], []⟩
abbrev s_walked : Stmt := (topS 20)
def d_walked : He.DefD := ⟨("walked", none), "walked", "walked", L2.defArgs s_walked, L2.defBody s_walked, L2.defScope s_walked, [], []⟩
abbrev s_stepped : Stmt := (topS 22)
def d_stepped : He.DefD := ⟨("stepped", none), "stepped", "stepped", L2.defArgs s_stepped, L2.defBody s_stepped, L2.defScope s_stepped, [], []⟩
abbrev s_behind_event : Stmt := (topS 25)
def d_behind_event : He.DefD := ⟨("behind_event", none), "behind_event", "behind_event", L2.defArgs s_behind_event, L2.defBody s_behind_event, L2.defScope s_behind_event, [], []⟩
abbrev s_wiped_walk : Stmt := (topS 26)
def d_wiped_walk : He.DefD := ⟨("wiped_walk", none), "wiped_walk", "wiped_walk", L2.defArgs s_wiped_walk, L2.defBody s_wiped_walk, L2.defScope s_wiped_walk, [], []⟩
abbrev s_wipes_in : Stmt := (topS 27)
def d_wipes_in : He.DefD := ⟨("wipes_in", none), "wipes_in", "wipes_in", L2.defArgs s_wipes_in, L2.defBody s_wipes_in, L2.defScope s_wipes_in, [], []⟩
abbrev s_L_deal : Stmt := (topS 29)
def d_L_deal : He.DefD := ⟨("_law_deal", none), "_law_deal", "_law_deal", L2.defArgs s_L_deal, L2.defBody s_L_deal, L2.defScope s_L_deal, [], []⟩
abbrev s_L_any : Stmt := (topS 30)
def d_L_any : He.DefD := ⟨("_law_any", none), "_law_any", "_law_any", L2.defArgs s_L_any, L2.defBody s_L_any, L2.defScope s_L_any, [], []⟩
abbrev s_L_of : Stmt := (topS 31)
def d_L_of : He.DefD := ⟨("_law_of", none), "_law_of", "_law_of", L2.defArgs s_L_of, L2.defBody s_L_of, L2.defScope s_L_of, [], []⟩
abbrev s_L_mixed : Stmt := (topS 32)
def d_L_mixed : He.DefD := ⟨("_law_mixed", none), "_law_mixed", "_law_mixed", L2.defArgs s_L_mixed, L2.defBody s_L_mixed, L2.defScope s_L_mixed, [], []⟩
abbrev s_L_is_kind : Stmt := (topS 33)
def d_L_is_kind : He.DefD := ⟨("_law_is_kind", none), "_law_is_kind", "_law_is_kind", L2.defArgs s_L_is_kind, L2.defBody s_L_is_kind, L2.defScope s_L_is_kind, [], []⟩
abbrev s_L_same : Stmt := (topS 34)
def d_L_same : He.DefD := ⟨("_law_same", none), "_law_same", "_law_same", L2.defArgs s_L_same, L2.defBody s_L_same, L2.defScope s_L_same, [], []⟩
abbrev s_L_all : Stmt := (topS 35)
def d_L_all : He.DefD := ⟨("_law_all", none), "_law_all", "_law_all", L2.defArgs s_L_all, L2.defBody s_L_all, L2.defScope s_L_all, [], []⟩
abbrev s_L_bits : Stmt := (topS 36)
def d_L_bits : He.DefD := ⟨("_law_bits", none), "_law_bits", "_law_bits", L2.defArgs s_L_bits, L2.defBody s_L_bits, L2.defScope s_L_bits, [], []⟩
abbrev s_L_two : Stmt := (topS 37)
def d_L_two : He.DefD := ⟨("_law_two", none), "_law_two", "_law_two", L2.defArgs s_L_two, L2.defBody s_L_two, L2.defScope s_L_two, [], []⟩
abbrev s_L_holds : Stmt := (topS 38)
def d_L_holds : He.DefD := ⟨("_law_holds", none), "_law_holds", "_law_holds", L2.defArgs s_L_holds, L2.defBody s_L_holds, L2.defScope s_L_holds, [], []⟩
abbrev s_L_many : Stmt := (topS 39)
def d_L_many : He.DefD := ⟨("_law_many", none), "_law_many", "_law_many", L2.defArgs s_L_many, L2.defBody s_L_many, L2.defScope s_L_many, [], []⟩
abbrev s_L_frame : Stmt := (topS 40)
def d_L_frame : He.DefD := ⟨("_law_frame", none), "_law_frame", "_law_frame", L2.defArgs s_L_frame, L2.defBody s_L_frame, L2.defScope s_L_frame, [], []⟩
abbrev s_L_letters_of : Stmt := (topS 41)
def d_L_letters_of : He.DefD := ⟨("_law_letters_of", none), "_law_letters_of", "_law_letters_of", L2.defArgs s_L_letters_of, L2.defBody s_L_letters_of, L2.defScope s_L_letters_of, [], []⟩
abbrev s_L_web : Stmt := (topS 42)
def d_L_web : He.DefD := ⟨("_law_web", none), "_law_web", "_law_web", L2.defArgs s_L_web, L2.defBody s_L_web, L2.defScope s_L_web, [], []⟩
abbrev s_L_drawn_lots : Stmt := (topS 43)
def d_L_drawn_lots : He.DefD := ⟨("_law_drawn_lots", none), "_law_drawn_lots", "_law_drawn_lots", L2.defArgs s_L_drawn_lots, L2.defBody s_L_drawn_lots, L2.defScope s_L_drawn_lots, [], []⟩
abbrev s_L_drawn_frame : Stmt := (topS 44)
def d_L_drawn_frame : He.DefD := ⟨("_law_drawn_frame", none), "_law_drawn_frame", "_law_drawn_frame", L2.defArgs s_L_drawn_frame, L2.defBody s_L_drawn_frame, L2.defScope s_L_drawn_frame, [], []⟩
abbrev s_L_row_frame : Stmt := (topS 45)
def d_L_row_frame : He.DefD := ⟨("_law_row_frame", none), "_law_row_frame", "_law_row_frame", L2.defArgs s_L_row_frame, L2.defBody s_L_row_frame, L2.defScope s_L_row_frame, [], []⟩
abbrev s_L_some_frame : Stmt := (topS 46)
def d_L_some_frame : He.DefD := ⟨("_law_some_frame", none), "_law_some_frame", "_law_some_frame", L2.defArgs s_L_some_frame, L2.defBody s_L_some_frame, L2.defScope s_L_some_frame, [], []⟩
abbrev s_L_some_mask : Stmt := (topS 47)
def d_L_some_mask : He.DefD := ⟨("_law_some_mask", none), "_law_some_mask", "_law_some_mask", L2.defArgs s_L_some_mask, L2.defBody s_L_some_mask, L2.defScope s_L_some_mask, [], []⟩
abbrev s_L_borne : Stmt := (topS 48)
def d_L_borne : He.DefD := ⟨("_law_borne", none), "_law_borne", "_law_borne", L2.defArgs s_L_borne, L2.defBody s_L_borne, L2.defScope s_L_borne, [], []⟩
abbrev s_L_flip : Stmt := (topS 49)
def d_L_flip : He.DefD := ⟨("_law_flip", none), "_law_flip", "_law_flip", L2.defArgs s_L_flip, L2.defBody s_L_flip, L2.defScope s_L_flip, [], []⟩
abbrev s_L_behind_events : Stmt := (topS 50)
def d_L_behind_events : He.DefD := ⟨("_law_behind_events", none), "_law_behind_events", "_law_behind_events", L2.defArgs s_L_behind_events, L2.defBody s_L_behind_events, L2.defScope s_L_behind_events, [], []⟩
abbrev s_L_events : Stmt := (topS 51)
def d_L_events : He.DefD := ⟨("_law_events", none), "_law_events", "_law_events", L2.defArgs s_L_events, L2.defBody s_L_events, L2.defScope s_L_events, [], []⟩
abbrev s_law : Stmt := (topS 52)
def d_law : He.DefD := ⟨("law", none), "law", "law", L2.defArgs s_law, L2.defBody s_law, L2.defScope s_law, [], []⟩
def d_lot_of__lot_of_lots : He.DefD := ⟨("lot_of_lots", none), "lot_of", "lot_of", L2.defArgs s_lot_of, L2.defBody s_lot_of, L2.defScope s_lot_of, [], []⟩
def d_stepped__stepped_wipegraph : He.DefD := ⟨("stepped_wipegraph", none), "stepped", "stepped", L2.defArgs s_stepped, L2.defBody s_stepped, L2.defScope s_stepped, [], []⟩
def fn : List He.DefD := [d_unlike, d_lot_of_words, d_is_within, d_with_thing, d_without_thing, d_Web_init, d_Web_eq, d_lot_of, d_joined, d_less_one, d_is_borne, d_let_at, d_turned_thing, d_stepped_standings, d_walked, d_stepped, d_behind_event, d_wiped_walk, d_wipes_in, d_L_deal, d_L_any, d_L_of, d_L_mixed, d_L_is_kind, d_L_same, d_L_all, d_L_bits, d_L_two, d_L_holds, d_L_many, d_L_frame, d_L_letters_of, d_L_web, d_L_drawn_lots, d_L_drawn_frame, d_L_row_frame, d_L_some_frame, d_L_some_mask, d_L_borne, d_L_flip, d_L_behind_events, d_L_events, d_law, d_lot_of__lot_of_lots, d_stepped__stepped_wipegraph]
def fa0 : List He.Fa := [.glo "unlike", .glo "lot_of_words", .glo "is_within", .glo "with_thing", .glo "without_thing", .glo "lot_of", .glo "lot_of_lots", .glo "joined", .glo "less_one", .glo "is_borne", .glo "let_at", .glo "turned_thing", .glo "stepped_standings", .glo "walked", .glo "stepped", .glo "stepped_wipegraph", .glo "behind_event", .glo "wiped_walk", .glo "wipes_in", .glo "_law_deal", .glo "_law_any", .glo "_law_of", .glo "_law_mixed", .glo "_law_is_kind", .glo "_law_same", .glo "_law_all", .glo "_law_bits", .glo "_law_two", .glo "_law_holds", .glo "_law_many"]
def fa1 : List He.Fa := [.glo "_law_frame", .glo "_law_letters_of", .glo "_law_web", .glo "_law_drawn_lots", .glo "_law_drawn_frame", .glo "_law_row_frame", .glo "_law_some_frame", .glo "_law_some_mask", .glo "_law_borne", .glo "_law_flip", .glo "_law_behind_events", .glo "_law_events", .glo "law", .glo "Web", .cls "Web", .mkr "Web", .noat "Web" "names", .noat "Web" "weights", .noat "Web" "lots", .free "bool", .free "len", .free "set", .free "sorted", .free "tuple", .free "list", .free "range", .free "int", .free "abs", .free "isinstance", .free "zip"]
def fa2 : List He.Fa := [.free "str"]
def fa : List He.Fa := fa0 ++ fa1 ++ fa2
def loose0 : List PySem.Str := ["unlike", "lot_of", "lot_of_words", "is_within", "with_thing", "without_thing", "Web", "lot_of_lots", "joined", "less_one", "is_borne", "let_at", "turned_thing", "stepped", "stepped_standings", "walked", "stepped_wipegraph", "behind_event", "wiped_walk", "wipes_in", "_law_deal", "_law_any", "_law_of", "_law_mixed", "_law_is_kind", "_law_same", "_law_all", "_law_bits", "_law_two", "_law_holds"]
def loose1 : List PySem.Str := ["_law_many", "_law_frame", "_law_letters_of", "_law_web", "_law_drawn_lots", "_law_drawn_frame", "_law_row_frame", "_law_some_frame", "_law_some_mask", "_law_borne", "_law_flip", "_law_behind_events", "_law_events"]
def loose : List PySem.Str := loose0 ++ loose1
abbrev R : PySem.W.OpenRow := PySem.W.OpenLaw.row PySem.Challenge.rw_onlyundone_k65_walks_with_wipes
abbrev hk : PySem.W.Hook := He.hookD 4 fa fn
def ob (s : PySem.W.SharedT) : He.AlD := He.obsDG 4 fa fn (HandSHeadRun.getT s)
theorem ob_eq (s : PySem.W.SharedT) : ob s = hk.obs s.abs := He.obsDG_eq (HandSHeadRun.getT_eq s)
theorem run (w : World) : HandSHeadRun.RunEq R (PySem.W.view R.prog [52]) hk ob 4000 loose w := by
  intro os
  kernel_rfl
end Onl
namespace Onl
open PySem PySem.Spec PyProof.Rows L2 Py
def g_L_is_kind : GS := gSeq (gIfS (gTb (gBin (dIs false) (gVar 1) (gC .non))) (gRet (gBin (dIs false) (gVar 0) (gC .non))) (gPass)) (gSeq (gIfS (gOr (gTb (gBin (dIs false) (gVar 1) (gC (.bl true)))) (gTb (gBin (dIs false) (gVar 1) (gC (.bl false))))) (gRet (gIf (gTb (gVar 1)) (gBin (dIs false) (gVar 0) (gC (.bl true))) (gBin (dIs false) (gVar 0) (gC (.bl false))))) (gPass)) (gSeq (gIfS (gTb (gIsi "str" (gVar 1))) (gRet (gAndV (gIsi "str" (gVar 0)) (gBin dEq (gVar 0) (gVar 1)))) (gPass)) (gRet (gAndV (gIsi "int" (gVar 0)) (gAndV (gNotV (gIsi "bool" (gVar 0))) (gBin dEq (gVar 0) (gVar 1)))))))
def φ_L_is_kind : List D → Cm D := runC 2 2 g_L_is_kind
def g_L_same : GS := gSeq (gAsg 2 (gSl (gLst (gCons (gTup (gCons (gVar 0) (gCons (gVar 1) (gNil)))) (gNil))))) (gSeq (gWhile 1000000 (gTb (gBin dGt (gLen (gOwn 2)) (gC (.int 0)))) (gSeq (gPop 2 (gtT (gtCons (gtN 3) (gtCons (gtN 4) (gtNil))))) (gIfS (gTb (gIsi "tuple" (gVar 4))) (gSeq (gIfS (gOr (gNot (gTb (gIsi "tuple" (gVar 3)))) (gTb (gBin dNe (gLen (gQd (gVar 3))) (gLen (gQd (gVar 4)))))) (gRet (gC (.bl false))) (gPass)) (gAsg 2 (gSl (gCat (gOwn 2) (gListZip (gVar 3) (gVar 4)))))) (gIfS (gOr (gTb (gIsi2 "tuple" "list" (gVar 3))) (gNot (gTb (gCall φ_L_is_kind (gCons (gVar 3) (gCons (gVar 4) (gNil))))))) (gRet (gC (.bl false))) (gPass))))) (gRet (gC (.bl true))))
def φ_L_same : List D → Cm D := runC 5 2 g_L_same
def g_L_all : GS := gRet (gBin dEq (gLen (gLc (gQd (gVar 0)) (gtT (gtCons (gtN 1) (gtCons (gtN 2) (gtNil)))) (gNot (gTb (gCall φ_L_same (gCons (gVar 1) (gCons (gVar 2) (gNil)))))) (gVar 1) [1, 2])) (gC (.int 0)))
def φ_L_all : List D → Cm D := runC 3 1 g_L_all
def g_L_any : GS := gSeq (gWhile 64 (gAnd (gTb (gBin dGt (gLenM (gIxM (gVar 0) (gC (.int 0)))) (gC (.int 0)))) (gTb (gBin dEq (gIxM (gIxM (gVar 0) (gC (.int 0))) (gUn dNeg (gC (.int 1)))) (gC (.int 0))))) (gDrop (gPopM (gIxM (gVar 0) (gC (.int 0)))))) (gSeq (gIfS (gTb (gBin dGt (gLenM (gIxM (gVar 0) (gC (.int 0)))) (gC (.int 0)))) (gSeq (gAsg 2 (gSd (gInt (gPopM (gIxM (gVar 0) (gC (.int 0))))))) (gSeq (gDrop (gAppM (gIxM (gVar 0) (gC (.int 0))) (gBin dFdiv (gVar 2) (gVar 1)))) (gRet (gBin dMod (gVar 2) (gVar 1))))) (gPass)) (gSeq (gSetM (gBin dMod (gInt (gBin dAdd (gBin dMul (gIxM (gVar 0) (gC (.int 1))) (gC (.int 48271))) (gC (.int 31)))) (gC (.int 2147483647))) (gVar 0) (gC (.int 1))) (gRet (gBin dMod (gInt (gBin dFdiv (gIxM (gVar 0) (gC (.int 1))) (gC (.int 64)))) (gVar 1)))))
def φ_L_any : List D → Cm D := runC 3 2 g_L_any
def g_L_two : GS := gSeq (gAsg 1 (gSd (gC (.int 1)))) (gSeq (gFor (gRg (gVar 0)) (gtN 2) (gAsg 1 (gSd (gBin dMul (gC (.int 2)) (gVar 1))))) (gRet (gVar 1)))
def φ_L_two : List D → Cm D := runC 3 1 g_L_two
def g_L_holds : GS := gRet (gBin dEq (gLen (gLc (gQd (gVar 1)) (gtN 2) (gTb (gBin dEq (gBin dMod (gInt (gBin dFdiv (gVar 0) (gCall φ_L_two (gCons (gVar 2) (gNil))))) (gC (.int 2))) (gC (.int 0)))) (gVar 2) [2])) (gC (.int 0)))
def φ_L_holds : List D → Cm D := runC 3 2 g_L_holds
def g_L_borne : GS := gRet (gBin dGt (gLen (gLc (gQd (gIx (gQd (gDGet (gVar 0) (gC (.str "lots")))) (gVar 2))) (gtN 3) (gTb (gCall φ_L_holds (gCons (gVar 1) (gCons (gVar 3) (gNil))))) (gVar 3) [3])) (gC (.int 0)))
def φ_L_borne : List D → Cm D := runC 4 3 g_L_borne
def g_L_flip : GS := gSeq (gAsg 2 (gSd (gCall φ_L_two (gCons (gVar 1) (gNil))))) (gRet (gIf (gTb (gBin dEq (gBin dMod (gInt (gBin dFdiv (gVar 0) (gVar 2))) (gC (.int 2))) (gC (.int 1)))) (gBin dSub (gVar 0) (gVar 2)) (gBin dAdd (gVar 0) (gVar 2))))
def φ_L_flip : List D → Cm D := runC 3 2 g_L_flip
def g_L_behind_events : GS := gSeq (gAsg 3 (gSl (gLst (gCons (gVar 1) (gNil))))) (gSeq (gFor (gQd (gVar 2)) (gtN 4) (gSeq (gAsg 5 (gSd (gIf (gTb (gBin dGe (gVar 4) (gC (.int 0)))) (gVar 4) (gBin dSub (gBin dSub (gC (.int 0)) (gC (.int 1))) (gVar 4))))) (gSeq (gAsg 6 (gSd (gBin dEq (gBin dMod (gInt (gBin dFdiv (gIx (gOwn 3) (gUn dNeg (gC (.int 1)))) (gCall φ_L_two (gCons (gVar 5) (gNil))))) (gC (.int 2))) (gC (.int 1))))) (gSeq (gIfS (gOr (gAnd (gTb (gBin dLt (gVar 4) (gC (.int 0)))) (gNot (gTb (gVar 6)))) (gAnd (gTb (gBin dGe (gVar 4) (gC (.int 0)))) (gNot (gTb (gCall φ_L_borne (gCons (gVar 0) (gCons (gIx (gOwn 3) (gUn dNeg (gC (.int 1)))) (gCons (gVar 5) (gNil))))))))) (gRet (gC .non)) (gPass)) (gApp 3 (gCall φ_L_flip (gCons (gIx (gOwn 3) (gUn dNeg (gC (.int 1)))) (gCons (gVar 5) (gNil))))))))) (gRetOwn 3))
def φ_L_behind_events : List D → Cm D := runC 7 3 g_L_behind_events
def g_L_bits : GS := gRet (gTuple (gLc (gRg (gC (.int 12))) (gtN 1) (gTb (gBin dEq (gBin dMod (gInt (gBin dFdiv (gVar 0) (gCall φ_L_two (gCons (gVar 1) (gNil))))) (gC (.int 2))) (gC (.int 1)))) (gVar 1) [1]))
def φ_L_bits : List D → Cm D := runC 2 1 g_L_bits
def g_L_deal : GS := gSeq (gAsg 2 (gSd (gBin dMul (gBin dMul (gBin dMul (gBin dMul (gBin dMul (gBin dPow (gC (.int 10)) (gC (.int 64))) (gBin dPow (gC (.int 10)) (gC (.int 64)))) (gBin dPow (gC (.int 10)) (gC (.int 64)))) (gBin dPow (gC (.int 10)) (gC (.int 64)))) (gBin dPow (gC (.int 10)) (gC (.int 64)))) (gBin dPow (gC (.int 10)) (gC (.int 64)))))) (gSeq (gPar 4 5 (gSd (gFz (gLc (gSl1 (gLd (gVar 0)) (goN) (goS (gC (.int 63)))) (gtN 3) (gYes) (gBin dMod (gInt (gAbs (gInt (gVar 3)))) (gVar 2)) [3]))) (gSd (gBin dAdd (gC (.int 70001)) (gBin dMul (gC (.int 7919)) (gVar 1))))) (gSeq (gFor (gQd (gVar 4)) (gtN 3) (gAsg 5 (gSd (gBin dMod (gInt (gBin dAdd (gBin dAdd (gBin dMul (gVar 5) (gC (.int 69621))) (gBin dMod (gInt (gVar 3)) (gC (.int 2147483563)))) (gC (.int 23)))) (gC (.int 2147483647)))))) (gRet (gNewL (gLst (gCons (gNewL (gRev (gLc (gQd (gVar 4)) (gtN 3) (gTb (gBin dGe (gVar 3) (gBin dPow (gC (.int 10)) (gC (.int 18))))) (gVar 3) [3]))) (gCons (gVar 5) (gNil))))))))
def φ_L_deal : List D → Cm D := runF 6 2 g_L_deal
def g_L_many : GS := gRet (gLen (gQd (gDGet (gVar 0) (gC (.str "weights")))))
def φ_L_many : List D → Cm D := runC 1 1 g_L_many
def g_L_of : GS := gRet (gIx (gQd (gVar 1)) (gCall φ_L_any (gCons (gVar 0) (gCons (gLen (gQd (gVar 1))) (gNil)))))
def φ_L_of : List D → Cm D := runC 2 2 g_L_of
def g_L_events : GS := gSeq (gAsg 4 (gSl (gLst (gNil)))) (gSeq (gFor (gRg (gVar 3)) (gtN 5) (gSeq (gAsg 6 (gSd (gFz (gLc (gRg (gCall φ_L_many (gCons (gVar 1) (gNil)))) (gtN 7) (gTb (gCall φ_L_borne (gCons (gVar 1) (gCons (gVar 2) (gCons (gVar 7) (gNil)))))) (gVar 7) [7])))) (gSeq (gAsg 6 (gSd (gFz (gCat (gLt (gBin dAdd (gVar 6) (gVar 6))) (gLc (gQd (gCall φ_L_bits (gCons (gVar 2) (gNil)))) (gtN 7) (gYes) (gBin dSub (gBin dSub (gC (.int 0)) (gC (.int 1))) (gVar 7)) [7]))))) (gSeq (gApp 4 (gCall φ_L_of (gCons (gVar 0) (gCons (gVar 6) (gNil))))) (gAsg 2 (gSd (gIx (gQd (gCall φ_L_behind_events (gCons (gVar 1) (gCons (gVar 2) (gCons (gFz (gSl1 (gOwn 4) (goS (gUn dNeg (gC (.int 1)))) (goN))) (gNil)))))) (gUn dNeg (gC (.int 1)))))))))) (gRet (gTuple (gOwn 4))))
def φ_L_events : List D → Cm D := runC 8 4 g_L_events
def g_L_frame : GS := gRet (gFzM (gDisp ((gC (.str "weights"), gFz (gQd (gVar 0))) :: (gC (.str "lots"), gFz (gLc (gQd (gVar 1)) (gtN 2) (gYes) (gFz (gSortT (gLd (gVar 2)))) [2])) :: [])))
def φ_L_frame : List D → Cm D := runC 3 2 g_L_frame
def g_L_row_frame : GS := gRet (gCall φ_L_frame (gCons (gVar 0) (gCons (gFz (gLc (gRg (gLen (gQd (gVar 0)))) (gtN 1) (gYes) (gFz (gLst (gCons (gIf (gTb (gBin dGt (gVar 1) (gC (.int 0)))) (gTup (gCons (gBin dSub (gVar 1) (gC (.int 1))) (gNil))) (gTup (gNil))) (gNil)))) [1])) (gNil))))
def φ_L_row_frame : List D → Cm D := runC 2 1 g_L_row_frame
def g_L_mixed : GS := gSeq (gPar 3 4 (gSd (gNewL (gQd (gVar 1)))) (gSl (gLst (gNil)))) (gSeq (gFor (gRg (gLen (gQd (gVar 1)))) (gtN 2) (gApp 4 (gPopAtM (gVar 3) (gCall φ_L_any (gCons (gVar 0) (gCons (gLenM (gVar 3)) (gNil))))))) (gRetOwn 4))
def φ_L_mixed : List D → Cm D := runC 5 2 g_L_mixed
def g_L_drawn_lots : GS := gSeq (gIfS (gOr (gTb (gBin dEq (gVar 1) (gC (.int 0)))) (gTb (gBin dEq (gCall φ_L_any (gCons (gVar 0) (gCons (gC (.int 4)) (gNil)))) (gC (.int 0))))) (gRet (gFz (gLst (gCons (gTup (gNil)) (gNil))))) (gPass)) (gSeq (gAsg 2 (gSd (gFz (gLst (gNil))))) (gSeq (gFor (gRg (gBin dAdd (gC (.int 1)) (gCall φ_L_any (gCons (gVar 0) (gCons (gC (.int 2)) (gNil)))))) (gtN 3) (gSeq (gAsg 4 (gSd (gTuple (gSortI (gSl1 (gLd (gCall φ_L_mixed (gCons (gVar 0) (gCons (gFz (gRg (gVar 1))) (gNil))))) (goN) (goS (gBin dAdd (gC (.int 1)) (gCall φ_L_any (gCons (gVar 0) (gCons (gC (.int 2)) (gNil))))))))))) (gSeq (gAsg 5 (gSd (gFz (gLc (gQd (gVar 2)) (gtN 6) (gOr (gTb (gBin dEq (gLen (gLc (gQd (gVar 6)) (gtN 7) (gTb (gIn true (gVar 7) (gQd (gVar 4)))) (gVar 7) [7])) (gC (.int 0)))) (gTb (gBin dEq (gLen (gLc (gQd (gVar 4)) (gtN 7) (gTb (gIn true (gVar 7) (gQd (gVar 6)))) (gVar 7) [7])) (gC (.int 0))))) (gVar 6) [6])))) (gAsg 2 (gSd (gFz (gCat (gLt (gVar 2)) (gIf (gTb (gBin dEq (gLen (gQd (gVar 5))) (gC (.int 0)))) (gLst (gCons (gVar 4) (gNil))) (gLst (gNil)))))))))) (gRet (gVar 2))))
def φ_L_drawn_lots : List D → Cm D := runC 8 2 g_L_drawn_lots
def g_L_drawn_frame : GS := gSeq (gAsg 2 (gSd (gBin dAdd (gC (.int 3)) (gCall φ_L_any (gCons (gVar 0) (gCons (gBin dSub (gVar 1) (gC (.int 2))) (gNil))))))) (gSeq (gAsg 3 (gSd (gFz (gLc (gRg (gVar 2)) (gtN 4) (gYes) (gCall φ_L_of (gCons (gVar 0) (gCons (gFz (gLst (gCons (gC (.int 1)) (gCons (gC (.int 1)) (gCons (gC (.int 1)) (gCons (gC (.int 2)) (gCons (gC (.int 3)) (gCons (gC (.int 5)) (gNil))))))))) (gNil)))) [4])))) (gRet (gCall φ_L_frame (gCons (gIf (gTb (gBin dEq (gCall φ_L_any (gCons (gVar 0) (gCons (gC (.int 2)) (gNil)))) (gC (.int 0)))) (gVar 3) (gBin dMul (gFz (gLst (gCons (gC (.int 1)) (gNil)))) (gVar 2))) (gCons (gFz (gLc (gRg (gVar 2)) (gtN 4) (gYes) (gCall φ_L_drawn_lots (gCons (gVar 0) (gCons (gVar 4) (gNil)))) [4])) (gNil))))))
def φ_L_drawn_frame : List D → Cm D := runC 5 2 g_L_drawn_frame
def g_L_some_frame : GS := gSeq (gIfS (gTb (gBin dGt (gCall φ_L_any (gCons (gVar 0) (gCons (gC (.int 3)) (gNil)))) (gC (.int 0)))) (gRet (gCall φ_L_drawn_frame (gCons (gVar 0) (gCons (gVar 1) (gNil))))) (gPass)) (gRet (gCall φ_L_row_frame (gCons (gFz (gLc (gRg (gBin dAdd (gC (.int 3)) (gCall φ_L_any (gCons (gVar 0) (gCons (gBin dSub (gVar 1) (gC (.int 2))) (gNil)))))) (gtN 2) (gYes) (gCall φ_L_of (gCons (gVar 0) (gCons (gFz (gLst (gCons (gC (.int 1)) (gCons (gC (.int 1)) (gCons (gC (.int 2)) (gNil)))))) (gNil)))) [2])) (gNil))))
def φ_L_some_frame : List D → Cm D := runC 3 2 g_L_some_frame
def g_L_some_mask : GS := gRet (gCall φ_L_any (gCons (gVar 0) (gCons (gCall φ_L_two (gCons (gCall φ_L_many (gCons (gVar 1) (gNil))) (gNil))) (gNil))))
def φ_L_some_mask : List D → Cm D := runC 2 2 g_L_some_mask
def g_L_letters_of : GS := gRet (gFz (gLc (gRg (gCall φ_L_many (gCons (gVar 0) (gNil)))) (gtN 1) (gYes) (gBin dAdd (gC (.str "q")) (gBin dIxS (gC (.str "abcdefghijkl")) (gVar 1))) [1]))
def φ_L_letters_of : List D → Cm D := runC 2 1 g_L_letters_of
def g_Web_init : GS := gSeq (gPut "Web" "names" (gVar 1) (gVar 0)) (gSeq (gPut "Web" "weights" (gVar 2) (gVar 0)) (gPut "Web" "lots" (gVar 3) (gVar 0)))
def φ_Web_init : List D → Cm D := runF 4 4 g_Web_init
theorem φ_Web_init_non : ∀ ds M d M', φ_Web_init ds M = some (d, M') → d = .non := runF_non (nx_seq nx_put (nx_seq nx_put (nx_put)))
def g_L_web : GS := gRet (gMakeO "Web" φ_Web_init (gCons (gTupD (gCall φ_L_letters_of (gCons (gVar 0) (gNil)))) (gCons (gTupD (gDGet (gVar 0) (gC (.str "weights")))) (gCons (gTuple (gLc (gQd (gDGet (gVar 0) (gC (.str "lots")))) (gtN 1) (gYes) (gTupD (gVar 1)) [1])) (gNil)))))
def φ_L_web : List D → Cm D := runC 2 1 g_L_web
def g_is_within : GS := gRet (gBin dEq (gFz (gLc (gQd (gVar 0)) (gtN 2) (gTb (gIn true (gVar 2) (gQd (gVar 1)))) (gVar 2) [2])) (gFz (gLst (gNil))))
def φ_is_within : List D → Cm D := runC 3 2 g_is_within
def g_is_borne : GS := gRet (gBin dNe (gFz (gLc (gQd (gIx (gQd (gFld "Web" "lots" (gVar 0))) (gVar 2))) (gtN 3) (gTb (gCall φ_is_within (gCons (gVar 3) (gCons (gVar 1) (gNil))))) (gVar 3) [3])) (gFz (gLst (gNil))))
def φ_is_borne : List D → Cm D := runC 4 3 g_is_borne
def g_unlike : GS := gRet (gFz (gKeysL (gDc (gQd (gVar 0)) (gtN 1) gYes (gVar 1) (gC (.bl true)) [1])))
def φ_unlike : List D → Cm D := runC 2 1 g_unlike
def g_lot_of_words : GS := gRet (gTuple (gSortI (gLd (gCall φ_unlike (gCons (gVar 0) (gNil))))))
def φ_lot_of_words : List D → Cm D := runC 1 1 g_lot_of_words
def g_with_thing : GS := gRet (gCall φ_lot_of_words (gCons (gBin dAdd (gVar 0) (gTup (gCons (gVar 1) (gNil)))) (gNil)))
def φ_with_thing : List D → Cm D := runC 2 2 g_with_thing
def g_without_thing : GS := gRet (gTuple (gLc (gQd (gVar 0)) (gtN 2) (gTb (gBin dNe (gVar 2) (gVar 1))) (gVar 2) [2]))
def φ_without_thing : List D → Cm D := runC 3 2 g_without_thing
def g_turned_thing : GS := gRet (gIf (gTb (gIn false (gVar 1) (gQd (gVar 0)))) (gCall φ_without_thing (gCons (gVar 0) (gCons (gVar 1) (gNil)))) (gCall φ_with_thing (gCons (gVar 0) (gCons (gVar 1) (gNil)))))
def φ_turned_thing : List D → Cm D := runC 2 2 g_turned_thing
def g_stepped_standings : GS := gRet (gIf (gTb (gCall φ_is_borne (gCons (gVar 0) (gCons (gVar 1) (gCons (gVar 2) (gNil)))))) (gCall φ_turned_thing (gCons (gVar 1) (gCons (gVar 2) (gNil)))) (gC .non))
def φ_stepped_standings : List D → Cm D := runC 3 3 g_stepped_standings
def g_walked : GS := gSeq (gAsg 3 (gSd (gTupD (gVar 1)))) (gSeq (gAsg 4 (gSl (gLst (gCons (gVar 3) (gNil))))) (gSeq (gFor (gQd (gVar 2)) (gtN 5) (gSeq (gAsg 3 (gSd (gCall φ_stepped_standings (gCons (gVar 0) (gCons (gVar 3) (gCons (gVar 5) (gNil))))))) (gSeq (gIfS (gTb (gBin (dIs false) (gVar 3) (gC .non))) (gRet (gC .non)) (gPass)) (gApp 4 (gVar 3))))) (gRet (gTuple (gOwn 4)))))
def φ_walked : List D → Cm D := runC 6 3 g_walked
def g_less_one : GS := gRet (gTuple (gLc (gQd (gVar 0)) (gtN 2) (gTb (gBin dNe (gVar 2) (gVar 1))) (gVar 2) [2]))
def φ_less_one : List D → Cm D := runC 3 2 g_less_one
def g_let_at : GS := gRet (gTuple (gLc (gRg (gLen (gQd (gFld "Web" "names" (gVar 0))))) (gtN 2) (gTb (gCall φ_is_borne (gCons (gVar 0) (gCons (gVar 1) (gCons (gVar 2) (gNil)))))) (gVar 2) [2]))
def φ_let_at : List D → Cm D := runC 3 2 g_let_at
def g_lot_of : GS := gRet (gTuple (gSortSet (gLd (gVar 0))))
def φ_lot_of : List D → Cm D := runC 1 1 g_lot_of
def g_joined : GS := gRet (gCall φ_lot_of (gCons (gFz (gCat (gQd (gVar 0)) (gQd (gVar 1)))) (gNil)))
def φ_joined : List D → Cm D := runC 2 2 g_joined
def g_stepped : GS := gRet (gIf (gTb (gIn false (gVar 1) (gQd (gVar 0)))) (gCall φ_less_one (gCons (gVar 0) (gCons (gVar 1) (gNil)))) (gCall φ_joined (gCons (gVar 0) (gCons (gTup (gCons (gVar 1) (gNil))) (gNil)))))
def φ_stepped : List D → Cm D := runC 2 2 g_stepped
def g_behind_event : GS := gSeq (gIfS (gTb (gBin dLt (gVar 2) (gC (.int 0)))) (gSeq (gAsg 3 (gSd (gBin dSub (gUn dNeg (gC (.int 1))) (gVar 2)))) (gRet (gIf (gTb (gIn false (gVar 3) (gQd (gVar 1)))) (gCall φ_less_one (gCons (gVar 1) (gCons (gVar 3) (gNil)))) (gC .non)))) (gPass)) (gRet (gIf (gTb (gIn false (gVar 2) (gQd (gCall φ_let_at (gCons (gVar 0) (gCons (gVar 1) (gNil))))))) (gCall φ_stepped (gCons (gVar 1) (gCons (gVar 2) (gNil)))) (gC .non)))
def φ_behind_event : List D → Cm D := runC 4 3 g_behind_event
def g_wiped_walk : GS := gSeq (gAsg 3 (gSl (gLst (gCons (gTupD (gVar 1)) (gNil))))) (gSeq (gFor (gQd (gVar 2)) (gtN 4) (gSeq (gAsg 5 (gSd (gCall φ_behind_event (gCons (gVar 0) (gCons (gIx (gOwn 3) (gUn dNeg (gC (.int 1)))) (gCons (gVar 4) (gNil))))))) (gSeq (gIfS (gTb (gBin (dIs false) (gVar 5) (gC .non))) (gRet (gC .non)) (gPass)) (gApp 3 (gVar 5))))) (gRet (gTuple (gOwn 3))))
def φ_wiped_walk : List D → Cm D := runC 6 3 g_wiped_walk
def g_wipes_in : GS := gRet (gLen (gLc (gQd (gVar 0)) (gtN 1) (gTb (gBin dLt (gVar 1) (gC (.int 0)))) (gVar 1) [1]))
def φ_wipes_in : List D → Cm D := runC 2 1 g_wipes_in
def g_law : GS := gSeq (gPar 4 3 (gSd (gCall φ_L_deal (gCons (gVar 0) (gCons (gC (.int 65)) (gNil))))) (gSl (gLst (gNil)))) (gSeq (gFor (gRg (gC (.int 7))) (gtN 1) (gSeq (gAsg 5 (gSd (gCall φ_L_some_frame (gCons (gVar 4) (gCons (gC (.int 6)) (gNil)))))) (gSeq (gPar 2 11 (gSd (gCall φ_L_web (gCons (gVar 5) (gNil)))) (gSd (gCall φ_L_some_mask (gCons (gVar 4) (gCons (gVar 5) (gNil)))))) (gSeq (gAsg 6 (gSd (gCall φ_L_events (gCons (gVar 4) (gCons (gVar 5) (gCons (gVar 11) (gCons (gCall φ_L_any (gCons (gVar 4) (gCons (gC (.int 25)) (gNil)))) (gNil)))))))) (gSeq (gAsg 7 (gSd (gTuple (gLc (gQd (gCall φ_L_behind_events (gCons (gVar 5) (gCons (gVar 11) (gCons (gVar 6) (gNil)))))) (gtN 16) (gYes) (gCall φ_L_bits (gCons (gVar 16) (gNil))) [16])))) (gSeq (gAsg 8 (gSd (gIf (gTb (gBin dGt (gVar 1) (gC (.int 0)))) (gCall φ_wiped_walk (gCons (gVar 2) (gCons (gCall φ_L_bits (gCons (gVar 11) (gNil))) (gCons (gVar 6) (gNil))))) (gCallK φ_wiped_walk [2, 1, 0] (gCons (gVar 6) (gCons (gCall φ_L_bits (gCons (gVar 11) (gNil))) (gCons (gVar 2) (gNil)))))))) (gSeq (gAsg 3 (gSl (gCat (gOwn 3) (gLst (gCons (gTup (gCons (gVar 8) (gCons (gVar 7) (gNil)))) (gNil)))))) (gSeq (gAsg 3 (gSl (gCat (gOwn 3) (gLst (gCons (gTup (gCons (gIf (gTb (gBin dGt (gVar 1) (gC (.int 0)))) (gCall φ_wipes_in (gCons (gVar 6) (gNil))) (gCallK φ_wipes_in [0] (gCons (gVar 6) (gNil)))) (gCons (gLen (gLc (gQd (gVar 6)) (gtN 16) (gTb (gBin dLt (gVar 16) (gC (.int 0)))) (gVar 16) [16])) (gNil)))) (gNil)))))) (gSeq (gFor (gRg (gC (.int 6))) (gtN 9) (gSeq (gPar 14 15 (gSd (gCall φ_L_any (gCons (gVar 4) (gCons (gBin dAdd (gLen (gQd (gVar 6))) (gC (.int 1))) (gNil))))) (gSd (gBin dSub (gCall φ_L_any (gCons (gVar 4) (gCons (gBin dMul (gC (.int 2)) (gCall φ_L_many (gCons (gVar 5) (gNil)))) (gNil)))) (gCall φ_L_many (gCons (gVar 5) (gNil)))))) (gSeq (gAsg 12 (gSd (gBin dAdd (gBin dAdd (gSlT (gVar 6) (goN) (goS (gVar 14))) (gTup (gCons (gVar 15) (gNil)))) (gSlT (gVar 6) (goS (gVar 14)) (goN))))) (gSeq (gAsg 13 (gSd (gCall φ_L_behind_events (gCons (gVar 5) (gCons (gVar 11) (gCons (gVar 12) (gNil))))))) (gApp 3 (gTup (gCons (gCall φ_wiped_walk (gCons (gVar 2) (gCons (gCall φ_L_bits (gCons (gVar 11) (gNil))) (gCons (gVar 12) (gNil))))) (gCons (gIf (gTb (gBin (dIs false) (gVar 13) (gC .non))) (gC .non) (gTuple (gLc (gQd (gVar 13)) (gtN 16) (gYes) (gCall φ_L_bits (gCons (gVar 16) (gNil))) [16]))) (gNil))))))))) (gSeq (gAsg 10 (gSd (gTuple (gLc (gQd (gVar 6)) (gtN 16) (gTb (gBin dGe (gVar 16) (gC (.int 0)))) (gVar 16) [16])))) (gSeq (gAsg 3 (gSl (gCat (gOwn 3) (gLst (gCons (gTup (gCons (gCall φ_wiped_walk (gCons (gVar 2) (gCons (gCall φ_L_bits (gCons (gVar 11) (gNil))) (gCons (gVar 10) (gNil))))) (gCons (gCall φ_walked (gCons (gVar 2) (gCons (gCall φ_L_bits (gCons (gVar 11) (gNil))) (gCons (gVar 10) (gNil))))) (gNil)))) (gNil)))))) (gAsg 3 (gSl (gCat (gOwn 3) (gLst (gCons (gTup (gCons (gCall φ_wiped_walk (gCons (gVar 2) (gCons (gCall φ_L_bits (gCons (gVar 11) (gNil))) (gCons (gTup (gNil)) (gNil))))) (gCons (gTup (gCons (gCall φ_L_bits (gCons (gVar 11) (gNil))) (gNil))) (gNil)))) (gNil))))))))))))))))) (gSeq (gAsg 2 (gSd (gCall φ_L_web (gCons (gCall φ_L_row_frame (gCons (gFz (gLst (gCons (gC (.int 1)) (gCons (gC (.int 1)) (gCons (gC (.int 1)) (gNil)))))) (gNil))) (gNil))))) (gSeq (gAsg 3 (gSl (gCat (gOwn 3) (gLst (gCons (gTup (gCons (gCall φ_wiped_walk (gCons (gVar 2) (gCons (gTup (gNil)) (gCons (gTup (gCons (gC (.int 0)) (gCons (gC (.int 1)) (gCons (gBin dSub (gC (.int 0)) (gC (.int 1))) (gCons (gC (.int 2)) (gNil)))))) (gNil))))) (gCons (gTup (gCons (gTup (gNil)) (gCons (gTup (gCons (gC (.int 0)) (gNil))) (gCons (gTup (gCons (gC (.int 0)) (gCons (gC (.int 1)) (gNil)))) (gCons (gTup (gCons (gC (.int 1)) (gNil))) (gCons (gTup (gCons (gC (.int 1)) (gCons (gC (.int 2)) (gNil)))) (gNil))))))) (gNil)))) (gNil)))))) (gSeq (gAsg 3 (gSl (gCat (gOwn 3) (gLst (gCons (gTup (gCons (gCall φ_wiped_walk (gCons (gVar 2) (gCons (gTup (gNil)) (gCons (gTup (gCons (gBin dSub (gC (.int 0)) (gC (.int 1))) (gNil))) (gNil))))) (gCons (gC .non) (gNil)))) (gNil)))))) (gSeq (gAsg 3 (gSl (gCat (gOwn 3) (gLst (gCons (gTup (gCons (gCall φ_wiped_walk (gCons (gVar 2) (gCons (gTup (gCons (gC (.int 0)) (gCons (gC (.int 2)) (gNil)))) (gCons (gTup (gCons (gBin dSub (gC (.int 0)) (gC (.int 3))) (gCons (gC (.int 0)) (gNil)))) (gNil))))) (gCons (gTup (gCons (gTup (gCons (gC (.int 0)) (gCons (gC (.int 2)) (gNil)))) (gCons (gTup (gCons (gC (.int 0)) (gNil))) (gCons (gTup (gNil)) (gNil))))) (gNil)))) (gNil)))))) (gRet (gCall φ_L_all (gCons (gFz (gCat (gOwn 3) (gLst (gCons (gTup (gCons (gCall φ_wipes_in (gCons (gTup (gNil)) (gNil))) (gCons (gC (.int 0)) (gNil)))) (gCons (gTup (gCons (gCall φ_wipes_in (gCons (gTup (gCons (gC (.int 0)) (gCons (gBin dSub (gC (.int 0)) (gC (.int 1))) (gCons (gC (.int 2)) (gCons (gBin dSub (gC (.int 0)) (gC (.int 3))) (gNil)))))) (gNil))) (gCons (gC (.int 2)) (gNil)))) (gCons (gTup (gCons (gCall φ_wiped_walk (gCons (gVar 2) (gCons (gTup (gCons (gC (.int 2)) (gNil))) (gCons (gTup (gCons (gC (.int 2)) (gNil))) (gNil))))) (gCons (gC .non) (gNil)))) (gNil))))))) (gNil)))))))))
def φ_law : List D → Cm D := runC 17 1 g_law

end Onl
namespace Onl
open PySem PySem.Spec PyProof.Rows L2 Py
section
variable {P : Program} {w : World} {K : PySem.W.Frag} {mg : Str → Option Value} {base : Heap} {f : Addr} {fd : FuncData}
theorem sc_L_is_kind : FnScope ["told", "due"] ["told", "due"] (L2.defScope s_L_is_kind) := ⟨rfl, rfl, rfl, by decide +kernel, rfl, by decide +kernel, by decide +kernel⟩
theorem ok_L_is_kind (h_bool : mg "bool" = none) (h_int : mg "int" = none) (h_isinstance : mg "isinstance" = none) (h_str : mg "str" = none) (F : FunD K "_law_is_kind" "_law_is_kind" (L2.defArgs s_L_is_kind) (L2.defBody s_L_is_kind) (L2.defScope s_L_is_kind) [] [] f fd) : FnOk P w K mg base CX0 1 f fd ["told", "due"] (spF K mg 2 φ_L_is_kind) :=
  okC (N := ["told", "due"]) F sc_L_is_kind rfl fun cdv A outer s H E hr =>
    dss_cons (ds_if (dt_cmp op_isC ok_isD (dv 1) (de_non) rfl) (dss_one (ds_ret (de_cmp op_isC ok_isD (dv 0) (de_non) rfl))) (dss_nil))
    (dss_cons (ds_if ((dw_or (dt_cmp op_isC ok_isD (dv 1) (de_bl) rfl) (dw_or1 (dt_cmp op_isC ok_isD (dv 1) (de_bl) rfl))).pt) (dss_one (ds_ret (de_if (dt_val (dv 1)) (de_cmp op_isC ok_isD (dv 0) (de_bl) rfl) (de_cmp op_isC ok_isD (dv 0) (de_bl) rfl)))) (dss_nil))
    (dss_cons (ds_if (dt_val (de_isi (b := "str") (by decide) (by rfl) h_isinstance (by rfl) h_str (by decide +kernel) (dv 1))) (dss_one (ds_ret (de_and (de_isi (b := "str") (by decide) (by rfl) h_isinstance (by rfl) h_str (by decide +kernel) (dv 0)) (de_one (de_cmp (op_eqD hr.units) ok_eqD (dv 0) (dv 1) rfl))))) (dss_nil))
    (dss_one (ds_ret (de_and (de_isi (b := "int") (by decide) (by rfl) h_isinstance (by rfl) h_int (by decide +kernel) (dv 0)) (de_and (de_not (de_isi (b := "bool") (by decide) (by rfl) h_isinstance (by rfl) h_bool (by decide +kernel) (dv 0))) (de_one (de_cmp (op_eqD hr.units) ok_eqD (dv 0) (dv 1) rfl))))))))
theorem sc_L_same : FnScope ["told", "due", "todo", "one", "other"] ["told", "due"] (L2.defScope s_L_same) := ⟨rfl, rfl, rfl, by decide +kernel, rfl, by decide +kernel, by decide +kernel⟩
theorem ok_L_same (D__law_is_kind : Dfn P w K mg base "_law_is_kind" 2 1 φ_L_is_kind) (h_isinstance : mg "isinstance" = none) (h_len : mg "len" = none) (h_list : mg "list" = none) (h_tuple : mg "tuple" = none) (h_zip : mg "zip" = none) (F : FunD K "_law_same" "_law_same" (L2.defArgs s_L_same) (L2.defBody s_L_same) (L2.defScope s_L_same) [] [] f fd) : FnOk P w K mg base CX0 2 f fd ["told", "due"] (spF K mg 2 φ_L_same) :=
  okC (N := ["told", "due", "todo", "one", "other"]) F sc_L_same rfl fun cdv A outer s H E hr =>
    dss_cons (ds_asg (i := 2) sc_L_same.nd (by rfl) (dv_l (dl_lst (da_cons (de_tup (da_cons (dv 0) (da_cons (dv 1) (da_nil)))) (da_nil)))) (by first | exact Or.inl rfl | exact Or.inr rfl))
    (dss_cons (ds_while PassesOwn.never (dt_cmp op_gt ok_ic (de_len (by rfl) h_len (dq_own 2)) (de_int) rfl) (dss_cons (ds_pop 2 (pe_var (by rfl) (by first | exact Or.inl rfl | exact Or.inr (Or.inl rfl) | exact Or.inr (Or.inr rfl))) (dg_t (by rfl) (dgs_cons (dg_n (i := 3) sc_L_same.nd (by rfl) (by first | exact Or.inl rfl | exact Or.inr rfl)) (dgs_cons (dg_n (i := 4) sc_L_same.nd (by rfl) (by first | exact Or.inl rfl | exact Or.inr rfl)) (dgs_nil))) (gtCons_len (gtCons_len (gtNil_len)))))
    (dss_one (ds_if (dt_val (de_isi (b := "tuple") (by decide) (by rfl) h_isinstance (by rfl) h_tuple (by decide +kernel) (dv 4))) (dss_cons (ds_if ((dw_or (dt_not (dt_val (de_isi (b := "tuple") (by decide) (by rfl) h_isinstance (by rfl) h_tuple (by decide +kernel) (dv 3)))) (dw_or1 (dt_cmp (op_neD hr.units) ok_neD (de_len (by rfl) h_len (dq_d (dv 3))) (de_len (by rfl) h_len (dq_d (dv 4))) rfl))).pt) (dss_one (ds_ret (de_bl))) (dss_nil))
    (dss_one (ds_asg (i := 2) sc_L_same.nd (by rfl) (dv_l (dl_cat (dlt_own 2) (dlt_l (dl_listZip (by rfl) (by rfl) h_list (by rfl) h_zip (dv 3) (dv 4))))) (by first | exact Or.inl rfl | exact Or.inr rfl)))) (dss_one (ds_if ((dw_or (dt_val (de_isi2 (b := "tuple") (c := "list") (by decide) (by decide) (by rfl) h_isinstance (by rfl) h_tuple (by decide +kernel) (by rfl) h_list (by decide +kernel) (dv 3))) (dw_or1 (dt_not (dt_val (de_callD D__law_is_kind (hr.mono (by decide)) (by rfl) (da_cons (dv 3) (da_cons (dv 4) (da_nil))) (by rfl) (gCons_len (gCons_len (gNil_len)))))))).pt) (dss_one (ds_ret (de_bl))) (dss_nil)))))))
    (dss_one (ds_ret (de_bl))))
theorem sc_L_all : FnScope ["pairs", "told", "due"] ["pairs"] (L2.defScope s_L_all) := ⟨rfl, rfl, rfl, by decide +kernel, rfl, by decide +kernel, by decide +kernel⟩
theorem ok_L_all (D__law_same : Dfn P w K mg base "_law_same" 2 2 φ_L_same) (h_len : mg "len" = none) (F : FunD K "_law_all" "_law_all" (L2.defArgs s_L_all) (L2.defBody s_L_all) (L2.defScope s_L_all) [] [] f fd) : FnOk P w K mg base CX0 3 f fd ["pairs"] (spF K mg 1 φ_L_all) :=
  okC (N := ["pairs", "told", "due"]) F sc_L_all rfl fun cdv A outer s H E hr =>
    dss_one (ds_ret (de_cmp (op_eqD hr.units) ok_eqD (de_len (by rfl) h_len (dq_l (dl_lc (own := [("told", 1), ("due", 2)]) (by rfl) sc_L_all.nd (dp_d (dv 0)) (blk_ok (by kernel_rfl)) (fun _ _ _ _ _ => dg_t (by rfl) (dgs_cons (dg_n (i := 1) sc_L_all.nd (by rfl) (by first | exact Or.inl rfl | exact Or.inr (Or.inl rfl) | exact Or.inr rfl | exact Or.inr (Or.inr rfl))) (dgs_cons (dg_n (i := 2) sc_L_all.nd (by rfl) (by first | exact Or.inl rfl | exact Or.inr (Or.inl rfl) | exact Or.inr rfl | exact Or.inr (Or.inr rfl))) (dgs_nil))) (gtCons_len (gtCons_len (gtNil_len)))) (fun _ _ _ _ _ => dts_one (dt_not (dt_val (de_callD D__law_same (hr.mono (by decide)) (by rfl) (da_cons (dv 1) (da_cons (dv 2) (da_nil))) (by rfl) (gCons_len (gCons_len (gNil_len))))))) (fun _ _ _ _ _ => dv 1)))) (de_int) rfl))
theorem sc_L_any : FnScope ["deal", "bound", "rest"] ["deal", "bound"] (L2.defScope s_L_any) := ⟨rfl, rfl, rfl, by decide +kernel, rfl, by decide +kernel, by decide +kernel⟩
theorem ok_L_any (h_int : mg "int" = none) (h_len : mg "len" = none) (F : FunD K "_law_any" "_law_any" (L2.defArgs s_L_any) (L2.defBody s_L_any) (L2.defScope s_L_any) [] [] f fd) : FnOk P w K mg base CX0 1 f fd ["deal", "bound"] (spF K mg 2 φ_L_any) :=
  okC (N := ["deal", "bound", "rest"]) F sc_L_any rfl fun cdv A outer s H E hr =>
    dss_cons (ds_while PassesOwn.never ((dw_and (dt_cmp op_gt ok_ic (de_lenM (by rfl) h_len (de_ixM (dv 0) (de_int) (fun _ _ => rfl))) (de_int) rfl) (dw_and1 (dt_cmp (op_eqD hr.units) ok_eqD (de_ixM (de_ixM (dv 0) (de_int) (fun _ _ => rfl)) (de_neg (de_int)) (fun _ _ => rfl)) (de_int) rfl))).pt) (dss_one (ds_expr (de_popM (de_ixM (dv 0) (de_int) (fun _ _ => rfl))))))
    (dss_cons (ds_if (dt_cmp op_gt ok_ic (de_lenM (by rfl) h_len (de_ixM (dv 0) (de_int) (fun _ _ => rfl))) (de_int) rfl) (dss_cons (ds_asg (i := 2) sc_L_any.nd (by rfl) (dv_d (de_int1 (by rfl) h_int (de_popM (de_ixM (dv 0) (de_int) (fun _ _ => rfl))))) (by first | exact Or.inl rfl | exact Or.inr rfl))
    (dss_cons (ds_expr (de_appM (de_ixM (dv 0) (de_int) (fun _ _ => rfl)) (de_fdiv (dv 2) (dv 1))))
    (dss_one (ds_ret (de_mod (dv 2) (dv 1)))))) (dss_nil))
    (dss_cons (ds_setM (de_mod (de_int1 (by rfl) h_int (de_add (de_mul (de_ixM (dv 0) (de_int) (fun _ _ => rfl)) (de_int)) (de_int))) (de_int)) (dv 0) (de_int))
    (dss_one (ds_ret (de_mod (de_int1 (by rfl) h_int (de_fdiv (de_ixM (dv 0) (de_int) (fun _ _ => rfl)) (de_int))) (dv 1))))))
theorem sc_L_two : FnScope ["many", "found", "turn"] ["many"] (L2.defScope s_L_two) := ⟨rfl, rfl, rfl, by decide +kernel, rfl, by decide +kernel, by decide +kernel⟩
theorem ok_L_two (h_range : mg "range" = none) (F : FunD K "_law_two" "_law_two" (L2.defArgs s_L_two) (L2.defBody s_L_two) (L2.defScope s_L_two) [] [] f fd) : FnOk P w K mg base CX0 1 f fd ["many"] (spF K mg 1 φ_L_two) :=
  okC (N := ["many", "found", "turn"]) F sc_L_two rfl fun cdv A outer s H E hr =>
    dss_cons (ds_asg (i := 1) sc_L_two.nd (by rfl) (dv_d (de_int)) (by first | exact Or.inl rfl | exact Or.inr rfl))
    (dss_cons (ds_for PassesOwn.never (by rfl) (dp_rg (by rfl) h_range (dv 0)) (dg_n (i := 2) sc_L_two.nd (by rfl) (by first | exact Or.inl rfl | exact Or.inr rfl)) (dss_one (ds_asg (i := 1) sc_L_two.nd (by rfl) (dv_d (de_mul (de_int) (dv 1))) (by first | exact Or.inl rfl | exact Or.inr rfl))))
    (dss_one (ds_ret (dv 1))))
theorem sc_L_holds : FnScope ["mask", "lot", "thing"] ["mask", "lot"] (L2.defScope s_L_holds) := ⟨rfl, rfl, rfl, by decide +kernel, rfl, by decide +kernel, by decide +kernel⟩
theorem ok_L_holds (D__law_two : Dfn P w K mg base "_law_two" 1 1 φ_L_two) (h_int : mg "int" = none) (h_len : mg "len" = none) (F : FunD K "_law_holds" "_law_holds" (L2.defArgs s_L_holds) (L2.defBody s_L_holds) (L2.defScope s_L_holds) [] [] f fd) : FnOk P w K mg base CX0 2 f fd ["mask", "lot"] (spF K mg 2 φ_L_holds) :=
  okC (N := ["mask", "lot", "thing"]) F sc_L_holds rfl fun cdv A outer s H E hr =>
    dss_one (ds_ret (de_cmp (op_eqD hr.units) ok_eqD (de_len (by rfl) h_len (dq_l (dl_lc (own := [("thing", 2)]) (by rfl) sc_L_holds.nd (dp_d (dv 1)) (blk_ok (by kernel_rfl)) (fun _ _ _ _ _ => dg_n (i := 2) sc_L_holds.nd (by rfl) (by first | exact Or.inl rfl | exact Or.inr (Or.inl rfl) | exact Or.inr rfl | exact Or.inr (Or.inr rfl))) (fun _ _ _ _ _ => dts_one (dt_cmp (op_eqD hr.units) ok_eqD (de_mod (de_int1 (by rfl) h_int (de_fdiv (dv 0) (de_callD D__law_two (hr.mono (by decide)) (by rfl) (da_cons (dv 2) (da_nil)) (by rfl) (gCons_len (gNil_len))))) (de_int)) (de_int) rfl)) (fun _ _ _ _ _ => dv 2)))) (de_int) rfl))
theorem sc_L_borne : FnScope ["frame", "mask", "thing", "lot"] ["frame", "mask", "thing"] (L2.defScope s_L_borne) := ⟨rfl, rfl, rfl, by decide +kernel, rfl, by decide +kernel, by decide +kernel⟩
theorem ok_L_borne (D__law_holds : Dfn P w K mg base "_law_holds" 2 2 φ_L_holds) (h_len : mg "len" = none) (F : FunD K "_law_borne" "_law_borne" (L2.defArgs s_L_borne) (L2.defBody s_L_borne) (L2.defScope s_L_borne) [] [] f fd) : FnOk P w K mg base CX0 3 f fd ["frame", "mask", "thing"] (spF K mg 3 φ_L_borne) :=
  okC (N := ["frame", "mask", "thing", "lot"]) F sc_L_borne rfl fun cdv A outer s H E hr =>
    dss_one (ds_ret (de_cmp op_gt ok_ic (de_len (by rfl) h_len (dq_l (dl_lc (own := [("lot", 3)]) (by rfl) sc_L_borne.nd (dp_d (de_ixq (dq_d (de_dget (hu1 hr) (dv 0) (de_str) (fun _ _ => rfl))) (dv 2) (fun _ _ => rfl))) (blk_ok (by kernel_rfl)) (fun _ _ _ _ _ => dg_n (i := 3) sc_L_borne.nd (by rfl) (by first | exact Or.inl rfl | exact Or.inr (Or.inl rfl) | exact Or.inr rfl | exact Or.inr (Or.inr rfl))) (fun _ _ _ _ _ => dts_one (dt_val (de_callD D__law_holds (hr.mono (by decide)) (by rfl) (da_cons (dv 1) (da_cons (dv 3) (da_nil))) (by rfl) (gCons_len (gCons_len (gNil_len)))))) (fun _ _ _ _ _ => dv 3)))) (de_int) rfl))
theorem sc_L_flip : FnScope ["mask", "thing", "two"] ["mask", "thing"] (L2.defScope s_L_flip) := ⟨rfl, rfl, rfl, by decide +kernel, rfl, by decide +kernel, by decide +kernel⟩
theorem ok_L_flip (D__law_two : Dfn P w K mg base "_law_two" 1 1 φ_L_two) (h_int : mg "int" = none) (F : FunD K "_law_flip" "_law_flip" (L2.defArgs s_L_flip) (L2.defBody s_L_flip) (L2.defScope s_L_flip) [] [] f fd) : FnOk P w K mg base CX0 2 f fd ["mask", "thing"] (spF K mg 2 φ_L_flip) :=
  okC (N := ["mask", "thing", "two"]) F sc_L_flip rfl fun cdv A outer s H E hr =>
    dss_cons (ds_asg (i := 2) sc_L_flip.nd (by rfl) (dv_d (de_callD D__law_two (hr.mono (by decide)) (by rfl) (da_cons (dv 1) (da_nil)) (by rfl) (gCons_len (gNil_len)))) (by first | exact Or.inl rfl | exact Or.inr rfl))
    (dss_one (ds_ret (de_if (dt_cmp (op_eqD hr.units) ok_eqD (de_mod (de_int1 (by rfl) h_int (de_fdiv (dv 0) (dv 2))) (de_int)) (de_int) rfl) (de_sub (dv 0) (dv 2)) (de_add (dv 0) (dv 2)))))
theorem sc_L_behind_events : FnScope ["frame", "mask", "events", "found", "event", "thing", "stands"] ["frame", "mask", "events"] (L2.defScope s_L_behind_events) := ⟨rfl, rfl, rfl, by decide +kernel, rfl, by decide +kernel, by decide +kernel⟩
theorem ok_L_behind_events (D__law_borne : Dfn P w K mg base "_law_borne" 3 3 φ_L_borne) (D__law_flip : Dfn P w K mg base "_law_flip" 2 2 φ_L_flip) (D__law_two : Dfn P w K mg base "_law_two" 1 1 φ_L_two) (h_int : mg "int" = none) (F : FunD K "_law_behind_events" "_law_behind_events" (L2.defArgs s_L_behind_events) (L2.defBody s_L_behind_events) (L2.defScope s_L_behind_events) [] [] f fd) : FnOk P w K mg base CX0 4 f fd ["frame", "mask", "events"] (spF K mg 3 φ_L_behind_events) :=
  okC (N := ["frame", "mask", "events", "found", "event", "thing", "stands"]) F sc_L_behind_events rfl fun cdv A outer s H E hr =>
    dss_cons (ds_asg (i := 3) sc_L_behind_events.nd (by rfl) (dv_l (dl_lst (da_cons (dv 1) (da_nil)))) (by first | exact Or.inl rfl | exact Or.inr rfl))
    (dss_cons (ds_for PassesOwn.never (by rfl) (dp_d (dv 2)) (dg_n (i := 4) sc_L_behind_events.nd (by rfl) (by first | exact Or.inl rfl | exact Or.inr rfl)) (dss_cons (ds_asg (i := 5) sc_L_behind_events.nd (by rfl) (dv_d (de_if (dt_cmp op_ge ok_ic (dv 4) (de_int) rfl) (dv 4) (de_sub (de_sub (de_int) (de_int)) (dv 4)))) (by first | exact Or.inl rfl | exact Or.inr rfl))
    (dss_cons (ds_asg (i := 6) sc_L_behind_events.nd (by rfl) (dv_d (de_cmp (op_eqD hr.units) ok_eqD (de_mod (de_int1 (by rfl) h_int (de_fdiv (de_ixq (dq_own 3) (de_neg (de_int)) (fun _ _ => rfl)) (de_callD D__law_two (hr.mono (by decide)) (by rfl) (da_cons (dv 5) (da_nil)) (by rfl) (gCons_len (gNil_len))))) (de_int)) (de_int) rfl)) (by first | exact Or.inl rfl | exact Or.inr rfl))
    (dss_cons (ds_if ((dw_or ((dw_and (dt_cmp op_lt ok_ic (dv 4) (de_int) rfl) (dw_and1 (dt_not (dt_val (dv 6))))).pt) (dw_or1 ((dw_and (dt_cmp op_ge ok_ic (dv 4) (de_int) rfl) (dw_and1 (dt_not (dt_val (de_callD D__law_borne (hr.mono (by decide)) (by rfl) (da_cons (dv 0) (da_cons (de_ixq (dq_own 3) (de_neg (de_int)) (fun _ _ => rfl)) (da_cons (dv 5) (da_nil)))) (by rfl) (gCons_len (gCons_len (gCons_len (gNil_len))))))))).pt))).pt) (dss_one (ds_ret (de_non))) (dss_nil))
    (dss_one (ds_app 3 (pe_var (by rfl) (by first | exact Or.inl rfl | exact Or.inr (Or.inl rfl) | exact Or.inr (Or.inr rfl))) (de_callD D__law_flip (hr.mono (by decide)) (by rfl) (da_cons (de_ixq (dq_own 3) (de_neg (de_int)) (fun _ _ => rfl)) (da_cons (dv 5) (da_nil))) (by rfl) (gCons_len (gCons_len (gNil_len))))))))))
    (dss_one (ds_retOwn 3 (pe_var (by rfl) (by first | exact Or.inl rfl | exact Or.inr (Or.inl rfl) | exact Or.inr (Or.inr rfl))))))
theorem sc_L_bits : FnScope ["mask", "thing"] ["mask"] (L2.defScope s_L_bits) := ⟨rfl, rfl, rfl, by decide +kernel, rfl, by decide +kernel, by decide +kernel⟩
theorem ok_L_bits (D__law_two : Dfn P w K mg base "_law_two" 1 1 φ_L_two) (h_int : mg "int" = none) (h_range : mg "range" = none) (h_tuple : mg "tuple" = none) (F : FunD K "_law_bits" "_law_bits" (L2.defArgs s_L_bits) (L2.defBody s_L_bits) (L2.defScope s_L_bits) [] [] f fd) : FnOk P w K mg base CX0 2 f fd ["mask"] (spF K mg 1 φ_L_bits) :=
  okC (N := ["mask", "thing"]) F sc_L_bits rfl fun cdv A outer s H E hr =>
    dss_one (ds_ret (de_tuple (by rfl) h_tuple (dls_l (dl_lc (own := [("thing", 1)]) (by rfl) sc_L_bits.nd (dp_rg (by rfl) h_range (de_int)) (blk_ok (by kernel_rfl)) (fun _ _ _ _ _ => dg_n (i := 1) sc_L_bits.nd (by rfl) (by first | exact Or.inl rfl | exact Or.inr (Or.inl rfl) | exact Or.inr rfl | exact Or.inr (Or.inr rfl))) (fun _ _ _ _ _ => dts_one (dt_cmp (op_eqD hr.units) ok_eqD (de_mod (de_int1 (by rfl) h_int (de_fdiv (dv 0) (de_callD D__law_two (hr.mono (by decide)) (by rfl) (da_cons (dv 1) (da_nil)) (by rfl) (gCons_len (gNil_len))))) (de_int)) (de_int) rfl)) (fun _ _ _ _ _ => dv 1)))))
theorem sc_L_deal : FnScope ["script", "salt", "farthest", "cell", "cells", "mix"] ["script", "salt"] (L2.defScope s_L_deal) := ⟨rfl, rfl, rfl, by decide +kernel, rfl, by decide +kernel, by decide +kernel⟩
theorem ok_L_deal (h_abs : mg "abs" = none) (h_int : mg "int" = none) (F : FunD K "_law_deal" "_law_deal" (L2.defArgs s_L_deal) (L2.defBody s_L_deal) (L2.defScope s_L_deal) [] [] f fd) : FnOk P w K mg base CX0 1 f fd ["script", "salt"] (spF K mg 2 φ_L_deal) :=
  okF (N := ["script", "salt", "farthest", "cell", "cells", "mix"]) F sc_L_deal rfl fun cdv A outer s H E hr =>
    dss_cons (ds_asg (i := 2) sc_L_deal.nd (by rfl) (dv_d (de_mul (de_mul (de_mul (de_mul (de_mul (de_pow (de_int) (de_int)) (de_pow (de_int) (de_int))) (de_pow (de_int) (de_int))) (de_pow (de_int) (de_int))) (de_pow (de_int) (de_int))) (de_pow (de_int) (de_int)))) (by first | exact Or.inl rfl | exact Or.inr rfl))
    (dss_cons (ds_par (i := 4) (j := 5) (by rfl) sc_L_deal.nd (by rfl) (by rfl) (by decide) (by rfl) (by rfl) (dv_d (de_fz (dl_lc (own := [("cell", 3)]) (by rfl) sc_L_deal.nd (dp_l (dl_sl (dls_d (dv 0)) (do_n) (do_s (de_int)))) (blk_ok (by kernel_rfl)) (fun _ _ _ _ _ => dg_n (i := 3) sc_L_deal.nd (by rfl) (by first | exact Or.inl rfl | exact Or.inr (Or.inl rfl) | exact Or.inr rfl | exact Or.inr (Or.inr rfl))) (fun _ _ _ _ _ => dts_nil) (fun _ _ _ _ _ => de_mod (de_int1 (by rfl) h_int (de_abs (by rfl) h_abs (de_int1 (by rfl) h_int (dv 3)))) (dv 2))))) (dv_d (de_add (de_int) (de_mul (de_int) (dv 1)))))
    (dss_cons (ds_for PassesOwn.never (by rfl) (dp_d (dv 4)) (dg_n (i := 3) sc_L_deal.nd (by rfl) (by first | exact Or.inl rfl | exact Or.inr rfl)) (dss_one (ds_asg (i := 5) sc_L_deal.nd (by rfl) (dv_d (de_mod (de_int1 (by rfl) h_int (de_add (de_add (de_mul (dv 5) (de_int)) (de_mod (de_int1 (by rfl) h_int (dv 3)) (de_int))) (de_int))) (de_int))) (by first | exact Or.inl rfl | exact Or.inr rfl))))
    (dss_one (ds_ret (de_newL (dl_lst (da_cons (de_newL (dl_rev (dls_l (dl_lc (own := [("cell", 3)]) (by rfl) sc_L_deal.nd (dp_d (dv 4)) (blk_ok (by kernel_rfl)) (fun _ _ _ _ _ => dg_n (i := 3) sc_L_deal.nd (by rfl) (by first | exact Or.inl rfl | exact Or.inr (Or.inl rfl) | exact Or.inr rfl | exact Or.inr (Or.inr rfl))) (fun _ _ _ _ _ => dts_one (dt_cmp op_ge ok_ic (dv 3) (de_pow (de_int) (de_int)) rfl)) (fun _ _ _ _ _ => dv 3))))) (da_cons (dv 5) (da_nil)))))))))
theorem sc_L_many : FnScope ["frame"] ["frame"] (L2.defScope s_L_many) := ⟨rfl, rfl, rfl, by decide +kernel, rfl, by decide +kernel, by decide +kernel⟩
theorem ok_L_many (h_len : mg "len" = none) (F : FunD K "_law_many" "_law_many" (L2.defArgs s_L_many) (L2.defBody s_L_many) (L2.defScope s_L_many) [] [] f fd) : FnOk P w K mg base CX0 1 f fd ["frame"] (spF K mg 1 φ_L_many) :=
  okC (N := ["frame"]) F sc_L_many rfl fun cdv A outer s H E hr =>
    dss_one (ds_ret (de_len (by rfl) h_len (dq_d (de_dget (hu1 hr) (dv 0) (de_str) (fun _ _ => rfl)))))
theorem sc_L_of : FnScope ["deal", "some"] ["deal", "some"] (L2.defScope s_L_of) := ⟨rfl, rfl, rfl, by decide +kernel, rfl, by decide +kernel, by decide +kernel⟩
theorem ok_L_of (D__law_any : Dfn P w K mg base "_law_any" 2 1 φ_L_any) (h_len : mg "len" = none) (F : FunD K "_law_of" "_law_of" (L2.defArgs s_L_of) (L2.defBody s_L_of) (L2.defScope s_L_of) [] [] f fd) : FnOk P w K mg base CX0 2 f fd ["deal", "some"] (spF K mg 2 φ_L_of) :=
  okC (N := ["deal", "some"]) F sc_L_of rfl fun cdv A outer s H E hr =>
    dss_one (ds_ret (de_ixq (dq_d (dv 1)) (de_callD D__law_any (hr.mono (by decide)) (by rfl) (da_cons (dv 0) (da_cons (de_len (by rfl) h_len (dq_d (dv 1))) (da_nil))) (by rfl) (gCons_len (gCons_len (gNil_len)))) (fun _ _ => rfl)))
theorem sc_L_events : FnScope ["deal", "frame", "mask", "many", "found", "turn", "some", "thing"] ["deal", "frame", "mask", "many"] (L2.defScope s_L_events) := ⟨rfl, rfl, rfl, by decide +kernel, rfl, by decide +kernel, by decide +kernel⟩
theorem ok_L_events (D__law_behind_events : Dfn P w K mg base "_law_behind_events" 3 4 φ_L_behind_events) (D__law_bits : Dfn P w K mg base "_law_bits" 1 2 φ_L_bits) (D__law_borne : Dfn P w K mg base "_law_borne" 3 3 φ_L_borne) (D__law_many : Dfn P w K mg base "_law_many" 1 1 φ_L_many) (D__law_of : Dfn P w K mg base "_law_of" 2 2 φ_L_of) (h_range : mg "range" = none) (h_tuple : mg "tuple" = none) (F : FunD K "_law_events" "_law_events" (L2.defArgs s_L_events) (L2.defBody s_L_events) (L2.defScope s_L_events) [] [] f fd) : FnOk P w K mg base CX0 5 f fd ["deal", "frame", "mask", "many"] (spF K mg 4 φ_L_events) :=
  okC (N := ["deal", "frame", "mask", "many", "found", "turn", "some", "thing"]) F sc_L_events rfl fun cdv A outer s H E hr =>
    dss_cons (ds_asg (i := 4) sc_L_events.nd (by rfl) (dv_l (dl_lst (da_nil))) (by first | exact Or.inl rfl | exact Or.inr rfl))
    (dss_cons (ds_for PassesOwn.never (by rfl) (dp_rg (by rfl) h_range (dv 3)) (dg_n (i := 5) sc_L_events.nd (by rfl) (by first | exact Or.inl rfl | exact Or.inr rfl)) (dss_cons (ds_setLc (i := 6) (own := [("thing", 7)]) (by rfl) sc_L_events.nd (by rfl) (by rfl) (sw_true (by rfl) (by rfl) (by rfl) (by decide +kernel)) (dp_rg (by rfl) h_range (de_callD D__law_many (hr.mono (by decide)) (by rfl) (da_cons (dv 1) (da_nil)) (by rfl) (gCons_len (gNil_len)))) (blk_ok (by kernel_rfl)) (fun _ _ _ _ _ => dg_n (i := 7) sc_L_events.nd (by rfl) (by first | exact Or.inl rfl | exact Or.inr (Or.inl rfl) | exact Or.inr rfl | exact Or.inr (Or.inr rfl))) (fun _ _ _ _ _ => dts_one (dt_val (de_callD D__law_borne (hr.mono (by decide)) (by rfl) (da_cons (dv 1) (da_cons (dv 2) (da_cons (dv 7) (da_nil)))) (by rfl) (gCons_len (gCons_len (gCons_len (gNil_len))))))) (fun _ _ _ _ _ => dv 7) lq_fz)
    (dss_cons (ds_asg (i := 6) sc_L_events.nd (by rfl) (dv_d (de_fz (dl_cat (dlt_d (de_add (dv 6) (dv 6))) (dlt_l (dl_lc (own := [("thing", 7)]) (by rfl) sc_L_events.nd (dp_d (de_callD D__law_bits (hr.mono (by decide)) (by rfl) (da_cons (dv 2) (da_nil)) (by rfl) (gCons_len (gNil_len)))) (blk_ok (by kernel_rfl)) (fun _ _ _ _ _ => dg_n (i := 7) sc_L_events.nd (by rfl) (by first | exact Or.inl rfl | exact Or.inr (Or.inl rfl) | exact Or.inr rfl | exact Or.inr (Or.inr rfl))) (fun _ _ _ _ _ => dts_nil) (fun _ _ _ _ _ => de_sub (de_sub (de_int) (de_int)) (dv 7))))))) (by first | exact Or.inl rfl | exact Or.inr rfl))
    (dss_cons (ds_app 4 (pe_var (by rfl) (by first | exact Or.inl rfl | exact Or.inr (Or.inl rfl) | exact Or.inr (Or.inr rfl))) (de_callD D__law_of (hr.mono (by decide)) (by rfl) (da_cons (dv 0) (da_cons (dv 6) (da_nil))) (by rfl) (gCons_len (gCons_len (gNil_len)))))
    (dss_one (ds_asg (i := 2) sc_L_events.nd (by rfl) (dv_d (de_ixq (dq_d (de_callD D__law_behind_events (hr.mono (by decide)) (by rfl) (da_cons (dv 1) (da_cons (dv 2) (da_cons (de_fz (dl_sl (dls_own 4) (do_s (de_neg (de_int))) (do_n))) (da_nil)))) (by rfl) (gCons_len (gCons_len (gCons_len (gNil_len)))))) (de_neg (de_int)) (fun _ _ => rfl))) (by first | exact Or.inl rfl | exact Or.inr rfl)))))))
    (dss_one (ds_ret (de_tuple (by rfl) h_tuple (dls_own 4)))))
theorem sc_L_frame : FnScope ["weights", "lots", "some"] ["weights", "lots"] (L2.defScope s_L_frame) := ⟨rfl, rfl, rfl, by decide +kernel, rfl, by decide +kernel, by decide +kernel⟩
theorem ok_L_frame (h_list : mg "list" = none) (h_sorted : mg "sorted" = none) (F : FunD K "_law_frame" "_law_frame" (L2.defArgs s_L_frame) (L2.defBody s_L_frame) (L2.defScope s_L_frame) [] [] f fd) : FnOk P w K mg base CX0 1 f fd ["weights", "lots"] (spF K mg 2 φ_L_frame) :=
  okC (N := ["weights", "lots", "some"]) F sc_L_frame rfl fun cdv A outer s H E hr =>
    dss_one (ds_ret (de_fzM (dm_disp (dps_cons (de_str) (de_fz (dl_list (by rfl) h_list (dq_d (dv 0)))) (dps_cons (de_str) (de_fz (dl_lc (own := [("some", 2)]) (by rfl) sc_L_frame.nd (dp_d (dv 1)) (blk_ok (by kernel_rfl)) (fun _ _ _ _ _ => dg_n (i := 2) sc_L_frame.nd (by rfl) (by first | exact Or.inl rfl | exact Or.inr (Or.inl rfl) | exact Or.inr rfl | exact Or.inr (Or.inr rfl))) (fun _ _ _ _ _ => dts_nil) (fun _ _ _ _ _ => de_fz (dl_sortT (by rfl) h_sorted (dls_d (dv 2)))))) (dps_nil))))))
theorem sc_L_row_frame : FnScope ["weights", "thing"] ["weights"] (L2.defScope s_L_row_frame) := ⟨rfl, rfl, rfl, by decide +kernel, rfl, by decide +kernel, by decide +kernel⟩
theorem ok_L_row_frame (D__law_frame : Dfn P w K mg base "_law_frame" 2 1 φ_L_frame) (h_len : mg "len" = none) (h_range : mg "range" = none) (F : FunD K "_law_row_frame" "_law_row_frame" (L2.defArgs s_L_row_frame) (L2.defBody s_L_row_frame) (L2.defScope s_L_row_frame) [] [] f fd) : FnOk P w K mg base CX0 2 f fd ["weights"] (spF K mg 1 φ_L_row_frame) :=
  okC (N := ["weights", "thing"]) F sc_L_row_frame rfl fun cdv A outer s H E hr =>
    dss_one (ds_ret (de_callD D__law_frame (hr.mono (by decide)) (by rfl) (da_cons (dv 0) (da_cons (de_fz (dl_lc (own := [("thing", 1)]) (by rfl) sc_L_row_frame.nd (dp_rg (by rfl) h_range (de_len (by rfl) h_len (dq_d (dv 0)))) (blk_ok (by kernel_rfl)) (fun _ _ _ _ _ => dg_n (i := 1) sc_L_row_frame.nd (by rfl) (by first | exact Or.inl rfl | exact Or.inr (Or.inl rfl) | exact Or.inr rfl | exact Or.inr (Or.inr rfl))) (fun _ _ _ _ _ => dts_nil) (fun _ _ _ _ _ => de_fz (dl_lst (da_cons (de_if (dt_cmp op_gt ok_ic (dv 1) (de_int) rfl) (de_tup (da_cons (de_sub (dv 1) (de_int)) (da_nil))) (de_tup (da_nil))) (da_nil)))))) (da_nil))) (by rfl) (gCons_len (gCons_len (gNil_len)))))
theorem sc_L_mixed : FnScope ["deal", "some", "turn", "left", "found"] ["deal", "some"] (L2.defScope s_L_mixed) := ⟨rfl, rfl, rfl, by decide +kernel, rfl, by decide +kernel, by decide +kernel⟩
theorem ok_L_mixed (D__law_any : Dfn P w K mg base "_law_any" 2 1 φ_L_any) (h_len : mg "len" = none) (h_list : mg "list" = none) (h_range : mg "range" = none) (F : FunD K "_law_mixed" "_law_mixed" (L2.defArgs s_L_mixed) (L2.defBody s_L_mixed) (L2.defScope s_L_mixed) [] [] f fd) : FnOk P w K mg base CX0 2 f fd ["deal", "some"] (spF K mg 2 φ_L_mixed) :=
  okC (N := ["deal", "some", "turn", "left", "found"]) F sc_L_mixed rfl fun cdv A outer s H E hr =>
    dss_cons (ds_par (i := 3) (j := 4) (by rfl) sc_L_mixed.nd (by rfl) (by rfl) (by decide) (by rfl) (by rfl) (dv_d (de_newL (dl_list (by rfl) h_list (dq_d (dv 1))))) (dv_l (dl_lst (da_nil))))
    (dss_cons (ds_for PassesOwn.never (by rfl) (dp_rg (by rfl) h_range (de_len (by rfl) h_len (dq_d (dv 1)))) (dg_n (i := 2) sc_L_mixed.nd (by rfl) (by first | exact Or.inl rfl | exact Or.inr rfl)) (dss_one (ds_app 4 (pe_var (by rfl) (by first | exact Or.inl rfl | exact Or.inr (Or.inl rfl) | exact Or.inr (Or.inr rfl))) (de_popAtM (dv 3) (de_callD D__law_any (hr.mono (by decide)) (by rfl) (da_cons (dv 0) (da_cons (de_lenM (by rfl) h_len (dv 3)) (da_nil))) (by rfl) (gCons_len (gCons_len (gNil_len))))))))
    (dss_one (ds_retOwn 4 (pe_var (by rfl) (by first | exact Or.inl rfl | exact Or.inr (Or.inl rfl) | exact Or.inr (Or.inr rfl))))))
theorem sc_L_drawn_lots : FnScope ["deal", "thing", "found", "turn", "lot", "inside", "other", "one"] ["deal", "thing"] (L2.defScope s_L_drawn_lots) := ⟨rfl, rfl, rfl, by decide +kernel, rfl, by decide +kernel, by decide +kernel⟩
theorem ok_L_drawn_lots (D__law_any : Dfn P w K mg base "_law_any" 2 1 φ_L_any) (D__law_mixed : Dfn P w K mg base "_law_mixed" 2 2 φ_L_mixed) (h_len : mg "len" = none) (h_list : mg "list" = none) (h_range : mg "range" = none) (h_sorted : mg "sorted" = none) (h_tuple : mg "tuple" = none) (F : FunD K "_law_drawn_lots" "_law_drawn_lots" (L2.defArgs s_L_drawn_lots) (L2.defBody s_L_drawn_lots) (L2.defScope s_L_drawn_lots) [] [] f fd) : FnOk P w K mg base CX0 3 f fd ["deal", "thing"] (spF K mg 2 φ_L_drawn_lots) :=
  okC (N := ["deal", "thing", "found", "turn", "lot", "inside", "other", "one"]) F sc_L_drawn_lots rfl fun cdv A outer s H E hr =>
    dss_cons (ds_if ((dw_or (dt_cmp (op_eqD hr.units) ok_eqD (dv 1) (de_int) rfl) (dw_or1 (dt_cmp (op_eqD hr.units) ok_eqD (de_callD D__law_any (hr.mono (by decide)) (by rfl) (da_cons (dv 0) (da_cons (de_int) (da_nil))) (by rfl) (gCons_len (gCons_len (gNil_len)))) (de_int) rfl))).pt) (dss_one (ds_ret (de_fz (dl_lst (da_cons (de_tup (da_nil)) (da_nil)))))) (dss_nil))
    (dss_cons (ds_asg (i := 2) sc_L_drawn_lots.nd (by rfl) (dv_d (de_fz (dl_lst (da_nil)))) (by first | exact Or.inl rfl | exact Or.inr rfl))
    (dss_cons (ds_for PassesOwn.never (by rfl) (dp_rg (by rfl) h_range (de_add (de_int) (de_callD D__law_any (hr.mono (by decide)) (by rfl) (da_cons (dv 0) (da_cons (de_int) (da_nil))) (by rfl) (gCons_len (gCons_len (gNil_len)))))) (dg_n (i := 3) sc_L_drawn_lots.nd (by rfl) (by first | exact Or.inl rfl | exact Or.inr rfl)) (dss_cons (ds_asg (i := 4) sc_L_drawn_lots.nd (by rfl) (dv_d (de_tuple (by rfl) h_tuple (dls_l (dl_sortI (by rfl) h_sorted (dls_l (dl_sl (dls_d (de_callD D__law_mixed (hr.mono (by decide)) (by rfl) (da_cons (dv 0) (da_cons (de_fz (dl_listRg (by rfl) (by rfl) h_list (by rfl) h_range (dv 1))) (da_nil))) (by rfl) (gCons_len (gCons_len (gNil_len))))) (do_n) (do_s (de_add (de_int) (de_callD D__law_any (hr.mono (by decide)) (by rfl) (da_cons (dv 0) (da_cons (de_int) (da_nil))) (by rfl) (gCons_len (gCons_len (gNil_len)))))))))))) (by first | exact Or.inl rfl | exact Or.inr rfl))
    (dss_cons (ds_setLc (i := 5) (own := [("other", 6)]) (by rfl) sc_L_drawn_lots.nd (by rfl) (by rfl) (sw_true (by rfl) (by rfl) (by rfl) (by decide +kernel)) (dp_d (dv 2)) (blk_ok (by kernel_rfl)) (fun _ _ _ _ _ => dg_n (i := 6) sc_L_drawn_lots.nd (by rfl) (by first | exact Or.inl rfl | exact Or.inr (Or.inl rfl) | exact Or.inr rfl | exact Or.inr (Or.inr rfl))) (fun _ _ _ _ _ => dts_one ((dw_or (dt_cmp (op_eqD hr.units) ok_eqD (de_len (by rfl) h_len (dq_l (dl_lc (own := [("one", 7)]) (by rfl) sc_L_drawn_lots.nd (dp_d (dv 6)) (blk_ok (by kernel_rfl)) (fun _ _ _ _ _ => dg_n (i := 7) sc_L_drawn_lots.nd (by rfl) (by first | exact Or.inl rfl | exact Or.inr (Or.inl rfl) | exact Or.inr rfl | exact Or.inr (Or.inr rfl))) (fun _ _ _ _ _ => dts_one (dt_nin (dv 7) (dq_d (dv 4)))) (fun _ _ _ _ _ => dv 7)))) (de_int) rfl) (dw_or1 (dt_cmp (op_eqD hr.units) ok_eqD (de_len (by rfl) h_len (dq_l (dl_lc (own := [("one", 7)]) (by rfl) sc_L_drawn_lots.nd (dp_d (dv 4)) (blk_ok (by kernel_rfl)) (fun _ _ _ _ _ => dg_n (i := 7) sc_L_drawn_lots.nd (by rfl) (by first | exact Or.inl rfl | exact Or.inr (Or.inl rfl) | exact Or.inr rfl | exact Or.inr (Or.inr rfl))) (fun _ _ _ _ _ => dts_one (dt_nin (dv 7) (dq_d (dv 6)))) (fun _ _ _ _ _ => dv 7)))) (de_int) rfl))).pt)) (fun _ _ _ _ _ => dv 6) lq_fz)
    (dss_one (ds_asg (i := 2) sc_L_drawn_lots.nd (by rfl) (dv_d (de_fz (dl_cat (dlt_d (dv 2)) (dlt_l (dl_if (dt_cmp (op_eqD hr.units) ok_eqD (de_len (by rfl) h_len (dq_d (dv 5))) (de_int) rfl) (dl_lst (da_cons (dv 4) (da_nil))) (dl_lst (da_nil))))))) (by first | exact Or.inl rfl | exact Or.inr rfl))))))
    (dss_one (ds_ret (dv 2)))))
theorem sc_L_drawn_frame : FnScope ["deal", "limit", "many", "weights", "thing"] ["deal", "limit"] (L2.defScope s_L_drawn_frame) := ⟨rfl, rfl, rfl, by decide +kernel, rfl, by decide +kernel, by decide +kernel⟩
theorem ok_L_drawn_frame (D__law_any : Dfn P w K mg base "_law_any" 2 1 φ_L_any) (D__law_drawn_lots : Dfn P w K mg base "_law_drawn_lots" 2 3 φ_L_drawn_lots) (D__law_frame : Dfn P w K mg base "_law_frame" 2 1 φ_L_frame) (D__law_of : Dfn P w K mg base "_law_of" 2 2 φ_L_of) (h_range : mg "range" = none) (F : FunD K "_law_drawn_frame" "_law_drawn_frame" (L2.defArgs s_L_drawn_frame) (L2.defBody s_L_drawn_frame) (L2.defScope s_L_drawn_frame) [] [] f fd) : FnOk P w K mg base CX0 4 f fd ["deal", "limit"] (spF K mg 2 φ_L_drawn_frame) :=
  okC (N := ["deal", "limit", "many", "weights", "thing"]) F sc_L_drawn_frame rfl fun cdv A outer s H E hr =>
    dss_cons (ds_asg (i := 2) sc_L_drawn_frame.nd (by rfl) (dv_d (de_add (de_int) (de_callD D__law_any (hr.mono (by decide)) (by rfl) (da_cons (dv 0) (da_cons (de_sub (dv 1) (de_int)) (da_nil))) (by rfl) (gCons_len (gCons_len (gNil_len)))))) (by first | exact Or.inl rfl | exact Or.inr rfl))
    (dss_cons (ds_setLc (i := 3) (own := [("thing", 4)]) (by rfl) sc_L_drawn_frame.nd (by rfl) (by rfl) (sw_true (by rfl) (by rfl) (by rfl) (by decide +kernel)) (dp_rg (by rfl) h_range (dv 2)) (blk_ok (by kernel_rfl)) (fun _ _ _ _ _ => dg_n (i := 4) sc_L_drawn_frame.nd (by rfl) (by first | exact Or.inl rfl | exact Or.inr (Or.inl rfl) | exact Or.inr rfl | exact Or.inr (Or.inr rfl))) (fun _ _ _ _ _ => dts_nil) (fun _ _ _ _ _ => de_callD D__law_of (hr.mono (by decide)) (by rfl) (da_cons (dv 0) (da_cons (de_fz (dl_lst (da_cons (de_int) (da_cons (de_int) (da_cons (de_int) (da_cons (de_int) (da_cons (de_int) (da_cons (de_int) (da_nil))))))))) (da_nil))) (by rfl) (gCons_len (gCons_len (gNil_len)))) lq_fz)
    (dss_one (ds_ret (de_callD D__law_frame (hr.mono (by decide)) (by rfl) (da_cons (de_if (dt_cmp (op_eqD hr.units) ok_eqD (de_callD D__law_any (hr.mono (by decide)) (by rfl) (da_cons (dv 0) (da_cons (de_int) (da_nil))) (by rfl) (gCons_len (gCons_len (gNil_len)))) (de_int) rfl) (dv 3) (de_mul (de_fz (dl_lst (da_cons (de_int) (da_nil)))) (dv 2))) (da_cons (de_fz (dl_lc (own := [("thing", 4)]) (by rfl) sc_L_drawn_frame.nd (dp_rg (by rfl) h_range (dv 2)) (blk_ok (by kernel_rfl)) (fun _ _ _ _ _ => dg_n (i := 4) sc_L_drawn_frame.nd (by rfl) (by first | exact Or.inl rfl | exact Or.inr (Or.inl rfl) | exact Or.inr rfl | exact Or.inr (Or.inr rfl))) (fun _ _ _ _ _ => dts_nil) (fun _ _ _ _ _ => de_callD D__law_drawn_lots (hr.mono (by decide)) (by rfl) (da_cons (dv 0) (da_cons (dv 4) (da_nil))) (by rfl) (gCons_len (gCons_len (gNil_len)))))) (da_nil))) (by rfl) (gCons_len (gCons_len (gNil_len)))))))
theorem sc_L_some_frame : FnScope ["deal", "limit", "thing"] ["deal", "limit"] (L2.defScope s_L_some_frame) := ⟨rfl, rfl, rfl, by decide +kernel, rfl, by decide +kernel, by decide +kernel⟩
theorem ok_L_some_frame (D__law_any : Dfn P w K mg base "_law_any" 2 1 φ_L_any) (D__law_drawn_frame : Dfn P w K mg base "_law_drawn_frame" 2 4 φ_L_drawn_frame) (D__law_of : Dfn P w K mg base "_law_of" 2 2 φ_L_of) (D__law_row_frame : Dfn P w K mg base "_law_row_frame" 1 2 φ_L_row_frame) (h_range : mg "range" = none) (F : FunD K "_law_some_frame" "_law_some_frame" (L2.defArgs s_L_some_frame) (L2.defBody s_L_some_frame) (L2.defScope s_L_some_frame) [] [] f fd) : FnOk P w K mg base CX0 5 f fd ["deal", "limit"] (spF K mg 2 φ_L_some_frame) :=
  okC (N := ["deal", "limit", "thing"]) F sc_L_some_frame rfl fun cdv A outer s H E hr =>
    dss_cons (ds_if (dt_cmp op_gt ok_ic (de_callD D__law_any (hr.mono (by decide)) (by rfl) (da_cons (dv 0) (da_cons (de_int) (da_nil))) (by rfl) (gCons_len (gCons_len (gNil_len)))) (de_int) rfl) (dss_one (ds_ret (de_callD D__law_drawn_frame (hr.mono (by decide)) (by rfl) (da_cons (dv 0) (da_cons (dv 1) (da_nil))) (by rfl) (gCons_len (gCons_len (gNil_len)))))) (dss_nil))
    (dss_one (ds_ret (de_callD D__law_row_frame (hr.mono (by decide)) (by rfl) (da_cons (de_fz (dl_lc (own := [("thing", 2)]) (by rfl) sc_L_some_frame.nd (dp_rg (by rfl) h_range (de_add (de_int) (de_callD D__law_any (hr.mono (by decide)) (by rfl) (da_cons (dv 0) (da_cons (de_sub (dv 1) (de_int)) (da_nil))) (by rfl) (gCons_len (gCons_len (gNil_len)))))) (blk_ok (by kernel_rfl)) (fun _ _ _ _ _ => dg_n (i := 2) sc_L_some_frame.nd (by rfl) (by first | exact Or.inl rfl | exact Or.inr (Or.inl rfl) | exact Or.inr rfl | exact Or.inr (Or.inr rfl))) (fun _ _ _ _ _ => dts_nil) (fun _ _ _ _ _ => de_callD D__law_of (hr.mono (by decide)) (by rfl) (da_cons (dv 0) (da_cons (de_fz (dl_lst (da_cons (de_int) (da_cons (de_int) (da_cons (de_int) (da_nil)))))) (da_nil))) (by rfl) (gCons_len (gCons_len (gNil_len)))))) (da_nil)) (by rfl) (gCons_len (gNil_len)))))
theorem sc_L_some_mask : FnScope ["deal", "frame"] ["deal", "frame"] (L2.defScope s_L_some_mask) := ⟨rfl, rfl, rfl, by decide +kernel, rfl, by decide +kernel, by decide +kernel⟩
theorem ok_L_some_mask (D__law_any : Dfn P w K mg base "_law_any" 2 1 φ_L_any) (D__law_many : Dfn P w K mg base "_law_many" 1 1 φ_L_many) (D__law_two : Dfn P w K mg base "_law_two" 1 1 φ_L_two) (F : FunD K "_law_some_mask" "_law_some_mask" (L2.defArgs s_L_some_mask) (L2.defBody s_L_some_mask) (L2.defScope s_L_some_mask) [] [] f fd) : FnOk P w K mg base CX0 2 f fd ["deal", "frame"] (spF K mg 2 φ_L_some_mask) :=
  okC (N := ["deal", "frame"]) F sc_L_some_mask rfl fun cdv A outer s H E hr =>
    dss_one (ds_ret (de_callD D__law_any (hr.mono (by decide)) (by rfl) (da_cons (dv 0) (da_cons (de_callD D__law_two (hr.mono (by decide)) (by rfl) (da_cons (de_callD D__law_many (hr.mono (by decide)) (by rfl) (da_cons (dv 1) (da_nil)) (by rfl) (gCons_len (gNil_len))) (da_nil)) (by rfl) (gCons_len (gNil_len))) (da_nil))) (by rfl) (gCons_len (gCons_len (gNil_len)))))
theorem sc_L_letters_of : FnScope ["frame", "thing"] ["frame"] (L2.defScope s_L_letters_of) := ⟨rfl, rfl, rfl, by decide +kernel, rfl, by decide +kernel, by decide +kernel⟩
theorem ok_L_letters_of (D__law_many : Dfn P w K mg base "_law_many" 1 1 φ_L_many) (h_range : mg "range" = none) (F : FunD K "_law_letters_of" "_law_letters_of" (L2.defArgs s_L_letters_of) (L2.defBody s_L_letters_of) (L2.defScope s_L_letters_of) [] [] f fd) : FnOk P w K mg base CX0 2 f fd ["frame"] (spF K mg 1 φ_L_letters_of) :=
  okC (N := ["frame", "thing"]) F sc_L_letters_of rfl fun cdv A outer s H E hr =>
    dss_one (ds_ret (de_fz (dl_lc (own := [("thing", 1)]) (by rfl) sc_L_letters_of.nd (dp_rg (by rfl) h_range (de_callD D__law_many (hr.mono (by decide)) (by rfl) (da_cons (dv 0) (da_nil)) (by rfl) (gCons_len (gNil_len)))) (blk_ok (by kernel_rfl)) (fun _ _ _ _ _ => dg_n (i := 1) sc_L_letters_of.nd (by rfl) (by first | exact Or.inl rfl | exact Or.inr (Or.inl rfl) | exact Or.inr rfl | exact Or.inr (Or.inr rfl))) (fun _ _ _ _ _ => dts_nil) (fun _ _ _ _ _ => de_add (de_str) (de_ixS (de_str) (dv 1) (fun _ _ => rfl))))))
theorem sc_Web_init : FnScope ["self", "names", "weights", "lots"] ["self", "names", "weights", "lots"] (L2.defScope s_Web_init) := ⟨rfl, rfl, rfl, by decide +kernel, rfl, by decide +kernel, by decide +kernel⟩
theorem ok_Web_init (F_Web_lots : Fldn K mg "Web" "lots") (F_Web_names : Fldn K mg "Web" "names") (F_Web_weights : Fldn K mg "Web" "weights") (F : FunD K "__init__" "Web.__init__" (L2.defArgs s_Web_init) (L2.defBody s_Web_init) (L2.defScope s_Web_init) [] [] f fd) : FnOk P w K mg base CX0 1 f fd ["self", "names", "weights", "lots"] (spF K mg 4 φ_Web_init) :=
  okF (N := ["self", "names", "weights", "lots"]) F sc_Web_init rfl fun cdv A outer s H E hr =>
    dss_cons (ds_putD F_Web_names (dv 0) (dv 1))
    (dss_cons (ds_putD F_Web_weights (dv 0) (dv 2))
    (dss_one (ds_putD F_Web_lots (dv 0) (dv 3))))
theorem sc_L_web : FnScope ["frame", "some"] ["frame"] (L2.defScope s_L_web) := ⟨rfl, rfl, rfl, by decide +kernel, rfl, by decide +kernel, by decide +kernel⟩
theorem ok_L_web (D__law_letters_of : Dfn P w K mg base "_law_letters_of" 1 2 φ_L_letters_of) (M_Web : Mkn P w K mg base "Web" 4 1 φ_Web_init) (h_tuple : mg "tuple" = none) (F : FunD K "_law_web" "_law_web" (L2.defArgs s_L_web) (L2.defBody s_L_web) (L2.defScope s_L_web) [] [] f fd) : FnOk P w K mg base CX0 3 f fd ["frame"] (spF K mg 1 φ_L_web) :=
  okC (N := ["frame", "some"]) F sc_L_web rfl fun cdv A outer s H E hr =>
    dss_one (ds_ret (de_makeD M_Web (hr.mono (by decide)) (by rfl) (da_cons (de_tupD (by rfl) h_tuple (de_callD D__law_letters_of (hr.mono (by decide)) (by rfl) (da_cons (dv 0) (da_nil)) (by rfl) (gCons_len (gNil_len)))) (da_cons (de_tupD (by rfl) h_tuple (de_dget (hu1 hr) (dv 0) (de_str) (fun _ _ => rfl))) (da_cons (de_tuple (by rfl) h_tuple (dls_l (dl_lc (own := [("some", 1)]) (by rfl) sc_L_web.nd (dp_d (de_dget (hu1 hr) (dv 0) (de_str) (fun _ _ => rfl))) (blk_ok (by kernel_rfl)) (fun _ _ _ _ _ => dg_n (i := 1) sc_L_web.nd (by rfl) (by first | exact Or.inl rfl | exact Or.inr (Or.inl rfl) | exact Or.inr rfl | exact Or.inr (Or.inr rfl))) (fun _ _ _ _ _ => dts_nil) (fun _ _ _ _ _ => de_tupD (by rfl) h_tuple (dv 1))))) (da_nil)))) (by rfl) φ_Web_init_non (gCons_len (gCons_len (gCons_len (gNil_len))))))
theorem sc_is_within : FnScope ["lot", "other", "thing"] ["lot", "other"] (L2.defScope s_is_within) := ⟨rfl, rfl, rfl, by decide +kernel, rfl, by decide +kernel, by decide +kernel⟩
theorem ok_is_within  (F : FunD K "is_within" "is_within" (L2.defArgs s_is_within) (L2.defBody s_is_within) (L2.defScope s_is_within) [] [] f fd) : FnOk P w K mg base CX0 1 f fd ["lot", "other"] (spF K mg 2 φ_is_within) :=
  okC (N := ["lot", "other", "thing"]) F sc_is_within rfl fun cdv A outer s H E hr =>
    dss_one (ds_ret (de_cmp (op_eqD hr.units) ok_eqD (de_fz (dl_lc (own := [("thing", 2)]) (by rfl) sc_is_within.nd (dp_d (dv 0)) (blk_ok (by kernel_rfl)) (fun _ _ _ _ _ => dg_n (i := 2) sc_is_within.nd (by rfl) (by first | exact Or.inl rfl | exact Or.inr (Or.inl rfl) | exact Or.inr rfl | exact Or.inr (Or.inr rfl))) (fun _ _ _ _ _ => dts_one (dt_nin (dv 2) (dq_d (dv 1)))) (fun _ _ _ _ _ => dv 2))) (de_fz (dl_lst (da_nil))) rfl))
theorem sc_is_borne : FnScope ["web", "standing", "thing", "lot"] ["web", "standing", "thing"] (L2.defScope s_is_borne) := ⟨rfl, rfl, rfl, by decide +kernel, rfl, by decide +kernel, by decide +kernel⟩
theorem ok_is_borne (D_is_within : Dfn P w K mg base "is_within" 2 1 φ_is_within) (F_Web_lots : Fldn K mg "Web" "lots") (F : FunD K "is_borne" "is_borne" (L2.defArgs s_is_borne) (L2.defBody s_is_borne) (L2.defScope s_is_borne) [] [] f fd) : FnOk P w K mg base CX0 2 f fd ["web", "standing", "thing"] (spF K mg 3 φ_is_borne) :=
  okC (N := ["web", "standing", "thing", "lot"]) F sc_is_borne rfl fun cdv A outer s H E hr =>
    dss_one (ds_ret (de_cmp (op_neD hr.units) ok_neD (de_fz (dl_lc (own := [("lot", 3)]) (by rfl) sc_is_borne.nd (dp_d (de_ixq (dq_d (de_fldD F_Web_lots (dv 0))) (dv 2) (fun _ _ => rfl))) (blk_ok (by kernel_rfl)) (fun _ _ _ _ _ => dg_n (i := 3) sc_is_borne.nd (by rfl) (by first | exact Or.inl rfl | exact Or.inr (Or.inl rfl) | exact Or.inr rfl | exact Or.inr (Or.inr rfl))) (fun _ _ _ _ _ => dts_one (dt_val (de_callD D_is_within (hr.mono (by decide)) (by rfl) (da_cons (dv 3) (da_cons (dv 1) (da_nil))) (by rfl) (gCons_len (gCons_len (gNil_len)))))) (fun _ _ _ _ _ => dv 3))) (de_fz (dl_lst (da_nil))) rfl))
theorem sc_unlike : FnScope ["things", "thing"] ["things"] (L2.defScope s_unlike) := ⟨rfl, rfl, rfl, by decide +kernel, rfl, by decide +kernel, by decide +kernel⟩
theorem ok_unlike (h_list : mg "list" = none) (F : FunD K "unlike" "unlike" (L2.defArgs s_unlike) (L2.defBody s_unlike) (L2.defScope s_unlike) [] [] f fd) : FnOk P w K mg base CX0 1 f fd ["things"] (spF K mg 1 φ_unlike) :=
  okC (N := ["things", "thing"]) F sc_unlike rfl fun cdv A outer s H E hr =>
    dss_one (ds_ret (de_fz (dl_listM (by rfl) (by rfl) h_list (dm_dc (own := [("thing", 1)]) (by rfl) sc_unlike.nd (dp_d (dv 0)) (blk_ok (by kernel_rfl)) (fun _ _ _ _ _ => dg_n (i := 1) sc_unlike.nd (by rfl) (by first | exact Or.inl rfl | exact Or.inr (Or.inl rfl) | exact Or.inr rfl | exact Or.inr (Or.inr rfl))) (fun _ _ _ _ _ => dts_nil) (fun _ _ _ _ _ => dv 1) (fun _ _ _ _ _ => de_bl)))))
theorem sc_lot_of_words : FnScope ["things"] ["things"] (L2.defScope s_lot_of_words) := ⟨rfl, rfl, rfl, by decide +kernel, rfl, by decide +kernel, by decide +kernel⟩
theorem ok_lot_of_words (D_unlike : Dfn P w K mg base "unlike" 1 1 φ_unlike) (h_sorted : mg "sorted" = none) (h_tuple : mg "tuple" = none) (F : FunD K "lot_of" "lot_of" (L2.defArgs s_lot_of_words) (L2.defBody s_lot_of_words) (L2.defScope s_lot_of_words) [] [] f fd) : FnOk P w K mg base CX0 2 f fd ["things"] (spF K mg 1 φ_lot_of_words) :=
  okC (N := ["things"]) F sc_lot_of_words rfl fun cdv A outer s H E hr =>
    dss_one (ds_ret (de_tuple (by rfl) h_tuple (dls_l (dl_sortI (by rfl) h_sorted (dls_d (de_callD D_unlike (hr.mono (by decide)) (by rfl) (da_cons (dv 0) (da_nil)) (by rfl) (gCons_len (gNil_len))))))))
theorem sc_with_thing : FnScope ["lot", "thing"] ["lot", "thing"] (L2.defScope s_with_thing) := ⟨rfl, rfl, rfl, by decide +kernel, rfl, by decide +kernel, by decide +kernel⟩
theorem ok_with_thing (D_lot_of_words : Dfn P w K mg base "lot_of_words" 1 2 φ_lot_of_words) (F : FunD K "with_thing" "with_thing" (L2.defArgs s_with_thing) (L2.defBody s_with_thing) (L2.defScope s_with_thing) [] [] f fd) : FnOk P w K mg base CX0 3 f fd ["lot", "thing"] (spF K mg 2 φ_with_thing) :=
  okC (N := ["lot", "thing"]) F sc_with_thing rfl fun cdv A outer s H E hr =>
    dss_one (ds_ret (de_callD D_lot_of_words (hr.mono (by decide)) (by rfl) (da_cons (de_add (dv 0) (de_tup (da_cons (dv 1) (da_nil)))) (da_nil)) (by rfl) (gCons_len (gNil_len))))
theorem sc_without_thing : FnScope ["lot", "thing", "other"] ["lot", "thing"] (L2.defScope s_without_thing) := ⟨rfl, rfl, rfl, by decide +kernel, rfl, by decide +kernel, by decide +kernel⟩
theorem ok_without_thing (h_tuple : mg "tuple" = none) (F : FunD K "without_thing" "without_thing" (L2.defArgs s_without_thing) (L2.defBody s_without_thing) (L2.defScope s_without_thing) [] [] f fd) : FnOk P w K mg base CX0 1 f fd ["lot", "thing"] (spF K mg 2 φ_without_thing) :=
  okC (N := ["lot", "thing", "other"]) F sc_without_thing rfl fun cdv A outer s H E hr =>
    dss_one (ds_ret (de_tuple (by rfl) h_tuple (dls_l (dl_lc (own := [("other", 2)]) (by rfl) sc_without_thing.nd (dp_d (dv 0)) (blk_ok (by kernel_rfl)) (fun _ _ _ _ _ => dg_n (i := 2) sc_without_thing.nd (by rfl) (by first | exact Or.inl rfl | exact Or.inr (Or.inl rfl) | exact Or.inr rfl | exact Or.inr (Or.inr rfl))) (fun _ _ _ _ _ => dts_one (dt_cmp (op_neD hr.units) ok_neD (dv 2) (dv 1) rfl)) (fun _ _ _ _ _ => dv 2)))))
theorem sc_turned_thing : FnScope ["standing", "thing"] ["standing", "thing"] (L2.defScope s_turned_thing) := ⟨rfl, rfl, rfl, by decide +kernel, rfl, by decide +kernel, by decide +kernel⟩
theorem ok_turned_thing (D_with_thing : Dfn P w K mg base "with_thing" 2 3 φ_with_thing) (D_without_thing : Dfn P w K mg base "without_thing" 2 1 φ_without_thing) (F : FunD K "turned_thing" "turned_thing" (L2.defArgs s_turned_thing) (L2.defBody s_turned_thing) (L2.defScope s_turned_thing) [] [] f fd) : FnOk P w K mg base CX0 4 f fd ["standing", "thing"] (spF K mg 2 φ_turned_thing) :=
  okC (N := ["standing", "thing"]) F sc_turned_thing rfl fun cdv A outer s H E hr =>
    dss_one (ds_ret (de_if (dt_in (dv 1) (dq_d (dv 0))) (de_callD D_without_thing (hr.mono (by decide)) (by rfl) (da_cons (dv 0) (da_cons (dv 1) (da_nil))) (by rfl) (gCons_len (gCons_len (gNil_len)))) (de_callD D_with_thing (hr.mono (by decide)) (by rfl) (da_cons (dv 0) (da_cons (dv 1) (da_nil))) (by rfl) (gCons_len (gCons_len (gNil_len))))))
theorem sc_stepped_standings : FnScope ["web", "standing", "thing"] ["web", "standing", "thing"] (L2.defScope s_stepped_standings) := ⟨rfl, rfl, rfl, by decide +kernel, rfl, by decide +kernel, by decide +kernel⟩
theorem ok_stepped_standings (D_is_borne : Dfn P w K mg base "is_borne" 3 2 φ_is_borne) (D_turned_thing : Dfn P w K mg base "turned_thing" 2 4 φ_turned_thing) (F : FunD K "stepped" "stepped" (L2.defArgs s_stepped_standings) (L2.defBody s_stepped_standings) (L2.defScope s_stepped_standings) [] [] f fd) : FnOk P w K mg base CX0 5 f fd ["web", "standing", "thing"] (spF K mg 3 φ_stepped_standings) :=
  okC (N := ["web", "standing", "thing"]) F sc_stepped_standings rfl fun cdv A outer s H E hr =>
    dss_one (ds_ret (de_if (dt_val (de_callD D_is_borne (hr.mono (by decide)) (by rfl) (da_cons (dv 0) (da_cons (dv 1) (da_cons (dv 2) (da_nil)))) (by rfl) (gCons_len (gCons_len (gCons_len (gNil_len)))))) (de_callD D_turned_thing (hr.mono (by decide)) (by rfl) (da_cons (dv 1) (da_cons (dv 2) (da_nil))) (by rfl) (gCons_len (gCons_len (gNil_len)))) (de_non)))
theorem sc_walked : FnScope ["web", "standing", "steps", "here", "found", "thing"] ["web", "standing", "steps"] (L2.defScope s_walked) := ⟨rfl, rfl, rfl, by decide +kernel, rfl, by decide +kernel, by decide +kernel⟩
theorem ok_walked (D_stepped_standings : Dfn P w K mg base "stepped_standings" 3 5 φ_stepped_standings) (h_tuple : mg "tuple" = none) (F : FunD K "walked" "walked" (L2.defArgs s_walked) (L2.defBody s_walked) (L2.defScope s_walked) [] [] f fd) : FnOk P w K mg base CX0 6 f fd ["web", "standing", "steps"] (spF K mg 3 φ_walked) :=
  okC (N := ["web", "standing", "steps", "here", "found", "thing"]) F sc_walked rfl fun cdv A outer s H E hr =>
    dss_cons (ds_asg (i := 3) sc_walked.nd (by rfl) (dv_d (de_tupD (by rfl) h_tuple (dv 1))) (by first | exact Or.inl rfl | exact Or.inr rfl))
    (dss_cons (ds_asg (i := 4) sc_walked.nd (by rfl) (dv_l (dl_lst (da_cons (dv 3) (da_nil)))) (by first | exact Or.inl rfl | exact Or.inr rfl))
    (dss_cons (ds_for PassesOwn.never (by rfl) (dp_d (dv 2)) (dg_n (i := 5) sc_walked.nd (by rfl) (by first | exact Or.inl rfl | exact Or.inr rfl)) (dss_cons (ds_asg (i := 3) sc_walked.nd (by rfl) (dv_d (de_callD D_stepped_standings (hr.mono (by decide)) (by rfl) (da_cons (dv 0) (da_cons (dv 3) (da_cons (dv 5) (da_nil)))) (by rfl) (gCons_len (gCons_len (gCons_len (gNil_len)))))) (by first | exact Or.inl rfl | exact Or.inr rfl))
    (dss_cons (ds_if (dt_cmp op_isC ok_isD (dv 3) (de_non) rfl) (dss_one (ds_ret (de_non))) (dss_nil))
    (dss_one (ds_app 4 (pe_var (by rfl) (by first | exact Or.inl rfl | exact Or.inr (Or.inl rfl) | exact Or.inr (Or.inr rfl))) (dv 3))))))
    (dss_one (ds_ret (de_tuple (by rfl) h_tuple (dls_own 4))))))
theorem sc_less_one : FnScope ["lot", "thing", "one"] ["lot", "thing"] (L2.defScope s_less_one) := ⟨rfl, rfl, rfl, by decide +kernel, rfl, by decide +kernel, by decide +kernel⟩
theorem ok_less_one (h_tuple : mg "tuple" = none) (F : FunD K "less_one" "less_one" (L2.defArgs s_less_one) (L2.defBody s_less_one) (L2.defScope s_less_one) [] [] f fd) : FnOk P w K mg base CX0 1 f fd ["lot", "thing"] (spF K mg 2 φ_less_one) :=
  okC (N := ["lot", "thing", "one"]) F sc_less_one rfl fun cdv A outer s H E hr =>
    dss_one (ds_ret (de_tuple (by rfl) h_tuple (dls_l (dl_lc (own := [("one", 2)]) (by rfl) sc_less_one.nd (dp_d (dv 0)) (blk_ok (by kernel_rfl)) (fun _ _ _ _ _ => dg_n (i := 2) sc_less_one.nd (by rfl) (by first | exact Or.inl rfl | exact Or.inr (Or.inl rfl) | exact Or.inr rfl | exact Or.inr (Or.inr rfl))) (fun _ _ _ _ _ => dts_one (dt_cmp (op_neD hr.units) ok_neD (dv 2) (dv 1) rfl)) (fun _ _ _ _ _ => dv 2)))))
theorem sc_let_at : FnScope ["web", "standing", "thing"] ["web", "standing"] (L2.defScope s_let_at) := ⟨rfl, rfl, rfl, by decide +kernel, rfl, by decide +kernel, by decide +kernel⟩
theorem ok_let_at (D_is_borne : Dfn P w K mg base "is_borne" 3 2 φ_is_borne) (F_Web_names : Fldn K mg "Web" "names") (h_len : mg "len" = none) (h_range : mg "range" = none) (h_tuple : mg "tuple" = none) (F : FunD K "let_at" "let_at" (L2.defArgs s_let_at) (L2.defBody s_let_at) (L2.defScope s_let_at) [] [] f fd) : FnOk P w K mg base CX0 3 f fd ["web", "standing"] (spF K mg 2 φ_let_at) :=
  okC (N := ["web", "standing", "thing"]) F sc_let_at rfl fun cdv A outer s H E hr =>
    dss_one (ds_ret (de_tuple (by rfl) h_tuple (dls_l (dl_lc (own := [("thing", 2)]) (by rfl) sc_let_at.nd (dp_rg (by rfl) h_range (de_len (by rfl) h_len (dq_d (de_fldD F_Web_names (dv 0))))) (blk_ok (by kernel_rfl)) (fun _ _ _ _ _ => dg_n (i := 2) sc_let_at.nd (by rfl) (by first | exact Or.inl rfl | exact Or.inr (Or.inl rfl) | exact Or.inr rfl | exact Or.inr (Or.inr rfl))) (fun _ _ _ _ _ => dts_one (dt_val (de_callD D_is_borne (hr.mono (by decide)) (by rfl) (da_cons (dv 0) (da_cons (dv 1) (da_cons (dv 2) (da_nil)))) (by rfl) (gCons_len (gCons_len (gCons_len (gNil_len))))))) (fun _ _ _ _ _ => dv 2)))))
theorem sc_lot_of : FnScope ["things"] ["things"] (L2.defScope s_lot_of) := ⟨rfl, rfl, rfl, by decide +kernel, rfl, by decide +kernel, by decide +kernel⟩
theorem ok_lot_of (h_set : mg "set" = none) (h_sorted : mg "sorted" = none) (h_tuple : mg "tuple" = none) (F : FunD K "lot_of" "lot_of" (L2.defArgs s_lot_of) (L2.defBody s_lot_of) (L2.defScope s_lot_of) [] [] f fd) : FnOk P w K mg base CX0 1 f fd ["things"] (spF K mg 1 φ_lot_of) :=
  okC (N := ["things"]) F sc_lot_of rfl fun cdv A outer s H E hr =>
    dss_one (ds_ret (de_tuple (by rfl) h_tuple (dls_l (dl_sortSet (by rfl) (by rfl) h_sorted (by rfl) h_set (dls_d (dv 0))))))
theorem sc_joined : FnScope ["one", "other"] ["one", "other"] (L2.defScope s_joined) := ⟨rfl, rfl, rfl, by decide +kernel, rfl, by decide +kernel, by decide +kernel⟩
theorem ok_joined (D_lot_of_lots : Dfn P w K mg base "lot_of_lots" 1 1 φ_lot_of) (h_list : mg "list" = none) (F : FunD K "joined" "joined" (L2.defArgs s_joined) (L2.defBody s_joined) (L2.defScope s_joined) [] [] f fd) : FnOk P w K mg base CX0 2 f fd ["one", "other"] (spF K mg 2 φ_joined) :=
  okC (N := ["one", "other"]) F sc_joined rfl fun cdv A outer s H E hr =>
    dss_one (ds_ret (de_callD D_lot_of_lots (hr.mono (by decide)) (by rfl) (da_cons (de_fz (dl_cat (dlt_l (dl_list (by rfl) h_list (dq_d (dv 0)))) (dlt_l (dl_list (by rfl) h_list (dq_d (dv 1)))))) (da_nil)) (by rfl) (gCons_len (gNil_len))))
theorem sc_stepped : FnScope ["standing", "thing"] ["standing", "thing"] (L2.defScope s_stepped) := ⟨rfl, rfl, rfl, by decide +kernel, rfl, by decide +kernel, by decide +kernel⟩
theorem ok_stepped (D_joined : Dfn P w K mg base "joined" 2 2 φ_joined) (D_less_one : Dfn P w K mg base "less_one" 2 1 φ_less_one) (F : FunD K "stepped" "stepped" (L2.defArgs s_stepped) (L2.defBody s_stepped) (L2.defScope s_stepped) [] [] f fd) : FnOk P w K mg base CX0 3 f fd ["standing", "thing"] (spF K mg 2 φ_stepped) :=
  okC (N := ["standing", "thing"]) F sc_stepped rfl fun cdv A outer s H E hr =>
    dss_one (ds_ret (de_if (dt_in (dv 1) (dq_d (dv 0))) (de_callD D_less_one (hr.mono (by decide)) (by rfl) (da_cons (dv 0) (da_cons (dv 1) (da_nil))) (by rfl) (gCons_len (gCons_len (gNil_len)))) (de_callD D_joined (hr.mono (by decide)) (by rfl) (da_cons (dv 0) (da_cons (de_tup (da_cons (dv 1) (da_nil))) (da_nil))) (by rfl) (gCons_len (gCons_len (gNil_len))))))
theorem sc_behind_event : FnScope ["web", "standing", "event", "thing"] ["web", "standing", "event"] (L2.defScope s_behind_event) := ⟨rfl, rfl, rfl, by decide +kernel, rfl, by decide +kernel, by decide +kernel⟩
theorem ok_behind_event (D_less_one : Dfn P w K mg base "less_one" 2 1 φ_less_one) (D_let_at : Dfn P w K mg base "let_at" 2 3 φ_let_at) (D_stepped_wipegraph : Dfn P w K mg base "stepped_wipegraph" 2 3 φ_stepped) (F : FunD K "behind_event" "behind_event" (L2.defArgs s_behind_event) (L2.defBody s_behind_event) (L2.defScope s_behind_event) [] [] f fd) : FnOk P w K mg base CX0 4 f fd ["web", "standing", "event"] (spF K mg 3 φ_behind_event) :=
  okC (N := ["web", "standing", "event", "thing"]) F sc_behind_event rfl fun cdv A outer s H E hr =>
    dss_cons (ds_if (dt_cmp op_lt ok_ic (dv 2) (de_int) rfl) (dss_cons (ds_asg (i := 3) sc_behind_event.nd (by rfl) (dv_d (de_sub (de_neg (de_int)) (dv 2))) (by first | exact Or.inl rfl | exact Or.inr rfl))
    (dss_one (ds_ret (de_if (dt_in (dv 3) (dq_d (dv 1))) (de_callD D_less_one (hr.mono (by decide)) (by rfl) (da_cons (dv 1) (da_cons (dv 3) (da_nil))) (by rfl) (gCons_len (gCons_len (gNil_len)))) (de_non))))) (dss_nil))
    (dss_one (ds_ret (de_if (dt_in (dv 2) (dq_d (de_callD D_let_at (hr.mono (by decide)) (by rfl) (da_cons (dv 0) (da_cons (dv 1) (da_nil))) (by rfl) (gCons_len (gCons_len (gNil_len)))))) (de_callD D_stepped_wipegraph (hr.mono (by decide)) (by rfl) (da_cons (dv 1) (da_cons (dv 2) (da_nil))) (by rfl) (gCons_len (gCons_len (gNil_len)))) (de_non))))
theorem sc_wiped_walk : FnScope ["web", "standing", "events", "found", "event", "late"] ["web", "standing", "events"] (L2.defScope s_wiped_walk) := ⟨rfl, rfl, rfl, by decide +kernel, rfl, by decide +kernel, by decide +kernel⟩
theorem ok_wiped_walk (D_behind_event : Dfn P w K mg base "behind_event" 3 4 φ_behind_event) (h_tuple : mg "tuple" = none) (F : FunD K "wiped_walk" "wiped_walk" (L2.defArgs s_wiped_walk) (L2.defBody s_wiped_walk) (L2.defScope s_wiped_walk) [] [] f fd) : FnOk P w K mg base CX0 5 f fd ["web", "standing", "events"] (spF K mg 3 φ_wiped_walk) :=
  okC (N := ["web", "standing", "events", "found", "event", "late"]) F sc_wiped_walk rfl fun cdv A outer s H E hr =>
    dss_cons (ds_asg (i := 3) sc_wiped_walk.nd (by rfl) (dv_l (dl_lst (da_cons (de_tupD (by rfl) h_tuple (dv 1)) (da_nil)))) (by first | exact Or.inl rfl | exact Or.inr rfl))
    (dss_cons (ds_for PassesOwn.never (by rfl) (dp_d (dv 2)) (dg_n (i := 4) sc_wiped_walk.nd (by rfl) (by first | exact Or.inl rfl | exact Or.inr rfl)) (dss_cons (ds_asg (i := 5) sc_wiped_walk.nd (by rfl) (dv_d (de_callD D_behind_event (hr.mono (by decide)) (by rfl) (da_cons (dv 0) (da_cons (de_ixq (dq_own 3) (de_neg (de_int)) (fun _ _ => rfl)) (da_cons (dv 4) (da_nil)))) (by rfl) (gCons_len (gCons_len (gCons_len (gNil_len)))))) (by first | exact Or.inl rfl | exact Or.inr rfl))
    (dss_cons (ds_if (dt_cmp op_isC ok_isD (dv 5) (de_non) rfl) (dss_one (ds_ret (de_non))) (dss_nil))
    (dss_one (ds_app 3 (pe_var (by rfl) (by first | exact Or.inl rfl | exact Or.inr (Or.inl rfl) | exact Or.inr (Or.inr rfl))) (dv 5))))))
    (dss_one (ds_ret (de_tuple (by rfl) h_tuple (dls_own 3)))))
theorem sc_wipes_in : FnScope ["events", "event"] ["events"] (L2.defScope s_wipes_in) := ⟨rfl, rfl, rfl, by decide +kernel, rfl, by decide +kernel, by decide +kernel⟩
theorem ok_wipes_in (h_len : mg "len" = none) (F : FunD K "wipes_in" "wipes_in" (L2.defArgs s_wipes_in) (L2.defBody s_wipes_in) (L2.defScope s_wipes_in) [] [] f fd) : FnOk P w K mg base CX0 1 f fd ["events"] (spF K mg 1 φ_wipes_in) :=
  okC (N := ["events", "event"]) F sc_wipes_in rfl fun cdv A outer s H E hr =>
    dss_one (ds_ret (de_len (by rfl) h_len (dq_l (dl_lc (own := [("event", 1)]) (by rfl) sc_wipes_in.nd (dp_d (dv 0)) (blk_ok (by kernel_rfl)) (fun _ _ _ _ _ => dg_n (i := 1) sc_wipes_in.nd (by rfl) (by first | exact Or.inl rfl | exact Or.inr (Or.inl rfl) | exact Or.inr rfl | exact Or.inr (Or.inr rfl))) (fun _ _ _ _ _ => dts_one (dt_cmp op_lt ok_ic (dv 1) (de_int) rfl)) (fun _ _ _ _ _ => dv 1)))))
theorem sc_law : FnScope ["script", "turn", "web", "pairs", "deal", "frame", "events", "due", "told", "again", "steps", "mask", "late", "walk", "at", "event", "one"] ["script"] (L2.defScope s_law) := ⟨rfl, rfl, rfl, by decide +kernel, rfl, by decide +kernel, by decide +kernel⟩
theorem ok_law (D__law_all : Dfn P w K mg base "_law_all" 1 3 φ_L_all) (D__law_any : Dfn P w K mg base "_law_any" 2 1 φ_L_any) (D__law_behind_events : Dfn P w K mg base "_law_behind_events" 3 4 φ_L_behind_events) (D__law_bits : Dfn P w K mg base "_law_bits" 1 2 φ_L_bits) (D__law_deal : Dfn P w K mg base "_law_deal" 2 1 φ_L_deal) (D__law_events : Dfn P w K mg base "_law_events" 4 5 φ_L_events) (D__law_many : Dfn P w K mg base "_law_many" 1 1 φ_L_many) (D__law_row_frame : Dfn P w K mg base "_law_row_frame" 1 2 φ_L_row_frame) (D__law_some_frame : Dfn P w K mg base "_law_some_frame" 2 5 φ_L_some_frame) (D__law_some_mask : Dfn P w K mg base "_law_some_mask" 2 2 φ_L_some_mask) (D__law_web : Dfn P w K mg base "_law_web" 1 3 φ_L_web) (D_walked : Dfn P w K mg base "walked" 3 6 φ_walked) (D_wiped_walk : Dfn P w K mg base "wiped_walk" 3 5 φ_wiped_walk) (D_wipes_in : Dfn P w K mg base "wipes_in" 1 1 φ_wipes_in) (K_wiped_walk_events_standing_web : DfnK P w K mg base "wiped_walk" ["events", "standing", "web"] [2, 1, 0] 3 5 φ_wiped_walk) (K_wipes_in_events : DfnK P w K mg base "wipes_in" ["events"] [0] 1 1 φ_wipes_in) (h_len : mg "len" = none) (h_range : mg "range" = none) (h_tuple : mg "tuple" = none) (F : FunD K "law" "law" (L2.defArgs s_law) (L2.defBody s_law) (L2.defScope s_law) [] [] f fd) : FnOk P w K mg base CX0 7 f fd ["script"] (spF K mg 1 φ_law) :=
  okC (N := ["script", "turn", "web", "pairs", "deal", "frame", "events", "due", "told", "again", "steps", "mask", "late", "walk", "at", "event", "one"]) F sc_law rfl fun cdv A outer s H E hr =>
    dss_cons (ds_par (i := 4) (j := 3) (by rfl) sc_law.nd (by rfl) (by rfl) (by decide) (by rfl) (by rfl) (dv_d (de_callD D__law_deal (hr.mono (by decide)) (by rfl) (da_cons (dv 0) (da_cons (de_int) (da_nil))) (by rfl) (gCons_len (gCons_len (gNil_len))))) (dv_l (dl_lst (da_nil))))
    (dss_cons (ds_for PassesOwn.never (by rfl) (dp_rg (by rfl) h_range (de_int)) (dg_n (i := 1) sc_law.nd (by rfl) (by first | exact Or.inl rfl | exact Or.inr rfl)) (dss_cons (ds_asg (i := 5) sc_law.nd (by rfl) (dv_d (de_callD D__law_some_frame (hr.mono (by decide)) (by rfl) (da_cons (dv 4) (da_cons (de_int) (da_nil))) (by rfl) (gCons_len (gCons_len (gNil_len))))) (by first | exact Or.inl rfl | exact Or.inr rfl))
    (dss_cons (ds_par (i := 2) (j := 11) (by rfl) sc_law.nd (by rfl) (by rfl) (by decide) (by rfl) (by rfl) (dv_d (de_callD D__law_web (hr.mono (by decide)) (by rfl) (da_cons (dv 5) (da_nil)) (by rfl) (gCons_len (gNil_len)))) (dv_d (de_callD D__law_some_mask (hr.mono (by decide)) (by rfl) (da_cons (dv 4) (da_cons (dv 5) (da_nil))) (by rfl) (gCons_len (gCons_len (gNil_len))))))
    (dss_cons (ds_asg (i := 6) sc_law.nd (by rfl) (dv_d (de_callD D__law_events (hr.mono (by decide)) (by rfl) (da_cons (dv 4) (da_cons (dv 5) (da_cons (dv 11) (da_cons (de_callD D__law_any (hr.mono (by decide)) (by rfl) (da_cons (dv 4) (da_cons (de_int) (da_nil))) (by rfl) (gCons_len (gCons_len (gNil_len)))) (da_nil))))) (by rfl) (gCons_len (gCons_len (gCons_len (gCons_len (gNil_len))))))) (by first | exact Or.inl rfl | exact Or.inr rfl))
    (dss_cons (ds_asg (i := 7) sc_law.nd (by rfl) (dv_d (de_tuple (by rfl) h_tuple (dls_l (dl_lc (own := [("one", 16)]) (by rfl) sc_law.nd (dp_d (de_callD D__law_behind_events (hr.mono (by decide)) (by rfl) (da_cons (dv 5) (da_cons (dv 11) (da_cons (dv 6) (da_nil)))) (by rfl) (gCons_len (gCons_len (gCons_len (gNil_len)))))) (blk_ok (by kernel_rfl)) (fun _ _ _ _ _ => dg_n (i := 16) sc_law.nd (by rfl) (by first | exact Or.inl rfl | exact Or.inr (Or.inl rfl) | exact Or.inr rfl | exact Or.inr (Or.inr rfl))) (fun _ _ _ _ _ => dts_nil) (fun _ _ _ _ _ => de_callD D__law_bits (hr.mono (by decide)) (by rfl) (da_cons (dv 16) (da_nil)) (by rfl) (gCons_len (gNil_len))))))) (by first | exact Or.inl rfl | exact Or.inr rfl))
    (dss_cons (ds_asg (i := 8) sc_law.nd (by rfl) (dv_d (de_if (dt_cmp op_gt ok_ic (dv 1) (de_int) rfl) (de_callD D_wiped_walk (hr.mono (by decide)) (by rfl) (da_cons (dv 2) (da_cons (de_callD D__law_bits (hr.mono (by decide)) (by rfl) (da_cons (dv 11) (da_nil)) (by rfl) (gCons_len (gNil_len))) (da_cons (dv 6) (da_nil)))) (by rfl) (gCons_len (gCons_len (gCons_len (gNil_len))))) (de_callKD K_wiped_walk_events_standing_web (hr.mono (by decide)) (by rfl) (dk_cons (dv 6) (dk_cons (de_callD D__law_bits (hr.mono (by decide)) (by rfl) (da_cons (dv 11) (da_nil)) (by rfl) (gCons_len (gNil_len))) (dk_cons (dv 2) (dk_nil)))) (gCons_len (gCons_len (gCons_len (gNil_len)))) (by intro l hl; match l, hl with | [_, _, _], _ => rfl)))) (by first | exact Or.inl rfl | exact Or.inr rfl))
    (dss_cons (ds_asg (i := 3) sc_law.nd (by rfl) (dv_l (dl_cat (dlt_own 3) (dlt_l (dl_lst (da_cons (de_tup (da_cons (dv 8) (da_cons (dv 7) (da_nil)))) (da_nil)))))) (by first | exact Or.inl rfl | exact Or.inr rfl))
    (dss_cons (ds_asg (i := 3) sc_law.nd (by rfl) (dv_l (dl_cat (dlt_own 3) (dlt_l (dl_lst (da_cons (de_tup (da_cons (de_if (dt_cmp op_gt ok_ic (dv 1) (de_int) rfl) (de_callD D_wipes_in (hr.mono (by decide)) (by rfl) (da_cons (dv 6) (da_nil)) (by rfl) (gCons_len (gNil_len))) (de_callKD K_wipes_in_events (hr.mono (by decide)) (by rfl) (dk_cons (dv 6) (dk_nil)) (gCons_len (gNil_len)) (by intro l hl; match l, hl with | [_], _ => rfl))) (da_cons (de_len (by rfl) h_len (dq_l (dl_lc (own := [("one", 16)]) (by rfl) sc_law.nd (dp_d (dv 6)) (blk_ok (by kernel_rfl)) (fun _ _ _ _ _ => dg_n (i := 16) sc_law.nd (by rfl) (by first | exact Or.inl rfl | exact Or.inr (Or.inl rfl) | exact Or.inr rfl | exact Or.inr (Or.inr rfl))) (fun _ _ _ _ _ => dts_one (dt_cmp op_lt ok_ic (dv 16) (de_int) rfl)) (fun _ _ _ _ _ => dv 16)))) (da_nil)))) (da_nil)))))) (by first | exact Or.inl rfl | exact Or.inr rfl))
    (dss_cons (ds_for PassesOwn.never (by rfl) (dp_rg (by rfl) h_range (de_int)) (dg_n (i := 9) sc_law.nd (by rfl) (by first | exact Or.inl rfl | exact Or.inr rfl)) (dss_cons (ds_par (i := 14) (j := 15) (by rfl) sc_law.nd (by rfl) (by rfl) (by decide) (by rfl) (by rfl) (dv_d (de_callD D__law_any (hr.mono (by decide)) (by rfl) (da_cons (dv 4) (da_cons (de_add (de_len (by rfl) h_len (dq_d (dv 6))) (de_int)) (da_nil))) (by rfl) (gCons_len (gCons_len (gNil_len))))) (dv_d (de_sub (de_callD D__law_any (hr.mono (by decide)) (by rfl) (da_cons (dv 4) (da_cons (de_mul (de_int) (de_callD D__law_many (hr.mono (by decide)) (by rfl) (da_cons (dv 5) (da_nil)) (by rfl) (gCons_len (gNil_len)))) (da_nil))) (by rfl) (gCons_len (gCons_len (gNil_len)))) (de_callD D__law_many (hr.mono (by decide)) (by rfl) (da_cons (dv 5) (da_nil)) (by rfl) (gCons_len (gNil_len))))))
    (dss_cons (ds_asg (i := 12) sc_law.nd (by rfl) (dv_d (de_add (de_add (de_slT (dv 6) (do_n) (do_s (dv 14))) (de_tup (da_cons (dv 15) (da_nil)))) (de_slT (dv 6) (do_s (dv 14)) (do_n)))) (by first | exact Or.inl rfl | exact Or.inr rfl))
    (dss_cons (ds_asg (i := 13) sc_law.nd (by rfl) (dv_d (de_callD D__law_behind_events (hr.mono (by decide)) (by rfl) (da_cons (dv 5) (da_cons (dv 11) (da_cons (dv 12) (da_nil)))) (by rfl) (gCons_len (gCons_len (gCons_len (gNil_len)))))) (by first | exact Or.inl rfl | exact Or.inr rfl))
    (dss_one (ds_app 3 (pe_var (by rfl) (by first | exact Or.inl rfl | exact Or.inr (Or.inl rfl) | exact Or.inr (Or.inr rfl))) (de_tup (da_cons (de_callD D_wiped_walk (hr.mono (by decide)) (by rfl) (da_cons (dv 2) (da_cons (de_callD D__law_bits (hr.mono (by decide)) (by rfl) (da_cons (dv 11) (da_nil)) (by rfl) (gCons_len (gNil_len))) (da_cons (dv 12) (da_nil)))) (by rfl) (gCons_len (gCons_len (gCons_len (gNil_len))))) (da_cons (de_if (dt_cmp op_isC ok_isD (dv 13) (de_non) rfl) (de_non) (de_tuple (by rfl) h_tuple (dls_l (dl_lc (own := [("one", 16)]) (by rfl) sc_law.nd (dp_d (dv 13)) (blk_ok (by kernel_rfl)) (fun _ _ _ _ _ => dg_n (i := 16) sc_law.nd (by rfl) (by first | exact Or.inl rfl | exact Or.inr (Or.inl rfl) | exact Or.inr rfl | exact Or.inr (Or.inr rfl))) (fun _ _ _ _ _ => dts_nil) (fun _ _ _ _ _ => de_callD D__law_bits (hr.mono (by decide)) (by rfl) (da_cons (dv 16) (da_nil)) (by rfl) (gCons_len (gNil_len))))))) (da_nil))))))))))
    (dss_cons (ds_asg (i := 10) sc_law.nd (by rfl) (dv_d (de_tuple (by rfl) h_tuple (dls_l (dl_lc (own := [("one", 16)]) (by rfl) sc_law.nd (dp_d (dv 6)) (blk_ok (by kernel_rfl)) (fun _ _ _ _ _ => dg_n (i := 16) sc_law.nd (by rfl) (by first | exact Or.inl rfl | exact Or.inr (Or.inl rfl) | exact Or.inr rfl | exact Or.inr (Or.inr rfl))) (fun _ _ _ _ _ => dts_one (dt_cmp op_ge ok_ic (dv 16) (de_int) rfl)) (fun _ _ _ _ _ => dv 16))))) (by first | exact Or.inl rfl | exact Or.inr rfl))
    (dss_cons (ds_asg (i := 3) sc_law.nd (by rfl) (dv_l (dl_cat (dlt_own 3) (dlt_l (dl_lst (da_cons (de_tup (da_cons (de_callD D_wiped_walk (hr.mono (by decide)) (by rfl) (da_cons (dv 2) (da_cons (de_callD D__law_bits (hr.mono (by decide)) (by rfl) (da_cons (dv 11) (da_nil)) (by rfl) (gCons_len (gNil_len))) (da_cons (dv 10) (da_nil)))) (by rfl) (gCons_len (gCons_len (gCons_len (gNil_len))))) (da_cons (de_callD D_walked (hr.mono (by decide)) (by rfl) (da_cons (dv 2) (da_cons (de_callD D__law_bits (hr.mono (by decide)) (by rfl) (da_cons (dv 11) (da_nil)) (by rfl) (gCons_len (gNil_len))) (da_cons (dv 10) (da_nil)))) (by rfl) (gCons_len (gCons_len (gCons_len (gNil_len))))) (da_nil)))) (da_nil)))))) (by first | exact Or.inl rfl | exact Or.inr rfl))
    (dss_one (ds_asg (i := 3) sc_law.nd (by rfl) (dv_l (dl_cat (dlt_own 3) (dlt_l (dl_lst (da_cons (de_tup (da_cons (de_callD D_wiped_walk (hr.mono (by decide)) (by rfl) (da_cons (dv 2) (da_cons (de_callD D__law_bits (hr.mono (by decide)) (by rfl) (da_cons (dv 11) (da_nil)) (by rfl) (gCons_len (gNil_len))) (da_cons (de_tup (da_nil)) (da_nil)))) (by rfl) (gCons_len (gCons_len (gCons_len (gNil_len))))) (da_cons (de_tup (da_cons (de_callD D__law_bits (hr.mono (by decide)) (by rfl) (da_cons (dv 11) (da_nil)) (by rfl) (gCons_len (gNil_len))) (da_nil))) (da_nil)))) (da_nil)))))) (by first | exact Or.inl rfl | exact Or.inr rfl))))))))))))))
    (dss_cons (ds_asg (i := 2) sc_law.nd (by rfl) (dv_d (de_callD D__law_web (hr.mono (by decide)) (by rfl) (da_cons (de_callD D__law_row_frame (hr.mono (by decide)) (by rfl) (da_cons (de_fz (dl_lst (da_cons (de_int) (da_cons (de_int) (da_cons (de_int) (da_nil)))))) (da_nil)) (by rfl) (gCons_len (gNil_len))) (da_nil)) (by rfl) (gCons_len (gNil_len)))) (by first | exact Or.inl rfl | exact Or.inr rfl))
    (dss_cons (ds_asg (i := 3) sc_law.nd (by rfl) (dv_l (dl_cat (dlt_own 3) (dlt_l (dl_lst (da_cons (de_tup (da_cons (de_callD D_wiped_walk (hr.mono (by decide)) (by rfl) (da_cons (dv 2) (da_cons (de_tup (da_nil)) (da_cons (de_tup (da_cons (de_int) (da_cons (de_int) (da_cons (de_sub (de_int) (de_int)) (da_cons (de_int) (da_nil)))))) (da_nil)))) (by rfl) (gCons_len (gCons_len (gCons_len (gNil_len))))) (da_cons (de_tup (da_cons (de_tup (da_nil)) (da_cons (de_tup (da_cons (de_int) (da_nil))) (da_cons (de_tup (da_cons (de_int) (da_cons (de_int) (da_nil)))) (da_cons (de_tup (da_cons (de_int) (da_nil))) (da_cons (de_tup (da_cons (de_int) (da_cons (de_int) (da_nil)))) (da_nil))))))) (da_nil)))) (da_nil)))))) (by first | exact Or.inl rfl | exact Or.inr rfl))
    (dss_cons (ds_asg (i := 3) sc_law.nd (by rfl) (dv_l (dl_cat (dlt_own 3) (dlt_l (dl_lst (da_cons (de_tup (da_cons (de_callD D_wiped_walk (hr.mono (by decide)) (by rfl) (da_cons (dv 2) (da_cons (de_tup (da_nil)) (da_cons (de_tup (da_cons (de_sub (de_int) (de_int)) (da_nil))) (da_nil)))) (by rfl) (gCons_len (gCons_len (gCons_len (gNil_len))))) (da_cons (de_non) (da_nil)))) (da_nil)))))) (by first | exact Or.inl rfl | exact Or.inr rfl))
    (dss_cons (ds_asg (i := 3) sc_law.nd (by rfl) (dv_l (dl_cat (dlt_own 3) (dlt_l (dl_lst (da_cons (de_tup (da_cons (de_callD D_wiped_walk (hr.mono (by decide)) (by rfl) (da_cons (dv 2) (da_cons (de_tup (da_cons (de_int) (da_cons (de_int) (da_nil)))) (da_cons (de_tup (da_cons (de_sub (de_int) (de_int)) (da_cons (de_int) (da_nil)))) (da_nil)))) (by rfl) (gCons_len (gCons_len (gCons_len (gNil_len))))) (da_cons (de_tup (da_cons (de_tup (da_cons (de_int) (da_cons (de_int) (da_nil)))) (da_cons (de_tup (da_cons (de_int) (da_nil))) (da_cons (de_tup (da_nil)) (da_nil))))) (da_nil)))) (da_nil)))))) (by first | exact Or.inl rfl | exact Or.inr rfl))
    (dss_one (ds_ret (de_callD D__law_all (hr.mono (by decide)) (by rfl) (da_cons (de_fz (dl_cat (dlt_own 3) (dlt_l (dl_lst (da_cons (de_tup (da_cons (de_callD D_wipes_in (hr.mono (by decide)) (by rfl) (da_cons (de_tup (da_nil)) (da_nil)) (by rfl) (gCons_len (gNil_len))) (da_cons (de_int) (da_nil)))) (da_cons (de_tup (da_cons (de_callD D_wipes_in (hr.mono (by decide)) (by rfl) (da_cons (de_tup (da_cons (de_int) (da_cons (de_sub (de_int) (de_int)) (da_cons (de_int) (da_cons (de_sub (de_int) (de_int)) (da_nil)))))) (da_nil)) (by rfl) (gCons_len (gNil_len))) (da_cons (de_int) (da_nil)))) (da_cons (de_tup (da_cons (de_callD D_wiped_walk (hr.mono (by decide)) (by rfl) (da_cons (dv 2) (da_cons (de_tup (da_cons (de_int) (da_nil))) (da_cons (de_tup (da_cons (de_int) (da_nil))) (da_nil)))) (by rfl) (gCons_len (gCons_len (gCons_len (gNil_len))))) (da_cons (de_non) (da_nil)))) (da_nil)))))))) (da_nil)) (by rfl) (gCons_len (gNil_len))))))))))
end

theorem facts {P : Program} {w : World} {K : PySem.W.Frag} {h : Heap} {mg : Str → Option Value} {f : Addr} (X : K.In h) (G : h.Ns mainGlobals mg) (hfa : mg ("law" : Str) = some (.ref f)) (c : He.SaysD fa fn K) :
    ∃ fd : FuncData, (∀ (s : Shared) (v : Value), BindsTo s fd ⟨[v], []⟩ [("script", v)]) ∧ ∀ base : Heap, K.In base → base.Ns mainGlobals mg → FnOk P w K mg base CX0 7 f fd ["script"] (spF K mg 1 φ_law) := by
  have h_abs := He.free_ok X G (c.fact 57 (f := .free "abs") rfl)
  have h_bool := He.free_ok X G (c.fact 49 (f := .free "bool") rfl)
  have h_int := He.free_ok X G (c.fact 56 (f := .free "int") rfl)
  have h_isinstance := He.free_ok X G (c.fact 58 (f := .free "isinstance") rfl)
  have h_len := He.free_ok X G (c.fact 50 (f := .free "len") rfl)
  have h_list := He.free_ok X G (c.fact 54 (f := .free "list") rfl)
  have h_range := He.free_ok X G (c.fact 55 (f := .free "range") rfl)
  have h_set := He.free_ok X G (c.fact 51 (f := .free "set") rfl)
  have h_sorted := He.free_ok X G (c.fact 52 (f := .free "sorted") rfl)
  have h_str := He.free_ok X G (c.fact 60 (f := .free "str") rfl)
  have h_tuple := He.free_ok X G (c.fact 53 (f := .free "tuple") rfl)
  have h_zip := He.free_ok X G (c.fact 59 (f := .free "zip") rfl)
  have F_Web_lots : Fldn K mg "Web" "lots" := ⟨_, He.glo_ok X G (c.fact 43 (f := .glo "Web") rfl), He.cls_ok (c.fact 44 (f := .cls "Web") rfl), He.noat_ok (c.fact 48 (f := .noat "Web" "lots") rfl)⟩
  have F_Web_names : Fldn K mg "Web" "names" := ⟨_, He.glo_ok X G (c.fact 43 (f := .glo "Web") rfl), He.cls_ok (c.fact 44 (f := .cls "Web") rfl), He.noat_ok (c.fact 46 (f := .noat "Web" "names") rfl)⟩
  have F_Web_weights : Fldn K mg "Web" "weights" := ⟨_, He.glo_ok X G (c.fact 43 (f := .glo "Web") rfl), He.cls_ok (c.fact 44 (f := .cls "Web") rfl), He.noat_ok (c.fact 47 (f := .noat "Web" "weights") rfl)⟩
  obtain ⟨fd__law_all, Fn__law_all⟩ := c.def_ 25 (d := d_L_all) rfl
  obtain ⟨fd__law_any, Fn__law_any⟩ := c.def_ 20 (d := d_L_any) rfl
  obtain ⟨fd__law_behind_events, Fn__law_behind_events⟩ := c.def_ 40 (d := d_L_behind_events) rfl
  obtain ⟨fd__law_bits, Fn__law_bits⟩ := c.def_ 26 (d := d_L_bits) rfl
  obtain ⟨fd__law_borne, Fn__law_borne⟩ := c.def_ 38 (d := d_L_borne) rfl
  obtain ⟨fd__law_deal, Fn__law_deal⟩ := c.def_ 19 (d := d_L_deal) rfl
  obtain ⟨fd__law_drawn_frame, Fn__law_drawn_frame⟩ := c.def_ 34 (d := d_L_drawn_frame) rfl
  obtain ⟨fd__law_drawn_lots, Fn__law_drawn_lots⟩ := c.def_ 33 (d := d_L_drawn_lots) rfl
  obtain ⟨fd__law_events, Fn__law_events⟩ := c.def_ 41 (d := d_L_events) rfl
  obtain ⟨fd__law_flip, Fn__law_flip⟩ := c.def_ 39 (d := d_L_flip) rfl
  obtain ⟨fd__law_frame, Fn__law_frame⟩ := c.def_ 30 (d := d_L_frame) rfl
  obtain ⟨fd__law_holds, Fn__law_holds⟩ := c.def_ 28 (d := d_L_holds) rfl
  obtain ⟨fd__law_is_kind, Fn__law_is_kind⟩ := c.def_ 23 (d := d_L_is_kind) rfl
  obtain ⟨fd__law_letters_of, Fn__law_letters_of⟩ := c.def_ 31 (d := d_L_letters_of) rfl
  obtain ⟨fd__law_many, Fn__law_many⟩ := c.def_ 29 (d := d_L_many) rfl
  obtain ⟨fd__law_mixed, Fn__law_mixed⟩ := c.def_ 22 (d := d_L_mixed) rfl
  obtain ⟨fd__law_of, Fn__law_of⟩ := c.def_ 21 (d := d_L_of) rfl
  obtain ⟨fd__law_row_frame, Fn__law_row_frame⟩ := c.def_ 35 (d := d_L_row_frame) rfl
  obtain ⟨fd__law_same, Fn__law_same⟩ := c.def_ 24 (d := d_L_same) rfl
  obtain ⟨fd__law_some_frame, Fn__law_some_frame⟩ := c.def_ 36 (d := d_L_some_frame) rfl
  obtain ⟨fd__law_some_mask, Fn__law_some_mask⟩ := c.def_ 37 (d := d_L_some_mask) rfl
  obtain ⟨fd__law_two, Fn__law_two⟩ := c.def_ 27 (d := d_L_two) rfl
  obtain ⟨fd__law_web, Fn__law_web⟩ := c.def_ 32 (d := d_L_web) rfl
  obtain ⟨fd_behind_event, Fn_behind_event⟩ := c.def_ 16 (d := d_behind_event) rfl
  obtain ⟨fd_is_borne, Fn_is_borne⟩ := c.def_ 10 (d := d_is_borne) rfl
  obtain ⟨fd_is_within, Fn_is_within⟩ := c.def_ 2 (d := d_is_within) rfl
  obtain ⟨fd_joined, Fn_joined⟩ := c.def_ 8 (d := d_joined) rfl
  obtain ⟨fd_less_one, Fn_less_one⟩ := c.def_ 9 (d := d_less_one) rfl
  obtain ⟨fd_let_at, Fn_let_at⟩ := c.def_ 11 (d := d_let_at) rfl
  obtain ⟨fd_lot_of_lots, Fn_lot_of_lots⟩ := c.def_ 43 (d := d_lot_of__lot_of_lots) rfl
  obtain ⟨fd_lot_of_words, Fn_lot_of_words⟩ := c.def_ 1 (d := d_lot_of_words) rfl
  obtain ⟨fd_stepped_standings, Fn_stepped_standings⟩ := c.def_ 13 (d := d_stepped_standings) rfl
  obtain ⟨fd_stepped_wipegraph, Fn_stepped_wipegraph⟩ := c.def_ 44 (d := d_stepped__stepped_wipegraph) rfl
  obtain ⟨fd_turned_thing, Fn_turned_thing⟩ := c.def_ 12 (d := d_turned_thing) rfl
  obtain ⟨fd_unlike, Fn_unlike⟩ := c.def_ 0 (d := d_unlike) rfl
  obtain ⟨fd_walked, Fn_walked⟩ := c.def_ 14 (d := d_walked) rfl
  obtain ⟨fd_wiped_walk, Fn_wiped_walk⟩ := c.def_ 17 (d := d_wiped_walk) rfl
  obtain ⟨fd_wipes_in, Fn_wipes_in⟩ := c.def_ 18 (d := d_wipes_in) rfl
  obtain ⟨fd_with_thing, Fn_with_thing⟩ := c.def_ 3 (d := d_with_thing) rfl
  obtain ⟨fd_without_thing, Fn_without_thing⟩ := c.def_ 4 (d := d_without_thing) rfl
  obtain ⟨fd_law, Fn_law⟩ := c.def_ 42 (d := d_law) rfl
  obtain ⟨fdM_Web, Fm_Web⟩ := c.def_ 5 (d := d_Web_init) rfl
  have e := hfa.symm.trans (He.glo_ok X G (c.fact 42 (f := .glo "law") rfl))
  cases e
  have b := FunD.bindsA (ps := ["script"]) Fn_law fun _ _ _ _ _ _ us hl => match us, hl with | [_], _ => rfl
  refine ⟨fd_law, fun s v => b s [v] rfl, fun base _ _ => ?_⟩
  have D__law_is_kind : Dfn P w K mg base "_law_is_kind" 2 1 φ_L_is_kind := ⟨_, fd__law_is_kind, ["told", "due"], ok_L_is_kind h_bool h_int h_isinstance h_str Fn__law_is_kind, He.glo_ok X G (c.fact 23 (f := .glo "_law_is_kind") rfl), Fn__law_is_kind.kp, Fn__law_is_kind.bindsN fun _ _ _ _ _ _ us hl => match us, hl with | [_, _], _ => rfl⟩
  have D__law_same : Dfn P w K mg base "_law_same" 2 2 φ_L_same := ⟨_, fd__law_same, ["told", "due"], ok_L_same D__law_is_kind h_isinstance h_len h_list h_tuple h_zip Fn__law_same, He.glo_ok X G (c.fact 24 (f := .glo "_law_same") rfl), Fn__law_same.kp, Fn__law_same.bindsN fun _ _ _ _ _ _ us hl => match us, hl with | [_, _], _ => rfl⟩
  have D__law_all : Dfn P w K mg base "_law_all" 1 3 φ_L_all := ⟨_, fd__law_all, ["pairs"], ok_L_all D__law_same h_len Fn__law_all, He.glo_ok X G (c.fact 25 (f := .glo "_law_all") rfl), Fn__law_all.kp, Fn__law_all.bindsN fun _ _ _ _ _ _ us hl => match us, hl with | [_], _ => rfl⟩
  have D__law_any : Dfn P w K mg base "_law_any" 2 1 φ_L_any := ⟨_, fd__law_any, ["deal", "bound"], ok_L_any h_int h_len Fn__law_any, He.glo_ok X G (c.fact 20 (f := .glo "_law_any") rfl), Fn__law_any.kp, Fn__law_any.bindsN fun _ _ _ _ _ _ us hl => match us, hl with | [_, _], _ => rfl⟩
  have D__law_two : Dfn P w K mg base "_law_two" 1 1 φ_L_two := ⟨_, fd__law_two, ["many"], ok_L_two h_range Fn__law_two, He.glo_ok X G (c.fact 27 (f := .glo "_law_two") rfl), Fn__law_two.kp, Fn__law_two.bindsN fun _ _ _ _ _ _ us hl => match us, hl with | [_], _ => rfl⟩
  have D__law_holds : Dfn P w K mg base "_law_holds" 2 2 φ_L_holds := ⟨_, fd__law_holds, ["mask", "lot"], ok_L_holds D__law_two h_int h_len Fn__law_holds, He.glo_ok X G (c.fact 28 (f := .glo "_law_holds") rfl), Fn__law_holds.kp, Fn__law_holds.bindsN fun _ _ _ _ _ _ us hl => match us, hl with | [_, _], _ => rfl⟩
  have D__law_borne : Dfn P w K mg base "_law_borne" 3 3 φ_L_borne := ⟨_, fd__law_borne, ["frame", "mask", "thing"], ok_L_borne D__law_holds h_len Fn__law_borne, He.glo_ok X G (c.fact 38 (f := .glo "_law_borne") rfl), Fn__law_borne.kp, Fn__law_borne.bindsN fun _ _ _ _ _ _ us hl => match us, hl with | [_, _, _], _ => rfl⟩
  have D__law_flip : Dfn P w K mg base "_law_flip" 2 2 φ_L_flip := ⟨_, fd__law_flip, ["mask", "thing"], ok_L_flip D__law_two h_int Fn__law_flip, He.glo_ok X G (c.fact 39 (f := .glo "_law_flip") rfl), Fn__law_flip.kp, Fn__law_flip.bindsN fun _ _ _ _ _ _ us hl => match us, hl with | [_, _], _ => rfl⟩
  have D__law_behind_events : Dfn P w K mg base "_law_behind_events" 3 4 φ_L_behind_events := ⟨_, fd__law_behind_events, ["frame", "mask", "events"], ok_L_behind_events D__law_borne D__law_flip D__law_two h_int Fn__law_behind_events, He.glo_ok X G (c.fact 40 (f := .glo "_law_behind_events") rfl), Fn__law_behind_events.kp, Fn__law_behind_events.bindsN fun _ _ _ _ _ _ us hl => match us, hl with | [_, _, _], _ => rfl⟩
  have D__law_bits : Dfn P w K mg base "_law_bits" 1 2 φ_L_bits := ⟨_, fd__law_bits, ["mask"], ok_L_bits D__law_two h_int h_range h_tuple Fn__law_bits, He.glo_ok X G (c.fact 26 (f := .glo "_law_bits") rfl), Fn__law_bits.kp, Fn__law_bits.bindsN fun _ _ _ _ _ _ us hl => match us, hl with | [_], _ => rfl⟩
  have D__law_deal : Dfn P w K mg base "_law_deal" 2 1 φ_L_deal := ⟨_, fd__law_deal, ["script", "salt"], ok_L_deal h_abs h_int Fn__law_deal, He.glo_ok X G (c.fact 19 (f := .glo "_law_deal") rfl), Fn__law_deal.kp, Fn__law_deal.bindsN fun _ _ _ _ _ _ us hl => match us, hl with | [_, _], _ => rfl⟩
  have D__law_many : Dfn P w K mg base "_law_many" 1 1 φ_L_many := ⟨_, fd__law_many, ["frame"], ok_L_many h_len Fn__law_many, He.glo_ok X G (c.fact 29 (f := .glo "_law_many") rfl), Fn__law_many.kp, Fn__law_many.bindsN fun _ _ _ _ _ _ us hl => match us, hl with | [_], _ => rfl⟩
  have D__law_of : Dfn P w K mg base "_law_of" 2 2 φ_L_of := ⟨_, fd__law_of, ["deal", "some"], ok_L_of D__law_any h_len Fn__law_of, He.glo_ok X G (c.fact 21 (f := .glo "_law_of") rfl), Fn__law_of.kp, Fn__law_of.bindsN fun _ _ _ _ _ _ us hl => match us, hl with | [_, _], _ => rfl⟩
  have D__law_events : Dfn P w K mg base "_law_events" 4 5 φ_L_events := ⟨_, fd__law_events, ["deal", "frame", "mask", "many"], ok_L_events D__law_behind_events D__law_bits D__law_borne D__law_many D__law_of h_range h_tuple Fn__law_events, He.glo_ok X G (c.fact 41 (f := .glo "_law_events") rfl), Fn__law_events.kp, Fn__law_events.bindsN fun _ _ _ _ _ _ us hl => match us, hl with | [_, _, _, _], _ => rfl⟩
  have D__law_frame : Dfn P w K mg base "_law_frame" 2 1 φ_L_frame := ⟨_, fd__law_frame, ["weights", "lots"], ok_L_frame h_list h_sorted Fn__law_frame, He.glo_ok X G (c.fact 30 (f := .glo "_law_frame") rfl), Fn__law_frame.kp, Fn__law_frame.bindsN fun _ _ _ _ _ _ us hl => match us, hl with | [_, _], _ => rfl⟩
  have D__law_row_frame : Dfn P w K mg base "_law_row_frame" 1 2 φ_L_row_frame := ⟨_, fd__law_row_frame, ["weights"], ok_L_row_frame D__law_frame h_len h_range Fn__law_row_frame, He.glo_ok X G (c.fact 35 (f := .glo "_law_row_frame") rfl), Fn__law_row_frame.kp, Fn__law_row_frame.bindsN fun _ _ _ _ _ _ us hl => match us, hl with | [_], _ => rfl⟩
  have D__law_mixed : Dfn P w K mg base "_law_mixed" 2 2 φ_L_mixed := ⟨_, fd__law_mixed, ["deal", "some"], ok_L_mixed D__law_any h_len h_list h_range Fn__law_mixed, He.glo_ok X G (c.fact 22 (f := .glo "_law_mixed") rfl), Fn__law_mixed.kp, Fn__law_mixed.bindsN fun _ _ _ _ _ _ us hl => match us, hl with | [_, _], _ => rfl⟩
  have D__law_drawn_lots : Dfn P w K mg base "_law_drawn_lots" 2 3 φ_L_drawn_lots := ⟨_, fd__law_drawn_lots, ["deal", "thing"], ok_L_drawn_lots D__law_any D__law_mixed h_len h_list h_range h_sorted h_tuple Fn__law_drawn_lots, He.glo_ok X G (c.fact 33 (f := .glo "_law_drawn_lots") rfl), Fn__law_drawn_lots.kp, Fn__law_drawn_lots.bindsN fun _ _ _ _ _ _ us hl => match us, hl with | [_, _], _ => rfl⟩
  have D__law_drawn_frame : Dfn P w K mg base "_law_drawn_frame" 2 4 φ_L_drawn_frame := ⟨_, fd__law_drawn_frame, ["deal", "limit"], ok_L_drawn_frame D__law_any D__law_drawn_lots D__law_frame D__law_of h_range Fn__law_drawn_frame, He.glo_ok X G (c.fact 34 (f := .glo "_law_drawn_frame") rfl), Fn__law_drawn_frame.kp, Fn__law_drawn_frame.bindsN fun _ _ _ _ _ _ us hl => match us, hl with | [_, _], _ => rfl⟩
  have D__law_some_frame : Dfn P w K mg base "_law_some_frame" 2 5 φ_L_some_frame := ⟨_, fd__law_some_frame, ["deal", "limit"], ok_L_some_frame D__law_any D__law_drawn_frame D__law_of D__law_row_frame h_range Fn__law_some_frame, He.glo_ok X G (c.fact 36 (f := .glo "_law_some_frame") rfl), Fn__law_some_frame.kp, Fn__law_some_frame.bindsN fun _ _ _ _ _ _ us hl => match us, hl with | [_, _], _ => rfl⟩
  have D__law_some_mask : Dfn P w K mg base "_law_some_mask" 2 2 φ_L_some_mask := ⟨_, fd__law_some_mask, ["deal", "frame"], ok_L_some_mask D__law_any D__law_many D__law_two Fn__law_some_mask, He.glo_ok X G (c.fact 37 (f := .glo "_law_some_mask") rfl), Fn__law_some_mask.kp, Fn__law_some_mask.bindsN fun _ _ _ _ _ _ us hl => match us, hl with | [_, _], _ => rfl⟩
  have D__law_letters_of : Dfn P w K mg base "_law_letters_of" 1 2 φ_L_letters_of := ⟨_, fd__law_letters_of, ["frame"], ok_L_letters_of D__law_many h_range Fn__law_letters_of, He.glo_ok X G (c.fact 31 (f := .glo "_law_letters_of") rfl), Fn__law_letters_of.kp, Fn__law_letters_of.bindsN fun _ _ _ _ _ _ us hl => match us, hl with | [_], _ => rfl⟩
  have M_Web : Mkn P w K mg base "Web" 4 1 φ_Web_init := ⟨_, _, fdM_Web, ["self", "names", "weights", "lots"], He.mkr_ok (c.fact 45 (f := .mkr "Web") rfl), ok_Web_init F_Web_lots F_Web_names F_Web_weights Fm_Web, He.glo_ok X G (c.fact 43 (f := .glo "Web") rfl), Fm_Web.bindsN fun _ _ _ _ _ _ us hl => match us, hl with | [_, _, _, _], _ => rfl⟩
  have D__law_web : Dfn P w K mg base "_law_web" 1 3 φ_L_web := ⟨_, fd__law_web, ["frame"], ok_L_web D__law_letters_of M_Web h_tuple Fn__law_web, He.glo_ok X G (c.fact 32 (f := .glo "_law_web") rfl), Fn__law_web.kp, Fn__law_web.bindsN fun _ _ _ _ _ _ us hl => match us, hl with | [_], _ => rfl⟩
  have D_is_within : Dfn P w K mg base "is_within" 2 1 φ_is_within := ⟨_, fd_is_within, ["lot", "other"], ok_is_within  Fn_is_within, He.glo_ok X G (c.fact 2 (f := .glo "is_within") rfl), Fn_is_within.kp, Fn_is_within.bindsN fun _ _ _ _ _ _ us hl => match us, hl with | [_, _], _ => rfl⟩
  have D_is_borne : Dfn P w K mg base "is_borne" 3 2 φ_is_borne := ⟨_, fd_is_borne, ["web", "standing", "thing"], ok_is_borne D_is_within F_Web_lots Fn_is_borne, He.glo_ok X G (c.fact 9 (f := .glo "is_borne") rfl), Fn_is_borne.kp, Fn_is_borne.bindsN fun _ _ _ _ _ _ us hl => match us, hl with | [_, _, _], _ => rfl⟩
  have D_unlike : Dfn P w K mg base "unlike" 1 1 φ_unlike := ⟨_, fd_unlike, ["things"], ok_unlike h_list Fn_unlike, He.glo_ok X G (c.fact 0 (f := .glo "unlike") rfl), Fn_unlike.kp, Fn_unlike.bindsN fun _ _ _ _ _ _ us hl => match us, hl with | [_], _ => rfl⟩
  have D_lot_of_words : Dfn P w K mg base "lot_of_words" 1 2 φ_lot_of_words := ⟨_, fd_lot_of_words, ["things"], ok_lot_of_words D_unlike h_sorted h_tuple Fn_lot_of_words, He.glo_ok X G (c.fact 1 (f := .glo "lot_of_words") rfl), Fn_lot_of_words.kp, Fn_lot_of_words.bindsN fun _ _ _ _ _ _ us hl => match us, hl with | [_], _ => rfl⟩
  have D_with_thing : Dfn P w K mg base "with_thing" 2 3 φ_with_thing := ⟨_, fd_with_thing, ["lot", "thing"], ok_with_thing D_lot_of_words Fn_with_thing, He.glo_ok X G (c.fact 3 (f := .glo "with_thing") rfl), Fn_with_thing.kp, Fn_with_thing.bindsN fun _ _ _ _ _ _ us hl => match us, hl with | [_, _], _ => rfl⟩
  have D_without_thing : Dfn P w K mg base "without_thing" 2 1 φ_without_thing := ⟨_, fd_without_thing, ["lot", "thing"], ok_without_thing h_tuple Fn_without_thing, He.glo_ok X G (c.fact 4 (f := .glo "without_thing") rfl), Fn_without_thing.kp, Fn_without_thing.bindsN fun _ _ _ _ _ _ us hl => match us, hl with | [_, _], _ => rfl⟩
  have D_turned_thing : Dfn P w K mg base "turned_thing" 2 4 φ_turned_thing := ⟨_, fd_turned_thing, ["standing", "thing"], ok_turned_thing D_with_thing D_without_thing Fn_turned_thing, He.glo_ok X G (c.fact 11 (f := .glo "turned_thing") rfl), Fn_turned_thing.kp, Fn_turned_thing.bindsN fun _ _ _ _ _ _ us hl => match us, hl with | [_, _], _ => rfl⟩
  have D_stepped_standings : Dfn P w K mg base "stepped_standings" 3 5 φ_stepped_standings := ⟨_, fd_stepped_standings, ["web", "standing", "thing"], ok_stepped_standings D_is_borne D_turned_thing Fn_stepped_standings, He.glo_ok X G (c.fact 12 (f := .glo "stepped_standings") rfl), Fn_stepped_standings.kp, Fn_stepped_standings.bindsN fun _ _ _ _ _ _ us hl => match us, hl with | [_, _, _], _ => rfl⟩
  have D_walked : Dfn P w K mg base "walked" 3 6 φ_walked := ⟨_, fd_walked, ["web", "standing", "steps"], ok_walked D_stepped_standings h_tuple Fn_walked, He.glo_ok X G (c.fact 13 (f := .glo "walked") rfl), Fn_walked.kp, Fn_walked.bindsN fun _ _ _ _ _ _ us hl => match us, hl with | [_, _, _], _ => rfl⟩
  have D_less_one : Dfn P w K mg base "less_one" 2 1 φ_less_one := ⟨_, fd_less_one, ["lot", "thing"], ok_less_one h_tuple Fn_less_one, He.glo_ok X G (c.fact 8 (f := .glo "less_one") rfl), Fn_less_one.kp, Fn_less_one.bindsN fun _ _ _ _ _ _ us hl => match us, hl with | [_, _], _ => rfl⟩
  have D_let_at : Dfn P w K mg base "let_at" 2 3 φ_let_at := ⟨_, fd_let_at, ["web", "standing"], ok_let_at D_is_borne F_Web_names h_len h_range h_tuple Fn_let_at, He.glo_ok X G (c.fact 10 (f := .glo "let_at") rfl), Fn_let_at.kp, Fn_let_at.bindsN fun _ _ _ _ _ _ us hl => match us, hl with | [_, _], _ => rfl⟩
  have D_lot_of_lots : Dfn P w K mg base "lot_of_lots" 1 1 φ_lot_of := ⟨_, fd_lot_of_lots, ["things"], ok_lot_of h_set h_sorted h_tuple Fn_lot_of_lots, He.glo_ok X G (c.fact 6 (f := .glo "lot_of_lots") rfl), Fn_lot_of_lots.kp, Fn_lot_of_lots.bindsN fun _ _ _ _ _ _ us hl => match us, hl with | [_], _ => rfl⟩
  have D_joined : Dfn P w K mg base "joined" 2 2 φ_joined := ⟨_, fd_joined, ["one", "other"], ok_joined D_lot_of_lots h_list Fn_joined, He.glo_ok X G (c.fact 7 (f := .glo "joined") rfl), Fn_joined.kp, Fn_joined.bindsN fun _ _ _ _ _ _ us hl => match us, hl with | [_, _], _ => rfl⟩
  have D_stepped_wipegraph : Dfn P w K mg base "stepped_wipegraph" 2 3 φ_stepped := ⟨_, fd_stepped_wipegraph, ["standing", "thing"], ok_stepped D_joined D_less_one Fn_stepped_wipegraph, He.glo_ok X G (c.fact 15 (f := .glo "stepped_wipegraph") rfl), Fn_stepped_wipegraph.kp, Fn_stepped_wipegraph.bindsN fun _ _ _ _ _ _ us hl => match us, hl with | [_, _], _ => rfl⟩
  have D_behind_event : Dfn P w K mg base "behind_event" 3 4 φ_behind_event := ⟨_, fd_behind_event, ["web", "standing", "event"], ok_behind_event D_less_one D_let_at D_stepped_wipegraph Fn_behind_event, He.glo_ok X G (c.fact 16 (f := .glo "behind_event") rfl), Fn_behind_event.kp, Fn_behind_event.bindsN fun _ _ _ _ _ _ us hl => match us, hl with | [_, _, _], _ => rfl⟩
  have D_wiped_walk : Dfn P w K mg base "wiped_walk" 3 5 φ_wiped_walk := ⟨_, fd_wiped_walk, ["web", "standing", "events"], ok_wiped_walk D_behind_event h_tuple Fn_wiped_walk, He.glo_ok X G (c.fact 17 (f := .glo "wiped_walk") rfl), Fn_wiped_walk.kp, Fn_wiped_walk.bindsN fun _ _ _ _ _ _ us hl => match us, hl with | [_, _, _], _ => rfl⟩
  have K_wiped_walk_events_standing_web : DfnK P w K mg base "wiped_walk" ["events", "standing", "web"] [2, 1, 0] 3 5 φ_wiped_walk := ⟨_, fd_wiped_walk, ["web", "standing", "events"], ok_wiped_walk D_behind_event h_tuple Fn_wiped_walk, He.glo_ok X G (c.fact 17 (f := .glo "wiped_walk") rfl), Fn_wiped_walk.kp, Py.FunD.bindsK0 Fn_wiped_walk fun _ _ _ _ _ _ us hl => match us, hl with | [_, _, _], _ => rfl⟩
  have D_wipes_in : Dfn P w K mg base "wipes_in" 1 1 φ_wipes_in := ⟨_, fd_wipes_in, ["events"], ok_wipes_in h_len Fn_wipes_in, He.glo_ok X G (c.fact 18 (f := .glo "wipes_in") rfl), Fn_wipes_in.kp, Fn_wipes_in.bindsN fun _ _ _ _ _ _ us hl => match us, hl with | [_], _ => rfl⟩
  have K_wipes_in_events : DfnK P w K mg base "wipes_in" ["events"] [0] 1 1 φ_wipes_in := ⟨_, fd_wipes_in, ["events"], ok_wipes_in h_len Fn_wipes_in, He.glo_ok X G (c.fact 18 (f := .glo "wipes_in") rfl), Fn_wipes_in.kp, Py.FunD.bindsK0 Fn_wipes_in fun _ _ _ _ _ _ us hl => match us, hl with | [_], _ => rfl⟩
  exact ok_law D__law_all D__law_any D__law_behind_events D__law_bits D__law_deal D__law_events D__law_many D__law_row_frame D__law_some_frame D__law_some_mask D__law_web D_walked D_wiped_walk D_wipes_in K_wiped_walk_events_standing_web K_wipes_in_events h_len h_range h_tuple Fn_law

end Onl
namespace Onl
open PySem PySem.Spec Py

/-! ### powers of two, bits -/
def nD (k : Nat) : D := .int (k : Int)
def tn (l : List Nat) : D := .tup (l.map nD)
theorem rg_nat (k : Nat) : rgD 0 k = (List.range k).map nD := by
  unfold rgD nD
  refine List.map_congr_left fun i _ => ?_
  rw [Int.zero_add]
theorem v_rg {g : Env' → Cm D} {ρ : Env'} {M M1 : Stor} {k : Nat} (h : g ρ M = some (nD k, M1)) (hk : k ≤ 16000000) : gRg g ρ M = some ((List.range k).map nD, M1) := by
  unfold gRg
  rw [h, bnd_some]
  have e1 : (lim : Int) = 16000000 := rfl
  show (if (k : Int) ≤ (lim : Int) ∧ -(lim : Int) ≤ (k : Int) then some (rgD 0 (k : Int).toNat, M1) else none) = _
  rw [if_pos (by omega), Int.toNat_natCast, rg_nat]
theorem two_ok {k : Nat} {M : Stor} (hk : k ≤ 64) (hM : wfM M = true) : φ_L_two [nD k] M = some (nD (2 ^ k), M) := by
  have key : ∃ ρ' M', forL (gtN 2) (gAsg 1 (gSd (gBin dMul (gC (.int 2)) (gVar 1)))) ((List.range k).map nD) [.dat (nD k), .dat (.int 1), .un] M = some ((.nx, ρ'), M') ∧ (M' = M ∧ ∃ s, ρ' = [.dat (nD k), .dat (nD (2 ^ (0 + ((List.range k).map nD).length))), s]) := by
    refine forL_inv (fun i ρ M' => M' = M ∧ ∃ s, ρ = [.dat (nD k), .dat (nD (2 ^ i)), s]) (k := 0) ⟨rfl, .un, rfl⟩ fun i d ρ M' hd ⟨e1, s, e2⟩ => ?_
    subst e1 e2
    have hi : i < k := by
      have := (List.getElem?_eq_some_iff.mp hd).1
      simpa using this
    refine ⟨_, _, _, rfl, s_asg (by simp [env0]) (v_sd (v_bin v_c (v_var rfl) (dmul_int ?_))), rfl, .dat d, ?_⟩
    · unfold cMul
      rw [Int.natAbs_natCast, Nat.log2_two_pow]
      have : (2 : Int).natAbs.log2 = 1 := by decide
      exact decide_eq_true (by omega)
    · have : (2 : Int) * ((2 ^ (0 + i) : Nat) : Int) = ((2 ^ (0 + i + 1) : Nat) : Int) := by
        rw [Nat.pow_succ]; omega
      rw [this]; rfl
  obtain ⟨ρ', M', h1, h2, s, h3⟩ := key
  subst h2 h3
  rw [List.length_map, List.length_range, Nat.zero_add] at h1
  exact run_ret rfl (s_seq (s_asg (by simp [env0]) (v_sd v_c)) (s_seq (s_for (v_rg (v_var rfl) (by omega)) h1) (s_ret (v_var rfl)))) hM rfl
theorem fdiv_nat (a b : Nat) : (a : Int).fdiv (b : Int) = ((a / b : Nat) : Int) := by
  rw [Int.fdiv_eq_ediv_of_nonneg _ (Int.natCast_nonneg b)]; rfl
theorem fmod_nat (a b : Nat) : (a : Int).fmod (b : Int) = ((a % b : Nat) : Int) := by
  rw [Int.fmod_eq_emod_of_nonneg _ (Int.natCast_nonneg b)]; rfl
/-- int(mask // two) % 2 -/
def bitI (m t : Nat) : Int := if m.testBit t then 1 else 0
theorem v_bit {gm gt : Env' → Cm D} {ρ : Env'} {M M1 M2 : Stor} {m t : Nat} (h1 : gm ρ M = some (nD m, M1)) (h2 : gt ρ M1 = some (nD (2 ^ t), M2)) (ht : t ≤ 29) : gBin dMod (gInt (gBin dFdiv gm gt)) (gC (.int 2)) ρ M = some (.int (bitI m t), M2) := by
  have hp := Nat.two_pow_pos t
  have hlt : 2 ^ t < 1073741824 := Nat.lt_of_le_of_lt (Nat.pow_le_pow_right (by decide) ht) (by decide)
  refine v_bin (v_int (v_bin h1 h2 (dfdiv_int (by omega) (by rw [Int.natAbs_natCast]; exact hlt)))) v_c ?_
  have e : bitI m t = ((m : Int).fdiv ((2 ^ t : Nat) : Int)).fmod 2 := by
    rw [fdiv_nat, show (2 : Int) = ((2 : Nat) : Int) from rfl, fmod_nat]
    unfold bitI
    rw [Nat.testBit_eq_decide_div_mod_eq]
    rcases Nat.mod_two_eq_zero_or_one (m / 2 ^ t) with h | h <;> simp [h]
  rw [e]
  exact dmod_int (by decide)
theorem v_two {t : Nat} {g : Env' → Cm D} {ρ : Env'} {M : Stor} (h : g ρ M = some (nD t, M)) (hM : wfM M = true) (ht : t ≤ 64) : gCall φ_L_two (Py.gCons g Py.gNil) ρ M = some (nD (2 ^ t), M) := v_call (v_cons h v_nil) (two_ok ht hM)
def bits (m : Nat) : List Nat := (List.range 12).filter m.testBit
theorem lcLts_nD (n : Nat) : ∀ l : List Nat, lcLts n (l.map nD) = true
  | [] => rfl
  | _ :: l => by rw [List.map_cons, lcLts, lcLts_nD n l]; rfl
theorem lcLt_tn (n : Nat) (l : List Nat) : lcLt n (tn l) = true := lcLts_nD n l
theorem lim_eq : lim = 16000000 := rfl
theorem bits_ok {m : Nat} {M : Stor} (hM : wfM M = true) : φ_L_bits [nD m] M = some (tn (bits m), M) := by
  refine run_ret rfl (s_ret (v_tuple (gLc_map nD m.testBit nD (v_rg (k := 12) v_c (by decide)) (by decide) fun t ht => ?_))) hM (lcLt_tn _ (bits m))
  have ht : t < 12 := List.mem_range.mp ht
  refine ⟨[.dat (nD m), .dat (nD t)], rfl, ?_, fun _ => rfl⟩
  have e : m.testBit t = decide (bitI m t = 1) := by unfold bitI; cases m.testBit t <;> rfl
  rw [e]
  exact v_tb (v_bin (v_bit (t := t) (v_var rfl) (v_two (v_var rfl) hM (by omega)) (by omega)) v_c deq_int)
theorem none_all {α β : Type} {p : α → Bool} {f : α → β} {l : List α} : decide ((((l.filter fun t => !p t).map f).length : Int) = 0) = l.all p := by
  rw [List.length_map]
  cases q : l.all p with
  | true =>
    have : l.filter (fun t => !p t) = [] := List.filter_eq_nil_iff.mpr fun t ht => by
      have := List.all_eq_true.mp q t ht
      simp [this]
    rw [this]; rfl
  | false =>
    refine decide_eq_false fun h => ?_
    have h2 : l.filter (fun t => !p t) = [] := List.length_eq_zero_iff.mp (by omega)
    have h3 := List.filter_eq_nil_iff.mp h2
    have h4 : l.all p = true := List.all_eq_true.mpr fun t ht => by
      have := h3 t ht
      simpa using this
    rw [h4] at q; cases q
theorem some_any {α β : Type} {p : α → Bool} {f : α → β} {l : List α} : decide ((0 : Int) < (((l.filter p).map f).length : Int)) = l.any p := by
  rw [List.length_map]
  cases q : l.any p with
  | true =>
    obtain ⟨t, ht, hp⟩ := List.any_eq_true.mp q
    have : t ∈ l.filter p := List.mem_filter.mpr ⟨ht, hp⟩
    have := List.length_pos_of_mem this
    exact decide_eq_true (by omega)
  | false =>
    have : l.filter p = [] := List.filter_eq_nil_iff.mpr fun t ht hp => by
      have : l.any p = true := List.any_eq_true.mpr ⟨t, ht, hp⟩
      rw [this] at q; cases q
    rw [this]; rfl
theorem holds_ok {m : Nat} {lot : List Nat} {M : Stor} (hM : wfM M = true) (hl : ∀ t ∈ lot, t < 12) (hz : lot.length ≤ lim) : φ_L_holds [nD m, tn lot] M = some (.bl (lot.all m.testBit), M) := by
  have e : lot.all m.testBit = decide ((((lot.filter fun t => !m.testBit t).map nD).length : Int) = 0) := none_all.symm
  rw [e]
  refine run_ret rfl (s_ret (v_bin (v_len (gLc_map nD (fun t => !m.testBit t) nD (v_qd (v_var rfl) rfl) hz fun t ht => ?_)) v_c deq_int)) hM rfl
  have ht := hl t ht
  refine ⟨[.dat (nD m), .dat (tn lot), .dat (nD t)], rfl, ?_, fun _ => rfl⟩
  have e : (!m.testBit t) = decide (bitI m t = 0) := by unfold bitI; cases m.testBit t <;> rfl
  rw [e]
  exact v_tb (v_bin (v_bit (t := t) (v_var rfl) (v_two (v_var rfl) hM (by omega)) (by omega)) v_c deq_int)
/-! ### frames -/
def lotsD (lots : List (List (List Nat))) : D := .lst (lots.map fun some => .lst (some.map tn))
def frD (ws : List Int) (lots : List (List (List Nat))) : D := .dct [(.str "weights", .lst (ws.map D.int)), (.str "lots", lotsD lots)]
/-- what is asked of a frame -/
structure Fr (ws : List Int) (lots : List (List (List Nat))) (n : Nat) : Prop where
  lw : ws.length = n
  ll : lots.length = n
  hn : n ≤ 12
  few : ∀ some ∈ lots, some.length ≤ lim
  lot : ∀ some ∈ lots, ∀ lot ∈ some, lot.length ≤ 12 ∧ ∀ t ∈ lot, t < n
def borneM (lots : List (List (List Nat))) (m t : Nat) : Bool := (lots[t]?.getD []).any fun lot => lot.all m.testBit
theorem v_lots {g : Env' → Cm D} {ws : List Int} {lots : List (List (List Nat))} {ρ : Env'} {M M1 : Stor} (h : g ρ M = some (frD ws lots, M1)) : gDGet g (gC (.str "lots")) ρ M = some (lotsD lots, M1) := v_dget h v_c rfl rfl rfl
theorem v_weights {g : Env' → Cm D} {ws : List Int} {lots : List (List (List Nat))} {ρ : Env'} {M M1 : Stor} (h : g ρ M = some (frD ws lots, M1)) : gDGet g (gC (.str "weights")) ρ M = some (.lst (ws.map D.int), M1) := v_dget h v_c rfl rfl rfl
theorem atI_nat {α : Type} {l : List α} {k : Nat} {x : α} (h : l[k]? = some x) : L2.atI l (k : Int) = some x := by
  have hk := (List.getElem?_eq_some_iff.mp h).1
  unfold L2.atI
  have e : L2.ixN l.length (k : Int) = some k := by
    unfold L2.ixN
    simp
    omega
  rw [e]
  exact h
theorem borne_ok {ws : List Int} {lots : List (List (List Nat))} {n m t : Nat} {M : Stor} (hM : wfM M = true) (F : Fr ws lots n) (ht : t < n) : φ_L_borne [frD ws lots, nD m, nD t] M = some (.bl (borneM lots m t), M) := by
  have hl : t < lots.length := by rw [F.ll]; exact ht
  have e : lots[t]? = some lots[t] := List.getElem?_eq_getElem hl
  unfold borneM
  rw [e, Option.getD_some, ← some_any (f := tn)]
  refine run_ret rfl (s_ret (v_bin (v_len (gLc_map tn (fun lot => lot.all m.testBit) tn (v_qd (v_ix (v_qd (v_lots (v_var rfl)) rfl) (v_var rfl) (atI_nat (x := .lst (lots[t].map tn)) (by rw [List.getElem?_map, e]; rfl))) rfl) (F.few _ (List.getElem_mem hl)) fun lot hm => ?_)) v_c dgt_int)) hM rfl
  obtain ⟨h1, h2⟩ := F.lot _ (List.getElem_mem hl) lot hm
  have h3 := F.hn
  exact ⟨[.dat (frD ws lots), .dat (nD m), .dat (nD t), .dat (tn lot)], rfl, v_tb (v_call (v_cons (v_var rfl) (v_cons (v_var rfl) v_nil)) (holds_ok hM (fun t ht => by have := h2 t ht; omega) (by rw [lim_eq]; omega))), fun _ => v_var rfl⟩
def flipM (m t : Nat) : Nat := if m.testBit t then m - 2 ^ t else m + 2 ^ t
theorem flip_ok {m t : Nat} {M : Stor} (hM : wfM M = true) (ht : t ≤ 29) : φ_L_flip [nD m, nD t] M = some (nD (flipM m t), M) := by
  refine run_ret rfl (s_seq (s_asg (by simp [env0]) (v_sd (v_two (v_var rfl) hM (by omega)))) (s_ret ?_)) hM rfl
  have hb : gTb (gBin dEq (gBin dMod (gInt (gBin dFdiv (gVar 0) (gVar 2))) (gC (.int 2))) (gC (.int 1))) [.dat (nD m), .dat (nD t), .dat (nD (2 ^ t))] M = some (m.testBit t, M) := by
    have e : m.testBit t = decide (bitI m t = 1) := by unfold bitI; cases m.testBit t <;> rfl
    rw [e]
    exact v_tb (v_bin (v_bit (t := t) (v_var rfl) (v_var rfl) ht) v_c deq_int)
  unfold flipM
  cases q : m.testBit t with
  | true =>
    rw [q] at hb
    have hge := Nat.ge_two_pow_of_testBit q
    refine v_ifT hb (v_bin (v_var rfl) (v_var rfl) ?_)
    rw [if_pos rfl]
    have : nD (m - 2 ^ t) = .int ((m : Int) - ((2 ^ t : Nat) : Int)) := by unfold nD; rw [Int.ofNat_sub hge]
    rw [this]; exact dsub_int
  | false =>
    rw [q] at hb
    exact v_ifF hb (v_bin (v_var rfl) (v_var rfl) (by rw [if_neg (by decide)]; rfl))
end Onl
namespace Onl
open PySem PySem.Spec Py

/-! ### events over masks -/
def thE (e : Int) : Nat := if 0 ≤ e then e.toNat else (-1 - e).toNat
def stepM (lots : List (List (List Nat))) (m : Nat) (e : Int) : Option Nat :=
  if (decide (e < 0) && !m.testBit (thE e)) || (decide (0 ≤ e) && !borneM lots m (thE e)) then none else some (flipM m (thE e))
/-- the masks behind each event -/
def walkM (lots : List (List (List Nat))) : Nat → List Int → Option (List Nat)
  | _, [] => some []
  | m, e :: es => match stepM lots m e with
    | some m' => (walkM lots m' es).map (m' :: ·)
    | none => none
def okE (n : Nat) (e : Int) : Prop := -(n : Int) ≤ e ∧ e < (n : Int)
theorem thE_lt {n : Nat} {e : Int} (h : okE n e) : thE e < n := by
  obtain ⟨h1, h2⟩ := h
  unfold thE
  split <;> omega
theorem thE_eq {e : Int} : ((thE e : Nat) : Int) = if 0 ≤ e then e else -1 - e := by
  unfold thE
  split <;> omega
theorem last_nD {ms : List Nat} {m : Nat} : L2.atI ((ms ++ [m]).map nD) (-1) = some (nD m) := by
  unfold L2.atI
  have e : L2.ixN ((ms ++ [m]).map nD).length (-1) = some ms.length := by
    unfold L2.ixN
    simp
    omega
  rw [e]
  simp
abbrev bodyBE : GS := gSeq (gAsg 5 (gSd (gIf (gTb (gBin dGe (gVar 4) (gC (.int 0)))) (gVar 4) (gBin dSub (gBin dSub (gC (.int 0)) (gC (.int 1))) (gVar 4))))) (gSeq (gAsg 6 (gSd (gBin dEq (gBin dMod (gInt (gBin dFdiv (gIx (gOwn 3) (gUn dNeg (gC (.int 1)))) (gCall φ_L_two (Py.gCons (gVar 5) (Py.gNil))))) (gC (.int 2))) (gC (.int 1))))) (gSeq (gIfS (gOr (gAnd (gTb (gBin dLt (gVar 4) (gC (.int 0)))) (gNot (gTb (gVar 6)))) (gAnd (gTb (gBin dGe (gVar 4) (gC (.int 0)))) (gNot (gTb (gCall φ_L_borne (Py.gCons (gVar 0) (Py.gCons (gIx (gOwn 3) (gUn dNeg (gC (.int 1)))) (Py.gCons (gVar 5) (Py.gNil))))))))) (Py.gRet (gC .non)) (gPass)) (gApp 3 (gCall φ_L_flip (Py.gCons (gIx (gOwn 3) (gUn dNeg (gC (.int 1)))) (Py.gCons (gVar 5) (Py.gNil)))))))
theorem be_th {ws : List Int} {lots : List (List (List Nat))} {m0 : D} {M : Stor} {e : Int} {ms : List D} {ed : D} {s5 s6 : Slot} :
    gIf (gTb (gBin dGe (gVar 4) (gC (.int 0)))) (gVar 4) (gBin dSub (gBin dSub (gC (.int 0)) (gC (.int 1))) (gVar 4)) [.dat (frD ws lots), .dat m0, .dat ed, .lst ms, .dat (.int e), s5, s6] M = some (nD (thE e), M) := by
  have h1 : gTb (gBin dGe (gVar 4) (gC (.int 0))) [.dat (frD ws lots), .dat m0, .dat ed, .lst ms, .dat (.int e), s5, s6] M = some (decide ((0 : Int) ≤ e), M) := v_tb (v_bin (v_var rfl) v_c dge_int)
  unfold nD
  rw [thE_eq]
  by_cases h : 0 ≤ e
  · rw [decide_eq_true h] at h1
    rw [if_pos h]
    exact v_ifT h1 (v_var rfl)
  · rw [decide_eq_false h] at h1
    rw [if_neg h]
    exact v_ifF h1 (v_bin (v_bin v_c v_c dsub_int) (v_var rfl) dsub_int)
theorem be_step {ws : List Int} {lots : List (List (List Nat))} {n m : Nat} {m0 : D} {M : Stor} (hM : wfM M = true) (F : Fr ws lots n) {e : Int} (he : okE n e) {ms : List Nat} (hz : ms.length < lim) {ed : D} {s5 s6 : Slot} :
    (stepM lots m e = none → ∃ ρ', bodyBE [.dat (frD ws lots), .dat m0, .dat ed, .lst ((ms ++ [m]).map nD), .dat (.int e), s5, s6] M = some ((.rt .non, ρ'), M)) ∧
    (∀ m', stepM lots m e = some m' → ∃ s5' s6', bodyBE [.dat (frD ws lots), .dat m0, .dat ed, .lst ((ms ++ [m]).map nD), .dat (.int e), s5, s6] M = some ((.nx, [.dat (frD ws lots), .dat m0, .dat ed, .lst ((ms ++ [m] ++ [m']).map nD), .dat (.int e), s5', s6']), M)) := by
  have ht := thE_lt he
  have hn := F.hn
  generalize hρ : [Slot.dat (frD ws lots), .dat m0, .dat ed, .lst ((ms ++ [m]).map nD), .dat (.int e), .dat (nD (thE e)), .dat (.bl (m.testBit (thE e)))] = ρ2
  have h12 : ∀ r, gSeq (gIfS (gOr (gAnd (gTb (gBin dLt (gVar 4) (gC (.int 0)))) (gNot (gTb (gVar 6)))) (gAnd (gTb (gBin dGe (gVar 4) (gC (.int 0)))) (gNot (gTb (gCall φ_L_borne (Py.gCons (gVar 0) (Py.gCons (gIx (gOwn 3) (gUn dNeg (gC (.int 1)))) (Py.gCons (gVar 5) (Py.gNil))))))))) (Py.gRet (gC .non)) (gPass)) (gApp 3 (gCall φ_L_flip (Py.gCons (gIx (gOwn 3) (gUn dNeg (gC (.int 1)))) (Py.gCons (gVar 5) (Py.gNil))))) ρ2 M = r →
      bodyBE [.dat (frD ws lots), .dat m0, .dat ed, .lst ((ms ++ [m]).map nD), .dat (.int e), s5, s6] M = r := fun r hr => by
    refine s_seq (s_asg (by simp) (v_sd be_th)) (s_seq (s_asg (by simp) (v_sd (v_bin (v_bit (m := m) (t := thE e) (v_ix (v_own rfl) (v_un v_c dneg_int) last_nD) (v_two (v_var rfl) hM (by omega)) (by omega)) v_c deq_int))) ?_)
    have eb : m.testBit (thE e) = decide (bitI m (thE e) = 1) := by unfold bitI; cases m.testBit (thE e) <;> rfl
    rw [← eb]
    rw [← hρ] at hr
    exact hr
  have hcond : gOr (gAnd (gTb (gBin dLt (gVar 4) (gC (.int 0)))) (gNot (gTb (gVar 6)))) (gAnd (gTb (gBin dGe (gVar 4) (gC (.int 0)))) (gNot (gTb (gCall φ_L_borne (Py.gCons (gVar 0) (Py.gCons (gIx (gOwn 3) (gUn dNeg (gC (.int 1)))) (Py.gCons (gVar 5) (Py.gNil)))))))) ρ2 M = some ((decide (e < 0) && !m.testBit (thE e)) || (decide (0 ≤ e) && !borneM lots m (thE e)), M) := by
    rw [← hρ]
    exact v_or (v_and (v_tb (v_bin (v_var rfl) v_c dlt_int)) (fun _ => v_not (v_tb (v_var rfl))) fun _ => rfl) (fun _ => v_and (v_tb (v_bin (v_var rfl) v_c dge_int)) (fun _ => v_not (v_tb (v_call (v_cons (v_var rfl) (v_cons (v_ix (v_own rfl) (v_un v_c dneg_int) last_nD) (v_cons (v_var rfl) v_nil))) (borne_ok hM F ht)))) fun _ => rfl) fun _ => rfl
  unfold stepM
  cases q : (decide (e < 0) && !m.testBit (thE e)) || (decide (0 ≤ e) && !borneM lots m (thE e)) with
  | true =>
    rw [q] at hcond
    refine ⟨fun _ => ⟨ρ2, h12 _ (s_seqR (fl := .nx) (s_ifT hcond (s_ret v_c)))⟩, fun m' h => by simp at h⟩
  | false =>
    rw [q] at hcond
    refine ⟨fun h => by simp at h, fun m' h => ?_⟩
    have h : flipM m (thE e) = m' := by simpa using h
    subst h
    refine ⟨.dat (nD (thE e)), .dat (.bl (m.testBit (thE e))), h12 _ (s_seq (s_ifF hcond s_pass) ?_)⟩
    rw [← hρ, List.map_append (l₁ := ms ++ [m])]
    refine s_app rfl (v_call (v_cons (v_ix (v_own rfl) (v_un v_c dneg_int) last_nD) (v_cons (v_var rfl) v_nil)) (flip_ok hM (by omega))) ?_
    rw [List.length_map, List.length_append, List.length_singleton]
    exact hz
theorem be_loop {ws : List Int} {lots : List (List (List Nat))} {n : Nat} {m0 ed : D} {M : Stor} (hM : wfM M = true) (F : Fr ws lots n) : ∀ {es : List Int} {m : Nat} {ms : List Nat} {s4 s5 s6 : Slot}, (∀ e ∈ es, okE n e) → ms.length + es.length < lim →
    (walkM lots m es = none → ∃ ρ', forL (gtN 4) bodyBE (es.map D.int) [.dat (frD ws lots), .dat m0, .dat ed, .lst ((ms ++ [m]).map nD), s4, s5, s6] M = some ((.rt .non, ρ'), M)) ∧
    (∀ r, walkM lots m es = some r → ∃ s4' s5' s6', forL (gtN 4) bodyBE (es.map D.int) [.dat (frD ws lots), .dat m0, .dat ed, .lst ((ms ++ [m]).map nD), s4, s5, s6] M = some ((.nx, [.dat (frD ws lots), .dat m0, .dat ed, .lst ((ms ++ [m] ++ r).map nD), s4', s5', s6']), M))
  | [], m, ms, s4, s5, s6, _, _ => ⟨fun h => (by cases h), fun r h => (by cases h; rw [List.append_nil]; exact ⟨s4, s5, s6, rfl⟩)⟩
  | e :: es, m, ms, s4, s5, s6, he, hz => by
    rw [List.length_cons] at hz
    obtain ⟨b1, b2⟩ := be_step (m0 := m0) (ed := ed) (s5 := s5) (s6 := s6) hM F (m := m) (he e (List.mem_cons_self ..)) (ms := ms) (by omega)
    unfold walkM
    cases q : stepM lots m e with
    | none =>
      obtain ⟨ρ', h⟩ := b1 q
      exact ⟨fun _ => ⟨ρ', forL_rt rfl h⟩, fun r h => (by cases h)⟩
    | some m' =>
      obtain ⟨s5', s6', h⟩ := b2 m' q
      obtain ⟨i1, i2⟩ := be_loop hM F (m0 := m0) (ed := ed) (es := es) (m := m') (ms := ms ++ [m]) (s4 := .dat (.int e)) (s5 := s5') (s6 := s6') (fun e he' => he e (List.mem_cons_of_mem _ he')) (by rw [List.length_append, List.length_singleton]; omega)
      dsimp only
      cases q2 : walkM lots m' es with
      | none =>
        obtain ⟨ρ', h3⟩ := i1 q2
        exact ⟨fun _ => ⟨ρ', forL_nx rfl h h3⟩, fun r h => (by cases h)⟩
      | some r =>
        obtain ⟨t4, t5, t6, h3⟩ := i2 r q2
        refine ⟨fun h => (by cases h), fun r' h' => ?_⟩
        have h' : m' :: r = r' := Option.some.inj h'
        subst h'
        refine ⟨t4, t5, t6, forL_nx rfl h ?_⟩
        rw [h3, List.append_assoc (ms ++ [m])]
        rfl
def msD (r : Option (List Nat)) (m : Nat) : D := match r with
  | some r => .lst ((m :: r).map nD)
  | none => .non
theorem behind_ok {ws : List Int} {lots : List (List (List Nat))} {n m : Nat} {es : List Int} {ed : D} {M : Stor} (hM : wfM M = true) (F : Fr ws lots n) (he : ∀ e ∈ es, okE n e) (hz : es.length < lim) (hs : seqD ed = some (es.map D.int)) :
    φ_L_behind_events [frD ws lots, nD m, ed] M = some (msD (walkM lots m es) m, M) := by
  obtain ⟨i1, i2⟩ := be_loop hM F (m0 := nD m) (ed := ed) (es := es) (m := m) (ms := []) (s4 := .un) (s5 := .un) (s6 := .un) he (by simpa using hz)
  have h0 : ∀ r, gSeq (gFor (gQd (gVar 2)) (gtN 4) bodyBE) (gRetOwn 3) [.dat (frD ws lots), .dat (nD m), .dat ed, .lst (([] ++ [m]).map nD), .un, .un, .un] M = r → g_L_behind_events (env0 7 [frD ws lots, nD m, ed]) M = r := fun r hr =>
    s_seq (s_asg (by simp [env0]) (v_sl (v_lst (v_cons (v_var rfl) v_nil) (show 1 ≤ lim by decide)))) hr
  cases q : walkM lots m es with
  | none =>
    obtain ⟨ρ', h⟩ := i1 q
    exact run_ret rfl (h0 _ (s_seqR (fl := .nx) (s_for (v_qd (v_var rfl) hs) h))) hM rfl
  | some r =>
    obtain ⟨t4, t5, t6, h⟩ := i2 r q
    obtain ⟨ρ', hr⟩ := s_retOwn (i := 3) (ρ := [.dat (frD ws lots), .dat (nD m), .dat ed, .lst (([] ++ [m] ++ r).map nD), t4, t5, t6]) (M := M) rfl
    refine run_ret rfl (h0 _ (s_seq (s_for (v_qd (v_var rfl) hs) h) hr)) hM ?_
    exact lcLts_nD _ (m :: r)
end Onl
namespace Onl
open PySem PySem.Spec Py

/-! ### one bit turned -/
theorem add_test {m t j : Nat} (h : m.testBit t = false) : (m + 2 ^ t).testBit j = if j = t then true else m.testBit j := by
  rcases Nat.lt_trichotomy j t with hj | hj | hj
  · rw [if_neg (by omega), Nat.add_comm, Nat.testBit_two_pow_add_gt hj]
  · subst hj
    rw [if_pos rfl, Nat.add_comm, Nat.testBit_two_pow_add_eq, h]; rfl
  · rw [if_neg (by omega)]
    have e : (m + 2 ^ t) / 2 ^ (t + 1) = m / 2 ^ (t + 1) := by
      rw [Nat.pow_succ, ← Nat.div_div_eq_div_mul, ← Nat.div_div_eq_div_mul, Nat.add_div_right _ (Nat.two_pow_pos t)]
      rw [Nat.testBit_eq_decide_div_mod_eq] at h
      have := of_decide_eq_false h
      omega
    obtain ⟨i, rfl⟩ : ∃ i, j = i + (t + 1) := ⟨j - (t + 1), by omega⟩
    rw [Nat.testBit_add, Nat.testBit_add, e]
theorem flip_test (m t j : Nat) : (flipM m t).testBit j = if j = t then !m.testBit t else m.testBit j := by
  unfold flipM
  cases q : m.testBit t with
  | false =>
    rw [if_neg (by decide), add_test q]
    rfl
  | true =>
    rw [if_pos rfl]
    have hge := Nat.ge_two_pow_of_testBit q
    have e : m = (m - 2 ^ t) + 2 ^ t := by omega
    have h0 : (m - 2 ^ t).testBit t = false := by
      have h1 : (2 ^ t + (m - 2 ^ t)).testBit t = !(m - 2 ^ t).testBit t := Nat.testBit_two_pow_add_eq ..
      rw [show 2 ^ t + (m - 2 ^ t) = m by omega, q] at h1
      cases h2 : (m - 2 ^ t).testBit t
      · rfl
      · rw [h2] at h1; cases h1
    by_cases hj : j = t
    · rw [if_pos hj, hj, h0]; rfl
    · rw [if_neg hj]
      have h2 := add_test (j := j) h0
      rw [← e, if_neg hj] at h2
      exact h2.symm
theorem mem_bits {m j : Nat} : j ∈ bits m ↔ j < 12 ∧ m.testBit j = true := by
  unfold bits
  rw [List.mem_filter, List.mem_range]
theorem bits_sorted (m : Nat) : (bits m).Pairwise (· < ·) := (List.pairwise_lt_range (n := 12)).filter _
theorem bits_nodup (m : Nat) : (bits m).Nodup := (bits_sorted m).imp fun h => Nat.ne_of_lt h
theorem bits_len (m : Nat) : (bits m).length ≤ 12 := by
  unfold bits
  exact Nat.le_trans (List.length_filter_le _ _) (by simp)
theorem bits_off {m t : Nat} (h : m.testBit t = true) : (bits m).filter (fun j => j != t) = bits (flipM m t) := by
  unfold bits
  rw [List.filter_filter]
  refine List.filter_congr fun j _ => ?_
  rw [flip_test]
  by_cases e : j = t
  · subst e
    rw [if_pos rfl, h, bne_self_eq_false]; rfl
  · rw [if_neg e, bne_iff_ne.mpr e, Bool.true_and]
/-! ### ints in lists -/
theorem mem_nD {t : Nat} {l : List Nat} : memF (nD t) (l.map nD) = decide (t ∈ l) := by
  unfold memF
  rw [List.any_map]
  have e : ((fun d => eqF d (nD t)) ∘ nD) = fun k => k == t := by
    funext k
    show ((k : Int) == (t : Int)) = (k == t)
    rw [Bool.eq_iff_iff, beq_iff_eq, beq_iff_eq]
    omega
  rw [e]
  by_cases h : t ∈ l
  · rw [decide_eq_true h]
    exact List.any_eq_true.mpr ⟨t, h, by simp⟩
  · rw [decide_eq_false h]
    refine Bool.eq_false_iff.mpr fun q => h ?_
    obtain ⟨k, hk, e⟩ := List.any_eq_true.mp q
    have : k = t := by simpa using e
    exact this ▸ hk
theorem flat_nD (l : List Nat) : (l.map nD).all flatD = true := by
  rw [List.all_map]
  exact List.all_eq_true.mpr fun _ _ => rfl
theorem toPs_ints : ∀ l : List Nat, PyData.canLayAll0 (toPs (l.map nD)) = true ∧ PyData.depthAll (toPs (l.map nD)) ≤ 1
  | [] => ⟨rfl, by decide⟩
  | k :: l => by
    obtain ⟨h1, h2⟩ := toPs_ints l
    refine ⟨?_, ?_⟩
    · rw [List.map_cons, toPs, PyData.canLayAll0, h1]; rfl
    · rw [List.map_cons, toPs, PyData.depthAll]
      have : PyData.depth (toP (nD k)) ≤ 1 := by simp [nD, toP, PyData.depth]
      omega
theorem toPs_tns : ∀ l : List (List Nat), PyData.canLayAll0 (toPs (l.map tn)) = true ∧ PyData.depthAll (toPs (l.map tn)) ≤ 2
  | [] => ⟨rfl, by decide⟩
  | k :: l => by
    obtain ⟨h1, h2⟩ := toPs_tns l
    obtain ⟨h3, h4⟩ := toPs_ints k
    refine ⟨?_, ?_⟩
    · rw [List.map_cons, toPs, PyData.canLayAll0, h1, tn, toP, PyData.canLay0, h3]; rfl
    · rw [List.map_cons, toPs, PyData.depthAll, tn, toP, PyData.depth]
      omega
theorem shp_ints (l : List Nat) : shp (.lst (l.map nD)) = true := by
  obtain ⟨h1, h2⟩ := toPs_ints l
  unfold shp SeqAt.shaped
  rw [toP, PyData.canLay0, h1, PyData.depth, decide_eq_true (by omega)]; rfl
theorem shp_tns (l : List (List Nat)) : shp (.lst (l.map tn)) = true := by
  obtain ⟨h1, h2⟩ := toPs_tns l
  unfold shp SeqAt.shaped
  rw [toP, PyData.canLay0, h1, PyData.depth, decide_eq_true (by omega)]; rfl
theorem eqD_nil (l : List D) : eqD (.lst l) (.lst []) = l.isEmpty := by
  cases l <;> rfl
theorem deq_nilI (l : List Nat) : dEq (.lst (l.map nD)) (.lst []) = some (.bl l.isEmpty) := by
  unfold dEq
  rw [shp_ints, eqD_nil, List.isEmpty_map]; rfl
theorem dne_nilT (l : List (List Nat)) : dNe (.lst (l.map tn)) (.lst []) = some (.bl (!l.isEmpty)) := by
  unfold dNe
  rw [shp_tns, eqD_nil, List.isEmpty_map]; rfl
/-! ### webs -/
def webD (names : List D) (ws : List Int) (lots : List (List (List Nat))) : D := .obj "Web" [("names", .tup names), ("weights", .tup (ws.map D.int)), ("lots", .tup (lots.map fun some => .tup (some.map tn)))]
theorem empty_all {α : Type} {p : α → Bool} {l : List α} : (l.filter fun t => !p t).isEmpty = l.all p := by
  rw [← none_all (f := fun x : α => x) (l := l) (p := p), List.map_id']
  cases (l.filter fun t => !p t) with
  | nil => rfl
  | cons a b => exact (decide_eq_false (by rw [List.length_cons]; omega)).symm
theorem full_any {α : Type} {p : α → Bool} {l : List α} : (!(l.filter p).isEmpty) = l.any p := by
  rw [← some_any (f := fun x : α => x) (l := l) (p := p), List.map_id']
  cases l.filter p with
  | nil => rfl
  | cons a b => exact (decide_eq_true (by rw [List.length_cons]; omega)).symm
theorem within_ok {lot st : List Nat} {M : Stor} (hM : wfM M = true) (hz : lot.length ≤ lim) : φ_is_within [tn lot, tn st] M = some (.bl (lot.all fun t => decide (t ∈ st)), M) := by
  rw [← empty_all]
  refine run_ret rfl (s_ret (v_bin (v_fz (gLc_map nD (fun t => !decide (t ∈ st)) nD (v_qd (v_var rfl) rfl) hz fun t ht => ?_)) (v_fz (v_lst v_nil (Nat.zero_le _))) (deq_nilI _))) hM rfl
  refine ⟨[.dat (tn lot), .dat (tn st), .dat (nD t)], rfl, ?_, fun _ => rfl⟩
  rw [← mem_nD]
  exact v_tb (v_in (v_var rfl) (v_qd (v_var rfl) rfl) rfl (flat_nD st))
def borneP (lots : List (List (List Nat))) (st : List Nat) (t : Nat) : Bool := (lots[t]?.getD []).any fun lot => lot.all fun t => decide (t ∈ st)
theorem pborne_ok {ns : List D} {ws : List Int} {lots : List (List (List Nat))} {n t : Nat} {st : List Nat} {M : Stor} (hM : wfM M = true) (F : Fr ws lots n) (ht : t < n) : φ_is_borne [webD ns ws lots, tn st, nD t] M = some (.bl (borneP lots st t), M) := by
  have hl : t < lots.length := by rw [F.ll]; exact ht
  have e : lots[t]? = some lots[t] := List.getElem?_eq_getElem hl
  unfold borneP
  rw [e, Option.getD_some, ← full_any]
  refine run_ret rfl (s_ret (v_bin (v_fz (gLc_map tn (fun lot => lot.all fun t => decide (t ∈ st)) tn (v_qd (v_ix (v_qd (v_fld (v_var rfl) rfl) rfl) (v_var rfl) (atI_nat (x := .tup (lots[t].map tn)) (by rw [List.getElem?_map, e]; rfl))) rfl) (F.few _ (List.getElem_mem hl)) fun lot hm => ?_)) (v_fz (v_lst v_nil (Nat.zero_le _))) (dne_nilT _))) hM rfl
  obtain ⟨h1, h2⟩ := F.lot _ (List.getElem_mem hl) lot hm
  exact ⟨[.dat (webD ns ws lots), .dat (tn st), .dat (nD t), .dat (tn lot)], rfl, v_tb (v_call (v_cons (v_var rfl) (v_cons (v_var rfl) v_nil)) (within_ok hM (by rw [lim_eq]; omega))), fun _ => v_var rfl⟩
theorem borne_eq {ws : List Int} {lots : List (List (List Nat))} {n m t : Nat} (F : Fr ws lots n) (ht : t < n) : borneP lots (bits m) t = borneM lots m t := by
  have hl : t < lots.length := by rw [F.ll]; exact ht
  have e : lots[t]? = some lots[t] := List.getElem?_eq_getElem hl
  unfold borneP borneM
  rw [e, Option.getD_some]
  have hp : ∀ lot ∈ lots[t], (lot.all fun t => decide (t ∈ bits m)) = lot.all m.testBit := fun lot hm => by
    obtain ⟨_, h2⟩ := F.lot _ (List.getElem_mem hl) lot hm
    have h3 := F.hn
    rw [Bool.eq_iff_iff, List.all_eq_true, List.all_eq_true]
    refine forall_congr' fun j => forall_congr' fun hj => ?_
    have := h2 j hj
    rw [decide_eq_true_iff, mem_bits]
    exact ⟨fun h => h.2, fun h => ⟨by omega, h⟩⟩
  rw [Bool.eq_iff_iff, List.any_eq_true, List.any_eq_true]
  exact ⟨fun ⟨x, h1, h2⟩ => ⟨x, h1, (hp x h1) ▸ h2⟩, fun ⟨x, h1, h2⟩ => ⟨x, h1, (hp x h1).symm ▸ h2⟩⟩
theorem lessone_ok {st : List Nat} {t : Nat} {M : Stor} (hM : wfM M = true) (hz : st.length ≤ lim) : φ_less_one [tn st, nD t] M = some (tn (st.filter fun j => j != t), M) := by
  refine run_ret rfl (s_ret (v_tuple (gLc_map nD (fun j => j != t) nD (v_qd (v_var rfl) rfl) hz fun j hj => ?_))) hM (lcLt_tn _ _)
  refine ⟨[.dat (tn st), .dat (nD t), .dat (nD j)], rfl, ?_, fun _ => rfl⟩
  have e : (j != t) = !decide ((j : Int) = (t : Int)) := by
    by_cases h : j = t
    · subst h; simp
    · have : ¬ (j : Int) = (t : Int) := by omega
      simp [h, this]
  rw [e]
  exact v_tb (v_bin (v_var rfl) (v_var rfl) dne_int)
theorem without_ok {st : List Nat} {t : Nat} {M : Stor} (hM : wfM M = true) (hz : st.length ≤ lim) : φ_without_thing [tn st, nD t] M = some (tn (st.filter fun j => j != t), M) := lessone_ok hM hz
theorem ints_nD : ∀ l : List Nat, intsOf (l.map nD) = some (l.map fun (k : Nat) => (k : Int))
  | [] => rfl
  | k :: l => by
    rw [List.map_cons, nD, intsOf, ints_nD l]; rfl
theorem cast_sorted {l : List Nat} (h : l.Pairwise (· < ·)) : (l.map fun (k : Nat) => (k : Int)).Pairwise (· < ·) := List.pairwise_map.mpr (h.imp fun q => by omega)
theorem map_int (l : List Nat) : (l.map fun (k : Nat) => (k : Int)).map D.int = l.map nD := by rw [List.map_map]; rfl
theorem lot_ok {l st : List Nat} {M : Stor} (hM : wfM M = true) (hz : l.length < 64) (hs : st.Pairwise (· < ·)) (hm : ∀ k, k ∈ st ↔ k ∈ l) : φ_lot_of [.lst (l.map nD)] M = some (tn st, M) := by
  have e : setI (l.map fun (k : Nat) => (k : Int)) = st.map fun (k : Nat) => (k : Int) := by
    refine (setI_uniq (fun k => ?_) (cast_sorted hs)).symm
    rw [List.mem_map, List.mem_map]
    exact ⟨fun ⟨a, h1, h2⟩ => ⟨a, (hm a).mp h1, h2⟩, fun ⟨a, h1, h2⟩ => ⟨a, (hm a).mpr h1, h2⟩⟩
  have h1 : gSortSet (gLd (gVar 0)) [.dat (.lst (l.map nD))] M = some (st.map nD, M) := by
    unfold gSortSet
    rw [v_ld (v_var rfl) rfl, bnd_some, if_pos (by rw [List.length_map]; exact hz), ints_nD]
    show some ((setI _).map D.int, M) = _
    rw [e, map_int]
  exact run_ret (ρ1 := [.dat (.lst (l.map nD))]) rfl (s_ret (v_tuple h1)) hM (lcLt_tn _ _)
theorem joined_ok {st : List Nat} {a st' : List Nat} {M : Stor} (hM : wfM M = true) (hz : st.length + a.length < 64) (hs : st'.Pairwise (· < ·)) (hm : ∀ k, k ∈ st' ↔ k ∈ st ++ a) : φ_joined [tn st, tn a] M = some (tn st', M) := by
  refine run_ret rfl (s_ret (v_call (v_cons (v_fz (v_cat (v_qd (v_var rfl) rfl) (v_qd (v_var rfl) rfl) (by rw [List.length_map, List.length_map, lim_eq]; omega))) v_nil) ?_)) hM (lcLt_tn _ _)
  rw [← List.map_append]
  exact lot_ok hM (by rw [List.length_append]; exact hz) hs hm
end Onl
namespace Onl
open PySem PySem.Spec Py

/-! ### the program's walks -/
def bD (m : Nat) : D := tn (bits m)
theorem bits_on {m t : Nat} (ht : t < 12) (h : m.testBit t = false) (k : Nat) : k ∈ bits (flipM m t) ↔ k ∈ bits m ++ [t] := by
  rw [List.mem_append, List.mem_singleton, mem_bits, mem_bits, flip_test]
  by_cases e : k = t
  · subst e
    rw [if_pos rfl, h]
    simp [ht]
  · rw [if_neg e]
    simp [e]
theorem in_bits {m t : Nat} (ht : t < 12) : decide (t ∈ bits m) = m.testBit t := by
  rw [Bool.eq_iff_iff, decide_eq_true_iff, mem_bits]
  exact ⟨fun h => h.2, fun h => ⟨ht, h⟩⟩
theorem wstep_ok {m t : Nat} {M : Stor} (hM : wfM M = true) (ht : t < 12) : φ_stepped [bD m, nD t] M = some (bD (flipM m t), M) := by
  have hb := bits_len m
  have hin : gTb (gIn false (gVar 1) (gQd (gVar 0))) [.dat (bD m), .dat (nD t)] M = some (m.testBit t, M) := by
    rw [← in_bits ht, ← mem_nD]
    exact v_tb (v_in (v_var rfl) (v_qd (v_var rfl) rfl) rfl (flat_nD _))
  refine run_ret (ρ1 := [.dat (bD m), .dat (nD t)]) rfl (s_ret ?_) hM (lcLt_tn _ _)
  cases q : m.testBit t with
  | true =>
    rw [q] at hin
    refine v_ifT hin (v_call (v_cons (v_var rfl) (v_cons (v_var rfl) v_nil)) ?_)
    rw [show bD (flipM m t) = tn ((bits m).filter fun j => j != t) by rw [bits_off q]; rfl]
    exact lessone_ok hM (by rw [lim_eq]; omega)
  | false =>
    rw [q] at hin
    refine v_ifF hin (v_call (v_cons (v_var rfl) (v_cons (v_tup (v_cons (v_var rfl) v_nil) (show 1 ≤ lim by decide)) v_nil)) ?_)
    exact joined_ok (a := [t]) hM (by rw [List.length_singleton]; omega) (bits_sorted _) (bits_on ht q)
theorem let_ok {ns : List D} {ws : List Int} {lots : List (List (List Nat))} {n : Nat} {st : List Nat} {M : Stor} (hM : wfM M = true) (F : Fr ws lots n) (hns : ns.length = n) : φ_let_at [webD ns ws lots, tn st] M = some (tn ((List.range n).filter (borneP lots st)), M) := by
  have hn := F.hn
  refine run_ret rfl (s_ret (v_tuple (gLc_map nD (borneP lots st) nD (v_rg (k := n) (M1 := M) ?_ (by omega)) (by rw [List.length_range, lim_eq]; omega) fun t ht => ?_))) hM (lcLt_tn _ _)
  · have : (nD n : D) = .int (ns.length : Int) := by rw [hns]; rfl
    rw [this]
    exact v_len (v_qd (v_fld (v_var rfl) rfl) rfl)
  · have ht : t < n := List.mem_range.mp ht
    exact ⟨[.dat (webD ns ws lots), .dat (tn st), .dat (nD t)], rfl, v_tb (v_call (v_cons (v_var rfl) (v_cons (v_var rfl) (v_cons (v_var rfl) v_nil))) (pborne_ok hM F ht)), fun _ => v_var rfl⟩
def oD (o : Option Nat) : D := match o with
  | some m => bD m
  | none => .non
theorem event_ok {ns : List D} {ws : List Int} {lots : List (List (List Nat))} {n m : Nat} {M : Stor} (hM : wfM M = true) (F : Fr ws lots n) (hns : ns.length = n) {e : Int} (he : okE n e) : φ_behind_event [webD ns ws lots, bD m, .int e] M = some (oD (stepM lots m e), M) := by
  have hn := F.hn
  have ht := thE_lt he
  have hlt : lcLt M.length (oD (stepM lots m e)) = true := by
    unfold oD
    split
    · exact lcLt_tn _ _
    · rfl
  have hq : ∀ {x s3}, gTb (gIn false (gVar 3) (gQd (gVar 1))) [.dat x, .dat (bD m), s3, .dat (nD (thE e))] M = some (m.testBit (thE e), M) := fun {x s3} => by
    rw [← in_bits (show thE e < 12 by omega), ← mem_nD]
    exact v_tb (v_in (v_var rfl) (v_qd (v_var rfl) rfl) rfl (flat_nD _))
  have h0 : gTb (gBin dLt (gVar 2) (gC (.int 0))) (env0 4 [webD ns ws lots, bD m, .int e]) M = some (decide (e < 0), M) := v_tb (v_bin (v_var rfl) v_c dlt_int)
  by_cases h : e < 0
  · have hth : nD (thE e) = .int (-1 - e) := by
      unfold nD
      rw [thE_eq, if_neg (by omega)]
    rw [decide_eq_true h] at h0
    have hs : stepM lots m e = if m.testBit (thE e) then some (flipM m (thE e)) else none := by
      unfold stepM
      rw [decide_eq_true h, decide_eq_false (show ¬ (0 : Int) ≤ e by omega)]
      cases m.testBit (thE e) <;> rfl
    rw [hs]
    rw [hs] at hlt
    refine run_ret (ρ1 := [.dat (webD ns ws lots), .dat (bD m), .dat (.int e), .dat (.int (-1 - e))]) rfl (s_seqR (fl := .nx) (s_ifT h0 (s_seq (s_asg (by simp [env0]) (v_sd (v_bin (v_un v_c dneg_int) (v_var rfl) dsub_int))) ?_))) hM hlt
    rw [← hth]
    cases q : m.testBit (thE e) with
    | true =>
      have hq' := hq (x := webD ns ws lots) (s3 := .dat (.int e))
      rw [q] at hq'
      refine s_ret (v_ifT hq' (v_call (v_cons (v_var rfl) (v_cons (v_var rfl) v_nil)) ?_))
      rw [if_pos rfl]
      show φ_less_one [tn (bits m), nD (thE e)] M = some (tn (bits (flipM m (thE e))), M)
      rw [← bits_off q]
      exact lessone_ok hM (by have := bits_len m; rw [lim_eq]; omega)
    | false =>
      have hq' := hq (x := webD ns ws lots) (s3 := .dat (.int e))
      rw [q] at hq'
      exact s_ret (v_ifF hq' v_c)
  · rw [decide_eq_false h] at h0
    have hth : nD (thE e) = .int e := by
      unfold nD
      rw [thE_eq, if_pos (by omega)]
    have hs : stepM lots m e = if borneM lots m (thE e) then some (flipM m (thE e)) else none := by
      unfold stepM
      rw [decide_eq_false h, decide_eq_true (show (0 : Int) ≤ e by omega)]
      cases borneM lots m (thE e) <;> rfl
    rw [hs]
    rw [hs] at hlt
    have hl : gTb (gIn false (gVar 2) (gQd (gCall φ_let_at (Py.gCons (gVar 0) (Py.gCons (gVar 1) (Py.gNil)))))) (env0 4 [webD ns ws lots, bD m, .int e]) M = some (borneM lots m (thE e), M) := by
      have e1 : decide (thE e ∈ (List.range n).filter (borneP lots (bits m))) = borneM lots m (thE e) := by
        rw [Bool.eq_iff_iff, decide_eq_true_iff, List.mem_filter, List.mem_range, borne_eq F ht]
        exact ⟨fun h => h.2, fun h => ⟨ht, h⟩⟩
      rw [← e1, ← mem_nD, hth]
      exact v_tb (v_in (v_var rfl) (v_qd (v_call (v_cons (v_var rfl) (v_cons (v_var rfl) v_nil)) (let_ok hM F hns)) rfl) rfl (flat_nD _))
    refine run_ret (ρ1 := env0 4 [webD ns ws lots, bD m, .int e]) rfl (s_seq (s_ifF h0 s_pass) (s_ret ?_)) hM hlt
    cases q : borneM lots m (thE e) with
    | true =>
      rw [q] at hl
      refine v_ifT hl (v_call (v_cons (v_var rfl) (v_cons (v_var rfl) v_nil)) ?_)
      rw [if_pos rfl, ← hth]
      exact wstep_ok hM (by omega)
    | false =>
      rw [q] at hl
      exact v_ifF hl v_c
abbrev bodyWW : GS := gSeq (gAsg 5 (gSd (gCall φ_behind_event (Py.gCons (gVar 0) (Py.gCons (gIx (gOwn 3) (gUn dNeg (gC (.int 1)))) (Py.gCons (gVar 4) (Py.gNil))))))) (gSeq (gIfS (gTb (gBin (dIs false) (gVar 5) (gC .non))) (Py.gRet (gC .non)) (gPass)) (gApp 3 (gVar 5)))
theorem last_bD {ms : List Nat} {m : Nat} {f : Nat → D} : L2.atI ((ms ++ [m]).map f) (-1) = some (f m) := by
  unfold L2.atI
  have e : L2.ixN ((ms ++ [m]).map f).length (-1) = some ms.length := by
    unfold L2.ixN
    simp
    omega
  rw [e]
  simp
theorem is_non {o : Option Nat} : (dIs false) (oD o) .non = some (.bl o.isNone) := by
  cases o <;> rfl
theorem ww_loop {ns : List D} {ws : List Int} {lots : List (List (List Nat))} {n : Nat} {st ed : D} {M : Stor} (hM : wfM M = true) (F : Fr ws lots n) (hns : ns.length = n) : ∀ {es : List Int} {m : Nat} {ms : List Nat} {s4 s5 : Slot}, (∀ e ∈ es, okE n e) → ms.length + es.length < lim →
    (walkM lots m es = none → ∃ ρ', forL (gtN 4) bodyWW (es.map D.int) [.dat (webD ns ws lots), .dat st, .dat ed, .lst ((ms ++ [m]).map bD), s4, s5] M = some ((.rt .non, ρ'), M)) ∧
    (∀ r, walkM lots m es = some r → ∃ s4' s5', forL (gtN 4) bodyWW (es.map D.int) [.dat (webD ns ws lots), .dat st, .dat ed, .lst ((ms ++ [m]).map bD), s4, s5] M = some ((.nx, [.dat (webD ns ws lots), .dat st, .dat ed, .lst ((ms ++ [m] ++ r).map bD), s4', s5']), M))
  | [], m, ms, s4, s5, _, _ => ⟨fun h => (by cases h), fun r h => (by cases h; rw [List.append_nil]; exact ⟨s4, s5, rfl⟩)⟩
  | e :: es, m, ms, s4, s5, he, hz => by
    rw [List.length_cons] at hz
    have hev := event_ok (m := m) hM F hns (he e (List.mem_cons_self ..))
    have h5 : gAsg 5 (gSd (gCall φ_behind_event (Py.gCons (gVar 0) (Py.gCons (gIx (gOwn 3) (gUn dNeg (gC (.int 1)))) (Py.gCons (gVar 4) (Py.gNil)))))) [.dat (webD ns ws lots), .dat st, .dat ed, .lst ((ms ++ [m]).map bD), .dat (.int e), s5] M = some ((.nx, [.dat (webD ns ws lots), .dat st, .dat ed, .lst ((ms ++ [m]).map bD), .dat (.int e), .dat (oD (stepM lots m e))]), M) :=
      s_asg (by simp) (v_sd (v_call (v_cons (v_var rfl) (v_cons (v_ix (v_own rfl) (v_un v_c dneg_int) last_bD) (v_cons (v_var rfl) v_nil))) hev))
    have hc : gTb (gBin (dIs false) (gVar 5) (gC .non)) [.dat (webD ns ws lots), .dat st, .dat ed, .lst ((ms ++ [m]).map bD), .dat (.int e), .dat (oD (stepM lots m e))] M = some ((stepM lots m e).isNone, M) := v_tb (v_bin (v_var rfl) v_c is_non)
    unfold walkM
    cases q : stepM lots m e with
    | none =>
      rw [q] at h5 hc
      exact ⟨fun _ => ⟨_, forL_rt rfl (s_seq h5 (s_seqR (fl := .nx) (s_ifT hc (s_ret v_c))))⟩, fun r h => (by cases h)⟩
    | some m' =>
      rw [q] at h5 hc
      have hb : bodyWW [.dat (webD ns ws lots), .dat st, .dat ed, .lst ((ms ++ [m]).map bD), .dat (.int e), s5] M = some ((.nx, [.dat (webD ns ws lots), .dat st, .dat ed, .lst ((ms ++ [m] ++ [m']).map bD), .dat (.int e), .dat (bD m')]), M) := by
        refine s_seq h5 (s_seq (s_ifF hc s_pass) ?_)
        rw [List.map_append (l₁ := ms ++ [m])]
        refine s_app rfl (v_var rfl) ?_
        rw [List.length_map, List.length_append, List.length_singleton]
        omega
      obtain ⟨i1, i2⟩ := ww_loop hM F hns (st := st) (ed := ed) (es := es) (m := m') (ms := ms ++ [m]) (s4 := .dat (.int e)) (s5 := .dat (bD m')) (fun e he' => he e (List.mem_cons_of_mem _ he')) (by rw [List.length_append, List.length_singleton]; omega)
      dsimp only
      cases q2 : walkM lots m' es with
      | none =>
        obtain ⟨ρ', h3⟩ := i1 q2
        exact ⟨fun _ => ⟨ρ', forL_nx rfl hb h3⟩, fun r h => (by cases h)⟩
      | some r =>
        obtain ⟨t4, t5, h3⟩ := i2 r q2
        refine ⟨fun h => (by cases h), fun r' h' => ?_⟩
        have h' : m' :: r = r' := Option.some.inj h'
        subst h'
        refine ⟨t4, t5, forL_nx rfl hb ?_⟩
        rw [h3, List.append_assoc (ms ++ [m])]
        rfl
def wD (r : Option (List Nat)) (m : Nat) : D := match r with
  | some r => .tup ((m :: r).map bD)
  | none => .non
theorem lcLts_bD (n : Nat) : ∀ l : List Nat, lcLts n (l.map bD) = true
  | [] => rfl
  | _ :: l => by rw [List.map_cons, lcLts, lcLts_bD n l, bD, lcLt_tn]; rfl
theorem wiped_ok {ns : List D} {ws : List Int} {lots : List (List (List Nat))} {n m : Nat} {es : List Int} {ed : D} {M : Stor} (hM : wfM M = true) (F : Fr ws lots n) (hns : ns.length = n) (he : ∀ e ∈ es, okE n e) (hz : es.length < lim) (hs : seqD ed = some (es.map D.int)) :
    φ_wiped_walk [webD ns ws lots, bD m, ed] M = some (wD (walkM lots m es) m, M) := by
  obtain ⟨i1, i2⟩ := ww_loop hM F hns (st := bD m) (ed := ed) (es := es) (m := m) (ms := []) (s4 := .un) (s5 := .un) he (by simpa using hz)
  have h0 : ∀ r, gSeq (gFor (gQd (gVar 2)) (gtN 4) bodyWW) (Py.gRet (gTuple (gOwn 3))) [.dat (webD ns ws lots), .dat (bD m), .dat ed, .lst (([] ++ [m]).map bD), .un, .un] M = r → g_wiped_walk (env0 6 [webD ns ws lots, bD m, ed]) M = r := fun r hr =>
    s_seq (s_asg (by simp [env0]) (v_sl (v_lst (v_cons (v_tupD (v_var rfl) rfl) v_nil) (show 1 ≤ lim by decide)))) hr
  cases q : walkM lots m es with
  | none =>
    obtain ⟨ρ', h⟩ := i1 q
    exact run_ret rfl (h0 _ (s_seqR (fl := .nx) (s_for (v_qd (v_var rfl) hs) h))) hM rfl
  | some r =>
    obtain ⟨t4, t5, h⟩ := i2 r q
    exact run_ret rfl (h0 _ (s_seq (s_for (v_qd (v_var rfl) hs) h) (s_ret (v_tuple (v_own rfl))))) hM (lcLts_bD _ (m :: r))
theorem wipesin_ok {es : List Int} {ed : D} {M : Stor} (hM : wfM M = true) (hz : es.length ≤ lim) (hs : seqD ed = some (es.map D.int)) : φ_wipes_in [ed] M = some (.int ((es.filter fun e => decide (e < 0)).length : Nat), M) := by
  have h := gLc_map (src := gQd (gVar 0)) (tg := gtN 1) (c := gTb (gBin dLt (gVar 1) (gC (.int 0)))) (e := gVar 1) (vs := [1]) (ρ := [.dat ed, .un]) D.int (fun e => decide (e < 0)) D.int (M := M) (v_qd (v_var rfl) hs) hz fun e _ => ⟨[.dat ed, .dat (.int e)], rfl, v_tb (v_bin (v_var rfl) v_c dlt_int), fun _ => v_var rfl⟩
  have h2 := v_len h
  rw [List.length_map] at h2
  exact run_ret rfl (s_ret h2) hM rfl
end Onl
namespace Onl
open PySem PySem.Spec Py

/-! ### the walk of steps -/
def kvD (k : Nat) : D × D := (nD k, .bl true)
theorem put_new {k : Nat} : ∀ {l : List Nat}, k ∉ l → putKD (l.map kvD) (.inl (k : Int)) (.bl true) = (l ++ [k]).map kvD
  | [], _ => rfl
  | j :: l, h => by
    have hj : ¬ j = k := fun e => h (by rw [e]; exact List.mem_cons_self ..)
    have ih := put_new (k := k) (l := l) fun q => h (List.mem_cons_of_mem _ q)
    rw [List.map_cons, kvD, putKD, if_neg (fun q : keyD (nD j) = some (.inl (k : Int)) => hj (by
      have q : some (Sum.inl (j : Int) : L2.Key) = some (.inl (k : Int)) := q
      have := Sum.inl.inj (Option.some.inj q)
      omega)), ih]
    rfl
theorem dc_keys {ρ : Env'} {M : Stor} {s : D} (hρ : wipeE ρ [1] = [.dat s, .un]) : ∀ {l done : List Nat}, (done ++ l).Nodup → dcL (gtN 1) gYes (gVar 1) (gC (.bl true)) (wipeE ρ [1]) (l.map nD) (done.map kvD) M = some ((done ++ l).map kvD, M)
  | [], done, _ => by rw [List.append_nil]; rfl
  | k :: l, done, h => by
    have ih := dc_keys hρ (M := M) (l := l) (done := done ++ [k]) (by rw [List.append_assoc]; exact h)
    rw [List.append_assoc] at ih
    have hk : k ∉ done := fun q => (List.nodup_append.mp h).2.2 k q k (List.mem_cons_self ..) rfl
    rw [← put_new hk] at ih
    rw [hρ] at ih ⊢
    rw [List.map_cons]
    exact ih
theorem unlike_ok {l : List Nat} {M : Stor} (hM : wfM M = true) (hz : l.length ≤ lim) (hn : l.Nodup) : φ_unlike [tn l] M = some (.lst (l.map nD), M) := by
  have h1 : gDc (gQd (gVar 0)) (gtN 1) gYes (gVar 1) (gC (.bl true)) [1] [.dat (tn l), .un] M = some (l.map kvD, M) := by
    unfold gDc
    rw [v_qd (v_var rfl) rfl, bnd_some, if_pos (by rw [List.length_map]; exact hz)]
    exact dc_keys (ρ := [.dat (tn l), .un]) (s := tn l) rfl (l := l) (done := []) hn
  have h2 : gKeysL (gDc (gQd (gVar 0)) (gtN 1) gYes (gVar 1) (gC (.bl true)) [1]) [.dat (tn l), .un] M = some (l.map nD, M) := by
    unfold gKeysL
    have hall : ((l.map kvD).map (·.1)).all (fun d => (keyD d).isSome) = true := by
      rw [List.map_map, List.all_map]
      exact List.all_eq_true.mpr fun _ _ => rfl
    rw [h1, bnd_some, if_pos ⟨hall, by rw [List.length_map]; exact hz⟩, List.map_map]
    rfl
  exact run_ret (ρ1 := [.dat (tn l), .un]) rfl (s_ret (v_fz h2)) hM (lcLts_nD _ _)
theorem words_ok {l st : List Nat} {M : Stor} (hM : wfM M = true) (hz : l.length ≤ lim) (hn : l.Nodup) (hs : st.Pairwise (· < ·)) (hm : ∀ k, k ∈ st ↔ k ∈ l) : φ_lot_of_words [tn l] M = some (tn st, M) := by
  have hp : st.Perm l := (List.perm_ext_iff_of_nodup (hs.imp fun h => Nat.ne_of_lt h) hn).mpr hm
  have e : sortI (l.map fun (k : Nat) => (k : Int)) = st.map fun (k : Nat) => (k : Int) := (sortI_uniq (hp.map _) ((cast_sorted hs).imp fun h => Int.le_of_lt h)).symm
  have h1 : gSortI (gLd (gCall φ_unlike (Py.gCons (gVar 0) (Py.gNil)))) [.dat (tn l)] M = some (st.map nD, M) := by
    unfold gSortI
    rw [v_ld (v_call (v_cons (v_var rfl) v_nil) (unlike_ok hM hz hn)) rfl, bnd_some, ints_nD]
    show some ((sortI _).map D.int, M) = _
    rw [e, map_int]
  exact run_ret (ρ1 := [.dat (tn l)]) rfl (s_ret (v_tuple h1)) hM (lcLt_tn _ _)
theorem with_ok {m t : Nat} {M : Stor} (hM : wfM M = true) (ht : t < 12) (h : m.testBit t = false) : φ_with_thing [bD m, nD t] M = some (bD (flipM m t), M) := by
  have hb := bits_len m
  refine run_ret (ρ1 := [.dat (bD m), .dat (nD t)]) rfl (s_ret (v_call (v_cons (v_bin (z := tn (bits m ++ [t])) (v_var rfl) (v_tup (v_cons (v_var rfl) v_nil) (show 1 ≤ lim by decide)) ?_) v_nil) (words_ok hM ?_ ?_ (bits_sorted _) (bits_on ht h)))) hM (lcLt_tn _ _)
  · show (if ((bits m).map nD).length + 1 ≤ lim then some (D.tup ((bits m).map nD ++ [nD t])) else none) = _
    rw [if_pos (by rw [List.length_map, lim_eq]; omega)]
    unfold tn
    rw [List.map_append]; rfl
  · rw [List.length_append, List.length_singleton, lim_eq]; omega
  · refine List.nodup_append.mpr ⟨bits_nodup m, by simp, fun a ha b hb e => ?_⟩
    rw [List.mem_singleton] at hb
    subst hb
    subst e
    rw [mem_bits, h] at ha
    cases ha.2
theorem turned_ok {m t : Nat} {M : Stor} (hM : wfM M = true) (ht : t < 12) : φ_turned_thing [bD m, nD t] M = some (bD (flipM m t), M) := by
  have hb := bits_len m
  have hin : gTb (gIn false (gVar 1) (gQd (gVar 0))) [.dat (bD m), .dat (nD t)] M = some (m.testBit t, M) := by
    rw [← in_bits ht, ← mem_nD]
    exact v_tb (v_in (v_var rfl) (v_qd (v_var rfl) rfl) rfl (flat_nD _))
  refine run_ret (ρ1 := [.dat (bD m), .dat (nD t)]) rfl (s_ret ?_) hM (lcLt_tn _ _)
  cases q : m.testBit t with
  | true =>
    rw [q] at hin
    refine v_ifT hin (v_call (v_cons (v_var rfl) (v_cons (v_var rfl) v_nil)) ?_)
    rw [show bD (flipM m t) = tn ((bits m).filter fun j => j != t) by rw [bits_off q]; rfl]
    exact without_ok hM (by rw [lim_eq]; omega)
  | false =>
    rw [q] at hin
    exact v_ifF hin (v_call (v_cons (v_var rfl) (v_cons (v_var rfl) v_nil)) (with_ok hM ht q))
theorem stepped_ok {ns : List D} {ws : List Int} {lots : List (List (List Nat))} {n m : Nat} {M : Stor} (hM : wfM M = true) (F : Fr ws lots n) {e : Int} (he : okE n e) (h0 : 0 ≤ e) : φ_stepped_standings [webD ns ws lots, bD m, .int e] M = some (oD (stepM lots m e), M) := by
  have hn := F.hn
  have ht := thE_lt he
  have hlt : lcLt M.length (oD (stepM lots m e)) = true := by
    unfold oD
    split
    · exact lcLt_tn _ _
    · rfl
  have hth : D.int e = nD (thE e) := by
    unfold nD
    rw [thE_eq, if_pos (by omega)]
  have hs : stepM lots m e = if borneM lots m (thE e) then some (flipM m (thE e)) else none := by
    unfold stepM
    rw [decide_eq_false (show ¬ e < 0 by omega), decide_eq_true h0]
    cases borneM lots m (thE e) <;> rfl
  rw [hs] at hlt ⊢
  rw [hth]
  have hb : gTb (gCall φ_is_borne (Py.gCons (gVar 0) (Py.gCons (gVar 1) (Py.gCons (gVar 2) (Py.gNil))))) (env0 3 [webD ns ws lots, bD m, nD (thE e)]) M = some (borneM lots m (thE e), M) := by
    rw [← borne_eq F ht]
    exact v_tb (v_call (v_cons (v_var rfl) (v_cons (v_var rfl) (v_cons (v_var rfl) v_nil))) (pborne_ok hM F ht))
  refine run_ret (ρ1 := env0 3 [webD ns ws lots, bD m, nD (thE e)]) rfl (s_ret ?_) hM hlt
  cases q : borneM lots m (thE e) with
  | true =>
    rw [q] at hb
    exact v_ifT hb (v_call (v_cons (v_var rfl) (v_cons (v_var rfl) v_nil)) (turned_ok hM (by omega)))
  | false =>
    rw [q] at hb
    exact v_ifF hb v_c
abbrev bodyWK : GS := gSeq (gAsg 3 (gSd (gCall φ_stepped_standings (Py.gCons (gVar 0) (Py.gCons (gVar 3) (Py.gCons (gVar 5) (Py.gNil))))))) (gSeq (gIfS (gTb (gBin (dIs false) (gVar 3) (gC .non))) (Py.gRet (gC .non)) (gPass)) (gApp 4 (gVar 3)))
theorem wk_loop {ns : List D} {ws : List Int} {lots : List (List (List Nat))} {n : Nat} {st ed : D} {M : Stor} (hM : wfM M = true) (F : Fr ws lots n) : ∀ {es : List Int} {m : Nat} {ms : List Nat} {s5 : Slot}, (∀ e ∈ es, okE n e ∧ 0 ≤ e) → ms.length + es.length < lim →
    (walkM lots m es = none → ∃ ρ', forL (gtN 5) bodyWK (es.map D.int) [.dat (webD ns ws lots), .dat st, .dat ed, .dat (bD m), .lst ((ms ++ [m]).map bD), s5] M = some ((.rt .non, ρ'), M)) ∧
    (∀ r, walkM lots m es = some r → ∃ s3' s5', forL (gtN 5) bodyWK (es.map D.int) [.dat (webD ns ws lots), .dat st, .dat ed, .dat (bD m), .lst ((ms ++ [m]).map bD), s5] M = some ((.nx, [.dat (webD ns ws lots), .dat st, .dat ed, s3', .lst ((ms ++ [m] ++ r).map bD), s5']), M))
  | [], m, ms, s5, _, _ => ⟨fun h => (by cases h), fun r h => (by cases h; rw [List.append_nil]; exact ⟨.dat (bD m), s5, rfl⟩)⟩
  | e :: es, m, ms, s5, he, hz => by
    rw [List.length_cons] at hz
    have hev := stepped_ok (ns := ns) (m := m) hM F (he e (List.mem_cons_self ..)).1 (he e (List.mem_cons_self ..)).2
    have h5 : gAsg 3 (gSd (gCall φ_stepped_standings (Py.gCons (gVar 0) (Py.gCons (gVar 3) (Py.gCons (gVar 5) (Py.gNil)))))) [.dat (webD ns ws lots), .dat st, .dat ed, .dat (bD m), .lst ((ms ++ [m]).map bD), .dat (.int e)] M = some ((.nx, [.dat (webD ns ws lots), .dat st, .dat ed, .dat (oD (stepM lots m e)), .lst ((ms ++ [m]).map bD), .dat (.int e)]), M) :=
      s_asg (by simp) (v_sd (v_call (v_cons (v_var rfl) (v_cons (v_var rfl) (v_cons (v_var rfl) v_nil))) hev))
    have hc : gTb (gBin (dIs false) (gVar 3) (gC .non)) [.dat (webD ns ws lots), .dat st, .dat ed, .dat (oD (stepM lots m e)), .lst ((ms ++ [m]).map bD), .dat (.int e)] M = some ((stepM lots m e).isNone, M) := v_tb (v_bin (v_var rfl) v_c is_non)
    unfold walkM
    cases q : stepM lots m e with
    | none =>
      rw [q] at h5 hc
      exact ⟨fun _ => ⟨_, forL_rt rfl (s_seq h5 (s_seqR (fl := .nx) (s_ifT hc (s_ret v_c))))⟩, fun r h => (by cases h)⟩
    | some m' =>
      rw [q] at h5 hc
      have hb : bodyWK [.dat (webD ns ws lots), .dat st, .dat ed, .dat (bD m), .lst ((ms ++ [m]).map bD), .dat (.int e)] M = some ((.nx, [.dat (webD ns ws lots), .dat st, .dat ed, .dat (bD m'), .lst ((ms ++ [m] ++ [m']).map bD), .dat (.int e)]), M) := by
        refine s_seq h5 (s_seq (s_ifF hc s_pass) ?_)
        rw [List.map_append (l₁ := ms ++ [m])]
        refine s_app rfl (v_var rfl) ?_
        rw [List.length_map, List.length_append, List.length_singleton]
        omega
      obtain ⟨i1, i2⟩ := wk_loop hM F (ns := ns) (st := st) (ed := ed) (es := es) (m := m') (ms := ms ++ [m]) (s5 := .dat (.int e)) (fun e he' => he e (List.mem_cons_of_mem _ he')) (by rw [List.length_append, List.length_singleton]; omega)
      dsimp only
      cases q2 : walkM lots m' es with
      | none =>
        obtain ⟨ρ', h3⟩ := i1 q2
        exact ⟨fun _ => ⟨ρ', forL_nx rfl hb h3⟩, fun r h => (by cases h)⟩
      | some r =>
        obtain ⟨t4, t5, h3⟩ := i2 r q2
        refine ⟨fun h => (by cases h), fun r' h' => ?_⟩
        have h' : m' :: r = r' := Option.some.inj h'
        subst h'
        refine ⟨t4, t5, forL_nx rfl hb ?_⟩
        rw [h3, List.append_assoc (ms ++ [m])]
        rfl
theorem walked_ok {ns : List D} {ws : List Int} {lots : List (List (List Nat))} {n m : Nat} {es : List Int} {ed : D} {M : Stor} (hM : wfM M = true) (F : Fr ws lots n) (he : ∀ e ∈ es, okE n e ∧ 0 ≤ e) (hz : es.length < lim) (hs : seqD ed = some (es.map D.int)) :
    φ_walked [webD ns ws lots, bD m, ed] M = some (wD (walkM lots m es) m, M) := by
  obtain ⟨i1, i2⟩ := wk_loop hM F (ns := ns) (st := bD m) (ed := ed) (es := es) (m := m) (ms := []) (s5 := .un) he (by simpa using hz)
  have h0 : ∀ r, gSeq (gFor (gQd (gVar 2)) (gtN 5) bodyWK) (Py.gRet (gTuple (gOwn 4))) [.dat (webD ns ws lots), .dat (bD m), .dat ed, .dat (bD m), .lst (([] ++ [m]).map bD), .un] M = r → g_walked (env0 6 [webD ns ws lots, bD m, ed]) M = r := fun r hr =>
    s_seq (s_asg (by simp [env0]) (v_sd (v_tupD (v_var rfl) rfl))) (s_seq (s_asg (by simp [env0]) (v_sl (v_lst (v_cons (v_var rfl) v_nil) (show 1 ≤ lim by decide)))) hr)
  cases q : walkM lots m es with
  | none =>
    obtain ⟨ρ', h⟩ := i1 q
    exact run_ret (ρ1 := ρ') rfl (h0 _ (s_seqR (fl := .nx) (s_for (v_qd (v_var rfl) hs) h))) hM rfl
  | some r =>
    obtain ⟨t4, t5, h⟩ := i2 r q
    exact run_ret rfl (h0 _ (s_seq (s_for (v_qd (v_var rfl) hs) h) (s_ret (v_tuple (v_own rfl))))) hM (lcLts_bD _ (m :: r))
end Onl
namespace Onl
open PySem PySem.Spec Py

/-! ### the law's comparison, of a thing with itself -/
mutual
inductive Good : D → Nat → Prop
  | non : Good .non 1
  | bl (b : Bool) : Good (.bl b) 1
  | int (i : Int) : Good (.int i) 1
  | tup {l : List D} {k : Nat} : GoodL l k → Good (.tup l) (k + 1)
inductive GoodL : List D → Nat → Prop
  | nil : GoodL [] 0
  | cons {d : D} {l : List D} {a b : Nat} : Good d a → GoodL l b → GoodL (d :: l) (a + b)
end
theorem GoodL.append : ∀ {l m : List D} {a b : Nat}, GoodL l a → GoodL m b → GoodL (l ++ m) (a + b)
  | [], m, _, b, .nil, h => by rw [Nat.zero_add]; exact h
  | d :: l, m, _, b, .cons h1 h2, h => by
    rw [Nat.add_assoc]
    exact .cons h1 (GoodL.append h2 h)
theorem GoodL.last : ∀ {l : List D} {d : D} {t : Nat}, GoodL (l ++ [d]) t → ∃ a b, GoodL l a ∧ Good d b ∧ t = a + b
  | [], d, _, .cons h1 .nil => ⟨0, _, .nil, h1, by omega⟩
  | x :: l, d, _, .cons h1 h2 => by
    obtain ⟨a, b, h3, h4, h5⟩ := GoodL.last h2
    exact ⟨_, b, .cons h1 h3, h4, by omega⟩
theorem Good.pos {d : D} {k : Nat} (h : Good d k) : 1 ≤ k := by cases h <;> omega
theorem GoodL.len : ∀ {l : List D} {t : Nat}, GoodL l t → l.length ≤ t
  | [], _, _ => Nat.zero_le _
  | x :: l, _, .cons h1 h2 => by
    have := h1.pos
    have := GoodL.len h2
    rw [List.length_cons]; omega
def twD (d : D) : D := .tup [d, d]
theorem kind_ok {d : D} {k : Nat} {M : Stor} (hM : wfM M = true) (h : Good d k) (hn : isT "tuple" d = some false) : φ_L_is_kind [d, d] M = some (.bl true, M) := by
  cases h with
  | tup h => cases hn
  | non => exact run_ret (ρ1 := [.dat .non, .dat .non]) rfl (s_seqR (fl := .nx) (s_ifT (v_tb (v_bin (v_var rfl) v_c rfl)) (s_ret (v_bin (v_var rfl) v_c rfl)))) hM rfl
  | bl b =>
    cases b with
    | true => exact run_ret (ρ1 := [.dat (.bl true), .dat (.bl true)]) rfl (s_seq (s_ifF (v_tb (v_bin (v_var rfl) v_c rfl)) s_pass) (s_seqR (fl := .nx) (s_ifT (v_or (b := true) (c := true) (v_tb (v_bin (v_var rfl) v_c rfl)) (fun h => by cases h) fun _ => rfl) (s_ret (v_ifT (v_tb (v_var rfl)) (v_bin (v_var rfl) v_c rfl)))))) hM rfl
    | false => exact run_ret (ρ1 := [.dat (.bl false), .dat (.bl false)]) rfl (s_seq (s_ifF (v_tb (v_bin (v_var rfl) v_c rfl)) s_pass) (s_seqR (fl := .nx) (s_ifT (v_or (b := false) (c := true) (v_tb (v_bin (v_var rfl) v_c rfl)) (fun _ => v_tb (v_bin (v_var rfl) v_c rfl)) fun h => by cases h) (s_ret (v_ifF (v_tb (v_var rfl)) (v_bin (v_var rfl) v_c rfl)))))) hM rfl
  | int i =>
    have e : dEq (.int i) (.int i) = some (.bl true) := by rw [deq_int, decide_eq_true rfl]
    exact run_ret (ρ1 := [.dat (.int i), .dat (.int i)]) rfl (s_seq (s_ifF (v_tb (v_bin (v_var rfl) v_c rfl)) s_pass) (s_seq (s_ifF (v_or (b := false) (c := false) (v_tb (v_bin (v_var rfl) v_c rfl)) (fun _ => v_tb (v_bin (v_var rfl) v_c rfl)) fun h => by cases h) s_pass)
      (s_seq (s_ifF (v_tb (v_isi (v_var rfl) rfl)) s_pass) (s_ret (v_andV (b := true) (c := true) (v_isi (v_var rfl) rfl) (fun _ => v_andV (b := true) (c := true) (v_notV (b := false) (v_isi (v_var rfl) rfl)) (fun _ => v_bin (v_var rfl) (v_var rfl) e) fun h => by cases h) fun h => by cases h))))) hM rfl
theorem s_pop {ρ ρ1 : Env'} {M : Stor} {i : Nat} {l : List D} {y : D} {t : D → Env' → Option Env'} (e : ρ[i]? = some (.lst (l ++ [y]))) (h : t y (ρ.set i (.lst l)) = some ρ1) : gPop i t ρ M = some ((.nx, ρ1), M) := by
  unfold gPop
  rw [e]
  have e1 : (l ++ [y])[(l ++ [y]).length - 1]? = some y := by simp
  have e2 : (l ++ [y]).dropLast = l := by simp
  dsimp only
  rw [e1]
  dsimp only
  rw [e2, h]
abbrev condS : Env' → Cm Bool := gTb (gBin dGt (gLen (gOwn 2)) (gC (.int 0)))
abbrev bodyS : GS := gSeq (gPop 2 (gtT (gtCons (gtN 3) (gtCons (gtN 4) (gtNil))))) (gIfS (gTb (gIsi "tuple" (gVar 4))) (gSeq (gIfS (gOr (gNot (gTb (gIsi "tuple" (gVar 3)))) (gTb (gBin dNe (gLen (gQd (gVar 3))) (gLen (gQd (gVar 4)))))) (Py.gRet (gC (.bl false))) (gPass)) (gAsg 2 (gSl (gCat (gOwn 2) (gListZip (gVar 3) (gVar 4)))))) (gIfS (gOr (gTb (gIsi2 "tuple" "list" (gVar 3))) (gNot (gTb (gCall φ_L_is_kind (Py.gCons (gVar 3) (Py.gCons (gVar 4) (Py.gNil))))))) (Py.gRet (gC (.bl false))) (gPass)))
theorem zip_self : ∀ l : List D, (l.zip l).map (fun p => D.tup [p.1, p.2]) = l.map twD
  | [] => rfl
  | d :: l => by rw [List.zip_cons_cons, List.map_cons, List.map_cons, zip_self l]; rfl
theorem notlist {d : D} {k : Nat} (h : Good d k) (hn : isT "tuple" d = some false) : isT "list" d = some false := by
  cases h with
  | tup h => cases hn
  | _ => rfl
theorem istup {d : D} {k : Nat} (h : Good d k) : (∃ l j, d = .tup l ∧ GoodL l j ∧ k = j + 1) ∨ isT "tuple" d = some false := by
  cases h with
  | tup h => exact .inl ⟨_, _, rfl, h, rfl⟩
  | _ => exact .inr rfl
theorem same_body {a b : D} {ds : List D} {d : D} {k t : Nat} {s3 s4 : Slot} {M : Stor} (hM : wfM M = true) (hs : GoodL ds t) (hd : Good d k) (hz : t + k ≤ lim) : ∃ ds' t' s3' s4', bodyS [.dat a, .dat b, .lst ((ds ++ [d]).map twD), s3, s4] M = some ((.nx, [.dat a, .dat b, .lst (ds'.map twD), s3', s4']), M) ∧ GoodL ds' t' ∧ t' < t + k := by
  have hp : gPop 2 (gtT (gtCons (gtN 3) (gtCons (gtN 4) (gtNil)))) [.dat a, .dat b, .lst ((ds ++ [d]).map twD), s3, s4] M = some ((.nx, [.dat a, .dat b, .lst (ds.map twD), .dat d, .dat d]), M) := by
    rw [List.map_append]
    exact s_pop (y := twD d) rfl rfl
  rcases istup hd with ⟨l, j, rfl, hl, rfl⟩ | hn
  · refine ⟨ds ++ l, t + j, .dat (.tup l), .dat (.tup l), s_seq hp (s_ifT (v_tb (v_isi (v_var rfl) rfl)) (s_seq (s_ifF (v_or (b := false) (c := false) (v_not (b := true) (v_tb (v_isi (v_var rfl) rfl))) (fun _ => v_tb (v_bin (v_len (v_qd (v_var rfl) rfl)) (v_len (v_qd (v_var rfl) rfl)) (by rw [dne_int, decide_eq_true rfl]; rfl))) fun h => by cases h) s_pass) ?_)), hs.append hl, by omega⟩
    have hz2 : gListZip (gVar 3) (gVar 4) [.dat a, .dat b, .lst (ds.map twD), .dat (.tup l), .dat (.tup l)] M = some (l.map twD, M) := by
      unfold gListZip
      rw [v_var (d := .tup l) rfl, bnd_some, v_var (d := .tup l) rfl, bnd_some]
      show (if l.length = l.length then some ((l.zip l).map (fun p => D.tup [p.1, p.2]), M) else none) = _
      rw [if_pos rfl, zip_self]
    have h1 := hs.len
    have h2 := hl.len
    rw [List.map_append]
    exact s_asg (by simp) (v_sl (v_cat (v_own rfl) hz2 (by rw [List.length_map, List.length_map]; omega)))
  · have hk := hd.pos
    have hx : gTb (gIsi "tuple" (gVar 4)) [.dat a, .dat b, .lst (ds.map twD), .dat d, .dat d] M = some (false, M) := v_tb (v_isi (v_var rfl) hn)
    exact ⟨ds, t, .dat d, .dat d, s_seq hp (s_ifF hx (s_ifF (v_or (b := false) (c := false) (v_tb (v_isi2 (r := false) (r2 := false) (v_var rfl) hn (notlist hd hn))) (fun _ => v_not (b := true) (v_tb (v_call (v_cons (v_var rfl) (v_cons (v_var rfl) v_nil)) (kind_ok hM hd hn)))) fun h => by cases h) s_pass)), hs, by omega⟩
theorem same_loop {a b : D} {M : Stor} (hM : wfM M = true) : ∀ {n t : Nat} {ds : List D} {s3 s4 : Slot}, GoodL ds t → t < n → t ≤ lim → ∃ ds' s3' s4', whileF condS bodyS n [.dat a, .dat b, .lst (ds.map twD), s3, s4] M = some ((.nx, [.dat a, .dat b, .lst ds', s3', s4']), M)
  | 0, t, ds, s3, s4, _, h, _ => absurd h (Nat.not_lt_zero _)
  | n + 1, t, ds, s3, s4, hs, h, hz => by
    have hc : condS [.dat a, .dat b, .lst (ds.map twD), s3, s4] M = some (decide ((0 : Int) < ((ds.map twD).length : Int)), M) := v_tb (v_bin (v_len (v_own rfl)) v_c dgt_int)
    rcases List.eq_nil_or_concat ds with rfl | ⟨ds', d, rfl⟩
    · refine ⟨[], s3, s4, ?_⟩
      unfold whileF
      rw [hc, bnd_some]
      rfl
    · rw [List.concat_eq_append] at hs hc ⊢
      obtain ⟨x, k, h1, h2, h3⟩ := hs.last
      obtain ⟨ds2, t', u3, u4, h4, h5, h6⟩ := same_body (a := a) (b := b) (s3 := s3) (s4 := s4) hM h1 h2 (by omega)
      obtain ⟨ds3, w3, w4, h7⟩ := same_loop hM (n := n) (a := a) (b := b) (s3 := u3) (s4 := u4) h5 (by omega) (by omega)
      refine ⟨ds3, w3, w4, ?_⟩
      unfold whileF
      rw [hc, bnd_some, if_pos (decide_eq_true (by rw [List.length_map, List.length_append, List.length_singleton]; omega)), h4, bnd_some]
      exact h7
theorem same_ok {d : D} {k : Nat} {M : Stor} (hM : wfM M = true) (h : Good d k) (hk : k < 1000000) : φ_L_same [d, d] M = some (.bl true, M) := by
  have hg : GoodL [d] (k + 0) := .cons h .nil
  obtain ⟨ds', s3, s4, hl⟩ := same_loop hM (n := 1000000) (a := d) (b := d) (s3 := .un) (s4 := .un) hg (by omega) (by rw [lim_eq]; omega)
  exact run_ret rfl (s_seq (s_asg (by simp [env0]) (v_sl (v_lst (v_cons (v_tup (v_cons (v_var rfl) (v_cons (v_var rfl) v_nil)) (show 2 ≤ lim by decide)) v_nil) (show 1 ≤ lim by decide)))) (s_seq hl (s_ret v_c))) hM rfl
theorem all_ok {ds : List D} {M : Stor} (hM : wfM M = true) (hz : ds.length ≤ lim) (h : ∀ d ∈ ds, ∃ k, Good d k ∧ k < 1000000) : φ_L_all [.lst (ds.map twD)] M = some (.bl true, M) := by
  have h1 := gLc_map (src := gQd (gVar 0)) (tg := gtT (gtCons (gtN 1) (gtCons (gtN 2) (gtNil)))) (c := gNot (gTb (gCall φ_L_same (Py.gCons (gVar 1) (Py.gCons (gVar 2) (Py.gNil)))))) (e := gVar 1) (vs := [1, 2]) (ρ := [.dat (.lst (ds.map twD)), .un, .un]) (M := M) twD (fun _ => false) (fun d => d) (v_qd (v_var rfl) rfl) hz fun d hd => by
    obtain ⟨k, h1, h2⟩ := h d hd
    exact ⟨[.dat (.lst (ds.map twD)), .dat d, .dat d], rfl, v_not (b := true) (v_tb (v_call (v_cons (v_var rfl) (v_cons (v_var rfl) v_nil)) (same_ok hM h1 h2))), fun h => by cases h⟩
  have e : (ds.filter fun _ => false).map (fun d : D => d) = [] := by simp
  rw [e] at h1
  exact run_ret (ρ1 := env0 3 [.lst (ds.map twD)]) rfl (s_ret (v_bin (v_len h1) v_c deq_int)) hM rfl
end Onl
namespace Onl
open PySem PySem.Spec Py
/-! ### the deal -/
theorem v_ixM {ga gb : Env' → Cm D} {ρ : Env'} {M M1 M2 : Stor} {d x : D} {l : List D} {k : Int} (h1 : ga ρ M = some (d, M1)) (h2 : gb ρ M1 = some (.int k, M2)) (h3 : lstAt M2 d = some l) (h4 : L2.atI l k = some x) : gIxM ga gb ρ M = some (x, M2) := by
  unfold gIxM
  rw [h1, bnd_some, h2, bnd_some]
  dsimp only
  rw [h3]
  show lft (L2.atI l k) M2 = _
  rw [h4]
  rfl
theorem v_lenM {ga : Env' → Cm D} {ρ : Env'} {M M1 : Stor} {d : D} {l : List D} (h1 : ga ρ M = some (d, M1)) (h3 : lstAt M1 d = some l) : gLenM ga ρ M = some (.int l.length, M1) := by
  unfold gLenM
  rw [h1, bnd_some, h3]
  rfl
theorem v_popM {ga : Env' → Cm D} {ρ : Env'} {M M1 : Stor} {d x : D} {l : List D} (h1 : ga ρ M = some (d, M1)) (h3 : lstAt M1 d = some (l ++ [x])) : gPopM ga ρ M = some (x, setL M1 d l) := by
  unfold gPopM
  rw [h1, bnd_some, h3]
  have e1 : (l ++ [x])[(l ++ [x]).length - 1]? = some x := by simp
  have e2 : (l ++ [x]).dropLast = l := by simp
  dsimp only
  rw [e1]
  dsimp only
  rw [e2]
theorem v_appM {ga gb : Env' → Cm D} {ρ : Env'} {M M1 M2 : Stor} {d x : D} {l l0 : List D} (h1 : ga ρ M = some (d, M1)) (h0 : lstAt M1 d = some l0) (h2 : gb ρ M1 = some (x, M2)) (h3 : lstAt M2 d = some l) (hl : l.length ≤ lim) : gAppM ga gb ρ M = some (.non, setL M2 d (l ++ [x])) := by
  unfold gAppM
  rw [h1, bnd_some, h0]
  dsimp only
  rw [h2, bnd_some, h3]
  dsimp only
  rw [if_pos hl]
theorem s_setM {gv ga gb : Env' → Cm D} {ρ : Env'} {M M1 M2 M3 : Stor} {d x : D} {l : List D} {k : Int} {j : Nat} (h0 : gv ρ M = some (x, M1)) (h1 : ga ρ M1 = some (d, M2)) (h2 : gb ρ M2 = some (.int k, M3)) (h3 : lstAt M3 d = some l) (h4 : L2.ixN l.length k = some j) : gSetM gv ga gb ρ M = some ((.nx, ρ), setL M3 d (l.set j x)) := by
  unfold gSetM
  rw [h0, bnd_some, h1, bnd_some, h2, bnd_some]
  dsimp only
  rw [h3]
  dsimp only
  rw [h4]
def dM (cells : List Int) (mix : Int) (E : Stor) : Stor := .lst (cells.map D.int) :: .lst [.loc 0, .int mix] :: E
theorem dM_len {cells : List Int} {mix : Int} {E : Stor} : (dM cells mix E).length = E.length + 2 := rfl
theorem lcLts_int (n : Nat) : ∀ l : List Int, lcLts n (l.map D.int) = true
  | [] => rfl
  | _ :: l => by rw [List.map_cons, lcLts, lcLts_int n l]; rfl
def wfE (E : Stor) : Bool := E.all (moLt (E.length + 2))
theorem dM_wf {cells : List Int} {mix : Int} {E : Stor} (h : wfE E = true) : wfM (dM cells mix E) = true := by
  unfold wfM
  rw [dM_len]
  unfold dM
  rw [List.all_cons, List.all_cons]
  unfold wfE at h
  rw [h, moLt, moLt, lcLts_int]
  rfl
abbrev d0 : Env' → Cm D := gIxM (gVar 0) (gC (.int 0))
theorem v_d0 {cells : List Int} {mix : Int} {E : Stor} {ρ : Env'} (h : ρ[0]? = some (.dat (.loc 1))) : d0 ρ (dM cells mix E) = some (.loc 0, dM cells mix E) := v_ixM (v_var h) v_c rfl rfl
theorem last_int {cs : List Int} {c : Int} : L2.atI ((cs ++ [c]).map D.int) (-1) = some (.int c) := by
  unfold L2.atI
  have e : L2.ixN ((cs ++ [c]).map D.int).length (-1) = some cs.length := by
    unfold L2.ixN
    simp
    omega
  rw [e]
  simp
abbrev condA : Env' → Cm Bool := gAnd (gTb (gBin dGt (gLenM (gIxM (gVar 0) (gC (.int 0)))) (gC (.int 0)))) (gTb (gBin dEq (gIxM (gIxM (gVar 0) (gC (.int 0))) (gUn dNeg (gC (.int 1)))) (gC (.int 0))))
abbrev bodyA : GS := gDrop (gPopM (gIxM (gVar 0) (gC (.int 0))))
theorem any_loop {ρ : Env'} {mix : Int} {E : Stor} (hρ : ρ[0]? = some (.dat (.loc 1))) : ∀ {n : Nat} {cells : List Int}, cells.length < n → ∃ cells', whileF condA bodyA n ρ (dM cells mix E) = some ((.nx, ρ), dM cells' mix E) ∧ cells'.length ≤ cells.length ∧ ∀ c ∈ cells', c ∈ cells
  | 0, cells, h => absurd h (Nat.not_lt_zero _)
  | n + 1, cells, h => by
    have hl : gTb (gBin dGt (gLenM (gIxM (gVar 0) (gC (.int 0)))) (gC (.int 0))) ρ (dM cells mix E) = some (decide ((0 : Int) < ((cells.map D.int).length : Int)), dM cells mix E) := v_tb (v_bin (v_lenM (v_d0 hρ) rfl) v_c dgt_int)
    rcases List.eq_nil_or_concat cells with rfl | ⟨cs, c, rfl⟩
    · refine ⟨[], ?_, Nat.le_refl _, fun c h => h⟩
      have hc : condA ρ (dM [] mix E) = some (false && true, dM [] mix E) := v_and hl (fun h => by cases h) fun _ => rfl
      unfold whileF
      rw [hc, bnd_some]
      rfl
    · rw [List.concat_eq_append] at h hl ⊢
      have hpos : decide ((0 : Int) < (((cs ++ [c]).map D.int).length : Int)) = true := decide_eq_true (by rw [List.length_map, List.length_append, List.length_singleton]; omega)
      rw [hpos] at hl
      have hc : condA ρ (dM (cs ++ [c]) mix E) = some (true && decide (c = 0), dM (cs ++ [c]) mix E) := v_and hl (fun _ => v_tb (v_bin (v_ixM (v_d0 hρ) (v_un v_c dneg_int) rfl last_int) v_c deq_int)) fun h => by cases h
      by_cases hc0 : c = 0
      · rw [List.length_append, List.length_singleton] at h
        obtain ⟨cells', h1, h2, h3⟩ := any_loop hρ (mix := mix) (E := E) (n := n) (cells := cs) (by omega)
        refine ⟨cells', ?_, by rw [List.length_append]; omega, fun x hx => List.mem_append_left _ (h3 x hx)⟩
        unfold whileF
        rw [hc, bnd_some, if_pos (by rw [decide_eq_true hc0]; rfl)]
        have hb : bodyA ρ (dM (cs ++ [c]) mix E) = some ((.nx, ρ), dM cs mix E) := s_drop (v_popM (v_d0 hρ) (l := cs.map D.int) (x := .int c) (by
          show some ((cs ++ [c]).map D.int) = _
          rw [List.map_append]; rfl))
        rw [hb, bnd_some]
        exact h1
      · refine ⟨cs ++ [c], ?_, Nat.le_refl _, fun c h => h⟩
        unfold whileF
        rw [hc, bnd_some, if_neg (by rw [decide_eq_false hc0]; decide)]
structure Dl (M E : Stor) : Prop where
  ex : ∃ cells mix, M = dM cells mix E ∧ cells.length ≤ 63 ∧ (∀ c ∈ cells, 0 ≤ c) ∧ 0 ≤ mix ∧ mix < 2147483647
  wf : wfE E = true
theorem Dl.wfM {M E : Stor} (h : Dl M E) : wfM M = true := by
  obtain ⟨cells, mix, rfl, _⟩ := h.ex
  exact dM_wf h.wf
theorem fmod_range {a b : Int} (hb : 0 < b) : 0 ≤ a.fmod b ∧ a.fmod b < b := ⟨Int.fmod_nonneg_of_pos _ hb, Int.fmod_lt_of_pos _ hb⟩
theorem fdiv_nonneg {a b : Int} (ha : 0 ≤ a) (hb : 0 < b) : 0 ≤ a.fdiv b := Int.fdiv_nonneg ha (Int.le_of_lt hb)
theorem cut_dl {M M' E : Stor} {r : Int} (hl : M.length = E.length + 2) (h : Dl M' E) : cutR M (.int r) M' = some (.int r, M') := by
  obtain ⟨cells, mix, rfl, _⟩ := h.ex
  unfold cutR
  have e : (dM cells mix E).take M.length = dM cells mix E := List.take_of_length_le (by rw [hl, dM_len]; exact Nat.le_refl _)
  rw [e, if_pos ⟨by rw [hl, dM_len]; exact Nat.le_refl _, dM_wf h.wf, rfl⟩]
theorem any_ok {M E : Stor} {b : Int} (h : Dl M E) (hb : 1 ≤ b) (hb2 : b < 1073741824) : ∃ r M', φ_L_any [.loc 1, .int b] M = some (.int r, M') ∧ Dl M' E ∧ 0 ≤ r ∧ r < b := by
  obtain ⟨cells, mix, rfl, hlen, hpos, hmix, hmix2⟩ := h.ex
  obtain ⟨cells', hw, hw2, hw3⟩ := any_loop (ρ := [.dat (.loc 1), .dat (.int b), .un]) (mix := mix) (E := E) rfl (n := 64) (cells := cells) (by omega)
  have hdiv : ∀ {a : Int}, dFdiv (.int a) (.int b) = some (.int (a.fdiv b)) := fun {a} => dfdiv_int (by omega) (by omega)
  have hmod : ∀ {a : Int}, dMod (.int a) (.int b) = some (.int (a.fmod b)) := fun {a} => dmod_int (by omega)
  have hl : gTb (gBin dGt (gLenM (gIxM (gVar 0) (gC (.int 0)))) (gC (.int 0))) [.dat (.loc 1), .dat (.int b), .un] (dM cells' mix E) = some (decide ((0 : Int) < ((cells'.map D.int).length : Int)), dM cells' mix E) := v_tb (v_bin (v_lenM (v_d0 rfl) rfl) v_c dgt_int)
  rcases List.eq_nil_or_concat cells' with rfl | ⟨cs, c, rfl⟩
  · -- the mix
    have r1 := fmod_range (a := mix * 48271 + 31) (b := 2147483647) (by decide)
    have r2 := fmod_range (a := ((mix * 48271 + 31).fmod 2147483647).fdiv 64) (b := b) (by omega)
    have hD : Dl (dM [] ((mix * 48271 + 31).fmod 2147483647) E) E := ⟨⟨[], _, rfl, by decide, fun c h => absurd h (by simp), r1.1, r1.2⟩, h.wf⟩
    refine ⟨_, _, run_retC (ρ1 := [.dat (.loc 1), .dat (.int b), .un]) rfl (s_seq hw (s_seq (s_ifF hl s_pass) (s_seq (s_setM (l := [.loc 0, .int mix]) (j := 1) (d := .loc 1) (v_bin (v_int (v_bin (v_bin (v_ixM (v_var rfl) v_c rfl rfl) v_c (dmul_int ?_)) v_c dadd_int)) v_c (dmod_int (by decide))) (v_var rfl) v_c rfl rfl) (s_ret (v_bin (v_int (v_bin (v_ixM (v_var rfl) v_c rfl rfl) v_c (dfdiv_int (by decide) (by decide)))) (v_var rfl) hmod))))) (cut_dl rfl hD), hD, r2.1, r2.2⟩
    unfold cMul
    refine decide_eq_true ?_
    have h1 : mix.natAbs.log2 < 32 := by
      rcases Nat.eq_zero_or_pos mix.natAbs with h0 | h0
      · rw [h0]; decide
      · exact (Nat.log2_lt (by omega)).mpr (by omega)
    have h2 : (48271 : Int).natAbs.log2 < 20 := by decide
    omega
  · rw [List.concat_eq_append] at hw hw2 hw3 hl
    have hpos2 : decide ((0 : Int) < (((cs ++ [c]).map D.int).length : Int)) = true := decide_eq_true (by rw [List.length_map, List.length_append, List.length_singleton]; omega)
    rw [hpos2] at hl
    rw [List.length_append, List.length_singleton] at hw2
    have hc := hpos c (hw3 c (by simp))
    have r2 := fmod_range (a := c) (b := b) (by omega)
    have hD : Dl (dM (cs ++ [c.fdiv b]) mix E) E := ⟨⟨_, _, rfl, by rw [List.length_append, List.length_singleton]; omega, fun x hx => by
      rcases List.mem_append.mp hx with hx | hx
      · exact hpos x (hw3 x (List.mem_append_left _ hx))
      · rw [List.mem_singleton.mp hx]; exact fdiv_nonneg hc (by omega), hmix, hmix2⟩, h.wf⟩
    have hpop : gPopM (gIxM (gVar 0) (gC (.int 0))) [.dat (.loc 1), .dat (.int b), .un] (dM (cs ++ [c]) mix E) = some (.int c, dM cs mix E) := v_popM (v_d0 rfl) (l := cs.map D.int) (x := .int c) (by
      show some ((cs ++ [c]).map D.int) = _
      rw [List.map_append]; rfl)
    have happ : gAppM (gIxM (gVar 0) (gC (.int 0))) (gBin dFdiv (gVar 2) (gVar 1)) [.dat (.loc 1), .dat (.int b), .dat (.int c)] (dM cs mix E) = some (.non, dM (cs ++ [c.fdiv b]) mix E) := by
      have e : dM (cs ++ [c.fdiv b]) mix E = setL (dM cs mix E) (.loc 0) (cs.map D.int ++ [.int (c.fdiv b)]) := by
        unfold dM
        rw [List.map_append]; rfl
      rw [e]
      exact v_appM (v_d0 rfl) rfl (v_bin (v_var rfl) (v_var rfl) hdiv) rfl (by rw [List.length_map, lim_eq]; omega)
    exact ⟨_, _, run_retC (ρ1 := [.dat (.loc 1), .dat (.int b), .dat (.int c)]) rfl (s_seq hw (s_seqR (fl := .nx) (s_ifT hl (s_seq (s_asg (by simp) (v_sd (v_int hpop))) (s_seq (s_drop happ) (s_ret (v_bin (v_var rfl) (v_var rfl) hmod))))))) (cut_dl rfl hD), hD, r2.1, r2.2⟩
end Onl
namespace Onl
open PySem PySem.Spec Py
/-! ### drawing -/
theorem cut_dl' {M M' E : Stor} {d : D} (hl : M.length = E.length + 2) (h : Dl M' E) (hd : ∀ n, lcLt n d = true) : cutR M d M' = some (d, M') := by
  obtain ⟨cells, mix, rfl, _⟩ := h.ex
  unfold cutR
  have e : (dM cells mix E).take M.length = dM cells mix E := List.take_of_length_le (by rw [hl, dM_len]; exact Nat.le_refl _)
  rw [e, if_pos ⟨by rw [hl, dM_len]; exact Nat.le_refl _, dM_wf h.wf, hd _⟩]
theorem Dl.len {M E : Stor} (h : Dl M E) : M.length = E.length + 2 := by
  obtain ⟨cells, mix, rfl, _⟩ := h.ex
  rfl
theorem any_nat {M E : Stor} {b : Nat} (h : Dl M E) (hb : 1 ≤ b) (hb2 : b < 1073741824) : ∃ r M', φ_L_any [.loc 1, nD b] M = some (nD r, M') ∧ Dl M' E ∧ r < b := by
  obtain ⟨r, M', h1, h2, h3, h4⟩ := any_ok (b := (b : Int)) h (by omega) (by omega)
  refine ⟨r.toNat, M', ?_, h2, by omega⟩
  have : nD r.toNat = .int r := by unfold nD; rw [Int.toNat_of_nonneg h3]
  rw [this]
  exact h1
theorem of_ok {M E : Stor} {l : List D} (h : Dl M E) (hl : 1 ≤ l.length) (hl2 : l.length < 1073741824) (hd : ∀ d ∈ l, ∀ n, lcLt n d = true) : ∃ d M', φ_L_of [.loc 1, .lst l] M = some (d, M') ∧ Dl M' E ∧ d ∈ l := by
  obtain ⟨r, M', h1, h2, h3⟩ := any_nat h hl hl2
  have e : l[r]? = some l[r] := List.getElem?_eq_getElem h3
  exact ⟨l[r], M', run_retC (ρ1 := [.dat (.loc 1), .dat (.lst l)]) rfl (s_ret (v_ix (v_qd (v_var rfl) rfl) (v_call (v_cons (v_var rfl) (v_cons (v_len (v_qd (v_var rfl) rfl)) v_nil)) h1) (atI_nat e))) (cut_dl' h.len h2 (hd _ (List.getElem_mem h3))), h2, List.getElem_mem h3⟩
theorem v_popAtM {ga gb : Env' → Cm D} {ρ : Env'} {M M1 M2 : Stor} {d y : D} {l l0 : List D} {k : Int} {j : Nat} (h1 : ga ρ M = some (d, M1)) (h0 : lstAt M1 d = some l0) (h2 : gb ρ M1 = some (.int k, M2)) (h3 : lstAt M2 d = some l) (h4 : L2.ixN l.length k = some j) (h5 : l[j]? = some y) (hl : l.length ≤ lim) : gPopAtM ga gb ρ M = some (y, setL M2 d (l.eraseIdx j)) := by
  unfold gPopAtM
  rw [h1, bnd_some, h0]
  dsimp only
  rw [h2, bnd_some]
  dsimp only
  rw [h3]
  dsimp only
  rw [h4]
  dsimp only
  rw [h5]
  dsimp only
  rw [if_pos hl]
theorem ixN_nat {n k : Nat} (h : k < n) : L2.ixN n (k : Int) = some k := by
  unfold L2.ixN
  simp
  omega
mutual
theorem lcLt_up {a b : Nat} (h : a ≤ b) : ∀ d : D, lcLt a d = true → lcLt b d = true
  | .tup l, q => lcLts_up h l q
  | .lst l, q => lcLts_up h l q
  | .scr l, q => lcLts_up h l q
  | .dct l, q => lcLtp_up h l q
  | .obj _ l, q => lcLtf_up h l q
  | .loc i, q => decide_eq_true (Nat.lt_of_lt_of_le (of_decide_eq_true q) h)
  | .non, _ => rfl
  | .bl _, _ => rfl
  | .int _, _ => rfl
  | .str _, _ => rfl
  | .glo _, _ => rfl
theorem lcLts_up {a b : Nat} (h : a ≤ b) : ∀ l : List D, lcLts a l = true → lcLts b l = true
  | [], _ => rfl
  | d :: l, q => by
    rw [lcLts, Bool.and_eq_true] at q ⊢
    exact ⟨lcLt_up h d q.1, lcLts_up h l q.2⟩
theorem lcLtp_up {a b : Nat} (h : a ≤ b) : ∀ l : List (D × D), lcLtp a l = true → lcLtp b l = true
  | [], _ => rfl
  | (k, d) :: l, q => by
    rw [lcLtp, Bool.and_eq_true] at q ⊢
    exact ⟨lcLt_up h d q.1, lcLtp_up h l q.2⟩
theorem lcLtf_up {a b : Nat} (h : a ≤ b) : ∀ l : List (PySem.Str × D), lcLtf a l = true → lcLtf b l = true
  | [], _ => rfl
  | (k, d) :: l, q => by
    rw [lcLtf, Bool.and_eq_true] at q ⊢
    exact ⟨lcLt_up h d q.1, lcLtf_up h l q.2⟩
end
theorem moLt_up {a b : Nat} {o : MO} (h : a ≤ b) (q : moLt a o = true) : moLt b o = true := by
  cases o with
  | lst l => exact lcLts_up h l q
  | dct l => exact lcLts_up h _ q
  | ins c l => exact lcLts_up h _ q
/-- the list that is drawn from, behind the deal -/
theorem dl_push {M E : Stor} {l : List Nat} (h : Dl M E) : Dl (M ++ [.lst (l.map nD)]) (E ++ [.lst (l.map nD)]) := by
  obtain ⟨cells, mix, rfl, h1, h2, h3, h4⟩ := h.ex
  refine ⟨⟨cells, mix, rfl, h1, h2, h3, h4⟩, ?_⟩
  have hw := h.wf
  unfold wfE at hw ⊢
  rw [List.all_append, Bool.and_eq_true]
  refine ⟨List.all_eq_true.mpr fun o ho => ?_, by rw [List.all_cons, moLt, lcLts_nD]; rfl⟩
  have := List.all_eq_true.mp hw o ho
  rw [List.length_append, List.length_singleton]
  exact moLt_up (by omega) this
/-- another list there -/
theorem dl_set {M E : Stor} {l l' : List Nat} (h : Dl M (E ++ [.lst (l.map nD)])) : Dl (setL M (.loc (E.length + 2)) (l'.map nD)) (E ++ [.lst (l'.map nD)]) := by
  obtain ⟨cells, mix, rfl, h1, h2, h3, h4⟩ := h.ex
  refine ⟨⟨cells, mix, ?_, h1, h2, h3, h4⟩, ?_⟩
  · show (MO.lst (cells.map D.int) :: MO.lst [.loc 0, .int mix] :: (E ++ [.lst (l.map nD)])).set (E.length + 1 + 1) (.lst (l'.map nD)) = _
    rw [List.set_cons_succ, List.set_cons_succ, List.set_append_right _ _ (Nat.le_refl _), Nat.sub_self]
    rfl
  · have hw := h.wf
    unfold wfE at hw ⊢
    rw [List.all_append, Bool.and_eq_true] at hw ⊢
    rw [List.length_append, List.length_singleton] at hw ⊢
    exact ⟨hw.1, by rw [List.all_cons, moLt, lcLts_nD]; rfl⟩
theorem dl_at {M E : Stor} {l : List Nat} (h : Dl M (E ++ [.lst (l.map nD)])) : lstAt M (.loc (E.length + 2)) = some (l.map nD) := by
  obtain ⟨cells, mix, rfl, _⟩ := h.ex
  unfold lstAt dM
  have e : (MO.lst (cells.map D.int) :: MO.lst [.loc 0, .int mix] :: (E ++ [.lst (l.map nD)]))[E.length + 2]? = some (.lst (l.map nD)) := by
    rw [show E.length + 2 = E.length + 1 + 1 from rfl, List.getElem?_cons_succ, List.getElem?_cons_succ, List.getElem?_append_right (Nat.le_refl _), Nat.sub_self]
    rfl
  dsimp only
  rw [e]
theorem erase_map {α β : Type} (f : α → β) : ∀ (l : List α) (i : Nat), (l.map f).eraseIdx i = (l.eraseIdx i).map f
  | [], _ => by simp
  | a :: l, 0 => by simp
  | a :: l, i + 1 => by
    rw [List.map_cons, List.eraseIdx_cons_succ, List.eraseIdx_cons_succ, List.map_cons, erase_map f l i]
theorem erase_perm {α : Type} : ∀ (l : List α) (i : Nat) (h : i < l.length), (l[i] :: l.eraseIdx i).Perm l
  | a :: l, 0, _ => by simp
  | a :: l, i + 1, h => by
    rw [List.getElem_cons_succ, List.eraseIdx_cons_succ]
    exact (List.Perm.swap _ _ _).trans (List.Perm.cons a (erase_perm l i (by simpa using h)))
theorem mixed_ok {M E : Stor} {l : List Nat} (h : Dl M E) (hl : l.length ≤ 1000) : ∃ (l' : List Nat) (M' : Stor), φ_L_mixed [.loc 1, .lst (l.map nD)] M = some (.lst (l'.map nD), M') ∧ Dl M' E ∧ l'.Perm l := by
  have hlen := h.len
  have key : ∃ ρ' M', forL (gtN 2) (gApp 4 (gPopAtM (gVar 3) (gCall φ_L_any (Py.gCons (gVar 0) (Py.gCons (gLenM (gVar 3)) (Py.gNil)))))) ((List.range l.length).map nD) [.dat (.loc 1), .dat (.lst (l.map nD)), .un, .dat (.loc (E.length + 2)), .lst []] (M ++ [.lst (l.map nD)]) = some ((.nx, ρ'), M') ∧
      (∃ (L found : List Nat) (s2 : Slot), Dl M' (E ++ [.lst (L.map nD)]) ∧ ρ' = [.dat (.loc 1), .dat (.lst (l.map nD)), s2, .dat (.loc (E.length + 2)), .lst (found.map nD)] ∧ (found ++ L).Perm l ∧ L.length + (0 + ((List.range l.length).map nD).length) = l.length) := by
    refine forL_inv (fun i ρ M' => ∃ (L found : List Nat) (s2 : Slot), Dl M' (E ++ [.lst (L.map nD)]) ∧ ρ = [.dat (.loc 1), .dat (.lst (l.map nD)), s2, .dat (.loc (E.length + 2)), .lst (found.map nD)] ∧ (found ++ L).Perm l ∧ L.length + i = l.length) (k := 0) ⟨l, [], .un, dl_push h, rfl, List.Perm.refl _, by omega⟩ fun i d ρ M' hd ⟨L, found, s2, hD, hρ, hp, hc⟩ => ?_
    subst hρ
    have hi : i < l.length := by
      have := (List.getElem?_eq_some_iff.mp hd).1
      simpa using this
    have hpl := hp.length_eq
    rw [List.length_append] at hpl
    obtain ⟨r, M2, h1, h2, h3⟩ := any_nat (b := L.length) hD (by omega) (by omega)
    have hy : (L.map nD)[r]? = some (nD L[r]) := by rw [List.getElem?_map, List.getElem?_eq_getElem h3]; rfl
    have hpop : gPopAtM (gVar 3) (gCall φ_L_any (Py.gCons (gVar 0) (Py.gCons (gLenM (gVar 3)) (Py.gNil)))) [.dat (.loc 1), .dat (.lst (l.map nD)), .dat d, .dat (.loc (E.length + 2)), .lst (found.map nD)] M' = some (nD L[r], setL M2 (.loc (E.length + 2)) ((L.map nD).eraseIdx r)) := by
      have hlenM : gLenM (gVar 3) [.dat (.loc 1), .dat (.lst (l.map nD)), .dat d, .dat (.loc (E.length + 2)), .lst (found.map nD)] M' = some (nD L.length, M') := by
        have := v_lenM (ga := gVar 3) (ρ := [.dat (.loc 1), .dat (.lst (l.map nD)), .dat d, .dat (.loc (E.length + 2)), .lst (found.map nD)]) (v_var rfl) (dl_at hD)
        rw [List.length_map] at this
        exact this
      exact v_popAtM (k := (r : Int)) (v_var rfl) (dl_at hD) (v_call (v_cons (v_var rfl) (v_cons hlenM v_nil)) h1) (dl_at h2) (by rw [List.length_map]; exact ixN_nat h3) hy (by rw [List.length_map, lim_eq]; omega)
    have ee : (L.map nD).eraseIdx r = (L.eraseIdx r).map nD := erase_map nD L r
    rw [ee] at hpop
    refine ⟨_, _, _, rfl, s_app rfl hpop (by rw [List.length_map, lim_eq]; omega), L.eraseIdx r, found ++ [L[r]], .dat d, dl_set h2, ?_, ?_, ?_⟩
    · rw [List.map_append]; rfl
    · refine List.Perm.trans ?_ hp
      rw [List.append_assoc]
      exact List.Perm.append_left _ (erase_perm L r h3)
    · rw [List.length_eraseIdx_of_lt h3]; omega
  obtain ⟨ρ', M', hf, L, found, s2, hD, hρ, hp, hc⟩ := key
  subst hρ
  have hL : L = [] := List.length_eq_zero_iff.mp (by rw [List.length_map, List.length_range] at hc; omega)
  subst hL
  rw [List.append_nil] at hp
  obtain ⟨cells, mix, rfl, c1, c2, c3, c4⟩ := hD.ex
  have hD2 : Dl (dM cells mix E) E := ⟨⟨cells, mix, rfl, c1, c2, c3, c4⟩, h.wf⟩
  obtain ⟨ρ2, hret⟩ := s_retOwn (i := 4) (ρ := [.dat (.loc 1), .dat (.lst (l.map nD)), s2, .dat (.loc (E.length + 2)), .lst (found.map nD)]) (M := dM cells mix (E ++ [.lst ([].map nD)])) rfl
  refine ⟨found, dM cells mix E, run_retC (ρ1 := ρ2) rfl (s_seq (s_par (by simp [env0]) (v_sd (v_newL (v_qd (v_var rfl) rfl))) (v_sl (v_lst v_nil (Nat.zero_le _)))) (s_seq (s_for (M1 := M ++ [.lst (l.map nD)]) (l := (List.range l.length).map nD) (v_rg ?_ (by omega)) ?_) hret)) ?_, hD2, hp⟩
  · have := v_len (ρ := ((env0 5 [D.loc 1, D.lst (l.map nD)]).set 3 (Slot.dat (.loc M.length))).set 4 (Slot.lst [])) (M := M ++ [.lst (l.map nD)]) (v_qd (ga := gVar 1) (v_var (d := .lst (l.map nD)) rfl) (l := l.map nD) rfl)
    rw [List.length_map] at this
    exact this
  · rw [hlen]
    exact hf
  · unfold cutR
    have e : (dM cells mix (E ++ [.lst ([].map nD)])).take M.length = dM cells mix E := by
      rw [hlen]
      show (MO.lst (cells.map D.int) :: MO.lst [.loc 0, .int mix] :: (E ++ [.lst ([].map nD)])).take (E.length + 1 + 1) = _
      rw [List.take_succ_cons, List.take_succ_cons, List.take_left']
      · rfl
      · rfl
    rw [e, if_pos ⟨by rw [hlen, dM_len, List.length_append]; omega, dM_wf h.wf, lcLts_nD _ _⟩]
end Onl
namespace Onl
open PySem PySem.Spec Py
/-! ### frames -/
def castL (l : List Nat) : List Int := l.map fun (k : Nat) => (k : Int)
def sortN (s : List (List Nat)) : List (List Nat) := (sortL (s.map castL)).map fun l => l.map Int.toNat
theorem toNat_cast (l : List Nat) : (castL l).map Int.toNat = l := by
  unfold castL
  rw [List.map_map]
  refine (List.map_congr_left (g := id) fun k _ => ?_).trans (List.map_id _)
  rfl
theorem sortN_perm (s : List (List Nat)) : (sortN s).Perm s := by
  have h : (sortL (s.map castL)).Perm (s.map castL) := List.mergeSort_perm _ _
  have h2 := h.map fun l => l.map Int.toNat
  rw [List.map_map] at h2
  have e : s.map ((fun l => l.map Int.toNat) ∘ castL) = s := (List.map_congr_left (g := id) fun l _ => toNat_cast l).trans (List.map_id _)
  rw [e] at h2
  exact h2
theorem sortN_cast (s : List (List Nat)) : (sortN s).map castL = sortL (s.map castL) := by
  unfold sortN
  rw [List.map_map]
  refine (List.map_congr_left (g := id) fun l hl => ?_).trans (List.map_id _)
  have h : (sortL (s.map castL)).Perm (s.map castL) := List.mergeSort_perm _ _
  obtain ⟨m, _, rfl⟩ := List.mem_map.mp (h.mem_iff.mp hl)
  show castL ((castL m).map Int.toNat) = castL m
  rw [toNat_cast]
theorem tn_cast (l : List Nat) : tiD (castL l) = tn l := by
  unfold tiD castL tn
  rw [map_int]
theorem tis_tn : ∀ s : List (List Nat), tisOf (s.map tn) = some (s.map castL)
  | [] => rfl
  | l :: s => by
    rw [List.map_cons, tn, tisOf, ints_nD, tis_tn s]
    rfl
theorem sortT_ok {s : List (List Nat)} {g : Env' → Cm D} {ρ : Env'} {M M1 : Stor} (h : g ρ M = some (.lst (s.map tn), M1)) (hs : s.length < 2 ∨ ∀ lot ∈ s, lot ≠ []) : gSortT (gLd g) ρ M = some ((sortN s).map tn, M1) := by
  unfold gSortT
  rw [v_ld h rfl, bnd_some, tis_tn]
  dsimp only
  rw [if_pos]
  · rw [← sortN_cast, List.map_map]
    refine congrArg (fun x => some (x, M1)) (List.map_congr_left fun l _ => tn_cast l)
  · rcases hs with hs | hs
    · exact .inl (by rw [List.length_map]; exact hs)
    · refine .inr (List.all_eq_true.mpr fun ns hn => ?_)
      obtain ⟨l, hl, rfl⟩ := List.mem_map.mp hn
      have := hs l hl
      cases l with
      | nil => exact absurd rfl this
      | cons a l => rfl
def sD (s : List (List Nat)) : D := .lst (s.map tn)
theorem lcLts_tn (n : Nat) : ∀ s : List (List Nat), lcLts n (s.map tn) = true
  | [] => rfl
  | l :: s => by rw [List.map_cons, lcLts, lcLt_tn, lcLts_tn n s]; rfl
theorem lcLts_sD (n : Nat) : ∀ s : List (List (List Nat)), lcLts n (s.map sD) = true
  | [] => rfl
  | l :: s => by rw [List.map_cons, lcLts, sD, lcLt, lcLts_tn, lcLts_sD n s]; rfl
theorem lcLt_frD (n : Nat) (ws : List Int) (lots : List (List (List Nat))) : lcLt n (frD ws lots) = true := by
  unfold frD lotsD
  rw [lcLt, lcLtp, lcLtp, lcLtp, lcLt, lcLt, lcLts_int]
  show (true && (lcLts n (lots.map sD) && true)) = true
  rw [lcLts_sD]; rfl
def okS (s : List (List Nat)) : Prop := s.length < 2 ∨ ∀ lot ∈ s, lot ≠ []
theorem frame_ok {ws : List Int} {raw : List (List (List Nat))} {M : Stor} (hM : wfM M = true) (hz : raw.length ≤ lim) (hs : ∀ s ∈ raw, okS s) : φ_L_frame [.lst (ws.map D.int), .lst (raw.map sD)] M = some (frD ws (raw.map sortN), M) := by
  have h1 := gLc_map (src := gQd (gVar 1)) (tg := gtN 2) (c := gYes) (e := gFz (gSortT (gLd (gVar 2)))) (vs := [2]) (ρ := [.dat (.lst (ws.map D.int)), .dat (.lst (raw.map sD)), .un]) (M := M) sD (fun _ => true) (fun s => sD (sortN s)) (v_qd (v_var rfl) rfl) hz fun s hm =>
    ⟨[.dat (.lst (ws.map D.int)), .dat (.lst (raw.map sD)), .dat (sD s)], rfl, rfl, fun _ => v_fz (sortT_ok (v_var rfl) (hs s hm))⟩
  rw [show raw.filter (fun _ => true) = raw from List.filter_eq_self.mpr fun _ _ => rfl] at h1
  have h2 : gDisp ((gC (.str "weights"), gFz (gQd (gVar 0))) :: (gC (.str "lots"), gFz (gLc (gQd (gVar 1)) (gtN 2) (gYes) (gFz (gSortT (gLd (gVar 2)))) [2])) :: []) [.dat (.lst (ws.map D.int)), .dat (.lst (raw.map sD)), .un] M = some ([(.str "weights", .lst (ws.map D.int)), (.str "lots", .lst (raw.map fun s => sD (sortN s)))], M) := by
    unfold gDisp
    have hp : gPairs ((gC (.str "weights"), gFz (gQd (gVar 0))) :: (gC (.str "lots"), gFz (gLc (gQd (gVar 1)) (gtN 2) (gYes) (gFz (gSortT (gLd (gVar 2)))) [2])) :: []) [.dat (.lst (ws.map D.int)), .dat (.lst (raw.map sD)), .un] M = some ([(.str "weights", .lst (ws.map D.int)), (.str "lots", .lst (raw.map fun s => sD (sortN s)))], M) := by
      unfold gPairs
      rw [v_c, bnd_some, v_fz (v_qd (v_var rfl) rfl), bnd_some]
      unfold gPairs
      rw [v_c, bnd_some, v_fz h1, bnd_some]
      rfl
    rw [hp, bnd_some]
    rfl
  have e : frD ws (raw.map sortN) = .dct [(.str "weights", .lst (ws.map D.int)), (.str "lots", .lst (raw.map fun s => sD (sortN s)))] := by
    unfold frD lotsD
    rw [List.map_map]
    rfl
  have hlt := lcLt_frD M.length ws (raw.map sortN)
  rw [e] at hlt ⊢
  refine run_ret (ρ1 := [.dat (.lst (ws.map D.int)), .dat (.lst (raw.map sD)), .un]) rfl (s_ret ?_) hM hlt
  unfold gFzM
  have h2 : gDisp _ (env0 3 [.lst (ws.map D.int), .lst (raw.map sD)]) M = _ := h2
  rw [h2]
  rfl
theorem many_ok {ws : List Int} {lots : List (List (List Nat))} {M : Stor} (hM : wfM M = true) : φ_L_many [frD ws lots] M = some (nD ws.length, M) := by
  have := v_len (ρ := [.dat (frD ws lots)]) (M := M) (v_qd (v_weights (g := gVar 0) (ws := ws) (lots := lots) (v_var rfl)) rfl)
  rw [List.length_map] at this
  exact run_ret (ρ1 := [.dat (frD ws lots)]) rfl (s_ret this) hM rfl
end Onl
namespace Onl
open PySem PySem.Spec Py
/-! ### drawn lots -/
def sortK (l : List Nat) : List Nat := (sortI (castL l)).map Int.toNat
theorem sortK_perm (l : List Nat) : (sortK l).Perm l := by
  have h : (sortI (castL l)).Perm (castL l) := List.mergeSort_perm _ _
  have h2 := h.map Int.toNat
  rw [toNat_cast] at h2
  exact h2
theorem sortK_cast (l : List Nat) : castL (sortK l) = sortI (castL l) := by
  unfold sortK castL
  rw [List.map_map]
  refine (List.map_congr_left (g := id) fun k hk => ?_).trans (List.map_id _)
  have h : (sortI (castL l)).Perm (castL l) := List.mergeSort_perm _ _
  obtain ⟨m, _, rfl⟩ := List.mem_map.mp (h.mem_iff.mp hk)
  rfl
theorem v_sortK {g : Env' → Cm (List D)} {ρ : Env'} {M M1 : Stor} {l : List Nat} (h : g ρ M = some (l.map nD, M1)) : gSortI g ρ M = some ((sortK l).map nD, M1) := by
  unfold gSortI
  rw [h, bnd_some, ints_nD]
  show some ((sortI (castL l)).map D.int, M1) = _
  rw [← sortK_cast]
  unfold castL
  rw [map_int]
theorem cut_take {α : Type} {l : List α} {k : Nat} : cutD l none (some (k : Int)) = l.take k := by
  unfold cutD
  rw [HT.sIx_none, HT.sIx_nat, List.drop_zero, Nat.sub_zero]
  rcases Nat.le_total k l.length with h | h
  · rw [Nat.min_eq_left h]
  · rw [Nat.min_eq_right h, List.take_of_length_le (Nat.le_refl _), List.take_of_length_le h]
abbrev insideG : Env' → Cm (List D) := gLc (gQd (gVar 2)) (gtN 6) (gOr (gTb (gBin dEq (gLen (gLc (gQd (gVar 6)) (gtN 7) (gTb (gIn true (gVar 7) (gQd (gVar 4)))) (gVar 7) [7])) (gC (.int 0)))) (gTb (gBin dEq (gLen (gLc (gQd (gVar 4)) (gtN 7) (gTb (gIn true (gVar 7) (gQd (gVar 6)))) (gVar 7) [7])) (gC (.int 0))))) (gVar 6) [6]
theorem v_notin {i j : Nat} {ρ : Env'} {M : Stor} {x : Nat} {l : List Nat} (h1 : ρ[i]? = some (.dat (nD x))) (h2 : ρ[j]? = some (.dat (tn l))) : gTb (gIn true (gVar i) (gQd (gVar j))) ρ M = some (!decide (x ∈ l), M) := by
  rw [← mem_nD]
  exact v_tb (v_in (v_var h1) (v_qd (v_var h2) rfl) rfl (flat_nD _))
theorem inside_ok {t lot : List Nat} {x : D} {s : List (List Nat)} {s3 s5 : Slot} {y : D} {M : Stor} (hz : s.length ≤ lim) (hl : lot.length ≤ lim) (hs : ∀ l ∈ s, l.length ≤ lim) : ∃ k : List (List Nat), insideG [.dat (.loc 1), .dat x, .dat (sD s), s3, .dat (tn lot), s5, .un, .un] M = some (k.map tn, M) := by
  have h := gLc_map (src := gQd (gVar 2)) (tg := gtN 6) (c := gOr (gTb (gBin dEq (gLen (gLc (gQd (gVar 6)) (gtN 7) (gTb (gIn true (gVar 7) (gQd (gVar 4)))) (gVar 7) [7])) (gC (.int 0)))) (gTb (gBin dEq (gLen (gLc (gQd (gVar 4)) (gtN 7) (gTb (gIn true (gVar 7) (gQd (gVar 6)))) (gVar 7) [7])) (gC (.int 0))))) (e := gVar 6) (vs := [6]) (ρ := [.dat (.loc 1), .dat x, .dat (sD s), s3, .dat (tn lot), s5, .un, .un]) (M := M) tn
    (fun o => decide (((((o.filter fun j => !decide (j ∈ lot)).map nD).length : Nat) : Int) = 0) || decide (((((lot.filter fun j => !decide (j ∈ o)).map nD).length : Nat) : Int) = 0)) tn (v_qd (v_var rfl) rfl) hz fun o ho => ?_
  · exact ⟨_, h⟩
  · refine ⟨[.dat (.loc 1), .dat x, .dat (sD s), s3, .dat (tn lot), s5, .dat (tn o), .un], rfl, ?_, fun _ => v_var rfl⟩
    have i1 := gLc_map (src := gQd (gVar 6)) (tg := gtN 7) (c := gTb (gIn true (gVar 7) (gQd (gVar 4)))) (e := gVar 7) (vs := [7]) (ρ := [.dat (.loc 1), .dat x, .dat (sD s), s3, .dat (tn lot), s5, .dat (tn o), .un]) (M := M) nD (fun j => !decide (j ∈ lot)) nD (v_qd (v_var rfl) rfl) (hs o ho) fun j _ => ⟨[.dat (.loc 1), .dat x, .dat (sD s), s3, .dat (tn lot), s5, .dat (tn o), .dat (nD j)], rfl, v_notin rfl rfl, fun _ => v_var rfl⟩
    have i2 := gLc_map (src := gQd (gVar 4)) (tg := gtN 7) (c := gTb (gIn true (gVar 7) (gQd (gVar 6)))) (e := gVar 7) (vs := [7]) (ρ := [.dat (.loc 1), .dat x, .dat (sD s), s3, .dat (tn lot), s5, .dat (tn o), .un]) (M := M) nD (fun j => !decide (j ∈ o)) nD (v_qd (v_var rfl) rfl) hl fun j _ => ⟨[.dat (.loc 1), .dat x, .dat (sD s), s3, .dat (tn lot), s5, .dat (tn o), .dat (nD j)], rfl, v_notin rfl rfl, fun _ => v_var rfl⟩
    exact v_or (v_tb (v_bin (v_len i1) v_c deq_int)) (fun _ => v_tb (v_bin (v_len i2) v_c deq_int)) fun _ => rfl
abbrev bodyDL : GS := gSeq (gAsg 4 (gSd (gTuple (gSortI (gSl1 (gLd (gCall φ_L_mixed (Py.gCons (gVar 0) (Py.gCons (gFz (gRg (gVar 1))) (Py.gNil))))) (goN) (goS (gBin dAdd (gC (.int 1)) (gCall φ_L_any (Py.gCons (gVar 0) (Py.gCons (gC (.int 2)) (Py.gNil))))))))))) (gSeq (gAsg 5 (gSd (gFz insideG))) (gAsg 2 (gSd (gFz (gCat (gLt (gVar 2)) (gIf (gTb (gBin dEq (gLen (gQd (gVar 5))) (gC (.int 0)))) (gLst (Py.gCons (gVar 4) (Py.gNil))) (gLst (Py.gNil))))))))
def okLot (t : Nat) (lot : List Nat) : Prop := lot ≠ [] ∧ lot.length ≤ 12 ∧ ∀ j ∈ lot, j < t
theorem dl_body {M E : Stor} {t i : Nat} {s : List (List Nat)} {s3 s4 s5 : Slot} (h : Dl M E) (ht : 0 < t) (ht2 : t ≤ 12) (hs : s.length ≤ i) (hi : i ≤ 100) (ho : ∀ lot ∈ s, okLot t lot) : ∃ s' M' s4' s5', bodyDL [.dat (.loc 1), .dat (nD t), .dat (sD s), s3, s4, s5, .un, .un] M = some ((.nx, [.dat (.loc 1), .dat (nD t), .dat (sD s'), s3, s4', s5', .un, .un]), M') ∧ Dl M' E ∧ s'.length ≤ i + 1 ∧ ∀ lot ∈ s', okLot t lot := by
  obtain ⟨l', M1, h1, d1, hp⟩ := mixed_ok (l := List.range t) h (by rw [List.length_range]; omega)
  obtain ⟨r, M2, h2, d2, hr⟩ := any_nat (b := 2) d1 (by decide) (by decide)
  have hlen : l'.length = t := by rw [hp.length_eq, List.length_range]
  have hlot : okLot t (sortK (l'.take (1 + r))) := by
    have hpk := sortK_perm (l'.take (1 + r))
    refine ⟨fun e => ?_, ?_, fun j hj => ?_⟩
    · have := hpk.length_eq
      rw [e, List.length_take, hlen] at this
      simp at this
      omega
    · rw [hpk.length_eq, List.length_take, hlen]; omega
    · have h3 := hp.mem_iff.mp (List.mem_of_mem_take (hpk.mem_iff.mp hj))
      exact List.mem_range.mp h3
  have h4 : gAsg 4 (gSd (gTuple (gSortI (gSl1 (gLd (gCall φ_L_mixed (Py.gCons (gVar 0) (Py.gCons (gFz (gRg (gVar 1))) (Py.gNil))))) (goN) (goS (gBin dAdd (gC (.int 1)) (gCall φ_L_any (Py.gCons (gVar 0) (Py.gCons (gC (.int 2)) (Py.gNil)))))))))) [.dat (.loc 1), .dat (nD t), .dat (sD s), s3, s4, s5, .un, .un] M = some ((.nx, [.dat (.loc 1), .dat (nD t), .dat (sD s), s3, .dat (tn (sortK (l'.take (1 + r)))), s5, .un, .un]), M2) := by
    have hsl : gSl1 (gLd (gCall φ_L_mixed (Py.gCons (gVar 0) (Py.gCons (gFz (gRg (gVar 1))) (Py.gNil))))) (goN) (goS (gBin dAdd (gC (.int 1)) (gCall φ_L_any (Py.gCons (gVar 0) (Py.gCons (gC (.int 2)) (Py.gNil)))))) [.dat (.loc 1), .dat (nD t), .dat (sD s), s3, s4, s5, .un, .un] M = some ((l'.take (1 + r)).map nD, M2) := by
      have e : (l'.take (1 + r)).map nD = cutD (l'.map nD) none (some (((1 + r : Nat) : Int))) := by rw [cut_take, List.map_take]
      rw [e]
      have e2 : ((1 + r : Nat) : Int) = 1 + (r : Int) := by omega
      rw [e2]
      exact v_sl1 (v_ld (v_call (v_cons (v_var rfl) (v_cons (v_fz (v_rg (v_var rfl) (by omega))) v_nil)) h1) rfl) v_on (v_os (v_bin v_c (v_call (v_cons (v_var rfl) (v_cons v_c v_nil)) h2) dadd_int))
    exact s_asg (by simp) (v_sd (v_tuple (v_sortK hsl)))
  obtain ⟨k, hk⟩ := inside_ok (t := []) (lot := sortK (l'.take (1 + r))) (x := nD t) (s := s) (s3 := s3) (s5 := s5) (y := .non) (M := M2) (by rw [lim_eq]; omega) (by have := hlot.2.1; rw [lim_eq]; omega) (fun l hl => by have := (ho l hl).2.1; rw [lim_eq]; omega)
  have hc : gTb (gBin dEq (gLen (gQd (gVar 5))) (gC (.int 0))) [.dat (.loc 1), .dat (nD t), .dat (sD s), s3, .dat (tn (sortK (l'.take (1 + r)))), .dat (.lst (k.map tn)), .un, .un] M2 = some (decide (((k.map tn).length : Int) = 0), M2) := v_tb (v_bin (v_len (v_qd (v_var rfl) rfl)) v_c deq_int)
  by_cases hq : ((k.map tn).length : Int) = 0
  · rw [decide_eq_true hq] at hc
    have hb : bodyDL [.dat (.loc 1), .dat (nD t), .dat (sD s), s3, s4, s5, .un, .un] M = some ((.nx, [.dat (.loc 1), .dat (nD t), .dat (.lst (s.map tn ++ [tn (sortK (l'.take (1 + r)))])), s3, .dat (tn (sortK (l'.take (1 + r)))), .dat (.lst (k.map tn)), .un, .un]), M2) :=
      s_seq h4 (s_seq (s_asg (by simp) (v_sd (v_fz hk))) (s_asg (by simp) (v_sd (v_fz (v_cat (v_lt (v_var rfl) rfl) (v_ifT hc (v_lst (v_cons (v_var rfl) v_nil) (show 1 ≤ lim by decide))) (by rw [List.length_map, lim_eq]; show s.length + 1 ≤ _; omega))))))
    have e : sD (s ++ [sortK (l'.take (1 + r))]) = .lst (s.map tn ++ [tn (sortK (l'.take (1 + r)))]) := by unfold sD; rw [List.map_append]; rfl
    refine ⟨s ++ [sortK (l'.take (1 + r))], M2, .dat (tn (sortK (l'.take (1 + r)))), .dat (.lst (k.map tn)), by rw [e]; exact hb, d2, by rw [List.length_append, List.length_singleton]; omega, fun lot hl => ?_⟩
    rcases List.mem_append.mp hl with hl | hl
    · exact ho lot hl
    · rw [List.mem_singleton.mp hl]; exact hlot
  · rw [decide_eq_false hq] at hc
    have hb : bodyDL [.dat (.loc 1), .dat (nD t), .dat (sD s), s3, s4, s5, .un, .un] M = some ((.nx, [.dat (.loc 1), .dat (nD t), .dat (.lst (s.map tn ++ [])), s3, .dat (tn (sortK (l'.take (1 + r)))), .dat (.lst (k.map tn)), .un, .un]), M2) :=
      s_seq h4 (s_seq (s_asg (by simp) (v_sd (v_fz hk))) (s_asg (by simp) (v_sd (v_fz (v_cat (v_lt (v_var rfl) rfl) (v_ifF hc (v_lst v_nil (Nat.zero_le _))) (by rw [List.length_map, lim_eq]; show s.length + 0 ≤ _; omega))))))
    rw [List.append_nil] at hb
    exact ⟨s, M2, .dat (tn (sortK (l'.take (1 + r)))), .dat (.lst (k.map tn)), hb, d2, by omega, ho⟩
theorem lcLt_sD (n : Nat) (s : List (List Nat)) : lcLt n (sD s) = true := lcLts_tn n s
theorem drawnlots_ok {M E : Stor} {t : Nat} (h : Dl M E) (ht : t ≤ 12) : ∃ s M', φ_L_drawn_lots [.loc 1, nD t] M = some (sD s, M') ∧ Dl M' E ∧ okS s ∧ s.length ≤ 2 ∧ (∀ lot ∈ s, lot.length ≤ 12 ∧ ∀ j ∈ lot, j < t) ∧ (t = 0 → s = [[]]) := by
  have h1 : gTb (gBin dEq (gVar 1) (gC (.int 0))) (env0 8 [D.loc 1, nD t]) M = some (decide ((t : Int) = 0), M) := v_tb (v_bin (v_var rfl) v_c deq_int)
  have hone : okS ([[]] : List (List Nat)) := .inl (by decide)
  have hret : ∀ {M2 : Stor}, Py.gRet (gFz (gLst (Py.gCons (Py.gTup (Py.gNil)) (Py.gNil)))) (env0 8 [D.loc 1, nD t]) M2 = some ((.rt (sD [[]]), env0 8 [D.loc 1, nD t]), M2) := fun {M2} => s_ret (v_fz (v_lst (v_cons (v_tup v_nil (Nat.zero_le _)) v_nil) (show 1 ≤ lim by decide)))
  by_cases h0 : t = 0
  · rw [decide_eq_true (show (t : Int) = 0 by omega)] at h1
    exact ⟨[[]], M, run_retC (ρ1 := env0 8 [D.loc 1, nD t]) rfl (s_seqR (fl := .nx) (s_ifT (v_or (b := true) (c := true) h1 (fun h => by cases h) fun _ => rfl) hret)) (cut_dl' h.len h fun n => lcLt_sD n _), h, hone, by decide, fun lot hl => by
      rw [List.mem_singleton.mp hl]
      exact ⟨Nat.zero_le _, fun j hj => absurd hj (by simp)⟩, fun _ => rfl⟩
  · rw [decide_eq_false (show ¬ (t : Int) = 0 by omega)] at h1
    obtain ⟨r, M1, a1, d1, hr⟩ := any_nat (b := 4) h (by decide) (by decide)
    have h2 : gTb (gBin dEq (gCall φ_L_any (Py.gCons (gVar 0) (Py.gCons (gC (.int 4)) (Py.gNil)))) (gC (.int 0))) (env0 8 [D.loc 1, nD t]) M = some (decide ((r : Int) = 0), M1) := v_tb (v_bin (v_call (v_cons (v_var rfl) (v_cons v_c v_nil)) a1) v_c deq_int)
    have h3 := v_or h1 (fun _ => h2) (fun h => by cases h)
    rw [Bool.false_or] at h3
    by_cases hr0 : (r : Int) = 0
    · rw [decide_eq_true hr0] at h3
      exact ⟨[[]], M1, run_retC (ρ1 := env0 8 [D.loc 1, nD t]) rfl (s_seqR (fl := .nx) (s_ifT h3 hret)) (cut_dl' h.len d1 fun n => lcLt_sD n _), d1, hone, by decide, fun lot hl => by
        rw [List.mem_singleton.mp hl]
        exact ⟨Nat.zero_le _, fun j hj => absurd hj (by simp)⟩, fun h => absurd h h0⟩
    · rw [decide_eq_false hr0] at h3
      obtain ⟨r2, M2, a2, d2, hr2⟩ := any_nat (b := 2) d1 (by decide) (by decide)
      obtain ⟨ρ', M', hf, s, s3, s4, s5, hD, hρ, hl, ho⟩ := forL_inv (tg := gtN 3) (body := bodyDL) (fun i ρ M' => ∃ (s : List (List Nat)) (s3 s4 s5 : Slot), Dl M' E ∧ ρ = [.dat (.loc 1), .dat (nD t), .dat (sD s), s3, s4, s5, .un, .un] ∧ s.length ≤ i ∧ ∀ lot ∈ s, okLot t lot) (l := (List.range (1 + r2)).map nD) (k := 0) (ρ := [.dat (.loc 1), .dat (nD t), .dat (sD []), .un, .un, .un, .un, .un]) (M := M2) ⟨[], .un, .un, .un, d2, rfl, Nat.zero_le _, fun lot hl => absurd hl (by simp)⟩ fun i d ρ M' hd ⟨s, s3, s4, s5, hD, hρ, hl, ho⟩ => by
        subst hρ
        have hi : i < 1 + r2 := by
          have := (List.getElem?_eq_some_iff.mp hd).1
          simpa using this
        obtain ⟨s', M3, u4, u5, q1, q2, q3, q4⟩ := dl_body (s3 := .dat d) (s4 := s4) (s5 := s5) hD (by omega) ht hl (by omega) ho
        exact ⟨_, _, M3, rfl, q1, s', .dat d, u4, u5, q2, rfl, q3, q4⟩
      subst hρ
      rw [List.length_map, List.length_range] at hl
      refine ⟨s, M', run_retC (ρ1 := [.dat (.loc 1), .dat (nD t), .dat (sD s), s3, s4, s5, .un, .un]) rfl (s_seq (s_ifF h3 s_pass) (s_seq (s_asg (by simp [env0]) (v_sd (v_fz (v_lst v_nil (Nat.zero_le _))))) (s_seq (s_for (v_rg (k := 1 + r2) (M1 := M2) ?_ (by omega)) hf) (s_ret (v_var rfl))))) (cut_dl' h.len hD fun n => lcLt_sD n _), hD, .inr fun lot hl => (ho lot hl).1, by omega, fun lot hl => (ho lot hl).2, fun h => absurd h h0⟩
      have e : nD (1 + r2) = .int (1 + (r2 : Int)) := by unfold nD; congr 1
      rw [e]
      exact v_bin v_c (v_call (v_cons (v_var rfl) (v_cons v_c v_nil)) a2) dadd_int
end Onl
namespace Onl
open PySem PySem.Spec Py
/-! ### drawn frames -/
/-- lots of n things, as drawn -/
def okRaw (raw : List (List (List Nat))) (n : Nat) : Prop := raw.length = n ∧ (∀ s ∈ raw, okS s ∧ s.length ≤ 2 ∧ ∀ lot ∈ s, lot.length ≤ 12 ∧ ∀ j ∈ lot, j < n) ∧ raw[0]? = some [[]]
theorem raw_fr {ws : List Int} {raw : List (List (List Nat))} {n : Nat} (h : okRaw raw n) (hw : ws.length = n) (hn : n ≤ 12) : Fr ws (raw.map sortN) n ∧ (raw.map sortN)[0]? = some [[]] := by
  obtain ⟨h1, h2, h3⟩ := h
  refine ⟨⟨hw, by rw [List.length_map, h1], hn, fun s hs => ?_, fun s hs lot hl => ?_⟩, ?_⟩
  · obtain ⟨r, hr, rfl⟩ := List.mem_map.mp hs
    have := (h2 r hr).2.1
    rw [(sortN_perm r).length_eq, lim_eq]; omega
  · obtain ⟨r, hr, rfl⟩ := List.mem_map.mp hs
    exact (h2 r hr).2.2 lot ((sortN_perm r).mem_iff.mp hl)
  · rw [List.getElem?_map, h3]
    have := sortN_perm [[]]
    exact congrArg some (List.perm_singleton.mp this)
theorem ints_ex : ∀ {ys : List D}, (∀ (i : Nat) (y : D), ys[i]? = some y → ∃ k : Int, y = .int k) → ∃ ws : List Int, ys = ws.map D.int ∧ ws.length = ys.length
  | [], _ => ⟨[], rfl, rfl⟩
  | y :: ys, h => by
    obtain ⟨k, rfl⟩ := h 0 y rfl
    obtain ⟨ws, e, l⟩ := ints_ex (ys := ys) fun i y hy => h (i + 1) y (by simpa using hy)
    exact ⟨k :: ws, by rw [List.map_cons, ← e], by rw [List.length_cons, List.length_cons, l]⟩
theorem lcLt_ints (l : List Int) : ∀ d ∈ l.map D.int, ∀ n, lcLt n d = true := fun d hd n => by
  obtain ⟨k, _, rfl⟩ := List.mem_map.mp hd
  rfl
/-- weights drawn of a list -/
theorem v_weightsdrawn {M E : Stor} {n : Nat} {ks : List Int} {src : Env' → Cm (List D)} {tg : D → Env' → Option Env'} {e : Env' → Cm D} {vs : List Nat} {ρ : Env'} {M0 : Stor} (h : Dl M E) (hs : src ρ M0 = some ((List.range n).map nD, M)) (hn : n ≤ lim)
    (he : ∀ d M', Dl M' E → ∃ ρ1 y M2, tg d (wipeE ρ vs) = some ρ1 ∧ e ρ1 M' = some (y, M2) ∧ Dl M2 E ∧ y ∈ ks.map D.int) : ∃ (ws : List Int) (M' : Stor), gLc src tg gYes e vs ρ M0 = some (ws.map D.int, M') ∧ Dl M' E ∧ ws.length = n := by
  obtain ⟨ys, M', h1, h2, h3, h4⟩ := lcL_inv (tg := tg) (e := e) (ρ := wipeE ρ vs) (fun _ M => Dl M E) (fun _ y => y ∈ ks.map D.int) (l := (List.range n).map nD) (k := 0) h fun i d M hd hD => by
    obtain ⟨ρ1, y, M2, a1, a2, a3, a4⟩ := he d M hD
    exact ⟨ρ1, y, M2, a1, a2, a4, a3⟩
  obtain ⟨ws, e1, e2⟩ := ints_ex fun i y hy => by
    obtain ⟨k, _, rfl⟩ := List.mem_map.mp (h4 i y hy)
    exact ⟨k, rfl⟩
  rw [List.length_map, List.length_range] at h3
  refine ⟨ws, M', ?_, h2, by rw [e2, h3]⟩
  unfold gLc
  rw [hs, bnd_some, if_pos (by rw [List.length_map, List.length_range]; exact hn), h1, e1]
theorem sds_ex {P : Nat → List (List Nat) → Prop} : ∀ {ys : List D} {k : Nat}, (∀ (i : Nat) (y : D), ys[i]? = some y → ∃ s, y = sD s ∧ P (k + i) s) → ∃ raw : List (List (List Nat)), ys = raw.map sD ∧ raw.length = ys.length ∧ ∀ i s, raw[i]? = some s → P (k + i) s
  | [], _, _ => ⟨[], rfl, rfl, fun i s h => by simp at h⟩
  | y :: ys, k, h => by
    obtain ⟨s, rfl, hp⟩ := h 0 y rfl
    obtain ⟨raw, e, l, hr⟩ := sds_ex (P := P) (ys := ys) (k := k + 1) fun i y hy => by
      obtain ⟨s, e, hs⟩ := h (i + 1) y (by simpa using hy)
      exact ⟨s, e, by rw [show k + 1 + i = k + (i + 1) by omega]; exact hs⟩
    refine ⟨s :: raw, by rw [List.map_cons, ← e], by rw [List.length_cons, List.length_cons, l], fun i s' hs' => ?_⟩
    cases i with
    | zero => cases hs'; exact hp
    | succ i =>
      have := hr i s' (by simpa using hs')
      rw [show k + (i + 1) = k + 1 + i by omega]
      exact this
def rowLots (n : Nat) : List (List (List Nat)) := (List.range n).map fun t => if t = 0 then [[]] else [[t - 1]]
theorem row_eq {ws : List Int} {M : Stor} (hM : wfM M = true) (h1 : 1 ≤ ws.length) (hn : ws.length ≤ 12) : φ_L_row_frame [.lst (ws.map D.int)] M = some (frD ws (rowLots ws.length), M) ∧ Fr ws (rowLots ws.length) ws.length ∧ (rowLots ws.length)[0]? = some [[]] := by
  have hc := gLc_map (src := gRg (gLen (gQd (gVar 0)))) (tg := gtN 1) (c := gYes) (e := gFz (gLst (Py.gCons (gIf (gTb (gBin dGt (gVar 1) (gC (.int 0)))) (Py.gTup (Py.gCons (gBin dSub (gVar 1) (gC (.int 1))) (Py.gNil))) (Py.gTup (Py.gNil))) (Py.gNil)))) (vs := [1]) (ρ := [.dat (.lst (ws.map D.int)), .un]) (M := M) (M0 := M) nD (fun _ => true) (fun t => sD (if t = 0 then [[]] else [[t - 1]])) (l := List.range ws.length)
    (v_rg (k := ws.length) (by
      have := v_len (ρ := [.dat (.lst (ws.map D.int)), .un]) (M := M) (v_qd (ga := gVar 0) (v_var (d := .lst (ws.map D.int)) rfl) (l := ws.map D.int) rfl)
      rw [List.length_map] at this
      exact this) (by omega)) (by rw [List.length_range, lim_eq]; omega) fun t ht => by
    refine ⟨[.dat (.lst (ws.map D.int)), .dat (nD t)], rfl, rfl, fun _ => ?_⟩
    have hg : gTb (gBin dGt (gVar 1) (gC (.int 0))) [.dat (.lst (ws.map D.int)), .dat (nD t)] M = some (decide ((0 : Int) < (t : Int)), M) := v_tb (v_bin (v_var rfl) v_c dgt_int)
    by_cases h0 : t = 0
    · rw [decide_eq_false (show ¬ (0 : Int) < (t : Int) by omega)] at hg
      rw [if_pos h0]
      exact v_fz (v_lst (v_cons (v_ifF hg (v_tup v_nil (Nat.zero_le _))) v_nil) (show 1 ≤ lim by decide))
    · rw [decide_eq_true (show (0 : Int) < (t : Int) by omega)] at hg
      rw [if_neg h0]
      have e : nD (t - 1) = .int ((t : Int) - 1) := by
        have : ((t - 1 : Nat) : Int) = (t : Int) - 1 := by omega
        unfold nD; rw [this]
      have hs : sD [[t - 1]] = .lst [.tup [.int ((t : Int) - 1)]] := by rw [← e]; rfl
      rw [hs]
      exact v_fz (v_lst (v_cons (v_ifT hg (v_tup (v_cons (v_bin (v_var rfl) v_c dsub_int) v_nil) (show 1 ≤ lim by decide))) v_nil) (show 1 ≤ lim by decide))
  rw [show (List.range ws.length).filter (fun _ => true) = List.range ws.length from List.filter_eq_self.mpr fun _ _ => rfl] at hc
  have hraw : okRaw ((List.range ws.length).map fun t => if t = 0 then [[]] else [[t - 1]]) ws.length := by
    refine ⟨by rw [List.length_map, List.length_range], fun s hs => ?_, ?_⟩
    · obtain ⟨t, ht, rfl⟩ := List.mem_map.mp hs
      have ht := List.mem_range.mp ht
      by_cases h0 : t = 0
      · rw [if_pos h0]
        exact ⟨.inl (by decide), by decide, fun lot hl => by rw [List.mem_singleton.mp hl]; exact ⟨Nat.zero_le _, fun j hj => absurd hj (by simp)⟩⟩
      · rw [if_neg h0]
        exact ⟨.inl (by simp), by simp, fun lot hl => by rw [List.mem_singleton.mp hl]; exact ⟨by simp, fun j hj => by rw [List.mem_singleton.mp hj]; omega⟩⟩
    · rw [List.getElem?_map, List.getElem?_range h1]; rfl
  have e2 : ((List.range ws.length).map fun t => sD (if t = 0 then [[]] else [[t - 1]])) = ((List.range ws.length).map fun t => if t = 0 then [[]] else [[t - 1]]).map sD := by rw [List.map_map]; rfl
  rw [e2] at hc
  obtain ⟨f1, f2⟩ := raw_fr hraw rfl hn
  have hsort : ((List.range ws.length).map fun t => if t = 0 then [[]] else [[t - 1]]).map sortN = rowLots ws.length := by
    unfold rowLots
    rw [List.map_map]
    refine List.map_congr_left fun t _ => ?_
    show sortN (if t = 0 then [[]] else [[t - 1]]) = if t = 0 then [[]] else [[t - 1]]
    by_cases h0 : t = 0
    · rw [if_pos h0]
      exact List.perm_singleton.mp (sortN_perm _)
    · rw [if_neg h0]
      exact List.perm_singleton.mp (sortN_perm _)
  have hfr := frame_ok (ws := ws) (raw := (List.range ws.length).map fun t => if t = 0 then [[]] else [[t - 1]]) hM (by rw [hraw.1, lim_eq]; omega) fun s hs => (hraw.2.1 s hs).1
  rw [hsort] at f1 f2 hfr
  exact ⟨run_ret (ρ1 := [.dat (.lst (ws.map D.int)), .un]) rfl (s_ret (v_call (v_cons (v_var rfl) (v_cons (v_fz hc) v_nil)) hfr)) hM (lcLt_frD _ _ _), f1, f2⟩
theorem row_ok {ws : List Int} {M : Stor} (hM : wfM M = true) (h1 : 1 ≤ ws.length) (hn : ws.length ≤ 12) : ∃ lots, φ_L_row_frame [.lst (ws.map D.int)] M = some (frD ws lots, M) ∧ Fr ws lots ws.length ∧ lots[0]? = some [[]] := ⟨_, row_eq hM h1 hn⟩
end Onl
namespace Onl
open PySem PySem.Spec Py
theorem add_nat {a b : Nat} : dAdd (nD a) (nD b) = some (nD (a + b)) := by
  have : nD (a + b) = .int ((a : Int) + (b : Int)) := by unfold nD; rw [Int.natCast_add]
  rw [this]; rfl
theorem rep_ints {n : Nat} : dMul (.lst [.int 1]) (nD n) = some (.lst ((List.replicate n (1 : Int)).map D.int)) ∨ ¬ n ≤ 1000 := by
  by_cases h : n ≤ 1000
  · left
    show (if [D.int 1].length * (n : Int).toNat ≤ lim ∧ 0 ≤ (n : Int) ∧ (n : Int) ≤ (lim : Int) then some (D.lst (List.replicate (n : Int).toNat [D.int 1]).flatten) else none) = _
    rw [Int.toNat_natCast, if_pos ⟨by rw [List.length_singleton, lim_eq]; omega, by omega, by rw [show (lim : Int) = 16000000 from rfl]; omega⟩]
    have e : ∀ n : Nat, (List.replicate n [D.int 1]).flatten = (List.replicate n (1 : Int)).map D.int := fun n => by
      induction n with
      | zero => rfl
      | succ n ih => rw [List.replicate_succ, List.flatten_cons, ih, List.replicate_succ, List.map_cons]; rfl
    rw [e]
  · exact .inr h
/-- what a drawn frame is -/
def okFr (d : D) (n : Nat) : Prop := ∃ ws lots, d = frD ws lots ∧ Fr ws lots n ∧ lots[0]? = some [[]]
theorem drawnframe_ok {M E : Stor} (h : Dl M E) : ∃ d n M', φ_L_drawn_frame [.loc 1, nD 6] M = some (d, M') ∧ Dl M' E ∧ okFr d n ∧ 3 ≤ n ∧ n ≤ 6 := by
  obtain ⟨r, M1, a1, d1, hr⟩ := any_nat (b := 4) h (by decide) (by decide)
  have hmany : gBin dAdd (gC (.int 3)) (gCall φ_L_any (Py.gCons (gVar 0) (Py.gCons (gBin dSub (gVar 1) (gC (.int 2))) (Py.gNil)))) (env0 5 [D.loc 1, nD 6]) M = some (nD (3 + r), M1) := v_bin (x := nD 3) v_c (v_call (v_cons (v_var rfl) (v_cons (v_bin (z := nD 4) (v_var rfl) v_c rfl) v_nil)) a1) add_nat
  obtain ⟨ws, M2, w1, d2, w2⟩ := v_weightsdrawn (n := 3 + r) (ks := [1, 1, 1, 2, 3, 5]) (src := gRg (gVar 2)) (tg := gtN 4) (e := gCall φ_L_of (Py.gCons (gVar 0) (Py.gCons (gFz (gLst (Py.gCons (gC (.int 1)) (Py.gCons (gC (.int 1)) (Py.gCons (gC (.int 1)) (Py.gCons (gC (.int 2)) (Py.gCons (gC (.int 3)) (Py.gCons (gC (.int 5)) (Py.gNil))))))))) (Py.gNil)))) (vs := [4]) (ρ := [.dat (.loc 1), .dat (nD 6), .dat (nD (3 + r)), .un, .un]) (M0 := M1) d1 (v_rg (v_var rfl) (by omega)) (by rw [lim_eq]; omega) fun d M' hD => by
    obtain ⟨y, M3, q1, q2, q3⟩ := of_ok (l := [1, 1, 1, 2, 3, 5].map D.int) hD (by decide) (by decide) (lcLt_ints _)
    exact ⟨_, y, M3, rfl, v_call (v_cons (v_var rfl) (v_cons (v_fz (v_lst (v_cons v_c (v_cons v_c (v_cons v_c (v_cons v_c (v_cons v_c (v_cons v_c v_nil)))))) (show 6 ≤ lim by decide))) v_nil)) q1, q2, q3⟩
  obtain ⟨r2, M3, a3, d3, hr2⟩ := any_nat (b := 2) d2 (by decide) (by decide)
  have hc : gTb (gBin dEq (gCall φ_L_any (Py.gCons (gVar 0) (Py.gCons (gC (.int 2)) (Py.gNil)))) (gC (.int 0))) [.dat (.loc 1), .dat (nD 6), .dat (nD (3 + r)), .dat (.lst (ws.map D.int)), .un] M2 = some (decide ((r2 : Int) = 0), M3) := v_tb (v_bin (v_call (v_cons (v_var rfl) (v_cons v_c v_nil)) a3) v_c deq_int)
  obtain ⟨ws2, hw2, hw3⟩ : ∃ ws2 : List Int, gIf (gTb (gBin dEq (gCall φ_L_any (Py.gCons (gVar 0) (Py.gCons (gC (.int 2)) (Py.gNil)))) (gC (.int 0)))) (gVar 3) (gBin dMul (gFz (gLst (Py.gCons (gC (.int 1)) (Py.gNil)))) (gVar 2)) [.dat (.loc 1), .dat (nD 6), .dat (nD (3 + r)), .dat (.lst (ws.map D.int)), .un] M2 = some (.lst (ws2.map D.int), M3) ∧ ws2.length = 3 + r := by
    by_cases h0 : (r2 : Int) = 0
    · rw [decide_eq_true h0] at hc
      exact ⟨ws, v_ifT hc (v_var rfl), w2⟩
    · rw [decide_eq_false h0] at hc
      exact ⟨List.replicate (3 + r) 1, v_ifF hc (v_bin (v_fz (v_lst (v_cons v_c v_nil) (show 1 ≤ lim by decide))) (v_var rfl) (rep_ints.resolve_right (by omega))), List.length_replicate⟩
  obtain ⟨ys, M4, y1, y2, y3, y4⟩ := lcL_inv (tg := gtN 4) (e := gCall φ_L_drawn_lots (Py.gCons (gVar 0) (Py.gCons (gVar 4) (Py.gNil)))) (ρ := wipeE [.dat (.loc 1), .dat (nD 6), .dat (nD (3 + r)), .dat (.lst (ws.map D.int)), .un] [4]) (fun _ M => Dl M E) (fun i y => ∃ s, y = sD s ∧ (okS s ∧ s.length ≤ 2 ∧ (∀ lot ∈ s, lot.length ≤ 12 ∧ ∀ j ∈ lot, j < i) ∧ (i = 0 → s = [[]]))) (l := (List.range (3 + r)).map nD) (k := 0) (M := M3) d3 fun i d M hd hD => by
    have hi : i < 3 + r := by
      have := (List.getElem?_eq_some_iff.mp hd).1
      simpa using this
    have ed : d = nD i := by
      rw [List.getElem?_map, List.getElem?_range hi] at hd
      exact (Option.some.inj hd).symm
    subst ed
    obtain ⟨s, M5, q1, q2, q3⟩ := drawnlots_ok (t := i) hD (by omega)
    rw [Nat.zero_add]
    exact ⟨_, _, M5, rfl, v_call (v_cons (v_var rfl) (v_cons (v_var rfl) v_nil)) q1, ⟨s, rfl, q3⟩, q2⟩
  obtain ⟨raw, e1, e2, e3⟩ := sds_ex (P := fun i s => okS s ∧ s.length ≤ 2 ∧ (∀ lot ∈ s, lot.length ≤ 12 ∧ ∀ j ∈ lot, j < i) ∧ (i = 0 → s = [[]])) (k := 0) y4
  rw [List.length_map, List.length_range] at y3
  have hrl : raw.length = 3 + r := by rw [e2, y3]
  have hraw : okRaw raw (3 + r) := by
    refine ⟨hrl, fun s hs => ?_, ?_⟩
    · obtain ⟨i, hi⟩ := List.mem_iff_getElem?.mp hs
      have hlt := (List.getElem?_eq_some_iff.mp hi).1
      obtain ⟨p1, p2, p3, _⟩ := e3 i s hi
      exact ⟨p1, p2, fun lot hl => ⟨(p3 lot hl).1, fun j hj => by have := (p3 lot hl).2 j hj; omega⟩⟩
    · have h0 : raw[0]? = some raw[0] := List.getElem?_eq_getElem (by omega)
      rw [h0, (e3 0 _ h0).2.2.2 rfl]
  have hlots : gLc (gRg (gVar 2)) (gtN 4) gYes (gCall φ_L_drawn_lots (Py.gCons (gVar 0) (Py.gCons (gVar 4) (Py.gNil)))) [4] [.dat (.loc 1), .dat (nD 6), .dat (nD (3 + r)), .dat (.lst (ws.map D.int)), .un] M3 = some (raw.map sD, M4) := by
    unfold gLc
    rw [v_rg (k := 3 + r) (v_var rfl) (by omega), bnd_some, if_pos (by rw [List.length_map, List.length_range, lim_eq]; omega), y1, e1]
  obtain ⟨f1, f2⟩ := raw_fr (ws := ws2) hraw hw3 (by omega)
  exact ⟨_, 3 + r, M4, run_retC (ρ1 := [.dat (.loc 1), .dat (nD 6), .dat (nD (3 + r)), .dat (.lst (ws.map D.int)), .un]) rfl (s_seq (s_asg (by simp [env0]) (v_sd hmany)) (s_seq (s_asg (by simp [env0]) (v_sd (v_fz w1))) (s_ret (v_call (v_cons hw2 (v_cons (v_fz hlots) v_nil)) (frame_ok y2.wfM (by rw [hrl, lim_eq]; omega) fun s hs => (hraw.2.1 s hs).1))))) (cut_dl' h.len y2 fun n => lcLt_frD n _ _), y2, ⟨ws2, _, rfl, f1, f2⟩, by omega, by omega⟩
theorem someframe_ok {M E : Stor} (h : Dl M E) : ∃ d n M', φ_L_some_frame [.loc 1, nD 6] M = some (d, M') ∧ Dl M' E ∧ okFr d n ∧ 3 ≤ n ∧ n ≤ 6 := by
  obtain ⟨r, M1, a1, d1, hr⟩ := any_nat (b := 3) h (by decide) (by decide)
  have hc : gTb (gBin dGt (gCall φ_L_any (Py.gCons (gVar 0) (Py.gCons (gC (.int 3)) (Py.gNil)))) (gC (.int 0))) (env0 3 [D.loc 1, nD 6]) M = some (decide ((0 : Int) < (r : Int)), M1) := v_tb (v_bin (v_call (v_cons (v_var rfl) (v_cons v_c v_nil)) a1) v_c dgt_int)
  by_cases h0 : (0 : Int) < (r : Int)
  · rw [decide_eq_true h0] at hc
    obtain ⟨d, n, M2, q1, q2, ⟨ws, lots, rfl, q3⟩, q4⟩ := drawnframe_ok d1
    exact ⟨_, n, M2, run_retC (ρ1 := env0 3 [D.loc 1, nD 6]) rfl (s_seqR (fl := .nx) (s_ifT hc (s_ret (v_call (v_cons (v_var rfl) (v_cons (v_var rfl) v_nil)) q1)))) (cut_dl' h.len q2 fun n => lcLt_frD n _ _), q2, ⟨ws, lots, rfl, q3⟩, q4⟩
  · rw [decide_eq_false h0] at hc
    obtain ⟨r2, M2, a2, d2, hr2⟩ := any_nat (b := 4) d1 (by decide) (by decide)
    have hmany : gBin dAdd (gC (.int 3)) (gCall φ_L_any (Py.gCons (gVar 0) (Py.gCons (gBin dSub (gVar 1) (gC (.int 2))) (Py.gNil)))) (env0 3 [D.loc 1, nD 6]) M1 = some (nD (3 + r2), M2) := v_bin (x := nD 3) v_c (v_call (v_cons (v_var rfl) (v_cons (v_bin (z := nD 4) (v_var rfl) v_c rfl) v_nil)) a2) add_nat
    obtain ⟨ws, M3, w1, d3, w2⟩ := v_weightsdrawn (n := 3 + r2) (ks := [1, 1, 2]) (src := gRg (gBin dAdd (gC (.int 3)) (gCall φ_L_any (Py.gCons (gVar 0) (Py.gCons (gBin dSub (gVar 1) (gC (.int 2))) (Py.gNil)))))) (tg := gtN 2) (e := gCall φ_L_of (Py.gCons (gVar 0) (Py.gCons (gFz (gLst (Py.gCons (gC (.int 1)) (Py.gCons (gC (.int 1)) (Py.gCons (gC (.int 2)) (Py.gNil)))))) (Py.gNil)))) (vs := [2]) (ρ := env0 3 [D.loc 1, nD 6]) (M0 := M1) d2 (v_rg hmany (by omega)) (by rw [lim_eq]; omega) fun d M' hD => by
      obtain ⟨y, M3, q1, q2, q3⟩ := of_ok (l := [1, 1, 2].map D.int) hD (by decide) (by decide) (lcLt_ints _)
      exact ⟨_, y, M3, rfl, v_call (v_cons (v_var rfl) (v_cons (v_fz (v_lst (v_cons v_c (v_cons v_c (v_cons v_c v_nil))) (show 3 ≤ lim by decide))) v_nil)) q1, q2, q3⟩
    obtain ⟨lots, b1, b2, b3⟩ := row_ok (ws := ws) d3.wfM (by omega) (by omega)
    rw [w2] at b2
    exact ⟨_, 3 + r2, M3, run_retC (ρ1 := env0 3 [D.loc 1, nD 6]) rfl (s_seq (s_ifF hc s_pass) (s_ret (v_call (v_cons (v_fz w1) v_nil) b1))) (cut_dl' h.len d3 fun n => lcLt_frD n _ _), d3, ⟨ws, lots, rfl, b2, b3⟩, by omega, by omega⟩
theorem somemask_ok {M E : Stor} {ws : List Int} {lots : List (List (List Nat))} {n : Nat} (h : Dl M E) (F : Fr ws lots n) (hn : n ≤ 12) : ∃ m M', φ_L_some_mask [.loc 1, frD ws lots] M = some (nD m, M') ∧ Dl M' E ∧ m < 2 ^ n := by
  have hp := Nat.two_pow_pos n
  have hp2 : 2 ^ n < 1073741824 := Nat.lt_of_le_of_lt (Nat.pow_le_pow_right (by decide) hn) (by decide)
  obtain ⟨r, M1, a1, d1, hr⟩ := any_nat (b := 2 ^ n) h (by omega) hp2
  refine ⟨r, M1, run_retC (ρ1 := env0 2 [D.loc 1, frD ws lots]) rfl (s_ret (v_call (v_cons (v_var rfl) (v_cons (v_two (t := n) (v_call (v_cons (v_var rfl) v_nil) ?_) h.wfM (by omega)) v_nil)) a1)) (cut_dl' h.len d1 fun _ => rfl), d1, hr⟩
  rw [many_ok h.wfM, F.lw]
end Onl
namespace Onl
open PySem PySem.Spec Py
def letterD (t : Nat) : D := ((dIxS (.str "abcdefghijkl") (nD t)).bind fun s => dAdd (.str "q") s).getD .non
theorem letter_ok {t : Nat} (h : t < 12) : (∃ s, dIxS (.str "abcdefghijkl") (nD t) = some s ∧ dAdd (.str "q") s = some (letterD t)) ∧ ∀ n, lcLt n (letterD t) = true := by
  rcases t with _ | _ | _ | _ | _ | _ | _ | _ | _ | _ | _ | _ | t
  iterate 12 exact ⟨⟨_, rfl, rfl⟩, fun _ => rfl⟩
  omega
theorem lcLts_letters (n : Nat) : ∀ l : List Nat, (∀ t ∈ l, t < 12) → lcLts n (l.map letterD) = true
  | [], _ => rfl
  | t :: l, h => by
    rw [List.map_cons, lcLts, (letter_ok (h t (List.mem_cons_self ..))).2, lcLts_letters n l fun t ht => h t (List.mem_cons_of_mem _ ht)]; rfl
theorem letters_ok {ws : List Int} {lots : List (List (List Nat))} {n : Nat} {M : Stor} (hM : wfM M = true) (F : Fr ws lots n) : φ_L_letters_of [frD ws lots] M = some (.lst ((List.range n).map letterD), M) := by
  have hn := F.hn
  have hc := gLc_map (src := gRg (gCall φ_L_many (Py.gCons (gVar 0) (Py.gNil)))) (tg := gtN 1) (c := gYes) (e := gBin dAdd (gC (.str "q")) (gBin dIxS (gC (.str "abcdefghijkl")) (gVar 1))) (vs := [1]) (ρ := [.dat (frD ws lots), .un]) (M := M) (M0 := M) nD (fun _ => true) letterD (l := List.range n)
    (v_rg (v_call (v_cons (v_var rfl) v_nil) (by rw [many_ok hM, F.lw])) (by omega)) (by rw [List.length_range, lim_eq]; omega) fun t ht => by
    have ht := List.mem_range.mp ht
    obtain ⟨⟨s, h1, h2⟩, _⟩ := letter_ok (t := t) (by omega)
    exact ⟨[.dat (frD ws lots), .dat (nD t)], rfl, rfl, fun _ => v_bin v_c (v_bin v_c (v_var rfl) h1) h2⟩
  rw [show (List.range n).filter (fun _ => true) = List.range n from List.filter_eq_self.mpr fun _ _ => rfl] at hc
  exact run_ret (ρ1 := [.dat (frD ws lots), .un]) rfl (s_ret (v_fz hc)) hM (lcLts_letters _ _ fun t ht => by have := List.mem_range.mp ht; omega)
theorem s_putEnd {c f : PySem.Str} {gv ga : Env' → Cm D} {ρ : Env'} {M1 : Stor} {v : D} {fs : List (PySem.Str × D)} (h0 : gv ρ (M1 ++ [.ins c fs]) = some (v, M1 ++ [.ins c fs])) (h1 : ga ρ (M1 ++ [.ins c fs]) = some (.loc M1.length, M1 ++ [.ins c fs])) (hl : fs.length < 900) :
    gPut c f gv ga ρ (M1 ++ [.ins c fs]) = some ((.nx, ρ), M1 ++ [.ins c (putFD f v fs)]) := by
  unfold gPut
  rw [h0, bnd_some, h1, bnd_some]
  have e : insM (M1 ++ [.ins c fs]) (.loc M1.length) = some (M1.length, c, fs) := by
    unfold insM
    dsimp only
    rw [List.getElem?_append_right (Nat.le_refl _), Nat.sub_self]
    rfl
  rw [e]
  dsimp only
  rw [if_pos ⟨rfl, hl⟩, List.set_append_right _ _ (Nat.le_refl _), Nat.sub_self]
  rfl
theorem init_ok {M1 : Stor} {a b d : D} : φ_Web_init [.loc M1.length, a, b, d] (M1 ++ [.ins "Web" []]) = some (.non, M1 ++ [.ins "Web" [("names", a), ("weights", b), ("lots", d)]]) := by
  have h : g_Web_init (env0 4 [.loc M1.length, a, b, d]) (M1 ++ [.ins "Web" []]) = some ((.nx, env0 4 [.loc M1.length, a, b, d]), M1 ++ [.ins "Web" [("names", a), ("weights", b), ("lots", d)]]) :=
    s_seq (s_putEnd (v_var rfl) (v_var rfl) (by decide)) (s_seq (s_putEnd (v_var rfl) (v_var rfl) (by show 1 < 900; decide)) (s_putEnd (v_var rfl) (v_var rfl) (by show 2 < 900; decide)))
  unfold φ_Web_init runF
  rw [if_pos (show [D.loc M1.length, a, b, d].length = 4 from rfl), h]
def tS (s : List (List Nat)) : D := .tup (s.map tn)
theorem lcLts_tS (n : Nat) : ∀ s : List (List (List Nat)), lcLts n (s.map tS) = true
  | [] => rfl
  | l :: s => by rw [List.map_cons, lcLts, tS, lcLt, lcLts_tn, lcLts_tS n s]; rfl
theorem web_ok {ws : List Int} {lots : List (List (List Nat))} {n : Nat} {M : Stor} (hM : wfM M = true) (F : Fr ws lots n) : φ_L_web [frD ws lots] M = some (webD ((List.range n).map letterD) ws lots, M) := by
  have hn := F.hn
  have hc := gLc_map (src := gQd (gDGet (gVar 0) (gC (.str "lots")))) (tg := gtN 1) (c := gYes) (e := gTupD (gVar 1)) (vs := [1]) (ρ := [.dat (frD ws lots), .un]) (M := M) (M0 := M) sD (fun _ => true) tS (l := lots)
    (v_qd (v_lots (g := gVar 0) (ws := ws) (v_var rfl)) rfl) (by rw [F.ll, lim_eq]; omega) fun s hs => ⟨[.dat (frD ws lots), .dat (sD s)], rfl, rfl, fun _ => v_tupD (v_var rfl) rfl⟩
  rw [show lots.filter (fun _ => true) = lots from List.filter_eq_self.mpr fun _ _ => rfl] at hc
  have hargs : Py.gCons (gTupD (gCall φ_L_letters_of (Py.gCons (gVar 0) (Py.gNil)))) (Py.gCons (gTupD (gDGet (gVar 0) (gC (.str "weights")))) (Py.gCons (gTuple (gLc (gQd (gDGet (gVar 0) (gC (.str "lots")))) (gtN 1) (gYes) (gTupD (gVar 1)) [1])) (Py.gNil))) [.dat (frD ws lots), .un] M = some ([.tup ((List.range n).map letterD), .tup (ws.map D.int), .tup (lots.map tS)], M) :=
    v_cons (v_tupD (v_call (v_cons (v_var rfl) v_nil) (letters_ok hM F)) rfl) (v_cons (v_tupD (v_weights (v_var rfl)) rfl) (v_cons (v_tuple hc) v_nil))
  have hlets := lcLts_letters M.length (List.range n) fun t ht => by have := List.mem_range.mp ht; omega
  have hlt : lcLt M.length (webD ((List.range n).map letterD) ws lots) = true := by
    unfold webD
    rw [lcLt, lcLtf, lcLtf, lcLtf, lcLtf, lcLt, lcLt, lcLt, hlets, lcLts_int]
    show (true && (true && (lcLts M.length (lots.map tS) && true))) = true
    rw [lcLts_tS]; rfl
  refine run_ret (ρ1 := [.dat (frD ws lots), .un]) rfl (s_ret ?_) hM hlt
  unfold gMakeO
  have hargs : Py.gCons _ _ (env0 2 [frD ws lots]) M = _ := hargs
  rw [hargs, bnd_some, init_ok]
  dsimp only
  rw [List.getElem?_append_right (Nat.le_refl _), Nat.sub_self]
  show (if _ then _ else _) = _
  have hl3 : lcLts M.length (([("names", D.tup ((List.range n).map letterD)), ("weights", .tup (ws.map D.int)), ("lots", .tup (lots.map tS))] : List (PySem.Str × D)).map (·.2)) = true := by
    rw [List.map_cons, List.map_cons, List.map_cons, List.map_nil, lcLts, lcLts, lcLts, lcLts, lcLt, lcLt, lcLt, hlets, lcLts_int, lcLts_tS]; rfl
  rw [if_pos ⟨rfl, Nat.le_refl _, hl3, by rw [List.length_append]; rfl, by rw [List.take_left' rfl]; exact hM⟩, List.take_left' rfl]
  rfl
end Onl
namespace Onl
open PySem PySem.Spec Py
theorem v_abs {ga : Env' → Cm D} {ρ : Env'} {M M1 : Stor} {k : Int} (h1 : ga ρ M = some (.int k, M1)) : gAbs ga ρ M = some (.int (if k < 0 then -k else k), M1) := by unfold gAbs; rw [h1]; rfl
theorem v_rev {gq : Env' → Cm (List D)} {ρ : Env'} {M M1 : Stor} {l : List D} (h1 : gq ρ M = some (l, M1)) : gRev gq ρ M = some (l.reverse, M1) := by unfold gRev; rw [h1]; rfl
theorem dpow_int {i j : Int} (h : cPow i j = true) : dPow (.int i) (.int j) = some (.int (i ^ j.toNat)) := by
  simp [dPow, iOp, h]
abbrev tenG : Env' → Cm D := gBin dPow (gC (.int 10)) (gC (.int 64))
theorem v_ten {ρ : Env'} {M : Stor} : tenG ρ M = some (.int (10 ^ 64), M) := v_bin v_c v_c (dpow_int (by decide +kernel))
theorem v_far {ρ : Env'} {M : Stor} : gBin dMul (gBin dMul (gBin dMul (gBin dMul (gBin dMul tenG tenG) tenG) tenG) tenG) tenG ρ M = some (.int (10 ^ 64 * 10 ^ 64 * 10 ^ 64 * 10 ^ 64 * 10 ^ 64 * 10 ^ 64), M) :=
  v_bin (v_bin (v_bin (v_bin (v_bin v_ten v_ten (dmul_int (by decide +kernel))) v_ten (dmul_int (by decide +kernel))) v_ten (dmul_int (by decide +kernel))) v_ten (dmul_int (by decide +kernel))) v_ten (dmul_int (by decide +kernel))
theorem far_pos : (0 : Int) < 10 ^ 64 * 10 ^ 64 * 10 ^ 64 * 10 ^ 64 * 10 ^ 64 * 10 ^ 64 := by decide +kernel
theorem deal_ok {ns : List Int} (hl : ns.length ≤ 63) : ∃ M', φ_L_deal [.scr (ns.map D.int), .int 65] [] = some (.loc 1, M') ∧ Dl M' [] := by
  generalize hF : (10 ^ 64 * 10 ^ 64 * 10 ^ 64 * 10 ^ 64 * 10 ^ 64 * 10 ^ 64 : Int) = F
  have hFp : 0 < F := by rw [← hF]; exact far_pos
  have hfar := v_far (ρ := env0 6 [.scr (ns.map D.int), .int 65]) (M := [])
  rw [hF] at hfar
  have hcut : cutD (ns.map D.int) none (some ((63 : Nat) : Int)) = ns.map D.int := by
    rw [cut_take, List.take_of_length_le (by rw [List.length_map]; exact hl)]
  have hcells := gLc_map (src := gSl1 (gLd (gVar 0)) (goN) (goS (gC (.int 63)))) (tg := gtN 3) (c := gYes) (e := gBin dMod (gInt (gAbs (gInt (gVar 3)))) (gVar 2)) (vs := [3]) (ρ := [.dat (.scr (ns.map D.int)), .dat (.int 65), .dat (.int F), .un, .un, .un]) (M := []) (M0 := []) D.int (fun _ => true) (fun k => .int ((if k < 0 then -k else k).fmod F)) (l := ns)
    (by
      have := v_sl1 (gl := gLd (gVar 0)) (ρ := [.dat (.scr (ns.map D.int)), .dat (.int 65), .dat (.int F), .un, .un, .un]) (M := []) (v_ld (v_var rfl) rfl) v_on (v_os (k := ((63 : Nat) : Int)) v_c)
      rw [hcut] at this
      exact this) (by rw [lim_eq]; omega) fun k _ => ⟨[.dat (.scr (ns.map D.int)), .dat (.int 65), .dat (.int F), .dat (.int k), .un, .un], rfl, rfl, fun _ => v_bin (v_int (v_abs (v_int (v_var rfl)))) (v_var rfl) (dmod_int (by omega))⟩
  rw [show ns.filter (fun _ => true) = ns from List.filter_eq_self.mpr fun _ _ => rfl, show (ns.map fun k => D.int ((if k < 0 then -k else k).fmod F)) = (ns.map fun k => (if k < 0 then -k else k).fmod F).map D.int by rw [List.map_map]; rfl] at hcells
  generalize hcs : (ns.map fun k => (if k < 0 then -k else k).fmod F) = cells at hcells
  have hcl : cells.length ≤ 63 := by rw [← hcs, List.length_map]; exact hl
  have hcp : ∀ c ∈ cells, 0 ≤ c := fun c hc => by
    rw [← hcs] at hc
    obtain ⟨k, _, rfl⟩ := List.mem_map.mp hc
    exact (fmod_range hFp).1
  obtain ⟨ρ', M', hf, rfl, mix, s3, hρ, m1, m2⟩ := forL_inv (tg := gtN 3) (body := gAsg 5 (gSd (gBin dMod (gInt (gBin dAdd (gBin dAdd (gBin dMul (gVar 5) (gC (.int 69621))) (gBin dMod (gInt (gVar 3)) (gC (.int 2147483563)))) (gC (.int 23)))) (gC (.int 2147483647)))))
    (fun _ ρ M => M = [] ∧ ∃ (mix : Int) (s3 : Slot), ρ = [.dat (.scr (ns.map D.int)), .dat (.int 65), .dat (.int F), s3, .dat (.lst (cells.map D.int)), .dat (.int mix)] ∧ 0 ≤ mix ∧ mix < 2147483647) (l := cells.map D.int) (k := 0)
    (ρ := [.dat (.scr (ns.map D.int)), .dat (.int 65), .dat (.int F), .un, .dat (.lst (cells.map D.int)), .dat (.int (70001 + 7919 * 65))]) (M := []) ⟨rfl, _, .un, rfl, by decide, by decide⟩ fun i d ρ M hd ⟨e1, mix, s3, hρ, m1, m2⟩ => by
      subst e1 hρ
      obtain ⟨c, _, rfl⟩ : ∃ c, c ∈ cells ∧ D.int c = d := by
        obtain ⟨c, hc, e⟩ := List.mem_map.mp (List.mem_of_getElem? hd)
        exact ⟨c, hc, e⟩
      have hr := fmod_range (a := mix * 69621 + c.fmod 2147483563 + 23) (b := 2147483647) (by decide)
      refine ⟨_, _, [], rfl, s_asg (by simp) (v_sd (v_bin (v_int (v_bin (v_bin (v_bin (v_var rfl) v_c (dmul_int ?_)) (v_bin (v_int (v_var rfl)) v_c (dmod_int (by decide))) dadd_int) v_c dadd_int)) v_c (dmod_int (by decide)))), rfl, (mix * 69621 + c.fmod 2147483563 + 23).fmod 2147483647, .dat (.int c), rfl, hr.1, hr.2⟩
      unfold cMul
      refine decide_eq_true ?_
      have h1 : mix.natAbs.log2 < 32 := by
        rcases Nat.eq_zero_or_pos mix.natAbs with h0 | h0
        · rw [h0]; decide
        · exact (Nat.log2_lt (by omega)).mpr (by omega)
      have h2 : (69621 : Int).natAbs.log2 < 20 := by decide
      omega
  subst hρ
  have hbig : ∀ {ρ : Env'} {M : Stor}, gBin dPow (gC (.int 10)) (gC (.int 18)) ρ M = some (.int (10 ^ 18), M) := v_bin v_c v_c (dpow_int (by decide +kernel))
  have hk := gLc_map (src := gQd (gVar 4)) (tg := gtN 3) (c := gTb (gBin dGe (gVar 3) (gBin dPow (gC (.int 10)) (gC (.int 18))))) (e := gVar 3) (vs := [3]) (ρ := [.dat (.scr (ns.map D.int)), .dat (.int 65), .dat (.int F), s3, .dat (.lst (cells.map D.int)), .dat (.int mix)]) (M := []) (M0 := []) D.int (fun c => decide ((10 : Int) ^ 18 ≤ c)) D.int (l := cells) (v_qd (v_var rfl) rfl) (by rw [lim_eq]; omega) fun c _ => ⟨[.dat (.scr (ns.map D.int)), .dat (.int 65), .dat (.int F), .dat (.int c), .dat (.lst (cells.map D.int)), .dat (.int mix)], rfl, v_tb (v_bin (v_var rfl) hbig dge_int), fun _ => v_var rfl⟩
  have hk2 := v_newL (v_rev hk)
  rw [← List.map_reverse] at hk2
  generalize hC : (cells.filter fun c => decide ((10 : Int) ^ 18 ≤ c)).reverse = C at hk2
  have hCl : C.length ≤ 63 := by
    rw [← hC, List.length_reverse]
    exact Nat.le_trans (List.length_filter_le _ _) hcl
  have hCp : ∀ c ∈ C, 0 ≤ c := fun c hc => by
    rw [← hC, List.mem_reverse] at hc
    exact hcp c (List.mem_filter.mp hc).1
  refine ⟨dM C mix [], ?_, ⟨C, mix, rfl, hCl, hCp, m1, m2⟩, rfl⟩
  have hg : g_L_deal (env0 6 [.scr (ns.map D.int), .int 65]) [] = some ((.rt (.loc 1), [.dat (.scr (ns.map D.int)), .dat (.int 65), .dat (.int F), s3, .dat (.lst (cells.map D.int)), .dat (.int mix)]), dM C mix []) :=
    s_seq (s_asg (by simp [env0]) (v_sd hfar)) (s_seq (s_par (by simp [env0]) (v_sd (v_fz hcells)) (v_sd (v_bin v_c (v_bin v_c (v_var rfl) (dmul_int (by decide +kernel))) dadd_int))) (s_seq (s_for (v_qd (v_var rfl) rfl) hf) (s_ret (v_newL (v_lst (v_cons hk2 (v_cons (v_var rfl) v_nil)) (show 2 ≤ lim by decide))))))
  unfold φ_L_deal runF
  rw [if_pos (show [D.scr (ns.map D.int), D.int 65].length = 2 from rfl), hg]
end Onl
namespace Onl
open PySem PySem.Spec Py
/-! ### drawn events -/
theorem cut_last {α : Type} {l : List α} {x : α} : cutD (l ++ [x]) (some (-1)) none = [x] := by
  unfold cutD
  have e : HT.sIx (l ++ [x]).length 0 (some (-1)) = l.length := by
    unfold HT.sIx
    simp
    omega
  rw [e, HT.sIx_none, List.drop_left, List.length_append, List.length_singleton, show l.length + 1 - l.length = 1 by omega]
  rfl
theorem flip_lt {m t n : Nat} (hm : m < 2 ^ n) (ht : t < n) : flipM m t < 2 ^ n := by
  refine Nat.lt_pow_two_of_testBit _ fun i hi => ?_
  rw [flip_test, if_neg (by omega)]
  exact Nat.testBit_lt_two_pow (Nat.lt_of_lt_of_le hm (Nat.pow_le_pow_right (by decide) hi))
theorem bits_lt {m n t : Nat} (hm : m < 2 ^ n) (h : t ∈ bits m) : t < n ∧ m.testBit t = true := by
  have h2 := (mem_bits.mp h).2
  refine ⟨Nat.lt_of_not_le fun q => ?_, h2⟩
  rw [Nat.testBit_lt_two_pow (Nat.lt_of_lt_of_le hm (Nat.pow_le_pow_right (by decide) q))] at h2
  cases h2
def chs (lots : List (List (List Nat))) (n m : Nat) : List Int := (((List.range n).filter (borneM lots m)).map fun (t : Nat) => (t : Int)) ++ (((List.range n).filter (borneM lots m)).map fun (t : Nat) => (t : Int)) ++ (bits m).map fun (t : Nat) => -1 - (t : Int)
theorem chs_ok {ws : List Int} {lots : List (List (List Nat))} {n m : Nat} {e : Int} (F : Fr ws lots n) (hm : m < 2 ^ n) (h : e ∈ chs lots n m) : okE n e ∧ ∃ m', stepM lots m e = some m' ∧ m' < 2 ^ n := by
  unfold chs at h
  have hA : e ∈ ((List.range n).filter (borneM lots m)).map (fun (t : Nat) => (t : Int)) → okE n e ∧ ∃ m', stepM lots m e = some m' ∧ m' < 2 ^ n := fun h => by
    obtain ⟨t, ht, rfl⟩ := List.mem_map.mp h
    obtain ⟨h1, h2⟩ := List.mem_filter.mp ht
    have h1 := List.mem_range.mp h1
    have ht : thE (t : Int) = t := by unfold thE; rw [if_pos (by omega)]; omega
    refine ⟨⟨by omega, by omega⟩, flipM m t, ?_, flip_lt hm h1⟩
    unfold stepM
    rw [ht, h2, decide_eq_false (show ¬ (t : Int) < 0 by omega)]
    simp
  rcases List.mem_append.mp h with h | h
  · rcases List.mem_append.mp h with h | h
    · exact hA h
    · exact hA h
  · obtain ⟨t, ht, rfl⟩ := List.mem_map.mp h
    obtain ⟨h1, h2⟩ := bits_lt hm ht
    have ht : thE (-1 - (t : Int)) = t := by unfold thE; rw [if_neg (by omega)]; omega
    refine ⟨⟨by omega, by omega⟩, flipM m t, ?_, flip_lt hm h1⟩
    unfold stepM
    rw [ht, h2, decide_eq_false (show ¬ (0 : Int) ≤ -1 - (t : Int) by omega)]
    simp
theorem chs_pos {ws : List Int} {lots : List (List (List Nat))} {n m : Nat} (F : Fr ws lots n) (h0 : lots[0]? = some [[]]) (hn : 0 < n) : 1 ≤ (chs lots n m).length := by
  have : (0 : Int) ∈ chs lots n m := by
    unfold chs
    refine List.mem_append_left _ (List.mem_append_left _ (List.mem_map.mpr ⟨0, List.mem_filter.mpr ⟨List.mem_range.mpr hn, ?_⟩, rfl⟩))
    unfold borneM
    rw [h0]
    rfl
  exact List.length_pos_of_mem this
theorem chs_len {lots : List (List (List Nat))} {n m : Nat} (hn : n ≤ 12) : (chs lots n m).length ≤ 36 := by
  unfold chs
  have h1 : ((List.range n).filter (borneM lots m)).length ≤ n := Nat.le_trans (List.length_filter_le _ _) (by rw [List.length_range]; exact Nat.le_refl _)
  have h2 := bits_len m
  rw [List.length_append, List.length_append, List.length_map, List.length_map]
  omega
abbrev bodyEV : GS := gSeq (gAsg 6 (gSd (gFz (gLc (gRg (gCall φ_L_many (Py.gCons (gVar 1) (Py.gNil)))) (gtN 7) (gTb (gCall φ_L_borne (Py.gCons (gVar 1) (Py.gCons (gVar 2) (Py.gCons (gVar 7) (Py.gNil)))))) (gVar 7) [7])))) (gSeq (gAsg 6 (gSd (gFz (gCat (gLt (gBin dAdd (gVar 6) (gVar 6))) (gLc (gQd (gCall φ_L_bits (Py.gCons (gVar 2) (Py.gNil)))) (gtN 7) (gYes) (gBin dSub (gBin dSub (gC (.int 0)) (gC (.int 1))) (gVar 7)) [7]))))) (gSeq (gApp 4 (gCall φ_L_of (Py.gCons (gVar 0) (Py.gCons (gVar 6) (Py.gNil))))) (gAsg 2 (gSd (gIx (gQd (gCall φ_L_behind_events (Py.gCons (gVar 1) (Py.gCons (gVar 2) (Py.gCons (gFz (gSl1 (gOwn 4) (goS (gUn dNeg (gC (.int 1)))) (goN))) (Py.gNil)))))) (gUn dNeg (gC (.int 1))))))))
theorem ev_body {M E : Stor} {ws : List Int} {lots : List (List (List Nat))} {n m : Nat} {es : List Int} {s3 s5 s6 : Slot} (h : Dl M E) (F : Fr ws lots n) (h0 : lots[0]? = some [[]]) (hn : 0 < n) (hm : m < 2 ^ n) (hz : es.length ≤ 1000) :
    ∃ e m' M' s6', bodyEV [.dat (.loc 1), .dat (frD ws lots), .dat (nD m), s3, .lst (es.map D.int), s5, s6, .un] M = some ((.nx, [.dat (.loc 1), .dat (frD ws lots), .dat (nD m'), s3, .lst ((es ++ [e]).map D.int), s5, s6', .un]), M') ∧ Dl M' E ∧ okE n e ∧ stepM lots m e = some m' ∧ m' < 2 ^ n := by
  have hM := h.wfM
  have hn12 := F.hn
  have c1 := gLc_map (src := gRg (gCall φ_L_many (Py.gCons (gVar 1) (Py.gNil)))) (tg := gtN 7) (c := gTb (gCall φ_L_borne (Py.gCons (gVar 1) (Py.gCons (gVar 2) (Py.gCons (gVar 7) (Py.gNil)))))) (e := gVar 7) (vs := [7]) (ρ := [.dat (.loc 1), .dat (frD ws lots), .dat (nD m), s3, .lst (es.map D.int), s5, s6, .un]) (M := M) (M0 := M) nD (borneM lots m) nD (l := List.range n)
    (v_rg (v_call (v_cons (v_var rfl) v_nil) (by rw [many_ok hM, F.lw])) (by omega)) (by rw [List.length_range, lim_eq]; omega) fun t ht => ⟨[.dat (.loc 1), .dat (frD ws lots), .dat (nD m), s3, .lst (es.map D.int), s5, s6, .dat (nD t)], rfl, v_tb (v_call (v_cons (v_var rfl) (v_cons (v_var rfl) (v_cons (v_var rfl) v_nil))) (borne_ok hM F (List.mem_range.mp ht))), fun _ => v_var rfl⟩
  generalize hA : (List.range n).filter (borneM lots m) = A at c1
  have hAl : A.length ≤ 12 := by
    rw [← hA]
    exact Nat.le_trans (List.length_filter_le _ _) (by rw [List.length_range]; exact hn12)
  have c2 := gLc_map (src := gQd (gCall φ_L_bits (Py.gCons (gVar 2) (Py.gNil)))) (tg := gtN 7) (c := gYes) (e := gBin dSub (gBin dSub (gC (.int 0)) (gC (.int 1))) (gVar 7)) (vs := [7]) (ρ := [.dat (.loc 1), .dat (frD ws lots), .dat (nD m), s3, .lst (es.map D.int), s5, .dat (.lst (A.map nD)), .un]) (M := M) (M0 := M) nD (fun _ => true) (fun t => .int (0 - 1 - (t : Int))) (l := bits m)
    (v_qd (v_call (v_cons (v_var rfl) v_nil) (bits_ok hM)) rfl) (by have := bits_len m; rw [lim_eq]; omega) fun t _ => ⟨[.dat (.loc 1), .dat (frD ws lots), .dat (nD m), s3, .lst (es.map D.int), s5, .dat (.lst (A.map nD)), .dat (nD t)], rfl, rfl, fun _ => v_bin (v_bin v_c v_c dsub_int) (v_var rfl) dsub_int⟩
  rw [show (bits m).filter (fun _ => true) = bits m from List.filter_eq_self.mpr fun _ _ => rfl] at c2
  have hb := bits_len m
  have hadd : dAdd (.lst (A.map nD)) (.lst (A.map nD)) = some (.lst (A.map nD ++ A.map nD)) := by
    show (if (A.map nD).length + (A.map nD).length ≤ lim then _ else _) = _
    rw [if_pos (by rw [List.length_map, lim_eq]; omega)]
  have c3 : gCat (gLt (gBin dAdd (gVar 6) (gVar 6))) (gLc (gQd (gCall φ_L_bits (Py.gCons (gVar 2) (Py.gNil)))) (gtN 7) (gYes) (gBin dSub (gBin dSub (gC (.int 0)) (gC (.int 1))) (gVar 7)) [7]) [.dat (.loc 1), .dat (frD ws lots), .dat (nD m), s3, .lst (es.map D.int), s5, .dat (.lst (A.map nD)), .un] M = some ((chs lots n m).map D.int, M) := by
    have e : (chs lots n m).map D.int = (A.map nD ++ A.map nD) ++ (bits m).map fun (t : Nat) => D.int (0 - 1 - (t : Int)) := by
      unfold chs
      rw [hA, List.map_append, List.map_append, map_int, List.map_map]
      rfl
    rw [e]
    exact v_cat (v_lt (v_bin (v_var rfl) (v_var rfl) hadd) rfl) c2 (by rw [List.length_append, List.length_map, List.length_map, lim_eq]; omega)
  obtain ⟨d, M2, o1, d2, o3⟩ := of_ok (l := (chs lots n m).map D.int) h (by rw [List.length_map]; exact chs_pos F h0 hn) (by have := chs_len (lots := lots) (m := m) hn12; rw [List.length_map]; omega) (lcLt_ints _)
  obtain ⟨e, he, rfl⟩ := List.mem_map.mp o3
  obtain ⟨k1, m', k2, k3⟩ := chs_ok F hm he
  have hbe := behind_ok (ws := ws) (m := m) (es := [e]) (ed := .lst [.int e]) d2.wfM F (fun x hx => by rw [List.mem_singleton.mp hx]; exact k1) (by show 1 < lim; decide) rfl
  have hw : walkM lots m [e] = some [m'] := by
    unfold walkM
    rw [k2]
    rfl
  rw [hw] at hbe
  refine ⟨e, m', M2, .dat (.lst ((chs lots n m).map D.int)), s_seq (s_asg (by simp) (v_sd (v_fz c1))) (s_seq (s_asg (by simp) (v_sd (v_fz c3))) (s_seq (s_app rfl (v_call (v_cons (v_var rfl) (v_cons (v_var rfl) v_nil)) o1) (by rw [List.length_map, lim_eq]; omega)) ?_)), d2, k1, k2, k3⟩
  have hsl : gSl1 (gOwn 4) (goS (gUn dNeg (gC (.int 1)))) (goN) [.dat (.loc 1), .dat (frD ws lots), .dat (nD m), s3, .lst (es.map D.int ++ [.int e]), s5, .dat (.lst ((chs lots n m).map D.int)), .un] M2 = some ([.int e], M2) := by
    have := v_sl1 (gl := gOwn 4) (ρ := [.dat (.loc 1), .dat (frD ws lots), .dat (nD m), s3, .lst (es.map D.int ++ [.int e]), s5, .dat (.lst ((chs lots n m).map D.int)), .un]) (M := M2) (l := es.map D.int ++ [.int e]) (v_own rfl) (v_os (ga := gUn dNeg (gC (.int 1))) (k := -1) (v_un v_c dneg_int)) v_on
    rw [cut_last] at this
    exact this
  rw [List.map_append (l₁ := es)]
  exact s_asg (by simp) (v_sd (v_ix (v_qd (v_call (v_cons (v_var rfl) (v_cons (v_var rfl) (v_cons (v_fz hsl) v_nil))) hbe) rfl) (v_un v_c dneg_int) (last_nD (ms := [m]) (m := m'))))
theorem events_ok {M E : Stor} {ws : List Int} {lots : List (List (List Nat))} {n m k : Nat} (h : Dl M E) (F : Fr ws lots n) (h0 : lots[0]? = some [[]]) (hn : 0 < n) (hm : m < 2 ^ n) (hk : k ≤ 100) :
    ∃ (es : List Int) (M' : Stor), φ_L_events [.loc 1, frD ws lots, nD m, nD k] M = some (.tup (es.map D.int), M') ∧ Dl M' E ∧ es.length = k ∧ (∀ e ∈ es, okE n e) ∧ (walkM lots m es).isSome = true := by
  obtain ⟨ρ', M', hf, es, cur, s5, s6, hD, hρ, g1, g2, g3, g4⟩ := forL_inv (tg := gtN 5) (body := bodyEV) (fun i ρ M' => ∃ (es : List Int) (cur : Nat) (s5 s6 : Slot), Dl M' E ∧ ρ = [.dat (.loc 1), .dat (frD ws lots), .dat (nD cur), .dat (nD k), .lst (es.map D.int), s5, s6, .un] ∧ es.length = i ∧ cur < 2 ^ n ∧ (∀ e ∈ es, okE n e) ∧ ∀ es2, (walkM lots cur es2).isSome = true → (walkM lots m (es ++ es2)).isSome = true) (l := (List.range k).map nD) (k := 0)
    (ρ := [.dat (.loc 1), .dat (frD ws lots), .dat (nD m), .dat (nD k), .lst [], .un, .un, .un]) (M := M) ⟨[], m, .un, .un, h, rfl, rfl, hm, fun e he => absurd he (by simp), fun es2 h => h⟩ fun i d ρ M' hd ⟨es, cur, s5, s6, hD, hρ, g1, g2, g3, g4⟩ => by
      subst hρ
      have hi : i < k := by
        have := (List.getElem?_eq_some_iff.mp hd).1
        simpa using this
      obtain ⟨e, m', M2, s6', b1, b2, b3, b4, b5⟩ := ev_body (s3 := .dat (nD k)) (s5 := .dat d) (s6 := s6) hD F h0 hn g2 (es := es) (by omega)
      refine ⟨_, _, M2, rfl, b1, es ++ [e], m', .dat d, s6', b2, rfl, by rw [List.length_append, List.length_singleton]; omega, b5, fun x hx => ?_, fun es2 hw => ?_⟩
      · rcases List.mem_append.mp hx with hx | hx
        · exact g3 x hx
        · rw [List.mem_singleton.mp hx]; exact b3
      · rw [List.append_assoc]
        refine g4 _ ?_
        show (walkM lots cur (e :: es2)).isSome = true
        unfold walkM
        rw [b4]
        dsimp only
        rw [Option.isSome_map]
        exact hw
  subst hρ
  rw [List.length_map, List.length_range, Nat.zero_add] at g1
  refine ⟨es, M', run_retC (ρ1 := [.dat (.loc 1), .dat (frD ws lots), .dat (nD cur), .dat (nD k), .lst (es.map D.int), s5, s6, .un]) rfl (s_seq (s_asg (by simp [env0]) (v_sl (v_lst v_nil (Nat.zero_le _)))) (s_seq (s_for (v_rg (v_var rfl) (by omega)) hf) (s_ret (v_tuple (v_own rfl))))) (cut_dl' h.len hD fun n => lcLts_int n _), hD, g1, g3, ?_⟩
  have := g4 [] rfl
  rwa [List.append_nil] at this
end Onl
namespace Onl
open PySem PySem.Spec Py
/-! ### the law -/
def GB (d : D) : Prop := ∃ k, Good d k ∧ k < 1000000
theorem goodL_nD : ∀ l : List Nat, GoodL (l.map nD) l.length
  | [] => .nil
  | k :: l => by
    have h := GoodL.cons (Good.int (k : Int)) (goodL_nD l)
    rw [Nat.add_comm] at h
    exact h
theorem goodL_bD : ∀ l : List Nat, ∃ k, GoodL (l.map bD) k ∧ k ≤ 13 * l.length
  | [] => ⟨0, .nil, Nat.le_refl _⟩
  | m :: l => by
    obtain ⟨k, h1, h2⟩ := goodL_bD l
    have hb := bits_len m
    exact ⟨_, .cons (.tup (goodL_nD (bits m))) h1, by rw [List.length_cons]; omega⟩
theorem walk_len {lots : List (List (List Nat))} : ∀ {es : List Int} {m : Nat} {r : List Nat}, walkM lots m es = some r → r.length = es.length
  | [], _, _, h => by cases h; rfl
  | e :: es, m, r, h => by
    unfold walkM at h
    split at h
    · rename_i m' q
      cases q2 : walkM lots m' es with
      | none => rw [q2] at h; cases h
      | some r' =>
        rw [q2] at h
        cases h
        rw [List.length_cons, List.length_cons, walk_len q2]
    · cases h
theorem good_wD {lots : List (List (List Nat))} {es : List Int} {m : Nat} (h : es.length ≤ 1000) : GB (wD (walkM lots m es) m) := by
  cases q : walkM lots m es with
  | none => exact ⟨1, .non, by decide⟩
  | some r =>
    obtain ⟨k, h1, h2⟩ := goodL_bD (m :: r)
    have := walk_len q
    rw [List.length_cons] at h2
    exact ⟨k + 1, .tup h1, by omega⟩
theorem good_int (i : Int) : GB (.int i) := ⟨1, .int i, by decide⟩
theorem v_slT {ga : Env' → Cm D} {go1 go2 : Env' → Cm (Option Int)} {ρ : Env'} {M M1 M2 M3 : Stor} {l : List D} {lo hi : Option Int} (h1 : ga ρ M = some (.tup l, M1)) (h2 : go1 ρ M1 = some (lo, M2)) (h3 : go2 ρ M2 = some (hi, M3)) : gSlT ga go1 go2 ρ M = some (.tup (cutD l lo hi), M3) := by
  unfold gSlT; rw [h1, bnd_some, h2, bnd_some, h3]; rfl
theorem cut_drop {α : Type} {l : List α} {k : Nat} (h : k ≤ l.length) : cutD l (some (k : Int)) none = l.drop k := by
  unfold cutD
  rw [HT.sIx_none, HT.sIx_nat, Nat.min_eq_left h]
  exact List.take_of_length_le (by rw [List.length_drop]; exact Nat.le_refl _)
theorem tup_add {l m : List D} (h : l.length + m.length ≤ lim) : dAdd (.tup l) (.tup m) = some (.tup (l ++ m)) := by
  show (if l.length + m.length ≤ lim then _ else _) = _
  rw [if_pos h]
theorem v_allbits {i : Nat} {ms : List Nat} {src : Env' → Cm (List D)} {ρ ρ1 : Env'} {M M0 : Stor} (hM : wfM M = true) (hs : src ρ M0 = some (ms.map nD, M)) (hz : ms.length ≤ lim) (h : ∀ m, ∃ ρ1, gtN 16 (nD m) (wipeE ρ [16]) = some ρ1 ∧ ρ1[16]? = some (.dat (nD m))) : gLc src (gtN 16) gYes (gCall φ_L_bits (Py.gCons (gVar 16) (Py.gNil))) [16] ρ M0 = some (ms.map bD, M) := by
  have := gLc_map (src := src) (tg := gtN 16) (c := gYes) (e := gCall φ_L_bits (Py.gCons (gVar 16) (Py.gNil))) (vs := [16]) (ρ := ρ) (M := M) (M0 := M0) nD (fun _ => true) bD (l := ms) hs hz fun m _ => by
    obtain ⟨ρ1, h1, h2⟩ := h m
    exact ⟨ρ1, h1, rfl, fun _ => v_call (v_cons (v_var h2) v_nil) (bits_ok hM)⟩
  rw [show ms.filter (fun _ => true) = ms from List.filter_eq_self.mpr fun _ _ => rfl] at this
  exact this
abbrev bodyL2 : GS := (gSeq (gPar 14 15 (gSd (gCall φ_L_any (Py.gCons (gVar 4) (Py.gCons (gBin dAdd (gLen (gQd (gVar 6))) (gC (.int 1))) (Py.gNil))))) (gSd (gBin dSub (gCall φ_L_any (Py.gCons (gVar 4) (Py.gCons (gBin dMul (gC (.int 2)) (gCall φ_L_many (Py.gCons (gVar 5) (Py.gNil)))) (Py.gNil)))) (gCall φ_L_many (Py.gCons (gVar 5) (Py.gNil)))))) (gSeq (gAsg 12 (gSd (gBin dAdd (gBin dAdd (gSlT (gVar 6) (goN) (goS (gVar 14))) (Py.gTup (Py.gCons (gVar 15) (Py.gNil)))) (gSlT (gVar 6) (goS (gVar 14)) (goN))))) (gSeq (gAsg 13 (gSd (gCall φ_L_behind_events (Py.gCons (gVar 5) (Py.gCons (gVar 11) (Py.gCons (gVar 12) (Py.gNil))))))) (gApp 3 (Py.gTup (Py.gCons (gCall φ_wiped_walk (Py.gCons (gVar 2) (Py.gCons (gCall φ_L_bits (Py.gCons (gVar 11) (Py.gNil))) (Py.gCons (gVar 12) (Py.gNil))))) (Py.gCons (gIf (gTb (gBin (dIs false) (gVar 13) (gC .non))) (gC .non) (gTuple (gLc (gQd (gVar 13)) (gtN 16) (gYes) (gCall φ_L_bits (Py.gCons (gVar 16) (Py.gNil))) [16]))) (Py.gNil))))))))
theorem l2_body {M : Stor} {ws : List Int} {lots : List (List (List Nat))} {n m : Nat} {es : List Int} {ps : List D} {s0 s1 s7 s8 s9 s10 s12 s13 s14 s15 : Slot} (h : Dl M []) (F : Fr ws lots n) (hn : 0 < n) (he : ∀ e ∈ es, okE n e) (hes : es.length ≤ 100) (hz : ps.length ≤ 1000) :
    ∃ d M' s12' s13' s14' s15', bodyL2 [s0, s1, .dat (webD ((List.range n).map letterD) ws lots), .lst (ps.map twD), .dat (.loc 1), .dat (frD ws lots), .dat (.tup (es.map D.int)), s7, s8, s9, s10, .dat (nD m), s12, s13, s14, s15, .un] M =
      some ((.nx, [s0, s1, .dat (webD ((List.range n).map letterD) ws lots), .lst ((ps ++ [d]).map twD), .dat (.loc 1), .dat (frD ws lots), .dat (.tup (es.map D.int)), s7, s8, s9, s10, .dat (nD m), s12', s13', s14', s15', .un]), M') ∧ Dl M' [] ∧ GB d := by
  have hn12 := F.hn
  obtain ⟨at_, M1, a1, d1, ha⟩ := any_nat (b := es.length + 1) h (by omega) (by omega)
  obtain ⟨r, M2, a2, d2, hr⟩ := any_nat (b := 2 * n) d1 (by omega) (by omega)
  generalize hev : (r : Int) - (n : Int) = ev
  have hevok : okE n ev := by rw [← hev]; exact ⟨by omega, by omega⟩
  generalize hlate : es.take at_ ++ [ev] ++ es.drop at_ = late
  have hlok : ∀ e ∈ late, okE n e := fun e hm => by
    rw [← hlate] at hm
    rcases List.mem_append.mp hm with hm | hm
    · rcases List.mem_append.mp hm with hm | hm
      · exact he e (List.mem_of_mem_take hm)
      · rw [List.mem_singleton.mp hm]; exact hevok
    · exact he e (List.mem_of_mem_drop hm)
  have hll : late.length = es.length + 1 := by
    rw [← hlate, List.length_append, List.length_append, List.length_take, List.length_drop, List.length_singleton]; omega
  have hbe := behind_ok (ws := ws) (m := m) (es := late) (ed := .tup (late.map D.int)) d2.wfM F hlok (by rw [hll, lim_eq]; omega) rfl
  have hww := wiped_ok (ns := (List.range n).map letterD) (ws := ws) (m := m) (es := late) (ed := .tup (late.map D.int)) d2.wfM F (by rw [List.length_map, List.length_range]) hlok (by rw [hll, lim_eq]; omega) rfl
  have hdue : gIf (gTb (gBin (dIs false) (gVar 13) (gC .non))) (gC .non) (gTuple (gLc (gQd (gVar 13)) (gtN 16) (gYes) (gCall φ_L_bits (Py.gCons (gVar 16) (Py.gNil))) [16])) [s0, s1, .dat (webD ((List.range n).map letterD) ws lots), .lst (ps.map twD), .dat (.loc 1), .dat (frD ws lots), .dat (.tup (es.map D.int)), s7, s8, s9, s10, .dat (nD m), .dat (.tup (late.map D.int)), .dat (msD (walkM lots m late) m), .dat (nD at_), .dat (.int ev), .un] M2 = some (wD (walkM lots m late) m, M2) := by
    cases q : walkM lots m late with
    | none => exact v_ifT (v_tb (v_bin (v_var rfl) v_c rfl)) v_c
    | some r =>
      have hrl := walk_len q
      exact v_ifF (v_tb (b := false) (v_bin (v_var rfl) v_c rfl)) (v_tuple (v_allbits (i := 0) (ρ1 := []) (ms := m :: r) d2.wfM (v_qd (v_var rfl) rfl) (by rw [List.length_cons, lim_eq]; omega) fun m => ⟨_, rfl, rfl⟩))
  refine ⟨wD (walkM lots m late) m, M2, .dat (.tup (late.map D.int)), .dat (msD (walkM lots m late) m), .dat (nD at_), .dat (.int ev), s_seq (s_par ⟨by simp, by simp⟩ (v_sd (v_call (v_cons (v_var rfl) (v_cons (v_bin (z := nD (es.length + 1)) (v_len (v_qd (v_var rfl) rfl)) v_c ?_) v_nil)) a1)) (v_sd (v_bin (v_call (v_cons (v_var rfl) (v_cons (v_bin (z := nD (2 * n)) v_c (v_call (v_cons (v_var rfl) v_nil) (by rw [many_ok d1.wfM, F.lw])) ?_) v_nil)) a2) (v_call (r := some (.int (n : Int), M2)) (v_cons (v_var rfl) v_nil) (by rw [many_ok d2.wfM, F.lw]; rfl)) dsub_int))) (s_seq (s_asg (s := .dat (.tup (late.map D.int))) (by simp) (v_sd ?_)) (s_seq (s_asg (by simp) (v_sd (v_call (v_cons (v_var rfl) (v_cons (v_var rfl) (v_cons (v_var rfl) v_nil))) hbe))) ?_)), d2, good_wD (by rw [hll]; omega)⟩
  · show dAdd (.int ((es.map D.int).length : Int)) (.int 1) = _
    rw [List.length_map]
    rfl
  · have e2 : nD (2 * n) = .int (2 * (n : Int)) := by unfold nD; rw [Int.natCast_mul]; rfl
    rw [e2]
    refine dmul_int ?_
    unfold cMul
    rw [Int.natAbs_natCast]
    refine decide_eq_true ?_
    have h1 : n.log2 < 32 := (Nat.log2_lt (by omega)).mpr (by omega)
    have h2 : (2 : Int).natAbs.log2 = 1 := by decide
    omega
  · have e3 : (late.map D.int) = ((es.map D.int).take at_ ++ [.int ev]) ++ (es.map D.int).drop at_ := by
      rw [← hlate, List.map_append, List.map_append, List.map_take, List.map_drop]
      rfl
    rw [e3]
    have h1 := v_slT (ga := gVar 6) (go1 := goN) (go2 := goS (gVar 14)) (ρ := [s0, s1, .dat (webD ((List.range n).map letterD) ws lots), .lst (ps.map twD), .dat (.loc 1), .dat (frD ws lots), .dat (.tup (es.map D.int)), s7, s8, s9, s10, .dat (nD m), s12, s13, .dat (nD at_), .dat (.int ev), .un]) (M := M2) (v_var rfl) v_on (v_os (k := (at_ : Int)) (v_var rfl))
    have h2 := v_slT (ga := gVar 6) (go1 := goS (gVar 14)) (go2 := goN) (ρ := [s0, s1, .dat (webD ((List.range n).map letterD) ws lots), .lst (ps.map twD), .dat (.loc 1), .dat (frD ws lots), .dat (.tup (es.map D.int)), s7, s8, s9, s10, .dat (nD m), s12, s13, .dat (nD at_), .dat (.int ev), .un]) (M := M2) (v_var rfl) (v_os (k := (at_ : Int)) (v_var rfl)) v_on
    rw [cut_take] at h1
    rw [cut_drop (by rw [List.length_map]; omega)] at h2
    subst hev
    exact v_bin (v_bin h1 (v_tup (v_cons (v_var rfl) v_nil) (show 1 ≤ lim by decide)) (tup_add (by rw [List.length_take, List.length_map, lim_eq]; show min at_ es.length + 1 ≤ _; omega))) h2 (tup_add (by rw [List.length_append, List.length_take, List.length_drop, List.length_map, lim_eq]; show min at_ es.length + 1 + (es.length - at_) ≤ _; omega))
  · subst hev
    rw [List.map_append (l₁ := ps)]
    exact s_app rfl (v_tup (v_cons (v_call (v_cons (v_var rfl) (v_cons (v_call (v_cons (v_var rfl) v_nil) (bits_ok d2.wfM)) (v_cons (v_var rfl) v_nil))) hww) (v_cons hdue v_nil)) (show 2 ≤ lim by decide)) (by rw [List.length_map, lim_eq]; omega)
end Onl
namespace Onl
open PySem PySem.Spec Py
abbrev bodyL1 : GS := (gSeq (gAsg 5 (gSd (gCall φ_L_some_frame (Py.gCons (gVar 4) (Py.gCons (gC (.int 6)) (Py.gNil)))))) (gSeq (gPar 2 11 (gSd (gCall φ_L_web (Py.gCons (gVar 5) (Py.gNil)))) (gSd (gCall φ_L_some_mask (Py.gCons (gVar 4) (Py.gCons (gVar 5) (Py.gNil)))))) (gSeq (gAsg 6 (gSd (gCall φ_L_events (Py.gCons (gVar 4) (Py.gCons (gVar 5) (Py.gCons (gVar 11) (Py.gCons (gCall φ_L_any (Py.gCons (gVar 4) (Py.gCons (gC (.int 25)) (Py.gNil)))) (Py.gNil)))))))) (gSeq (gAsg 7 (gSd (gTuple (gLc (gQd (gCall φ_L_behind_events (Py.gCons (gVar 5) (Py.gCons (gVar 11) (Py.gCons (gVar 6) (Py.gNil)))))) (gtN 16) (gYes) (gCall φ_L_bits (Py.gCons (gVar 16) (Py.gNil))) [16])))) (gSeq (gAsg 8 (gSd (gIf (gTb (gBin dGt (gVar 1) (gC (.int 0)))) (gCall φ_wiped_walk (Py.gCons (gVar 2) (Py.gCons (gCall φ_L_bits (Py.gCons (gVar 11) (Py.gNil))) (Py.gCons (gVar 6) (Py.gNil))))) (gCallK φ_wiped_walk [2, 1, 0] (Py.gCons (gVar 6) (Py.gCons (gCall φ_L_bits (Py.gCons (gVar 11) (Py.gNil))) (Py.gCons (gVar 2) (Py.gNil)))))))) (gSeq (gAsg 3 (gSl (gCat (gOwn 3) (gLst (Py.gCons (Py.gTup (Py.gCons (gVar 8) (Py.gCons (gVar 7) (Py.gNil)))) (Py.gNil)))))) (gSeq (gAsg 3 (gSl (gCat (gOwn 3) (gLst (Py.gCons (Py.gTup (Py.gCons (gIf (gTb (gBin dGt (gVar 1) (gC (.int 0)))) (gCall φ_wipes_in (Py.gCons (gVar 6) (Py.gNil))) (gCallK φ_wipes_in [0] (Py.gCons (gVar 6) (Py.gNil)))) (Py.gCons (gLen (gLc (gQd (gVar 6)) (gtN 16) (gTb (gBin dLt (gVar 16) (gC (.int 0)))) (gVar 16) [16])) (Py.gNil)))) (Py.gNil)))))) (gSeq (gFor (gRg (gC (.int 6))) (gtN 9) bodyL2) (gSeq (gAsg 10 (gSd (gTuple (gLc (gQd (gVar 6)) (gtN 16) (gTb (gBin dGe (gVar 16) (gC (.int 0)))) (gVar 16) [16])))) (gSeq (gAsg 3 (gSl (gCat (gOwn 3) (gLst (Py.gCons (Py.gTup (Py.gCons (gCall φ_wiped_walk (Py.gCons (gVar 2) (Py.gCons (gCall φ_L_bits (Py.gCons (gVar 11) (Py.gNil))) (Py.gCons (gVar 10) (Py.gNil))))) (Py.gCons (gCall φ_walked (Py.gCons (gVar 2) (Py.gCons (gCall φ_L_bits (Py.gCons (gVar 11) (Py.gNil))) (Py.gCons (gVar 10) (Py.gNil))))) (Py.gNil)))) (Py.gNil)))))) (gAsg 3 (gSl (gCat (gOwn 3) (gLst (Py.gCons (Py.gTup (Py.gCons (gCall φ_wiped_walk (Py.gCons (gVar 2) (Py.gCons (gCall φ_L_bits (Py.gCons (gVar 11) (Py.gNil))) (Py.gCons (Py.gTup (Py.gNil)) (Py.gNil))))) (Py.gCons (Py.gTup (Py.gCons (gCall φ_L_bits (Py.gCons (gVar 11) (Py.gNil))) (Py.gNil))) (Py.gNil)))) (Py.gNil))))))))))))))))
/-- one more pair -/
theorem s_pair {ρ : Env'} {M : Stor} {ps : List D} {d : D} {ga gb : Env' → Cm D} (e : ρ[3]? = some (.lst (ps.map twD))) (hl : 3 < ρ.length) (h1 : ga ρ M = some (d, M)) (h2 : gb ρ M = some (d, M)) (hz : ps.length ≤ 2000) :
    gAsg 3 (gSl (gCat (gOwn 3) (gLst (Py.gCons (Py.gTup (Py.gCons ga (Py.gCons gb (Py.gNil)))) (Py.gNil))))) ρ M = some ((.nx, ρ.set 3 (.lst ((ps ++ [d]).map twD))), M) := by
  rw [List.map_append (l₁ := ps)]
  exact s_asg hl (v_sl (v_cat (v_own e) (v_lst (v_cons (v_tup (v_cons h1 (v_cons h2 v_nil)) (show 2 ≤ lim by decide)) v_nil) (show 1 ≤ lim by decide)) (by rw [List.length_map, lim_eq]; show ps.length + 1 ≤ _; omega)))
theorem l1_body {M : Stor} {ps : List D} {t : Nat} {s0 s2 s5 s6 s7 s8 s9 s10 s11 s12 s13 s14 s15 : Slot} (h : Dl M []) (hz : ps.length ≤ 500) (hg : ∀ d ∈ ps, GB d) :
    ∃ (ps' : List D) (M' : Stor) (u2 u5 u6 u7 u8 u9 u10 u11 u12 u13 u14 u15 : Slot), bodyL1 [s0, .dat (nD t), s2, .lst (ps.map twD), .dat (.loc 1), s5, s6, s7, s8, s9, s10, s11, s12, s13, s14, s15, .un] M =
      some ((.nx, [s0, .dat (nD t), u2, .lst (ps'.map twD), .dat (.loc 1), u5, u6, u7, u8, u9, u10, u11, u12, u13, u14, u15, .un]), M') ∧ Dl M' [] ∧ ps'.length ≤ ps.length + 20 ∧ ∀ d ∈ ps', GB d := by
  obtain ⟨_, n, M1, f1, d1, ⟨ws, lots, rfl, F, h0⟩, n3, n6⟩ := someframe_ok h
  have hn12 := F.hn
  obtain ⟨m, M2, k1, d2, hm⟩ := somemask_ok d1 F hn12
  obtain ⟨many, M3, a1, d3, hmany⟩ := any_nat (b := 25) d2 (by decide) (by decide)
  obtain ⟨es, M4, e1, d4, hel, heok, hsome⟩ := events_ok (m := m) (k := many) d3 F h0 (by omega) hm (by omega)
  obtain ⟨r, hr⟩ := Option.isSome_iff_exists.mp hsome
  have hrl := walk_len hr
  have hM := d4.wfM
  have hnl : ((List.range n).map letterD).length = n := by rw [List.length_map, List.length_range]
  generalize hW : webD ((List.range n).map letterD) ws lots = W
  have hbe := behind_ok (ws := ws) (m := m) (es := es) (ed := .tup (es.map D.int)) hM F heok (by rw [lim_eq]; omega) rfl
  have hww := wiped_ok (ns := (List.range n).map letterD) (ws := ws) (m := m) (es := es) (ed := .tup (es.map D.int)) hM F hnl heok (by rw [lim_eq]; omega) rfl
  have hwi := wipesin_ok (es := es) (ed := .tup (es.map D.int)) hM (by rw [lim_eq]; omega) rfl
  have hweb := web_ok d1.wfM F
  rw [hW] at hww hweb
  rw [hr] at hbe hww
  -- up to the walk
  generalize hE : (D.tup (es.map D.int)) = ED at *
  have p5 : gAsg 5 (gSd (gCall φ_L_some_frame (Py.gCons (gVar 4) (Py.gCons (gC (.int 6)) (Py.gNil))))) [s0, .dat (nD t), s2, .lst (ps.map twD), .dat (.loc 1), s5, s6, s7, s8, s9, s10, s11, s12, s13, s14, s15, .un] M = some ((.nx, [s0, .dat (nD t), s2, .lst (ps.map twD), .dat (.loc 1), .dat (frD ws lots), s6, s7, s8, s9, s10, s11, s12, s13, s14, s15, .un]), M1) := s_asg (by simp) (v_sd (v_call (v_cons (v_var rfl) (v_cons v_c v_nil)) f1))
  have p2 : gPar 2 11 (gSd (gCall φ_L_web (Py.gCons (gVar 5) (Py.gNil)))) (gSd (gCall φ_L_some_mask (Py.gCons (gVar 4) (Py.gCons (gVar 5) (Py.gNil))))) [s0, .dat (nD t), s2, .lst (ps.map twD), .dat (.loc 1), .dat (frD ws lots), s6, s7, s8, s9, s10, s11, s12, s13, s14, s15, .un] M1 = some ((.nx, [s0, .dat (nD t), .dat W, .lst (ps.map twD), .dat (.loc 1), .dat (frD ws lots), s6, s7, s8, s9, s10, .dat (nD m), s12, s13, s14, s15, .un]), M2) := s_par ⟨by simp, by simp⟩ (v_sd (v_call (v_cons (v_var rfl) v_nil) hweb)) (v_sd (v_call (v_cons (v_var rfl) (v_cons (v_var rfl) v_nil)) k1))
  have p6 : gAsg 6 (gSd (gCall φ_L_events (Py.gCons (gVar 4) (Py.gCons (gVar 5) (Py.gCons (gVar 11) (Py.gCons (gCall φ_L_any (Py.gCons (gVar 4) (Py.gCons (gC (.int 25)) (Py.gNil)))) (Py.gNil))))))) [s0, .dat (nD t), .dat W, .lst (ps.map twD), .dat (.loc 1), .dat (frD ws lots), s6, s7, s8, s9, s10, .dat (nD m), s12, s13, s14, s15, .un] M2 = some ((.nx, [s0, .dat (nD t), .dat W, .lst (ps.map twD), .dat (.loc 1), .dat (frD ws lots), .dat ED, s7, s8, s9, s10, .dat (nD m), s12, s13, s14, s15, .un]), M4) := s_asg (by simp) (v_sd (v_call (v_cons (v_var rfl) (v_cons (v_var rfl) (v_cons (v_var rfl) (v_cons (v_call (v_cons (v_var rfl) (v_cons v_c v_nil)) a1) v_nil)))) e1))
  have p7 : gAsg 7 (gSd (gTuple (gLc (gQd (gCall φ_L_behind_events (Py.gCons (gVar 5) (Py.gCons (gVar 11) (Py.gCons (gVar 6) (Py.gNil)))))) (gtN 16) (gYes) (gCall φ_L_bits (Py.gCons (gVar 16) (Py.gNil))) [16]))) [s0, .dat (nD t), .dat W, .lst (ps.map twD), .dat (.loc 1), .dat (frD ws lots), .dat ED, s7, s8, s9, s10, .dat (nD m), s12, s13, s14, s15, .un] M4 = some ((.nx, [s0, .dat (nD t), .dat W, .lst (ps.map twD), .dat (.loc 1), .dat (frD ws lots), .dat ED, .dat (wD (some r) m), s8, s9, s10, .dat (nD m), s12, s13, s14, s15, .un]), M4) :=
    s_asg (by simp) (v_sd (v_tuple (v_allbits (i := 0) (ρ1 := []) (ms := m :: r) hM (v_qd (v_call (v_cons (v_var rfl) (v_cons (v_var rfl) (v_cons (v_var rfl) v_nil))) hbe) rfl) (by rw [List.length_cons, lim_eq]; omega) fun m => ⟨_, rfl, rfl⟩)))
  have hgt : ∀ {x7 x8 : Slot} {pl : List D}, gTb (gBin dGt (gVar 1) (gC (.int 0))) [s0, .dat (nD t), .dat W, .lst pl, .dat (.loc 1), .dat (frD ws lots), .dat ED, x7, x8, s9, s10, .dat (nD m), s12, s13, s14, s15, .un] M4 = some (decide ((0 : Int) < (t : Int)), M4) := v_tb (v_bin (v_var rfl) v_c dgt_int)
  have p8 : gAsg 8 (gSd (gIf (gTb (gBin dGt (gVar 1) (gC (.int 0)))) (gCall φ_wiped_walk (Py.gCons (gVar 2) (Py.gCons (gCall φ_L_bits (Py.gCons (gVar 11) (Py.gNil))) (Py.gCons (gVar 6) (Py.gNil))))) (gCallK φ_wiped_walk [2, 1, 0] (Py.gCons (gVar 6) (Py.gCons (gCall φ_L_bits (Py.gCons (gVar 11) (Py.gNil))) (Py.gCons (gVar 2) (Py.gNil))))))) [s0, .dat (nD t), .dat W, .lst (ps.map twD), .dat (.loc 1), .dat (frD ws lots), .dat ED, .dat (wD (some r) m), s8, s9, s10, .dat (nD m), s12, s13, s14, s15, .un] M4 = some ((.nx, [s0, .dat (nD t), .dat W, .lst (ps.map twD), .dat (.loc 1), .dat (frD ws lots), .dat ED, .dat (wD (some r) m), .dat (wD (some r) m), s9, s10, .dat (nD m), s12, s13, s14, s15, .un]), M4) := by
    have hg := hgt (x7 := .dat (wD (some r) m)) (x8 := s8) (pl := ps.map twD)
    refine s_asg (by simp) (v_sd ?_)
    by_cases ht : (0 : Int) < (t : Int)
    · rw [decide_eq_true ht] at hg
      exact v_ifT hg (v_call (v_cons (v_var rfl) (v_cons (v_call (v_cons (v_var rfl) v_nil) (bits_ok hM)) (v_cons (v_var rfl) v_nil))) hww)
    · rw [decide_eq_false ht] at hg
      exact v_ifF hg (v_callK (v_cons (v_var rfl) (v_cons (v_call (v_cons (v_var rfl) v_nil) (bits_ok hM)) (v_cons (v_var rfl) v_nil))) hww)
  have hlt := gLc_map (src := gQd (gVar 6)) (tg := gtN 16) (c := gTb (gBin dLt (gVar 16) (gC (.int 0)))) (e := gVar 16) (vs := [16]) (ρ := [s0, .dat (nD t), .dat W, .lst ((ps ++ [wD (some r) m]).map twD), .dat (.loc 1), .dat (frD ws lots), .dat ED, .dat (wD (some r) m), .dat (wD (some r) m), s9, s10, .dat (nD m), s12, s13, s14, s15, .un]) (M := M4) (M0 := M4) D.int (fun e => decide (e < 0)) D.int (l := es) (v_qd (v_var rfl) (by rw [← hE]; rfl)) (by rw [lim_eq]; omega) fun e _ => ⟨_, rfl, v_tb (v_bin (v_var rfl) v_c dlt_int), fun _ => v_var rfl⟩
  have hlt2 := v_len hlt
  rw [List.length_map] at hlt2
  have hgp : gIf (gTb (gBin dGt (gVar 1) (gC (.int 0)))) (gCall φ_wipes_in (Py.gCons (gVar 6) (Py.gNil))) (gCallK φ_wipes_in [0] (Py.gCons (gVar 6) (Py.gNil))) [s0, .dat (nD t), .dat W, .lst ((ps ++ [wD (some r) m]).map twD), .dat (.loc 1), .dat (frD ws lots), .dat ED, .dat (wD (some r) m), .dat (wD (some r) m), s9, s10, .dat (nD m), s12, s13, s14, s15, .un] M4 = some (.int ((es.filter fun e => decide (e < 0)).length : Nat), M4) := by
    have hg := hgt (x7 := .dat (wD (some r) m)) (x8 := .dat (wD (some r) m)) (pl := (ps ++ [wD (some r) m]).map twD)
    by_cases ht : (0 : Int) < (t : Int)
    · rw [decide_eq_true ht] at hg
      exact v_ifT hg (v_call (v_cons (v_var rfl) v_nil) hwi)
    · rw [decide_eq_false ht] at hg
      exact v_ifF hg (v_callK (v_cons (v_var rfl) v_nil) hwi)
  have q1 := s_pair (ρ := [s0, .dat (nD t), .dat W, .lst (ps.map twD), .dat (.loc 1), .dat (frD ws lots), .dat ED, .dat (wD (some r) m), .dat (wD (some r) m), s9, s10, .dat (nD m), s12, s13, s14, s15, .un]) (M := M4) (ps := ps) (d := wD (some r) m) (ga := gVar 8) (gb := gVar 7) rfl (by simp) (v_var rfl) (v_var rfl) (by omega)
  have q2 := s_pair (ρ := [s0, .dat (nD t), .dat W, .lst ((ps ++ [wD (some r) m]).map twD), .dat (.loc 1), .dat (frD ws lots), .dat ED, .dat (wD (some r) m), .dat (wD (some r) m), s9, s10, .dat (nD m), s12, s13, s14, s15, .un]) (M := M4) (ps := ps ++ [wD (some r) m]) rfl (by simp) hgp hlt2 (by rw [List.length_append, List.length_singleton]; omega)
  have hgw : ∀ {es' : List Int}, es'.length ≤ 1000 → GB (wD (walkM lots m es') m) := fun h => good_wD h
  have hgr : GB (wD (some r) m) := by rw [← hr]; exact hgw (by omega)
  generalize hP : ps ++ [wD (some r) m] ++ [D.int ((es.filter fun e => decide (e < 0)).length : Nat)] = P at q2
  have hPl : P.length = ps.length + 2 := by rw [← hP, List.length_append, List.length_append, List.length_singleton, List.length_singleton]
  have hPg : ∀ d ∈ P, GB d := fun d hd => by
    rw [← hP] at hd
    rcases List.mem_append.mp hd with hd | hd
    · rcases List.mem_append.mp hd with hd | hd
      · exact hg d hd
      · rw [List.mem_singleton.mp hd]; exact hgr
    · rw [List.mem_singleton.mp hd]; exact good_int _
  -- the inner loop
  obtain ⟨ρ', M5, hf, P2, w9, w12, w13, w14, w15, hD, hρ, g1, g2⟩ := forL_inv (tg := gtN 9) (body := bodyL2) (fun i ρ M' => ∃ (P2 : List D) (w9 w12 w13 w14 w15 : Slot), Dl M' [] ∧ ρ = [s0, .dat (nD t), .dat W, .lst (P2.map twD), .dat (.loc 1), .dat (frD ws lots), .dat ED, .dat (wD (some r) m), .dat (wD (some r) m), w9, s10, .dat (nD m), w12, w13, w14, w15, .un] ∧ P2.length = P.length + i ∧ ∀ d ∈ P2, GB d) (l := (List.range 6).map nD) (k := 0)
    (ρ := [s0, .dat (nD t), .dat W, .lst (P.map twD), .dat (.loc 1), .dat (frD ws lots), .dat ED, .dat (wD (some r) m), .dat (wD (some r) m), s9, s10, .dat (nD m), s12, s13, s14, s15, .un]) (M := M4) ⟨P, s9, s12, s13, s14, s15, d4, rfl, rfl, hPg⟩ fun i d ρ M' hd ⟨P2, w9, w12, w13, w14, w15, hD, hρ, g1, g2⟩ => by
      subst hρ
      have hi : i < 6 := by
        have := (List.getElem?_eq_some_iff.mp hd).1
        simpa using this
      obtain ⟨x, M6, v12, v13, v14, v15, b1, b2, b3⟩ := l2_body (m := m) (s0 := s0) (s1 := .dat (nD t)) (s7 := .dat (wD (some r) m)) (s8 := .dat (wD (some r) m)) (s9 := .dat d) (s10 := s10) (s12 := w12) (s13 := w13) (s14 := w14) (s15 := w15) hD F (by omega) heok (by omega) (ps := P2) (by omega)
      rw [hW, hE] at b1
      refine ⟨_, _, M6, rfl, b1, P2 ++ [x], .dat d, v12, v13, v14, v15, b2, rfl, by rw [List.length_append, List.length_singleton]; omega, fun y hy => ?_⟩
      rcases List.mem_append.mp hy with hy | hy
      · exact g2 y hy
      · rw [List.mem_singleton.mp hy]; exact b3
  subst hρ
  rw [List.length_map, List.length_range] at g1
  have hM5 := hD.wfM
  -- the steps
  have hst := gLc_map (src := gQd (gVar 6)) (tg := gtN 16) (c := gTb (gBin dGe (gVar 16) (gC (.int 0)))) (e := gVar 16) (vs := [16]) (ρ := [s0, .dat (nD t), .dat W, .lst (P2.map twD), .dat (.loc 1), .dat (frD ws lots), .dat ED, .dat (wD (some r) m), .dat (wD (some r) m), w9, s10, .dat (nD m), w12, w13, w14, w15, .un]) (M := M5) (M0 := M5) D.int (fun e => decide (0 ≤ e)) D.int (l := es) (v_qd (v_var rfl) (by rw [← hE]; rfl)) (by rw [lim_eq]; omega) fun e _ => ⟨_, rfl, v_tb (v_bin (v_var rfl) v_c dge_int), fun _ => v_var rfl⟩
  generalize hS : es.filter (fun e => decide (0 ≤ e)) = st at hst
  have hSl : st.length ≤ 24 := by
    rw [← hS]
    exact Nat.le_trans (List.length_filter_le _ _) (by omega)
  have hSok : ∀ e ∈ st, okE n e ∧ 0 ≤ e := fun e he => by
    rw [← hS] at he
    obtain ⟨h1, h2⟩ := List.mem_filter.mp he
    exact ⟨heok e h1, of_decide_eq_true h2⟩
  have hw1 := wiped_ok (ns := (List.range n).map letterD) (ws := ws) (m := m) (es := st) (ed := .tup (st.map D.int)) hM5 F hnl (fun e he => (hSok e he).1) (by rw [lim_eq]; omega) rfl
  have hw2 := walked_ok (ns := (List.range n).map letterD) (ws := ws) (m := m) (es := st) (ed := .tup (st.map D.int)) hM5 F hSok (by rw [lim_eq]; omega) rfl
  have hw3 := wiped_ok (ns := (List.range n).map letterD) (ws := ws) (m := m) (es := []) (ed := .tup []) hM5 F hnl (fun e he => absurd he (by simp)) (by rw [lim_eq]; decide) rfl
  rw [hW] at hw1 hw2 hw3
  have q3 := s_pair (ρ := [s0, .dat (nD t), .dat W, .lst (P2.map twD), .dat (.loc 1), .dat (frD ws lots), .dat ED, .dat (wD (some r) m), .dat (wD (some r) m), w9, .dat (.tup (st.map D.int)), .dat (nD m), w12, w13, w14, w15, .un]) (M := M5) (ps := P2) (d := wD (walkM lots m st) m)
    (ga := gCall φ_wiped_walk (Py.gCons (gVar 2) (Py.gCons (gCall φ_L_bits (Py.gCons (gVar 11) (Py.gNil))) (Py.gCons (gVar 10) (Py.gNil))))) (gb := gCall φ_walked (Py.gCons (gVar 2) (Py.gCons (gCall φ_L_bits (Py.gCons (gVar 11) (Py.gNil))) (Py.gCons (gVar 10) (Py.gNil))))) rfl (by simp)
    (v_call (v_cons (v_var rfl) (v_cons (v_call (v_cons (v_var rfl) v_nil) (bits_ok hM5)) (v_cons (v_var rfl) v_nil))) hw1) (v_call (v_cons (v_var rfl) (v_cons (v_call (v_cons (v_var rfl) v_nil) (bits_ok hM5)) (v_cons (v_var rfl) v_nil))) hw2) (by omega)
  have q4 := s_pair (ρ := [s0, .dat (nD t), .dat W, .lst ((P2 ++ [wD (walkM lots m st) m]).map twD), .dat (.loc 1), .dat (frD ws lots), .dat ED, .dat (wD (some r) m), .dat (wD (some r) m), w9, .dat (.tup (st.map D.int)), .dat (nD m), w12, w13, w14, w15, .un]) (M := M5) (ps := P2 ++ [wD (walkM lots m st) m]) (d := wD (some []) m)
    (ga := gCall φ_wiped_walk (Py.gCons (gVar 2) (Py.gCons (gCall φ_L_bits (Py.gCons (gVar 11) (Py.gNil))) (Py.gCons (Py.gTup (Py.gNil)) (Py.gNil))))) (gb := Py.gTup (Py.gCons (gCall φ_L_bits (Py.gCons (gVar 11) (Py.gNil))) (Py.gNil))) rfl (by simp)
    (v_call (v_cons (v_var rfl) (v_cons (v_call (v_cons (v_var rfl) v_nil) (bits_ok hM5)) (v_cons (v_tup v_nil (Nat.zero_le _)) v_nil))) hw3) (v_tup (v_cons (v_call (v_cons (v_var rfl) v_nil) (bits_ok hM5)) v_nil) (show 1 ≤ lim by decide)) (by rw [List.length_append, List.length_singleton]; omega)
  refine ⟨P2 ++ [wD (walkM lots m st) m] ++ [wD (some []) m], M5, .dat W, .dat (frD ws lots), .dat ED, .dat (wD (some r) m), .dat (wD (some r) m), w9, .dat (.tup (st.map D.int)), .dat (nD m), w12, w13, w14, w15, s_seq p5 (s_seq p2 (s_seq p6 (s_seq p7 (s_seq p8 (s_seq q1 (s_seq q2 (s_seq (s_for (v_rg (k := 6) v_c (by decide)) hf) (s_seq (s_asg (by simp) (v_sd (v_tuple hst))) (s_seq q3 q4))))))))), hD, by rw [List.length_append, List.length_append, List.length_singleton, List.length_singleton]; omega, fun d hd => ?_⟩
  rcases List.mem_append.mp hd with hd | hd
  · rcases List.mem_append.mp hd with hd | hd
    · exact g2 d hd
    · rw [List.mem_singleton.mp hd]; exact hgw (by omega)
  · rw [List.mem_singleton.mp hd]; exact good_wD (lots := lots) (es := []) (by decide)
end Onl
namespace Onl
open PySem PySem.Spec Py
theorem plain (ns : List Int) (hl : ns.length ≤ 63) : ∃ M', φ_law [.scr (ns.map D.int)] [] = some (.bl true, M') := by
  obtain ⟨M1, e1, d1⟩ := deal_ok hl
  generalize hS0 : D.scr (ns.map D.int) = S0 at e1
  obtain ⟨ρ', M2, hf, ps, s1, s2, s5, s6, s7, s8, s9, s10, s11, s12, s13, s14, s15, hD, hρ, g1, g2⟩ := forL_inv (tg := gtN 1) (body := bodyL1) (fun i ρ M => ∃ (ps : List D) (s1 s2 s5 s6 s7 s8 s9 s10 s11 s12 s13 s14 s15 : Slot), Dl M [] ∧ ρ = [.dat S0, s1, s2, .lst (ps.map twD), .dat (.loc 1), s5, s6, s7, s8, s9, s10, s11, s12, s13, s14, s15, .un] ∧ ps.length ≤ 20 * i ∧ ∀ d ∈ ps, GB d) (l := (List.range 7).map nD) (k := 0)
    (ρ := [.dat S0, .un, .un, .lst [], .dat (.loc 1), .un, .un, .un, .un, .un, .un, .un, .un, .un, .un, .un, .un]) (M := M1) ⟨[], .un, .un, .un, .un, .un, .un, .un, .un, .un, .un, .un, .un, .un, d1, rfl, Nat.zero_le _, fun d hd => absurd hd (by simp)⟩ fun i d ρ M hd ⟨ps, s1, s2, s5, s6, s7, s8, s9, s10, s11, s12, s13, s14, s15, hD, hρ, g1, g2⟩ => by
      subst hρ
      have hi : i < 7 := by
        have := (List.getElem?_eq_some_iff.mp hd).1
        simpa using this
      have ed : d = nD i := by
        rw [List.getElem?_map, List.getElem?_range hi] at hd
        exact (Option.some.inj hd).symm
      subst ed
      obtain ⟨ps', M', u2, u5, u6, u7, u8, u9, u10, u11, u12, u13, u14, u15, b1, b2, b3, b4⟩ := l1_body (t := i) (s0 := .dat S0) (s2 := s2) (s5 := s5) (s6 := s6) (s7 := s7) (s8 := s8) (s9 := s9) (s10 := s10) (s11 := s11) (s12 := s12) (s13 := s13) (s14 := s14) (s15 := s15) hD (ps := ps) (by omega) g2
      exact ⟨_, _, M', rfl, b1, ps', .dat (nD i), u2, u5, u6, u7, u8, u9, u10, u11, u12, u13, u14, u15, b2, rfl, by omega, b4⟩
  subst hρ
  rw [List.length_map, List.length_range] at g1
  have hM := hD.wfM
  obtain ⟨r1, F, _⟩ := row_eq (ws := [1, 1, 1]) hM (by decide) (by decide)
  have hweb := web_ok hM F
  have hnl : ((List.range 3).map letterD).length = 3 := by rw [List.length_map, List.length_range]
  generalize hW : webD ((List.range 3).map letterD) [1, 1, 1] (rowLots 3) = W
  have hww : ∀ (m : Nat) (es : List Int), (∀ e ∈ es, -3 ≤ e ∧ e < 3) → es.length < 100 → φ_wiped_walk [W, bD m, .tup (es.map D.int)] M2 = some (wD (walkM (rowLots 3) m es) m, M2) := fun m es he hz => by
    rw [← hW]
    exact wiped_ok hM F hnl (fun e h => ⟨(he e h).1, (he e h).2⟩) (by rw [lim_eq]; omega) rfl
  have w1 := hww 0 [0, 1, -1, 2] (by decide) (by decide)
  have w2 := hww 0 [-1] (by decide) (by decide)
  have w3 := hww 5 [-3, 0] (by decide) (by decide)
  have w4 := hww 4 [2] (by decide) (by decide)
  have v1 : walkM (rowLots 3) 0 [0, 1, -1, 2] = some [1, 3, 2, 6] := by decide +kernel
  have v2 : walkM (rowLots 3) 0 [-1] = none := by decide +kernel
  have v3 : walkM (rowLots 3) 5 [-3, 0] = some [1, 0] := by decide +kernel
  have v4 : walkM (rowLots 3) 4 [2] = none := by decide +kernel
  have b0 : bits 0 = [] := by decide +kernel
  have b1 : bits 1 = [0] := by decide +kernel
  have b2 : bits 2 = [1] := by decide +kernel
  have b3 : bits 3 = [0, 1] := by decide +kernel
  have b4 : bits 4 = [2] := by decide +kernel
  have b5 : bits 5 = [0, 2] := by decide +kernel
  have b6 : bits 6 = [1, 2] := by decide +kernel
  have G1 : GB (wD (walkM (rowLots 3) 0 [0, 1, -1, 2]) 0) := good_wD (by decide)
  have G3 : GB (wD (walkM (rowLots 3) 5 [-3, 0]) 5) := good_wD (by decide)
  have e1' : wD (walkM (rowLots 3) 0 [0, 1, -1, 2]) 0 = .tup [.tup [], .tup [.int 0], .tup [.int 0, .int 1], .tup [.int 1], .tup [.int 1, .int 2]] := by
    rw [v1]
    show D.tup [bD 0, bD 1, bD 3, bD 2, bD 6] = _
    unfold bD
    rw [b0, b1, b3, b2, b6]
    rfl
  have e3' : wD (walkM (rowLots 3) 5 [-3, 0]) 5 = .tup [.tup [.int 0, .int 2], .tup [.int 0], .tup []] := by
    rw [v3]
    show D.tup [bD 5, bD 1, bD 0] = _
    unfold bD
    rw [b5, b1, b0]
    rfl
  have c0 : bD 0 = .tup [] := by unfold bD; rw [b0]; rfl
  have c5 : bD 5 = .tup [.int 0, .int 2] := by unfold bD; rw [b5]; rfl
  have c4 : bD 4 = .tup [.int 2] := by unfold bD; rw [b4]; rfl
  rw [e1'] at w1 G1
  rw [e3'] at w3 G3
  rw [v2] at w2
  rw [v4] at w4
  rw [c0] at w1 w2
  rw [c5] at w3
  rw [c4] at w4
  have hwi0 := wipesin_ok (es := []) (ed := .tup []) hM (by decide) rfl
  have hwi2 := wipesin_ok (es := [0, -1, 2, -3]) (ed := .tup [.int 0, .int (-1), .int 2, .int (-3)]) hM (by decide) rfl
  have z1 : ((([0, -1, 2, -3] : List Int).filter fun e => decide (e < 0)).length : Nat) = 2 := by decide
  have z0 : ((([] : List Int).filter fun e => decide (e < 0)).length : Nat) = 0 := by decide
  rw [z1] at hwi2
  rw [z0] at hwi0
  have q1 := s_pair (ρ := [.dat S0, s1, .dat W, .lst (ps.map twD), .dat (.loc 1), s5, s6, s7, s8, s9, s10, s11, s12, s13, s14, s15, .un]) (M := M2) (ps := ps) (ga := gCall φ_wiped_walk (Py.gCons (gVar 2) (Py.gCons (Py.gTup (Py.gNil)) (Py.gCons (Py.gTup (Py.gCons (gC (.int 0)) (Py.gCons (gC (.int 1)) (Py.gCons (gBin dSub (gC (.int 0)) (gC (.int 1))) (Py.gCons (gC (.int 2)) (Py.gNil)))))) (Py.gNil)))))
    (gb := Py.gTup (Py.gCons (Py.gTup (Py.gNil)) (Py.gCons (Py.gTup (Py.gCons (gC (.int 0)) (Py.gNil))) (Py.gCons (Py.gTup (Py.gCons (gC (.int 0)) (Py.gCons (gC (.int 1)) (Py.gNil)))) (Py.gCons (Py.gTup (Py.gCons (gC (.int 1)) (Py.gNil))) (Py.gCons (Py.gTup (Py.gCons (gC (.int 1)) (Py.gCons (gC (.int 2)) (Py.gNil)))) (Py.gNil))))))) rfl (by simp)
    (v_call (v_cons (v_var rfl) (v_cons (v_tup v_nil (Nat.zero_le _)) (v_cons (v_tup (v_cons v_c (v_cons v_c (v_cons (v_bin v_c v_c dsub_int) (v_cons v_c v_nil)))) (show 4 ≤ lim by decide)) v_nil))) w1)
    (v_tup (v_cons (v_tup v_nil (Nat.zero_le _)) (v_cons (v_tup (v_cons v_c v_nil) (show 1 ≤ lim by decide)) (v_cons (v_tup (v_cons v_c (v_cons v_c v_nil)) (show 2 ≤ lim by decide)) (v_cons (v_tup (v_cons v_c v_nil) (show 1 ≤ lim by decide)) (v_cons (v_tup (v_cons v_c (v_cons v_c v_nil)) (show 2 ≤ lim by decide)) v_nil))))) (show 5 ≤ lim by decide)) (by omega)
  generalize hP1 : ps ++ [D.tup [.tup [], .tup [.int 0], .tup [.int 0, .int 1], .tup [.int 1], .tup [.int 1, .int 2]]] = P1 at q1
  have l1 : P1.length = ps.length + 1 := by rw [← hP1, List.length_append, List.length_singleton]
  have q2 := s_pair (ρ := [.dat S0, s1, .dat W, .lst (P1.map twD), .dat (.loc 1), s5, s6, s7, s8, s9, s10, s11, s12, s13, s14, s15, .un]) (M := M2) (ps := P1) (d := .non) (ga := gCall φ_wiped_walk (Py.gCons (gVar 2) (Py.gCons (Py.gTup (Py.gNil)) (Py.gCons (Py.gTup (Py.gCons (gBin dSub (gC (.int 0)) (gC (.int 1))) (Py.gNil))) (Py.gNil)))))
    (gb := gC .non) rfl (by simp)
    (v_call (v_cons (v_var rfl) (v_cons (v_tup v_nil (Nat.zero_le _)) (v_cons (v_tup (v_cons (v_bin v_c v_c dsub_int) v_nil) (show 1 ≤ lim by decide)) v_nil))) w2) v_c (by omega)
  generalize hP2 : P1 ++ [D.non] = P2 at q2
  have l2 : P2.length = P1.length + 1 := by rw [← hP2, List.length_append, List.length_singleton]
  have q3 := s_pair (ρ := [.dat S0, s1, .dat W, .lst (P2.map twD), .dat (.loc 1), s5, s6, s7, s8, s9, s10, s11, s12, s13, s14, s15, .un]) (M := M2) (ps := P2) (ga := gCall φ_wiped_walk (Py.gCons (gVar 2) (Py.gCons (Py.gTup (Py.gCons (gC (.int 0)) (Py.gCons (gC (.int 2)) (Py.gNil)))) (Py.gCons (Py.gTup (Py.gCons (gBin dSub (gC (.int 0)) (gC (.int 3))) (Py.gCons (gC (.int 0)) (Py.gNil)))) (Py.gNil)))))
    (gb := Py.gTup (Py.gCons (Py.gTup (Py.gCons (gC (.int 0)) (Py.gCons (gC (.int 2)) (Py.gNil)))) (Py.gCons (Py.gTup (Py.gCons (gC (.int 0)) (Py.gNil))) (Py.gCons (Py.gTup (Py.gNil)) (Py.gNil))))) rfl (by simp)
    (v_call (v_cons (v_var rfl) (v_cons (v_tup (v_cons v_c (v_cons v_c v_nil)) (show 2 ≤ lim by decide)) (v_cons (v_tup (v_cons (v_bin v_c v_c dsub_int) (v_cons v_c v_nil)) (show 2 ≤ lim by decide)) v_nil))) w3)
    (v_tup (v_cons (v_tup (v_cons v_c (v_cons v_c v_nil)) (show 2 ≤ lim by decide)) (v_cons (v_tup (v_cons v_c v_nil) (show 1 ≤ lim by decide)) (v_cons (v_tup v_nil (Nat.zero_le _)) v_nil))) (show 3 ≤ lim by decide)) (by omega)
  generalize hP3 : P2 ++ [D.tup [.tup [.int 0, .int 2], .tup [.int 0], .tup []]] = P3 at q3
  have l3 : P3.length = P2.length + 1 := by rw [← hP3, List.length_append, List.length_singleton]
  have hgood : ∀ d ∈ P3 ++ [D.int 0, D.int 2, D.non], GB d := fun d hd => by
    rw [← hP3, ← hP2, ← hP1] at hd
    simp only [List.mem_append, List.mem_cons, List.not_mem_nil, or_false] at hd
    have hn : GB .non := ⟨1, .non, by decide⟩
    rcases hd with (((h | h) | h) | h) | h | h | h
    · exact g2 d h
    · rw [h]; exact G1
    · rw [h]; exact hn
    · rw [h]; exact G3
    · rw [h]; exact good_int _
    · rw [h]; exact good_int _
    · rw [h]; exact hn
  have hall := all_ok (ds := P3 ++ [D.int 0, D.int 2, D.non]) hM (by rw [List.length_append, lim_eq]; show P3.length + 3 ≤ _; omega) hgood
  have hcat : gFz (gCat (gOwn 3) (gLst (Py.gCons (Py.gTup (Py.gCons (gCall φ_wipes_in (Py.gCons (Py.gTup (Py.gNil)) (Py.gNil))) (Py.gCons (gC (.int 0)) (Py.gNil)))) (Py.gCons (Py.gTup (Py.gCons (gCall φ_wipes_in (Py.gCons (Py.gTup (Py.gCons (gC (.int 0)) (Py.gCons (gBin dSub (gC (.int 0)) (gC (.int 1))) (Py.gCons (gC (.int 2)) (Py.gCons (gBin dSub (gC (.int 0)) (gC (.int 3))) (Py.gNil)))))) (Py.gNil))) (Py.gCons (gC (.int 2)) (Py.gNil)))) (Py.gCons (Py.gTup (Py.gCons (gCall φ_wiped_walk (Py.gCons (gVar 2) (Py.gCons (Py.gTup (Py.gCons (gC (.int 2)) (Py.gNil))) (Py.gCons (Py.gTup (Py.gCons (gC (.int 2)) (Py.gNil))) (Py.gNil))))) (Py.gCons (gC .non) (Py.gNil)))) (Py.gNil)))))) [.dat S0, s1, .dat W, .lst (P3.map twD), .dat (.loc 1), s5, s6, s7, s8, s9, s10, s11, s12, s13, s14, s15, .un] M2 = some (.lst ((P3 ++ [D.int 0, D.int 2, D.non]).map twD), M2) := by
    rw [List.map_append]
    exact v_fz (v_cat (v_own rfl) (v_lst (v_cons (v_tup (v_cons (v_call (v_cons (v_tup v_nil (Nat.zero_le _)) v_nil) hwi0) (v_cons v_c v_nil)) (show 2 ≤ lim by decide)) (v_cons (v_tup (v_cons (v_call (v_cons (v_tup (v_cons v_c (v_cons (v_bin v_c v_c dsub_int) (v_cons v_c (v_cons (v_bin v_c v_c dsub_int) v_nil)))) (show 4 ≤ lim by decide)) v_nil) hwi2) (v_cons v_c v_nil)) (show 2 ≤ lim by decide)) (v_cons (v_tup (v_cons (v_call (v_cons (v_var rfl) (v_cons (v_tup (v_cons v_c v_nil) (show 1 ≤ lim by decide)) (v_cons (v_tup (v_cons v_c v_nil) (show 1 ≤ lim by decide)) v_nil))) w4) (v_cons v_c v_nil)) (show 2 ≤ lim by decide)) v_nil))) (show 3 ≤ lim by decide)) (by rw [List.length_map, lim_eq]; show P3.length + 3 ≤ _; omega))
  have hweb2 : gCall φ_L_web (Py.gCons (gCall φ_L_row_frame (Py.gCons (gFz (gLst (Py.gCons (gC (.int 1)) (Py.gCons (gC (.int 1)) (Py.gCons (gC (.int 1)) (Py.gNil)))))) (Py.gNil))) (Py.gNil)) [.dat S0, s1, s2, .lst (ps.map twD), .dat (.loc 1), s5, s6, s7, s8, s9, s10, s11, s12, s13, s14, s15, .un] M2 = some (W, M2) := by
    rw [← hW]
    exact v_call (v_cons (v_call (v_cons (v_fz (v_lst (v_cons v_c (v_cons v_c (v_cons v_c v_nil))) (show 3 ≤ lim by decide))) v_nil) r1) v_nil) hweb
  refine ⟨[], run_retC (ρ1 := [.dat S0, s1, .dat W, .lst (P3.map twD), .dat (.loc 1), s5, s6, s7, s8, s9, s10, s11, s12, s13, s14, s15, .un]) (M1 := M2) (d := .bl true) rfl (s_seq (s_par ⟨by simp [env0], by simp [env0]⟩ (v_sd (v_call (v_cons (v_var rfl) (v_cons v_c v_nil)) e1)) (v_sl (v_lst v_nil (Nat.zero_le _)))) (s_seq (s_for (v_rg (k := 7) v_c (by decide)) hf) (s_seq (s_asg (by simp) (v_sd hweb2)) (s_seq q1 (s_seq q2 (s_seq q3 (s_ret (v_call (v_cons hcat v_nil) hall)))))))) ?_⟩
  unfold cutR
  rw [if_pos ⟨Nat.zero_le _, rfl, rfl⟩]
  rfl
end Onl
open PySem PySem.W PySem.Calls PyProof.Rows
theorem PySem.Challenge.cw_onlyundone_k65_walks_with_wipes_holds : PySem.Challenge.rw_onlyundone_k65_walks_with_wipes.Holds := by
  w_on; o_law
  refine HandSHeadRun.head_any (r := OpenLaw.row PySem.Challenge.rw_onlyundone_k65_walks_with_wipes) (q := view (OpenLaw.row PySem.Challenge.rw_onlyundone_k65_walks_with_wipes).prog [52]) (H := Onl.hk) (ob := Onl.ob) (M := 4000) (loose := Onl.loose) (d := HandSHeadRun.topDef (OpenLaw.row PySem.Challenge.rw_onlyundone_k65_walks_with_wipes).prog 52) (kwd := []) Onl.ob_eq
    (by kernel_rfl) (fun s => by kernel_rfl) Onl.run (by kernel_rfl) (by kernel_rfl) (by kernel_rfl) (by rfl) (by first | assumption | decide +kernel) (by decide +kernel) ⟨rfl, rfl, rfl, rfl, rfl, by decide +kernel⟩ ?hw ?hc
  case hw => w_witness2
  case hc =>
    refine L2.walk_ofE (l := PySem.Challenge.rw_onlyundone_k65_walks_with_wipes) (n := 63) (k := 7) (x := "script") (CX := L2.CX0) rfl (by decide) (by kernel_rfl) ⟨rfl, by decide, by decide⟩ ?F (fun _ _ _ _ z => z)
    intro w mg fa h Y G hmg0
    obtain ⟨K, KX, c⟩ := Y
    have hmg : mg ("law" : PySem.Str) = some (.ref fa) := by
      have e : (HandSHeadRun.topDef (OpenLaw.row PySem.Challenge.rw_onlyundone_k65_walks_with_wipes).prog 52).name = ("law" : PySem.Str) := by kernel_rfl
      rw [← e]
      exact hmg0
    obtain ⟨fd, hb, hF⟩ := Onl.facts (P := (PySem.Challenge.rw_onlyundone_k65_walks_with_wipes).prog) (w := w) KX G hmg c
    exact ⟨K, fd, Py.spF K mg 1 Onl.φ_law, KX, hb, fun H a ns hl hbt hS => Py.end_ok (Onl.plain ns hl) hl hS, hF⟩
