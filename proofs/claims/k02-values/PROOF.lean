import PyProof.Rows.All
import Wide.All
import OpenK.AllK
import Wide.FinOn
import PySem.Challenge.RW_joinsay_k02_values_hold
import HandS.ForMost
import HandS.ForExc
import HandS.IsInst
import HandS.Flow
import KE.KDictKeyed
import HandS.Iter
import HandS.DictComp
import HandS.Style
import HandS.TupAny
import HandS.TupMul
import HandS.Gcd
import HandS.NoneIn
import HandS.ExcSuper
import HandS.ExcInit
import HandS.ExcField
import HandS.TryMany
import KE.KExcLine
import HandS.Head0
import HandS.HeadHook1
import HandS.HeadHook2
import HandS.Defaults
import HandS.Ends
import HandS.Zip
import KE.DataCmp
import KE.SortData
import PyProof.P3In
import HandS.More
import HandS.DictTup
section
set_option Elab.async false
set_option linter.all false
set_option maxRecDepth 100000
/-! PM1: data D, how the abstract heap bears it, states, frames, the reading dE of a function on states. -/
namespace PM
open PySem PySem.Spec L2

/-- data: immutable values, lists and dicts that nobody changes any more, shared objects by their number -/
inductive D where
  | non | bl (b : Bool) | int (i : Int) | str (x : Str)
  | tup (xs : List D) | lst (xs : List D) | dct (ks : List Key) (vs : List D)
  /-- a tuple that tuple(..) of a new list has made -/
  | ptp (xs : List D)
  /-- a dict whose keys are tuples, nested -/
  | kdt (ks vs : List D)
  | ref (n : Nat)
  /-- the script -/
  | frz (xs : List D)

/-- an object that may change -/
inductive MO where
  | lst (xs : List D) | dct (ks : List Key) (vs : List D) | kdt (ks vs : List D)

/-- a local name: a value, or an object of its own that nobody else knows -/
inductive Cell where
  | val (d : D) | own (o : MO)

structure S where
  env : List (Option Cell)
  mem : List MO

/-- an exception of an own class: its name, its fields -/
structure Exn where
  cls : Str
  fields : List (Str × D)

inductive R (α : Type) where
  | ok (a : α) (s : S)
  | err (e : Exn) (m : List MO)
  | stuck

@[reducible] def R.bind {α β : Type} : R α → (α → S → R β) → R β
  | .ok a s, f => f a s
  | .err e m, _ => .err e m
  | .stuck, _ => .stuck

abbrev KF := PySem.W.Frag
/-- the program and its world, told once -/
class PWc where
  P : Program
  w : World
variable [PWc]
mutual
def toKey : D → Option NestedKey
  | .non => some .none
  | .bl b => some (.num (if b then 1 else 0))
  | .int i => some (.num i)
  | .str x => some (.text x)
  | .tup xs => (toKeyL xs).map NestedKey.tup
  | _ => none
def toKeyL : List D → Option (List NestedKey)
  | [] => some []
  | d :: ds => match toKey d, toKeyL ds with
    | some x, some xs => some (x :: xs)
    | _, _ => none
end
abbrev KE := NestedKey × Addr × V
/-- a dict at p whose keys are tuples -/
def kdO (p : Addr) (es : List KE) : HO := .ext fun h => es.length ≤ sizeLine ∧ (p == sysModules) = false ∧ (∀ e ∈ es, e.1.depth ≤ 8) ∧ ∃ xs : List (NestedKey × Addr × Value),
  Paired (fun (e : KE) (x : NestedKey × Addr × Value) => e.1 = x.1 ∧ e.2.1 = x.2.1 ∧ RelV e.2.2 x.2.2) es xs ∧
  ∃ o es' ep, h.get? p = some o ∧ o.ExactDict ∧ o.data = .dict es' ep ∧ es'.toList = xs.map (entryOfKey (nestedKind PWc.P PWc.w)) ∧ (xs.map (·.1)).Nodup
section
variable (K : KF) (I : Addr → Prop) (H : Hp)
def ImmL (p : Addr) (xs : List V) : Prop := I p ∧ H p = some (.lst xs)
def ImmF (p : Addr) (xs : List V) : Prop := (I p ∧ Rd H p (.lst xs)) ∨
    ∃ (o : Obj) (its : Array Value) (n : Nat), K.lookup p = some o ∧ o.cls = .type "list" ∧ o.dict = none ∧ o.data = .seq its n ∧ its.size ≤ sizeLine ∧ Vals xs its.toList
def ImmT (p : Addr) (xs : List V) : Prop := (I p ∧ H p = some (.tup xs)) ∨
    ∃ (o : Obj) (its : Array Value) (n : Nat), K.lookup p = some o ∧ o.cls = .type "tuple" ∧ o.data = .seq its n ∧ its.size ≤ sizeLine ∧ Vals xs its.toList
end
theorem ImmL.sq {K : KF} {I : Addr → Prop} {H : Hp} {p : Addr} {xs : List V} (h : ImmL I H p xs) : SqL K H p xs := .inl (.inl h.2)
theorem ImmF.sq {K : KF} {I : Addr → Prop} {H : Hp} {p : Addr} {xs : List V} (h : ImmF K I H p xs) : SqL K H p xs := h.imp (fun q => q.2) id
theorem ImmT.sq {K : KF} {I : Addr → Prop} {H : Hp} {p : Addr} {xs : List V} (h : ImmT K I H p xs) : SqT K H p xs := h.imp (fun q => .inl q.2) id

mutual
inductive Rel (K : KF) (ρ : List Addr) (I : Addr → Prop) (H : Hp) : D → V → Prop
  | non : Rel K ρ I H .non .non
  | bl (b : Bool) : Rel K ρ I H (.bl b) (.bl b)
  | int (i : Int) : Rel K ρ I H (.int i) (.int i)
  | str (x : Str) : Rel K ρ I H (.str x) (.str x)
  | tup {ds : List D} {p : Addr} {xs : List V} : ImmT K I H p xs → RelL K ρ I H ds xs → Rel K ρ I H (.tup ds) (.ref p)
  | ptp {ds : List D} {p : Addr} {od : Obj} {xs : List V} : I p → H p = some (.frz od (.tup xs)) → od.dict = none → RelL K ρ I H ds xs → Rel K ρ I H (.ptp ds) (.ref p)
  | lst {ds : List D} {p : Addr} {xs : List V} : ImmL I H p xs → RelL K ρ I H ds xs → Rel K ρ I H (.lst ds) (.ref p)
  | frz {ds : List D} {p : Addr} {xs : List V} : ImmF K I H p xs → RelL K ρ I H ds xs → Rel K ρ I H (.frz ds) (.ref p)
  | dct {vs : List D} {p : Addr} {od : Obj} {kvs : List (Key × V)} : I p → H p = some (.frz od (.dK kvs)) → RelL K ρ I H vs (kvs.map (·.2)) → Rel K ρ I H (.dct (kvs.map (·.1)) vs) (.ref p)
  | kdt {ks vs : List D} {p : Addr} {od : Obj} {es : List KE} : I p → H p = some (.frz od (kdO p es)) → RelL K ρ I H ks (es.map fun e => V.ref e.2.1) → RelL K ρ I H vs (es.map (·.2.2)) → ks.map toKey = es.map (fun e => some e.1) → Rel K ρ I H (.kdt ks vs) (.ref p)
  | ref {n : Nat} {p : Addr} : ρ[n]? = some p → Rel K ρ I H (.ref n) (.ref p)
inductive RelL (K : KF) (ρ : List Addr) (I : Addr → Prop) (H : Hp) : List D → List V → Prop
  | nil : RelL K ρ I H [] []
  | cons {d : D} {v : V} {ds : List D} {vs : List V} : Rel K ρ I H d v → RelL K ρ I H ds vs → RelL K ρ I H (d :: ds) (v :: vs)
end

def ObjRel (K : KF) (ρ : List Addr) (I : Addr → Prop) (H : Hp) (p : Addr) : MO → Prop
  | .lst ds => ∃ xs, H p = some (.lst xs) ∧ RelL K ρ I H ds xs
  | .dct ks vs => ∃ kvs : List (Key × V), H p = some (.dK kvs) ∧ ks = kvs.map (·.1) ∧ RelL K ρ I H vs (kvs.map (·.2))
  | .kdt ks vs => ∃ es : List KE, H p = some (kdO p es) ∧ RelL K ρ I H ks (es.map fun e => V.ref e.2.1) ∧ RelL K ρ I H vs (es.map (·.2.2)) ∧ ks.map toKey = es.map (fun e => some e.1)

/-- the addresses of the frame's own objects -/
def Own (σ : L2.St) (e : List (Option Cell)) (p : Addr) : Prop := ∃ (i : Nat) (o : MO), e[i]? = some (some (Cell.own o)) ∧ σ[i]? = some (some (V.ref p))

structure Frm (ρ : List Addr) (I : Addr → Prop) (H : Hp) (O : Addr → Prop) (ρ' : List Addr) (I' : Addr → Prop) (H' : Hp) (O' : Addr → Prop) : Prop where
  there : ∀ p, H p ≠ none → H' p ≠ none
  keep : ∀ p o, H p = some o → p ∉ ρ → ¬ O p → H' p = some o
  pre : ∀ (n : Nat) (p : Addr), ρ[n]? = some p → ρ'[n]? = some p
  rnew : ∀ p ∈ ρ', p ∉ ρ → H p = none
  imm : ∀ p, I p → I' p
  inew : ∀ p, I' p → ¬ I p → H p = none ∨ O p
  onew : ∀ p, O' p → O p ∨ H p = none

theorem Frm.refl (ρ : List Addr) (I : Addr → Prop) (H : Hp) (O : Addr → Prop) : Frm ρ I H O ρ I H O :=
  ⟨fun _ h => h, fun _ _ h _ _ => h, fun _ _ h => h, fun _ h n => absurd h n, fun _ h => h, fun _ h n => absurd h n, fun _ h => .inl h⟩

section
variable {ρ ρ' ρ'' : List Addr} {I I' I'' : Addr → Prop} {H H' H'' : Hp} {O O' O'' : Addr → Prop}
theorem Frm.trans (a : Frm ρ I H O ρ' I' H' O') (b : Frm ρ' I' H' O' ρ'' I'' H'' O'') : Frm ρ I H O ρ'' I'' H'' O'' where
  there := fun p h => b.there p (a.there p h)
  keep := fun p o h nr no => b.keep p o (a.keep p o h nr no) (fun hr => by have := a.rnew p hr nr; rw [h] at this; cases this)
    (fun ho => by
      rcases a.onew p ho with z | z
      · exact no z
      · rw [h] at z; cases z)
  pre := fun n p h => b.pre n p (a.pre n p h)
  rnew := fun p hr nr => by
    by_cases h1 : p ∈ ρ'
    · exact a.rnew p h1 nr
    · have q := b.rnew p hr h1
      cases e : H p with
      | none => rfl
      | some o => exact absurd q (a.there p (by rw [e]; simp))
  imm := fun p h => b.imm p (a.imm p h)
  inew := fun p hi ni => by
    by_cases h1 : I' p
    · exact a.inew p h1 ni
    · rcases b.inew p hi h1 with q | q
      · left
        cases e : H p with
        | none => rfl
        | some o => exact absurd q (a.there p (by rw [e]; simp))
      · exact (a.onew p q).symm
  onew := fun p ho => by
    rcases b.onew p ho with q | q
    · exact a.onew p q
    · right
      cases e : H p with
      | none => rfl
      | some o => exact absurd q (a.there p (by rw [e]; simp))
/-- a callee's frame: nothing of the caller's own is touched -/
theorem Frm.outer (a : Frm ρ I H (fun _ => False) ρ' I' H' (fun _ => False)) (O : Addr → Prop) (hO : ∀ p, O p → H p ≠ none) : Frm ρ I H O ρ' I' H' O :=
  ⟨a.there, fun p o h nr _ => a.keep p o h nr (fun z => z), a.pre, a.rnew, a.imm, fun p h n => (a.inew p h n).imp id (fun z => z.elim), fun p h => .inl h⟩
end

section
variable {K : KF} {ρ ρ' : List Addr} {I I' : Addr → Prop} {H H' : Hp} {O O' : Addr → Prop}
theorem rd_keep {p : Addr} {u : HO} (f : Frm ρ I H O ρ' I' H' O') (nr : p ∉ ρ) (no : ¬ O p) (h : Rd H p u) : Rd H' p u := by
  rcases h with h | ⟨o, h⟩
  · exact .inl (f.keep p _ h nr no)
  · exact .inr ⟨o, f.keep p _ h nr no⟩
theorem ImmL.mono {p : Addr} {xs : List V} (f : Frm ρ I H O ρ' I' H' O') (nr : ∀ p ∈ ρ, ¬ I p) (no : ∀ p, O p → ¬ I p) (h : ImmL I H p xs) : ImmL I' H' p xs :=
  ⟨f.imm p h.1, f.keep p _ h.2 (fun z => nr p z h.1) (fun z => no p z h.1)⟩
theorem ImmF.mono {p : Addr} {xs : List V} (f : Frm ρ I H O ρ' I' H' O') (nr : ∀ p ∈ ρ, ¬ I p) (no : ∀ p, O p → ¬ I p) (h : ImmF K I H p xs) : ImmF K I' H' p xs :=
  h.imp (fun q => ⟨f.imm p q.1, rd_keep f (fun z => nr p z q.1) (fun z => no p z q.1) q.2⟩) id
theorem ImmT.mono {p : Addr} {xs : List V} (f : Frm ρ I H O ρ' I' H' O') (nr : ∀ p ∈ ρ, ¬ I p) (no : ∀ p, O p → ¬ I p) (h : ImmT K I H p xs) : ImmT K I' H' p xs :=
  h.imp (fun q => ⟨f.imm p q.1, f.keep p _ q.2 (fun z => nr p z q.1) (fun z => no p z q.1)⟩) id
mutual
theorem Rel.mono (f : Frm ρ I H O ρ' I' H' O') (nr : ∀ p ∈ ρ, ¬ I p) (no : ∀ p, O p → ¬ I p) : ∀ {d : D} {v : V}, Rel K ρ I H d v → Rel K ρ' I' H' d v
  | _, _, .non => .non
  | _, _, .bl b => .bl b
  | _, _, .int i => .int i
  | _, _, .str x => .str x
  | _, _, .tup h r => .tup (h.mono f nr no) (RelL.mono f nr no r)
  | _, _, .lst h r => .lst (h.mono f nr no) (RelL.mono f nr no r)
  | _, _, .ptp h e o r => .ptp (f.imm _ h) (f.keep _ _ e (fun z => nr _ z h) (fun z => no _ z h)) o (RelL.mono f nr no r)
  | _, _, .frz h r => .frz (h.mono f nr no) (RelL.mono f nr no r)
  | _, _, .dct h e r => .dct (f.imm _ h) (f.keep _ _ e (fun z => nr _ z h) (fun z => no _ z h)) (RelL.mono f nr no r)
  | _, _, .kdt h e r r2 k => .kdt (f.imm _ h) (f.keep _ _ e (fun z => nr _ z h) (fun z => no _ z h)) (RelL.mono f nr no r) (RelL.mono f nr no r2) k
  | _, _, .ref h => .ref (f.pre _ _ h)
theorem RelL.mono (f : Frm ρ I H O ρ' I' H' O') (nr : ∀ p ∈ ρ, ¬ I p) (no : ∀ p, O p → ¬ I p) : ∀ {ds : List D} {vs : List V}, RelL K ρ I H ds vs → RelL K ρ' I' H' ds vs
  | _, _, .nil => .nil
  | _, _, .cons a b => .cons (Rel.mono f nr no a) (RelL.mono f nr no b)
end
theorem RelL.length : ∀ {ds : List D} {vs : List V}, RelL K ρ I H ds vs → ds.length = vs.length
  | _, _, .nil => rfl
  | _, _, .cons _ b => by simp [RelL.length b]
theorem RelL.get : ∀ {ds : List D} {vs : List V} {i : Nat} {d : D}, RelL K ρ I H ds vs → ds[i]? = some d → ∃ v, vs[i]? = some v ∧ Rel K ρ I H d v
  | _, _, _, _, .nil, e => by simp at e
  | _, _, 0, _, .cons r _, e => by simp at e; subst e; exact ⟨_, rfl, r⟩
  | _, _, i + 1, d, .cons _ t, e => by
    obtain ⟨v, h1, h2⟩ := RelL.get (i := i) (d := d) t (by simpa using e)
    exact ⟨v, by simpa using h1, h2⟩
theorem RelL.getV : ∀ {ds : List D} {vs : List V} {i : Nat} {v : V}, RelL K ρ I H ds vs → vs[i]? = some v → ∃ d, ds[i]? = some d ∧ Rel K ρ I H d v
  | _, _, _, _, .nil, e => by simp at e
  | _, _, 0, _, .cons r _, e => by simp at e; subst e; exact ⟨_, rfl, r⟩
  | _, _, i + 1, v, .cons _ t, e => by
    obtain ⟨d, h1, h2⟩ := RelL.getV (i := i) (v := v) t (by simpa using e)
    exact ⟨d, by simpa using h1, h2⟩
theorem RelL.append : ∀ {ds es : List D} {vs us : List V}, RelL K ρ I H ds vs → RelL K ρ I H es us → RelL K ρ I H (ds ++ es) (vs ++ us)
  | _, _, _, _, .nil, s => s
  | _, _, _, _, .cons r t, s => .cons r (RelL.append t s)
theorem RelL.take : ∀ {ds : List D} {vs : List V} (n : Nat), RelL K ρ I H ds vs → RelL K ρ I H (ds.take n) (vs.take n)
  | _, _, 0, _ => .nil
  | _, _, _ + 1, .nil => .nil
  | _, _, n + 1, .cons r t => .cons r (RelL.take n t)
theorem RelL.drop : ∀ {ds : List D} {vs : List V} (n : Nat), RelL K ρ I H ds vs → RelL K ρ I H (ds.drop n) (vs.drop n)
  | _, _, 0, r => r
  | _, _, _ + 1, .nil => .nil
  | _, _, n + 1, .cons _ t => RelL.drop n t
theorem RelL.set {d : D} {v : V} (r : Rel K ρ I H d v) : ∀ {ds : List D} {vs : List V} (i : Nat), RelL K ρ I H ds vs → RelL K ρ I H (ds.set i d) (vs.set i v)
  | _, _, _, .nil => .nil
  | _, _, 0, .cons _ t => .cons r t
  | _, _, i + 1, .cons q t => .cons q (RelL.set r i t)
theorem RelL.reverse {ds : List D} {vs : List V} (h : RelL K ρ I H ds vs) : RelL K ρ I H ds.reverse vs.reverse := by
  induction h using RelL.rec (motive_1 := fun _ _ _ => True) with
  | nil => exact .nil
  | cons a b _ ih => simp only [List.reverse_cons]; exact RelL.append ih (.cons a .nil)
  | _ => trivial
theorem RelL.dropLast : ∀ {ds : List D} {vs : List V}, RelL K ρ I H ds vs → RelL K ρ I H ds.dropLast vs.dropLast
  | _, _, h => by
    have e := h.length
    rw [List.dropLast_eq_take, List.dropLast_eq_take, ← e]
    exact h.take _
end

end PM
end

section
set_option Elab.async false
set_option linter.all false
set_option maxRecDepth 100000
/-! PM2: states that are borne, the reading of a function on states, names, constants, operators. -/
namespace PM
open PySem PySem.Spec L2
variable [PWc]

structure MemOk (K : KF) (ρ : List Addr) (I : Addr → Prop) (H : Hp) (m : List MO) : Prop where
  len : m.length = ρ.length
  nd : ρ.Nodup
  dis : ∀ p ∈ ρ, ¬ I p
  dom : ∀ p, I p → H p ≠ none
  obj : ∀ (n : Nat) (p : Addr) (o : MO), ρ[n]? = some p → m[n]? = some o → ObjRel K ρ I H p o

structure EnvOk (K : KF) (ρ : List Addr) (I : Addr → Prop) (H : Hp) (σ : L2.St) (e : List (Option Cell)) : Prop where
  len : e.length = σ.length
  val : ∀ (i : Nat) (d : D), e[i]? = some (some (Cell.val d)) → ∃ v, σ[i]? = some (some v) ∧ Rel K ρ I H d v
  own : ∀ (i : Nat) (o : MO), e[i]? = some (some (Cell.own o)) → ∃ p, σ[i]? = some (some (V.ref p)) ∧ ObjRel K ρ I H p o ∧ ¬ I p ∧ p ∉ ρ
  sep : ∀ (i j : Nat) (o o' : MO) (p : Addr), e[i]? = some (some (Cell.own o)) → e[j]? = some (some (Cell.own o')) → σ[i]? = some (some (V.ref p)) → σ[j]? = some (some (V.ref p)) → i = j

theorem ObjRel.there {K : KF} {ρ : List Addr} {I : Addr → Prop} {H : Hp} {p : Addr} {o : MO} (h : ObjRel K ρ I H p o) : H p ≠ none := by
  cases o with
  | lst ds => obtain ⟨xs, e, _⟩ := h; rw [e]; simp
  | dct ks vs => obtain ⟨xs, e, _⟩ := h; rw [e]; simp
  | kdt ks vs => obtain ⟨xs, e, _⟩ := h; rw [e]; simp
theorem ObjRel.mono {K : KF} {ρ ρ' : List Addr} {I I' : Addr → Prop} {H H' : Hp} {O O' : Addr → Prop} (f : Frm ρ I H O ρ' I' H' O') (nr : ∀ p ∈ ρ, ¬ I p) (no : ∀ p, O p → ¬ I p)
    {p : Addr} {o : MO} (hp : H' p = H p) (h : ObjRel K ρ I H p o) : ObjRel K ρ' I' H' p o := by
  cases o with
  | lst ds => obtain ⟨xs, e, r⟩ := h; exact ⟨xs, hp.trans e, r.mono f nr no⟩
  | dct ks vs => obtain ⟨xs, e, k, r⟩ := h; exact ⟨xs, hp.trans e, k, r.mono f nr no⟩
  | kdt ks vs => obtain ⟨xs, e, r, r2, k⟩ := h; exact ⟨xs, hp.trans e, r.mono f nr no, r2.mono f nr no, k⟩
theorem MemOk.there {K : KF} {ρ : List Addr} {I : Addr → Prop} {H : Hp} {m : List MO} (M : MemOk K ρ I H m) {p : Addr} (h : p ∈ ρ) : H p ≠ none := by
  obtain ⟨n, hn, e⟩ := List.mem_iff_getElem.mp h
  have e1 : ρ[n]? = some p := by rw [List.getElem?_eq_getElem hn, e]
  have hm : n < m.length := by rw [M.len]; exact hn
  exact (M.obj n p m[n] e1 (List.getElem?_eq_getElem hm)).there
theorem EnvOk.ownI {K : KF} {ρ : List Addr} {I : Addr → Prop} {H : Hp} {σ : L2.St} {e : List (Option Cell)} (E : EnvOk K ρ I H σ e) {p : Addr} (h : Own σ e p) : H p ≠ none ∧ ¬ I p ∧ p ∉ ρ := by
  obtain ⟨i, o, h1, h2⟩ := h
  obtain ⟨q, h3, h4, h5, h6⟩ := E.own i o h1
  rw [h2] at h3
  cases h3
  exact ⟨h4.there, h5, h6⟩

/-- objects were laid anew, nothing else -/
structure Ext (I : Addr → Prop) (H : Hp) (I' : Addr → Prop) (H' : Hp) : Prop where
  keep : ∀ p o, H p = some o → H' p = some o
  imm : ∀ p, I p → I' p
  inew : ∀ p, I' p → ¬ I p → H p = none ∧ H' p ≠ none
theorem Ext.refl (I : Addr → Prop) (H : Hp) : Ext I H I H := ⟨fun _ _ h => h, fun _ h => h, fun _ h n => absurd h n⟩
theorem Ext.trans {I I' I'' : Addr → Prop} {H H' H'' : Hp} (a : Ext I H I' H') (b : Ext I' H' I'' H'') : Ext I H I'' H'' :=
  ⟨fun p o h => b.keep p o (a.keep p o h), fun p h => b.imm p (a.imm p h), fun p h n => by
    by_cases h1 : I' p
    · obtain ⟨x, y⟩ := a.inew p h1 n
      refine ⟨x, ?_⟩
      cases e : H' p with
      | none => exact absurd e y
      | some o => rw [b.keep p o e]; simp
    · obtain ⟨x, y⟩ := b.inew p h h1
      refine ⟨?_, y⟩
      cases e : H p with
      | none => rfl
      | some o => rw [a.keep p o e] at x; cases x⟩
theorem Ext.new {I : Addr → Prop} {H : Hp} {p : Addr} {o : HO} (h : H p = none) : Ext I H (fun q => I q ∨ q = p) (upd H p o) :=
  ⟨fun q u e => by rw [upd_ne (ne_of_none e h)]; exact e, fun q h => .inl h, fun q h1 h2 => by
    rcases h1 with h1 | h1
    · exact absurd h1 h2
    · subst h1; exact ⟨h, by rw [upd_same]; simp⟩⟩
/-- laid anew, and nobody's yet -/
theorem Ext.fresh {I : Addr → Prop} {H : Hp} {p : Addr} {o : HO} (h : H p = none) : Ext I H I (upd H p o) :=
  ⟨fun q u e => by rw [upd_ne (ne_of_none e h)]; exact e, fun q h => h, fun q h1 h2 => absurd h1 h2⟩
theorem Ext.frm {I I' : Addr → Prop} {H H' : Hp} (x : Ext I H I' H') (ρ : List Addr) (O : Addr → Prop) : Frm ρ I H O ρ I' H' O :=
  ⟨fun p h => by
    cases e : H p with
    | none => exact absurd e h
    | some o => rw [x.keep p o e]; simp, fun p o h _ _ => x.keep p o h, fun _ _ h => h, fun _ h n => absurd h n, x.imm, fun p h n => .inl (x.inew p h n).1, fun _ h => .inl h⟩
section
variable {K : KF} {ρ : List Addr} {I I' : Addr → Prop} {H H' : Hp} {σ : L2.St} {m : List MO} {e : List (Option Cell)}
theorem Ext.same (x : Ext I H I' H') {p : Addr} (h : H p ≠ none) : H' p = H p := by
  cases q : H p with
  | none => exact absurd q h
  | some o => exact x.keep p o q
theorem Ext.not (x : Ext I H I' H') {p : Addr} (h : H p ≠ none) (n : ¬ I p) : ¬ I' p := fun z => h (x.inew p z n).1
theorem Rel.ext (x : Ext I H I' H') (nr : ∀ p ∈ ρ, ¬ I p) {d : D} {v : V} (r : Rel K ρ I H d v) : Rel K ρ I' H' d v := r.mono (x.frm ρ fun _ => False) nr fun _ z => z.elim
theorem RelL.ext (x : Ext I H I' H') (nr : ∀ p ∈ ρ, ¬ I p) {d : List D} {v : List V} (r : RelL K ρ I H d v) : RelL K ρ I' H' d v := r.mono (x.frm ρ fun _ => False) nr fun _ z => z.elim
theorem MemOk.ext (M : MemOk K ρ I H m) (x : Ext I H I' H') : MemOk K ρ I' H' m :=
  ⟨M.len, M.nd, fun p h => x.not (M.there h) (M.dis p h), fun p h => by
    by_cases q : I p
    · rw [x.same (M.dom p q)]; exact M.dom p q
    · exact (x.inew p h q).2, fun n p o h1 h2 => by
    have q := M.obj n p o h1 h2
    exact q.mono (x.frm ρ fun _ => False) M.dis (fun _ z => z.elim) (x.same q.there)⟩
theorem EnvOk.ext (E : EnvOk K ρ I H σ e) (nr : ∀ p ∈ ρ, ¬ I p) (x : Ext I H I' H') : EnvOk K ρ I' H' σ e :=
  ⟨E.len, fun i d h => by
    obtain ⟨v, h1, h2⟩ := E.val i d h
    exact ⟨v, h1, h2.ext x nr⟩, fun i o h => by
    obtain ⟨p, h1, h2, h3, h4⟩ := E.own i o h
    exact ⟨p, h1, h2.mono (x.frm ρ fun _ => False) nr (fun _ z => z.elim) (x.same h2.there), x.not h2.there h3, h4⟩, E.sep⟩
end

/-- how an exception stands there: its class by name, the fields in its own dict -/
def ExcRel (K : KF) (mg : Str → Option Value) (ρ : List Addr) (I : Addr → Prop) (H : Hp) (x : Exn) (cls : Value) (dx : Option Addr) : Prop :=
  ∃ C, mg x.cls = some (.ref C) ∧ cls = .ref C ∧
    (x.fields = [] ∨ ∃ d fs, dx = some d ∧ ¬ I d ∧ H d = some (.xd fs) ∧ fs.map (·.1) = x.fields.map (·.1) ∧ RelL K ρ I H (x.fields.map (·.2)) (fs.map (·.2)))

section
variable {α β γ δ : Type}
abbrev PR (α β : Type) := List Addr → (Addr → Prop) → Hp → α → β → Prop
def Fin (K : KF) (mg : Str → Option Value) (W : XK) (P : PR α β) (σ : L2.St) (Q : β → Hp → Prop) (ρ : List Addr) (I : Addr → Prop) (H : Hp) (O : Addr → Prop) : R α → Prop
  | .ok a s => ∀ ρ' I' H' v, Frm ρ I H O ρ' I' H' (Own σ s.env) → MemOk K ρ' I' H' s.mem → EnvOk K ρ' I' H' σ s.env → P ρ' I' H' a v → Q v H'
  | .err x m => ∀ ρ' I' H' O' cls dx, Frm ρ I H O ρ' I' H' O' → MemOk K ρ' I' H' m → ExcRel K mg ρ' I' H' x cls dx → W cls dx H'
  | .stuck => False
variable {K : KF} {mg : Str → Option Value} {W : XK} {σ : L2.St} {ρ ρ' : List Addr} {I I' : Addr → Prop} {H H' : Hp} {O O' : Addr → Prop}
theorem Fin.rebase {P : PR α β} {Q : β → Hp → Prop} {r : R α} (f : Frm ρ I H O ρ' I' H' O') (h : Fin K mg W P σ Q ρ I H O r) : Fin K mg W P σ Q ρ' I' H' O' r := by
  cases r with
  | ok a s => exact fun ρ2 I2 H2 v g M E r => h ρ2 I2 H2 v (f.trans g) M E r
  | err x m => exact fun ρ2 I2 H2 O2 cls dx g M r => h ρ2 I2 H2 O2 cls dx (f.trans g) M r
  | stuck => exact h
/-- a first part, what it hands on -/
theorem Fin.bind {P : PR α β} {P2 : PR γ δ} {Q : β → Hp → Prop} {Q2 : δ → Hp → Prop} {r : R α} {k : α → S → R γ} (h : Fin K mg W P2 σ Q2 ρ I H O (r.bind k))
    (g : ∀ a s ρ' I' H' v, Frm ρ I H O ρ' I' H' (Own σ s.env) → MemOk K ρ' I' H' s.mem → EnvOk K ρ' I' H' σ s.env → P ρ' I' H' a v → Fin K mg W P2 σ Q2 ρ' I' H' (Own σ s.env) (k a s) → Q v H') : Fin K mg W P σ Q ρ I H O r := by
  cases r with
  | ok a s => exact fun ρ2 I2 H2 v f M E r => g a s ρ2 I2 H2 v f M E r (h.rebase f)
  | err x m => exact h
  | stuck => exact h
/-- the end of a part that lays objects anew at most -/
theorem Fin.here {P : PR α β} {Q : β → Hp → Prop} {a : α} {s : S} {v : β} (h : Fin K mg W P σ Q ρ I H (Own σ s.env) (.ok a s)) (x : Ext I H I' H') (M : MemOk K ρ I H s.mem) (E : EnvOk K ρ I H σ s.env) (r : P ρ I' H' a v) : Q v H' :=
  h ρ I' H' v (x.frm ρ _) (M.ext x) (E.ext M.dis x) r
end

/-- a start: some data stand for the names and the shared objects -/
def dG {α β : Type} (K : KF) (mg : Str → Option Value) (W : XK) (P : PR α β) (f : S → R α) : L2.St → Hp → (β → Hp → Prop) → Prop := fun σ H Q =>
  ∃ ρ I s, MemOk K ρ I H s.mem ∧ EnvOk K ρ I H σ s.env ∧ Fin K mg W P σ Q ρ I H (Own σ s.env) (f s)
abbrev dE (K : KF) (mg : Str → Option Value) (W : XK) (f : S → R D) : TE := dG K mg W (Rel K) f
abbrev dA (K : KF) (mg : Str → Option Value) (W : XK) (f : S → R (List D)) : TA := dG K mg W (RelL K) f
abbrev dT (K : KF) (mg : Str → Option Value) (W : XK) (f : S → R Bool) : TT := dG K mg W (fun _ _ _ a b => a = b) f
/-- an expression is a function on data; arguments; a test -/
abbrev PEd (X : Cx) (W : XK) (f : S → R D) (e : Expr) : Prop := PE X e (dE X.K X.mg W f)
abbrev PAd (X : Cx) (W : XK) (f : S → R (List D)) (es : List Expr) : Prop := PA X es (dA X.K X.mg W f)
abbrev PTd (X : Cx) (W : XK) (f : S → R Bool) (e : Expr) : Prop := PT X e (dT X.K X.mg W f)
abbrev PWd (X : Cx) (W : XK) (f : S → R Bool) (e : Expr) : Prop := PW X e (dT X.K X.mg W f)
theorem PE.imp {X : Cx} {e : Expr} {t t' : TE} (h : PE X e t) (i : ∀ σ H Q, t' σ H Q → t σ H Q) : PE X e t' := ⟨fun pins s σ H Q I q => h.run pins s σ H Q I (i σ H Q q)⟩
theorem PT.imp {X : Cx} {e : Expr} {t t' : TT} (h : PT X e t) (i : ∀ σ H Q, t' σ H Q → t σ H Q) : PT X e t' := ⟨fun pins s σ H Q I q => h.run pins s σ H Q I (i σ H Q q)⟩
theorem PW.imp {X : Cx} {e : Expr} {t t' : TT} (h : PW X e t) (i : ∀ σ H Q, t' σ H Q → t σ H Q) : PW X e t' := ⟨fun wh pins s σ H Q I q => h.run wh pins s σ H Q I (i σ H Q q)⟩
theorem PA.imp {X : Cx} {e : List Expr} {t t' : TA} (h : PA X e t) (i : ∀ σ H Q, t' σ H Q → t σ H Q) : PA X e t' := ⟨fun pos pins s σ H Q I q => h.run pos pins s σ H Q I (i σ H Q q)⟩

/-- hand on to a first part -/
theorem dG.bind {α β γ δ : Type} {K : KF} {mg : Str → Option Value} {W : XK} {P : PR α β} {P2 : PR γ δ} {f : S → R α} {k : α → S → R γ} {σ : L2.St} {ρ : List Addr} {I : Addr → Prop} {H : Hp} {s : S} {Q : β → Hp → Prop} {Q2 : δ → Hp → Prop}
    (M : MemOk K ρ I H s.mem) (E : EnvOk K ρ I H σ s.env) (h : Fin K mg W P2 σ Q2 ρ I H (Own σ s.env) ((f s).bind k))
    (g : ∀ a s ρ' I' H' v, MemOk K ρ' I' H' s.mem → EnvOk K ρ' I' H' σ s.env → P ρ' I' H' a v → (∀ {d : D} {v : V}, Rel K ρ I H d v → Rel K ρ' I' H' d v) → Fin K mg W P2 σ Q2 ρ' I' H' (Own σ s.env) (k a s) → Q v H') : dG K mg W P f σ H Q :=
  ⟨ρ, I, s, M, E, h.bind fun a s2 ρ' I' H' v f M2 E2 r h2 => g a s2 ρ' I' H' v M2 E2 r (fun r => r.mono f M.dis fun p o => (E.ownI o).2.1) h2⟩

/-! ### names, constants -/
def MO.toD : MO → D
  | .lst xs => .lst xs
  | .dct ks vs => .dct ks vs
  | .kdt ks vs => .kdt ks vs
/-- reading a name: an object of one's own is frozen by it -/
def eLoc (i : Nat) (s : S) : R D :=
  match s.env[i]? with
  | some (some (.val d)) => .ok d s
  | some (some (.own o)) => .ok o.toD { s with env := s.env.set i (some (.val o.toD)) }
  | _ => .stuck
def eC (d : D) (s : S) : R D := .ok d s
def eStuck {α : Type} (_ : S) : R α := .stuck

section
variable {X : Cx} {W : XK}
theorem d_const {e : Expr} {d : D} {v : V} (h : PE X e (tC v)) (r : ∀ ρ I H, Rel X.K ρ I H d v) : PEd X W (eC d) e := by
  refine PE.imp h fun σ H Q h => ?_
  obtain ⟨ρ, I, s, M, E, h⟩ := h
  exact h.here (Ext.refl I H) M E (r ρ I H)
theorem d_int {i j pos} : PEd X W (eC (.int i)) (.Constant (.int i) j pos) := d_const pe_int fun _ _ _ => .int i
theorem d_bl {b j pos} : PEd X W (eC (.bl b)) (.Constant (.bool b) j pos) := d_const pe_bl fun _ _ _ => .bl b
theorem d_non {j pos} : PEd X W (eC .non) (.Constant .none j pos) := d_const pe_non fun _ _ _ => .non
theorem d_str {x j pos} : PEd X W (eC (.str x)) (.Constant (.str x) j pos) := d_const pe_str fun _ _ _ => .str x
/-- a module's constant: it stands in the written part -/
structure GlobD (K : KF) (mg : Str → Option Value) (x : Str) (d : D) : Prop where
  ex : ∃ u v, mg x = some u ∧ RelV v u ∧ ∀ ρ I H, Rel K ρ I H d v
theorem d_glob {x : Str} {d : D} {pos : Pos} (g : GlobD X.K X.mg x d) (hg : Gl X x) (hd : (x == ("__debug__" : Str)) = false := by decide) : PEd X W (eC d) (.Name x pos) := by
  obtain ⟨u, v, h1, h2, h3⟩ := g.ex
  exact d_const (pe_glob hg h1 h2 hd) h3

/-! ### operators -/
/-- an operator that lays objects anew at most -/
def rD (K : KF) (g : D → D → Option D) : R2 := fun x y H Q => ∃ (ρ : List Addr) (I : Addr → Prop) (a b d : D), (∀ p ∈ ρ, ¬ I p) ∧ Rel K ρ I H a x ∧ Rel K ρ I H b y ∧ g a b = some d ∧
  ∀ I' H' w, Ext I H I' H' → Rel K ρ I' H' d w → Q w H'
def OpD (X : Cx) (F : Value → Value → Sem Value) (g : D → D → Option D) : Prop := OpR X F (rD X.K g)
theorem OpR.imp {F : Value → Value → Sem Value} {r r' : R2} (h : OpR X F r) (i : ∀ x y H Q, r' x y H Q → r x y H Q) : OpR X F r' :=
  fun pins s σ H x y v u Q I rx ry q => h pins s σ H x y v u Q I rx ry (i x y H Q q)
/-- by cases of the data -/
theorem OpD.by {F : Value → Value → Sem Value} {g : D → D → Option D} (h : ∀ (a b d : D), g a b = some d → ∃ g', g' a b = some d ∧ OpD X F g') : OpD X F g :=
  fun pins s σ H x y v u Q I rx ry ⟨ρ, J, a, b, d, n, ra, rb, e, q⟩ => by
    obtain ⟨g', e', h'⟩ := h a b d e
    exact h' pins s σ H x y v u Q I rx ry ⟨ρ, J, a, b, d, n, ra, rb, e', q⟩
theorem OpD.or {F : Value → Value → Sem Value} {g g' : D → D → Option D} (h : OpD X F g) (h' : OpD X F g') : OpD X F (fun a b => (g a b).or (g' a b)) :=
  OpD.by fun a b d e => by
    cases q : g a b with
    | some z => rw [q] at e; exact ⟨g, by rw [q]; exact e, h⟩
    | none => rw [q] at e; exact ⟨g', e, h'⟩
def eOp (g : D → D → Option D) (fa fb : S → R D) (s : S) : R D :=
  (fa s).bind fun a s => (fb s).bind fun b s => match g a b with
    | some d => .ok d s
    | none => .stuck
theorem tOp_d {g : D → D → Option D} {fa fb : S → R D} {σ : L2.St} {H : Hp} {Q : VK} (h : dE X.K X.mg W (eOp g fa fb) σ H Q) : tOp (rD X.K g) (dE X.K X.mg W fa) (dE X.K X.mg W fb) σ H Q := by
  obtain ⟨ρ, I, s, M, E, h⟩ := h
  refine dG.bind M E h fun a s1 ρ1 I1 H1 v M1 E1 ra _ h => ?_
  refine dG.bind M1 E1 h fun b s2 ρ2 I2 H2 u M2 E2 rb up h => ?_
  cases e : g a b with
  | none => rw [e] at h; exact h.elim
  | some d =>
    rw [e] at h
    exact ⟨ρ2, I2, a, b, d, M2.dis, up ra, rb, e, fun I' H' w x r => h.here x M2 E2 r⟩
theorem d_op {op : Operator} {g : D → D → Option D} {fa fb : S → R D} {a b : Expr} {pos : Pos} (ho : OpD X (binaryOp op) g) (ha : PEd X W fa a) (hb : PEd X W fb b) : PEd X W (eOp g fa fb) (.BinOp a op b pos) :=
  PE.imp (pe_op ho ha hb) fun _ _ _ => tOp_d
theorem d_cmp {op : CmpOp} {g : D → D → Option D} {fa fb : S → R D} {a b : Expr} {pos : Pos} (ho : OpD X (compareOp op) g) (ha : PEd X W fa a) (hb : PEd X W fb b) (hm : behindInMarks op b = false) : PEd X W (eOp g fa fb) (.Compare a [op] [b] pos) :=
  PE.imp (pe_cmpR ho ha hb hm) fun _ _ _ => tOp_d
/-- a value that is a bool -/
def eBl (f : S → R D) (s : S) : R Bool := (f s).bind fun d s => match d with
  | .bl b => .ok b s
  | _ => .stuck
theorem tTest_d {f : S → R D} {t : TE} {σ : L2.St} {H : Hp} {Q : Bool → Hp → Prop} (i : ∀ σ H Q, dE X.K X.mg W f σ H Q → t σ H Q) (h : dT X.K X.mg W (eBl f) σ H Q) : t σ H fun x H' => ∃ k, x = .bl k ∧ Q k H' := by
  obtain ⟨ρ, I, s, M, E, h⟩ := h
  refine i _ _ _ (dG.bind M E h fun a s1 ρ1 I1 H1 v M1 E1 ra _ h => ?_)
  cases a with
  | bl b => cases ra; exact ⟨b, rfl, h.here (Ext.refl I1 H1) M1 E1 rfl⟩
  | _ => exact h.elim
theorem t_cmp {op : CmpOp} {g : D → D → Option D} {fa fb : S → R D} {a b : Expr} {pos : Pos} (ho : OpD X (compareOp op) g) (ha : PEd X W fa a) (hb : PEd X W fb b) (hm : behindInMarks op b = false) : PTd X W (eBl (eOp g fa fb)) (.Compare a [op] [b] pos) :=
  PT.imp (pt_cmpR ho ha hb hm) fun _ _ _ h => tTest_d (fun _ _ _ => tOp_d) h
/-- a op b op' c -/
def eChain (g g' : D → D → Option D) (fa fb fc : S → R D) (s : S) : R D :=
  (fa s).bind fun a s => (fb s).bind fun b s => match g a b with
    | some (.bl true) => (fc s).bind fun c s => match g' b c with
      | some d => .ok d s
      | none => .stuck
    | some (.bl false) => .ok (.bl false) s
    | _ => .stuck
theorem tChain_d {g g' : D → D → Option D} {fa fb fc : S → R D} {σ : L2.St} {H : Hp} {Q : VK} (h : dE X.K X.mg W (eChain g g' fa fb fc) σ H Q) : tChain (rD X.K g) (rD X.K g') (dE X.K X.mg W fa) (dE X.K X.mg W fb) (dE X.K X.mg W fc) σ H Q := by
  obtain ⟨ρ, I, s, M, E, h⟩ := h
  refine dG.bind M E h fun a s1 ρ1 I1 H1 v M1 E1 ra _ h => ?_
  refine dG.bind M1 E1 h fun b s2 ρ2 I2 H2 u M2 E2 rb up h => ?_
  cases e : g a b with
  | none => rw [e] at h; exact h.elim
  | some d =>
    rw [e] at h
    cases d with
    | bl k =>
      refine ⟨ρ2, I2, a, b, .bl k, M2.dis, up ra, rb, e, fun I' H' w x r => ⟨k, by cases r; rfl, ?_⟩⟩
      have M3 := M2.ext x
      have E3 := E2.ext M2.dis x
      have rb3 := rb.ext x M2.dis
      cases k with
      | false => exact h.here x M2 E2 (.bl false)
      | true =>
        refine dG.bind (M := M3) (E := E3) (h.rebase (x.frm ρ2 _)) fun c s3 ρ3 I3 H3 z M4 E4 rc up h => ?_
        cases e : g' b c with
        | none => rw [e] at h; exact h.elim
        | some d => rw [e] at h; exact ⟨ρ3, I3, b, c, d, M4.dis, up rb3, rc, e, fun I' H' w x r => h.here x M4 E4 r⟩
    | _ => exact h.elim
theorem d_chain {op op' : CmpOp} {g g' : D → D → Option D} {fa fb fc : S → R D} {a b c : Expr} {pos : Pos} (ho : OpD X (compareOp op) g) (ho' : OpD X (compareOp op') g') (ha : PEd X W fa a) (hb : PEd X W fb b) (hc : PEd X W fc c)
    (hm : lastMarks [op, op'] [b, c] = false := by with_unfolding_all rfl) : PEd X W (eChain g g' fa fb fc) (.Compare a [op, op'] [b, c] pos) :=
  PE.imp (pe_chain ho ho' ha hb hc hm) fun _ _ _ => tChain_d
theorem t_chain {op op' : CmpOp} {g g' : D → D → Option D} {fa fb fc : S → R D} {a b c : Expr} {pos : Pos} (ho : OpD X (compareOp op) g) (ho' : OpD X (compareOp op') g') (ha : PEd X W fa a) (hb : PEd X W fb b) (hc : PEd X W fc c)
    (hm : lastMarks [op, op'] [b, c] = false := by with_unfolding_all rfl) : PTd X W (eBl (eChain g g' fa fb fc)) (.Compare a [op, op'] [b, c] pos) :=
  PT.imp (pt_chain ho ho' ha hb hc hm) fun _ _ _ h => tTest_d (fun _ _ _ => tChain_d) h
/-- an expression whose value is a bool, as a test -/
theorem t_val {f : S → R D} {e : Expr} (h : PEd X W f e) (he : ∀ whole, isTrue e X.env whole = (do let v ← whole; standAt e.pos; holding [v] (truthy v)) := by intro _; rfl) : PTd X W (eBl f) e :=
  PT.imp (pt_val h he) fun _ _ _ h => tTest_d (fun _ _ _ h => h) h
end
end PM
end

section
set_option Elab.async false
set_option linter.all false
set_option maxRecDepth 100000
/-! PM3: truth, and or not, displays, subscripts, calls of defs and built-ins. -/
namespace PM
open PySem PySem.Spec L2
variable [PWc]

def truthD : D → Option Bool
  | .non => some false
  | .bl b => some b
  | .int i => some (i != 0)
  | .str x => if x.length ≤ sizeLine then some ((x.length : Int) != 0) else none
  | .tup xs => some (!xs.isEmpty)
  | .lst xs => some (!xs.isEmpty)
  | _ => none
theorem RelL.isEmpty {K : KF} {ρ : List Addr} {I : Addr → Prop} {H : Hp} {ds : List D} {vs : List V} (r : RelL K ρ I H ds vs) : ds.isEmpty = vs.isEmpty := by cases r <;> rfl
theorem Rel.truth {K : KF} {ρ : List Addr} {I : Addr → Prop} {H : Hp} {d : D} {v : V} {k : Bool} (r : Rel K ρ I H d v) (h : truthD d = some k) : TruV K v H k := by
  cases r with
  | non => cases h; rfl
  | bl b => cases h; rfl
  | int i => cases h; rfl
  | str x =>
    have h : (if x.length ≤ sizeLine then some ((x.length : Int) != 0) else none) = some k := h
    split at h
    · rename_i hz; cases h; exact ⟨hz, rfl⟩
    · cases h
  | tup hi r => cases h; exact .inr (.inl ⟨_, hi.sq, by rw [r.isEmpty]⟩)
  | lst hi r => cases h; exact .inl ⟨_, hi.sq, by rw [r.isEmpty]⟩
  | _ => cases h
section
variable {X : Cx} {W : XK}
def eTr (f : S → R D) (s : S) : R Bool := (f s).bind fun d s => match truthD d with
  | some k => .ok k s
  | none => .stuck
theorem t_truth {f : S → R D} {a : Expr} (ha : PEd X W f a) (he : ∀ whole, isTrue a X.env whole = (do let v ← whole; standAt a.pos; holding [v] (truthy v)) := by intro _; rfl) : PTd X W (eTr f) a := by
  refine PT.imp (pt_truth ha he) fun σ H Q h => ?_
  obtain ⟨ρ, I, s, M, E, h⟩ := h
  refine dG.bind M E h fun d s1 ρ1 I1 H1 v M1 E1 r _ h => ?_
  cases e : truthD d with
  | none => rw [e] at h; exact h.elim
  | some k => rw [e] at h; exact ⟨k, r.truth e, h.here (Ext.refl _ _) M1 E1 rfl⟩
def eAnd (fa fb : S → R D) (s : S) : R D := (fa s).bind fun d s => match truthD d with
  | some true => fb s
  | some false => .ok d s
  | none => .stuck
def eOr (fa fb : S → R D) (s : S) : R D := (fa s).bind fun d s => match truthD d with
  | some true => .ok d s
  | some false => fb s
  | none => .stuck
def eNot (f : S → R D) (s : S) : R D := (f s).bind fun d s => match truthD d with
  | some k => .ok (.bl (!k)) s
  | none => .stuck
variable {a b : Expr} {rest : List Expr} {fa fb : S → R D} {pos : Pos}
theorem d_one {op} (h : PEd X W fa a) : PEd X W fa (.BoolOp op [a] pos) := pe_one h
theorem d_and (ha : PEd X W fa a) (hb : PEd X W fb (.BoolOp .And (b :: rest) pos)) : PEd X W (eAnd fa fb) (.BoolOp .And (a :: b :: rest) pos) := by
  refine PE.imp (pe_andT ha hb) fun σ H Q h => ?_
  obtain ⟨ρ, I, s, M, E, h⟩ := h
  refine dG.bind M E h fun d s1 ρ1 I1 H1 v M1 E1 r _ h => ?_
  cases e : truthD d with
  | none => rw [e] at h; exact h.elim
  | some k =>
    rw [e] at h
    refine ⟨k, r.truth e, ?_⟩
    cases k with
    | true => exact iteT ⟨ρ1, I1, s1, M1, E1, h⟩
    | false => exact iteF (h.here (Ext.refl _ _) M1 E1 r)
theorem d_or (ha : PEd X W fa a) (hb : PEd X W fb (.BoolOp .Or (b :: rest) pos)) : PEd X W (eOr fa fb) (.BoolOp .Or (a :: b :: rest) pos) := by
  refine PE.imp (pe_orT ha hb) fun σ H Q h => ?_
  obtain ⟨ρ, I, s, M, E, h⟩ := h
  refine dG.bind M E h fun d s1 ρ1 I1 H1 v M1 E1 r _ h => ?_
  cases e : truthD d with
  | none => rw [e] at h; exact h.elim
  | some k =>
    rw [e] at h
    refine ⟨k, r.truth e, ?_⟩
    cases k with
    | true => exact iteT (h.here (Ext.refl _ _) M1 E1 r)
    | false => exact iteF ⟨ρ1, I1, s1, M1, E1, h⟩
theorem d_not (ha : PEd X W fa a) : PEd X W (eNot fa) (.UnaryOp .Not a pos) := by
  refine PE.imp (pe_notT ha) fun σ H Q h => ?_
  obtain ⟨ρ, I, s, M, E, h⟩ := h
  refine dG.bind M E h fun d s1 ρ1 I1 H1 v M1 E1 r _ h => ?_
  cases e : truthD d with
  | none => rw [e] at h; exact h.elim
  | some k => rw [e] at h; exact ⟨k, r.truth e, h.here (Ext.refl _ _) M1 E1 (.bl _)⟩
/-! tests -/
def tAndD (fa fb : S → R Bool) (s : S) : R Bool := (fa s).bind fun k s => if k = true then fb s else .ok false s
def tOrD (fa fb : S → R Bool) (s : S) : R Bool := (fa s).bind fun k s => if k = true then .ok true s else fb s
def tNotD (fa : S → R Bool) (s : S) : R Bool := (fa s).bind fun k s => .ok (!k) s
variable {ga gb : S → R Bool}
theorem w_and1 (ha : PTd X W ga a) : PWd X W ga (.BoolOp .And [a] pos) := pw_and1 ha
theorem w_or1 (ha : PTd X W ga a) : PWd X W ga (.BoolOp .Or [a] pos) := pw_or1 ha
theorem w_and (ha : PTd X W ga a) (hb : PWd X W gb (.BoolOp .And (b :: rest) pos)) : PWd X W (tAndD ga gb) (.BoolOp .And (a :: b :: rest) pos) := by
  refine PW.imp (pw_and ha hb) fun σ H Q h => ?_
  obtain ⟨ρ, I, s, M, E, h⟩ := h
  refine dG.bind M E h fun k s1 ρ1 I1 H1 v M1 E1 r _ h => ?_
  subst r
  cases k with
  | true => exact iteT ⟨ρ1, I1, s1, M1, E1, h⟩
  | false => exact iteF (h.here (Ext.refl _ _) M1 E1 rfl)
theorem w_or (ha : PTd X W ga a) (hb : PWd X W gb (.BoolOp .Or (b :: rest) pos)) : PWd X W (tOrD ga gb) (.BoolOp .Or (a :: b :: rest) pos) := by
  refine PW.imp (pw_or ha hb) fun σ H Q h => ?_
  obtain ⟨ρ, I, s, M, E, h⟩ := h
  refine dG.bind M E h fun k s1 ρ1 I1 H1 v M1 E1 r _ h => ?_
  subst r
  cases k with
  | true => exact iteT (h.here (Ext.refl _ _) M1 E1 rfl)
  | false => exact iteF ⟨ρ1, I1, s1, M1, E1, h⟩
theorem w_pt (h : PWd X W ga a) : PTd X W ga a := h.pt
theorem t_not (ha : PTd X W ga a) : PTd X W (tNotD ga) (.UnaryOp .Not a pos) := by
  refine PT.imp (pt_not ha) fun σ H Q h => ?_
  obtain ⟨ρ, I, s, M, E, h⟩ := h
  refine dG.bind M E h fun k s1 ρ1 I1 H1 v M1 E1 r _ h => ?_
  subst r
  exact h.here (Ext.refl _ _) M1 E1 rfl
def eIf (fc : S → R Bool) (fa fb : S → R D) (s : S) : R D := (fc s).bind fun k s => if k = true then fa s else fb s
theorem d_if {c : Expr} {gc : S → R Bool} (hc : PTd X W gc c) (ha : PEd X W fa a) (hb : PEd X W fb b) : PEd X W (eIf gc fa fb) (.IfExp c a b pos) := by
  refine PE.imp (pe_ifExp hc ha hb) fun σ H Q h => ?_
  obtain ⟨ρ, I, s, M, E, h⟩ := h
  refine dG.bind M E h fun k s1 ρ1 I1 H1 v M1 E1 r _ h => ?_
  subst r
  cases k with
  | true => exact iteT ⟨ρ1, I1, s1, M1, E1, h⟩
  | false => exact iteF ⟨ρ1, I1, s1, M1, E1, h⟩

/-! ### arguments, displays -/
def aNil (s : S) : R (List D) := .ok [] s
def aCons (f : S → R D) (g : S → R (List D)) (s : S) : R (List D) := (f s).bind fun d s => (g s).bind fun ds s => .ok (d :: ds) s
variable {es : List Expr} {fs : S → R (List D)}
theorem a_nil : PAd X W aNil [] := by
  refine PA.imp pa_nil fun σ H Q h => ?_
  obtain ⟨ρ, I, s, M, E, h⟩ := h
  exact h.here (Ext.refl _ _) M E .nil
theorem a_cons (ha : PEd X W fa a) (hr : PAd X W fs es) (hs : starEach (a :: es) X.env = (false, eval a X.env) :: starEach es X.env := by rfl) : PAd X W (aCons fa fs) (a :: es) := by
  refine PA.imp (pa_cons ha hr hs) fun σ H Q h => ?_
  obtain ⟨ρ, I, s, M, E, h⟩ := h
  refine dG.bind M E h fun d s1 ρ1 I1 H1 v M1 E1 r _ h => ?_
  refine dG.bind M1 E1 h fun ds s2 ρ2 I2 H2 vs M2 E2 rs up h => ?_
  exact h.here (Ext.refl _ _) M2 E2 (.cons (up r) rs)
def few (ds : List D) : Bool := decide (ds.length ≤ sizeLine)
def eTup (fs : S → R (List D)) (s : S) : R D := (fs s).bind fun ds s => if few ds = true then .ok (.tup ds) s else .stuck
def eLst (fs : S → R (List D)) (s : S) : R D := (fs s).bind fun ds s => if few ds = true then .ok (.lst ds) s else .stuck
theorem d_tup {x1} (h : PAd X W fs es) : PEd X W (eTup fs) (.Tuple es x1 pos) := by
  refine PE.imp (pe_tup h) fun σ H Q h => ?_
  obtain ⟨ρ, I, s, M, E, h⟩ := h
  refine dG.bind M E h fun ds s1 ρ1 I1 H1 vs M1 E1 r _ h => ?_
  cases e : few ds with
  | false => rw [e] at h; exact h.elim
  | true =>
    rw [e] at h
    refine ⟨by rw [← r.length]; exact of_decide_eq_true e, fun p hp => ?_⟩
    have x : Ext I1 H1 (fun q => I1 q ∨ q = p) (upd H1 p (.tup vs)) := Ext.new hp
    exact h.here x M1 E1 (.tup (.inl ⟨.inr rfl, upd_same⟩) (r.ext x M1.dis))
theorem d_lst (h : PAd X W fs es) : PEd X W (eLst fs) (.List es pos) := by
  refine PE.imp (pe_lst h) fun σ H Q h => ?_
  obtain ⟨ρ, I, s, M, E, h⟩ := h
  refine dG.bind M E h fun ds s1 ρ1 I1 H1 vs M1 E1 r _ h => ?_
  cases e : few ds with
  | false => rw [e] at h; exact h.elim
  | true =>
    rw [e] at h
    refine ⟨by rw [← r.length]; exact of_decide_eq_true e, fun p hp => ?_⟩
    have x : Ext I1 H1 (fun q => I1 q ∨ q = p) (upd H1 p (.lst vs)) := Ext.new hp
    exact h.here x M1 E1 (.lst ⟨.inr rfl, upd_same⟩ (r.ext x M1.dis))

/-! ### subscripts -/
def IxD (X : Cx) (g : D → D → Option D) : Prop := IxR X (rD X.K g)
theorem IxD.by {g : D → D → Option D} (h : ∀ (a b d : D), g a b = some d → ∃ g', g' a b = some d ∧ IxD X g') : IxD X g :=
  fun value slice pins s σ H x y v u Q I rx ry ⟨ρ, J, a, b, d, n, ra, rb, e, q⟩ => by
    obtain ⟨g', e', h'⟩ := h a b d e
    exact h' value slice pins s σ H x y v u Q I rx ry ⟨ρ, J, a, b, d, n, ra, rb, e', q⟩
theorem d_ix {g : D → D → Option D} (hr : IxD X g) (ha : PEd X W fa a) (hb : PEd X W fb b) (hs : PlainIx b) : PEd X W (eOp g fa fb) (.Subscript a b pos) :=
  PE.imp (pe_ix hr ha hb hs) fun _ _ _ => tOp_d
theorem RelL.atI {K : KF} {ρ : List Addr} {I : Addr → Prop} {H : Hp} {ds : List D} {vs : List V} {i : Int} {d : D} (r : RelL K ρ I H ds vs) (h : atI ds i = some d) : ∃ v, atI vs i = some v ∧ Rel K ρ I H d v := by
  unfold L2.atI at *
  rw [← r.length]
  cases e : ixN ds.length i with
  | none => rw [e] at h; cases h
  | some j =>
    rw [e] at h
    obtain ⟨v, h1, h2⟩ := r.get (show ds[j]? = some d from h)
    exact ⟨v, h1, h2⟩
def ixSq (a b : D) : Option D := match a, b with
  | .tup xs, .int i => atI xs i
  | .lst xs, .int i => atI xs i
  | .frz xs, .int i => atI xs i
  | .str z, .int i => if z.length ≤ sizeLine then (atI z.cps.toList i).map fun c => .str ⟨#[c]⟩ else none
  | _, _ => none
theorem ix_sq : IxD X ixSq := by
  intro value slice pins s σ H x y v u Q I rx ry h
  obtain ⟨ρ, J, a, b, d, n, ra, rb, e, q⟩ := h
  refine ix_seq value slice pins s σ H x y v u Q I rx ry ?_
  unfold ixSq at e
  split at e
  · cases ra with
    | tup hi r =>
      cases rb
      obtain ⟨v, h1, h2⟩ := r.atI e
      exact .inr (.inl ⟨_, _, _, v, rfl, rfl, hi.sq, h1, q _ _ _ (Ext.refl _ _) h2⟩)
  · cases ra with
    | lst hi r =>
      cases rb
      obtain ⟨v, h1, h2⟩ := r.atI e
      exact .inl ⟨_, _, _, v, rfl, rfl, hi.sq, h1, q _ _ _ (Ext.refl _ _) h2⟩
  · cases ra with
    | frz hi r =>
      cases rb
      obtain ⟨v, h1, h2⟩ := r.atI e
      exact .inl ⟨_, _, _, v, rfl, rfl, hi.sq, h1, q _ _ _ (Ext.refl _ _) h2⟩
  · rename_i z i
    cases ra
    cases rb
    split at e
    · rename_i hz
      cases e2 : atI z.cps.toList i with
      | none => rw [e2] at e; cases e
      | some c => rw [e2] at e; cases e; exact .inr (.inr ⟨z, i, c, rfl, rfl, hz, e2, q _ _ _ (Ext.refl _ _) (.str _)⟩)
    · cases e
  · cases e

/-! ### calls -/
def rDl (K : KF) (g : List D → Option D) : List V → Hp → VK → Prop := fun xs H Q => ∃ (ρ : List Addr) (I : Addr → Prop) (ds : List D) (d : D), (∀ p ∈ ρ, ¬ I p) ∧ RelL K ρ I H ds xs ∧ g ds = some d ∧
  ∀ I' H' w, Ext I H I' H' → Rel K ρ I' H' d w → Q w H'
def CallD (X : Cx) (f : Value) (g : List D → Option D) : Prop := CallR X f (rDl X.K g)
theorem CallD.by {f : Value} {g : List D → Option D} (h : ∀ (ds : List D) (d : D), g ds = some d → ∃ g', g' ds = some d ∧ CallD X f g') : CallD X f g :=
  fun pins s σ H xs us Q I r ⟨ρ, J, ds, d, n, ra, e, q⟩ => by
    obtain ⟨g', e', h'⟩ := h ds d e
    exact h' pins s σ H xs us Q I r ⟨ρ, J, ds, d, n, ra, e', q⟩
def eCall (g : List D → Option D) (fs : S → R (List D)) (s : S) : R D := (fs s).bind fun ds s => match g ds with
  | some d => .ok d s
  | none => .stuck
theorem tCB_d {g : List D → Option D} {σ : L2.St} {H : Hp} {Q : VK} (h : dE X.K X.mg W (eCall g fs) σ H Q) : tCB (rDl X.K g) (dA X.K X.mg W fs) σ H Q := by
  obtain ⟨ρ, I, s, M, E, h⟩ := h
  refine dG.bind M E h fun ds s1 ρ1 I1 H1 vs M1 E1 r _ h => ?_
  cases e : g ds with
  | none => rw [e] at h; exact h.elim
  | some d => rw [e] at h; exact ⟨ρ1, I1, ds, d, M1.dis, r, e, fun I' H' w x r => h.here x M1 E1 r⟩
theorem d_callB {g : List D → Option D} {x : Str} {p : Pos} {id : String} (hc : CallD X (.builtin id) g) (hg : Gl X x) (hm : X.mg x = none) (hv : bootBuiltins x = some (.builtin id)) (ha : PAd X W fs (a :: es)) (hn : x ≠ "__name__" := by decide) (hdb : (x == ("__debug__" : Str)) = false := by decide)
    (he : starEach (a :: es) X.env = (false, eval a X.env) :: starEach es X.env := by rfl) (hpl : (backTo pos (starEach es X.env)).any (·.1) = false := by rfl) : PEd X W (eCall g fs) (.Call (.Name x p) (a :: es) [] pos) :=
  PE.imp (pe_callB hc hg hm hv ha hn hdb he hpl) fun _ _ _ => tCB_d
theorem d_callTy {g : List D → Option D} {x : Str} {p : Pos} {T : String} (hc : CallD X (.type T) g) (hg : Gl X x) (hm : X.mg x = none) (hv : bootBuiltins x = some (.type T)) (ha : PAd X W fs (a :: es)) (hn : x ≠ "__name__" := by decide) (hdb : (x == ("__debug__" : Str)) = false := by decide)
    (he : starEach (a :: es) X.env = (false, eval a X.env) :: starEach es X.env := by rfl) (hpl : (backTo pos (starEach es X.env)).any (·.1) = false := by rfl) : PEd X W (eCall g fs) (.Call (.Name x p) (a :: es) [] pos) :=
  PE.imp (pe_callTy hc hg hm hv ha hn hdb he hpl) fun _ _ _ => tCB_d

/-- what a def is on data -/
inductive Rf where
  | ok (d : D) (m : List MO) | err (e : Exn) (m : List MO) | stuck
def nobody : Addr → Prop := fun _ => False
def FinF (K : KF) (mg : Str → Option Value) (E : XK) (Q : VK) (ρ : List Addr) (I : Addr → Prop) (H : Hp) : Rf → Prop
  | .ok d m => ∀ ρ' I' H' v, Frm ρ I H nobody ρ' I' H' nobody → MemOk K ρ' I' H' m → Rel K ρ' I' H' d v → Q v H'
  | .err x m => ∀ ρ' I' H' cls dx, Frm ρ I H nobody ρ' I' H' nobody → MemOk K ρ' I' H' m → ExcRel K mg ρ' I' H' x cls dx → E cls dx H'
  | .stuck => False
def SpF (K : KF) (mg : Str → Option Value) (n : Nat) (F : List D → List MO → Rf) : Sp := fun vs H Q E => ∃ (ρ : List Addr) (I : Addr → Prop) (ds : List D) (m : List MO), MemOk K ρ I H m ∧ RelL K ρ I H ds vs ∧ ds.length = n ∧ FinF K mg E Q ρ I H (F ds m)
def eFn (F : List D → List MO → Rf) (fs : S → R (List D)) (s : S) : R D := (fs s).bind fun ds s => match F ds s.mem with
  | .ok d m => .ok d { s with mem := m }
  | .err x m => .err x m
  | .stuck => .stuck
theorem EnvOk.call {K : KF} {ρ ρ' : List Addr} {I I' : Addr → Prop} {H H' : Hp} {σ : L2.St} {e : List (Option Cell)} (E : EnvOk K ρ I H σ e) (nr : ∀ p ∈ ρ, ¬ I p) (f : Frm ρ I H nobody ρ' I' H' nobody) : EnvOk K ρ' I' H' σ e :=
  ⟨E.len, fun i d h => by
    obtain ⟨v, h1, h2⟩ := E.val i d h
    exact ⟨v, h1, h2.mono f nr fun _ z => z.elim⟩, fun i o h => by
    obtain ⟨p, h1, h2, h3, h4⟩ := E.own i o h
    have same : H' p = H p := by
      cases q : H p with
      | none => exact absurd q h2.there
      | some u => exact f.keep p u q h4 fun z => z
    exact ⟨p, h1, h2.mono f nr (fun _ z => z.elim) same, fun z => (f.inew p z h3).elim h2.there fun z => z, fun z => h2.there (f.rnew p z h4)⟩, E.sep⟩
theorem fn_here {F : List D → List MO → Rf} {K : KF} {mg : Str → Option Value} {σ : L2.St} {ρ : List Addr} {I : Addr → Prop} {H : Hp} {s : S} {ds : List D} {Q : VK} (M : MemOk K ρ I H s.mem) (E : EnvOk K ρ I H σ s.env)
    (h : Fin K mg W (Rel K) σ Q ρ I H (Own σ s.env) (match F ds s.mem with
      | .ok d m => .ok d { s with mem := m }
      | .err x m => .err x m
      | .stuck => .stuck)) : FinF K mg W Q ρ I H (F ds s.mem) := by
  have out : ∀ {ρ' I' H'}, Frm ρ I H nobody ρ' I' H' nobody → Frm ρ I H (Own σ s.env) ρ' I' H' (Own σ s.env) := fun f => f.outer _ fun p o => (E.ownI o).1
  cases e : F ds s.mem with
  | ok d m =>
    rw [e] at h
    exact fun ρ' I' H' v f M' r => h ρ' I' H' v (out f) M' (E.call M.dis f) r
  | err x m =>
    rw [e] at h
    exact fun ρ' I' H' cls dx f M' r => h ρ' I' H' (Own σ s.env) cls dx (out f) M' r
  | stuck => rw [e] at h; exact h
abbrev CXd (X : Cx) : CXT := L2.CX X.prog X.w
/-- a def that stands there: its data function, n parameters -/
structure FnD (P : Program) (w : World) (K : KF) (mg : Str → Option Value) (base : Heap) (k : Nat) (x : Str) (n : Nat) (F : List D → List MO → Rf) : Prop where
  ex : ∃ (f : Addr) (fd : FuncData) (ps : List Str), mg x = some (.ref f) ∧ ps.length = n ∧ FnOk P w K mg base (L2.CX P w) k f fd ps (SpF K mg n F) ∧ PySem.W.keepIn K (.ref f) = true ∧ Binds K fd ps []
theorem d_fn {F : List D → List MO → Rf} {k n : Nat} {x : Str} {p : Pos} (G : FnD X.prog X.w X.K X.mg X.base k x n F) (hr : Room k X.A) (hx : Passes (CXd X) X W) (hg : Gl X x) (hlen : (a :: es).length = n)
    (ha : PAd X W fs (a :: es)) (hdb : (x == ("__debug__" : Str)) = false := by decide) (he : starEach (a :: es) X.env = (false, eval a X.env) :: starEach es X.env := by rfl) (hpl : (backTo pos (starEach es X.env)).any (·.1) = false := by rfl) :
    PEd X W (eFn (fun ds m => if ds.length = n then F ds m else .stuck) fs) (.Call (.Name x p) (a :: es) [] pos) := by
  obtain ⟨f, fd, ps, hm, hl, F1, hk, hb⟩ := G.ex
  refine PE.imp (pe_call F1 hr hg hm hk hb .nil hx ha hdb he hpl) fun σ H Q h => ?_
  obtain ⟨ρ, I, s, M, E, h⟩ := h
  refine dG.bind M E h fun ds s1 ρ1 I1 H1 vs M1 E1 r _ h => ?_
  have h2 := fn_here (F := fun ds m => if ds.length = n then F ds m else .stuck) M1 E1 h
  by_cases hn : ds.length = n
  · rw [if_pos hn] at h2
    exact ⟨ρ1, I1, ds, s1.mem, M1, by rw [List.append_nil]; exact r, hn, h2⟩
  · rw [if_neg hn] at h2
    exact h2.elim
end
end PM
end

section
set_option Elab.async false
set_option linter.all false
set_option maxRecDepth 100000
/-! PM4: statements. -/
namespace PM
open PySem PySem.Spec L2
variable [PWc]

inductive Rs where
  | next (s : S) | ret (d : D) (s : S) | brk (s : S) | cont (s : S)
  | err (e : Exn) (m : List MO) | stuck

def FinS (K : KF) (mg : Str → Option Value) (W : XK) (De : Ends) (ρ : List Addr) (I : Addr → Prop) (H : Hp) (O : Addr → Prop) : Rs → Prop
  | .next s => ∀ ρ' I' H' σ', Frm ρ I H O ρ' I' H' (Own σ' s.env) → MemOk K ρ' I' H' s.mem → EnvOk K ρ' I' H' σ' s.env → De.nx σ' H'
  | .brk s => ∀ ρ' I' H' σ', Frm ρ I H O ρ' I' H' (Own σ' s.env) → MemOk K ρ' I' H' s.mem → EnvOk K ρ' I' H' σ' s.env → De.bk σ' H'
  | .cont s => ∀ ρ' I' H' σ', Frm ρ I H O ρ' I' H' (Own σ' s.env) → MemOk K ρ' I' H' s.mem → EnvOk K ρ' I' H' σ' s.env → De.ct σ' H'
  | .ret d s => ∀ ρ' I' H' O' v, Frm ρ I H O ρ' I' H' O' → MemOk K ρ' I' H' s.mem → Rel K ρ' I' H' d v → De.rt v H'
  | .err x m => ∀ ρ' I' H' O' cls dx, Frm ρ I H O ρ' I' H' O' → MemOk K ρ' I' H' m → ExcRel K mg ρ' I' H' x cls dx → W cls dx H'
  | .stuck => False
def dS (K : KF) (mg : Str → Option Value) (W : XK) (f : S → Rs) : TS := fun De σ H =>
  ∃ ρ I s, MemOk K ρ I H s.mem ∧ EnvOk K ρ I H σ s.env ∧ FinS K mg W De ρ I H (Own σ s.env) (f s)
abbrev PSd (X : Cx) (W : XK) (f : S → Rs) (st : Stmt) : Prop := PS X st (dS X.K X.mg W f)
abbrev PSsd (X : Cx) (W : XK) (f : S → Rs) (st : List Stmt) : Prop := PSs X st (dS X.K X.mg W f)
theorem PS.imp {X : Cx} {st : Stmt} {t t' : TS} (h : PS X st t) (i : ∀ De σ H, t' De σ H → t De σ H) : PS X st t' := ⟨fun pins s σ H De I q => h.run pins s σ H De I (i De σ H q)⟩
theorem PSs.imp {X : Cx} {st : List Stmt} {t t' : TS} (h : PSs X st t) (i : ∀ De σ H, t' De σ H → t De σ H) : PSs X st t' := ⟨fun pins s σ H De I q => h.run pins s σ H De I (i De σ H q)⟩

/-- an expression's end within a statement -/
@[reducible] def R.stm {α : Type} : R α → (α → S → Rs) → Rs
  | .ok a s, f => f a s
  | .err e m, _ => .err e m
  | .stuck, _ => .stuck
section
variable {K : KF} {mg : Str → Option Value} {W : XK} {De : Ends} {ρ ρ' : List Addr} {I I' : Addr → Prop} {H H' : Hp} {O O' : Addr → Prop}
theorem FinS.rebase {r : Rs} (f : Frm ρ I H O ρ' I' H' O') (h : FinS K mg W De ρ I H O r) : FinS K mg W De ρ' I' H' O' r := by
  cases r with
  | next s => exact fun ρ2 I2 H2 σ2 g M E => h ρ2 I2 H2 σ2 (f.trans g) M E
  | brk s => exact fun ρ2 I2 H2 σ2 g M E => h ρ2 I2 H2 σ2 (f.trans g) M E
  | cont s => exact fun ρ2 I2 H2 σ2 g M E => h ρ2 I2 H2 σ2 (f.trans g) M E
  | ret d s => exact fun ρ2 I2 H2 O2 v g M r => h ρ2 I2 H2 O2 v (f.trans g) M r
  | err x m => exact fun ρ2 I2 H2 O2 cls dx g M r => h ρ2 I2 H2 O2 cls dx (f.trans g) M r
  | stuck => exact h
/-- a statement begins with an expression -/
theorem dG.stm {α β : Type} {P : PR α β} {f : S → R α} {k : α → S → Rs} {σ : L2.St} {s : S} {Q : β → Hp → Prop} (M : MemOk K ρ I H s.mem) (E : EnvOk K ρ I H σ s.env) (h : FinS K mg W De ρ I H (Own σ s.env) ((f s).stm k))
    (g : ∀ a s2 ρ' I' H' v, Frm ρ I H (Own σ s.env) ρ' I' H' (Own σ s2.env) → MemOk K ρ' I' H' s2.mem → EnvOk K ρ' I' H' σ s2.env → P ρ' I' H' a v → FinS K mg W De ρ' I' H' (Own σ s2.env) (k a s2) → Q v H') : dG K mg W P f σ H Q := by
  refine ⟨ρ, I, s, M, E, ?_⟩
  cases e : f s with
  | ok a s2 => rw [e] at h; exact fun ρ2 I2 H2 v f M2 E2 r => g a s2 ρ2 I2 H2 v f M2 E2 r (h.rebase f)
  | err x m => rw [e] at h; exact h
  | stuck => rw [e] at h; exact h
theorem FinS.next {s : S} {σ : L2.St} (h : FinS K mg W De ρ I H (Own σ s.env) (.next s)) (M : MemOk K ρ I H s.mem) (E : EnvOk K ρ I H σ s.env) : De.nx σ H := h ρ I H σ (Frm.refl ρ I H _) M E
end

section
variable {X : Cx} {W : XK} {st : Stmt} {rest : List Stmt} {f g : S → Rs} {fe : S → R D} {e : Expr} {pos : Pos}
def sSeq (f g : S → Rs) (s : S) : Rs := match f s with
  | .next s => g s
  | r => r
def sNil (s : S) : Rs := .next s
theorem s_nil : PSsd X W sNil [] := PSs.imp pss_nil fun De σ H ⟨ρ, I, s, M, E, h⟩ => h.next M E
theorem dS_seq {De : Ends} {σ : L2.St} {H : Hp} (h : dS X.K X.mg W (sSeq f g) De σ H) : dS X.K X.mg W f { De with nx := dS X.K X.mg W g De } σ H := by
  obtain ⟨ρ, I, s, M, E, h⟩ := h
  refine ⟨ρ, I, s, M, E, ?_⟩
  unfold sSeq at h
  cases e : f s with
  | next s2 => rw [e] at h; exact fun ρ2 I2 H2 σ2 fr M2 E2 => ⟨ρ2, I2, s2, M2, E2, h.rebase fr⟩
  | ret d s2 => rw [e] at h; exact h
  | brk s2 => rw [e] at h; exact h
  | cont s2 => rw [e] at h; exact h
  | err x m => rw [e] at h; exact h
  | stuck => rw [e] at h; exact h
theorem s_cons (h1 : PSd X W f st) (h2 : PSsd X W g rest) : PSsd X W (sSeq f g) (st :: rest) := PSs.imp (pss_cons h1 h2) fun De σ H h => dS_seq h
theorem s_one (h1 : PSd X W f st) : PSsd X W f [st] := pss_one h1
def sPass (s : S) : Rs := .next s
def sBreak (s : S) : Rs := .brk s
def sCont (s : S) : Rs := .cont s
theorem s_pass : PSd X W sPass (.Pass pos) := PS.imp ps_pass fun De σ H ⟨ρ, I, s, M, E, h⟩ => h.next M E
theorem s_break : PSd X W sBreak (.Break pos) := PS.imp ps_break fun De σ H ⟨ρ, I, s, M, E, h⟩ => h ρ I H σ (Frm.refl ρ I H _) M E
theorem s_cont : PSd X W sCont (.Continue pos) := PS.imp ps_continue fun De σ H ⟨ρ, I, s, M, E, h⟩ => h ρ I H σ (Frm.refl ρ I H _) M E
def sExpr (fe : S → R D) (s : S) : Rs := (fe s).stm fun _ s => .next s
theorem s_expr (he : PEd X W fe e) (hs : swapsWith e none pos.line X.env = pure false := by rfl) : PSd X W (sExpr fe) (.Expr e pos) :=
  PS.imp (ps_expr he hs) fun De σ H ⟨ρ, I, s, M, E, h⟩ => dG.stm M E h fun a s2 ρ' I' H' v fr M2 E2 r h => h.next M2 E2
def sRet (fe : S → R D) (s : S) : Rs := (fe s).stm fun d s => .ret d s
theorem s_ret (he : PEd X W fe e) : PSd X W (sRet fe) (.Return (some e) pos) :=
  PS.imp (ps_ret he) fun De σ H ⟨ρ, I, s, M, E, h⟩ => dG.stm M E h fun a s2 ρ' I' H' v fr M2 E2 r h => h ρ' I' H' _ v (Frm.refl ρ' I' H' _) M2 r
def sRetN (s : S) : Rs := .ret .non s
theorem s_retN : PSd X W sRetN (.Return none pos) :=
  PS.imp ps_retN fun De σ H ⟨ρ, I, s, M, E, h⟩ => h ρ I H _ .non (Frm.refl ρ I H _) M .non
def sIf (fc : S → R Bool) (f g : S → Rs) (s : S) : Rs := (fc s).stm fun b s => if b = true then f s else g s
theorem s_if {c : Expr} {a b : List Stmt} {fc : S → R Bool} (hc : PTd X W fc c) (ha : PSsd X W f a) (hb : PSsd X W g b) : PSd X W (sIf fc f g) (.If c a b pos) :=
  PS.imp (ps_if hc ha hb) fun De σ H ⟨ρ, I, s, M, E, h⟩ => dG.stm M E h fun b s2 ρ' I' H' v fr M2 E2 r h => by
    subst r
    cases b with
    | true => exact iteT ⟨ρ', I', s2, M2, E2, h⟩
    | false => exact iteF ⟨ρ', I', s2, M2, E2, h⟩

/-! ### names -/
theorem Own.set {σ : L2.St} {e : List (Option Cell)} {i : Nat} {v : V} {d : D} {p : Addr} (h : Own (σ.set i (some v)) (e.set i (some (.val d))) p) : Own σ e p := by
  obtain ⟨j, u, a, b⟩ := h
  by_cases hj : i = j
  · subst hj
    by_cases hl : i < e.length
    · rw [List.getElem?_set_self hl] at a; cases a
    · rw [List.getElem?_eq_none (by rw [List.length_set]; omega)] at a; cases a
  · rw [List.getElem?_set_ne hj] at a b; exact ⟨j, u, a, b⟩
theorem EnvOk.set {K : KF} {ρ : List Addr} {I : Addr → Prop} {H : Hp} {σ : L2.St} {e : List (Option Cell)} {i : Nat} {v : V} {d : D} (E : EnvOk K ρ I H σ e) (r : Rel K ρ I H d v) : EnvOk K ρ I H (σ.set i (some v)) (e.set i (some (.val d))) := by
  refine ⟨by rw [List.length_set, List.length_set]; exact E.len, fun j d' a => ?_, fun j u a => ?_, fun j k u u' q a b c c' => ?_⟩
  · by_cases hj : i = j
    · subst hj
      have hl : i < e.length := by
        by_cases hl : i < e.length
        · exact hl
        · rw [List.getElem?_eq_none (by rw [List.length_set]; omega)] at a; cases a
      rw [List.getElem?_set_self hl] at a
      cases a
      exact ⟨v, List.getElem?_set_self (by rw [← E.len]; exact hl), r⟩
    · rw [List.getElem?_set_ne hj] at a ⊢; exact E.val j d' a
  · by_cases hj : i = j
    · subst hj
      by_cases hl : i < e.length
      · rw [List.getElem?_set_self hl] at a; cases a
      · rw [List.getElem?_eq_none (by rw [List.length_set]; omega)] at a; cases a
    · rw [List.getElem?_set_ne hj] at a ⊢; exact E.own j u a
  · have ne : ∀ {k : Nat} {u : MO}, (e.set i (some (.val d)))[k]? = some (some (.own u)) → i ≠ k := fun {k u} a z => by
      subst z
      by_cases hl : i < e.length
      · rw [List.getElem?_set_self hl] at a; cases a
      · rw [List.getElem?_eq_none (by rw [List.length_set]; omega)] at a; cases a
    have h1 := ne a
    have h2 := ne b
    rw [List.getElem?_set_ne h1] at a c
    rw [List.getElem?_set_ne h2] at b c'
    exact E.sep j k u u' q a b c c'
def S.set (s : S) (i : Nat) (d : D) : S := { s with env := s.env.set i (some (.val d)) }
theorem FinS.set {K : KF} {mg : Str → Option Value} {De : Ends} {ρ : List Addr} {I : Addr → Prop} {H : Hp} {σ : L2.St} {s : S} {i : Nat} {d : D} {v : V} (h : FinS K mg W De ρ I H (Own σ s.env) (.next (s.set i d))) (M : MemOk K ρ I H s.mem) (E : EnvOk K ρ I H σ s.env) (r : Rel K ρ I H d v) :
    De.nx (σ.set i (some v)) H :=
  h ρ I H _ ⟨fun _ h => h, fun _ _ h _ _ => h, fun _ _ h => h, fun _ h n => absurd h n, fun _ h => h, fun _ h n => absurd h n, fun p h => .inl (Own.set h)⟩ M (E.set r)
def sSet (i : Nat) (fe : S → R D) (s : S) : Rs := (fe s).stm fun d s => .next (s.set i d)
theorem s_set {i : Nat} {x : Str} {pos' : Pos} (hN : X.N.Nodup) (hi : X.N[i]? = some x) (hx : Loc X.env.scope x) (he : PEd X W fe e) (hs : swapsWith e (some (.Name x pos')) pos.line X.env = pure false := by rfl) (hf : X.fn x = true ∨ X.env.scope.names.lookup x = some .local := by first | exact .inl rfl | exact .inr rfl | assumption) :
    PSd X W (sSet i fe) (.Assign [.Name x pos'] e pos) :=
  PS.imp (ps_set hN hi hx he hs hf) fun De σ H ⟨ρ, I, s, M, E, h⟩ => dG.stm M E h fun d s2 ρ' I' H' v fr M2 E2 r h => h.set M2 E2 r

/-! ### targets -/
/-- a target: what it makes of a value -/
def FinG (K : KF) (Q : L2.St → Hp → Prop) (ρ : List Addr) (I : Addr → Prop) (H : Hp) (O : Addr → Prop) : Option S → Prop
  | some s => ∀ ρ' I' H' σ', Frm ρ I H O ρ' I' H' (Own σ' s.env) → MemOk K ρ' I' H' s.mem → EnvOk K ρ' I' H' σ' s.env → Q σ' H'
  | none => False
def dTg (K : KF) (f : D → S → Option S) : TG := fun v σ H Q => ∃ ρ I s d, MemOk K ρ I H s.mem ∧ EnvOk K ρ I H σ s.env ∧ Rel K ρ I H d v ∧ FinG K Q ρ I H (Own σ s.env) (f d s)
def dTgs (K : KF) (f : List D → S → Option S) : TGs := fun vs σ H Q => ∃ ρ I s ds, MemOk K ρ I H s.mem ∧ EnvOk K ρ I H σ s.env ∧ RelL K ρ I H ds vs ∧ FinG K Q ρ I H (Own σ s.env) (f ds s)
abbrev PGd (X : Cx) (f : D → S → Option S) (t : Expr) : Prop := PG X t (dTg X.K f)
abbrev PGsd (X : Cx) (f : List D → S → Option S) (ts : List Expr) : Prop := PGs X ts (dTgs X.K f)
theorem PG.imp {t : Expr} {u u' : TG} (h : PG X t u) (i : ∀ v σ H Q, u' v σ H Q → u v σ H Q) : PG X t u' := ⟨fun pins s σ H v x Q I r q => h.run pins s σ H v x Q I r (i v σ H Q q)⟩
theorem PGs.imp {t : List Expr} {u u' : TGs} (h : PGs X t u) (i : ∀ v σ H Q, u' v σ H Q → u v σ H Q) : PGs X t u' := ⟨fun pins s σ H v x Q I r q => h.run pins s σ H v x Q I r (i v σ H Q q)⟩
theorem FinG.rebase {K : KF} {Q : L2.St → Hp → Prop} {ρ ρ' : List Addr} {I I' : Addr → Prop} {H H' : Hp} {O O' : Addr → Prop} {r : Option S} (f : Frm ρ I H O ρ' I' H' O') (h : FinG K Q ρ I H O r) : FinG K Q ρ' I' H' O' r := by
  cases r with
  | some s => exact fun ρ2 I2 H2 σ2 g M E => h ρ2 I2 H2 σ2 (f.trans g) M E
  | none => exact h
def gNm (i : Nat) (d : D) (s : S) : Option S := some (s.set i d)
theorem FinG.set {K : KF} {Q : L2.St → Hp → Prop} {ρ : List Addr} {I : Addr → Prop} {H : Hp} {σ : L2.St} {s : S} {i : Nat} {d : D} {v : V} (h : FinG K Q ρ I H (Own σ s.env) (some (s.set i d))) (M : MemOk K ρ I H s.mem) (E : EnvOk K ρ I H σ s.env) (r : Rel K ρ I H d v) : Q (σ.set i (some v)) H :=
  h ρ I H _ ⟨fun _ h => h, fun _ _ h _ _ => h, fun _ _ h => h, fun _ h n => absurd h n, fun _ h => h, fun _ h n => absurd h n, fun p h => .inl (Own.set h)⟩ M (E.set r)
theorem g_name {i : Nat} {x : Str} (hN : X.N.Nodup) (hi : X.N[i]? = some x) (hx : Loc X.env.scope x) (hf : X.fn x = true ∨ X.env.scope.names.lookup x = some .local := by first | exact .inl rfl | exact .inr rfl | assumption) : PGd X (gNm i) (.Name x pos) :=
  PG.imp (pg_name hN hi hx hf) fun v σ H Q ⟨ρ, I, s, d, M, E, r, h⟩ => h.set M E r
def gNil (ds : List D) (s : S) : Option S := match ds with
  | [] => some s
  | _ => none
def gCons (f : D → S → Option S) (g : List D → S → Option S) (ds : List D) (s : S) : Option S := match ds with
  | d :: ds => match f d s with
    | some s => g ds s
    | none => none
  | _ => none
theorem gs_nil : PGsd X gNil [] := PGs.imp pgs_nil fun vs σ H Q ⟨ρ, I, s, ds, M, E, r, h⟩ => by
  cases r with
  | nil => exact ⟨rfl, h ρ I H σ (Frm.refl ρ I H _) M E⟩
  | cons _ _ => exact h.elim
theorem gs_cons {t : Expr} {ts : List Expr} {f : D → S → Option S} {g : List D → S → Option S} (h1 : PGd X f t) (h2 : PGsd X g ts) (hs : (assignEach (t :: ts) X.env).map (·.2) = assign t X.env :: (assignEach ts X.env).map (·.2) := by rfl) : PGsd X (gCons f g) (t :: ts) :=
  PGs.imp (pgs_cons h1 h2 hs) fun vs σ H Q ⟨ρ, I, s, ds, M, E, r, h⟩ => by
    cases r with
    | nil => exact h.elim
    | @cons d v ds vs a b =>
      refine ⟨v, vs, rfl, ρ, I, s, d, M, E, a, ?_⟩
      have h : FinG X.K Q ρ I H (Own σ s.env) (match f d s with
        | some s => g ds s
        | none => none) := h
      cases e : f d s with
      | none => rw [e] at h; exact h.elim
      | some s2 =>
        rw [e] at h
        exact fun ρ2 I2 H2 σ2 fr M2 E2 => ⟨ρ2, I2, s2, ds, M2, E2, b.mono fr M.dis (fun p o => (E.ownI o).2.1), h.rebase fr⟩
/-- (a, b, ..): a tuple of that length -/
def gTp (n : Nat) (g : List D → S → Option S) (d : D) (s : S) : Option S := match d with
  | .tup ds => if ds.length = n then g ds s else none
  | _ => none
theorem g_tup {ts : List Expr} {k : Nat} {g : List D → S → Option S} {n : Nat} (hc : X.calm = true) (h : PGsd X g ts) (hn : (assignEach ts X.env).length = n := by rfl) (hst : (assignEach ts X.env).findIdx? (·.1) = none := by rfl) : PGd X (gTp n g) (.Tuple ts k pos) :=
  PG.imp (pg_tup hc h hn hst) fun v σ H Q ⟨ρ, I, s, d, M, E, r, h⟩ => by
    cases r with
    | @tup ds p xs hi r =>
      have h : FinG X.K Q ρ I H (Own σ s.env) (if ds.length = n then g ds s else none) := h
      by_cases hl : ds.length = n
      · rw [if_pos hl] at h
        exact ⟨p, xs, rfl, hi.sq, by rw [← r.length]; exact hl, ρ, I, s, ds, M, E, r, h⟩
      · rw [if_neg hl] at h; exact h.elim
    | _ => exact h.elim
def sAsg (fe : S → R D) (g : D → S → Option S) (s : S) : Rs := (fe s).stm fun d s => match g d s with
  | some s => .next s
  | none => .stuck
theorem s_asg {t : Expr} {g : D → S → Option S} (he : PEd X W fe e) (hg : PGd X g t) (hs : swapsWithSole [t] e pos.line X.env = pure false := by rfl) (hw : swappedStores [t] e X.env = pure none := by rfl) (h1 : (assignEach [t] X.env).map (·.2) = [assign t X.env] := by rfl) : PSd X W (sAsg fe g) (.Assign [t] e pos) :=
  PS.imp (ps_asg he hg hs hw h1) fun De σ H ⟨ρ, I, s, M, E, h⟩ => dG.stm M E h fun d s2 ρ' I' H' v fr M2 E2 r h => by
    refine ⟨ρ', I', s2, d, M2, E2, r, ?_⟩
    cases e : g d s2 with
    | none => rw [e] at h; exact h.elim
    | some s3 => rw [e] at h; exact h
/-- a, b = x, y: two local names -/
def sPar (i j : Nat) (fs : S → R (List D)) (s : S) : Rs := (fs s).stm fun ds s => match ds with
  | [d, e] => .next ((s.set i d).set j e)
  | _ => .stuck
theorem s_par {i j : Nat} {x y : Str} {a b : Expr} {fs : S → R (List D)} {px py pt : Pos} {kt k2 pt2} (hc : X.calm = true) (hN : X.N.Nodup) (hi : X.N[i]? = some x) (hj : X.N[j]? = some y) (hij : i ≠ j)
    (hx : X.env.scope.names.lookup x = some .local) (hy : X.env.scope.names.lookup y = some .local) (ha : PAd X W fs [a, b])
    (hw : swappedStores [.Tuple [.Name x px, .Name y py] kt pt] (.Tuple [a, b] k2 pt2) X.env = pure (some [x, y]))
    (hs : swapsWithSole [.Tuple [.Name x px, .Name y py] kt pt] (.Tuple [a, b] k2 pt2) pos.line X.env = pure false := by rfl) :
    PSd X W (sPar i j fs) (.Assign [.Tuple [.Name x px, .Name y py] kt pt] (.Tuple [a, b] k2 pt2) pos) :=
  PS.imp (ps_par hc hN hi hj hij hx hy ha hw hs) fun De σ H ⟨ρ, I, s, M, E, h⟩ => dG.stm M E h fun ds s2 ρ' I' H' vs fr M2 E2 r h => by
    cases r with
    | nil => exact h.elim
    | cons r1 r =>
      cases r with
      | nil => exact h.elim
      | cons r2 r =>
        cases r with
        | nil =>
          refine ⟨_, _, rfl, ?_⟩
          exact h ρ' I' H' _ ⟨fun _ h => h, fun _ _ h _ _ => h, fun _ _ h => h, fun _ h n => absurd h n, fun _ h => h, fun _ h n => absurd h n, fun p h => .inl (Own.set (Own.set h))⟩ M2 ((E2.set r1).set r2)
        | cons _ _ => exact h.elim
end
end PM
end

section
set_option Elab.async false
set_option linter.all false
set_option maxRecDepth 100000
/-! PM5: while, for, comprehensions, a def. -/
namespace PM
open PySem PySem.Spec L2
variable [PWc]

/-- a later state: what cannot change has not -/
structure Lat (ρ : List Addr) (I : Addr → Prop) (H : Hp) (ρ' : List Addr) (I' : Addr → Prop) (H' : Hp) : Prop where
  imm : ∀ p, I p → I' p
  same : ∀ p o, I p → H p = some o → H' p = some o
  pre : ∀ (n : Nat) (p : Addr), ρ[n]? = some p → ρ'[n]? = some p
theorem Lat.refl (ρ : List Addr) (I : Addr → Prop) (H : Hp) : Lat ρ I H ρ I H := ⟨fun _ h => h, fun _ _ _ h => h, fun _ _ h => h⟩
section
variable {K : KF} {ρ ρ' ρ'' : List Addr} {I I' I'' : Addr → Prop} {H H' H'' : Hp} {O O' : Addr → Prop}
theorem Lat.trans (a : Lat ρ I H ρ' I' H') (b : Lat ρ' I' H' ρ'' I'' H'') : Lat ρ I H ρ'' I'' H'' :=
  ⟨fun p h => b.imm p (a.imm p h), fun p o h e => b.same p o (a.imm p h) (a.same p o h e), fun n p h => b.pre n p (a.pre n p h)⟩
theorem Frm.lat (f : Frm ρ I H O ρ' I' H' O') (nr : ∀ p ∈ ρ, ¬ I p) (no : ∀ p, O p → ¬ I p) : Lat ρ I H ρ' I' H' :=
  ⟨f.imm, fun p o h e => f.keep p o e (fun z => nr p z h) fun z => no p z h, f.pre⟩
theorem Ext.lat (x : Ext I H I' H') (ρ : List Addr) : Lat ρ I H ρ I' H' := ⟨x.imm, fun p o _ e => x.keep p o e, fun _ _ h => h⟩
theorem ImmL.lat {p : Addr} {xs : List V} (f : Lat ρ I H ρ' I' H') (h : ImmL I H p xs) : ImmL I' H' p xs := ⟨f.imm p h.1, f.same p _ h.1 h.2⟩
theorem ImmF.lat {p : Addr} {xs : List V} (f : Lat ρ I H ρ' I' H') (h : ImmF K I H p xs) : ImmF K I' H' p xs :=
  h.imp (fun q => ⟨f.imm p q.1, by
    rcases q.2 with h | ⟨o, h⟩
    · exact .inl (f.same p _ q.1 h)
    · exact .inr ⟨o, f.same p _ q.1 h⟩⟩) id
theorem ImmT.lat {p : Addr} {xs : List V} (f : Lat ρ I H ρ' I' H') (h : ImmT K I H p xs) : ImmT K I' H' p xs := h.imp (fun q => ⟨f.imm p q.1, f.same p _ q.1 q.2⟩) id
mutual
theorem Rel.lat (f : Lat ρ I H ρ' I' H') : ∀ {d : D} {v : V}, Rel K ρ I H d v → Rel K ρ' I' H' d v
  | _, _, .non => .non
  | _, _, .bl b => .bl b
  | _, _, .int i => .int i
  | _, _, .str x => .str x
  | _, _, .tup h r => .tup (h.lat f) (RelL.lat f r)
  | _, _, .lst h r => .lst (h.lat f) (RelL.lat f r)
  | _, _, .ptp h e o r => .ptp (f.imm _ h) (f.same _ _ h e) o (RelL.lat f r)
  | _, _, .frz h r => .frz (h.lat f) (RelL.lat f r)
  | _, _, .dct h e r => .dct (f.imm _ h) (f.same _ _ h e) (RelL.lat f r)
  | _, _, .kdt h e r r2 k => .kdt (f.imm _ h) (f.same _ _ h e) (RelL.lat f r) (RelL.lat f r2) k
  | _, _, .ref h => .ref (f.pre _ _ h)
theorem RelL.lat (f : Lat ρ I H ρ' I' H') : ∀ {ds : List D} {vs : List V}, RelL K ρ I H ds vs → RelL K ρ' I' H' ds vs
  | _, _, .nil => .nil
  | _, _, .cons a b => .cons (Rel.lat f a) (RelL.lat f b)
end
end

/-- an iterator hands out these data, whatever happens to what may change -/
def Yields (K : KF) (ρ : List Addr) (I : Addr → Prop) (H : Hp) (ds : List D) (J : It) : Prop :=
  ∀ ρ' I' H', Lat ρ I H ρ' I' H' → (∀ p ∈ ρ', ¬ I' p) → ∀ (i : Nat),
    (∀ d, ds[i]? = some d → J.go i H' ∧ ∀ x H'', J.yld i H' x H'' → ∃ I'', Ext I' H' I'' H'' ∧ Rel K ρ' I'' H'' d x) ∧ (ds.length ≤ i → J.stop i H')
theorem Yields.lat {K : KF} {ρ ρ' : List Addr} {I I' : Addr → Prop} {H H' : Hp} {ds : List D} {J : It} (y : Yields K ρ I H ds J) (f : Lat ρ I H ρ' I' H') : Yields K ρ' I' H' ds J :=
  fun ρ2 I2 H2 g n i => y ρ2 I2 H2 (f.trans g) n i
def dI (K : KF) (mg : Str → Option Value) (W : XK) (f : S → R (List D)) : TI := fun σ H Q => dG K mg W (fun ρ I H ds J => Yields K ρ I H ds J) f σ H Q
abbrev PId (X : Cx) (W : XK) (f : S → R (List D)) (tg iter : Expr) : Prop := PI X tg iter (dI X.K X.mg W f)
theorem PI.imp {X : Cx} {tg it : Expr} {t t' : TI} (h : PI X tg it t) (i : ∀ σ H Q, t' σ H Q → t σ H Q) : PI X tg it t' := ⟨fun pins s σ H Q I q => h.run pins s σ H Q I (i σ H Q q)⟩
theorem PI.or {X : Cx} {tg it : Expr} {t t' : TI} (h : PI X tg it t) (h' : PI X tg it t') : PI X tg it (fun σ H Q => t σ H Q ∨ t' σ H Q) :=
  ⟨fun pins s σ H Q I q => q.elim (h.run pins s σ H Q I) (h'.run pins s σ H Q I)⟩
theorem PE.or {X : Cx} {e : Expr} {t t' : TE} (h : PE X e t) (h' : PE X e t') : PE X e (fun σ H Q => t σ H Q ∨ t' σ H Q) :=
  ⟨fun pins s σ H Q I q => q.elim (h.run pins s σ H Q I) (h'.run pins s σ H Q I)⟩
/-- what a value's items are -/
def itemsD : D → Option (List D)
  | .tup xs => some xs
  | .ptp xs => some xs
  | .lst xs => some xs
  | .frz xs => some xs
  | _ => none
def iVal (f : S → R D) (s : S) : R (List D) := (f s).bind fun d s => match itemsD d with
  | some ds => .ok ds s
  | none => .stuck
section
variable {X : Cx} {W : XK} {pos : Pos}
theorem yields_list {K : KF} {ρ : List Addr} {I : Addr → Prop} {H : Hp} {ds : List D} {p : Addr} {xs : List V} (h : ∀ ρ' I' H', Lat ρ I H ρ' I' H' → SqL K H' p xs) (r : RelL K ρ I H ds xs) (inj : ∀ H' ys, SqL K H' p ys → SqL K H' p xs → ys = xs) : Yields K ρ I H ds (Itl K p) := by
  intro ρ' I' H' f n i
  refine ⟨fun d hd => ?_, fun hl => ⟨xs, h _ _ _ f, by rw [← r.length]; exact hl⟩⟩
  obtain ⟨v, h1, h2⟩ := r.get hd
  refine ⟨⟨xs, v, h _ _ _ f, h1⟩, fun x H'' y => ?_⟩
  obtain ⟨e, y⟩ := y
  subst e
  have q := y xs (h _ _ _ f)
  rw [h1] at q
  cases q
  exact ⟨I', Ext.refl _ _, h2.lat f⟩
theorem i_val {f : S → R D} {tg l : Expr} (hl : PEd X W f l) : PId X W (iVal f) tg l := by
  refine PI.imp (PI.or (pi_list hl) (pi_tup hl)) fun σ H Q h => ?_
  obtain ⟨ρ, I, s, M, E, h⟩ := h
  -- which of both: by the value
  cases e : f s with
  | err x m => 
    have h' : Fin X.K X.mg W (fun ρ I H ds J => Yields X.K ρ I H ds J) σ Q ρ I H (Own σ s.env) (R.err x m) := by
      have : iVal f s = .err x m := by unfold iVal; rw [e]
      rw [this] at h; exact h
    exact .inl ⟨ρ, I, s, M, E, by rw [e]; exact h'⟩
  | stuck =>
    have : iVal f s = .stuck := by unfold iVal; rw [e]
    rw [this] at h; exact h.elim
  | ok d s1 =>
    have hv : iVal f s = match itemsD d with
      | some ds => .ok ds s1
      | none => .stuck := by unfold iVal; rw [e]
    cases d with
    | tup ds =>
      rw [hv] at h
      refine .inr ⟨ρ, I, s, M, E, ?_⟩
      rw [e]
      intro ρ1 I1 H1 v f1 M1 E1 r
      cases r with
      | @tup _ p xs hi r =>
        refine ⟨p, rfl, ⟨xs, hi.sq⟩, h ρ1 I1 H1 _ f1 M1 E1 ?_⟩
        intro ρ' I' H' f n i
        refine ⟨fun d hd => ?_, fun hl => ⟨xs, (hi.lat f).sq, by rw [← r.length]; exact hl⟩⟩
        obtain ⟨v, h1, h2⟩ := r.get hd
        refine ⟨⟨xs, v, (hi.lat f).sq, h1⟩, fun x H'' y => ?_⟩
        obtain ⟨e, y⟩ := y
        subst e
        have q := y xs (hi.lat f).sq
        rw [h1] at q
        cases q
        exact ⟨I', Ext.refl _ _, h2.lat f⟩
    | ptp ds =>
      rw [hv] at h
      refine .inr ⟨ρ, I, s, M, E, ?_⟩
      rw [e]
      intro ρ1 I1 H1 v f1 M1 E1 r
      cases r with
      | @ptp _ p od xs hi hH hd r =>
        refine ⟨p, rfl, ⟨xs, .inl (.inr ⟨od, hH⟩)⟩, h ρ1 I1 H1 _ f1 M1 E1 ?_⟩
        intro ρ' I' H' f n i
        refine ⟨fun d hd => ?_, fun hl => ⟨xs, (.inl (.inr ⟨od, f.same _ _ hi hH⟩)), by rw [← r.length]; exact hl⟩⟩
        obtain ⟨v, h1, h2⟩ := r.get hd
        refine ⟨⟨xs, v, (.inl (.inr ⟨od, f.same _ _ hi hH⟩)), h1⟩, fun x H'' y => ?_⟩
        obtain ⟨e, y⟩ := y
        subst e
        have q := y xs (.inl (.inr ⟨od, f.same _ _ hi hH⟩))
        rw [h1] at q
        cases q
        exact ⟨I', Ext.refl _ _, h2.lat f⟩
    | lst ds =>
      rw [hv] at h
      refine .inl ⟨ρ, I, s, M, E, ?_⟩
      rw [e]
      intro ρ1 I1 H1 v f1 M1 E1 r
      cases r with
      | @lst _ p xs hi r =>
        refine ⟨p, rfl, ⟨xs, hi.sq⟩, h ρ1 I1 H1 _ f1 M1 E1 ?_⟩
        intro ρ' I' H' f n i
        refine ⟨fun d hd => ?_, fun hl => ⟨xs, (hi.lat f).sq, by rw [← r.length]; exact hl⟩⟩
        obtain ⟨v, h1, h2⟩ := r.get hd
        refine ⟨⟨xs, v, (hi.lat f).sq, h1⟩, fun x H'' y => ?_⟩
        obtain ⟨e, y⟩ := y
        subst e
        have q := y xs (hi.lat f).sq
        rw [h1] at q
        cases q
        exact ⟨I', Ext.refl _ _, h2.lat f⟩
    | frz ds =>
      rw [hv] at h
      refine .inl ⟨ρ, I, s, M, E, ?_⟩
      rw [e]
      intro ρ1 I1 H1 v f1 M1 E1 r
      cases r with
      | @frz _ p xs hi r =>
        refine ⟨p, rfl, ⟨xs, hi.sq⟩, h ρ1 I1 H1 _ f1 M1 E1 ?_⟩
        intro ρ' I' H' f n i
        refine ⟨fun d hd => ?_, fun hl => ⟨xs, (hi.lat f).sq, by rw [← r.length]; exact hl⟩⟩
        obtain ⟨v, h1, h2⟩ := r.get hd
        refine ⟨⟨xs, v, (hi.lat f).sq, h1⟩, fun x H'' y => ?_⟩
        obtain ⟨e, y⟩ := y
        subst e
        have q := y xs (hi.lat f).sq
        rw [h1] at q
        cases q
        exact ⟨I', Ext.refl _ _, h2.lat f⟩
    | _ => rw [hv] at h; exact h.elim
/-- range -/
def rangeD (lo : Int) (n : Nat) : List D := (List.range n).map fun (i : Nat) => .int (lo + (i : Int))
def small62 (i : Int) : Bool := decide (-(2 ^ 62) ≤ i ∧ i < 2 ^ 62)
def rng1 (ds : List D) : Option (List D) := match ds with
  | [.int j] => if small62 j = true then some (rangeD 0 j.toNat) else none
  | _ => none
def rng2 (ds : List D) : Option (List D) := match ds with
  | [.int i, .int j] => if small62 i = true ∧ small62 j = true then some (rangeD i (j - i).toNat) else none
  | _ => none
def iArgs (g : List D → Option (List D)) (fs : S → R (List D)) (s : S) : R (List D) := (fs s).bind fun ds s => match g ds with
  | some r => .ok r s
  | none => .stuck
theorem yields_range {K : KF} {ρ : List Addr} {I : Addr → Prop} {H : Hp} (lo : Int) (n : Nat) : Yields K ρ I H (rangeD lo n) (Itr lo n) := by
  intro ρ' I' H' f nr i
  refine ⟨fun d hd => ?_, fun hl => ?_⟩
  · have hi : i < n := by
      have := (List.getElem?_eq_some_iff.mp hd).1
      simpa [rangeD] using this
    have e : d = .int (lo + (i : Int)) := by
      simp only [rangeD, List.getElem?_map, List.getElem?_range hi, Option.map_some, Option.some.injEq] at hd
      exact hd.symm
    subst e
    refine ⟨hi, fun x H'' y => ?_⟩
    obtain ⟨e1, e2⟩ := y
    subst e1 e2
    exact ⟨I', Ext.refl _ _, .int _⟩
  · show n ≤ i
    simpa [rangeD] using hl
theorem i_range1 {a : Expr} {fs : S → R (List D)} {p : Pos} {tg : Expr} (hg : Gl X "range") (hm : X.mg "range" = none) (ha : PAd X W fs [a]) (hs : starEach [a] X.env = [(false, eval a X.env)] := by rfl) : PId X W (iArgs rng1 fs) tg (.Call (.Name "range" p) [a] [] pos) :=
  PI.imp (pi_range1 hg hm ha hs) fun σ H Q ⟨ρ, I, s, M, E, h⟩ => dG.bind M E h fun ds s1 ρ1 I1 H1 vs M1 E1 r up h => by
    cases e : rng1 ds with
    | none => rw [e] at h; exact h.elim
    | some q =>
      rw [e] at h
      unfold rng1 at e
      split at e
      · rename_i j
        split at e
        · rename_i hj
          cases e
          obtain ⟨h1, h2⟩ := of_decide_eq_true hj
          cases r with
          | cons r rr =>
            cases rr
            cases r
            refine ⟨j, rfl, h1, h2, h.here (Ext.refl _ _) M1 E1 ?_⟩
            exact yields_range 0 j.toNat
        · cases e
      · cases e
theorem i_range2 {a b : Expr} {fs : S → R (List D)} {p : Pos} {tg : Expr} (hg : Gl X "range") (hm : X.mg "range" = none) (ha : PAd X W fs [a, b]) (hs : starEach [a, b] X.env = [(false, eval a X.env), (false, eval b X.env)] := by rfl) (hs2 : starEach [b] X.env = [(false, eval b X.env)] := by rfl) :
    PId X W (iArgs rng2 fs) tg (.Call (.Name "range" p) [a, b] [] pos) :=
  PI.imp (pi_range2 hg hm ha hs hs2) fun σ H Q ⟨ρ, I, s, M, E, h⟩ => dG.bind M E h fun ds s1 ρ1 I1 H1 vs M1 E1 r up h => by
    cases e : rng2 ds with
    | none => rw [e] at h; exact h.elim
    | some q =>
      rw [e] at h
      unfold rng2 at e
      split at e
      · rename_i i j
        split at e
        · rename_i hj
          cases e
          obtain ⟨h1, h2⟩ := of_decide_eq_true hj.1
          obtain ⟨h3, h4⟩ := of_decide_eq_true hj.2
          cases r with
          | cons r rr =>
            cases rr with
            | cons r' rr =>
              cases rr
              cases r
              cases r'
              exact ⟨i, j, rfl, ⟨h1, h2, h3, h4⟩, h.here (Ext.refl _ _) M1 E1 (yields_range i (j - i).toNat)⟩
        · cases e
      · cases e

/-! ### for -/
def sLoop (g : D → S → Option S) (b : S → Rs) : List D → S → Rs
  | [], s => .next s
  | d :: ds, s => match g d s with
    | none => .stuck
    | some s => match b s with
      | .next s => sLoop g b ds s
      | .cont s => sLoop g b ds s
      | .brk s => .next s
      | r => r
def sFor (fi : S → R (List D)) (g : D → S → Option S) (b : S → Rs) (s : S) : Rs := (fi s).stm fun ds s => sLoop g b ds s
theorem s_for {tg iter : Expr} {body : List Stmt} {fi : S → R (List D)} {g : D → S → Option S} {b : S → Rs} (hp : PassesOwn (model X.prog X.w) X.A X.env X.xe) (hc : X.calm = true) (hi : PId X W fi tg iter) (hg : PGd X g tg) (hb : PSsd X W b body)
    (hs : ∀ x, foldedSetIterable iter X.env x = pure x := by intro _; rfl) : PSd X W (sFor fi g b) (.For tg iter body [] pos) := by
  refine PS.imp (ps_for hp hc hi hg hb hs) fun De σ H ⟨ρ, I, s, M, E, h⟩ => ?_
  show dG X.K X.mg W _ fi σ H _
  refine dG.stm M E h fun ds s1 ρ1 I1 H1 J f1 M1 E1 y h => ?_
  refine ⟨fun i m σ H => ∃ ρ I s, MemOk X.K ρ I H s.mem ∧ EnvOk X.K ρ I H σ s.env ∧ Lat ρ1 I1 H1 ρ I H ∧ m = ds.length - i ∧ i ≤ ds.length ∧ FinS X.K X.mg W De ρ I H (Own σ s.env) (sLoop g b (ds.drop i) s),
    ⟨ds.length, ρ1, I1, s1, M1, E1, Lat.refl _ _ _, by simp, Nat.zero_le _, h⟩, ?_⟩
  rintro i m σ2 H2 ⟨ρ2, I2, s2, M2, E2, l2, rfl, hi, h2⟩
  obtain ⟨y1, y2⟩ := y ρ2 I2 H2 l2 M2.dis i
  by_cases hlt : i < ds.length
  · right
    have hd : ds[i]? = some ds[i] := List.getElem?_eq_getElem hlt
    obtain ⟨go, yl⟩ := y1 _ hd
    rw [List.drop_eq_getElem_cons hlt] at h2
    refine ⟨go, fun σ H => ∃ ρ I s, MemOk X.K ρ I H s.mem ∧ EnvOk X.K ρ I H σ s.env ∧ Lat ρ1 I1 H1 ρ I H ∧ FinS X.K X.mg W De ρ I H (Own σ s.env) (sLoop g b (ds.drop (i + 1)) s), ?_, fun x H3 hy => ?_⟩
    · rintro σ' H' ⟨ρ3, I3, s3, M3, E3, l3, h3⟩
      exact ⟨ds.length - (i + 1), by omega, ρ3, I3, s3, M3, E3, l3, rfl, hlt, h3⟩
    · obtain ⟨I3, x3, r3⟩ := yl x H3 hy
      have M3 := M2.ext x3
      have E3 := E2.ext M2.dis x3
      refine ⟨ρ2, I3, s2, ds[i], M3, E3, r3, ?_⟩
      have h3 := h2.rebase (x3.frm ρ2 (Own σ2 s2.env))
      show FinG X.K _ ρ2 I3 H3 (Own σ2 s2.env) (g ds[i] s2)
      have h3 : FinS X.K X.mg W De ρ2 I3 H3 (Own σ2 s2.env) (match g ds[i] s2 with
        | none => .stuck
        | some s => match b s with
          | .next s => sLoop g b (ds.drop (i + 1)) s
          | .cont s => sLoop g b (ds.drop (i + 1)) s
          | .brk s => .next s
          | r => r) := h3
      cases e : g ds[i] s2 with
      | none => rw [e] at h3; exact h3.elim
      | some s4 =>
        rw [e] at h3
        intro ρ4 I4 H4 σ4 f4 M4 E4
        have l4 : Lat ρ1 I1 H1 ρ4 I4 H4 := l2.trans ((x3.lat ρ2).trans (f4.lat M3.dis fun p o => (E3.ownI o).2.1))
        refine ⟨ρ4, I4, s4, M4, E4, ?_⟩
        have h4 := h3.rebase f4
        dsimp only at h4
        cases e4 : b s4 with
        | next s5 => rw [e4] at h4; exact fun ρ5 I5 H5 σ5 f5 M5 E5 => ⟨ρ5, I5, s5, M5, E5, l4.trans (f5.lat M4.dis fun p o => (E4.ownI o).2.1), h4.rebase f5⟩
        | cont s5 => rw [e4] at h4; exact fun ρ5 I5 H5 σ5 f5 M5 E5 => ⟨ρ5, I5, s5, M5, E5, l4.trans (f5.lat M4.dis fun p o => (E4.ownI o).2.1), h4.rebase f5⟩
        | brk s5 => rw [e4] at h4; exact h4
        | ret d s5 => rw [e4] at h4; exact h4
        | err x m => rw [e4] at h4; exact h4
        | stuck => rw [e4] at h4; exact h4
  · left
    have e : i = ds.length := by omega
    refine ⟨y2 (by omega), ?_⟩
    rw [e, List.drop_length] at h2
    exact h2.next M2 E2

/-! ### while -/
def sWhile (c : S → R Bool) (b : S → Rs) : Nat → S → Rs
  | 0, _ => .stuck
  | n + 1, s => (c s).stm fun k s => if k = true then (match b s with
      | .next s => sWhile c b n s
      | .cont s => sWhile c b n s
      | .brk s => .next s
      | r => r) else .next s
theorem s_while {c : Expr} {body : List Stmt} {fc : S → R Bool} {b : S → Rs} (n : Nat) (hp : PassesOwn (model X.prog X.w) X.A X.env X.xe) (hc : PTd X W fc c) (hb : PSsd X W b body) : PSd X W (sWhile fc b n) (.While c body [] pos) := by
  refine PS.imp (ps_while hp hc hb) fun De σ H ⟨ρ, I, s, M, E, h⟩ => ?_
  refine ⟨fun m σ H => ∃ ρ I s, MemOk X.K ρ I H s.mem ∧ EnvOk X.K ρ I H σ s.env ∧ FinS X.K X.mg W De ρ I H (Own σ s.env) (sWhile fc b m s), ⟨n, ρ, I, s, M, E, h⟩, ?_⟩
  rintro m σ1 H1 ⟨ρ1, I1, s1, M1, E1, h1⟩
  cases m with
  | zero => exact h1.elim
  | succ m =>
    refine dG.stm M1 E1 h1 fun k s2 ρ2 I2 H2 k' f2 M2 E2 r h2 => ?_
    subst r
    cases k with
    | false => exact iteF (h2.next M2 E2)
    | true =>
      refine iteT ⟨fun σ H => ∃ ρ I s, MemOk X.K ρ I H s.mem ∧ EnvOk X.K ρ I H σ s.env ∧ FinS X.K X.mg W De ρ I H (Own σ s.env) (sWhile fc b m s), fun σ' H' q => ⟨m, Nat.lt_succ_self m, q⟩, ρ2, I2, s2, M2, E2, ?_⟩
      rw [if_pos rfl] at h2
      cases e4 : b s2 with
      | next s5 => rw [e4] at h2; exact fun ρ5 I5 H5 σ5 f5 M5 E5 => ⟨ρ5, I5, s5, M5, E5, h2.rebase f5⟩
      | cont s5 => rw [e4] at h2; exact fun ρ5 I5 H5 σ5 f5 M5 E5 => ⟨ρ5, I5, s5, M5, E5, h2.rebase f5⟩
      | brk s5 => rw [e4] at h2; exact h2
      | ret d s5 => rw [e4] at h2; exact h2
      | err x m => rw [e4] at h2; exact h2
      | stuck => rw [e4] at h2; exact h2
end
end PM
end

section
set_option Elab.async false
set_option linter.all false
set_option maxRecDepth 100000
/-! PM6: objects just made, names that own them, list comprehensions. -/
namespace PM
open PySem PySem.Spec L2
variable [PWc]

def FinO (K : KF) (mg : Str → Option Value) (W : XK) (σ : L2.St) (Q : VK) (ρ : List Addr) (I : Addr → Prop) (H : Hp) (O : Addr → Prop) : R MO → Prop
  | .ok o s => ∀ ρ' I' H' p, Frm ρ I H O ρ' I' H' (Own σ s.env) → MemOk K ρ' I' H' s.mem → EnvOk K ρ' I' H' σ s.env → ObjRel K ρ' I' H' p o → ¬ I' p → p ∉ ρ' → ¬ Own σ s.env p → H p = none → Q (.ref p) H'
  | .err x m => ∀ ρ' I' H' O' cls dx, Frm ρ I H O ρ' I' H' O' → MemOk K ρ' I' H' m → ExcRel K mg ρ' I' H' x cls dx → W cls dx H'
  | .stuck => False
def dF (K : KF) (mg : Str → Option Value) (W : XK) (f : S → R MO) : TE := fun σ H Q =>
  ∃ ρ I s, MemOk K ρ I H s.mem ∧ EnvOk K ρ I H σ s.env ∧ FinO K mg W σ Q ρ I H (Own σ s.env) (f s)
/-- an expression whose value is a new object that nobody else knows -/
abbrev PFd (X : Cx) (W : XK) (f : S → R MO) (e : Expr) : Prop := PE X e (dF X.K X.mg W f)
section
variable {K : KF} {mg : Str → Option Value} {W : XK} {σ : L2.St} {ρ ρ' : List Addr} {I I' : Addr → Prop} {H H' : Hp} {O O' : Addr → Prop}
theorem none_back (f : Frm ρ I H O ρ' I' H' O') {p : Addr} (h : H' p = none) : H p = none := by
  cases e : H p with
  | none => rfl
  | some o => exact absurd h (f.there p (by rw [e]; simp))
theorem FinO.rebase {Q : VK} {r : R MO} (f : Frm ρ I H O ρ' I' H' O') (h : FinO K mg W σ Q ρ I H O r) : FinO K mg W σ Q ρ' I' H' O' r := by
  cases r with
  | ok o s => exact fun ρ2 I2 H2 p g M E r a b c d => h ρ2 I2 H2 p (f.trans g) M E r a b c (none_back f d)
  | err x m => exact fun ρ2 I2 H2 O2 cls dx g M r => h ρ2 I2 H2 O2 cls dx (f.trans g) M r
  | stuck => exact h
/-- a first part of what makes an object -/
theorem dG.bindO {α β : Type} {P : PR α β} {f : S → R α} {k : α → S → R MO} {s : S} {Q : β → Hp → Prop} {Q2 : VK}
    (M : MemOk K ρ I H s.mem) (E : EnvOk K ρ I H σ s.env) (h : FinO K mg W σ Q2 ρ I H (Own σ s.env) ((f s).bind k))
    (g : ∀ a s ρ' I' H' v, MemOk K ρ' I' H' s.mem → EnvOk K ρ' I' H' σ s.env → P ρ' I' H' a v → FinO K mg W σ Q2 ρ' I' H' (Own σ s.env) (k a s) → Q v H') : dG K mg W P f σ H Q := by
  refine ⟨ρ, I, s, M, E, ?_⟩
  cases e : f s with
  | ok a s2 => rw [e] at h; exact fun ρ2 I2 H2 v f M2 E2 r => g a s2 ρ2 I2 H2 v M2 E2 r (h.rebase f)
  | err x m => rw [e] at h; exact h
  | stuck => rw [e] at h; exact h
/-- the object laid at last -/
theorem FinO.here {Q : VK} {o : MO} {s : S} {p : Addr} {u : HO} (h : FinO K mg W σ Q ρ I H (Own σ s.env) (.ok o s)) (M : MemOk K ρ I H s.mem) (E : EnvOk K ρ I H σ s.env) (hp : H p = none) (r : ObjRel K ρ I (upd H p u) p o) : Q (.ref p) (upd H p u) := by
  have x : Ext I H I (upd H p u) := Ext.fresh hp
  exact h ρ I _ p (x.frm ρ _) (M.ext x) (E.ext M.dis x) r (fun z => M.dom p z hp) (fun z => M.there z hp) (fun z => (E.ownI z).1 hp) hp
end

/-! ### it is frozen, or a name owns it -/
def eFrz (f : S → R MO) (s : S) : R D := (f s).bind fun o s => .ok o.toD s
theorem ObjRel.frz {K : KF} {ρ : List Addr} {I : Addr → Prop} {H : Hp} {p : Addr} {o : MO} (h : ObjRel K ρ I H p o) (nr : ∀ p ∈ ρ, ¬ I p) : ObjRel K ρ (fun q => I q ∨ q = p) H p o :=
  h.mono (O := fun q => q = p ∧ ¬ I q) (O' := fun _ => False) ⟨fun _ h => h, fun _ _ h _ _ => h, fun _ _ h => h, fun _ h n => absurd h n, fun _ h => .inl h, fun q h n => .inr ⟨h.resolve_left n, n⟩, fun _ z => z.elim⟩ nr (fun _ z => z.2) rfl
theorem Rel.grow {K : KF} {ρ : List Addr} {I I' : Addr → Prop} {H : Hp} {d : D} {v : V} (r : Rel K ρ I H d v) (i : ∀ p, I p → I' p) : Rel K ρ I' H d v := r.lat ⟨i, fun _ _ _ h => h, fun _ _ h => h⟩
theorem RelL.grow {K : KF} {ρ : List Addr} {I I' : Addr → Prop} {H : Hp} {d : List D} {v : List V} (r : RelL K ρ I H d v) (i : ∀ p, I p → I' p) : RelL K ρ I' H d v := r.lat ⟨i, fun _ _ _ h => h, fun _ _ h => h⟩
theorem ObjRel.grow {K : KF} {ρ : List Addr} {I I' : Addr → Prop} {H : Hp} {p : Addr} {o : MO} (r : ObjRel K ρ I H p o) (i : ∀ p, I p → I' p) : ObjRel K ρ I' H p o := by
  cases o with
  | lst ds => obtain ⟨xs, e, r⟩ := r; exact ⟨xs, e, r.grow i⟩
  | dct ks vs => obtain ⟨xs, e, k, r⟩ := r; exact ⟨xs, e, k, r.grow i⟩
  | kdt ks vs => obtain ⟨xs, e, r, r2, k⟩ := r; exact ⟨xs, e, r.grow i, r2.grow i, k⟩
theorem MemOk.frz {K : KF} {ρ : List Addr} {I : Addr → Prop} {H : Hp} {m : List MO} {p : Addr} (M : MemOk K ρ I H m) (hp : p ∉ ρ) (ht : H p ≠ none) : MemOk K ρ (fun q => I q ∨ q = p) H m :=
  ⟨M.len, M.nd, fun q hq z => z.elim (M.dis q hq) fun e => hp (e ▸ hq), fun q z => z.elim (M.dom q) fun e => e ▸ ht, fun n q u a b => (M.obj n q u a b).grow fun _ => .inl⟩
theorem EnvOk.frz {K : KF} {ρ : List Addr} {I : Addr → Prop} {H : Hp} {σ : L2.St} {e : List (Option Cell)} {p : Addr} (E : EnvOk K ρ I H σ e) (hp : ¬ Own σ e p) : EnvOk K ρ (fun q => I q ∨ q = p) H σ e :=
  ⟨E.len, fun i d a => let ⟨v, h1, h2⟩ := E.val i d a; ⟨v, h1, h2.grow fun _ => .inl⟩, fun i o a => let ⟨q, h1, h2, h3, h4⟩ := E.own i o a
    ⟨q, h1, h2.grow fun _ => .inl, fun z => z.elim h3 fun z => hp ⟨i, o, a, z ▸ h1⟩, h4⟩, E.sep⟩
section
variable {K : KF} {σ : L2.St} {ρ : List Addr} {I : Addr → Prop} {H : Hp} {O : Addr → Prop}
/-- an address that nobody knows is written -/
theorem Frm.priv {ρ' : List Addr} {I' : Addr → Prop} {H' : Hp} {O O' : Addr → Prop} {p : Addr} {u : HO} (f : Frm ρ I H O ρ' I' H' O') (hp : H p = none) : Frm ρ I H O ρ' I' (upd H' p u) O' :=
  ⟨fun q h => by
    by_cases hq : q = p
    · subst hq; rw [upd_same]; simp
    · rw [upd_ne hq]; exact f.there q h, fun q o h a b => by rw [upd_ne (ne_of_none h hp)]; exact f.keep q o h a b, f.pre, f.rnew, f.imm, f.inew, f.onew⟩
theorem priv_ok {m : List MO} {e : List (Option Cell)} {p : Addr} {u : HO} (M : MemOk K ρ I H m) (E : EnvOk K ρ I H σ e) (hi : ¬ I p) (hr : p ∉ ρ) (ho : ¬ Own σ e p) : Lat ρ I H ρ I (upd H p u) ∧ MemOk K ρ I (upd H p u) m ∧ EnvOk K ρ I (upd H p u) σ e := by
  have lat : Lat ρ I H ρ I (upd H p u) := ⟨fun _ h => h, fun q w hI hq => by rw [upd_ne (fun (z : q = p) => hi (z ▸ hI))]; exact hq, fun _ _ h => h⟩
  have obj : ∀ {q : Addr} {w : MO}, q ≠ p → ObjRel K ρ I H q w → ObjRel K ρ I (upd H p u) q w := fun {q w} n r1 => by
    have r2 : upd H p u q = H q := upd_ne n
    cases w with
    | lst ds => obtain ⟨xs, e1, r⟩ := r1; exact ⟨xs, r2.trans e1, r.lat lat⟩
    | dct ks vs => obtain ⟨xs, e1, k, r⟩ := r1; exact ⟨xs, r2.trans e1, k, r.lat lat⟩
    | kdt ks vs => obtain ⟨xs, e1, r, r3, k⟩ := r1; exact ⟨xs, r2.trans e1, r.lat lat, r3.lat lat, k⟩
  refine ⟨lat, ⟨M.len, M.nd, M.dis, fun q hq => ?_, fun n q w a b => obj (fun z => hr (z ▸ List.mem_of_getElem? a)) (M.obj n q w a b)⟩, ⟨E.len, fun j d a => ?_, fun j w a => ?_, E.sep⟩⟩
  · rw [upd_ne (fun (z : q = p) => hi (z ▸ hq))]; exact M.dom q hq
  · obtain ⟨v, a1, a2⟩ := E.val j d a
    exact ⟨v, a1, a2.lat lat⟩
  · obtain ⟨q, a1, a2, a3, a4⟩ := E.own j w a
    exact ⟨q, a1, obj (fun z => ho ⟨j, w, a, z ▸ a1⟩) a2, a3, a4⟩

/-- the object at p is laid up for good -/
structure Sealed (K : KF) (σ : L2.St) (ρ : List Addr) (I : Addr → Prop) (H : Hp) (m : List MO) (e : List (Option Cell)) (p : Addr) (o : MO) (H' : Hp) : Prop where
  l : Lat ρ I H ρ (fun q => I q ∨ q = p) H'
  M : MemOk K ρ (fun q => I q ∨ q = p) H' m
  E : EnvOk K ρ (fun q => I q ∨ q = p) H' σ e
  r : Rel K ρ (fun q => I q ∨ q = p) H' o.toD (.ref p)
  k : ∀ q, q ≠ p → H' q = H q
  t : H' p ≠ none
theorem Lat.more {H' : Hp} {p : Addr} (l : Lat ρ I H ρ I H') : Lat ρ I H ρ (fun q => I q ∨ q = p) H' := ⟨fun _ h => .inl h, l.same, l.pre⟩
theorem seal_ok {m : List MO} {e : List (Option Cell)} {p : Addr} {o : MO} (M : MemOk K ρ I H m) (E : EnvOk K ρ I H σ e) (hi : ¬ I p) (hr : p ∉ ρ) (ho : ¬ Own σ e p) (r : ObjRel K ρ I H p o) :
    Sealed K σ ρ I H m e p o H ∨ ∃ u, H p = some u ∧ Mut (some u) ∧ ∀ od, Sealed K σ ρ I H m e p o (upd H p (.frz od u)) := by
  cases o with
  | lst ds =>
    left
    obtain ⟨xs, e1, r⟩ := r
    exact ⟨(Lat.more ⟨fun _ h => h, fun _ _ _ h => h, fun _ _ h => h⟩), M.frz hr (by rw [e1]; simp), E.frz ho, .lst ⟨.inr rfl, e1⟩ (r.grow fun _ => .inl), fun _ _ => rfl, by rw [e1]; simp⟩
  | dct ks vs =>
    right
    obtain ⟨kvs, e1, rfl, r⟩ := r
    refine ⟨_, e1, True.intro, fun od => ?_⟩
    obtain ⟨l, M2, E2⟩ := priv_ok (u := .frz od (.dK kvs)) M E hi hr ho
    have t : (upd H p (.frz od (.dK kvs))) p ≠ none := by rw [upd_same]; simp
    exact ⟨l.more, M2.frz hr t, E2.frz ho, .dct (.inr rfl) upd_same ((r.lat l).grow fun _ => .inl), fun q n => upd_ne n, t⟩
  | kdt ks vs =>
    right
    obtain ⟨es, e1, r, r2, k⟩ := r
    refine ⟨_, e1, True.intro, fun od => ?_⟩
    obtain ⟨l, M2, E2⟩ := priv_ok (u := .frz od (kdO p es)) M E hi hr ho
    have t : (upd H p (.frz od (kdO p es))) p ≠ none := by rw [upd_same]; simp
    exact ⟨l.more, M2.frz hr t, E2.frz ho, .kdt (.inr rfl) upd_same ((r.lat l).grow fun _ => .inl) ((r2.lat l).grow fun _ => .inl) k, fun q n => upd_ne n, t⟩
theorem EnvOk.drop {e : List (Option Cell)} {i : Nat} (E : EnvOk K ρ I H σ e) : EnvOk K ρ I H σ (e.set i none) ∧ (∀ p, Own σ (e.set i none) p → Own σ e p) ∧ ∀ o p, e[i]? = some (some (.own o)) → σ[i]? = some (some (.ref p)) → ¬ Own σ (e.set i none) p := by
  have ne : ∀ {k : Nat} {c : Cell}, (e.set i none)[k]? = some (some c) → i ≠ k ∧ e[k]? = some (some c) := fun {k c} a => by
    by_cases z : i = k
    · subst z
      by_cases hl : i < e.length
      · rw [List.getElem?_set_self hl] at a; cases a
      · rw [List.getElem?_eq_none (by rw [List.length_set]; omega)] at a; cases a
    · rw [List.getElem?_set_ne z] at a; exact ⟨z, a⟩
  refine ⟨⟨by rw [List.length_set]; exact E.len, fun j d a => E.val j d (ne a).2, fun j u a => E.own j u (ne a).2, fun j k u u' q a b c c' => E.sep j k u u' q (ne a).2 (ne b).2 c c'⟩, fun p ⟨j, u, a, b⟩ => ⟨j, u, (ne a).2, b⟩, fun o p a b ⟨j, u, c, d⟩ => ?_⟩
  exact (ne c).1 (E.sep i j o u p a (ne c).2 b d)
theorem EnvOk.putv {e : List (Option Cell)} {i : Nat} {d : D} {v : V} (E : EnvOk K ρ I H σ e) (hv : σ[i]? = some (some v)) (r : Rel K ρ I H d v) : EnvOk K ρ I H σ (e.set i (some (.val d))) ∧ ∀ p, Own σ (e.set i (some (.val d))) p → Own σ e p := by
  have ne : ∀ {k : Nat} {o : MO}, (e.set i (some (.val d)))[k]? = some (some (.own o)) → i ≠ k ∧ e[k]? = some (some (.own o)) := fun {k c} a => by
    by_cases z : i = k
    · subst z
      by_cases hl : i < e.length
      · rw [List.getElem?_set_self hl] at a; cases a
      · rw [List.getElem?_eq_none (by rw [List.length_set]; omega)] at a; cases a
    · rw [List.getElem?_set_ne z] at a; exact ⟨z, a⟩
  refine ⟨⟨by rw [List.length_set]; exact E.len, fun j d' a => ?_, fun j u a => E.own j u (ne a).2, fun j k u u' q a b c c' => E.sep j k u u' q (ne a).2 (ne b).2 c c'⟩, fun p ⟨j, u, a, b⟩ => ⟨j, u, (ne a).2, b⟩⟩
  by_cases z : i = j
  · subst z
    by_cases hl : i < e.length
    · rw [List.getElem?_set_self hl] at a; cases a; exact ⟨v, hv, r⟩
    · rw [List.getElem?_eq_none (by rw [List.length_set]; omega)] at a; cases a
  · rw [List.getElem?_set_ne z] at a; exact E.val j d' a
end
section
variable {X : Cx} {W : XK} {f : S → R MO} {e : Expr} {pos : Pos}
/-- what stands at p may be laid up behind an expression -/
def tSeal {α : Type} (Q : α → Hp → Prop) : α → Hp → Prop := fun v H1 => Q v H1 ∨ ∃ p u, H1 p = some u ∧ Mut (some u) ∧ ∀ od, Q v (upd H1 p (.frz od u))
theorem pe_seal {e : Expr} {t : TE} (h : PE X e t) : PE X e (fun σ H Q => t σ H (tSeal Q)) :=
  ⟨fun pins s σ H Q J q => thn (h.run pins s σ H _ J q) fun u s1 ⟨x, H1, J1, rx, q1⟩ => by
    rcases q1 with q1 | ⟨p, w, hp, mu, q1⟩
    · exact ⟨x, H1, J1, rx, q1⟩
    · obtain ⟨od, J2⟩ := J1.lock hp mu
      exact ⟨x, _, J2, rx, q1 od⟩⟩
theorem dF_val {σ : L2.St} {H : Hp} {Q : VK} (h : dE X.K X.mg W (eFrz f) σ H Q) : dF X.K X.mg W f σ H (tSeal Q) := by
  obtain ⟨ρ, I, s, M, E, h⟩ := h
  refine ⟨ρ, I, s, M, E, ?_⟩
  unfold eFrz at h
  cases e : f s with
  | err x m => rw [e] at h; exact h
  | stuck => rw [e] at h; exact h
  | ok o s2 =>
    rw [e] at h
    intro ρ' I' H' p fr M2 E2 r ni nr no hn
    have go : ∀ H2, Sealed X.K σ ρ' I' H' s2.mem s2.env p o H2 → Q (.ref p) H2 := fun H2 z => by
      have nn : ∀ q, H q ≠ none → q ≠ p := fun q h z => h (z ▸ hn)
      refine h ρ' (fun q => I' q ∨ q = p) H2 (.ref p) ⟨fun q hq => ?_, fun q w hq a b => ?_, fr.pre, fr.rnew, fun q z => .inl (fr.imm q z), fun q z n => ?_, fr.onew⟩ z.M z.E z.r
      · rw [z.k q (nn q hq)]; exact fr.there q hq
      · rw [z.k q (nn q (by rw [hq]; simp))]; exact fr.keep q w hq a b
      · rcases z with z | z
        · exact fr.inew q z n
        · subst z; exact .inl hn
    rcases seal_ok M2 E2 ni nr no r with z | ⟨u, hu, mu, z⟩
    · exact .inl (go _ z)
    · exact .inr ⟨p, u, hu, mu, fun od => go _ (z od)⟩
/-- only lists -/
def OnlyL (f : S → R MO) : Prop := ∀ s o s2, f s = .ok o s2 → ∃ xs, o = .lst xs
theorem dF_valL {σ : L2.St} {H : Hp} {Q : VK} (ol : OnlyL f) (h : dE X.K X.mg W (eFrz f) σ H Q) : dF X.K X.mg W f σ H Q := by
  obtain ⟨ρ, I, s, M, E, h⟩ := h
  refine ⟨ρ, I, s, M, E, ?_⟩
  unfold eFrz at h
  cases e : f s with
  | err x m => rw [e] at h; exact h
  | stuck => rw [e] at h; exact h
  | ok o s2 =>
    rw [e] at h
    obtain ⟨xs0, rfl⟩ := ol s o s2 e
    intro ρ' I' H' p fr M2 E2 r ni nr no hn
    have rr : Rel X.K ρ' (fun q => I' q ∨ q = p) H' (.lst xs0) (.ref p) := by
      obtain ⟨xs, e1, r⟩ := r
      exact .lst ⟨.inr rfl, e1⟩ (r.grow fun _ => .inl)
    refine h ρ' (fun q => I' q ∨ q = p) H' (.ref p) ⟨fr.there, fr.keep, fr.pre, fr.rnew, fun q z => .inl (fr.imm q z), fun q z n => ?_, fr.onew⟩ (M2.frz nr r.there) (E2.frz no) rr
    rcases z with z | z
    · exact fr.inew q z n
    · subst z; exact .inl hn
theorem d_frz (h : PFd X W f e) : PEd X W (eFrz f) e := PE.imp (pe_seal h) fun _ _ _ => dF_val
theorem d_loc {i : Nat} {x : Str} {pos : Pos} (hN : X.N[i]? = some x) (hv : Vis X.env.scope x) (hd : (x == ("__debug__" : Str)) = false := by decide) (hcd : (x == ("__classdict__" : Str)) = false := by decide) : PEd X W (eLoc i) (.Name x pos) := by
  refine PE.imp (pe_seal (pe_var hN hv hd hcd)) fun σ H Q h => ?_
  obtain ⟨ρ, I, s, M, E, h⟩ := h
  unfold eLoc at h
  cases e : s.env[i]? with
  | none => rw [e] at h; exact h.elim
  | some c =>
    rw [e] at h
    cases c with
    | none => exact h.elim
    | some c =>
      cases c with
      | val d =>
        obtain ⟨v, h1, h2⟩ := E.val i d e
        exact ⟨v, h1, .inl (h.here (Ext.refl I H) M E h2)⟩
      | own o =>
        obtain ⟨p, h1, h2, h3, h4⟩ := E.own i o e
        refine ⟨.ref p, h1, ?_⟩
        obtain ⟨E1, o1, n1⟩ := E.drop (i := i)
        have go : ∀ H2, Sealed X.K σ ρ I H s.mem (s.env.set i none) p o H2 → Q (.ref p) H2 := fun H2 z => by
          obtain ⟨E3, o3⟩ := z.E.putv h1 z.r
          rw [List.set_set] at E3 o3
          refine h ρ (fun q => I q ∨ q = p) H2 (.ref p) ⟨fun q hq => ?_, fun q w hq a b => ?_, fun _ _ h => h, fun _ h n => absurd h n, fun _ h => .inl h, fun q z n => ?_, fun q z => .inl (o1 q (o3 q z))⟩ z.M E3 z.r
          · by_cases hqp : q = p
            · subst hqp; exact z.t
            · rw [z.k q hqp]; exact hq
          · rw [z.k q (fun z => b ⟨i, o, e, z ▸ h1⟩)]; exact hq
          · rcases z with z | z
            · exact absurd z n
            · subst z; exact .inr ⟨i, o, e, h1⟩
        rcases seal_ok M E1 h3 h4 (n1 o p e h1) h2 with z | ⟨u, hu, mu, z⟩
        · exact .inl (go _ z)
        · exact .inr ⟨p, u, hu, mu, fun od => go _ (z od)⟩
/-- name = a new object -/
def sOwn (i : Nat) (f : S → R MO) (s : S) : Rs := (f s).stm fun o s => if i < s.env.length then .next { s with env := s.env.set i (some (.own o)) } else .stuck
theorem own_fin {mg : Str → Option Value} {K : KF} {i : Nat} {De : Ends} {σ : L2.St} {ρ : List Addr} {I : Addr → Prop} {H : Hp} {s : S} (M : MemOk K ρ I H s.mem) (E : EnvOk K ρ I H σ s.env) (h : FinS K mg W De ρ I H (Own σ s.env) (sOwn i f s)) :
    FinO K mg W σ (fun x H1 => gName i x σ H1 De.nx) ρ I H (Own σ s.env) (f s) := by
  unfold sOwn at h
  cases e : f s with
  | err x m => rw [e] at h; exact h
  | stuck => rw [e] at h; exact h
  | ok o s2 =>
    rw [e] at h
    intro ρ' I' H' p fr M2 E2 r ni nr no hn
    have h : FinS K mg W De ρ I H (Own σ s.env) (if i < s2.env.length then .next { s2 with env := s2.env.set i (some (.own o)) } else .stuck) := h
    by_cases hi : i < s2.env.length
    · rw [if_pos hi] at h
      have hσ : i < σ.length := by rw [← E2.len]; exact hi
      have sub : ∀ q, Own (σ.set i (some (.ref p))) (s2.env.set i (some (.own o))) q → Own σ s2.env q ∨ q = p := by
        rintro q ⟨j, u, a, b⟩
        by_cases hj : i = j
        · subst hj; rw [List.getElem?_set_self hσ] at b; cases b; exact .inr rfl
        · rw [List.getElem?_set_ne hj] at a b; exact .inl ⟨j, u, a, b⟩
      refine h ρ' I' H' _ ⟨fr.there, fr.keep, fr.pre, fr.rnew, fr.imm, fr.inew, fun q z => ?_⟩ M2 ⟨by rw [List.length_set, List.length_set]; exact E2.len, fun j d a => ?_, fun j u a => ?_, fun j k u u' q a b c c' => ?_⟩
      · rcases sub q z with z | z
        · exact fr.onew q z
        · subst z; exact .inr hn
      · by_cases hj : i = j
        · subst hj; rw [List.getElem?_set_self hi] at a; cases a
        · rw [List.getElem?_set_ne hj] at a ⊢; exact E2.val j d a
      · by_cases hj : i = j
        · subst hj
          rw [List.getElem?_set_self hi] at a
          cases a
          exact ⟨p, List.getElem?_set_self hσ, r, ni, nr⟩
        · rw [List.getElem?_set_ne hj] at a ⊢; exact E2.own j u a
      · by_cases hj : i = j
        · by_cases hk : i = k
          · exact hj.symm.trans hk
          · subst hj
            rw [List.getElem?_set_self hσ] at c
            cases c
            rw [List.getElem?_set_ne hk] at b c'
            exact absurd ⟨k, u', b, c'⟩ no
        · by_cases hk : i = k
          · subst hk
            rw [List.getElem?_set_self hσ] at c'
            cases c'
            rw [List.getElem?_set_ne hj] at a c
            exact absurd ⟨j, u, a, c⟩ no
          · rw [List.getElem?_set_ne hj] at a c
            rw [List.getElem?_set_ne hk] at b c'
            exact E2.sep j k u u' q a b c c'
    · rw [if_neg hi] at h; exact h.elim
theorem s_own {i : Nat} {x : Str} {pos' : Pos} (hN : X.N.Nodup) (hi : X.N[i]? = some x) (hx : Loc X.env.scope x) (he : PFd X W f e) (hs : swapsWith e (some (.Name x pos')) pos.line X.env = pure false := by rfl) (hf : X.fn x = true ∨ X.env.scope.names.lookup x = some .local := by first | exact .inl rfl | exact .inr rfl | assumption) :
    PSd X W (sOwn i f) (.Assign [.Name x pos'] e pos) :=
  PS.imp (ps_set hN hi hx he hs hf) fun De σ H ⟨ρ, I, s, M, E, h⟩ => ⟨ρ, I, s, M, E, own_fin M E h⟩
/-! new objects -/
def fLst (fs : S → R (List D)) (s : S) : R MO := (fs s).bind fun ds s => if few ds = true then .ok (.lst ds) s else .stuck
theorem f_lst {es : List Expr} {fs : S → R (List D)} (h : PAd X W fs es) : PFd X W (fLst fs) (.List es pos) :=
  PE.imp (pe_lst h) fun σ H Q ⟨ρ, I, s, M, E, h⟩ => dG.bindO M E h fun ds s1 ρ1 I1 H1 vs M1 E1 r h => by
    cases e : few ds with
    | false => rw [e] at h; exact h.elim
    | true =>
      rw [e] at h
      refine ⟨by rw [← r.length]; exact of_decide_eq_true e, fun p hp => ?_⟩
      have x : Ext I1 H1 I1 (upd H1 p (.lst vs)) := Ext.fresh hp
      exact h.here M1 E1 hp ⟨vs, upd_same, r.ext x M1.dis⟩
def fDct0 (s : S) : R MO := .ok (.dct [] []) s
theorem f_dct0 : PFd X W fDct0 (.Dict [] [] pos) :=
  PE.imp pe_dnewK fun σ H Q ⟨ρ, I, s, M, E, h⟩ => fun p hp => h.here M E hp ⟨[], upd_same, rfl, .nil⟩

/-! ### what a name owns is changed -/
theorem own_upd {K : KF} {ρ : List Addr} {I : Addr → Prop} {H : Hp} {σ : L2.St} {e : List (Option Cell)} {m : List MO} {i : Nat} {o o' : MO} {p : Addr} {u : HO} (M : MemOk K ρ I H m) (E : EnvOk K ρ I H σ e) (he : e[i]? = some (some (.own o))) (hp : σ[i]? = some (some (.ref p)))
    (r : ∀ H', Lat ρ I H ρ I H' → H' p = some u → ObjRel K ρ I H' p o') :
    Frm ρ I H (Own σ e) ρ I (upd H p u) (Own σ (e.set i (some (.own o')))) ∧ MemOk K ρ I (upd H p u) m ∧ EnvOk K ρ I (upd H p u) σ (e.set i (some (.own o'))) := by
  obtain ⟨q, h1, h2, h3, h4⟩ := E.own i o he
  rw [hp] at h1
  cases h1
  have hi : i < e.length := (List.getElem?_eq_some_iff.mp he).1
  have ne : ∀ q, H q ≠ none → (I q ∨ q ∈ ρ) → q ≠ p := fun q _ h z => h.elim (fun a => h3 (z ▸ a)) fun a => h4 (z ▸ a)
  have lat : Lat ρ I H ρ I (upd H p u) := ⟨fun _ h => h, fun q w hI hq => by rw [upd_ne (fun (z : q = p) => h3 (z ▸ hI))]; exact hq, fun _ _ h => h⟩
  refine ⟨⟨fun q h => ?_, fun q w h _ no => ?_, fun _ _ h => h, fun _ h n => absurd h n, fun _ h => h, fun _ h n => absurd h n, fun q h => ?_⟩, ⟨M.len, M.nd, M.dis, fun q hq => ?_, fun n q w a b => ?_⟩, ⟨by rw [List.length_set]; exact E.len, fun j d a => ?_, fun j w a => ?_, fun j k w w' q a b c c' => ?_⟩⟩
  · by_cases hq : q = p
    · subst hq; rw [upd_same]; simp
    · rw [upd_ne hq]; exact h
  · rw [upd_ne]; exact h
    intro z
    exact no ⟨i, o, he, z ▸ hp⟩
  · obtain ⟨j, w, a, b⟩ := h
    by_cases hj : i = j
    · subst hj; exact .inl ⟨i, o, he, b⟩
    · rw [List.getElem?_set_ne hj] at a; exact .inl ⟨j, w, a, b⟩
  · rw [upd_ne (fun (z : q = p) => h3 (z ▸ hq))]; exact M.dom q hq
  · have hq : q ∈ ρ := List.mem_of_getElem? a
    have r1 := M.obj n q w a b
    have r2 : upd H p u q = H q := upd_ne fun (z : q = p) => h4 (z ▸ hq)
    cases w with
    | lst ds => obtain ⟨xs, e1, r⟩ := r1; exact ⟨xs, r2.trans e1, r.lat lat⟩
    | dct ks vs => obtain ⟨xs, e1, k, r⟩ := r1; exact ⟨xs, r2.trans e1, k, r.lat lat⟩
    | kdt ks vs => obtain ⟨xs, e1, r, r3, k⟩ := r1; exact ⟨xs, r2.trans e1, r.lat lat, r3.lat lat, k⟩
  · by_cases hj : i = j
    · subst hj; rw [List.getElem?_set_self hi] at a; cases a
    · rw [List.getElem?_set_ne hj] at a
      obtain ⟨v, a1, a2⟩ := E.val j d a
      exact ⟨v, a1, a2.lat lat⟩
  · by_cases hj : i = j
    · subst hj
      rw [List.getElem?_set_self hi] at a
      cases a
      exact ⟨p, hp, r _ lat upd_same, h3, h4⟩
    · rw [List.getElem?_set_ne hj] at a
      obtain ⟨q, a1, a2, a3, a4⟩ := E.own j w a
      have nq : q ≠ p := fun z => hj (E.sep i j o w p he a hp (z ▸ a1))
      have r2 : upd H p u q = H q := upd_ne nq
      refine ⟨q, a1, ?_, a3, a4⟩
      cases w with
      | lst ds => obtain ⟨xs, e1, r⟩ := a2; exact ⟨xs, r2.trans e1, r.lat lat⟩
      | dct ks vs => obtain ⟨xs, e1, k, r⟩ := a2; exact ⟨xs, r2.trans e1, k, r.lat lat⟩
      | kdt ks vs => obtain ⟨xs, e1, r, r3, k⟩ := a2; exact ⟨xs, r2.trans e1, r.lat lat, r3.lat lat, k⟩
  · have all : ∀ {j : Nat} {w : MO}, (e.set i (some (.own o')))[j]? = some (some (.own w)) → ∃ w', e[j]? = some (some (.own w')) := fun {j w} a => by
      by_cases hj : i = j
      · subst hj; exact ⟨o, he⟩
      · rw [List.getElem?_set_ne hj] at a; exact ⟨w, a⟩
    obtain ⟨w1, a⟩ := all a
    obtain ⟨w2, b⟩ := all b
    exact E.sep j k w1 w2 q a b c c'
def ownL (e : List (Option Cell)) (i : Nat) : Option (List D) := match e[i]? with
  | some (some (.own (.lst xs))) => some xs
  | _ => none
theorem ownL_of {e : List (Option Cell)} {i : Nat} {xs : List D} (h : ownL e i = some xs) : e[i]? = some (some (.own (.lst xs))) := by
  unfold ownL at h
  split at h
  · rename_i q; cases h; exact q
  · cases h
/-- x.append(e): x owns its list -/
def sApp (i : Nat) (fe : S → R D) (s : S) : Rs := match ownL s.env i with
  | none => .stuck
  | some _ => (fe s).stm fun d s => match ownL s.env i with
    | none => .stuck
    | some xs => if xs.length < sizeLine then .next { s with env := s.env.set i (some (.own (.lst (xs ++ [d])))) } else .stuck
theorem tyL {K : KF} {p : Addr} {H : Hp} {xs : List V} (h : H p = some (.lst xs)) : tyV K "list" (.ref p) H := Or.inl ⟨rfl, _, Or.inl (Or.inl h)⟩
theorem s_app {i : Nat} {x : Str} {p0 apos cpos spos : Pos} {fe : S → R D} (hN : X.N[i]? = some x) (hv : Vis X.env.scope x) (he : PEd X W fe e)
    (hbase : attributeBase (.Name x p0) "append" X.env (eval (.Name x p0) X.env) = eval (.Name x p0) X.env := by rfl)
    (hfew : ((backTo cpos (starEach [e] X.env)).all (fun x => !x.1) && (backToKw cpos (keywordEach [] X.env)).all (fun x => x.1.isSome)
      && decide (([e] : List Expr).length + ([] : List Keyword).length + (if ([] : List Keyword).isEmpty then 0 else 1) < 30)) = true := by rfl)
    (hline : (apos.endLine == cpos.line) = true := by rfl) (hs : starEach [e] X.env = (false, eval e X.env) :: starEach [] X.env := by rfl) (hplain : (backTo cpos (starEach [] X.env)).any (·.1) = false := by rfl)
    (hsw : swapsWith (.Call (.Attribute (.Name x p0) "append" apos) [e] [] cpos) none spos.line X.env = pure false := by rfl) (hd : (x == ("__debug__" : Str)) = false := by decide) (hcd : (x == ("__classdict__" : Str)) = false := by decide) :
    PSd X W (sApp i fe) (.Expr (.Call (.Attribute (.Name x p0) "append" apos) [e] [] cpos) spos) := by
  refine PS.imp (ps_expr (pe_bm PySem.F.plainAttrs_list PySem.F.slot_list_append PySem.F.type_list_append mt_append (pe_var hN hv hd hcd) (pa_cons he pa_nil hs) hbase hfew hline hs hplain) hsw) fun De σ H ⟨ρ, I, s, M, E, h⟩ => ?_
  unfold sApp at h
  cases e1 : ownL s.env i with
  | none => rw [e1] at h; exact h.elim
  | some xs =>
    rw [e1] at h
    obtain ⟨p, hp, ⟨ys, hy, _⟩, _, _⟩ := E.own i _ (ownL_of e1)
    refine ⟨.ref p, hp, tyL hy, dG.stm M E h fun d s2 ρ2 I2 H2 v f2 M2 E2 r h => ?_⟩
    cases e2 : ownL s2.env i with
    | none => rw [e2] at h; exact h.elim
    | some xs2 =>
      rw [e2] at h
      dsimp only at h
      obtain ⟨q, hq, ⟨zs, hz, rz⟩, _, _⟩ := E2.own i _ (ownL_of e2)
      rw [hp] at hq
      cases hq
      split at h
      · rename_i hl
        obtain ⟨a, b, c⟩ := own_upd (o' := .lst (xs2 ++ [d])) (u := .lst (zs ++ [v])) M2 E2 (ownL_of e2) hp fun H' l hh => ⟨_, hh, (rz.lat l).append (.cons (r.lat l) .nil)⟩
        exact ⟨p, zs, v, rfl, rfl, hz, by rw [← rz.length]; exact hl, h _ _ _ _ a b c⟩
      · exact h.elim
/-- x.pop(): x owns its list -/
def ePop (i : Nat) (s : S) : R D := match ownL s.env i with
  | none => .stuck
  | some xs => match xs[xs.length - 1]? with
    | none => .stuck
    | some d => .ok d { s with env := s.env.set i (some (.own (.lst xs.dropLast))) }
theorem d_pop {i : Nat} {x : Str} {p0 apos cpos : Pos} (hN : X.N[i]? = some x) (hv : Vis X.env.scope x)
    (hbase : attributeBase (.Name x p0) "pop" X.env (eval (.Name x p0) X.env) = eval (.Name x p0) X.env := by rfl) (hline : (apos.endLine == cpos.line) = true := by rfl) (hd : (x == ("__debug__" : Str)) = false := by decide) (hcd : (x == ("__classdict__" : Str)) = false := by decide) :
    PEd X W (ePop i) (.Call (.Attribute (.Name x p0) "pop" apos) [] [] cpos) := by
  refine PE.imp (pe_bm0 PySem.F.plainAttrs_list PySem.F.slot_list_pop PySem.F.type_list_pop mt_pop (pe_var hN hv hd hcd) hbase hline) fun σ H Q ⟨ρ, I, s, M, E, h⟩ => ?_
  unfold ePop at h
  cases e1 : ownL s.env i with
  | none => rw [e1] at h; exact h.elim
  | some xs =>
    rw [e1] at h
    dsimp only at h
    obtain ⟨p, hp, ⟨ys, hy, ry⟩, _, _⟩ := E.own i _ (ownL_of e1)
    cases e2 : xs[xs.length - 1]? with
    | none => rw [e2] at h; exact h.elim
    | some d =>
      rw [e2] at h
      obtain ⟨v, hv, rv⟩ := ry.get e2
      obtain ⟨a, b, c⟩ := own_upd (o' := .lst xs.dropLast) (u := .lst ys.dropLast) M E (ownL_of e1) hp fun H' l hh => ⟨_, hh, (ry.lat l).dropLast⟩
      refine ⟨.ref p, hp, tyL hy, p, ys, v, rfl, rfl, hy, by rw [← ry.length]; exact hv, h _ _ _ _ a b c (rv.lat ?_)⟩
      have hI : ¬ I p := by
        obtain ⟨q, h1, _, h3, _⟩ := E.own i _ (ownL_of e1)
        rw [hp] at h1; cases h1; exact h3
      exact ⟨fun _ h => h, fun q w hI' hq => by rw [upd_ne (fun (z : q = p) => hI (z ▸ hI'))]; exact hq, fun _ _ h => h⟩
end
end PM
end

section
set_option Elab.async false
set_option linter.all false
set_option maxRecDepth 100000
/-! PM7: list comprehensions. -/
namespace PM
open PySem PySem.Spec L2
variable [PWc]

/-- a comprehension's target: a name, or a tuple of names -/
inductive Tgt where
  | nm (i : Nat) | tp (is : List Nat)
def Tgt.slots : Tgt → List Nat
  | .nm i => [i]
  | .tp is => is
def gNmsT : List Nat → TGs
  | [] => L2.gNil
  | i :: is => L2.gCons (gName i) (gNmsT is)
def tgT (K : KF) : Tgt → TG
  | .nm i => gName i
  | .tp is => gTup K is.length (gNmsT is)
def setAll : List Nat → List D → S → S
  | i :: is, d :: ds, s => setAll is ds (s.set i d)
  | _, _, s => s
def tgD : Tgt → D → S → Option S
  | .nm i, d, s => some (s.set i d)
  | .tp is, .tup ds, s => if ds.length = is.length then some (setAll is ds s) else none
  | .tp _, _, _ => none
def wipeE (e : List (Option Cell)) : List Nat → List (Option Cell)
  | [] => e
  | v :: vs => (wipeE e vs).set v none
def restE (e e2 : List (Option Cell)) : List Nat → List (Option Cell)
  | [] => e2
  | v :: vs => (restE e e2 vs).set v (e.getD v none)
def noOwn (e : List (Option Cell)) (vs : List Nat) : Bool := vs.all fun v => match e[v]? with
  | some (some (.own _)) => false
  | _ => true

theorem wipe_get (σ : L2.St) (j : Nat) : ∀ vs : List Nat, (wipe σ vs)[j]? = if j ∈ vs then (if j < σ.length then some none else none) else σ[j]?
  | [] => by simp [wipe]
  | v :: vs => by
    have ih := wipe_get σ j vs
    unfold wipe
    by_cases hj : v = j
    · subst hj
      rw [if_pos List.mem_cons_self]
      by_cases hl : v < σ.length
      · rw [if_pos hl, List.getElem?_set_self (by rw [wipe_length]; exact hl)]
      · rw [if_neg hl, List.getElem?_eq_none (by rw [List.length_set, wipe_length]; omega)]
    · rw [List.getElem?_set_ne hj, ih]
      have : j ∈ v :: vs ↔ j ∈ vs := by simp [Ne.symm hj]
      simp only [this]
theorem wipeE_length (e : List (Option Cell)) : ∀ vs : List Nat, (wipeE e vs).length = e.length
  | [] => rfl
  | v :: vs => by unfold wipeE; rw [List.length_set, wipeE_length e vs]
theorem wipeE_get (e : List (Option Cell)) (j : Nat) : ∀ vs : List Nat, (wipeE e vs)[j]? = if j ∈ vs then (if j < e.length then some none else none) else e[j]?
  | [] => by simp [wipeE]
  | v :: vs => by
    have ih := wipeE_get e j vs
    unfold wipeE
    by_cases hj : v = j
    · subst hj
      rw [if_pos List.mem_cons_self]
      by_cases hl : v < e.length
      · rw [if_pos hl, List.getElem?_set_self (by rw [wipeE_length]; exact hl)]
      · rw [if_neg hl, List.getElem?_eq_none (by rw [List.length_set, wipeE_length]; omega)]
    · rw [List.getElem?_set_ne hj, ih]
      have : j ∈ v :: vs ↔ j ∈ vs := by simp [Ne.symm hj]
      simp only [this]
theorem restE_length (e e2 : List (Option Cell)) : ∀ vs : List Nat, (restE e e2 vs).length = e2.length
  | [] => rfl
  | v :: vs => by unfold restE; rw [List.length_set, restE_length e e2 vs]
theorem restE_get (e e2 : List (Option Cell)) (hl : e2.length = e.length) (j : Nat) : ∀ vs : List Nat, (restE e e2 vs)[j]? = if j ∈ vs then e[j]? else e2[j]?
  | [] => by simp [restE]
  | v :: vs => by
    have ih := restE_get e e2 hl j vs
    unfold restE
    by_cases hj : v = j
    · subst hj
      rw [if_pos List.mem_cons_self]
      by_cases h : v < e.length
      · rw [List.getElem?_set_self (by rw [restE_length, hl]; exact h), List.getD_eq_getElem?_getD, List.getElem?_eq_getElem h]; rfl
      · rw [List.getElem?_eq_none (by rw [List.length_set, restE_length, hl]; omega), List.getElem?_eq_none (by omega)]
    · rw [List.getElem?_set_ne hj, ih]
      have : j ∈ v :: vs ↔ j ∈ vs := by simp [Ne.symm hj]
      simp only [this]
theorem wipe_set {σ : L2.St} {i : Nat} {x : Option V} {vs : List Nat} (h : i ∈ vs) : wipe (σ.set i x) vs = wipe σ vs := by
  apply List.ext_getElem?
  intro j
  rw [wipe_get, wipe_get, List.length_set]
  by_cases hj : j ∈ vs
  · rw [if_pos hj, if_pos hj]
  · rw [if_neg hj, if_neg hj, List.getElem?_set_ne (fun (z : i = j) => hj (z ▸ h))]

theorem wipe_wipe (σ : L2.St) (vs : List Nat) : wipe (wipe σ vs) vs = wipe σ vs := by
  apply List.ext_getElem?
  intro j
  rw [wipe_get, wipe_length]
  by_cases hj : j ∈ vs
  · rw [if_pos hj, wipe_get, if_pos hj]
  · rw [if_neg hj]

section
variable {K : KF} {ρ : List Addr} {I : Addr → Prop} {H : Hp} {σ : L2.St}
theorem Frm.sub {O O' : Addr → Prop} (h : ∀ p, O' p → O p) : Frm ρ I H O ρ I H O' :=
  ⟨fun _ h => h, fun _ _ h _ _ => h, fun _ _ h => h, fun _ h n => absurd h n, fun _ h => h, fun _ h n => absurd h n, fun p z => .inl (h p z)⟩
theorem Frm.widen {ρ' : List Addr} {I' : Addr → Prop} {H' : Hp} {O O' O2 : Addr → Prop} (f : Frm ρ I H O ρ' I' H' O') (h : ∀ p, O2 p → O' p) : Frm ρ I H O ρ' I' H' O2 :=
  f.trans (Frm.sub h)
theorem EnvOk.wipe {e : List (Option Cell)} (vs : List Nat) (E : EnvOk K ρ I H σ e) : EnvOk K ρ I H (L2.wipe σ vs) (wipeE e vs) := by
  have get : ∀ {j : Nat} {c : Cell}, (wipeE e vs)[j]? = some (some c) → j ∉ vs ∧ e[j]? = some (some c) := fun {j c} a => by
    rw [wipeE_get] at a
    by_cases hj : j ∈ vs
    · rw [if_pos hj] at a; split at a <;> cases a
    · rw [if_neg hj] at a; exact ⟨hj, a⟩
  refine ⟨by rw [wipeE_length, wipe_length]; exact E.len, fun j d a => ?_, fun j u a => ?_, fun j k u u' q a b c c' => ?_⟩
  · obtain ⟨hj, a⟩ := get a
    rw [wipe_get, if_neg hj]
    exact E.val j d a
  · obtain ⟨hj, a⟩ := get a
    rw [wipe_get, if_neg hj]
    exact E.own j u a
  · obtain ⟨hj, a⟩ := get a
    obtain ⟨hk, b⟩ := get b
    rw [wipe_get, if_neg hj] at c
    rw [wipe_get, if_neg hk] at c'
    exact E.sep j k u u' q a b c c'
theorem Own.wipe {e : List (Option Cell)} {vs : List Nat} {p : Addr} (h : Own (L2.wipe σ vs) (wipeE e vs) p) : Own σ e p := by
  obtain ⟨j, u, a, b⟩ := h
  rw [wipeE_get] at a
  by_cases hj : j ∈ vs
  · rw [if_pos hj] at a; split at a <;> cases a
  · rw [if_neg hj] at a
    rw [wipe_get, if_neg hj] at b
    exact ⟨j, u, a, b⟩
theorem setAll_mem : ∀ (is : List Nat) (ds : List D) (s : S), (setAll is ds s).mem = s.mem
  | [], _, _ => by unfold setAll; rfl
  | _ :: _, [], _ => by unfold setAll; rfl
  | i :: is, d :: ds, s => by
    show (setAll is ds (s.set i d)).mem = s.mem
    rw [setAll_mem is ds]; rfl
/-- the target takes the item -/
theorem tgs_ok {vs : List Nat} : ∀ {is : List Nat} {ds : List D} {xs : List V} {σ : L2.St} {s : S} {Q : L2.St → Hp → Prop}, is ⊆ vs → EnvOk K ρ I H σ s.env → RelL K ρ I H ds xs → ds.length = is.length →
    (∀ σ2, EnvOk K ρ I H σ2 (setAll is ds s).env → (∀ p, Own σ2 (setAll is ds s).env p → Own σ s.env p) → L2.wipe σ2 vs = L2.wipe σ vs → Q σ2 H) → gNmsT is xs σ H Q
  | [], _, _, σ, s, Q, _, E, .nil, _, h => ⟨rfl, h σ E (fun _ z => z) rfl⟩
  | i :: is, _, _, σ, s, Q, sub, E, .cons (d := d) (v := v) a b, hl, h => by
    refine ⟨v, _, rfl, ?_⟩
    show gNmsT is _ (σ.set i (some v)) H Q
    refine tgs_ok (s := s.set i d) (fun x hx => sub (List.mem_cons_of_mem _ hx)) (E.set a) b (by simpa using hl) fun σ2 E2 o2 w2 => ?_
    exact h σ2 E2 (fun p z => Own.set (o2 p z)) (w2.trans (wipe_set (sub List.mem_cons_self)))
theorem tg_ok {vs : List Nat} {t : Tgt} {d : D} {x : V} {s s2 : S} {Q : L2.St → Hp → Prop} (sub : t.slots ⊆ vs) (E : EnvOk K ρ I H σ s.env) (r : Rel K ρ I H d x) (e : tgD t d s = some s2)
    (h : ∀ σ2, EnvOk K ρ I H σ2 s2.env → s2.mem = s.mem → (∀ p, Own σ2 s2.env p → Own σ s.env p) → L2.wipe σ2 vs = L2.wipe σ vs → Q σ2 H) : tgT K t x σ H Q := by
  cases t with
  | nm i => cases e; exact h _ (E.set r) rfl (fun p z => Own.set z) (wipe_set (sub List.mem_cons_self))
  | tp is =>
    cases r with
    | @tup ds p xs hi r =>
      have e : (if ds.length = is.length then some (setAll is ds s) else none) = some s2 := e
      split at e
      · rename_i hl
        cases e
        exact ⟨p, xs, rfl, hi.sq, by rw [← r.length]; exact hl, tgs_ok sub E r hl fun σ2 E2 o2 w2 => h σ2 E2 (setAll_mem is ds s) o2 w2⟩
      · cases e
    | _ => cases e
/-- behind the block -/
theorem EnvOk.rest {ρ2 : List Addr} {I2 : Addr → Prop} {H2 : Hp} {σ2 : L2.St} {e e2 : List (Option Cell)} {vs : List Nat} (E : EnvOk K ρ I H σ e) (l : Lat ρ I H ρ2 I2 H2) (E2 : EnvOk K ρ2 I2 H2 σ2 e2) (hw : L2.wipe σ2 vs = L2.wipe σ vs) (hn : noOwn e vs = true) :
    EnvOk K ρ2 I2 H2 σ (restE e e2 vs) ∧ ∀ p, Own σ (restE e e2 vs) p → Own σ2 e2 p := by
  have hlen : e2.length = e.length := by
    rw [E2.len, E.len]
    have := congrArg List.length hw
    rw [wipe_length, wipe_length] at this
    exact this
  have off : ∀ {j : Nat}, j ∉ vs → σ2[j]? = σ[j]? := fun {j} hj => by
    have this : (L2.wipe σ2 vs)[j]? = (L2.wipe σ vs)[j]? := by rw [hw]
    rw [wipe_get, wipe_get, if_neg hj, if_neg hj] at this
    exact this
  have own : ∀ {j : Nat} {u : MO}, (restE e e2 vs)[j]? = some (some (.own u)) → j ∉ vs ∧ e2[j]? = some (some (.own u)) := fun {j u} a => by
    rw [restE_get e e2 hlen] at a
    by_cases hj : j ∈ vs
    · rw [if_pos hj] at a
      have := List.all_eq_true.mp hn j hj
      rw [a] at this
      cases this
    · rw [if_neg hj] at a; exact ⟨hj, a⟩
  refine ⟨⟨by rw [restE_length, hlen]; exact E.len, fun j d a => ?_, fun j u a => ?_, fun j k u u' q a b c c' => ?_⟩, fun p z => ?_⟩
  · rw [restE_get e e2 hlen] at a
    by_cases hj : j ∈ vs
    · rw [if_pos hj] at a
      obtain ⟨v, h1, h2⟩ := E.val j d a
      exact ⟨v, h1, h2.lat l⟩
    · rw [if_neg hj] at a
      rw [← off hj]
      exact E2.val j d a
  · obtain ⟨hj, a⟩ := own a
    rw [← off hj]
    exact E2.own j u a
  · obtain ⟨hj, a⟩ := own a
    obtain ⟨hk, b⟩ := own b
    exact E2.sep j k u u' q a b (by rw [off hj]; exact c) (by rw [off hk]; exact c')
  · obtain ⟨j, u, a, b⟩ := z
    obtain ⟨hj, a⟩ := own a
    exact ⟨j, u, a, by rw [off hj]; exact b⟩
end

def lcItems (vs : List Nat) (t : Tgt) (ft : S → R Bool) (fe : S → R D) : List D → S → R (List D)
  | [], s => .ok [] s
  | d :: ds, s => if noOwn s.env vs = true then (match tgD t d { s with env := wipeE s.env vs } with
    | none => .stuck
    | some s2 => match ft s2 with
      | .ok true s3 => (match fe s3 with
        | .ok y s4 => (lcItems vs t ft fe ds { s4 with env := restE s.env s4.env vs }).bind fun ys s => .ok (y :: ys) s
        | _ => .stuck)
      | .ok false s3 => lcItems vs t ft fe ds { s3 with env := restE s.env s3.env vs }
      | _ => .stuck) else .stuck
def eLc (vs : List Nat) (t : Tgt) (fi : S → R (List D)) (ft : S → R Bool) (fe : S → R D) (s : S) : R MO :=
  (fi s).bind fun ds s => if few ds = true then (lcItems vs t ft fe ds s).bind fun ys s => .ok (.lst ys) s else .stuck
theorem R.bind_bind {α β γ : Type} (r : R α) (f : α → S → R β) (g : β → S → R γ) : (r.bind f).bind g = r.bind fun a s => (f a s).bind g := by cases r <;> rfl

theorem lc_dF {K : KF} {mg : Str → Option Value} {W : XK} {vs : List Nat} {t : Tgt} {fi : S → R (List D)} {ft : S → R Bool} {fe : S → R D} (sub : t.slots ⊆ vs) {σ : L2.St} {H : Hp} {Q : VK} (h : dF K mg W (eLc vs t fi ft fe) σ H Q) :
    tLc (dI K mg W fi) (tgT K t) (dT K mg E0 ft) (dE K mg E0 fe) vs σ H Q := by
  obtain ⟨ρ, I, s, M, E, h⟩ := h
  refine dG.bindO M E h fun ds s1 ρ1 I1 H1 J M1 E1 y h => ?_
  cases efew : few ds with
  | false => rw [efew] at h; exact h.elim
  | true =>
  rw [efew] at h
  have h : FinO K mg W σ Q ρ1 I1 H1 (Own σ s1.env) ((lcItems vs t ft fe ds s1).bind (fun ys s => .ok (.lst ys) s)) := h
  have hz : ds.length ≤ sizeLine := of_decide_eq_true efew
  intro D0 hD
  obtain ⟨P, hP⟩ : ∃ P : Nat → Hp → Prop, P = (fun (i : Nat) (H : Hp) => ∃ ρ I s acc accV, Frm ρ1 I1 H1 (Own σ s1.env) ρ I H (Own σ s.env) ∧ MemOk K ρ I H s.mem ∧ EnvOk K ρ I H σ s.env ∧ acc.length ≤ i ∧ H D0 = some (.lst accV) ∧ RelL K ρ I H acc accV ∧
      ¬ I D0 ∧ D0 ∉ ρ ∧ ¬ Own σ s.env D0 ∧ FinO K mg W σ Q ρ1 I1 H1 (Own σ s1.env) ((lcItems vs t ft fe (ds.drop i) s).bind fun ys s => .ok (.lst (acc ++ ys)) s)) := ⟨_, rfl⟩
  refine ⟨fun i m H => m = ds.length - i ∧ i ≤ ds.length ∧ P i H, ⟨ds.length, by simp, Nat.zero_le _, ?_⟩, ?_⟩
  · rw [hP]
    have nI : ¬ I1 D0 := fun z => M1.dom _ z hD
    have nr : D0 ∉ ρ1 := fun z => M1.there z hD
    have no : ¬ Own σ s1.env D0 := fun z => (E1.ownI z).1 hD
    obtain ⟨l, M2, E2⟩ := priv_ok (u := .lst []) M1 E1 nI nr no
    exact ⟨ρ1, I1, s1, [], [], (Frm.refl ρ1 I1 H1 _).priv hD, M2, E2, Nat.le_refl _, upd_same, .nil, nI, nr, no, h⟩
  · rintro i m H2 ⟨rfl, hi, p⟩
    rw [hP] at p
    obtain ⟨ρ2, I2, s2, acc, accV, fr, M2, E2, hacc, hD2, ra, nI, nr, no, h2⟩ := p
    obtain ⟨y1, y2⟩ := y ρ2 I2 H2 (fr.lat M1.dis fun p o => (E1.ownI o).2.1) M2.dis i
    by_cases hlt : i < ds.length
    · right
      obtain ⟨go, yl⟩ := y1 _ (List.getElem?_eq_getElem hlt)
      refine ⟨go, P (i + 1), fun H' q => ⟨ds.length - (i + 1), by omega, rfl, hlt, q⟩, fun x H3 hy => ?_⟩
      obtain ⟨I3, x3, r3⟩ := yl x H3 hy
      rw [List.drop_eq_getElem_cons hlt] at h2
      have h2 : FinO K mg W σ Q ρ1 I1 H1 (Own σ s1.env) ((if noOwn s2.env vs = true then (match tgD t ds[i] { s2 with env := wipeE s2.env vs } with
        | none => R.stuck
        | some s2' => match ft s2' with
          | .ok true s3 => (match fe s3 with
            | .ok y s4 => (lcItems vs t ft fe (ds.drop (i + 1)) { s4 with env := restE s2.env s4.env vs }).bind fun ys s => .ok (y :: ys) s
            | _ => R.stuck)
          | .ok false s3 => lcItems vs t ft fe (ds.drop (i + 1)) { s3 with env := restE s2.env s3.env vs }
          | _ => R.stuck) else R.stuck).bind fun ys s => .ok (.lst (acc ++ ys)) s) := h2
      have M3 := M2.ext x3
      have E3 := E2.ext M2.dis x3
      have nI3 : ¬ I3 D0 := x3.not (by rw [hD2]; simp) nI
      have hD3 := x3.keep _ _ hD2
      by_cases hno : noOwn s2.env vs = true
      · rw [if_pos hno] at h2
        cases et : tgD t ds[i] { s2 with env := wipeE s2.env vs } with
        | none => rw [et] at h2; exact h2.elim
        | some s4 =>
          rw [et] at h2
          dsimp only at h2
          refine tg_ok (s := { s2 with env := wipeE s2.env vs }) sub (E3.wipe vs) r3 et fun σ4 E4 m4 o4 w4 => ⟨w4.trans (wipe_wipe σ vs), ?_⟩
          have w4' : L2.wipe σ4 vs = L2.wipe σ vs := w4.trans (wipe_wipe σ vs)
          have M4 : MemOk K ρ2 I3 H3 s4.mem := by rw [m4]; exact M3
          have fr4 : Frm ρ1 I1 H1 (Own σ s1.env) ρ2 I3 H3 (Own σ4 s4.env) := (fr.trans (x3.frm ρ2 _)).widen fun p z => Own.wipe (o4 p z)
          have no4 : ¬ Own σ4 s4.env D0 := fun z => no (Own.wipe (o4 _ z))
          refine ⟨ρ2, I3, s4, M4, E4, ?_⟩
          cases eft : ft s4 with
          | err x m => rw [eft] at h2; exact h2.elim
          | stuck => rw [eft] at h2; exact h2.elim
          | ok b s5 =>
            rw [eft] at h2
            intro ρ5 I5 H5 b' f5 M5 E5 rb
            subst rb
            have nI5 : ¬ I5 D0 := fun z => (f5.inew _ z nI3).elim (fun q => by rw [hD3] at q; cases q) no4
            have nr5 : D0 ∉ ρ5 := fun z => by
              have := f5.rnew _ z nr
              rw [hD3] at this; cases this
            have hD5 := f5.keep _ _ hD3 nr no4
            have no5 : ¬ Own σ4 s5.env D0 := fun z => (f5.onew _ z).elim no4 fun q => by rw [hD3] at q; cases q
            have l5 : Lat ρ2 I2 H2 ρ5 I5 H5 := (x3.lat ρ2).trans (f5.lat M4.dis fun p o => (E4.ownI o).2.1)
            cases b with
            | false =>
              refine iteF ?_
              dsimp only at h2
              rw [hP]
              obtain ⟨E6, o6⟩ := E2.rest l5 E5 w4' hno
              exact ⟨ρ5, I5, { s5 with env := restE s2.env s5.env vs }, acc, accV, (fr4.trans f5).widen o6, M5, E6, by omega, hD5, ra.lat l5, nI5, nr5, fun z => no5 (o6 _ z), h2⟩
            | true =>
              refine iteT ⟨ρ5, I5, s5, M5, E5, ?_⟩
              dsimp only at h2
              cases efe : fe s5 with
              | err x m => rw [efe] at h2; exact h2.elim
              | stuck => rw [efe] at h2; exact h2.elim
              | ok yd s6 =>
                rw [efe] at h2
                dsimp only at h2
                intro ρ6 I6 H6 yv f6 M6 E6 ry
                have nI6 : ¬ I6 D0 := fun z => (f6.inew _ z nI5).elim (fun q => by rw [hD5] at q; cases q) no5
                have nr6 : D0 ∉ ρ6 := fun z => by
                  have := f6.rnew _ z nr5
                  rw [hD5] at this; cases this
                have hD6 := f6.keep _ _ hD5 nr5 no5
                have no6 : ¬ Own σ4 s6.env D0 := fun z => (f6.onew _ z).elim no5 fun q => by rw [hD5] at q; cases q
                have l6 : Lat ρ2 I2 H2 ρ6 I6 H6 := l5.trans (f6.lat M5.dis fun p o => (E5.ownI o).2.1)
                have hlacc : accV.length < sizeLine := by rw [← ra.length]; omega
                refine ⟨accV, hD6, hlacc, ?_⟩
                rw [hP]
                obtain ⟨E7, o7⟩ := E2.rest l6 E6 w4' hno
                have no7 : ¬ Own σ (restE s2.env s6.env vs) D0 := fun z => no6 (o7 _ z)
                obtain ⟨l8, M8, E8⟩ := priv_ok (u := .lst (accV ++ [yv])) M6 E7 nI6 nr6 no7
                refine ⟨ρ6, I6, { s6 with env := restE s2.env s6.env vs }, acc ++ [yd], accV ++ [yv], ((fr4.trans f5).trans f6 |>.widen o7).priv hD, M8, E8, by rw [List.length_append]; simp; omega, upd_same, (ra.lat (l6.trans l8)).append (.cons (ry.lat l8) .nil), nI6, nr6, no7, ?_⟩
                rw [R.bind_bind] at h2
                have e : (fun (ys : List D) (s : S) => (R.ok (MO.lst (acc ++ [yd] ++ ys)) s : R MO)) = fun ys s => .ok (.lst (acc ++ yd :: ys)) s := by
                  funext ys s
                  rw [List.append_assoc]; rfl
                rw [e]
                exact h2
      · rw [if_neg hno] at h2; exact h2.elim
    · left
      have e : i = ds.length := by omega
      refine ⟨y2 (by omega), ?_⟩
      rw [e, List.drop_length] at h2
      have h2 : FinO K mg W σ Q ρ1 I1 H1 (Own σ s1.env) (.ok (.lst (acc ++ [])) s2) := h2
      rw [List.append_nil] at h2
      exact h2 ρ2 I2 H2 D0 fr M2 E2 ⟨accV, hD2, ra⟩ nI nr no hD
end PM
end

section
set_option Elab.async false
set_option linter.all false
set_option maxRecDepth 100000
/-! PM8: comprehensions with two sources; the rules for comprehensions. -/
namespace PM
open PySem PySem.Spec L2
variable [PWc]

def lcC (vs : List Nat) (t : Tgt) (ft : S → R Bool) (fe : S → R D) : List D → Nat → S → R (List D)
  | [], _, s => .ok [] s
  | d :: ds, n, s => if noOwn s.env vs = true then (match tgD t d { s with env := wipeE s.env vs } with
    | none => .stuck
    | some s2 => match ft s2 with
      | .ok true s3 => (match fe s3 with
        | .ok y s4 => if n < sizeLine then (lcC vs t ft fe ds (n + 1) { s4 with env := restE s.env s4.env vs }).bind fun ys s => .ok (y :: ys) s else .stuck
        | _ => .stuck)
      | .ok false s3 => lcC vs t ft fe ds n { s3 with env := restE s.env s3.env vs }
      | _ => .stuck) else .stuck

/-- where a block stands: its frame so far, the new list at D0 -/
structure Blk (K : KF) (σ : L2.St) (D0 : Addr) (ρ1 : List Addr) (I1 : Addr → Prop) (H1 : Hp) (O1 : Addr → Prop) (ρ : List Addr) (I : Addr → Prop) (H : Hp) (s : S) (acc : List D) (accV : List V) : Prop where
  fr : Frm ρ1 I1 H1 O1 ρ I H (Own σ s.env)
  M : MemOk K ρ I H s.mem
  E : EnvOk K ρ I H σ s.env
  hD : H D0 = some (.lst accV)
  ra : RelL K ρ I H acc accV
  nI : ¬ I D0
  nr : D0 ∉ ρ
  no : ¬ Own σ s.env D0
section
variable {K : KF} {mg : Str → Option Value} {σ : L2.St} {D0 : Addr} {ρ1 ρ : List Addr} {I1 I : Addr → Prop} {H1 H : Hp} {O1 : Addr → Prop} {s : S} {acc : List D} {accV : List V}
/-- a step within: the list is as it was -/
theorem Blk.go {σ2 : L2.St} {s2 : S} {ρ2 : List Addr} {I2 : Addr → Prop} {H2 : Hp} (b : Blk K σ D0 ρ1 I1 H1 O1 ρ I H s acc accV) (f : Frm ρ I H (Own σ s.env) ρ2 I2 H2 (Own σ2 s2.env)) (M2 : MemOk K ρ2 I2 H2 s2.mem) (E2 : EnvOk K ρ2 I2 H2 σ2 s2.env) : Blk K σ2 D0 ρ1 I1 H1 O1 ρ2 I2 H2 s2 acc accV :=
  ⟨b.fr.trans f, M2, E2, f.keep _ _ b.hD b.nr b.no, b.ra.lat (f.lat b.M.dis fun p o => (b.E.ownI o).2.1), fun z => (f.inew _ z b.nI).elim (fun q => by rw [b.hD] at q; cases q) b.no,
    fun z => (show ¬ (D0 ∈ ρ2) from fun z => (by
      have := f.rnew _ z b.nr
      rw [b.hD] at this; cases this)) z, fun z => (f.onew _ z).elim b.no fun q => by rw [b.hD] at q; cases q⟩
theorem Blk.app {s2 : S} {y : D} {yv : V} (b : Blk K σ D0 ρ1 I1 H1 O1 ρ I H s acc accV) (h1 : H1 D0 = none) (ry : Rel K ρ I H y yv) : Blk K σ D0 ρ1 I1 H1 O1 ρ I (upd H D0 (.lst (accV ++ [yv]))) s (acc ++ [y]) (accV ++ [yv]) := by
  obtain ⟨l, M, E⟩ := priv_ok (u := .lst (accV ++ [yv])) b.M b.E b.nI b.nr b.no
  exact ⟨b.fr.priv h1, M, E, upd_same, (b.ra.lat l).append (.cons (ry.lat l) .nil), b.nI, b.nr, b.no⟩

theorem lcC_loop {W0 : Prop} {vs : List Nat} {t : Tgt} {ft : S → R Bool} {fe : S → R D} (sub : t.slots ⊆ vs) {FinB : R MO → Prop} (hst : ¬ FinB .stuck) (h1 : H1 D0 = none) {ds : List D} {J : It} {k : List D → S → R MO} {Done : Hp → Prop}
    (y : Yields K ρ I H ds J) (b0 : Blk K σ D0 ρ1 I1 H1 O1 ρ I H s acc accV) (h0 : FinB ((lcC vs t ft fe ds acc.length s).bind fun ys s => k (acc ++ ys) s))
    (hdone : ∀ ρ' I' H' s' acc' accV', Lat ρ I H ρ' I' H' → Blk K σ D0 ρ1 I1 H1 O1 ρ' I' H' s' acc' accV' → FinB (k acc' s') → Done H') :
    ∃ W : Nat → Nat → Hp → Prop, (∃ m, W 0 m H) ∧ ∀ i m H, W i m H →
      (J.stop i H ∧ Done H) ∨ (J.go i H ∧ ∃ Nx : Hp → Prop, (∀ H', Nx H' → ∃ m', m' < m ∧ W (i + 1) m' H') ∧ ∀ x H', J.yld i H x H' → tgT K t x (L2.wipe σ vs) H' fun σ2 H2 => L2.wipe σ2 vs = L2.wipe σ vs ∧ dT K mg E0 ft σ2 H2 fun b H3 =>
        if b = true then dE K mg E0 fe σ2 H3 fun y H4 => ∃ acc, H4 D0 = some (.lst acc) ∧ acc.length < sizeLine ∧ Nx (upd H4 D0 (.lst (acc ++ [y]))) else Nx H3) := by
  obtain ⟨P, hP⟩ : ∃ P : Nat → Hp → Prop, P = (fun (i : Nat) (H' : Hp) => ∃ ρ' I' s' acc' accV', Lat ρ I H ρ' I' H' ∧ Blk K σ D0 ρ1 I1 H1 O1 ρ' I' H' s' acc' accV' ∧ FinB ((lcC vs t ft fe (ds.drop i) acc'.length s').bind fun ys s => k (acc' ++ ys) s)) := ⟨_, rfl⟩
  refine ⟨fun i m H => m = ds.length - i ∧ i ≤ ds.length ∧ P i H, ⟨ds.length, by simp, Nat.zero_le _, ?_⟩, ?_⟩
  · rw [hP]; exact ⟨ρ, I, s, acc, accV, Lat.refl _ _ _, b0, h0⟩
  · rintro i m H2 ⟨rfl, hi, p⟩
    rw [hP] at p
    obtain ⟨ρ2, I2, s2, acc2, accV2, l2, b2, h2⟩ := p
    obtain ⟨y1, y2⟩ := y ρ2 I2 H2 l2 b2.M.dis i
    by_cases hlt : i < ds.length
    · right
      obtain ⟨go, yl⟩ := y1 _ (List.getElem?_eq_getElem hlt)
      refine ⟨go, P (i + 1), fun H' q => ⟨ds.length - (i + 1), by omega, rfl, hlt, q⟩, fun x H3 hy => ?_⟩
      obtain ⟨I3, x3, r3⟩ := yl x H3 hy
      rw [List.drop_eq_getElem_cons hlt] at h2
      have h2 : FinB ((if noOwn s2.env vs = true then (match tgD t ds[i] { s2 with env := wipeE s2.env vs } with
        | none => R.stuck
        | some s2' => match ft s2' with
          | .ok true s3 => (match fe s3 with
            | .ok y s4 => if acc2.length < sizeLine then (lcC vs t ft fe (ds.drop (i + 1)) (acc2.length + 1) { s4 with env := restE s2.env s4.env vs }).bind fun ys s => .ok (y :: ys) s else R.stuck
            | _ => R.stuck)
          | .ok false s3 => lcC vs t ft fe (ds.drop (i + 1)) acc2.length { s3 with env := restE s2.env s3.env vs }
          | _ => R.stuck) else R.stuck).bind fun ys s => k (acc2 ++ ys) s) := h2
      have b3 : Blk K σ D0 ρ1 I1 H1 O1 ρ2 I3 H3 s2 acc2 accV2 := b2.go (x3.frm ρ2 _) (b2.M.ext x3) (b2.E.ext b2.M.dis x3)
      by_cases hno : noOwn s2.env vs = true
      · rw [if_pos hno] at h2
        cases et : tgD t ds[i] { s2 with env := wipeE s2.env vs } with
        | none => rw [et] at h2; exact (hst h2).elim
        | some s4 =>
          rw [et] at h2
          dsimp only at h2
          refine tg_ok (s := { s2 with env := wipeE s2.env vs }) sub (b3.E.wipe vs) r3 et fun σ4 E4 m4 o4 w4 => ⟨w4.trans (wipe_wipe σ vs), ?_⟩
          have w4' : L2.wipe σ4 vs = L2.wipe σ vs := w4.trans (wipe_wipe σ vs)
          have b4 : Blk K σ4 D0 ρ1 I1 H1 O1 ρ2 I3 H3 s4 acc2 accV2 := b3.go (Frm.sub fun p z => Own.wipe (o4 p z)) (by rw [m4]; exact b3.M) E4
          refine ⟨ρ2, I3, s4, b4.M, b4.E, ?_⟩
          cases eft : ft s4 with
          | err x m => rw [eft] at h2; exact (hst h2).elim
          | stuck => rw [eft] at h2; exact (hst h2).elim
          | ok b s5 =>
            rw [eft] at h2
            intro ρ5 I5 H5 b' f5 M5 E5 rb
            subst rb
            have b5 := b4.go f5 M5 E5
            have l5 : Lat ρ2 I2 H2 ρ5 I5 H5 := (x3.lat ρ2).trans (f5.lat b4.M.dis fun p o => (b4.E.ownI o).2.1)
            cases b with
            | false =>
              refine iteF ?_
              dsimp only at h2
              rw [hP]
              obtain ⟨E6, o6⟩ := b2.E.rest l5 E5 w4' hno
              exact ⟨ρ5, I5, { s5 with env := restE s2.env s5.env vs }, acc2, accV2, l2.trans l5, b5.go (Frm.sub o6) M5 E6, h2⟩
            | true =>
              refine iteT ⟨ρ5, I5, s5, M5, E5, ?_⟩
              dsimp only at h2
              cases efe : fe s5 with
              | err x m => rw [efe] at h2; exact (hst h2).elim
              | stuck => rw [efe] at h2; exact (hst h2).elim
              | ok yd s6 =>
                rw [efe] at h2
                dsimp only at h2
                intro ρ6 I6 H6 yv f6 M6 E6 ry
                have b6 := b5.go f6 M6 E6
                have l6 : Lat ρ2 I2 H2 ρ6 I6 H6 := l5.trans (f6.lat M5.dis fun p o => (E5.ownI o).2.1)
                by_cases hz : acc2.length < sizeLine
                · rw [if_pos hz] at h2
                  refine ⟨accV2, b6.hD, by rw [← b6.ra.length]; exact hz, ?_⟩
                  rw [hP]
                  obtain ⟨E7, o7⟩ := b2.E.rest l6 E6 w4' hno
                  have b7 : Blk K σ D0 ρ1 I1 H1 O1 ρ6 I6 H6 { s6 with env := restE s2.env s6.env vs } acc2 accV2 := b6.go (Frm.sub o7) M6 E7
                  have b8 := b7.app (s2 := s6) h1 ry
                  obtain ⟨l8, _, _⟩ := priv_ok (u := .lst (accV2 ++ [yv])) b7.M b7.E b7.nI b7.nr b7.no
                  refine ⟨ρ6, I6, { s6 with env := restE s2.env s6.env vs }, acc2 ++ [yd], accV2 ++ [yv], (l2.trans l6).trans l8, b8, ?_⟩
                  rw [R.bind_bind] at h2
                  have e : (fun (ys : List D) (s : S) => k (acc2 ++ [yd] ++ ys) s) = fun ys s => k (acc2 ++ yd :: ys) s := by
                    funext ys s
                    rw [List.append_assoc]; rfl
                  rw [e, List.length_append]
                  exact h2
                · rw [if_neg hz] at h2; exact (hst h2).elim
      · rw [if_neg hno] at h2; exact (hst h2).elim
    · left
      have e : i = ds.length := by omega
      refine ⟨y2 (by omega), ?_⟩
      rw [e, List.drop_length] at h2
      have h2 : FinB (k (acc2 ++ []) s2) := h2
      rw [List.append_nil] at h2
      exact hdone ρ2 I2 H2 s2 acc2 accV2 l2 b2 h2
end

/-- two sources: the items of the first, each with the second's -/
def lc2Items (vs vs1 : List Nat) (t t1 : Tgt) (ft : S → R Bool) (fi1 : S → R (List D)) (ft1 : S → R Bool) (fe : S → R D) : List D → Nat → S → R (List D)
  | [], _, s => .ok [] s
  | d :: ds, n, s => if noOwn s.env vs = true then (match tgD t d { s with env := wipeE s.env vs } with
    | none => .stuck
    | some s2 => match ft s2 with
      | .ok true s3 => (match fi1 s3 with
        | .ok ds1 s4 => (lcC vs1 t1 ft1 fe ds1 n s4).bind fun ys s5 => (lc2Items vs vs1 t t1 ft fi1 ft1 fe ds (n + ys.length) { s5 with env := restE s.env s5.env vs }).bind fun zs s => .ok (ys ++ zs) s
        | _ => .stuck)
      | .ok false s3 => lc2Items vs vs1 t t1 ft fi1 ft1 fe ds n { s3 with env := restE s.env s3.env vs }
      | _ => .stuck) else .stuck
def eLc2 (vs vs1 : List Nat) (t : Tgt) (fi : S → R (List D)) (ft : S → R Bool) (t1 : Tgt) (fi1 : S → R (List D)) (ft1 : S → R Bool) (fe : S → R D) (s : S) : R MO :=
  (fi s).bind fun ds s => (lc2Items vs vs1 t t1 ft fi1 ft1 fe ds 0 s).bind fun ys s => .ok (.lst ys) s
theorem lc2_dF {K : KF} {mg : Str → Option Value} {W : XK} {vs vs1 : List Nat} {t t1 : Tgt} {fi fi1 : S → R (List D)} {ft ft1 : S → R Bool} {fe : S → R D} (sub : t.slots ⊆ vs) (sub1 : t1.slots ⊆ vs1) {σ : L2.St} {H : Hp} {Q : VK} (h : dF K mg W (eLc2 vs vs1 t fi ft t1 fi1 ft1 fe) σ H Q)
    (hvs : ∀ i ∈ vs1, i ∈ vs) : tLc2 (dI K mg W fi) (tgT K t) (dT K mg E0 ft) (dI K mg E0 fi1) (tgT K t1) (dT K mg E0 ft1) (dE K mg E0 fe) vs vs1 σ H Q := by
  obtain ⟨ρ, I, s, M, E, h⟩ := h
  refine dG.bindO M E h fun ds s1 ρ1 I1 H1 J M1 E1 y h => ?_
  intro D0 hD
  have nI : ¬ I1 D0 := fun z => M1.dom _ z hD
  have nr : D0 ∉ ρ1 := fun z => M1.there z hD
  have no : ¬ Own σ s1.env D0 := fun z => (E1.ownI z).1 hD
  obtain ⟨l1, M2, E2⟩ := priv_ok (u := .lst []) M1 E1 nI nr no
  have b1 : Blk K σ D0 ρ1 I1 H1 (Own σ s1.env) ρ1 I1 (upd H1 D0 (.lst [])) s1 [] [] := ⟨(Frm.refl ρ1 I1 H1 _).priv hD, M2, E2, upd_same, .nil, nI, nr, no⟩
  obtain ⟨FinB, hF⟩ : ∃ F : R MO → Prop, F = FinO K mg W σ Q ρ1 I1 H1 (Own σ s1.env) := ⟨_, rfl⟩
  have hst : ¬ FinB .stuck := by rw [hF]; exact fun z => z
  rw [← hF] at h
  obtain ⟨P, hP⟩ : ∃ P : Nat → Hp → Prop, P = (fun (i : Nat) (H' : Hp) => ∃ ρ' I' s' acc' accV', Lat ρ1 I1 H1 ρ' I' H' ∧ Blk K σ D0 ρ1 I1 H1 (Own σ s1.env) ρ' I' H' s' acc' accV' ∧ FinB ((lc2Items vs vs1 t t1 ft fi1 ft1 fe (ds.drop i) acc'.length s').bind fun ys s => .ok (.lst (acc' ++ ys)) s)) := ⟨_, rfl⟩
  refine ⟨fun i m H => m = ds.length - i ∧ i ≤ ds.length ∧ P i H, ⟨ds.length, by simp, Nat.zero_le _, ?_⟩, ?_⟩
  · rw [hP]; exact ⟨ρ1, I1, s1, [], [], l1, b1, h⟩
  · rintro i m H2 ⟨rfl, hi, p⟩
    rw [hP] at p
    obtain ⟨ρ2, I2, s2, acc2, accV2, l2, b2, h2⟩ := p
    obtain ⟨y1, y2⟩ := y ρ2 I2 H2 l2 b2.M.dis i
    by_cases hlt : i < ds.length
    · right
      obtain ⟨go, yl⟩ := y1 _ (List.getElem?_eq_getElem hlt)
      refine ⟨go, P (i + 1), fun H' q => ⟨ds.length - (i + 1), by omega, rfl, hlt, q⟩, fun x H3 hy => ?_⟩
      obtain ⟨I3, x3, r3⟩ := yl x H3 hy
      rw [List.drop_eq_getElem_cons hlt] at h2
      have h2 : FinB ((if noOwn s2.env vs = true then (match tgD t ds[i] { s2 with env := wipeE s2.env vs } with
        | none => R.stuck
        | some s2' => match ft s2' with
          | .ok true s3 => (match fi1 s3 with
            | .ok ds1 s4 => (lcC vs1 t1 ft1 fe ds1 acc2.length s4).bind fun ys s5 => (lc2Items vs vs1 t t1 ft fi1 ft1 fe (ds.drop (i + 1)) (acc2.length + ys.length) { s5 with env := restE s2.env s5.env vs }).bind fun zs s => .ok (ys ++ zs) s
            | _ => R.stuck)
          | .ok false s3 => lc2Items vs vs1 t t1 ft fi1 ft1 fe (ds.drop (i + 1)) acc2.length { s3 with env := restE s2.env s3.env vs }
          | _ => R.stuck) else R.stuck).bind fun ys s => .ok (.lst (acc2 ++ ys)) s) := h2
      have b3 : Blk K σ D0 ρ1 I1 H1 (Own σ s1.env) ρ2 I3 H3 s2 acc2 accV2 := b2.go (x3.frm ρ2 _) (b2.M.ext x3) (b2.E.ext b2.M.dis x3)
      by_cases hno : noOwn s2.env vs = true
      · rw [if_pos hno] at h2
        cases et : tgD t ds[i] { s2 with env := wipeE s2.env vs } with
        | none => rw [et] at h2; exact (hst h2).elim
        | some s4 =>
          rw [et] at h2
          dsimp only at h2
          refine tg_ok (s := { s2 with env := wipeE s2.env vs }) sub (b3.E.wipe vs) r3 et fun σ4 E4 m4 o4 w4 => ⟨w4.trans (wipe_wipe σ vs), ?_⟩
          have w4' : L2.wipe σ4 vs = L2.wipe σ vs := w4.trans (wipe_wipe σ vs)
          have b4 : Blk K σ4 D0 ρ1 I1 H1 (Own σ s1.env) ρ2 I3 H3 s4 acc2 accV2 := b3.go (Frm.sub fun p z => Own.wipe (o4 p z)) (by rw [m4]; exact b3.M) E4
          refine ⟨ρ2, I3, s4, b4.M, b4.E, ?_⟩
          cases eft : ft s4 with
          | err x m => rw [eft] at h2; exact (hst h2).elim
          | stuck => rw [eft] at h2; exact (hst h2).elim
          | ok b s5 =>
            rw [eft] at h2
            intro ρ5 I5 H5 b' f5 M5 E5 rb
            subst rb
            have b5 := b4.go f5 M5 E5
            have l5 : Lat ρ2 I2 H2 ρ5 I5 H5 := (x3.lat ρ2).trans (f5.lat b4.M.dis fun p o => (b4.E.ownI o).2.1)
            cases b with
            | false =>
              refine iteF ?_
              dsimp only at h2
              rw [hP]
              obtain ⟨E6, o6⟩ := b2.E.rest l5 E5 w4' hno
              exact ⟨ρ5, I5, { s5 with env := restE s2.env s5.env vs }, acc2, accV2, l2.trans l5, b5.go (Frm.sub o6) M5 E6, h2⟩
            | true =>
              refine iteT ⟨ρ5, I5, s5, M5, E5, ?_⟩
              dsimp only at h2
              cases efi : fi1 s5 with
              | err x m => rw [efi] at h2; exact (hst h2).elim
              | stuck => rw [efi] at h2; exact (hst h2).elim
              | ok ds1 s6 =>
                rw [efi] at h2
                dsimp only at h2
                intro ρ6 I6 H6 J1 f6 M6 E6 yy
                have b6 := b5.go f6 M6 E6
                have l6 : Lat ρ2 I2 H2 ρ6 I6 H6 := l5.trans (f6.lat M5.dis fun p o => (E5.ownI o).2.1)
                rw [R.bind_bind] at h2
                refine lcC_loop (W0 := True) (k := fun acc s5 => (lc2Items vs vs1 t t1 ft fi1 ft1 fe (ds.drop (i + 1)) acc.length { s5 with env := restE s2.env s5.env vs }).bind fun zs s => R.ok (MO.lst (acc ++ zs)) s) sub1 hst hD yy b6 ?_ fun ρ7 I7 H7 s7 acc7 accV7 l7 b7 h7 => ?_
                · have e : (fun (ys : List D) (s5 : S) => (lc2Items vs vs1 t t1 ft fi1 ft1 fe (ds.drop (i + 1)) (acc2 ++ ys).length { s5 with env := restE s2.env s5.env vs }).bind fun zs s => R.ok (MO.lst (acc2 ++ ys ++ zs)) s) =
                      fun ys s5 => ((lc2Items vs vs1 t t1 ft fi1 ft1 fe (ds.drop (i + 1)) (acc2.length + ys.length) { s5 with env := restE s2.env s5.env vs }).bind fun zs s => R.ok (ys ++ zs) s).bind fun ys s => R.ok (MO.lst (acc2 ++ ys)) s := by
                    funext ys s5
                    rw [R.bind_bind, List.length_append]
                    congr 1
                    funext zs s
                    show R.ok (MO.lst (acc2 ++ ys ++ zs)) s = R.ok (MO.lst (acc2 ++ (ys ++ zs))) s
                    rw [List.append_assoc]
                  rw [e]
                  exact h2
                · rw [hP]
                  obtain ⟨E8, o8⟩ := b2.E.rest (l6.trans l7) b7.E w4' hno
                  exact ⟨ρ7, I7, { s7 with env := restE s2.env s7.env vs }, acc7, accV7, l2.trans (l6.trans l7), b7.go (Frm.sub o8) b7.M E8, h7⟩
      · rw [if_neg hno] at h2; exact (hst h2).elim
    · left
      have e : i = ds.length := by omega
      refine ⟨y2 (by omega), ?_⟩
      rw [e, List.drop_length] at h2
      have h2 : FinB (.ok (.lst (acc2 ++ [])) s2) := h2
      rw [List.append_nil, hF] at h2
      exact h2 ρ2 I2 H2 D0 b2.fr b2.M b2.E ⟨accV2, b2.hD, b2.ra⟩ b2.nI b2.nr b2.no hD
end PM
end

section
set_option Elab.async false
set_option linter.all false
set_option maxRecDepth 100000
/-! PM9: the rules for comprehensions, op=, a def by its body. -/
namespace PM
open PySem PySem.Spec L2
variable [PWc]

abbrev PTsd (X : Cx) (W : XK) (f : S → R Bool) (ifs : List Expr) : Prop := PTs X ifs (dT X.K X.mg W f)
def tYesD (s : S) : R Bool := .ok true s
section
variable {X : Cx} {W : XK} {pos : Pos}
theorem ts_nil : PTsd X W tYesD [] := ⟨fun pins s σ H Q I ⟨ρ, J, st, M, E, h⟩ => pts_nil.run pins s σ H Q I (h.here (Ext.refl _ _) M E rfl)⟩
theorem ts_one {c : Expr} {f : S → R Bool} (h : PTd X W f c) : PTsd X W f [c] := pts_one h
/-- the target's forms -/
theorem tg_nm {i : Nat} {x : Str} (hN : X.N.Nodup) (hi : X.N[i]? = some x) (hx : Loc X.env.scope x) (hf : X.fn x = true ∨ X.env.scope.names.lookup x = some .local := by first | exact .inl rfl | exact .inr rfl | assumption) : PG X (.Name x pos) (tgT X.K (.nm i)) := pg_name hN hi hx hf
theorem tgs_nil : PGs X [] (gNmsT []) := pgs_nil
theorem tgs_cons {i : Nat} {is : List Nat} {x : Str} {es : List Expr} (hN : X.N.Nodup) (hi : X.N[i]? = some x) (hx : Loc X.env.scope x) (h : PGs X es (gNmsT is)) (hf : X.fn x = true ∨ X.env.scope.names.lookup x = some .local := by first | exact .inl rfl | exact .inr rfl | assumption)
    (hs : (assignEach (.Name x pos :: es) X.env).map (·.2) = assign (.Name x pos) X.env :: (assignEach es X.env).map (·.2) := by rfl) : PGs X (.Name x pos :: es) (gNmsT (i :: is)) := pgs_cons (pg_name hN hi hx hf) h hs
theorem tg_tp {is : List Nat} {es : List Expr} {k : Nat} (hc : X.calm = true) (h : PGs X es (gNmsT is)) (hn : (assignEach es X.env).length = is.length := by rfl) (hst : (assignEach es X.env).findIdx? (·.1) = none := by rfl) : PG X (.Tuple es k pos) (tgT X.K (.tp is)) := pg_tup hc h hn hst

theorem f_lc {elt tg iter : Expr} {ifs : List Expr} {scope : Scope} {own : List (Str × Nat)} {t : Tgt} {fi : S → R (List D)} {ft : S → R Bool} {fe : S → R D} (hc : X.calm = true) (hN : X.N.Nodup) (hi : PId X W fi tg iter) (ok : BlkOk X.N X.env.scope scope own) (sub : t.slots ⊆ own.map (·.2))
    (hg : ∀ (s : Shared) (H : Hp) (C : Addr) (cl : List (Str × Addr)) (fp : List Addr), PG (X.blk s H scope (compEnvC scope cl C X.env) fp) tg (tgT X.K t))
    (ht : ∀ (s : Shared) (H : Hp) (C : Addr) (cl : List (Str × Addr)) (fp : List Addr), PTsd (X.blk s H scope (compEnvC scope cl C X.env) fp) E0 ft ifs)
    (he : ∀ (s : Shared) (H : Hp) (C : Addr) (cl : List (Str × Addr)) (fp : List Addr), PEd (X.blk s H scope (compEnvC scope cl C X.env) fp) E0 fe elt) (hs : ∀ x, foldedSetIterable iter X.env x = pure x := by intro _; rfl) :
    PFd X W (eLc (own.map (·.2)) t fi ft fe) (.ListComp elt [⟨tg, iter, ifs, 0⟩] scope pos) :=
  PE.imp (pe_lc hc hN hi ok hg ht he hs) fun σ H Q h => lc_dF sub h
theorem dF_own {i : Nat} {De : Ends} {f : S → R MO} {σ : L2.St} {H : Hp} (h : dS X.K X.mg W (sOwn i f) De σ H) : dF X.K X.mg W f σ H (fun x H1 => gName i x σ H1 De.nx) := by
  obtain ⟨ρ, I, s, M, E, h⟩ := h
  exact ⟨ρ, I, s, M, E, own_fin M E h⟩
theorem onlyL_lc {vs : List Nat} {t : Tgt} {fi : S → R (List D)} {ft : S → R Bool} {fe : S → R D} : OnlyL (eLc vs t fi ft fe) := fun s o s2 h => by
  unfold eLc at h
  cases e : fi s with
  | ok ds s1 =>
    rw [e] at h
    have h : (if few ds = true then (lcItems vs t ft fe ds s1).bind fun ys s => .ok (.lst ys) s else .stuck : R MO) = .ok o s2 := h
    split at h
    · cases e2 : lcItems vs t ft fe ds s1 with
      | ok ys s3 => rw [e2] at h; cases h; exact ⟨_, rfl⟩
      | err x m => rw [e2] at h; cases h
      | stuck => rw [e2] at h; cases h
    · cases h
  | err x m => rw [e] at h; cases h
  | stuck => rw [e] at h; cases h
theorem onlyL_lc2 {vs vs1 : List Nat} {t t1 : Tgt} {fi fi1 : S → R (List D)} {ft ft1 : S → R Bool} {fe : S → R D} : OnlyL (eLc2 vs vs1 t fi ft t1 fi1 ft1 fe) := fun s o s2 h => by
  unfold eLc2 at h
  cases e : fi s with
  | ok ds s1 =>
    rw [e] at h
    have h : ((lc2Items vs vs1 t t1 ft fi1 ft1 fe ds 0 s1).bind fun ys s => .ok (.lst ys) s : R MO) = .ok o s2 := h
    cases e2 : lc2Items vs vs1 t t1 ft fi1 ft1 fe ds 0 s1 with
    | ok ys s3 => rw [e2] at h; cases h; exact ⟨_, rfl⟩
    | err x m => rw [e2] at h; cases h
    | stuck => rw [e2] at h; cases h
  | err x m => rw [e] at h; cases h
  | stuck => rw [e] at h; cases h
theorem dF_set {i : Nat} {De : Ends} {f : S → R MO} {σ : L2.St} {H : Hp} (ol : OnlyL f := by first | exact onlyL_lc | exact onlyL_lc2) (h : dS X.K X.mg W (sSet i (eFrz f)) De σ H) : dF X.K X.mg W f σ H (fun x H1 => gName i x σ H1 De.nx) := by
  obtain ⟨ρ, I, s, M, E, h⟩ := h
  exact dF_valL ol (dG.stm M E h fun d s2 ρ' I' H' v fr M2 E2 r h => h.set M2 E2 r)
theorem lcTS {i : Nat} {t' : TE} {f : S → R MO} {g : S → Rs} {st : Stmt} (h : PS X st (tAsg t' (gName i))) (a : ∀ σ H Q, dF X.K X.mg W f σ H Q → t' σ H Q) (b : ∀ De σ H, dS X.K X.mg W g De σ H → dF X.K X.mg W f σ H (fun x H1 => gName i x σ H1 De.nx)) : PSd X W g st :=
  PS.imp h fun De σ H q => a σ H _ (b De σ H q)
/-- name = [..]: g is sOwn i (eLc ..) or sSet i (eFrz (eLc ..)) -/
theorem s_lc {i : Nat} {y : Str} {py spos : Pos} {elt tg iter : Expr} {ifs : List Expr} {scope : Scope} {own : List (Str × Nat)} {t : Tgt} {fi : S → R (List D)} {ft : S → R Bool} {fe : S → R D} {g : S → Rs} (hc : X.calm = true) (hN : X.N.Nodup) (hy : X.N[i]? = some y) (hyl : X.env.scope.names.lookup y = some .local)
    (hsw : swapsWith (.ListComp elt [⟨tg, iter, ifs, 0⟩] scope pos) (some (.Name y py)) spos.line X.env = pure true) (hi : PId X W fi tg iter) (ok : BlkOk X.N X.env.scope scope own) (sub : t.slots ⊆ own.map (·.2))
    (hg : ∀ (s : Shared) (H : Hp) (C : Addr) (cl : List (Str × Addr)) (fp : List Addr), PG (X.blk s H scope (compEnvC scope cl C X.env) fp) tg (tgT X.K t))
    (ht : ∀ (s : Shared) (H : Hp) (C : Addr) (cl : List (Str × Addr)) (fp : List Addr), PTsd (X.blk s H scope (compEnvC scope cl C X.env) fp) E0 ft ifs)
    (he : ∀ (s : Shared) (H : Hp) (C : Addr) (cl : List (Str × Addr)) (fp : List Addr), PEd (X.blk s H scope (compEnvC scope cl C X.env) fp) E0 fe elt)
    (b : ∀ De σ H, dS X.K X.mg W g De σ H → dF X.K X.mg W (eLc (own.map (·.2)) t fi ft fe) σ H (fun x H1 => gName i x σ H1 De.nx)) (hs : ∀ x, foldedSetIterable iter X.env x = pure x := by intro _; rfl) :
    PSd X W g (.Assign [.Name y py] (.ListComp elt [⟨tg, iter, ifs, 0⟩] scope pos) spos) :=
  lcTS (ps_setLc hc hN hy hyl hsw hi ok hg ht he hs) (fun σ H Q h => lc_dF sub h) b
theorem f_lc2 {elt tg iter tg1 iter1 : Expr} {ifs ifs1 : List Expr} {scope : Scope} {own : List (Str × Nat)} {vs1 : List Nat} {t t1 : Tgt} {fi fi1 : S → R (List D)} {ft ft1 : S → R Bool} {fe : S → R D} (hc : X.calm = true) (hN : X.N.Nodup) (hi : PId X W fi tg iter) (ok : BlkOk X.N X.env.scope scope own) (hv : ∀ i ∈ vs1, i ∈ own.map (·.2)) (sub : t.slots ⊆ own.map (·.2)) (sub1 : t1.slots ⊆ vs1)
    (hg : ∀ (s : Shared) (H : Hp) (C : Addr) (cl : List (Str × Addr)) (fp : List Addr), PG (X.blk s H scope (compEnvC scope cl C X.env) fp) tg (tgT X.K t))
    (ht : ∀ (s : Shared) (H : Hp) (C : Addr) (cl : List (Str × Addr)) (fp : List Addr), PTsd (X.blk s H scope (compEnvC scope cl C X.env) fp) E0 ft ifs)
    (hi1 : ∀ (s : Shared) (H : Hp) (C : Addr) (cl : List (Str × Addr)) (fp : List Addr), PId (X.blk s H scope (compEnvC scope cl C X.env) fp) E0 fi1 tg1 iter1)
    (hg1 : ∀ (s : Shared) (H : Hp) (C : Addr) (cl : List (Str × Addr)) (fp : List Addr), PG (X.blk s H scope (compEnvC scope cl C X.env) fp) tg1 (tgT X.K t1))
    (ht1 : ∀ (s : Shared) (H : Hp) (C : Addr) (cl : List (Str × Addr)) (fp : List Addr), PTsd (X.blk s H scope (compEnvC scope cl C X.env) fp) E0 ft1 ifs1)
    (he : ∀ (s : Shared) (H : Hp) (C : Addr) (cl : List (Str × Addr)) (fp : List Addr), PEd (X.blk s H scope (compEnvC scope cl C X.env) fp) E0 fe elt) (hs : ∀ x, foldedSetIterable iter X.env x = pure x := by intro _; rfl) (hs1 : ∀ env x, foldedSetIterable iter1 env x = pure x := by intro _ _; rfl) :
    PFd X W (eLc2 (own.map (·.2)) vs1 t fi ft t1 fi1 ft1 fe) (.ListComp elt [⟨tg, iter, ifs, 0⟩, ⟨tg1, iter1, ifs1, 0⟩] scope pos) :=
  PE.imp (pe_lc2 hc hN hi ok hv hg ht hi1 hg1 ht1 he hs hs1) fun σ H Q h => lc2_dF sub sub1 h hv
theorem s_lc2 {i : Nat} {y : Str} {py spos : Pos} {elt tg iter tg1 iter1 : Expr} {ifs ifs1 : List Expr} {scope : Scope} {own : List (Str × Nat)} {vs1 : List Nat} {t t1 : Tgt} {fi fi1 : S → R (List D)} {ft ft1 : S → R Bool} {fe : S → R D} {g : S → Rs} (hc : X.calm = true) (hN : X.N.Nodup) (hy : X.N[i]? = some y) (hyl : X.env.scope.names.lookup y = some .local)
    (hsw : swapsWith (.ListComp elt [⟨tg, iter, ifs, 0⟩, ⟨tg1, iter1, ifs1, 0⟩] scope pos) (some (.Name y py)) spos.line X.env = pure true) (hi : PId X W fi tg iter) (ok : BlkOk X.N X.env.scope scope own) (hv : ∀ i ∈ vs1, i ∈ own.map (·.2)) (sub : t.slots ⊆ own.map (·.2)) (sub1 : t1.slots ⊆ vs1)
    (hg : ∀ (s : Shared) (H : Hp) (C : Addr) (cl : List (Str × Addr)) (fp : List Addr), PG (X.blk s H scope (compEnvC scope cl C X.env) fp) tg (tgT X.K t))
    (ht : ∀ (s : Shared) (H : Hp) (C : Addr) (cl : List (Str × Addr)) (fp : List Addr), PTsd (X.blk s H scope (compEnvC scope cl C X.env) fp) E0 ft ifs)
    (hi1 : ∀ (s : Shared) (H : Hp) (C : Addr) (cl : List (Str × Addr)) (fp : List Addr), PId (X.blk s H scope (compEnvC scope cl C X.env) fp) E0 fi1 tg1 iter1)
    (hg1 : ∀ (s : Shared) (H : Hp) (C : Addr) (cl : List (Str × Addr)) (fp : List Addr), PG (X.blk s H scope (compEnvC scope cl C X.env) fp) tg1 (tgT X.K t1))
    (ht1 : ∀ (s : Shared) (H : Hp) (C : Addr) (cl : List (Str × Addr)) (fp : List Addr), PTsd (X.blk s H scope (compEnvC scope cl C X.env) fp) E0 ft1 ifs1)
    (he : ∀ (s : Shared) (H : Hp) (C : Addr) (cl : List (Str × Addr)) (fp : List Addr), PEd (X.blk s H scope (compEnvC scope cl C X.env) fp) E0 fe elt)
    (b : ∀ De σ H, dS X.K X.mg W g De σ H → dF X.K X.mg W (eLc2 (own.map (·.2)) vs1 t fi ft t1 fi1 ft1 fe) σ H (fun x H1 => gName i x σ H1 De.nx)) (hs : ∀ x, foldedSetIterable iter X.env x = pure x := by intro _; rfl) (hs1 : ∀ env x, foldedSetIterable iter1 env x = pure x := by intro _ _; rfl) :
    PSd X W g (.Assign [.Name y py] (.ListComp elt [⟨tg, iter, ifs, 0⟩, ⟨tg1, iter1, ifs1, 0⟩] scope pos) spos) :=
  lcTS (ps_setLc2 hc hN hy hyl hsw hi ok hv hg ht hi1 hg1 ht1 he hs hs1) (fun σ H Q h => lc2_dF sub sub1 h hv) b

/-! ### op= -/
def PIpD (X : Cx) (op : Operator) (g : D → D → Option D) : Prop := PIp X op (rD X.K g)
def sAug (g : D → D → Option D) (i : Nat) (fe : S → R D) (s : S) : Rs := match s.env[i]? with
  | some (some (.val a)) => (fe s).stm fun b s => match g a b with
    | some d => .next (s.set i d)
    | none => .stuck
  | _ => .stuck
theorem s_aug {g : D → D → Option D} {i : Nat} {x : Str} {e : Expr} {op : Operator} {pos' : Pos} {fe : S → R D} (hN : X.N.Nodup) (hi : X.N[i]? = some x) (hx : Loc X.env.scope x) (he : PEd X W fe e) (ho : PIpD X op g) (hf : X.fn x = true ∨ X.env.scope.names.lookup x = some .local := by first | exact .inl rfl | exact .inr rfl | assumption) :
    PSd X W (sAug g i fe) (.AugAssign (.Name x pos') op e pos) :=
  PS.imp (ps_aug hN hi hx he ho hf) fun De σ H ⟨ρ, I, s, M, E, h⟩ => by
    unfold sAug at h
    cases e1 : s.env[i]? with
    | none => rw [e1] at h; exact h.elim
    | some c =>
      rw [e1] at h
      cases c with
      | none => exact h.elim
      | some c =>
        cases c with
        | own o => exact h.elim
        | val a =>
          dsimp only at h
          obtain ⟨v, h1, h2⟩ := E.val i a e1
          refine ⟨v, h1, dG.stm M E h fun b s2 ρ2 I2 H2 w f2 M2 E2 rb h => ?_⟩
          cases e2 : g a b with
          | none => rw [e2] at h; exact h.elim
          | some d =>
            rw [e2] at h
            refine ⟨ρ2, I2, a, b, d, M2.dis, h2.mono f2 M.dis (fun p o => (E.ownI o).2.1), rb, e2, fun I' H' z x r => ?_⟩
            exact (h.rebase (x.frm ρ2 _)).set (M2.ext x) (E2.ext M2.dis x) r
end

/-! ### a def by its body -/
def fnD (m : Nat) (b : S → Rs) (ds : List D) (mem : List MO) : Rf :=
  match b { env := ds.map (fun d => some (.val d)) ++ List.replicate (m - ds.length) none, mem := mem } with
  | .ret d s => .ok d s.mem
  | .next s => .ok .non s.mem
  | .err x m => .err x m
  | _ => .stuck
section
variable {P : Program} {w : World} {K : KF} {mg : Str → Option Value} {base : Heap}
theorem pass_fn {N : List Str} {qual : Str} {scope : Scope} {f : Addr} {cd : Value} {A : Around} {outer : List Env} {s : Shared} {H : Hp} {E : XK} :
    Passes (CXd (cxOf (L2.CX P w) P w K mg base N qual scope f cd A outer s H E)) (cxOf (L2.CX P w) P w K mg base N qual scope f cd A outer s H E) E :=
  passes_call (takes_of rfl rfl rfl rfl) fun _ _ _ _ h => h
theorem env_start {ρ : List Addr} {I : Addr → Prop} {H : Hp} {N : List Str} {ds : List D} {vs : List V} (r : RelL K ρ I H ds vs) : EnvOk K ρ I H (L2.start N vs) (ds.map (fun d => some (Cell.val d)) ++ List.replicate (N.length - ds.length) none) := by
  have hl := r.length
  have get : ∀ {i : Nat} {c : Cell}, (ds.map (fun d => some (Cell.val d)) ++ List.replicate (N.length - ds.length) none)[i]? = some (some c) → ∃ d, ds[i]? = some d ∧ c = .val d := fun {i c} a => by
    by_cases hi : i < ds.length
    · rw [List.getElem?_append_left (by simpa using hi), List.getElem?_map] at a
      cases e : ds[i]? with
      | none => rw [e] at a; cases a
      | some d => rw [e] at a; cases a; exact ⟨d, rfl, rfl⟩
    · rw [List.getElem?_append_right (by simpa using hi), List.getElem?_replicate] at a
      split at a <;> cases a
  refine ⟨by unfold L2.start; simp [hl], fun i d a => ?_, fun i o a => ?_, fun i j o o' p a b c c' => ?_⟩
  · obtain ⟨d', h1, h2⟩ := get a
    cases h2
    obtain ⟨v, h3, h4⟩ := r.get h1
    refine ⟨v, ?_, h4⟩
    unfold L2.start
    have hi : i < vs.length := (List.getElem?_eq_some_iff.mp h3).1
    rw [List.getElem?_append_left (by simpa using hi), List.getElem?_map, h3]
    rfl
  · obtain ⟨d', _, h2⟩ := get a
    cases h2
  · obtain ⟨d', _, h2⟩ := get a
    cases h2
theorem own_start {σ : L2.St} {m : Nat} {ds : List D} {p : Addr} (h : Own σ (ds.map (fun d => some (Cell.val d)) ++ List.replicate m none) p) : False := by
  obtain ⟨i, o, a, _⟩ := h
  by_cases hi : i < ds.length
  · rw [List.getElem?_append_left (by simpa using hi), List.getElem?_map] at a
    cases e : ds[i]? with
    | none => rw [e] at a; cases a
    | some d => rw [e] at a; cases a
  · rw [List.getElem?_append_right (by simpa using hi), List.getElem?_replicate] at a
    split at a <;> cases a
theorem Frm.bare {ρ ρ' : List Addr} {I I' : Addr → Prop} {H H' : Hp} {O O' : Addr → Prop} (f : Frm ρ I H O ρ' I' H' O') (hO : ∀ p, ¬ O p) : Frm ρ I H nobody ρ' I' H' nobody :=
  ⟨f.there, fun p o h a _ => f.keep p o h a (hO p), f.pre, f.rnew, f.imm, fun p h n => (f.inew p h n).imp id fun z => (hO p z).elim, fun p z => z.elim⟩
theorem fn_mk {x : Str} {st : Stmt} {f : Addr} {fd : FuncData} {N ps : List Str} {k n : Nat} {b : S → Rs} (F : Fun K x x st f fd) (hm : mg x = some (.ref f)) (hb : Binds K fd ps []) (S : FnScope N ps (defScope st)) (hl : ps.length = n)
    (hbody : ∀ (cdv : Value) (A : Around) (outer : List Env) (s : Shared) (H : Hp) (E : XK), Room k (A.deeper (PyProof.Rows.envOfC x (defScope st) s.heap.objs.size f cdv)) →
      PSsd (cxOf (L2.CX P w) P w K mg base N x (defScope st) f cdv A outer s H E) E b (defBody st)) : FnD P w K mg base (k + 1) x n (fnD N.length b) := by
  refine ⟨f, fd, ps, hm, hl, Fun.okX F S (fun vs H Q E h => ?_) (fun cdv A outer s H vs Q E hr h => ?_), F.kp, hb⟩
  · obtain ⟨ρ, I, ds, m, M, r, e, _⟩ := h
    rw [← r.length, e, hl]
  · obtain ⟨ρ, I, ds, m, M, r, e, h⟩ := h
    refine ⟨_, hbody cdv A outer s H E hr, ρ, I, { env := ds.map (fun d => some (.val d)) ++ List.replicate (N.length - ds.length) none, mem := m }, M, env_start r, ?_⟩
    unfold fnD at h
    have none : ∀ p, ¬ Own (L2.start N vs) (ds.map (fun d => some (Cell.val d)) ++ List.replicate (N.length - ds.length) Option.none) p := fun p z => own_start z
    cases e1 : b { env := ds.map (fun d => some (.val d)) ++ List.replicate (N.length - ds.length) Option.none, mem := m } with
    | next s2 => rw [e1] at h; exact fun ρ' I' H' σ' f M' E' => h ρ' I' H' .non (f.bare none) M' .non
    | ret d s2 => rw [e1] at h; exact fun ρ' I' H' O' v f M' r' => h ρ' I' H' v (f.bare none) M' r'
    | err x m2 => rw [e1] at h; exact fun ρ' I' H' O' cls dx f M' r' => h ρ' I' H' cls dx (f.bare none) M' r'
    | brk s2 => rw [e1] at h; exact h.elim
    | cont s2 => rw [e1] at h; exact h.elim
    | stuck => rw [e1] at h; exact h.elim
/-- no call is left -/
theorem fn_zero {x : Str} {f : Addr} {fd : FuncData} {ps : List Str} {n : Nat} {F : List D → List MO → Rf} (hm : mg x = some (.ref f)) (hb : Binds K fd ps []) (hk : PySem.W.keepIn K (.ref f) = true) (hl : ps.length = n) (hF : ∀ ds m, F ds m = .stuck) : FnD P w K mg base 0 x n F := by
  have no : ∀ vs H Q E, ¬ SpF K mg n F vs H Q E := fun vs H Q E ⟨ρ, I, ds, m, _, _, _, h⟩ => by rw [hF] at h; exact h
  exact ⟨f, fd, ps, hm, hl, ⟨fun vs H Q E h => absurd h (no vs H Q E), fun A outer s H args us vs Q E _ _ _ _ h => absurd h (no vs H Q E)⟩, hk, hb⟩
end
end PM
end

section
set_option Elab.async false
set_option linter.all false
set_option maxRecDepth 100000
set_option maxHeartbeats 2000000
/-! PMA: rules that the layer lacks: list.extend of a tuple, t[::-1] of a tuple, is with a bool. -/
namespace PMA
open PySem PySem.Spec L2 PyProof.Rows
theorem extend_tuple (l : Addr) (items : Array Value) (n : Nat) (b : Addr) (items2 : Array Value) (n2 : Nat) (dd : Option Addr) (sl : Array (Option Value)) (hs0 : ¬(!items.isEmpty && Builtin.List.listTooLong (items.size + items2.size)) = true) (hs1 : items.size ≤ sizeLine) (hs2 : items.size + items2.size ≤ sizeLine + 1) :
    Meets (Builtin.«list.extend» ⟨[.ref l, .ref b], []⟩) (fun _ R s => s.heap.get? l = some { cls := .type "list", dict := none, data := .seq items n, slots := #[] } ∧ s.heap.get? b = some { cls := .type "tuple", dict := dd, data := .seq items2 n2, slots := sl } ∧ R (.ok (.ret Value.none)) { s with heap := s.heap.update l (Obj.mapSeq fun x => x ++ items2), toks := s.toks }) :=
  .of_wp fun prog w A R s h => by
    obtain ⟨hp, g, d, tk, os⟩ := s; obtain ⟨hl, hb, h⟩ := h; have f1 := AutoSeq1.idx_int; have f2 := AutoSeq1.sub_tuple_tuple; have f3 := AutoSeq1.sub_list_list; have f4 := AutoSeq1.sub_tuple_list; have f5 := AutoSeq1.sub_list_tuple;
    have hz' : (items ++ items2).size ≤ sizeLine + 1 := by rw [Array.size_append]; exact hs2
    wp_walk using (wpAny_updateSeq hl rfl (hz := hs1) (_hz' := hz')), AutoSeq1.wpAny_loadPart' hl, AutoSeq1.wpAny_loadPart' hb; exact ⟨_, rfl, h⟩
section
variable {X : Cx}
def rExtendT (K : PySem.W.Frag) : V → List V → Hp → VK → Prop := fun x vs H Q => ∃ l b xs zs, x = .ref l ∧ vs = [.ref b] ∧ H l = some (.lst xs) ∧ SqT K H b zs ∧ xs.length + zs.length ≤ sizeLine ∧ Q .non (upd H l (.lst (xs ++ zs)))
theorem mt_extendT : MtM X "list.extend" (rExtendT X.K) := by
  intro pins s σ H x vs v us Q I rx rv h
  obtain ⟨l, b, xs, zs, rfl, rfl, hH, hB, hz, q⟩ := h
  cases rx
  obtain ⟨u, rfl, ru⟩ := rv.one
  cases ru
  obtain ⟨z, its, n, r, hl, e⟩ := I.lstM hH
  obtain ⟨its2, r2, ⟨o, e2, hc, n2, hd⟩, z2⟩ := I.tuple hB
  have hl2 := r2.length
  obtain ⟨oc, od, dt, sl⟩ := o
  simp only at hc hd
  subst hc hd
  have hsz : its.toArray.size + its2.toArray.size ≤ sizeLine := by rw [List.size_toArray, List.size_toArray]; omega
  have hlong : ¬ (!its.toArray.isEmpty && Builtin.List.listTooLong (its.toArray.size + its2.toArray.size)) = true := by
    rw [notLongL hsz, Bool.and_false]
    exact Bool.false_ne_true
  refine call_meets F.slot_list_extend ⟨_, e, rfl⟩ F.entry_list_extend (F.args_list_extend_2 _ _)
    (extend_tuple l its.toArray n b its2.toArray n2 od sl hlong (by rw [List.size_toArray]; omega) (by omega)) ⟨e, e2, ?_⟩
  refine ⟨.non, _, I.lset (its' := its ++ its2) hH e (by simp) (r.append r2) ?_, rfl, q⟩
  rw [List.length_append]
  omega
end

/-! t[::-1] -/
section
variable {prog : Program} {w : World} {A : Around} {E : Value → Shared → Prop} {s : Shared}
theorem adjust_rev (n : Nat) : Builtin.Slice.sliceAdjust none none (-1) (n : Int) = ((n : Int) - 1, -1) := by
  unfold Builtin.Slice.sliceAdjust
  have h1 : ((-1 : Int) < 0) := by omega
  simp only [h1, if_true]
theorem places_rev (n : Nat) : Builtin.Slice.slicePlaces ((n : Int) - 1) (-1) (-1) = n := by
  unfold Builtin.Slice.slicePlaces
  have h1 : ¬ ((-1 : Int) > 0) := by omega
  simp only [h1, if_false, Int.neg_neg, Int.ediv_one]
  split <;> omega
theorem sliceApplied_rev {sl : Addr} {vl vu vs : Value} {n : Nat} {Q : Int × Int × Nat → Shared → Prop} (hs : s.heap.IsSliceOf sl vl vu vs) (pl : IsPart vl none) (pu : IsPart vu none) (ps : IsPart vs (some (-1)))
    (h : Q ((n : Int) - 1, -1, n) s) : wpAny (model prog w) A (Builtin.Slice.sliceApplied (.ref sl) (pure (n : Int))) Q E s := by
  obtain ⟨os, hos, hcs, hds⟩ := id hs
  unfold Builtin.Slice.sliceApplied Builtin.Slice.sliceFields
  refine wpAny_bind (wpAny_bind (wpAny_field hos hds (x := vl) rfl (wpAny_bind (wpAny_field hos hds (x := vu) rfl (wpAny_bind (wpAny_field hos hds (x := vs) rfl (wpAny_pure ?_)))))))
  refine wpAny_bind (HT.slicePart_ ps ?_)
  show wpAny _ _ (if ((-1 : Int) == 0) = true then _ else _) _ _ s
  rw [if_neg (by decide)]
  refine wpAny_bind (HT.slicePart_ pl (wpAny_bind (HT.slicePart_ pu (wpAny_bind (wpAny_pure ?_)))))
  show wpAny _ _ (match Builtin.Slice.sliceAdjust none none (-1) (n : Int) with | (lo, hi) => pure (lo, (-1 : Int), Builtin.Slice.slicePlaces lo hi (-1))) _ _ s
  rw [adjust_rev n]
  show wpAny _ _ (pure ((n : Int) - 1, (-1 : Int), Builtin.Slice.slicePlaces ((n : Int) - 1) (-1) (-1))) _ _ s
  rw [places_rev]
  exact wpAny_pure h
theorem pick_rev (xs : Array Value) : ((List.range xs.size).filterMap fun (k : Nat) => xs[((xs.size : Int) - 1 + (k : Int) * (-1)).toNat]?).toArray = xs.toList.reverse.toArray := by
  have lift : ∀ (l : List Nat) (f : Nat → Option Value), l.filterMap f = (l.map f).filterMap id := fun l f => by rw [List.filterMap_map]; rfl
  have e : (List.range xs.size).map (fun (k : Nat) => xs[((xs.size : Int) - 1 + (k : Int) * (-1)).toNat]?) = (List.range xs.size).map fun (k : Nat) => xs[xs.size - 1 - k]? := by
    apply List.map_congr_left
    intro k hk
    have hk' := List.mem_range.mp hk
    have : ((xs.size : Int) - 1 + (k : Int) * (-1)).toNat = xs.size - 1 - k := by omega
    rw [this]
  have e2 : (List.range xs.size).filterMap (fun (k : Nat) => xs[xs.size - 1 - k]?) = ((List.range xs.size).map fun k => xs.size - 1 - k).filterMap (xs[·]?) := by
    rw [List.filterMap_map]; rfl
  rw [lift, e, ← lift, e2, PySem.W.krv_range, List.filterMap_reverse, PySem.W.krv_all]
theorem getItem_tuple_rev {t sl : Addr} {items : Array Value} {vl vu vs : Value} {Q : Value → Shared → Prop} (ht : IsTup s.heap t items) (hs : s.heap.IsSliceOf sl vl vu vs) (pl : IsPart vl none) (pu : IsPart vu none) (ps : IsPart vs (some (-1)))
    (h : Q (.ref s.heap.objs.size) { s with heap := s.heap.push { cls := .type "tuple", data := .seq items.toList.reverse.toArray } }) (hsz : items.size ≤ sizeLine) : wpAny (model prog w) A (getItem (.ref t) (.ref sl)) Q E s := by
  have htake : sizeOk (.seq items.toList.reverse.toArray) := by
    show items.toList.reverse.toArray.size ≤ sizeLine
    rw [List.size_toArray, List.length_reverse, Array.length_toList]
    exact hsz
  obtain ⟨os, hos, hcs, hds⟩ := id hs
  have hTs : s.TypeIs (.ref sl) "slice" := ⟨os, hos, hcs⟩
  unfold getItem
  try with_reducible refine wpAny_holding ?_
  first | refine wpAny_bind (wpAny_pure ?_) | skip
  refine wpAny_bind (wpAny_sequenceKey ht.typeIs (by decide) ?_)
  refine wpAny_bind (wpAny_callSpecial?_slot (name := Str.ofString "__getitem__") ht.typeIs PyProof.Rows.slot_tuple_getitem
    (wpAny_call_entry PyProof.Rows.slot_tuple_getitem ht.typeIs entry_tuple_getitem ?_ (args_tuple_getitem _ _)))
  show wpAny _ _ (Builtin.Tuple.tupleItemsOf (.ref t) >>= _) _ _ s
  refine wpAny_bind (PyProof.Rows.tupleItemsOf_ ht ?_)
  refine wpAny_bind (wpAny_typeOf hTs ?_)
  rw [if_pos (by decide)]
  refine wpAny_bind (sliceApplied_rev hs pl pu ps ?_)
  have hno : ¬ ((((items.size : Int) - 1) == 0 && (-1 : Int) == 1 && items.size == items.size) = true) := by
    intro q
    rw [Bool.and_eq_true, Bool.and_eq_true] at q
    exact absurd q.1.2 (by decide)
  show wpAny _ _ (if ((((items.size : Int) - 1) == 0 && (-1 : Int) == 1 && items.size == items.size) = true) then _ else _) _ _ s
  rw [if_neg hno, pick_rev]
  first
    | exact wpAny_bind (m := Builtin.Tuple.tupleExact _) (wpAny_newObj_type (wpAny_pure ⟨_, rfl, wpAny_pure h⟩) htake)
    | exact wpAny_bind (m := Builtin.Tuple.tupleExact _) (wpAny_newObj_type (wpAny_bind (wpAny_pure (wpAny_pure ⟨_, rfl, wpAny_pure h⟩))) htake)
    | exact wpAny_bind (wpAny_bind (m := Builtin.Tuple.tupleExact _) (wpAny_newObj_type (wpAny_pure (wpAny_pure ⟨_, rfl, wpAny_pure h⟩)) htake))
    | exact wpAny_bind (wpAny_bind (m := Builtin.Tuple.tupleExact _) (wpAny_newObj_type (wpAny_pure ⟨_, rfl, wpAny_pure h⟩) htake))
end
section
variable {X : Cx}
def tRevT (K : PySem.W.Frag) (te : TE) : TE := fun σ H Q => te σ H fun x H1 => ∃ a xs, x = .ref a ∧ SqT K H1 a xs ∧ ∀ p, H1 p = none → Q (.ref p) (upd H1 p (.tup xs.reverse))
theorem pe_revT {e : Expr} {te : TE} {k : Nat} {p1 p2 p3 pos : Pos} (he : PE X e te) : PE X (.Subscript e (.Slice none none (some (.UnaryOp .USub (.Constant (.int 1) k p1) p2)) p3) pos) (tRevT X.K te) := by
  refine ⟨fun pins s σ H Q I h => ?_⟩
  refine PyProof.Rows.Subscript_ (thn (he.run pins s σ H _ I h) fun v s1 ⟨x, H1, I1, r1, q1⟩ => ?_)
  obtain ⟨a, xs, ex, hx, q⟩ := q1
  subst ex
  cases r1
  have hst : PO X (some (.UnaryOp .USub (.Constant (.int 1) k p1) p2)) (tPart (tUn (rU fun i => .int (-i)) (tC (.int 1)))) := po_some (pe_un un_neg pe_int)
  refine wpAny_Slice (thn (po_none.run pins s1 σ H1 (fun o H2 => o = none ∧ H2 = H1) I1 ⟨rfl, rfl⟩) fun vl s2 ⟨l, H2, I2, pl, el, e2⟩ => ?_)
  subst el e2
  refine thn (po_none.run pins s2 σ H2 (fun o H3 => o = none ∧ H3 = H2) I2 ⟨rfl, rfl⟩) fun vu s3 ⟨u, H3, I3, pu, eu, e3⟩ => ?_
  subst eu e3
  refine thn (hst.run pins s3 σ H3 (fun o H4 => o = some (-1) ∧ H4 = H3) I3 ⟨1, rfl, -1, rfl, rfl, rfl⟩) fun vs s4 ⟨o, H4, I4, ps, eo, e4⟩ => ?_
  subst eo e4
  have I5 : Inv X pins σ H4 { s4 with heap := s4.heap.push { cls := .type "slice", data := .fields #[vl, vu, vs] } } := I4.kept (t' := s4.toks) fun b ob q => Heap.get?_push_of_some _ q
  obtain ⟨its, r, ht, hz⟩ := I5.tuple hx
  have hlen := r.length
  show wpAny (model X.prog X.w) X.A (subscriptTail e (.Slice none none (some (.UnaryOp .USub (.Constant (.int 1) k p1) p2)) p3) (.ref a) (.ref s4.heap.objs.size)) (EP X pins σ Q) X.xe { s4 with heap := s4.heap.push { cls := .type "slice", data := .fields #[vl, vu, vs] } }
  refine PyProof.Rows.tail_any (ops := [.ref a, .ref s4.heap.objs.size]) ht.typeIs (PyProof.Rows.slot_tuple_getitem.lookup) ?_ (by with_unfolding_all rfl)
  refine getItem_tuple_rev ht (Heap.IsSliceOf.new _ vl vu vs) pl pu ps ?_ (by rw [List.size_toArray]; omega)
  refine ⟨.ref _, _, I5.laid (t' := s4.toks) (o := .tup xs.reverse) (fun b ob q => Heap.get?_push_of_some _ q) (Nat.le_refl _) ?_, rfl, q _ (I5.hok.fresh (Nat.le_refl _))⟩
  exact ⟨by rw [List.length_reverse]; exact hz, _, r.reverse, IsTup.new _ _⟩

/-! is True, is False: of any value that is no built-in -/
theorem is_bl_gen {M : Model} {A : Around} {E : Value → Shared → Prop} {s : Shared} {Q : Value → Shared → Prop} {x : V} {v : Value} {c : Bool} (r : RelV x v) (h : Q (.bool (decide (x = .bl c))) s) : wpAny M A (compareOp .Is v (.bool c)) Q E s := by
  cases x with
  | non => cases r; exact wpAny_pure (show _ from h)
  | bl b => cases r; exact PyProof.Rows.is_bool (by rw [show (b == c) = decide (V.bl b = V.bl c) from dec_bl.symm]; exact h)
  | int i => obtain ⟨t, rfl⟩ := r; exact wpAny_pure (show _ from h)
  | str i => obtain ⟨t, rfl⟩ := r; exact wpAny_pure (show _ from h)
  | byt i => obtain ⟨t, rfl⟩ := r; exact wpAny_pure (show _ from h)
  | flt i => obtain ⟨t, rfl⟩ := r; exact wpAny_pure (show _ from h)
  | ref a => cases r; exact wpAny_pure (show _ from h)
  | ty a => cases r; exact wpAny_pure (show _ from h)
theorem isnot_bl_gen {M : Model} {A : Around} {E : Value → Shared → Prop} {s : Shared} {Q : Value → Shared → Prop} {x : V} {v : Value} {c : Bool} (r : RelV x v) (h : Q (.bool (!decide (x = .bl c))) s) : wpAny M A (compareOp .IsNot v (.bool c)) Q E s := by
  cases x with
  | non => cases r; exact wpAny_pure (show _ from h)
  | bl b => cases r; exact PyProof.Rows.isnot_bool (by rw [show (b != c) = !decide (V.bl b = V.bl c) from congrArg not dec_bl.symm]; exact h)
  | int i => obtain ⟨t, rfl⟩ := r; exact wpAny_pure (show _ from h)
  | str i => obtain ⟨t, rfl⟩ := r; exact wpAny_pure (show _ from h)
  | byt i => obtain ⟨t, rfl⟩ := r; exact wpAny_pure (show _ from h)
  | flt i => obtain ⟨t, rfl⟩ := r; exact wpAny_pure (show _ from h)
  | ref a => cases r; exact wpAny_pure (show _ from h)
  | ty a => cases r; exact wpAny_pure (show _ from h)
theorem op_isB : OpR X (compareOp .Is) (fun x y H Q => ∃ c, y = .bl c ∧ Q (.bl (decide (x = .bl c))) H) := by
  intro pins s σ H x y v u Q I rx ry ⟨c, e, q⟩
  subst e
  cases ry
  exact is_bl_gen rx (fin_bl I q rfl)
theorem op_notB : OpR X (compareOp .IsNot) (fun x y H Q => ∃ c, y = .bl c ∧ Q (.bl (!decide (x = .bl c))) H) := by
  intro pins s σ H x y v u Q I rx ry ⟨c, e, q⟩
  subst e
  cases ry
  exact isnot_bl_gen rx (fin_bl I q rfl)
end
end PMA
end

section
set_option Elab.async false
set_option linter.all false
set_option maxRecDepth 100000
/-! PM10: operators, comparisons, slices, built-ins on data. -/
namespace PM
open PySem PySem.Spec L2
variable [PWc]

section
variable {K : KF} {ρ : List Addr} {I : Addr → Prop} {H : Hp}
/-- data without a heap -/
def flatD : D → Bool
  | .non => true
  | .bl _ => true
  | .int _ => true
  | .str _ => true
  | _ => false
def eqF : D → D → Bool
  | .non, .non => true
  | .bl a, .bl b => a == b
  | .bl a, .int b => (if a then 1 else 0) == b
  | .int a, .bl b => a == (if b then 1 else 0)
  | .int a, .int b => a == b
  | .str a, .str b => a == b
  | _, _ => false
theorem Rel.flat {d : D} {v : V} (r : Rel K ρ I H d v) (f : flatD d = true) : flatV v = true := by
  cases r <;> first | rfl | cases f
theorem RelL.flat : ∀ {ds : List D} {vs : List V}, RelL K ρ I H ds vs → ds.all flatD = true → vs.all flatV = true
  | _, _, .nil, _ => rfl
  | _, _, .cons a b, f => by
    rw [List.all_cons, Bool.and_eq_true] at f ⊢
    exact ⟨a.flat f.1, RelL.flat b f.2⟩
theorem Rel.eqF {d e : D} {v u : V} (r : Rel K ρ I H d v) (q : Rel K ρ I H e u) (f : flatD d = true) (g : flatD e = true) : eqV v u = eqF d e := by
  cases r <;> cases q <;> first | rfl | (exact absurd f (by simp [flatD])) | (exact absurd g (by simp [flatD]))
theorem RelL.inV {e : D} {u : V} (q : Rel K ρ I H e u) (g : flatD e = true) : ∀ {ds : List D} {vs : List V}, RelL K ρ I H ds vs → ds.all flatD = true → L2.inV u vs = ds.any fun y => PM.eqF y e
  | _, _, .nil, _ => rfl
  | _, _, .cons a b, f => by
    rw [List.all_cons, Bool.and_eq_true] at f
    unfold L2.inV
    rw [List.any_cons, List.any_cons, a.eqF q f.1 g]
    have := RelL.inV q g b f.2
    unfold L2.inV at this
    rw [this]
/-! deep data -/
mutual
def toPy : D → Option PyData
  | .non => some .none
  | .bl b => some (.bool b)
  | .int i => some (.int i)
  | .str x => some (.str x)
  | .tup xs => (toPyL xs).map PyData.tuple
  | .lst xs => (toPyL xs).map PyData.list
  | _ => none
def toPyL : List D → Option (List PyData)
  | [] => some []
  | d :: ds => match toPy d, toPyL ds with
    | some x, some xs => some (x :: xs)
    | _, _ => none
end
mutual
theorem Rel.dp : ∀ {d : D} {v : V} {e : PyData}, Rel K ρ I H d v → toPy d = some e → Dp K H v e
  | .non, _, _, .non, h => by cases h; exact .non
  | .bl b, _, _, .bl _, h => by cases h; exact .bl b
  | .int i, _, _, .int _, h => by cases h; exact .int i
  | .str x, _, _, .str _, h => by cases h; exact .str x
  | .tup ds, _, _, .tup hi r, h => by
    have h : (toPyL ds).map PyData.tuple = some _ := h
    cases e : toPyL ds with
    | none => rw [e] at h; cases h
    | some xs => rw [e] at h; cases h; exact .tup hi.sq (RelL.dp r e)
  | .lst ds, _, _, .lst hi r, h => by
    have h : (toPyL ds).map PyData.list = some _ := h
    cases e : toPyL ds with
    | none => rw [e] at h; cases h
    | some xs => rw [e] at h; cases h; exact .lst hi.sq (RelL.dp r e)
  | .frz _, _, _, .frz _ _, h => by cases h
  | .ptp _, _, _, .ptp _ _ _ _, h => by cases h
  | .dct _ _, _, _, .dct _ _ _, h => by cases h
  | .kdt _ _, _, _, .kdt _ _ _ _ _, h => by cases h
  | .ref _, _, _, .ref _, h => by cases h
theorem RelL.dp : ∀ {ds : List D} {vs : List V} {es : List PyData}, RelL K ρ I H ds vs → toPyL ds = some es → DpAll K H vs es
  | [], _, _, .nil, h => by cases h; exact .nil
  | d :: ds, _, _, .cons a b, h => by
    have h : (match toPy d, toPyL ds with
      | some x, some xs => some (x :: xs)
      | _, _ => none) = some _ := h
    cases e1 : toPy d with
    | none => rw [e1] at h; cases h
    | some x =>
      cases e2 : toPyL ds with
      | none => rw [e1, e2] at h; cases h
      | some xs => rw [e1, e2] at h; cases h; exact .cons (Rel.dp a e1) (RelL.dp b e2)
end
end

/-! ### + - * // % ** -/
def addD (a b : D) : Option D := match a, b with
  | .int i, .int j => some (.int (i + j))
  | .str x, .str y => if x.length + y.length ≤ sizeLine then some (.str (x ++ y)) else none
  | .tup xs, .tup ys => if xs.length + ys.length ≤ sizeLine then some (.tup (xs ++ ys)) else none
  | .lst xs, .lst ys => if xs.length + ys.length ≤ sizeLine then some (.lst (xs ++ ys)) else none
  | _, _ => none
def subD (a b : D) : Option D := match a, b with
  | .int i, .int j => some (.int (i - j))
  | _, _ => none
instance (i j : Int) : Decidable (CMul i j) := by unfold CMul; exact inferInstance
instance (i j : Int) : Decidable (CPow i j) := by unfold CPow; exact inferInstance
instance (i j : Int) : Decidable (CDiv i j) := by unfold CDiv; exact inferInstance
def mulD (a b : D) : Option D := match a, b with
  | .int i, .int j => if CMul i j then some (.int (i * j)) else none
  | .lst xs, .int k => if -(2 ^ 63) ≤ k ∧ k < 2 ^ 63 ∧ xs.length * k.toNat ≤ sizeLine then some (.lst (List.replicate k.toNat xs).flatten) else none
  | .tup xs, .int k => if xs ≠ [] ∧ 2 ≤ k ∧ k ≤ 1000 ∧ xs.length ≤ 1000 then some (.tup (List.replicate k.toNat xs).flatten) else none
  | _, _ => none
def fdivD (a b : D) : Option D := match a, b with
  | .int i, .int j => if CDiv i j then some (.int (i / j)) else none
  | _, _ => none
def modD (a b : D) : Option D := match a, b with
  | .int i, .int j => if 0 < j then some (.int (i % j)) else none
  | _, _ => none
def powD (a b : D) : Option D := match a, b with
  | .int i, .int j => if CPow i j then some (.int (i ^ j.toNat)) else none
  | _, _ => none
section
variable {X : Cx}
theorem RelL.rep {K : KF} {ρ : List Addr} {I : Addr → Prop} {H : Hp} {ds : List D} {vs : List V} (r : RelL K ρ I H ds vs) : ∀ k : Nat, RelL K ρ I H (List.replicate k ds).flatten (List.replicate k vs).flatten
  | 0 => .nil
  | k + 1 => by
    rw [List.replicate_succ, List.replicate_succ, List.flatten_cons, List.flatten_cons]
    exact r.append (RelL.rep r k)
theorem RelL.eq_nil {K : KF} {ρ : List Addr} {I : Addr → Prop} {H : Hp} {ds : List D} {vs : List V} (r : RelL K ρ I H ds vs) : ds = [] ↔ vs = [] := by cases r <;> simp
theorem o_add : OpD X (binaryOp .Add) addD := by
  intro pins s σ H x y v u Q J rx ry h
  obtain ⟨ρ, I, a, b, d, n, ra, rb, e, q⟩ := h
  unfold addD at e
  split at e
  · cases ra; cases rb; cases e
    exact op_add pins s σ H _ _ v u Q J rx ry ⟨_, _, rfl, rfl, q I H _ (Ext.refl _ _) (.int _)⟩
  · cases ra; cases rb
    split at e
    · rename_i hz; cases e
      exact op_add_str pins s σ H _ _ v u Q J rx ry ⟨_, _, rfl, rfl, hz, q I H _ (Ext.refl _ _) (.str _)⟩
    · cases e
  · split at e
    · rename_i hz
      cases e
      cases ra with
      | @tup _ p1 xs1 ha r1 =>
        cases rb with
        | @tup _ p2 ys1 hb r2 =>
          refine op_catA pins s σ H _ _ v u Q J rx ry ⟨_, _, _, _, rfl, rfl, ha.sq, hb.sq, by rw [← r1.length, ← r2.length]; exact hz, fun z => ?_, fun _ z => ?_, fun _ _ p hp => ?_⟩
          · have z' := r1.eq_nil.mpr z
            subst z'
            exact q I H _ (Ext.refl _ _) (.tup hb r2)
          · have z' := r2.eq_nil.mpr z
            subst z'
            rw [List.append_nil] at q
            exact q I H _ (Ext.refl _ _) (.tup ha r1)
          · have x := Ext.new (I := I) (o := .tup (xs1 ++ ys1)) hp
            exact q _ _ _ x (.tup (.inl ⟨.inr rfl, upd_same⟩) ((r1.append r2).ext x n))
    · cases e
  · split at e
    · rename_i hz
      cases e
      cases ra with
      | @lst _ p1 xs1 ha r1 =>
        cases rb with
        | @lst _ p2 ys1 hb r2 =>
          refine op_cat pins s σ H _ _ v u Q J rx ry ⟨_, _, _, _, rfl, rfl, ha.2, hb.2, by rw [← r1.length, ← r2.length]; exact hz, fun p hp => ?_⟩
          have x := Ext.new (I := I) (o := .lst (xs1 ++ ys1)) hp
          exact q _ _ _ x (.lst ⟨.inr rfl, upd_same⟩ ((r1.append r2).ext x n))
    · cases e
  · cases e
theorem o_sub : OpD X (binaryOp .Sub) subD := by
  intro pins s σ H x y v u Q J rx ry h
  obtain ⟨ρ, I, a, b, d, n, ra, rb, e, q⟩ := h
  unfold subD at e
  split at e
  · cases ra; cases rb; cases e
    exact op_sub pins s σ H _ _ v u Q J rx ry ⟨_, _, rfl, rfl, q I H _ (Ext.refl _ _) (.int _)⟩
  · cases e
theorem o_mul : OpD X (binaryOp .Mult) mulD := by
  intro pins s σ H x y v u Q J rx ry h
  obtain ⟨ρ, I, a, b, d, n, ra, rb, e, q⟩ := h
  unfold mulD at e
  split at e
  · split at e
    · rename_i hz
      cases ra; cases rb; cases e
      exact op_mul pins s σ H _ _ v u Q J rx ry ⟨_, _, rfl, rfl, hz, q I H _ (Ext.refl _ _) (.int _)⟩
    · cases e
  · rename_i k0
    split at e
    · rename_i hz
      cases e
      cases rb
      cases ra with
      | @lst _ p1 xs1 ha r1 =>
        refine op_rep pins s σ H _ _ v u Q J rx ry ⟨_, _, _, rfl, rfl, ha.2, hz.1, hz.2.1, by rw [← r1.length]; exact hz.2.2, fun p hp => ?_⟩
        have x := Ext.new (I := I) (o := .lst (List.replicate (Int.toNat k0) xs1).flatten) hp
        exact q _ _ _ x (.lst ⟨.inr rfl, upd_same⟩ ((r1.rep _).ext x n))
    · cases e
  · rename_i k0
    split at e
    · rename_i hz
      cases e
      cases rb
      cases ra with
      | @tup _ p1 xs1 ha r1 =>
        refine op_repT pins s σ H _ _ v u Q J rx ry ⟨_, _, _, rfl, rfl, ha.sq, fun z => hz.1 (r1.eq_nil.mpr z), hz.2.1, hz.2.2.1, by rw [← r1.length]; exact hz.2.2.2, fun p hp => ?_⟩
        have x := Ext.new (I := I) (o := .tup (List.replicate (Int.toNat k0) xs1).flatten) hp
        exact q _ _ _ x (.tup (.inl ⟨.inr rfl, upd_same⟩) ((r1.rep _).ext x n))
    · cases e
  · cases e
theorem o_fdiv : OpD X (binaryOp .FloorDiv) fdivD := by
  intro pins s σ H x y v u Q J rx ry h
  obtain ⟨ρ, I, a, b, d, n, ra, rb, e, q⟩ := h
  unfold fdivD at e
  split at e
  · split at e
    · rename_i hz
      cases ra; cases rb; cases e
      exact op_fdiv pins s σ H _ _ v u Q J rx ry ⟨_, _, rfl, rfl, hz, q I H _ (Ext.refl _ _) (.int _)⟩
    · cases e
  · cases e
theorem o_mod : OpD X (binaryOp .Mod) modD := by
  intro pins s σ H x y v u Q J rx ry h
  obtain ⟨ρ, I, a, b, d, n, ra, rb, e, q⟩ := h
  unfold modD at e
  split at e
  · split at e
    · rename_i hz
      cases ra; cases rb; cases e
      exact op_mod pins s σ H _ _ v u Q J rx ry ⟨_, _, rfl, rfl, hz, q I H _ (Ext.refl _ _) (.int _)⟩
    · cases e
  · cases e
theorem o_pow : OpD X (binaryOp .Pow) powD := by
  intro pins s σ H x y v u Q J rx ry h
  obtain ⟨ρ, I, a, b, d, n, ra, rb, e, q⟩ := h
  unfold powD at e
  split at e
  · split at e
    · rename_i hz
      cases ra; cases rb; cases e
      exact op_pow pins s σ H _ _ v u Q J rx ry ⟨_, _, rfl, rfl, hz, q I H _ (Ext.refl _ _) (.int _)⟩
    · cases e
  · cases e
end
end PM
end

section
set_option Elab.async false
set_option linter.all false
set_option maxRecDepth 100000
/-! PM11: comparisons, membership, slices, built-ins. -/
namespace PM
open PySem PySem.Spec L2
variable [PWc]

def eqvD (a b : D) : Option Bool := match toPy a, toPy b with
  | some x, some y => if SeqAt.shaped x = true ∧ SeqAt.shaped y = true then some (PyData.eqv x y) else none
  | _, _ => none
def eqD (a b : D) : Option D := (eqvD a b).map .bl
def neD (a b : D) : Option D := (eqvD a b).map fun k => .bl (!k)
def ltD (a b : D) : Option D := match a, b with
  | .int i, .int j => some (.bl (decide (i < j)))
  | _, _ => none
def leD (a b : D) : Option D := match a, b with
  | .int i, .int j => some (.bl (decide (i ≤ j)))
  | _, _ => none
def gtD (a b : D) : Option D := match a, b with
  | .int i, .int j => some (.bl (decide (j < i)))
  | _, _ => none
def geD (a b : D) : Option D := match a, b with
  | .int i, .int j => some (.bl (decide (j ≤ i)))
  | _, _ => none
def isNonD : D → Bool
  | .non => true
  | _ => false
def isBlD (c : Bool) : D → Bool
  | .bl b => b == c
  | _ => false
def isD (a b : D) : Option D := match b with
  | .non => some (.bl (isNonD a))
  | .bl c => some (.bl (isBlD c a))
  | _ => none
def isnD (a b : D) : Option D := match b with
  | .non => some (.bl (!isNonD a))
  | .bl c => some (.bl (!isBlD c a))
  | _ => none
def keyD : D → Option Key
  | .int i => some (.inl i)
  | .str x => some (.inr x)
  | _ => none
def getP {β : Type} (ks : List Key) (vs : List β) (k : Key) : Option β := ((ks.zip vs).find? fun kv => decide (kv.1 = k)).map (·.2)
def signD (x : Str) : Option Nat := match x.cps.toList with
  | [c] => some c
  | _ => none
def memD (a b : D) : Option Bool := match b with
  | .tup xs => if flatD a = true ∧ xs.all flatD = true then some (xs.any fun y => eqF y a) else none
  | .lst xs => if flatD a = true ∧ xs.all flatD = true then some (xs.any fun y => eqF y a) else none
  | .dct ks vs => (keyD a).map fun k => (getP ks vs k).isSome
  | .str z => match a with
    | .str x => (signD x).map fun c => decide (c ∈ z.cps.toList)
    | _ => none
  | _ => none
def inD (a b : D) : Option D := (memD a b).map .bl
def ninD (a b : D) : Option D := (memD a b).map fun k => .bl (!k)
section
variable {X : Cx}
theorem o_eq (hu : X.A.units + 64 < cLine) : OpD X (compareOp .Eq) eqD := by
  intro pins s σ H x y v u Q J rx ry h
  obtain ⟨ρ, I, a, b, d, n, ra, rb, e, q⟩ := h
  unfold eqD eqvD at e
  cases e1 : toPy a with
  | none => rw [e1] at e; cases e
  | some x1 =>
    cases e2 : toPy b with
    | none => rw [e1, e2] at e; cases e
    | some x2 =>
      rw [e1, e2] at e
      dsimp only at e
      split at e
      · rename_i hs; cases e
        exact op_eqD hu pins s σ H x y v u Q J rx ry ⟨x1, x2, ra.dp e1, rb.dp e2, hs.1, hs.2, q I H _ (Ext.refl _ _) (.bl _)⟩
      · cases e
theorem o_ne (hu : X.A.units + 64 < cLine) : OpD X (compareOp .NotEq) neD := by
  intro pins s σ H x y v u Q J rx ry h
  obtain ⟨ρ, I, a, b, d, n, ra, rb, e, q⟩ := h
  unfold neD eqvD at e
  cases e1 : toPy a with
  | none => rw [e1] at e; cases e
  | some x1 =>
    cases e2 : toPy b with
    | none => rw [e1, e2] at e; cases e
    | some x2 =>
      rw [e1, e2] at e
      dsimp only at e
      split at e
      · rename_i hs; cases e
        exact op_neD hu pins s σ H x y v u Q J rx ry ⟨x1, x2, ra.dp e1, rb.dp e2, hs.1, hs.2, q I H _ (Ext.refl _ _) (.bl _)⟩
      · cases e
theorem o_lt : OpD X (compareOp .Lt) ltD := by
  intro pins s σ H x y v u Q J rx ry h
  obtain ⟨ρ, I, a, b, d, n, ra, rb, e, q⟩ := h
  unfold ltD at e
  split at e
  · cases ra; cases rb; cases e
    exact op_lt pins s σ H _ _ v u Q J rx ry ⟨_, _, rfl, rfl, q I H _ (Ext.refl _ _) (.bl _)⟩
  · cases e
theorem o_le : OpD X (compareOp .LtE) leD := by
  intro pins s σ H x y v u Q J rx ry h
  obtain ⟨ρ, I, a, b, d, n, ra, rb, e, q⟩ := h
  unfold leD at e
  split at e
  · cases ra; cases rb; cases e
    exact op_le pins s σ H _ _ v u Q J rx ry ⟨_, _, rfl, rfl, q I H _ (Ext.refl _ _) (.bl _)⟩
  · cases e
theorem o_gt : OpD X (compareOp .Gt) gtD := by
  intro pins s σ H x y v u Q J rx ry h
  obtain ⟨ρ, I, a, b, d, n, ra, rb, e, q⟩ := h
  unfold gtD at e
  split at e
  · cases ra; cases rb; cases e
    exact op_gt pins s σ H _ _ v u Q J rx ry ⟨_, _, rfl, rfl, q I H _ (Ext.refl _ _) (.bl _)⟩
  · cases e
theorem o_ge : OpD X (compareOp .GtE) geD := by
  intro pins s σ H x y v u Q J rx ry h
  obtain ⟨ρ, I, a, b, d, n, ra, rb, e, q⟩ := h
  unfold geD at e
  split at e
  · cases ra; cases rb; cases e
    exact op_ge pins s σ H _ _ v u Q J rx ry ⟨_, _, rfl, rfl, q I H _ (Ext.refl _ _) (.bl _)⟩
  · cases e
theorem Rel.isNon {K : KF} {ρ : List Addr} {I : Addr → Prop} {H : Hp} {a : D} {x : V} (r : Rel K ρ I H a x) : decide (x = .non) = isNonD a := by cases r <;> rfl
theorem Rel.isBl {K : KF} {ρ : List Addr} {I : Addr → Prop} {H : Hp} {a : D} {x : V} {c : Bool} (r : Rel K ρ I H a x) : decide (x = .bl c) = isBlD c a := by
  cases r with
  | bl b => exact dec_bl
  | _ => rfl
theorem o_is : OpD X (compareOp .Is) isD := by
  intro pins s σ H x y v u Q J rx ry h
  obtain ⟨ρ, I, a, b, d, n, ra, rb, e, q⟩ := h
  unfold isD at e
  split at e
  · cases rb; cases e
    exact op_isN pins s σ H _ _ v u Q J rx ry ⟨rfl, by rw [ra.isNon]; exact q I H _ (Ext.refl _ _) (.bl _)⟩
  · cases rb; cases e
    exact PMA.op_isB pins s σ H _ _ v u Q J rx ry ⟨_, rfl, by rw [ra.isBl]; exact q I H _ (Ext.refl _ _) (.bl _)⟩
  · cases e
theorem o_isn : OpD X (compareOp .IsNot) isnD := by
  intro pins s σ H x y v u Q J rx ry h
  obtain ⟨ρ, I, a, b, d, n, ra, rb, e, q⟩ := h
  unfold isnD at e
  split at e
  · cases rb; cases e
    exact op_notN pins s σ H _ _ v u Q J rx ry ⟨rfl, by rw [ra.isNon]; exact q I H _ (Ext.refl _ _) (.bl _)⟩
  · cases rb; cases e
    exact PMA.op_notB pins s σ H _ _ v u Q J rx ry ⟨_, rfl, by rw [ra.isBl]; exact q I H _ (Ext.refl _ _) (.bl _)⟩
  · cases e
theorem keyD_rel {K : KF} {ρ : List Addr} {I : Addr → Prop} {H : Hp} {a : D} {x : V} {k : Key} (r : Rel K ρ I H a x) (h : keyD a = some k) : x = kV k := by
  cases r <;> cases h <;> rfl
theorem getP_rel {K : KF} {ρ : List Addr} {I : Addr → Prop} {H : Hp} {k : Key} : ∀ {kvs : List (Key × V)} {vs : List D}, RelL K ρ I H vs (kvs.map (·.2)) → (∀ d, getP (kvs.map (·.1)) vs k = some d → ∃ v, valV kvs k = some v ∧ Rel K ρ I H d v) ∧ (getP (kvs.map (·.1)) vs k).isSome = (valV kvs k).isSome
  | [], _, .nil => ⟨(fun d h => by cases h), rfl⟩
  | (k', v) :: kvs, _, .cons (d := d) a b => by
    have ih := getP_rel (k := k) b
    by_cases hk : k' = k
    · subst hk
      have e1 : ∀ vs : List D, getP (((k', v) :: kvs).map (·.1)) (d :: vs) k' = some d := fun vs => by simp [getP]
      have e2 : valV ((k', v) :: kvs) k' = some v := valV_pos rfl
      rw [e1, e2]
      exact ⟨fun d' h => by cases h; exact ⟨v, rfl, a⟩, rfl⟩
    · have e1 : ∀ vs : List D, getP (((k', v) :: kvs).map (·.1)) (d :: vs) k = getP (kvs.map (·.1)) vs k := fun vs => by simp [getP, hk]
      have e2 : valV ((k', v) :: kvs) k = valV kvs k := valV_neg hk
      rw [e1, e2]
      exact ih
theorem op_inDict (hu : X.A.units + 1 < cLine) : OpR X (compareOp .In) (fun x y H Q => ∃ a o, y = .ref a ∧ DGet H a x o ∧ Q (.bl o.isSome) H) := by
  intro pins s σ H x y v u Q I rx ry ⟨a, o, e, g, q⟩
  subst e
  cases ry
  exact d_in hu I g rx fun s' I' => ⟨.bl _, H, I', rfl, q⟩
theorem op_ninDict (hu : X.A.units + 1 < cLine) : OpR X (compareOp .NotIn) (fun x y H Q => ∃ a o, y = .ref a ∧ DGet H a x o ∧ Q (.bl (!o.isSome)) H) := by
  intro pins s σ H x y v u Q I rx ry ⟨a, o, e, g, q⟩
  subst e
  cases ry
  exact d_notIn hu I g rx fun s' I' => ⟨.bl _, H, I', rfl, q⟩
theorem signD_eq {x : Str} {c : Nat} (h : signD x = some c) : x = ⟨#[c]⟩ := by
  obtain ⟨cps⟩ := x
  unfold signD at h
  dsimp only at h
  split at h
  · rename_i c' e
    cases h
    have : cps = #[c] := by
      have := congrArg List.toArray e
      simpa using this
    rw [this]
  · cases h
theorem o_in (hu : X.A.units + 64 < cLine) : OpD X (compareOp .In) inD := by
  intro pins s σ H x y v u Q J rx ry h
  obtain ⟨ρ, I, a, b, d, n, ra, rb, e, q⟩ := h
  unfold inD memD at e
  split at e
  · split at e
    · rename_i hf
      cases e
      cases rb with
      | tup hi r => exact op_in_seq pins s σ H _ _ v u Q J rx ry ⟨_, _, rfl, .inr hi.sq, ra.flat hf.1, r.flat hf.2, by rw [if_neg Bool.false_ne_true, RelL.inV ra hf.1 r hf.2]; exact q I H _ (Ext.refl _ _) (.bl _)⟩
    · cases e
  · split at e
    · rename_i hf
      cases e
      cases rb with
      | lst hi r => exact op_in_seq pins s σ H _ _ v u Q J rx ry ⟨_, _, rfl, .inl hi.sq, ra.flat hf.1, r.flat hf.2, by rw [if_neg Bool.false_ne_true, RelL.inV ra hf.1 r hf.2]; exact q I H _ (Ext.refl _ _) (.bl _)⟩
    · cases e
  · cases rb with
    | @dct vs p od kvs hi hH r =>
      cases ek : keyD a with
      | none => rw [ek] at e; cases e
      | some k =>
        rw [ek] at e
        cases e
        rw [keyD_rel ra ek] at rx
        refine op_inDict (by omega) pins s σ H _ _ v u Q J rx ry ⟨p, valV kvs k, rfl, (.inl ⟨kvs, k, .inr ⟨od, hH⟩, rfl, rfl⟩), ?_⟩
        rw [← (getP_rel r).2]
        exact q I H _ (Ext.refl _ _) (.bl _)
  · split at e
    · rename_i x0
      cases es : signD x0 with
      | none => rw [es] at e; cases e
      | some c =>
        rw [es] at e
        cases e
        cases ra; cases rb
        have := signD_eq es
        subst this
        exact op_in_sign pins s σ H _ _ v u Q J rx ry ⟨c, _, rfl, rfl, q I H _ (Ext.refl _ _) (.bl _)⟩
    · cases e
  · cases e
theorem o_nin (hu : X.A.units + 64 < cLine) : OpD X (compareOp .NotIn) ninD := by
  intro pins s σ H x y v u Q J rx ry h
  obtain ⟨ρ, I, a, b, d, n, ra, rb, e, q⟩ := h
  unfold ninD memD at e
  split at e
  · split at e
    · rename_i hf
      cases e
      cases rb with
      | tup hi r => exact op_notIn_seq pins s σ H _ _ v u Q J rx ry ⟨_, _, rfl, .inr hi.sq, ra.flat hf.1, r.flat hf.2, by rw [if_pos rfl, RelL.inV ra hf.1 r hf.2]; exact q I H _ (Ext.refl _ _) (.bl _)⟩
    · cases e
  · split at e
    · rename_i hf
      cases e
      cases rb with
      | lst hi r => exact op_notIn_seq pins s σ H _ _ v u Q J rx ry ⟨_, _, rfl, .inl hi.sq, ra.flat hf.1, r.flat hf.2, by rw [if_pos rfl, RelL.inV ra hf.1 r hf.2]; exact q I H _ (Ext.refl _ _) (.bl _)⟩
    · cases e
  · cases rb with
    | @dct vs p od kvs hi hH r =>
      cases ek : keyD a with
      | none => rw [ek] at e; cases e
      | some k =>
        rw [ek] at e
        cases e
        rw [keyD_rel ra ek] at rx
        refine op_ninDict (by omega) pins s σ H _ _ v u Q J rx ry ⟨p, valV kvs k, rfl, (.inl ⟨kvs, k, .inr ⟨od, hH⟩, rfl, rfl⟩), ?_⟩
        rw [← (getP_rel r).2]
        exact q I H _ (Ext.refl _ _) (.bl _)
  · split at e
    · rename_i x0
      cases es : signD x0 with
      | none => rw [es] at e; cases e
      | some c =>
        rw [es] at e
        cases e
        cases ra; cases rb
        have := signD_eq es
        subst this
        exact op_notIn_sign pins s σ H _ _ v u Q J rx ry ⟨c, _, rfl, rfl, q I H _ (Ext.refl _ _) (.bl _)⟩
    · cases e
  · cases e
end

/-! ### slices -/
def cutL (xs : List D) (lo hi : Option Int) : List D := (xs.drop (HT.sIx xs.length 0 lo)).take (HT.sIx xs.length xs.length hi - HT.sIx xs.length 0 lo)
def slD (d : D) (lo hi : Option Int) : Option D := match d with
  | .tup xs => some (.tup (cutL xs lo hi))
  | .lst xs => some (.lst (cutL xs lo hi))
  | .str z => if z.length ≤ sizeLine then some (.str (cutS z lo hi)) else none
  | _ => none
abbrev POd (X : Cx) (W : XK) (f : S → R (Option Int)) (e : Option Expr) : Prop := PO X e (dG X.K X.mg W (fun _ _ _ a b => a = b) f)
def oNo (s : S) : R (Option Int) := .ok none s
def oSm (f : S → R D) (s : S) : R (Option Int) := (f s).bind fun d s => match d with
  | .int i => .ok (some i) s
  | _ => .stuck
def eSl (fe : S → R D) (fl fh : S → R (Option Int)) (s : S) : R D := (fe s).bind fun d s => (fl s).bind fun lo s => (fh s).bind fun hi s => match slD d lo hi with
  | some e => .ok e s
  | none => .stuck
def revK (d : D) (s : S) : R D := match d with
  | .tup xs => .ok (.tup xs.reverse) s
  | .lst xs => .ok (.lst xs.reverse) s
  | _ => .stuck
def eRev (fe : S → R D) (s : S) : R D := (fe s).bind revK
section
variable {X : Cx} {W : XK} {e : Expr} {fe : S → R D}
theorem PO.imp {e : Option Expr} {t t' : TO} (h : PO X e t) (i : ∀ σ H Q, t' σ H Q → t σ H Q) : PO X e t' := ⟨fun pins s σ H Q I q => h.run pins s σ H Q I (i σ H Q q)⟩
theorem o_no : POd X W oNo none := PO.imp po_none fun σ H Q ⟨ρ, I, s, M, E, h⟩ => h.here (Ext.refl _ _) M E rfl
theorem o_sm (h : PEd X W fe e) : POd X W (oSm fe) (some e) := PO.imp (po_some h) fun σ H Q ⟨ρ, I, s, M, E, h⟩ => dG.bind M E h fun d s1 ρ1 I1 H1 v M1 E1 r up h => by
  cases d with
  | int i => cases r; exact ⟨i, rfl, h.here (Ext.refl _ _) M1 E1 rfl⟩
  | _ => exact h.elim
theorem RelL.cut {K : KF} {ρ : List Addr} {I : Addr → Prop} {H : Hp} {ds : List D} {vs : List V} {lo hi : Option Int} (r : RelL K ρ I H ds vs) : RelL K ρ I H (cutL ds lo hi) (cutV vs lo hi) := by
  unfold cutL cutV
  rw [r.length]
  exact (r.drop _).take _
theorem cutL_all {ds : List D} {n : Nat} {lo hi : Option Int} (hn : n = ds.length) (h : HT.sIx n 0 lo = 0 ∧ HT.sIx n n hi = n) : cutL ds lo hi = ds := by
  subst hn
  unfold cutL
  rw [h.1, h.2, List.drop_zero, Nat.sub_zero, List.take_length]
theorem sl_d : SlR X (fun x lo hi H Q => ∃ (ρ : List Addr) (I : Addr → Prop) (d e : D), (∀ p ∈ ρ, ¬ I p) ∧ Rel X.K ρ I H d x ∧ slD d lo hi = some e ∧ ∀ I' H' w, Ext I H I' H' → Rel X.K ρ I' H' e w → Q w H') := by
  intro pins s σ H x v vl vu lo hi sl Q J rx hs pl pu h
  obtain ⟨ρ, I, d, e, n, rd, ed, q⟩ := h
  unfold slD at ed
  split at ed
  · cases ed
    cases rd with
    | @tup ds p xs hI r =>
      refine sl_tupA pins s σ H _ v vl vu lo hi sl Q J rx hs pl pu ⟨p, xs, rfl, hI.sq, fun z => ?_, fun z p' hp => ?_⟩
      · rw [cutL_all r.length.symm z] at q
        exact q I H _ (Ext.refl _ _) (.tup hI r)
      · have x := Ext.new (I := I) (o := .tup (cutV xs lo hi)) hp
        exact q _ _ _ x (.tup (.inl ⟨.inr rfl, upd_same⟩) (r.cut.ext x n))
  · cases ed
    cases rd with
    | @lst ds p xs hI r =>
      refine sl_list pins s σ H _ v vl vu lo hi sl Q J rx hs pl pu ⟨p, xs, rfl, hI.sq, fun p' hp => ?_⟩
      have x := Ext.new (I := I) (o := .lst (cutV xs lo hi)) hp
      exact q _ _ _ x (.lst ⟨.inr rfl, upd_same⟩ (r.cut.ext x n))
  · split at ed
    · rename_i hz
      cases ed
      cases rd
      exact sl_str pins s σ H _ v vl vu lo hi sl Q J rx hs pl pu ⟨_, rfl, hz, q I H _ (Ext.refl _ _) (.str _)⟩
    · cases ed
  · cases ed
theorem d_slice {lo hi : Option Expr} {fl fh : S → R (Option Int)} {p2 pos : Pos} (he : PEd X W fe e) (hl : POd X W fl lo) (hh : POd X W fh hi) : PEd X W (eSl fe fl fh) (.Subscript e (.Slice lo hi none p2) pos) :=
  PE.imp (pe_slice sl_d he hl hh) fun σ H Q ⟨ρ, I, s, M, E, h⟩ => dG.bind M E h fun d s1 ρ1 I1 H1 v M1 E1 r up h =>
    dG.bind M1 E1 h fun lo s2 ρ2 I2 H2 lo' M2 E2 r2 up2 h => dG.bind M2 E2 h fun hi s3 ρ3 I3 H3 hi' M3 E3 r3 up3 h => by
      subst r2 r3
      cases e1 : slD d lo hi with
      | none => rw [e1] at h; exact h.elim
      | some z => rw [e1] at h; exact ⟨ρ3, I3, d, z, M3.dis, up3 (up2 r), e1, fun I' H' w x r => h.here x M3 E3 r⟩
theorem d_rev {k : Nat} {p1 p2 p3 pos : Pos} (he : PEd X W fe e) : PEd X W (eRev fe) (.Subscript e (.Slice none none (some (.UnaryOp .USub (.Constant (.int 1) k p1) p2)) p3) pos) := by
  refine PE.imp (PE.or (PMA.pe_revT he) (pe_revL he)) fun σ H Q ⟨ρ, I, s, M, E, h⟩ => ?_
  cases e1 : fe s with
  | err x m => have : eRev fe s = .err x m := by unfold eRev; rw [e1]
               rw [this] at h
               exact .inl ⟨ρ, I, s, M, E, by rw [e1]; exact h⟩
  | stuck => have : eRev fe s = .stuck := by unfold eRev; rw [e1]
             rw [this] at h; exact h.elim
  | ok d s1 =>
    have hv : eRev fe s = revK d s1 := by unfold eRev; rw [e1]
    rw [hv] at h
    cases d with
    | tup ds =>
      refine .inl ⟨ρ, I, s, M, E, ?_⟩
      rw [e1]
      intro ρ1 I1 H1 v f1 M1 E1 r
      cases r with
      | @tup _ p xs hi r =>
        refine ⟨p, xs, rfl, hi.sq, fun q hq => ?_⟩
        have x := Ext.new (I := I1) (o := .tup xs.reverse) hq
        exact (h.rebase f1).here x M1 E1 (.tup (.inl ⟨.inr rfl, upd_same⟩) (r.reverse.ext x M1.dis))
    | lst ds =>
      refine .inr ⟨ρ, I, s, M, E, ?_⟩
      rw [e1]
      intro ρ1 I1 H1 v f1 M1 E1 r
      cases r with
      | @lst _ p xs hi r =>
        refine ⟨p, xs, rfl, hi.sq, fun q hq => ?_⟩
        have x := Ext.new (I := I1) (o := .lst xs.reverse) hq
        exact (h.rebase f1).here x M1 E1 (.lst ⟨.inr rfl, upd_same⟩ (r.reverse.ext x M1.dis))
    | _ => exact h.elim
end

/-! ### built-ins -/
def lenD : List D → Option D
  | [.str x] => if x.length ≤ sizeLine then some (.int x.length) else none
  | [.tup xs] => some (.int xs.length)
  | [.lst xs] => some (.int xs.length)
  | [.frz xs] => some (.int xs.length)
  | [.dct ks vs] => some (.int ks.length)
  | _ => none
def blsD : List D → Option (List Bool)
  | [] => some []
  | .bl b :: ds => (blsD ds).map (b :: ·)
  | _ => none
def allD : List D → Option D
  | [.lst xs] => (blsD xs).map fun bs => .bl (bs.all id)
  | _ => none
def anyD : List D → Option D
  | [.lst xs] => (blsD xs).map fun bs => .bl (bs.any id)
  | _ => none
def absD : List D → Option D
  | [.int i] => some (.int (if i < 0 then -i else i))
  | _ => none
def gcdD : List D → Option D
  | [.int a, .int b] => some (.int ((Nat.gcd a.natAbs b.natAbs : Nat) : Int))
  | _ => none
def intD : List D → Option D
  | [.int i] => some (.int i)
  | [.bl k] => some (.int (if k then 1 else 0))
  | _ => none
def listD : List D → Option D
  | [.lst xs] => some (.lst xs)
  | [.tup xs] => some (.lst xs)
  | _ => none
def tupleD : List D → Option D
  | [.lst xs] => some (.tup xs)
  | [.tup xs] => some (.tup xs)
  | _ => none
section
variable {X : Cx} {W : XK}
theorem blsD_rel {K : KF} {ρ : List Addr} {I : Addr → Prop} {H : Hp} : ∀ {ds : List D} {vs : List V} {bs : List Bool}, RelL K ρ I H ds vs → blsD ds = some bs → vs = bs.map V.bl
  | _, _, _, .nil, h => by cases h; rfl
  | _, _, _, .cons (d := d) (ds := ds) a b, h => by
    cases d with
    | bl k =>
      have h : (blsD ds).map (k :: ·) = some _ := h
      cases e : blsD ds with
      | none => rw [e] at h; cases h
      | some bs => rw [e] at h; cases h; cases a; rw [blsD_rel b e]; rfl
    | _ => cases h
theorem RelL.one {K : KF} {ρ : List Addr} {I : Addr → Prop} {H : Hp} {d : D} {vs : List V} (r : RelL K ρ I H [d] vs) : ∃ v, vs = [v] ∧ Rel K ρ I H d v := by
  cases r with
  | cons a b => cases b; exact ⟨_, rfl, a⟩
theorem c_len : CallD X (.builtin "len") lenD := by
  intro pins s σ H xs us Q J r h
  obtain ⟨ρ, I, ds, d, n, ra, e, q⟩ := h
  unfold lenD at e
  split at e
  · split at e
    · rename_i hz; cases e
      obtain ⟨v, rfl, r1⟩ := ra.one; cases r1
      exact call_len pins s σ H _ us Q J r ⟨_, _, rfl, ⟨hz, rfl⟩, q I H _ (Ext.refl _ _) (.int _)⟩
    · cases e
  · cases e
    obtain ⟨v, rfl, r1⟩ := ra.one
    cases r1 with
    | tup hi r2 => exact call_len pins s σ H _ us Q J r ⟨_, _, rfl, .inr ⟨_, hi.sq, r2.length⟩, q I H _ (Ext.refl _ _) (.int _)⟩
  · cases e
    obtain ⟨v, rfl, r1⟩ := ra.one
    cases r1 with
    | lst hi r2 => exact call_len pins s σ H _ us Q J r ⟨_, _, rfl, .inl ⟨_, hi.sq, r2.length⟩, q I H _ (Ext.refl _ _) (.int _)⟩
  · cases e
    obtain ⟨v, rfl, r1⟩ := ra.one
    cases r1 with
    | frz hi r2 => exact call_len pins s σ H _ us Q J r ⟨_, _, rfl, .inl ⟨_, hi.sq, r2.length⟩, q I H _ (Ext.refl _ _) (.int _)⟩
  · cases e
    obtain ⟨v, rfl, r1⟩ := ra.one
    cases r1 with
    | @dct vs p od kvs hi hH r2 =>
      obtain ⟨u, rfl, ru⟩ := vals1 r
      cases ru
      refine d_len J (.inr ⟨od, hH⟩) fun t s' J' => ⟨.int kvs.length, H, J', ⟨t, rfl⟩, ?_⟩
      have := q I H (.int kvs.length) (Ext.refl _ _) (by rw [List.length_map]; exact .int _)
      exact this
  · cases e
theorem c_all (hc : X.calm = true) : CallD X (.builtin "all") allD := by
  intro pins s σ H xs us Q J r h
  obtain ⟨ρ, I, ds, d, n, ra, e, q⟩ := h
  unfold allD at e
  split at e
  · rename_i zs
    cases eb : blsD zs with
    | none => rw [eb] at e; cases e
    | some bs =>
      rw [eb] at e; cases e
      obtain ⟨v, rfl, r1⟩ := ra.one
      cases r1 with
      | @lst _ p ys hi r2 =>
        have := blsD_rel r2 eb
        subst this
        exact cr_all hc pins s σ H _ us Q J r ⟨p, bs, rfl, hi.sq, q I H _ (Ext.refl _ _) (.bl _)⟩
  · cases e
theorem c_any (hc : X.calm = true) : CallD X (.builtin "any") anyD := by
  intro pins s σ H xs us Q J r h
  obtain ⟨ρ, I, ds, d, n, ra, e, q⟩ := h
  unfold anyD at e
  split at e
  · rename_i zs
    cases eb : blsD zs with
    | none => rw [eb] at e; cases e
    | some bs =>
      rw [eb] at e; cases e
      obtain ⟨v, rfl, r1⟩ := ra.one
      cases r1 with
      | @lst _ p ys hi r2 =>
        have := blsD_rel r2 eb
        subst this
        exact cr_any hc pins s σ H _ us Q J r ⟨p, bs, rfl, hi.sq, q I H _ (Ext.refl _ _) (.bl _)⟩
  · cases e
theorem c_abs : CallD X (.builtin "abs") absD := by
  intro pins s σ H xs us Q J r h
  obtain ⟨ρ, I, ds, d, n, ra, e, q⟩ := h
  unfold absD at e
  split at e
  · cases e
    obtain ⟨v, rfl, r1⟩ := ra.one; cases r1
    exact call_abs pins s σ H _ us Q J r ⟨_, rfl, q I H _ (Ext.refl _ _) (.int _)⟩
  · cases e
theorem c_gcd : CallD X (.builtin "math.gcd") gcdD := by
  intro pins s σ H xs us Q J r h
  obtain ⟨ρ, I, ds, d, n, ra, e, q⟩ := h
  unfold gcdD at e
  split at e
  · cases e
    cases ra with
    | cons r1 r2 =>
      obtain ⟨v, rfl, r3⟩ := r2.one
      cases r1; cases r3
      exact cr_gcd pins s σ H _ us Q J r ⟨_, _, rfl, q I H _ (Ext.refl _ _) (.int _)⟩
  · cases e
theorem c_int : CallD X (.type "int") intD := by
  intro pins s σ H xs us Q J r h
  obtain ⟨ρ, I, ds, d, n, ra, e, q⟩ := h
  unfold intD at e
  split at e
  · cases e
    obtain ⟨v, rfl, r1⟩ := ra.one; cases r1
    exact call_int1 pins s σ H _ us Q J r (.inl ⟨_, rfl, q I H _ (Ext.refl _ _) (.int _)⟩)
  · cases e
    obtain ⟨v, rfl, r1⟩ := ra.one; cases r1
    exact call_int1 pins s σ H _ us Q J r (.inr ⟨_, rfl, q I H _ (Ext.refl _ _) (.int _)⟩)
  · cases e
theorem c_list : CallD X (.type "list") listD := by
  intro pins s σ H xs us Q J r h
  obtain ⟨ρ, I, ds, d, n, ra, e, q⟩ := h
  unfold listD at e
  split at e
  · cases e
    obtain ⟨v, rfl, r1⟩ := ra.one
    cases r1 with
    | @lst _ p ys hi r2 => exact call_list_of pins s σ H _ us Q J r ⟨p, ys, rfl, .inl hi.sq, fun l hl => by
        have x := Ext.new (I := I) (o := .lst ys) hl
        exact q _ _ _ x (.lst ⟨.inr rfl, upd_same⟩ (r2.ext x n))⟩
  · cases e
    obtain ⟨v, rfl, r1⟩ := ra.one
    cases r1 with
    | @tup _ p ys hi r2 => exact call_list_of pins s σ H _ us Q J r ⟨p, ys, rfl, .inr hi.sq, fun l hl => by
        have x := Ext.new (I := I) (o := .lst ys) hl
        exact q _ _ _ x (.lst ⟨.inr rfl, upd_same⟩ (r2.ext x n))⟩
  · cases e
theorem c_tuple : CallD X (.type "tuple") tupleD := by
  intro pins s σ H xs us Q J r h
  obtain ⟨ρ, I, ds, d, n, ra, e, q⟩ := h
  unfold tupleD at e
  split at e
  · cases e
    obtain ⟨v, rfl, r1⟩ := ra.one
    cases r1 with
    | @lst _ p ys hi r2 => exact call_tuple_of pins s σ H _ us Q J r ⟨p, ys, rfl, .inl ⟨hi.sq, fun l hl => by
        have x := Ext.new (I := I) (o := .tup ys) hl
        exact q _ _ _ x (.tup (.inl ⟨.inr rfl, upd_same⟩) (r2.ext x n))⟩⟩
  · cases e
    obtain ⟨v, rfl, r1⟩ := ra.one
    cases r1 with
    | @tup _ p ys hi r2 => exact call_tuple_of pins s σ H _ us Q J r ⟨p, ys, rfl, .inr ⟨hi.sq, q I H _ (Ext.refl _ _) (.tup hi r2)⟩⟩
  · cases e
theorem d_callBf {g : List D → Option D} {x : Str} {p pos : Pos} {id : String} {a : Expr} {es : List Expr} {fs : S → R (List D)} (hc : CallD X (.builtin id) g) (hg : Gl X x) (hm : X.mg x = some (.builtin id)) (ha : PAd X W fs (a :: es)) (hdb : (x == ("__debug__" : Str)) = false := by decide)
    (he : starEach (a :: es) X.env = (false, eval a X.env) :: starEach es X.env := by rfl) (hpl : (backTo pos (starEach es X.env)).any (·.1) = false := by rfl) : PEd X W (eCall g fs) (.Call (.Name x p) (a :: es) [] pos) :=
  PE.imp (pe_callBfun hc hg hm ha hdb he hpl) fun _ _ _ => tCB_d

/-! isinstance(x, T) -/
def tyName : D → String
  | .non => "NoneType"
  | .bl _ => "bool"
  | .int _ => "int"
  | .str _ => "str"
  | .tup _ => "tuple"
  | .ptp _ => "tuple"
  | .lst _ => "list"
  | .frz _ => "list"
  | .dct _ _ => "dict"
  | .kdt _ _ => ""
  | .ref _ => ""
inductive Ty where
  | int | bool | str | tuple | list | dict
def Ty.name : Ty → String
  | .int => "int" | .bool => "bool" | .str => "str" | .tuple => "tuple" | .list => "list" | .dict => "dict"
def isiD : Ty → D → Option Bool
  | _, .ref _ => none
  | _, .kdt _ _ => none
  | .int, .int _ => some true
  | .int, .bl _ => some true
  | .bool, .bl _ => some true
  | .str, .str _ => some true
  | .tuple, .tup _ => some true
  | .tuple, .ptp _ => some true
  | .list, .lst _ => some true
  | .list, .frz _ => some true
  | .dict, .dct _ _ => some true
  | _, _ => some false
theorem isi_kit {t : Ty} {d : D} {b : Bool} (h : isiD t d = some b) : kitB (tyName d) t.name = some b := by
  cases d <;> cases t <;> cases h <;> (dsimp only [tyName, Ty.name]; decide +kernel)
theorem tyX_of {K : KF} {ρ : List Addr} {I : Addr → Prop} {H : Hp} {d : D} {v : V} (r : Rel K ρ I H d v) (hn : ∀ n, d ≠ .ref n) (hk : ∀ a b, d ≠ .kdt a b) : TyX K H v (.type (tyName d)) := by
  cases r with
  | non => exact .base .non
  | bl b => exact .base (.bl b)
  | int i => exact .base (.int i)
  | str x => exact .base (.str x)
  | tup hi r =>
    rcases hi with ⟨_, h⟩ | ⟨o, its, n, h1, h2, _⟩
    · exact .base (.tup h)
    · exact .kTuple h1 h2
  | lst hi r => exact .base (.lst hi.2)
  | ptp hi h o r => exact .fTuple h
  | frz hi r =>
    rcases hi with ⟨_, h | ⟨o, h⟩⟩ | ⟨o, its, n, h1, h2, _⟩
    · exact .base (.lst h)
    · exact .base (.frz h)
    · exact .kList h1 h2
  | dct hi h r => exact .fDict h
  | kdt => exact absurd rfl (hk _ _)
  | ref h => exact absurd rfl (hn _)
def eIsi (t : Ty) (f : S → R D) (s : S) : R D := (f s).bind fun d s => match isiD t d with
  | some b => .ok (.bl b) s
  | none => .stuck
theorem d_isi {a : Expr} {f : S → R D} {p p2 pos : Pos} (t : Ty) (ha : PEd X W f a) (hg : Gl X "isinstance") (hm : X.mg "isinstance" = none) (hg2 : Gl X (Str.ofString t.name)) (hm2 : X.mg (Str.ofString t.name) = none) (hv2 : bootBuiltins (Str.ofString t.name) = some (.type t.name)) (hn2 : Str.ofString t.name ≠ "__name__") (hd2 : (Str.ofString t.name == ("__debug__" : Str)) = false)
    (hs1 : starEach [a, .Name (Str.ofString t.name) p2] X.env = (false, eval a X.env) :: starEach [.Name (Str.ofString t.name) p2] X.env := by rfl) (hpl : (backTo pos (starEach [Expr.Name (Str.ofString t.name) p2] X.env)).any (·.1) = false := by rfl) :
    PEd X W (eIsi t f) (.Call (.Name "isinstance" p) [a, .Name (Str.ofString t.name) p2] [] pos) := by
  refine PE.imp (pe_callB call_isi hg hm (by decide +kernel) (pa_cons ha (pa_cons (pe_bltn (v := .ty t.name) hg2 hm2 hv2 rfl hn2 hd2) pa_nil) hs1) (he := hs1) (hpl := hpl)) fun σ H Q ⟨ρ, I, s, M, E, h⟩ => ?_
  refine dG.bind M E h fun d s1 ρ1 I1 H1 v M1 E1 r up h => ?_
  cases e : isiD t d with
  | none => rw [e] at h; exact h.elim
  | some b =>
    rw [e] at h
    refine ⟨v, .ty t.name, _, _, b, rfl, .ty _, tyX_of r (fun n z => ?_) (fun n n' z => ?_), kit_ty (isi_kit e), h.here (Ext.refl _ _) M1 E1 (.bl b)⟩
    · subst z
      cases t <;> cases e
    · subst z
      cases t <;> cases e
end
end PM
end

section
set_option Elab.async false
set_option linter.all false
set_option maxRecDepth 100000
/-! PM12: dict comprehensions, shared lists, strs as iterables, the rest of the statements. -/
namespace PM
open PySem PySem.Spec L2
variable [PWc]

/-! ### dict comprehensions -/
def putKs (ks : List Key) (k : Key) : List Key := if (ks.any fun k' => decide (k' = k)) = true then ks else ks ++ [k]
def putVs : List Key → List D → Key → D → List D
  | k' :: ks, d' :: ds, k, d => if k' = k then d :: ds else d' :: putVs ks ds k d
  | _, _, _, d => [d]
/-- no key twice -/
theorem putK_map {kvs : List (Key × V)} (nd : (kvs.map (·.1)).Nodup) (k : Key) (v : V) : ((putK kvs k v).map (·.1) = putKs (kvs.map (·.1)) k) ∧ ((kvs.map (·.1)).Nodup → (putKs (kvs.map (·.1)) k).Nodup) := by
  have mem : (kvs.any fun kv => decide (kv.1 = k)) = true ↔ k ∈ kvs.map (·.1) := by simp
  have mem2 : ((kvs.map (·.1)).any fun k' => decide (k' = k)) = true ↔ k ∈ kvs.map (·.1) := by simp
  unfold putK putKs
  by_cases h : k ∈ kvs.map (·.1)
  · rw [if_pos (mem.mpr h), if_pos (mem2.mpr h)]
    refine ⟨?_, id⟩
    rw [List.map_map]
    apply List.map_congr_left
    intro a _
    show (if a.1 = k then (a.1, v) else a).1 = a.1
    split <;> rfl
  · rw [if_neg (fun z => h (mem.mp z)), if_neg (fun z => h (mem2.mp z))]
    refine ⟨by simp, fun n => ?_⟩
    rw [List.nodup_append]
    exact ⟨n, by simp, fun a ha b hb e => by simp at hb; subst hb; subst e; exact h ha⟩
theorem map_noKey {k : Key} {v : V} : ∀ {kvs : List (Key × V)}, k ∉ kvs.map (·.1) → kvs.map (fun kv => if kv.1 = k then (kv.1, v) else kv) = kvs
  | [], _ => rfl
  | a :: kvs, h => by
    have h1 : ¬ a.1 = k := fun z => h (by simp [z])
    have h2 : k ∉ kvs.map (·.1) := fun z => h (by simp only [List.map_cons, List.mem_cons]; exact .inr z)
    simp only [List.map_cons, if_neg h1, map_noKey h2]
theorem putK_cons_ne {a : Key × V} {kvs : List (Key × V)} {k : Key} {v : V} (h : ¬ a.1 = k) : putK (a :: kvs) k v = a :: putK kvs k v := by
  unfold putK
  simp only [List.any_cons, decide_eq_false h, Bool.false_or, List.map_cons, if_neg h]
  split <;> rfl
theorem putK_cons_eq {a : Key × V} {kvs : List (Key × V)} {k : Key} {v : V} (h : a.1 = k) (n : k ∉ kvs.map (·.1)) : putK (a :: kvs) k v = (a.1, v) :: kvs := by
  unfold putK
  simp only [List.any_cons, decide_eq_true h, Bool.true_or, if_true, List.map_cons, if_pos h, map_noKey n]
theorem putVs_rel {K : KF} {ρ : List Addr} {I : Addr → Prop} {H : Hp} {k : Key} {d : D} {v : V} (r : Rel K ρ I H d v) : ∀ {kvs : List (Key × V)} {vs : List D}, (kvs.map (·.1)).Nodup → RelL K ρ I H vs (kvs.map (·.2)) → RelL K ρ I H (putVs (kvs.map (·.1)) vs k d) ((putK kvs k v).map (·.2))
  | [], _, _, .nil => .cons r .nil
  | a :: kvs, _, nd, .cons (d := d') (ds := ds) q qs => by
    have nd' := List.nodup_cons.mp nd
    by_cases h : a.1 = k
    · have e : putVs ((a :: kvs).map (·.1)) (d' :: ds) k d = d :: ds := by simp [putVs, h]
      rw [e, putK_cons_eq h (by rw [← h]; exact nd'.1)]
      exact .cons r qs
    · have e : putVs ((a :: kvs).map (·.1)) (d' :: ds) k d = d' :: putVs (kvs.map (·.1)) ds k d := by simp [putVs, h]
      rw [e, putK_cons_ne h]
      exact .cons q (putVs_rel r nd'.2 qs)
def dcItems (vs : List Nat) (t : Tgt) (ft : S → R Bool) (fk fe : S → R D) : List D → List Key → List D → S → R MO
  | [], ks, us, s => .ok (.dct ks us) s
  | d :: ds, ks, us, s => if noOwn s.env vs = true then (match tgD t d { s with env := wipeE s.env vs } with
    | none => .stuck
    | some s2 => match ft s2 with
      | .ok true s3 => (match fk s3 with
        | .ok y s4 => (match fe s4 with
          | .ok z s5 => (match keyD y with
            | some k => if ks.length < sizeLine then dcItems vs t ft fk fe ds (putKs ks k) (putVs ks us k z) { s5 with env := restE s.env s5.env vs } else .stuck
            | none => .stuck)
          | _ => .stuck)
        | _ => .stuck)
      | .ok false s3 => dcItems vs t ft fk fe ds ks us { s3 with env := restE s.env s3.env vs }
      | _ => .stuck) else .stuck
def eDc (vs : List Nat) (t : Tgt) (fi : S → R (List D)) (ft : S → R Bool) (fk fe : S → R D) (s : S) : R MO :=
  (fi s).bind fun ds s => dcItems vs t ft fk fe ds [] [] s

structure BlkD (K : KF) (σ : L2.St) (D0 : Addr) (ρ1 : List Addr) (I1 : Addr → Prop) (H1 : Hp) (O1 : Addr → Prop) (ρ : List Addr) (I : Addr → Prop) (H : Hp) (s : S) (us : List D) (kvs : List (Key × V)) : Prop where
  fr : Frm ρ1 I1 H1 O1 ρ I H (Own σ s.env)
  M : MemOk K ρ I H s.mem
  E : EnvOk K ρ I H σ s.env
  hD : H D0 = some (.dK kvs)
  ra : RelL K ρ I H us (kvs.map (·.2))
  nd : (kvs.map (·.1)).Nodup
  nI : ¬ I D0
  nr : D0 ∉ ρ
  no : ¬ Own σ s.env D0
section
variable {K : KF} {mg : Str → Option Value} {σ : L2.St} {D0 : Addr} {ρ1 ρ : List Addr} {I1 I : Addr → Prop} {H1 H : Hp} {O1 : Addr → Prop} {s : S} {us : List D} {kvs : List (Key × V)}
theorem BlkD.go {σ2 : L2.St} {s2 : S} {ρ2 : List Addr} {I2 : Addr → Prop} {H2 : Hp} (b : BlkD K σ D0 ρ1 I1 H1 O1 ρ I H s us kvs) (f : Frm ρ I H (Own σ s.env) ρ2 I2 H2 (Own σ2 s2.env)) (M2 : MemOk K ρ2 I2 H2 s2.mem) (E2 : EnvOk K ρ2 I2 H2 σ2 s2.env) : BlkD K σ2 D0 ρ1 I1 H1 O1 ρ2 I2 H2 s2 us kvs :=
  ⟨b.fr.trans f, M2, E2, f.keep _ _ b.hD b.nr b.no, b.ra.lat (f.lat b.M.dis fun p o => (b.E.ownI o).2.1), b.nd, fun z => (f.inew _ z b.nI).elim (fun q => by rw [b.hD] at q; cases q) b.no,
    fun z => (show ¬ (D0 ∈ ρ2) from fun z => (by
      have := f.rnew _ z b.nr
      rw [b.hD] at this; cases this)) z, fun z => (f.onew _ z).elim b.no fun q => by rw [b.hD] at q; cases q⟩
theorem BlkD.put {y : D} {yv : V} {k : Key} (b : BlkD K σ D0 ρ1 I1 H1 O1 ρ I H s us kvs) (h1 : H1 D0 = none) (ry : Rel K ρ I H y yv) : BlkD K σ D0 ρ1 I1 H1 O1 ρ I (upd H D0 (.dK (putK kvs k yv))) s (putVs (kvs.map (·.1)) us k y) (putK kvs k yv) := by
  obtain ⟨l, M, E⟩ := priv_ok (u := .dK (putK kvs k yv)) b.M b.E b.nI b.nr b.no
  have pm := putK_map b.nd k yv
  exact ⟨b.fr.priv h1, M, E, upd_same, putVs_rel (ry.lat l) b.nd (b.ra.lat l), by rw [pm.1]; exact pm.2 b.nd, b.nI, b.nr, b.no⟩
theorem dc_dF {W : XK} {vs : List Nat} {t : Tgt} {fi : S → R (List D)} {ft : S → R Bool} {fk fe : S → R D} (sub : t.slots ⊆ vs) {σ : L2.St} {H : Hp} {Q : VK} (h : dF K mg W (eDc vs t fi ft fk fe) σ H Q) :
    tDc (dI K mg W fi) (tgT K t) (dT K mg E0 ft) (dE K mg E0 fk) (dE K mg E0 fe) vs σ H Q := by
  obtain ⟨ρ, I, s, M, E, h⟩ := h
  refine dG.bindO M E h fun ds s1 ρ1 I1 H1 J M1 E1 y h => ?_
  intro D0 hD
  obtain ⟨P, hP⟩ : ∃ P : Nat → Hp → Prop, P = (fun (i : Nat) (H : Hp) => ∃ ρ I s us kvs, BlkD K σ D0 ρ1 I1 H1 (Own σ s1.env) ρ I H s us kvs ∧
      FinO K mg W σ Q ρ1 I1 H1 (Own σ s1.env) (dcItems vs t ft fk fe (ds.drop i) (kvs.map (·.1)) us s)) := ⟨_, rfl⟩
  refine ⟨fun i m H => m = ds.length - i ∧ i ≤ ds.length ∧ P i H, ⟨ds.length, by simp, Nat.zero_le _, ?_⟩, ?_⟩
  · rw [hP]
    have nI : ¬ I1 D0 := fun z => M1.dom _ z hD
    have nr : D0 ∉ ρ1 := fun z => M1.there z hD
    have no : ¬ Own σ s1.env D0 := fun z => (E1.ownI z).1 hD
    obtain ⟨l, M2, E2⟩ := priv_ok (u := .dK []) M1 E1 nI nr no
    exact ⟨ρ1, I1, s1, [], [], ⟨(Frm.refl ρ1 I1 H1 _).priv hD, M2, E2, upd_same, .nil, .nil, nI, nr, no⟩, h⟩
  · rintro i m H2 ⟨rfl, hi, p⟩
    rw [hP] at p
    obtain ⟨ρ2, I2, s2, us, kvs, b, h2⟩ := p
    obtain ⟨y1, y2⟩ := y ρ2 I2 H2 (b.fr.lat M1.dis fun p o => (E1.ownI o).2.1) b.M.dis i
    by_cases hlt : i < ds.length
    · right
      obtain ⟨go, yl⟩ := y1 _ (List.getElem?_eq_getElem hlt)
      refine ⟨go, P (i + 1), fun H' q => ⟨ds.length - (i + 1), by omega, rfl, hlt, q⟩, fun x H3 hy => ?_⟩
      obtain ⟨I3, x3, r3⟩ := yl x H3 hy
      rw [List.drop_eq_getElem_cons hlt] at h2
      have h2 : FinO K mg W σ Q ρ1 I1 H1 (Own σ s1.env) (if noOwn s2.env vs = true then (match tgD t ds[i] { s2 with env := wipeE s2.env vs } with
        | none => R.stuck
        | some s2' => match ft s2' with
          | .ok true s3 => (match fk s3 with
            | .ok y s4 => (match fe s4 with
              | .ok z s5 => (match keyD y with
                | some k => if (kvs.map (·.1)).length < sizeLine then dcItems vs t ft fk fe (ds.drop (i + 1)) (putKs (kvs.map (·.1)) k) (putVs (kvs.map (·.1)) us k z) { s5 with env := restE s2.env s5.env vs } else .stuck
                | none => R.stuck)
              | _ => R.stuck)
            | _ => R.stuck)
          | .ok false s3 => dcItems vs t ft fk fe (ds.drop (i + 1)) (kvs.map (·.1)) us { s3 with env := restE s2.env s3.env vs }
          | _ => R.stuck) else R.stuck) := h2
      have M3 := b.M.ext x3
      have E3 := b.E.ext b.M.dis x3
      have b3 : BlkD K σ D0 ρ1 I1 H1 (Own σ s1.env) ρ2 I3 H3 s2 us kvs := b.go (x3.frm ρ2 _) M3 E3
      by_cases hno : noOwn s2.env vs = true
      · rw [if_pos hno] at h2
        cases et : tgD t ds[i] { s2 with env := wipeE s2.env vs } with
        | none => rw [et] at h2; exact h2.elim
        | some s4 =>
          rw [et] at h2
          dsimp only at h2
          refine tg_ok (s := { s2 with env := wipeE s2.env vs }) sub (E3.wipe vs) r3 et fun σ4 E4 m4 o4 w4 => ⟨w4.trans (wipe_wipe σ vs), ?_⟩
          have w4' : L2.wipe σ4 vs = L2.wipe σ vs := w4.trans (wipe_wipe σ vs)
          have M4 : MemOk K ρ2 I3 H3 s4.mem := by rw [m4]; exact M3
          have b4 : BlkD K σ4 D0 ρ1 I1 H1 (Own σ s1.env) ρ2 I3 H3 s4 us kvs := b3.go (Frm.sub fun p z => Own.wipe (o4 p z)) M4 E4
          -- back behind the turn
          have back : ∀ {ρ5 : List Addr} {I5 : Addr → Prop} {H5 : Hp} {s5 : S} {us' : List D} {kvs' : List (Key × V)}, BlkD K σ4 D0 ρ1 I1 H1 (Own σ s1.env) ρ5 I5 H5 s5 us' kvs' → Lat ρ2 I2 H2 ρ5 I5 H5 →
              BlkD K σ D0 ρ1 I1 H1 (Own σ s1.env) ρ5 I5 H5 { s5 with env := restE s2.env s5.env vs } us' kvs' := fun {ρ5 I5 H5 s5 us' kvs'} b5 l5 => by
            obtain ⟨E6, o6⟩ := b.E.rest l5 b5.E w4' hno
            exact ⟨b5.fr.widen o6, b5.M, E6, b5.hD, b5.ra, b5.nd, b5.nI, b5.nr, fun z => b5.no (o6 _ z)⟩
          refine ⟨ρ2, I3, s4, M4, E4, ?_⟩
          cases eft : ft s4 with
          | err x m => rw [eft] at h2; exact h2.elim
          | stuck => rw [eft] at h2; exact h2.elim
          | ok bo s5 =>
            rw [eft] at h2
            intro ρ5 I5 H5 b' f5 M5 E5 rb
            subst rb
            have b5 := b4.go f5 M5 E5
            have l5 : Lat ρ2 I2 H2 ρ5 I5 H5 := (x3.lat ρ2).trans (f5.lat M4.dis fun p o => (E4.ownI o).2.1)
            cases bo with
            | false =>
              refine iteF ?_
              dsimp only at h2
              rw [hP]
              exact ⟨ρ5, I5, _, us, kvs, back b5 l5, h2⟩
            | true =>
              refine iteT ⟨ρ5, I5, s5, M5, E5, ?_⟩
              dsimp only at h2
              cases efk : fk s5 with
              | err x m => rw [efk] at h2; exact h2.elim
              | stuck => rw [efk] at h2; exact h2.elim
              | ok kd s6 =>
                rw [efk] at h2
                dsimp only at h2
                intro ρ6 I6 H6 kv f6 M6 E6 rk
                have b6 := b5.go f6 M6 E6
                have l6 : Lat ρ2 I2 H2 ρ6 I6 H6 := l5.trans (f6.lat M5.dis fun p o => (E5.ownI o).2.1)
                refine ⟨ρ6, I6, s6, M6, E6, ?_⟩
                cases efe : fe s6 with
                | err x m => rw [efe] at h2; exact h2.elim
                | stuck => rw [efe] at h2; exact h2.elim
                | ok yd s7 =>
                  rw [efe] at h2
                  dsimp only at h2
                  intro ρ7 I7 H7 yv f7 M7 E7 ry
                  have b7 := b6.go f7 M7 E7
                  have l7 : Lat ρ2 I2 H2 ρ7 I7 H7 := l6.trans (f7.lat M6.dis fun p o => (E6.ownI o).2.1)
                  cases ek : keyD kd with
                  | none => rw [ek] at h2; exact h2.elim
                  | some k =>
                    rw [ek] at h2
                    dsimp only at h2
                    by_cases hz : (kvs.map (·.1)).length < sizeLine
                    · rw [if_pos hz] at h2
                      refine ⟨kvs, k, keyD_rel rk ek, b7.hD, by rw [List.length_map] at hz; exact hz, ?_⟩
                      rw [hP]
                      have b8 := (back b7 l7).put (k := k) hD ry
                      refine ⟨ρ7, I7, _, _, _, b8, ?_⟩
                      rw [(putK_map b.nd k yv).1]
                      exact h2
                    · rw [if_neg hz] at h2; exact h2.elim
      · rw [if_neg hno] at h2; exact h2.elim
    · left
      have e : i = ds.length := by omega
      refine ⟨y2 (by omega), ?_⟩
      rw [e, List.drop_length] at h2
      have h2 : FinO K mg W σ Q ρ1 I1 H1 (Own σ s1.env) (.ok (.dct (kvs.map (·.1)) us) s2) := h2
      exact h2 ρ2 I2 H2 D0 b.fr b.M b.E ⟨kvs, b.hD, rfl, b.ra⟩ b.nI b.nr b.no hD
end
section
variable {X : Cx} {W : XK} {pos : Pos}
theorem f_dc {kx vx tg iter : Expr} {ifs : List Expr} {scope : Scope} {own : List (Str × Nat)} {t : Tgt} {fi : S → R (List D)} {ft : S → R Bool} {fk fe : S → R D} (hc : X.calm = true) (hN : X.N.Nodup) (hi : PId X W fi tg iter) (ok : BlkOk X.N X.env.scope scope own) (sub : t.slots ⊆ own.map (·.2))
    (hg : ∀ (s : Shared) (H : Hp) (C : Addr) (cl : List (Str × Addr)) (fp : List Addr), PG (X.blk s H scope (compEnvC scope cl C X.env) fp) tg (tgT X.K t))
    (ht : ∀ (s : Shared) (H : Hp) (C : Addr) (cl : List (Str × Addr)) (fp : List Addr), PTsd (X.blk s H scope (compEnvC scope cl C X.env) fp) E0 ft ifs)
    (hk : ∀ (s : Shared) (H : Hp) (C : Addr) (cl : List (Str × Addr)) (fp : List Addr), PEd (X.blk s H scope (compEnvC scope cl C X.env) fp) E0 fk kx)
    (he : ∀ (s : Shared) (H : Hp) (C : Addr) (cl : List (Str × Addr)) (fp : List Addr), PEd (X.blk s H scope (compEnvC scope cl C X.env) fp) E0 fe vx) (hs : ∀ x, foldedSetIterable iter X.env x = pure x := by intro _; rfl) :
    PFd X W (eDc (own.map (·.2)) t fi ft fk fe) (.DictComp kx vx [⟨tg, iter, ifs, 0⟩] scope pos) :=
  PE.imp (pe_dc hc hN hi ok hg ht hk he hs) fun σ H Q h => dc_dF sub h

/-! ### d[k] -/
def dgetD (a b : D) : Option D := match a with
  | .dct ks vs => (keyD b).bind fun k => getP ks vs k
  | _ => none
theorem d_dget {o i : Expr} {fo fi : S → R D} (hu : X.A.units + 1 < cLine) (ho : PEd X W fo o) (hi : PEd X W fi i) (hs : NoSl i := by intro _ _; rfl) : PEd X W (eOp dgetD fo fi) (.Subscript o i pos) :=
  PE.imp (pe_dget hu ho hi hs) fun σ H Q ⟨ρ, I, s, M, E, h⟩ => dG.bind M E h fun a s1 ρ1 I1 H1 v M1 E1 ra up1 h => dG.bind M1 E1 h fun b s2 ρ2 I2 H2 u M2 E2 rb up h2 => by
    have ra := up ra
    cases e : dgetD a b with
    | none => rw [e] at h2; exact h2.elim
    | some d =>
      rw [e] at h2
      unfold dgetD at e
      split at e
      · cases ra with
        | @dct vs p od kvs hi hH r =>
          cases ek : keyD b with
          | none => rw [ek] at e; cases e
          | some k =>
            rw [ek] at e
            obtain ⟨v, hv, rv⟩ := (getP_rel r).1 d e
            rw [keyD_rel rb ek]
            have g : DGet H2 p (kV k) (valV kvs k) := .inl ⟨kvs, k, .inr ⟨od, hH⟩, rfl, rfl⟩
            rw [hv] at g
            exact ⟨p, v, rfl, g, h2.here (Ext.refl _ _) M2 E2 rv⟩
      · cases e

/-! ### a str as what is iterated -/
def itemsA : D → Option (List D)
  | .str x => some (x.cps.toList.map fun c => .str ⟨#[c]⟩)
  | d => itemsD d
def iAny (f : S → R D) (s : S) : R (List D) := (f s).bind fun d s => match itemsA d with
  | some ds => .ok ds s
  | none => .stuck
theorem yields_str {K : KF} {ρ : List Addr} {I : Addr → Prop} {H : Hp} (x : Str) : Yields K ρ I H (x.cps.toList.map fun c => .str ⟨#[c]⟩) (Its x) := by
  intro ρ' I' H' f nr i
  refine ⟨fun d hd => ?_, fun hl => ?_⟩
  · have hi : i < x.cps.size := by
      have := (List.getElem?_eq_some_iff.mp hd).1
      simpa using this
    refine ⟨hi, fun v H'' y => ?_⟩
    obtain ⟨e1, c, hc, e2⟩ := y
    subst e1 e2
    have : d = .str ⟨#[c]⟩ := by
      rw [List.getElem?_map] at hd
      have hc' : x.cps.toList[i]? = some c := by rw [← hc]; simp
      rw [hc'] at hd
      cases hd; rfl
    subst this
    exact ⟨I', Ext.refl _ _, .str _⟩
  · show x.cps.size ≤ i
    simpa using hl
theorem i_any {f : S → R D} {tg l : Expr} (hl : PEd X W f l) : PId X W (iAny f) tg l := by
  refine PI.imp (PI.or (i_val hl) (pi_str hl)) fun σ H Q ⟨ρ, I, s, M, E, h⟩ => ?_
  cases e : f s with
  | err x m =>
    refine .inr ⟨ρ, I, s, M, E, ?_⟩
    have : iAny f s = .err x m := by unfold iAny; rw [e]
    rw [this] at h; rw [e]; exact h
  | stuck =>
    have : iAny f s = .stuck := by unfold iAny; rw [e]
    rw [this] at h; exact h.elim
  | ok d s1 =>
    cases d with
    | str x =>
      have : iAny f s = .ok (x.cps.toList.map fun c => .str ⟨#[c]⟩) s1 := by unfold iAny; rw [e]; rfl
      rw [this] at h
      refine .inr ⟨ρ, I, s, M, E, ?_⟩
      rw [e]
      intro ρ1 I1 H1 v f1 M1 E1 r
      cases r
      exact ⟨x, rfl, h ρ1 I1 H1 _ f1 M1 E1 (yields_str x)⟩
    | _ =>
      refine .inl ⟨ρ, I, s, M, E, ?_⟩
      have : iAny f s = iVal f s := by unfold iAny iVal; rw [e]; rfl
      rw [this] at h; exact h

/-! ### shared lists -/
theorem Lat.app {ρ : List Addr} {I : Addr → Prop} {H : Hp} (p : Addr) : Lat ρ I H (ρ ++ [p]) I H := ⟨fun _ h => h, fun _ _ _ h => h, fun n q h => by
  have hi := (List.getElem?_eq_some_iff.mp h).1
  rw [List.getElem?_append_left hi]; exact h⟩
theorem ObjRel.lat {K : KF} {ρ ρ' : List Addr} {I I' : Addr → Prop} {H H' : Hp} {p : Addr} {o : MO} (r : ObjRel K ρ I H p o) (l : Lat ρ I H ρ' I' H') (e : H' p = H p) : ObjRel K ρ' I' H' p o := by
  cases o with
  | lst ds => obtain ⟨xs, e1, r⟩ := r; exact ⟨xs, e.trans e1, r.lat l⟩
  | dct ks vs => obtain ⟨xs, e1, k, r⟩ := r; exact ⟨xs, e.trans e1, k, r.lat l⟩
  | kdt ks vs => obtain ⟨xs, e1, r, r2, k⟩ := r; exact ⟨xs, e.trans e1, r.lat l, r2.lat l, k⟩
def eNew (f : S → R MO) (s : S) : R D := (f s).bind fun o s => .ok (.ref s.mem.length) { s with mem := s.mem ++ [o] }
/-- a new object that others may know -/
theorem d_new {f : S → R MO} {e : Expr} (h : PFd X W f e) : PEd X W (eNew f) e := PE.imp h fun σ H Q ⟨ρ, I, s, M, E, h⟩ => by
  refine ⟨ρ, I, s, M, E, ?_⟩
  unfold eNew at h
  cases e : f s with
  | err x m => rw [e] at h; exact h
  | stuck => rw [e] at h; exact h
  | ok o s2 =>
    rw [e] at h
    intro ρ' I' H' p fr M2 E2 r ni nr no hn
    have l := Lat.app (ρ := ρ') (I := I') (H := H') p
    refine h (ρ' ++ [p]) I' H' (.ref p) ⟨fr.there, fr.keep, fun n q z => l.pre n q (fr.pre n q z), fun q z n => ?_, fr.imm, fr.inew, fr.onew⟩ ⟨?_, ?_, fun q z => ?_, M2.dom, fun n q o' a b => ?_⟩ ⟨E2.len, fun i d a => ?_, fun i o' a => ?_, E2.sep⟩ (.ref ?_)
    · rcases List.mem_append.mp z with z | z
      · exact fr.rnew q z n
      · simp at z; subst z; exact hn
    · rw [List.length_append, List.length_append, M2.len]; rfl
    · rw [List.nodup_append]
      exact ⟨M2.nd, by simp, fun a ha b hb e => by simp at hb; subst hb; subst e; exact nr ha⟩
    · rcases List.mem_append.mp z with z | z
      · exact M2.dis q z
      · simp at z; subst z; exact ni
    · by_cases hlt : n < ρ'.length
      · rw [List.getElem?_append_left hlt] at a
        rw [List.getElem?_append_left (by rw [M2.len]; exact hlt)] at b
        exact (M2.obj n q o' a b).lat l rfl
      · have hn1 : n < ρ'.length + 1 := by have := (List.getElem?_eq_some_iff.mp a).1; simpa using this
        have hn2 : n = ρ'.length := by omega
        subst hn2
        rw [List.getElem?_append_right (Nat.le_refl _), Nat.sub_self] at a
        rw [List.getElem?_append_right (by rw [M2.len]; exact Nat.le_refl _), M2.len, Nat.sub_self] at b
        cases a; cases b
        exact r.lat l rfl
    · obtain ⟨v, a1, a2⟩ := E2.val i d a
      exact ⟨v, a1, a2.lat l⟩
    · obtain ⟨q, a1, a2, a3, a4⟩ := E2.own i o' a
      refine ⟨q, a1, a2.lat l rfl, a3, fun z => ?_⟩
      rcases List.mem_append.mp z with z | z
      · exact a4 z
      · simp at z; subst z; exact no ⟨i, o', a, a1⟩
    · rw [M2.len, List.getElem?_append_right (Nat.le_refl _), Nat.sub_self]; rfl

theorem mem_upd {K : KF} {ρ : List Addr} {I : Addr → Prop} {H : Hp} {σ : L2.St} {e : List (Option Cell)} {m : List MO} {n : Nat} {o' : MO} {p : Addr} {u : HO} (M : MemOk K ρ I H m) (E : EnvOk K ρ I H σ e) (hp : ρ[n]? = some p)
    (r : ∀ H', Lat ρ I H ρ I H' → H' p = some u → ObjRel K ρ I H' p o') :
    Frm ρ I H (Own σ e) ρ I (upd H p u) (Own σ e) ∧ MemOk K ρ I (upd H p u) (m.set n o') ∧ EnvOk K ρ I (upd H p u) σ e := by
  have hm : p ∈ ρ := List.mem_of_getElem? hp
  have hi : ¬ I p := M.dis p hm
  have lat : Lat ρ I H ρ I (upd H p u) := ⟨fun _ h => h, fun q w hI hq => by rw [upd_ne (fun (z : q = p) => hi (z ▸ hI))]; exact hq, fun _ _ h => h⟩
  refine ⟨⟨fun q h => ?_, fun q w h nr no => ?_, fun _ _ h => h, fun _ h n => absurd h n, fun _ h => h, fun _ h n => absurd h n, fun q h => .inl h⟩, ⟨by rw [List.length_set]; exact M.len, M.nd, M.dis, fun q hq => ?_, fun j q w a b => ?_⟩, ⟨E.len, fun j d a => ?_, fun j w a => ?_, E.sep⟩⟩
  · by_cases hq : q = p
    · subst hq; rw [upd_same]; simp
    · rw [upd_ne hq]; exact h
  · rw [upd_ne (fun (z : q = p) => nr (z ▸ hm))]; exact h
  · rw [upd_ne (fun (z : q = p) => hi (z ▸ hq))]; exact M.dom q hq
  · by_cases hj : n = j
    · subst hj
      rw [hp] at a
      cases a
      have hl : n < m.length := by rw [M.len]; exact (List.getElem?_eq_some_iff.mp hp).1
      rw [List.getElem?_set_self hl] at b
      cases b
      exact r _ lat upd_same
    · rw [List.getElem?_set_ne hj] at b
      have nq : q ≠ p := fun z => by
        subst z
        obtain ⟨h1, e1⟩ := List.getElem?_eq_some_iff.mp hp
        exact hj ((List.getElem?_inj h1 M.nd).mp (hp.trans a.symm))
      exact (M.obj j q w a b).lat lat (upd_ne nq)
  · obtain ⟨v, a1, a2⟩ := E.val j d a
    exact ⟨v, a1, a2.lat lat⟩
  · obtain ⟨q, a1, a2, a3, a4⟩ := E.own j w a
    exact ⟨q, a1, a2.lat lat (upd_ne fun (z : q = p) => a4 (z ▸ hm)), a3, a4⟩
def memL (m : List MO) (n : Nat) : Option (List D) := match m[n]? with
  | some (.lst xs) => some xs
  | _ => none
theorem memL_of {m : List MO} {n : Nat} {xs : List D} (h : memL m n = some xs) : m[n]? = some (.lst xs) := by
  unfold memL at h
  split at h
  · rename_i q; cases h; exact q
  · cases h
/-- o[i] = e, o a shared list -/
def setIxM (o i d : D) (s : S) : Option S := match o, i with
  | .ref n, .int k => (memL s.mem n).bind fun xs => (ixN xs.length k).map fun j => { s with mem := s.mem.set n (.lst (xs.set j d)) }
  | _, _ => none
def gIx (fo fi : S → R D) (d : D) (s : S) : Rs := (fo s).stm fun o s => (fi s).stm fun i s => match setIxM o i d s with
  | some s => .next s
  | none => .stuck
def sSetIx (fe fo fi : S → R D) (s : S) : Rs := (fe s).stm fun d s => (fo s).stm fun o s => (fi s).stm fun i s => match setIxM o i d s with
  | some s => .next s
  | none => .stuck
theorem s_setIx {o i e : Expr} {fo fi fe : S → R D} {tpos : Pos} (he : PEd X W fe e) (ho : PEd X W fo o) (hi : PEd X W fi i) (hs : swapsWithSole [.Subscript o i tpos] e pos.line X.env = pure false := by rfl) (hw : swappedStores [.Subscript o i tpos] e X.env = pure none := by rfl)
    (h1 : (assignEach [.Subscript o i tpos] X.env).map (·.2) = [assign (.Subscript o i tpos) X.env] := by rfl)
    (ha : ∀ v, assign (.Subscript o i tpos) X.env v = (do
      let ov ← holding [v] (eval o X.env)
      let iv ← holding [v, ov] (eval i X.env)
      standAt tpos
      holding [v, ov, iv] (setItem ov iv v)
      release [v, ov, iv] []) := by intro _; rfl) :
    PSd X W (sSetIx fe fo fi) (.Assign [.Subscript o i tpos] e pos) :=
  PS.imp (ps_asg he (pg_sub ho hi set_list ha) hs hw h1) fun De σ H ⟨ρ, I, s, M, E, h⟩ => dG.stm M E h fun d s1 ρ1 I1 H1 v f1 M1 E1 rd h => dG.stm M1 E1 h fun o s2 ρ2 I2 H2 ov f2 M2 E2 ro h => dG.stm M2 E2 h fun i s3 ρ3 I3 H3 iv f3 M3 E3 ri h => by
    have rd := (rd.mono f2 M1.dis fun p o => (E1.ownI o).2.1).mono f3 M2.dis fun p o => (E2.ownI o).2.1
    have ro := ro.mono f3 M2.dis fun p o => (E2.ownI o).2.1
    cases e : setIxM o i d s3 with
    | none => rw [e] at h; exact h.elim
    | some s4 =>
      rw [e] at h
      cases ro with
      | @ref n p hp =>
        cases ri with
        | int k =>
          have e : ((memL s3.mem n).bind fun xs => (ixN xs.length k).map fun j => ({ s3 with mem := s3.mem.set n (.lst (xs.set j d)) } : S)) = some s4 := e
          cases em : memL s3.mem n with
          | none => rw [em] at e; cases e
          | some xs =>
            rw [em] at e
            have e : ((ixN xs.length k).map fun j => ({ s3 with mem := s3.mem.set n (.lst (xs.set j d)) } : S)) = some s4 := e
            cases ej : ixN xs.length k with
            | none => rw [ej] at e; cases e
            | some j =>
              rw [ej] at e
              cases e
              obtain ⟨ys, hy, ry⟩ := M3.obj n p _ hp (memL_of em)
              obtain ⟨a, b, c⟩ := mem_upd (o' := .lst (xs.set j d)) (u := .lst (ys.set j v)) M3 E3 hp fun H' l hh => ⟨_, hh, RelL.set (rd.lat l) j (ry.lat l)⟩
              exact ⟨p, ys, k, j, rfl, rfl, hy, by rw [← ry.length]; exact ej, h _ _ _ _ a b c⟩
        | _ => cases e
      | _ => cases e
/-- (a, b, ..) = a shared list -/
def gUn (n : Nat) (g : List D → S → Option S) (d : D) (s : S) : Option S := match d with
  | .ref r => match memL s.mem r with
    | some ds => if ds.length = n then g ds s else none
    | none => none
  | .lst ds => if ds.length = n then g ds s else none
  | _ => none
theorem g_unl {ts : List Expr} {k : Nat} {g : List D → S → Option S} {n : Nat} (hc : X.calm = true) (h : PGsd X g ts) (hn : (assignEach ts X.env).length = n := by rfl) (hst : (assignEach ts X.env).findIdx? (·.1) = none := by rfl) : PGd X (gUn n g) (.Tuple ts k pos) :=
  PG.imp (pg_unl hc h hn hst) fun v σ H Q ⟨ρ, I, s, d, M, E, r, h⟩ => by
    cases r with
    | @lst ds p xs hi r =>
      have h : FinG X.K Q ρ I H (Own σ s.env) (if ds.length = n then g ds s else none) := h
      by_cases hl : ds.length = n
      · rw [if_pos hl] at h
        exact ⟨p, xs, rfl, hi.sq, by rw [← r.length]; exact hl, ρ, I, s, ds, M, E, r, h⟩
      · rw [if_neg hl] at h; exact h.elim
    | @ref m p hp =>
      have h : FinG X.K Q ρ I H (Own σ s.env) (match memL s.mem m with
        | some ds => if ds.length = n then g ds s else none
        | none => none) := h
      cases em : memL s.mem m with
      | none => rw [em] at h; exact h.elim
      | some ds =>
        rw [em] at h
        dsimp only at h
        obtain ⟨ys, hy, ry⟩ := M.obj m p _ hp (memL_of em)
        by_cases hl : ds.length = n
        · rw [if_pos hl] at h
          exact ⟨p, ys, rfl, .inl (.inl hy), by rw [← ry.length]; exact hl, ρ, I, s, ds, M, E, ry, h⟩
        · rw [if_neg hl] at h; exact h.elim
    | _ => exact h.elim

/-! ### owned lists: extend, truth -/
def sExt (i : Nat) (fe : S → R D) (s : S) : Rs := match ownL s.env i with
  | none => .stuck
  | some _ => (fe s).stm fun d s => match d, ownL s.env i with
    | .tup ys, some xs => if xs.length + ys.length ≤ sizeLine then .next { s with env := s.env.set i (some (.own (.lst (xs ++ ys)))) } else .stuck
    | _, _ => .stuck
theorem s_ext {i : Nat} {x : Str} {p0 apos cpos spos : Pos} {e : Expr} {fe : S → R D} (hN : X.N[i]? = some x) (hv : Vis X.env.scope x) (he : PEd X W fe e)
    (hbase : attributeBase (.Name x p0) "extend" X.env (eval (.Name x p0) X.env) = eval (.Name x p0) X.env := by rfl)
    (hfew : ((backTo cpos (starEach [e] X.env)).all (fun x => !x.1) && (backToKw cpos (keywordEach [] X.env)).all (fun x => x.1.isSome)
      && decide (([e] : List Expr).length + ([] : List Keyword).length + (if ([] : List Keyword).isEmpty then 0 else 1) < 30)) = true := by rfl)
    (hline : (apos.endLine == cpos.line) = true := by rfl) (hs : starEach [e] X.env = (false, eval e X.env) :: starEach [] X.env := by rfl) (hplain : (backTo cpos (starEach [] X.env)).any (·.1) = false := by rfl)
    (hsw : swapsWith (.Call (.Attribute (.Name x p0) "extend" apos) [e] [] cpos) none spos.line X.env = pure false := by rfl) (hd : (x == ("__debug__" : Str)) = false := by decide) (hcd : (x == ("__classdict__" : Str)) = false := by decide) :
    PSd X W (sExt i fe) (.Expr (.Call (.Attribute (.Name x p0) "extend" apos) [e] [] cpos) spos) := by
  refine PS.imp (ps_expr (pe_bm PySem.F.plainAttrs_list PySem.F.slot_list_extend PySem.F.type_list_extend PMA.mt_extendT (pe_var hN hv hd hcd) (pa_cons he pa_nil hs) hbase hfew hline hs hplain) hsw) fun De σ H ⟨ρ, I, s, M, E, h⟩ => ?_
  unfold sExt at h
  cases e1 : ownL s.env i with
  | none => rw [e1] at h; exact h.elim
  | some xs =>
    rw [e1] at h
    obtain ⟨p, hp, ⟨ys, hy, _⟩, _, _⟩ := E.own i _ (ownL_of e1)
    refine ⟨.ref p, hp, tyL hy, dG.stm M E h fun d s2 ρ2 I2 H2 v f2 M2 E2 r h => ?_⟩
    split at h
    · rename_i zs xs2 e2
      obtain ⟨q, hq, ⟨ws, hw, rw'⟩, _, _⟩ := E2.own i _ (ownL_of e2)
      rw [hp] at hq
      cases hq
      split at h
      · rename_i hl
        cases r with
        | @tup _ b us hi ru =>
          obtain ⟨a, b', c⟩ := own_upd (o' := .lst (xs2 ++ zs)) (u := .lst (ws ++ us)) M2 E2 (ownL_of e2) hp fun H' l hh => ⟨_, hh, (rw'.lat l).append (ru.lat l)⟩
          exact ⟨p, b, ws, us, rfl, rfl, hw, hi.sq, by rw [← rw'.length, ← ru.length]; exact hl, h _ _ _ _ a b' c⟩
      · exact h.elim
    · exact h.elim
/-- a name that owns its list, as a test -/
def tOwn (i : Nat) (s : S) : R Bool := match ownL s.env i with
  | some xs => .ok (!xs.isEmpty) s
  | none => .stuck
theorem t_own {i : Nat} {x : Str} (hN : X.N[i]? = some x) (hv : Vis X.env.scope x) (hd : (x == ("__debug__" : Str)) = false := by decide) (hcd : (x == ("__classdict__" : Str)) = false := by decide) : PTd X W (tOwn i) (.Name x pos) :=
  PT.imp (pt_truth (pe_var hN hv hd hcd) (by intro _; rfl)) fun σ H Q ⟨ρ, I, s, M, E, h⟩ => by
    unfold tOwn at h
    cases e : ownL s.env i with
    | none => rw [e] at h; exact h.elim
    | some xs =>
      rw [e] at h
      obtain ⟨p, hp, ⟨ys, hy, ry⟩, _, _⟩ := E.own i _ (ownL_of e)
      exact ⟨.ref p, hp, _, .inl ⟨ys, .inl (.inl hy), rfl⟩, h.here (Ext.refl _ _) M E (by rw [ry.isEmpty])⟩
/-! ### op=, three names at once -/
def addI (a b : D) : Option D := match a, b with
  | .int i, .int j => some (.int (i + j))
  | _, _ => none
def subI (a b : D) : Option D := match a, b with
  | .int i, .int j => some (.int (i - j))
  | _, _ => none
theorem p_add : PIpD X .Add addI := by
  intro pins s σ H x y v u Q J rx ry h
  obtain ⟨ρ, I, a, b, d, n, ra, rb, e, q⟩ := h
  unfold addI at e
  split at e
  · cases ra; cases rb; cases e
    exact ip_add pins s σ H _ _ v u Q J rx ry ⟨_, _, rfl, rfl, q I H _ (Ext.refl _ _) (.int _)⟩
  · cases e
theorem p_sub : PIpD X .Sub subI := by
  intro pins s σ H x y v u Q J rx ry h
  obtain ⟨ρ, I, a, b, d, n, ra, rb, e, q⟩ := h
  unfold subI at e
  split at e
  · cases ra; cases rb; cases e
    exact ip_sub pins s σ H _ _ v u Q J rx ry ⟨_, _, rfl, rfl, q I H _ (Ext.refl _ _) (.int _)⟩
  · cases e
def sPar3 (i j l : Nat) (fs : S → R (List D)) (s : S) : Rs := (fs s).stm fun ds s => match ds with
  | [d, e, f] => .next (((s.set i d).set j e).set l f)
  | _ => .stuck
theorem s_par3 {i j l : Nat} {x y z : Str} {a b c : Expr} {fs : S → R (List D)} {px py pz pt : Pos} {kt k2 pt2} (hc : X.calm = true) (hN : X.N.Nodup) (hi : X.N[i]? = some x) (hj : X.N[j]? = some y) (hl : X.N[l]? = some z) (hij : i ≠ j) (hil : i ≠ l) (hjl : j ≠ l)
    (hx : X.env.scope.names.lookup x = some .local) (hy : X.env.scope.names.lookup y = some .local) (hz : X.env.scope.names.lookup z = some .local) (ha : PAd X W fs [a, b, c])
    (hw : swappedStores [.Tuple [.Name x px, .Name y py, .Name z pz] kt pt] (.Tuple [a, b, c] k2 pt2) X.env = pure (some [x, y, z]))
    (hs : swapsWithSole [.Tuple [.Name x px, .Name y py, .Name z pz] kt pt] (.Tuple [a, b, c] k2 pt2) pos.line X.env = pure false := by rfl) :
    PSd X W (sPar3 i j l fs) (.Assign [.Tuple [.Name x px, .Name y py, .Name z pz] kt pt] (.Tuple [a, b, c] k2 pt2) pos) :=
  PS.imp (ps_par3 hc hN hi hj hl hij hil hjl hx hy hz ha hw hs) fun De σ H ⟨ρ, I, s, M, E, h⟩ => dG.stm M E h fun ds s2 ρ' I' H' vs fr M2 E2 r h => by
    cases r with
    | nil => exact h.elim
    | cons r1 r =>
      cases r with
      | nil => exact h.elim
      | cons r2 r =>
        cases r with
        | nil => exact h.elim
        | cons r3 r =>
          cases r with
          | nil =>
            refine ⟨_, _, _, rfl, ?_⟩
            exact h ρ' I' H' _ ⟨fun _ h => h, fun _ _ h _ _ => h, fun _ _ h => h, fun _ h n => absurd h n, fun _ h => h, fun _ h n => absurd h n, fun p h => .inl (Own.set (Own.set (Own.set h)))⟩ M2 (((E2.set r1).set r2).set r3)
          | cons _ _ => exact h.elim
end
end PM
end

section
set_option Elab.async false
set_option linter.all false
set_option maxRecDepth 100000
/-! PM13: the rules in short, for the printed walks. -/
namespace PM
open PySem PySem.Spec L2
variable [PWc]
section
variable {X : Cx} {W : XK} {pos : Pos}
theorem dv (i : Nat) {x : Str} (hN : X.N[i]? = some x := by rfl) (hv : Vis X.env.scope x := by first | exact Or.inl rfl | exact Or.inr (Or.inl rfl) | exact Or.inr (Or.inr rfl)) (hd : (x == ("__debug__" : Str)) = false := by decide) (hcd : (x == ("__classdict__" : Str)) = false := by decide) :
    PEd X W (eLoc i) (.Name x pos) := d_loc hN hv hd hcd
theorem tw (i : Nat) {x : Str} (hN : X.N[i]? = some x := by rfl) (hv : Vis X.env.scope x := by first | exact Or.inl rfl | exact Or.inr (Or.inl rfl) | exact Or.inr (Or.inr rfl)) (hd : (x == ("__debug__" : Str)) = false := by decide) (hcd : (x == ("__classdict__" : Str)) = false := by decide) :
    PTd X W (tOwn i) (.Name x pos) := t_own hN hv hd hcd
theorem gn (i : Nat) {x : Str} (hN : X.N.Nodup) (hi : X.N[i]? = some x := by rfl) (hx : Loc X.env.scope x := by first | exact Or.inl rfl | exact Or.inr rfl) (hf : X.fn x = true ∨ X.env.scope.names.lookup x = some .local := by first | exact .inl rfl | exact .inr rfl) : PGd X (gNm i) (.Name x pos) := g_name hN hi hx hf
theorem tn (i : Nat) {x : Str} (hN : X.N.Nodup) (hi : X.N[i]? = some x := by rfl) (hx : Loc X.env.scope x := by first | exact Or.inl rfl | exact Or.inr rfl) (hf : X.fn x = true ∨ X.env.scope.names.lookup x = some .local := by first | exact .inl rfl | exact .inr rfl) : PG X (.Name x pos) (tgT X.K (.nm i)) := tg_nm hN hi hx hf
theorem tc (i : Nat) {is : List Nat} {x : Str} {es : List Expr} (hN : X.N.Nodup) (h : PGs X es (gNmsT is)) (hi : X.N[i]? = some x := by rfl) (hx : Loc X.env.scope x := by first | exact Or.inl rfl | exact Or.inr rfl) (hf : X.fn x = true ∨ X.env.scope.names.lookup x = some .local := by first | exact .inl rfl | exact .inr rfl)
    (hs : (assignEach (.Name x pos :: es) X.env).map (·.2) = assign (.Name x pos) X.env :: (assignEach es X.env).map (·.2) := by rfl) : PGs X (.Name x pos :: es) (gNmsT (i :: is)) := tgs_cons hN hi hx h hf hs
theorem ss (i : Nat) {x : Str} {pos' : Pos} {fe : S → R D} {e : Expr} (hN : X.N.Nodup) (he : PEd X W fe e) (hi : X.N[i]? = some x := by rfl) (hx : Loc X.env.scope x := by first | exact Or.inl rfl | exact Or.inr rfl) (hs : swapsWith e (some (.Name x pos')) pos.line X.env = pure false := by rfl)
    (hf : X.fn x = true ∨ X.env.scope.names.lookup x = some .local := by first | exact .inl rfl | exact .inr rfl) : PSd X W (sSet i fe) (.Assign [.Name x pos'] e pos) := s_set hN hi hx he hs hf
theorem so (i : Nat) {x : Str} {pos' : Pos} {f : S → R MO} {e : Expr} (hN : X.N.Nodup) (he : PFd X W f e) (hi : X.N[i]? = some x := by rfl) (hx : Loc X.env.scope x := by first | exact Or.inl rfl | exact Or.inr rfl) (hs : swapsWith e (some (.Name x pos')) pos.line X.env = pure false := by rfl)
    (hf : X.fn x = true ∨ X.env.scope.names.lookup x = some .local := by first | exact .inl rfl | exact .inr rfl) : PSd X W (sOwn i f) (.Assign [.Name x pos'] e pos) := s_own hN hi hx he hs hf
theorem sg (i : Nat) {x : Str} {pos' : Pos} {g : D → D → Option D} {op : Operator} {fe : S → R D} {e : Expr} (hN : X.N.Nodup) (he : PEd X W fe e) (ho : PIpD X op g) (hi : X.N[i]? = some x := by rfl) (hx : Loc X.env.scope x := by first | exact Or.inl rfl | exact Or.inr rfl)
    (hf : X.fn x = true ∨ X.env.scope.names.lookup x = some .local := by first | exact .inl rfl | exact .inr rfl) : PSd X W (sAug g i fe) (.AugAssign (.Name x pos') op e pos) := s_aug hN hi hx he ho hf
/-- -n -/
def negD (d : D) : Option D := match d with
  | .int i => some (.int (-i))
  | _ => none
def eUn (g : D → Option D) (f : S → R D) (s : S) : R D := (f s).bind fun d s => match g d with
  | some e => .ok e s
  | none => .stuck
theorem d_neg {f : S → R D} {e : Expr} (h : PEd X W f e) : PEd X W (eUn negD f) (.UnaryOp .USub e pos) :=
  PE.imp (pe_un un_neg h) fun σ H Q ⟨ρ, I, s, M, E, h⟩ => dG.bind M E h fun d s1 ρ1 I1 H1 v M1 E1 r up h => by
    cases d with
    | int i => cases r; exact ⟨i, rfl, h.here (Ext.refl _ _) M1 E1 (.int _)⟩
    | _ => exact h.elim
theorem own_fn {P : Program} {w : World} {K : KF} {mg : Str → Option Value} {base : Heap} {N : List Str} {qual : Str} {scope : Scope} {f : Addr} {cd : Value} {A : Around} {outer : List Env} {s : Shared} {H : Hp} {E : XK} :
    PassesOwn (model (cxOf (L2.CX P w) P w K mg base N qual scope f cd A outer s H E).prog (cxOf (L2.CX P w) P w K mg base N qual scope f cd A outer s H E).w) (cxOf (L2.CX P w) P w K mg base N qual scope f cd A outer s H E).A (cxOf (L2.CX P w) P w K mg base N qual scope f cd A outer s H E).env (cxOf (L2.CX P w) P w K mg base N qual scope f cd A outer s H E).xe :=
  passes_of rfl
theorem hu1 {k : Nat} {A : Around} (r : Room k A) : A.units + 1 < cLine := hu_of r
theorem hu64 {k : Nat} {A : Around} (r : Room k A) : A.units + 64 < cLine := r.units
end
end PM
end

section
set_option Elab.async false
set_option linter.all false
set_option maxRecDepth 100000
set_option maxHeartbeats 2000000
/-! PMX: an own exception over Exception (own classes between) whose __init__ says super().__init__(x); self.x = x. -/
namespace PMX
open PySem PySem.W PySem.Calls PyProof.Rows PySem.HandSPX Builtin Builtin.ObjectAttr
abbrev eTail : List Value := PySem.ESX.exTail
/-! ### the text of __init__ -/
def iA (x : Str) (p1 p2 : Pos) : Arguments := { posonlyargs := [], args := [{ arg := "self", annotation := none, pos := p1 }, { arg := x, annotation := none, pos := p2 }], vararg := none, kwonlyargs := [], kw_defaults := [], kwarg := none, defaults := [] }
def iB (x : Str) (q1 q2 q3 q4 q5 q6 r1 r2 r3 r4 : Pos) : List Stmt :=
  [.Expr (.Call (.Attribute (.Call (.Name "super" q1) [] [] q2) "__init__" q3) [.Name x q4] [] q5) q6, .Assign [.Attribute (.Name "self" r1) x r2] (.Name x r3) r4]
def iS (x : Str) : Scope := { kind := .function, names := [(PySem.Str.ofString "self", .local), (x, .local), (PySem.Str.ofString "__class__", .free), (PySem.Str.ofString "super", .globalImplicit)], isGenerator := false, isCoroutine := false, more := [] }
/-- what the written part says of the class at C, of its __init__ at fI -/
structure SupX (prog : Program) (K : Frag) (C fI : Addr) (x qual : Str) : Prop where
  cls : excInitIn K C eTail "Exception.__new__" = true
  ov : excOver K C eTail = true
  hd : (clsIn K C).any (fun cd => cd.hasDict) = true
  sa : findIn K (.ref C) "__setattr__" = some (some (.builtin "object.__setattr__"))
  tk : takerIn K C x = some none
  iC : findIn K (.ref C) "__init__" = some (some (.ref fI))
  tI : typeIn K (.ref fI) = some (.type "function")
  kC : keepIn K (.ref C) = true
  exC : subIn K (.ref C) (.type "BaseException") = some true
  eC : subIn K (.ref C) (.type "Exception") = some true
  tyC : typeIn K (.ref C) = some (.type "type")
  me : mroIn K C (.ref C) = some true
  sup : ks_superIn K C C "__init__" = some (some (.builtin "Exception.__init__"))
  opq : nsIn K cStatics "thirdparty.any" = some none
  noS : nsIn K mainGlobals "super" = some none
  top : (prog.main.scope.names.lookup ("super" : Str)).isSome = false
  fn : ∃ (oc : Value) (od : Option Addr) (kV doc pm : Value) (an : Option Addr) (cda cc : Addr) (ct : Value) (osl : Array (Option Value)) (p1 p2 q1 q2 q3 q4 q5 q6 r1 r2 r3 r4 : Pos) (c1 c2 : Value) (d1 d2 : Option Addr) (s1 s2 : Array (Option Value)) (vs : Array Value) (tf : Tok),
    K.lookup fI = some ⟨oc, od, .func (ksFn "__init__" qual (iA x p1 p2) (iB x q1 q2 q3 q4 q5 q6 r1 r2 r3 r4) (iS x) .none kV doc pm an (.ref cda) ct cc), osl⟩ ∧ codeIn K (.ref cda) qual = true ∧
    K.lookup cda = some ⟨c1, d1, .fields vs, s1⟩ ∧ vs[2]? = some (.str prog.main.file tf) ∧ K.lookup cc = some ⟨c2, d2, .cell (some (.ref C)), s2⟩ ∧
    (∀ u v : Value, bindArgs (ksFn "__init__" qual (iA x p1 p2) (iB x q1 q2 q3 q4 q5 q6 r1 r2 r3 r4) (iS x) .none kV doc pm an (.ref cda) ct cc) ⟨[u, v], []⟩ = pure [(("self" : Str), u), (x, v)]) ∧
    ∀ env : Env, ∃ pl : Sem Bool, eval (.Call (.Attribute (.Call (.Name "super" q1) [] [] q2) "__init__" q3) [.Name x q4] [] q5) env = (do
      let ov ← attributeBase (.Call (.Name "super" q1) [] [] q2) "__init__" env (eval (.Call (.Name "super" q1) [] [] q2) env)
      standAt q3.atName
      let (f, first) ← holding [ov] (getMethod ov "__init__" pl)
      callWith q5 f first (backTo q5 (starEach [.Name x q4] env)) [])
/-- what __init__ leaves of a fresh exception at e -/
structure InitEnd (h h' : Heap) (x : Str) (e C dx t1 : Addr) (v : Value) : Prop where
  keep : ∀ b o, b ≠ e → h.get? b = some o → h'.get? b = some o
  obj : h'.get? e = some { cls := .ref C, dict := some dx, data := .fields #[.ref t1, .none, .none, .none, .bool false, .none] }
  dbig : h.objs.size ≤ dx
  dne : dx ≠ e
  ns : h'.Ns1 dx (fun y => if y = x then some v else none)
section
variable {prog : Program} {w : World} {A : Around} {E : Value → Shared → Prop} {R : Result → Shared → Prop} {s : Shared} {K : Frag} {C fI : Addr} {x qual : Str}
theorem store_fresh {hp : Heap} {g : Array GenState} {d : Drawn} {t : Nat} {os : OsState} {tk : Tok} {v : Value} {e t1 : Addr} (T : SupX prog K C fI x qual) (X : K.In hp) (hx : hp.get? e = some (excO C t1))
    (hq : ∀ h' tk' dx, (∀ b o, b ≠ e → hp.get? b = some o → h'.get? b = some o) → hp.objs.size ≤ dx → dx ≠ e → h'.get? e = some { cls := .ref C, dict := some dx, data := .fields #[.ref t1, .none, .none, .none, .bool false, .none] } →
      h'.Ns1 dx (fun y => if y = x then some v else none) → R (.ok (.ret .none)) ⟨h', g, d, tk', os⟩) :
    codeAny (model prog w) A (.call (.builtin "object.__setattr__") ⟨[.ref e, .str x tk, v], []⟩) R ⟨hp, g, d, t, os⟩ := by
  have I : InstAt hp e (excO C t1) C none := ⟨hx, rfl, rfl, trivial⟩
  refine osa_openX (bmB := eTail) F.store_Exception X I T.ov T.tk fun b => ?_
  dsimp only
  obtain ⟨cd, hcd, hh⟩ := any_some T.hd
  have own : Looks (model prog w) hp (classData C) cd := looks_clsIn X hcd
  have far : e ≠ hp.objs.size := Nat.ne_of_lt (Heap.lt_size hx)
  obtain ⟨c1, c2, c3, c4, c5, c6, c7, c8, c9, c10, c11⟩ := cd
  dsimp only at hh
  subst hh
  unfold storeInOwnDict ownDictForStores
  repeat (first
    | with_reducible refine store_in_new ?_ ?_
    | with_reducible refine wpAny_loadPart_at hx ?_
    | with_reducible refine own.at ?_
    | wp_step)
  · refine ⟨_, #[], _, (Heap.get?_update_ne _ _ _ _ far.symm).trans (Heap.get?_push_at rfl rfl), rfl, fun y hy => absurd hy (by simp), fun _ => rfl⟩
  · intro h' tk' hn' hs
    have there : (hp.push { cls := .type "dict", data := .dict #[] }).get? e = some (excO C t1) := Heap.get?_push_of_some _ hx
    refine hq h' tk' hp.objs.size (fun b o hb ho => ?_) (Nat.le_refl _) far.symm ?_ hn'
    · refine (hs.2 b (Nat.ne_of_lt (Heap.lt_size ho))).trans ?_
      exact (Heap.get?_update_ne _ _ _ _ hb).trans (Heap.get?_push_of_some _ ho)
    · refine (hs.2 e far).trans ?_
      exact Heap.get?_update_self _ there rfl
theorem init_sup (T : SupX prog K C fI x qual) (hself : x ≠ "self") (hsup : x ≠ "super") (hcl : x ≠ "__class__") (hdb : (x == ("__debug__" : Str)) = false) {mg mb : Str → Option Value} {e t0 : Addr} {v : Value} (X : K.In s.heap) (hlim : s.heap.NoLimit) (hx : s.heap.get? e = some (excO C t0)) (hnx : K.lookup e = none) (hroom : A.depth < recursionLimit)
    (hG : s.heap.Ns mainGlobals mg) (hB : s.heap.Ns builtinsNs mb) (hmb : mb "super" = some (.type "super"))
    (hq : ∀ h' tk dx t1, InitEnd s.heap h' x e C dx t1 v → R (.ok (.ret .none)) { s with heap := h', toks := tk }) :
    codeAny (model prog w) A (.call (.ref fI) ⟨[.ref e, v], []⟩) R s := by
  obtain ⟨oc, od, kV, doc, pm, an, cda, cc, ct, osl, p1, p2, q1, q2, q3, q4, q5, q6, r1, r2, r3, r4, c1, c2, d1, d2, s1, s2, vs, tf, ho, hcd, hcda, hvs, hcc, hbd, hev⟩ := T.fn
  obtain ⟨hp, g, dr, tk, os⟩ := s
  refine ks_codeAny_call_defAt (binds := [(("self" : Str), .ref e), (x, v)]) hroom (X _ _ ho) rfl hlim (codeRec_of X hcd) rfl (BindsTo.of_eq ?_) ?_ ?_ (fun h₀ hns keep => ?_) rfl rfl rfl
  · exact hbd _ _
  · intro y hy
    simp only [iS, List.mem_cons, List.not_mem_nil, or_false] at hy
    rcases hy with rfl | rfl | rfl | rfl <;> exact fun z => by cases z
  · intro y hy
    simp only [List.mem_cons, List.not_mem_nil, or_false] at hy
    rcases hy with rfl | rfl
    · rfl
    · have h1 : (x == PySem.Str.ofString "self") = false := by simpa using hself
      show List.lookup x (iS x).names = _
      simp only [iS, List.lookup, h1, beq_self_eq_true]
  · have X₀ : K.In h₀ := X.keeps keep
    have hx₀ := keep _ _ hx
    have hxL : hp.objs.size ≠ e := Nat.ne_of_gt (Heap.lt_size hx)
    have hself' : (("self" : Str) == x) = false := by
      cases z : (("self" : Str) == x) with
      | false => rfl
      | true => exact absurd (beq_iff_eq.mp z).symm hself
    have ls : ([(("self" : Str), Value.ref e), (x, v)].reverse.lookup ("self" : Str)) = some (.ref e) := by
      simp [List.lookup, hself']
    have lx : ([(("self" : Str), Value.ref e), (x, v)].reverse.lookup x) = some v := by
      simp [List.lookup]
    have kk : ∀ n : Str, n ≠ x → (iS x).names.lookup n = [(PySem.Str.ofString "self", NameKind.local), (PySem.Str.ofString "__class__", .free), (PySem.Str.ofString "super", .globalImplicit)].lookup n := fun n hn => by
      have h1 : (n == x) = false := by simpa using hn
      simp only [iS, List.lookup, h1]
    have kS : (iS x).names.lookup ("super" : Str) = some .globalImplicit := (kk _ (Ne.symm hsup)).trans rfl
    have kC : (iS x).names.lookup ("__class__" : Str) = some .free := (kk _ (Ne.symm hcl)).trans rfl
    have kL : (iS x).names.lookup ("self" : Str) = some .local := rfl
    have kX : (iS x).names.lookup x = some .local := by
      have h1 : (x == PySem.Str.ofString "self") = false := by simpa using hself
      simp only [iS, List.lookup, h1, beq_self_eq_true]
    obtain ⟨cd, hcl1, hhd⟩ := any_some T.hd
    obtain ⟨oD, hD1, hD2⟩ : ∃ oD, h₀.get? C = some oD ∧ oD.data = .cls cd := by
      unfold clsIn at hcl1
      split at hcl1
      · rename_i c d cd' sl hlk
        cases hcl1
        exact ⟨_, X₀ _ _ hlk, rfl⟩
      · cases hcl1
    obtain ⟨pl, hev⟩ := hev (callEnv (ksFn "__init__" qual (iA x p1 p2) (iB x q1 q2 q3 q4 q5 q6 r1 r2 r3 r4) (iS x) .none kV doc pm an (.ref cda) ct cc) hp.objs.size fI)
    refine ks_wpAt_execs_cons (ks_wpAt_Expr_any (ks_wpAt_MethodCall (pl := pl) ?_ hev))
    refine ks_wpAt_super_base (of := ⟨oc, od, .func _, osl⟩) (ar := { arg := "self", annotation := none, pos := p1 }) (file := prog.main.file) (vs := vs) (tf := tf) kS kC (by decide) rfl (X₀ _ _ ho) rfl rfl rfl (X₀ _ _ hcda) rfl hvs (by simp) T.top ?_
    refine ks_loadName_global rfl kS (loadGlobal_builtin (hG.keeps keep) (mg_none_of X hG T.noS) (hB.keeps keep) hmb ⟨rfl, ?_⟩)
    refine wpAny_loadName_free rfl kC rfl ⟨_, X₀ _ _ hcc, rfl⟩ ?_
    refine wpAny_loadName_local rfl kL hns ls ?_
    refine ks_wpAny_isType_cls hD1 hD2 ⟨rfl, ?_⟩
    have eC : Looks (model prog w) h₀ (isSubtype (.ref C) (.ref C)) true := looks_mroIn X₀ T.me
    refine ks_wpAny_call_super hD1 hD2 hx₀ rfl (fun c z => by cases z) eC (fun h₁ hso k₁ => ?_)
    have X₁ : K.In h₁ := X₀.keeps k₁
    have hx₁ := k₁ _ _ hx₀
    have n₁ : h₁.Ns hp.objs.size _ := hns.keeps k₁
    have I₁ : InstAt h₁ e (excO C t0) C none := ⟨hx₁, rfl, rfl, trivial⟩
    have iE : Looks (model prog w) h₁ (isInstance (.ref e) (.type "Exception")) true := I₁.type.andThen (looks_subIn X₁ T.eC)
    have sp := T.sup
    unfold ks_superIn at sp
    rw [hcl1] at sp
    refine PySem.ESX.getMethod_super hso (looks_opaque X₁ T.opq) (l₀ := cd.mro) ((looks_clsIn X₁ hcl1).andThen .now) rfl X₁ sp (ks_ne X₁ I₁ hcl1) (by decide) iE ?_
    have k₂ : ∀ b o, h₁.get? b = some o → (h₁.push (PySem.ESX.bw e)).get? b = some o := fun b o z => Heap.get?_push_of_some _ z
    have n₂ := n₁.keeps k₂
    have X₂ := X₁.keeps k₂
    refine PySem.ESX.callWith_bound (x := e) (Calls.spliced_cons (wpAny_Name (wpAny_loadName_local rfl kX n₂ lx (Calls.spliced_nil ⟨Heap.get?_push_at rfl rfl, ?_⟩)) hdb)) rfl rfl
    obtain ⟨nm, N', qn, bs, bm, hdct, sn, sub, ab, col, dd, k0, k1, k2, k3, k5, hC, hT⟩ := excInit_of X₂ T.cls
    refine PySem.ESX.call_bw hC (k₂ _ _ hx₁) (Heap.get?_push_at rfl rfl) (by rw [sizeLine_eq]; exact (by decide : 1 ≤ 16777216)) (fun h₃ t1 k₃ e₃ => ?_)
    have X₃ : K.In h₃ := fun a o z => k₃ a o (fun y => by rw [y, hnx] at z; cases z) (X₂ a o z)
    have n₃ : h₃.Ns hp.objs.size (fun y => [(("self" : Str), Value.ref e), (x, v)].reverse.lookup y) := by
      obtain ⟨oL, es, ep, hL, r⟩ := n₂
      exact ⟨oL, es, ep, k₃ _ _ hxL hL, r⟩
    -- self.x = x
    show _root_.PySem.wpAt _ _ _ (execs [.Assign [.Attribute (.Name "self" r1) x r2] (.Name x r3) r4] _) _ _ _
    refine ks_wpAt_execs_cons (ks_wpAt_Assign_Attr ?_)
    refine wpAt_of_wpAny (wpAny_Name (wpAny_loadName_local rfl kX n₃ lx ?_) hdb)
    refine wpAny_Name (wpAny_loadName_local rfl kL n₃ ls ?_) (by decide)
    refine set_plain X₃ (ox := excO C t1) (od := none) ⟨e₃, rfl, rfl, trivial⟩ T.sa (store_fresh T X₃ e₃ fun h₄ tk₄ dx k₄ dn dne e₄ n₄ => ?_)
    refine wpAt_of_wpAny (wpAny_execs_nil (hq h₄ tk₄ dx t1 ⟨fun b o hb z => k₄ b o hb (k₃ b o hb (k₂ b o (k₁ b o (keep b o z)))), e₄, ?_, dne, n₄⟩))
    have z : hp.objs.size < h₃.objs.size := n₃.lt
    exact Nat.le_of_lt (Nat.lt_of_lt_of_le z dn)
end
end PMX

namespace PMX
open PySem PySem.W PySem.Calls PyProof.Rows PySem.HandSPX
structure OwnMade (h h' : Heap) (x : Str) (e C d : Addr) (v : Value) : Prop where
  keep : ∀ b o, h.get? b = some o → h'.get? b = some o
  new : h.objs.size ≤ e
  obj : ∃ oe vs, h'.get? e = some oe ∧ oe.cls = .ref C ∧ oe.dict = some d ∧ oe.data = .fields vs ∧ vs[1]? = some .none
  dbig : h.objs.size ≤ d
  dne : d ≠ e
  ns : h'.Ns1 d (fun y => if y = x then some v else none)
theorem made {prog : Program} {w : World} {A : Around} {R : Result → Shared → Prop} {s : Shared} {K : Frag} {C fI : Addr} {x qual : Str} (T : SupX prog K C fI x qual) (hself : x ≠ "self") (hsup : x ≠ "super") (hcl : x ≠ "__class__") (hdb : (x == ("__debug__" : Str)) = false) {mg mb : Str → Option Value} {v : Value} (X : K.In s.heap) (hlim : s.heap.NoLimit) (hroom : A.depth + 1 < recursionLimit)
    (hG : s.heap.Ns mainGlobals mg) (hB : s.heap.Ns builtinsNs mb) (hmb : mb "super" = some (.type "super"))
    (hq : ∀ h' tk e d, OwnMade s.heap h' x e C d v → R (.ok (.ret (.ref e))) { s with heap := h', toks := tk }) :
    codeAny (model prog w) A (.call (.ref C) ⟨[v], []⟩) R s := by
  obtain ⟨nm, N', qn, bs, bm, hdct, sn, sub, ab, col, dd, k0, k1, k2, k3, k5, hC, hT⟩ := excInit_of X T.cls
  obtain ⟨hp, g, d, tk, os⟩ := s
  have k : ∀ b o, hp.get? b = some o → ((hp.push (kdv_tup [v])).push (excO C hp.objs.size)).get? b = some o := fun b o z => Heap.get?_push_of_some _ (Heap.get?_push_of_some _ z)
  have hget : ((hp.push (kdv_tup [v])).push (excO C hp.objs.size)).get? (hp.objs.size + 1) = some (excO C hp.objs.size) := by heap_get
  have hnx : K.lookup (hp.objs.size + 1) = none := by
    cases z : K.lookup (hp.objs.size + 1) with
    | none => rfl
    | some o =>
      have y : hp.get? (hp.objs.size + 1) = some o := X _ _ z
      exact absurd (Nat.lt_of_succ_lt (Heap.lt_size y)) (Nat.lt_irrefl _)
  refine call_own F.excBase_Exception hT hC (looks_findIn X T.iC) (fun self => bind_fn X self T.tI) (by rw [sizeLine_eq]; exact (by decide : 1 ≤ 16777216)) ?_
  refine init_sup (s := ⟨(hp.push (kdv_tup [v])).push (excO C hp.objs.size), g, d, tk, os⟩) T hself hsup hcl hdb (X.keeps k) (hlim.keeps k) hget hnx hroom (hG.keeps k) (hB.keeps k) hmb fun h' tk' dx t1 ⟨k', hx, dn, dne, hns⟩ => ?_
  have old : ∀ b o, hp.get? b = some o → h'.get? b = some o := fun b o z => k' b o (Nat.ne_of_lt (Nat.lt_succ_of_lt (Heap.lt_size z))) (k b o z)
  have big : hp.objs.size ≤ dx := by
    have q := dn
    rw [Heap.size_push, Heap.size_push] at q
    omega
  exact ⟨rfl, hq h' tk' (hp.objs.size + 1) dx ⟨old, Nat.le_succ _, ⟨_, _, hx, rfl, rfl, rfl, rfl⟩, big, dne, hns⟩⟩
end PMX
namespace PM
open PySem PySem.Spec PyProof.Rows L2
theorem relO_one {v : V} {v' : Value} (r : RelV v v') (x f : Str) : RelO (List.lookup f [(x, v)]) (if f = x then some v' else none) := by
  by_cases h : f = x
  · subst h
    rw [if_pos rfl]
    have q : List.lookup f [(f, v)] = some v := by simp [List.lookup]
    rw [q]
    exact r
  · rw [if_neg h]
    have q1 : (f == x) = false := by simpa using h
    have q2 : List.lookup f [(x, v)] = none := by simp [List.lookup, q1]
    rw [q2]
    trivial
/-- C(e): a made exception with one field -/
def tMkX (C : Addr) (x : Str) (ta : TA) : L2.St → Hp → XK → Prop := fun σ H Q => ta σ H fun vs H1 => ∃ v, vs = [v] ∧ ∀ d, H1 d = none → Q (.ref C) (some d) (upd H1 d (.xd [(x, v)]))
section
variable {X : Cx} {C fI : Addr} {x cls qual : Str}
theorem pmk_sup {a : Expr} {ta : TA} {p pos : Pos} {k : Nat} (T : PMX.SupX X.prog X.K C fI x qual) (hm : X.mg cls = some (.ref C)) (hr : Room k X.A) (ha : PA X [a] ta) (hg : Gl X cls) (hself : x ≠ "self" := by decide) (hsup : x ≠ "super" := by decide) (hcl : x ≠ "__class__" := by decide) (hdb : (x == ("__debug__" : Str)) = false := by decide) (hdc : (cls == ("__debug__" : Str)) = false := by decide)
    (he : starEach (a :: []) X.env = (false, eval a X.env) :: starEach [] X.env := by rfl) (hpl : (backTo pos (starEach [] X.env)).any (·.1) = false := by rfl) :
    PMk X (.Call (.Name cls p) [a] [] pos) (tMkX C x ta) := by
  intro pins s σ H Q I h
  refine wpAny_Call_Name_kw (ld_glob I hg hm ?_ hdc)
  refine PySem.W.callWith_K (h₀ := X.base) I.ok.mod.kin T.kC (thn (ha.run pos pins s σ H _ I h) fun us s1 hh => ?_) he hpl
  obtain ⟨vs, H1, I1, r1, v, ev, q1⟩ := hh
  subst ev
  refine ⟨I1.kIn, ?_⟩
  cases r1 with
  | cons rv rn =>
    rename_i v' us'
    cases rn
    show wpAny _ _ (call (.ref C) [v']) _ _ _
    have hlim := I1.nolimit
    have hG := I1.mod.glob.keeps I1.bk
    obtain ⟨mb, hB0, hmb0⟩ := I1.mod.blt
    have hB := hB0.keeps I1.bk
    have hmb : mb "super" = some (.type "super") := (hmb0 _ (by decide)).trans (by decide +kernel)
    obtain ⟨hp, g, dr, tk, os⟩ := s1
    refine wpAny_call (PMX.made T hself hsup hcl hdb I1.kIn hlim (by have := hr.dp; omega) hG hB hmb fun h' tk' e d M => ?_)
    show MkP X pins σ Q (.ref e) ⟨h', g, dr, tk', os⟩
    obtain ⟨oe, fv, hoe, hc, hd, hdat, h1⟩ := M.obj
    have hns := M.ns
    obtain ⟨G', g1, g2⟩ := restrict h' fun b => decide (b ≠ e)
    have gk : ∀ b, b ≠ e → G'.get? b = h'.get? b := fun b hb => g1 b (decide_eq_true hb)
    have ge : G'.get? e = none := g2 e (by simp)
    have old : ∀ b o, hp.get? b = some o → G'.get? b = some o := fun b o q => (gk b (Nat.ne_of_lt (Nat.lt_of_lt_of_le (Heap.lt_size q) M.new))).trans (M.keep b o q)
    have ob : ObjOk X.prog X.w (upd H1 d (.xd [(x, v)])) G' d (.xd [(x, v)]) :=
      ⟨_, hns.at (fun o q => (gk d M.dne).trans q), fun f => relO_one rv x f⟩
    have J : Inv X pins σ (upd H1 d (.xd [(x, v)])) ⟨G', g, dr, tk', os⟩ := I1.laid (t' := tk') old M.dbig ob
    refine ⟨e, oe, fv, ⟨G', g, dr, tk', os⟩, _, .ref C, some d, rfl, J, fun b o q => ?_, ge, hoe, ⟨hc, hd⟩, hdat, h1, ?_, rfl, I1.bare, raises_own T.exC T.tyC, q1 d (I1.hok.fresh M.dbig)⟩
    · by_cases hb : b = e
      · have q' : G'.get? b = some o := q
        rw [hb, ge] at q'; cases q'
      · exact (gk b hb).symm.trans q
    · rw [upd_ne (Ne.symm M.dne)]
      exact I1.hok.fresh M.new
end
end PM
end

section
set_option Elab.async false
set_option linter.all false
set_option maxRecDepth 100000
/-! PM14: raise, try: return f(..) except C as e: return .. -/
namespace PM
open PySem PySem.Spec L2
variable [PWc]
/-- an own exception class with one field, in the program -/
structure ClsX (P : Program) (K : KF) (mg : Str → Option Value) (cls x qual : Str) : Prop where
  ex : ∃ C fI, PMX.SupX P K C fI x qual ∧ mg cls = some (.ref C) ∧ XfC K C ∧ PySem.W.findIn K (.ref C) x = some none ∧ PySem.W.exmOne K (.ref C) (.ref C) = some true
section
variable {X : Cx} {W : XK} {pos : Pos}
def sRaise (cls x : Str) (fe : S → R D) (s : S) : Rs := (fe s).stm fun d s => .err ⟨cls, [(x, d)]⟩ s.mem
theorem s_raise {cls x qual : Str} {e : Expr} {fe : S → R D} {p cpos : Pos} {k : Nat} (T : ClsX X.prog X.K X.mg cls x qual) (hc : X.calm = true) (tk : Takes X (fun cls d _ H => W cls d H)) (hr : Room k X.A) (hg : Gl X cls) (he : PEd X W fe e) (hself : x ≠ "self" := by decide) (hsup : x ≠ "super" := by decide) (hcl : x ≠ "__class__" := by decide) (hdb : (x == ("__debug__" : Str)) = false := by decide) (hdc : (cls == ("__debug__" : Str)) = false := by decide)
    (hs : starEach [e] X.env = (false, eval e X.env) :: starEach [] X.env := by rfl) (hpl : (backTo cpos (starEach [] X.env)).any (·.1) = false := by rfl) :
    PSd X W (sRaise cls x fe) (.Raise (some (.Call (.Name cls p) [e] [] cpos)) none pos) := by
  obtain ⟨C, fI, T1, hm, _⟩ := T.ex
  refine PS.imp (ps_raise hc tk (pmk_sup T1 hm hr (pa_cons he pa_nil hs) hg hself hsup hcl hdb hdc hs hpl)) fun De σ H ⟨ρ, I, s, M, E, h⟩ => dG.stm M E h fun d s1 ρ1 I1 H1 v f1 M1 E1 r h => ?_
  refine ⟨v, rfl, fun dd hd => ?_⟩
  have x1 : Ext I1 H1 I1 (upd H1 dd (.xd [(x, v)])) := Ext.fresh hd
  exact h ρ1 I1 _ (Own σ s1.env) (.ref C) (some dd) (x1.frm ρ1 _) (M1.ext x1) ⟨C, hm, rfl, .inr ⟨dd, [(x, v)], rfl, fun z => M1.dom _ z hd, upd_same, rfl, .cons (r.ext x1 M1.dis) .nil⟩⟩
theorem takes_fn {P : Program} {w : World} {K : KF} {mg : Str → Option Value} {base : Heap} {N : List Str} {qual : Str} {scope : Scope} {f : Addr} {cd : Value} {A : Around} {outer : List Env} {s : Shared} {H : Hp} {E : XK} :
    Takes (cxOf (L2.CX P w) P w K mg base N qual scope f cd A outer s H E) (fun cls d _ H => E cls d H) := takes_of rfl rfl rfl rfl

/-! ### within the clause: the caught exception's fields -/
structure Exc1 (K : KF) (i : Nat) (a dd : Addr) (fl : List (Str × D)) (σ : L2.St) (ρ : List Addr) (I : Addr → Prop) (H : Hp) (e : List (Option Cell)) : Prop where
  sl : σ[i]? = some (some (.ref a))
  nr : dd ∉ ρ
  nI : ¬ I dd
  no : ¬ Own σ e dd
  fs : ∃ fs : List (Str × V), H dd = some (.xd fs) ∧ fs.map (·.1) = fl.map (·.1) ∧ RelL K ρ I H (fl.map (·.2)) (fs.map (·.2))
theorem Exc1.go {K : KF} {i : Nat} {a dd : Addr} {fl : List (Str × D)} {σ : L2.St} {ρ ρ' : List Addr} {I I' : Addr → Prop} {H H' : Hp} {e e' : List (Option Cell)} (x : Exc1 K i a dd fl σ ρ I H e) (f : Frm ρ I H (Own σ e) ρ' I' H' (Own σ e')) (l : Lat ρ I H ρ' I' H') : Exc1 K i a dd fl σ ρ' I' H' e' := by
  obtain ⟨fs, hd, hn, hr⟩ := x.fs
  refine ⟨x.sl, fun z => ?_, fun z => ?_, fun z => ?_, fs, f.keep _ _ hd x.nr x.no, hn, hr.lat l⟩
  · have := f.rnew _ z x.nr
    rw [hd] at this; cases this
  · rcases f.inew _ z x.nI with q | q
    · rw [hd] at q; cases q
    · exact x.no q
  · rcases f.onew _ z with q | q
    · exact x.no q
    · rw [hd] at q; cases q
def dX {α β : Type} (K : KF) (mg : Str → Option Value) (i : Nat) (a dd : Addr) (fl : List (Str × D)) (P : PR α β) (f : S → R α) : L2.St → Hp → (β → Hp → Prop) → Prop := fun σ H Q =>
  ∃ ρ I s, MemOk K ρ I H s.mem ∧ EnvOk K ρ I H σ s.env ∧ Exc1 K i a dd fl σ ρ I H s.env ∧ Fin K mg E0 P σ Q ρ I H (Own σ s.env) (f s)
/-- the exception's field by name -/
def eFld (fl : List (Str × D)) (x : Str) (s : S) : R D := match fl.lookup x with
  | some d => .ok d s
  | none => .stuck
theorem lookup_rel {K : KF} {ρ : List Addr} {I : Addr → Prop} {H : Hp} {x : Str} {d : D} : ∀ {fl : List (Str × D)} {fs : List (Str × V)}, fs.map (·.1) = fl.map (·.1) → RelL K ρ I H (fl.map (·.2)) (fs.map (·.2)) → fl.lookup x = some d → ∃ v, fs.lookup x = some v ∧ Rel K ρ I H d v
  | [], [], _, _, e => by cases e
  | [], _ :: _, h, _, _ => by simp at h
  | _ :: _, [], h, _, _ => by simp at h
  | (y, d') :: fl, (y', v') :: fs, h, r, e => by
    simp only [List.map_cons, List.cons.injEq] at h
    obtain ⟨rfl, h⟩ := h
    cases r with
    | cons r1 r2 =>
      by_cases hx : (x == y') = true
      · simp only [List.lookup, hx] at e ⊢
        cases e
        exact ⟨v', rfl, r1⟩
      · have hx' : (x == y') = false := by simpa using hx
        simp only [List.lookup, hx'] at e ⊢
        exact lookup_rel h r2 e
theorem x_plain {i : Nat} {a dd : Addr} {fl : List (Str × D)} {e : Expr} {f : S → R D} (h : PEd X E0 f e) : PE X e (dX X.K X.mg i a dd fl (Rel X.K) f) :=
  PE.imp h fun σ H Q ⟨ρ, I, s, M, E, _, h⟩ => ⟨ρ, I, s, M, E, h⟩
theorem x_fld {i : Nat} {a dd C : Addr} {oe : Obj} {pn : List (Addr × Obj)} {fl : List (Str × D)} {n x : Str} {p : Pos} (T : XfC X.K C) (hno : PySem.W.findIn X.K (.ref C) x = some none) (hz : Zc (.ref C) (some dd) oe) (hf : ∃ vs, oe.data = .fields vs)
    (hN : X.N[i]? = some n) (hv : Vis X.env.scope n) (hb : attributeBase (.Name n p) x X.env (eval (.Name n p) X.env) = eval (.Name n p) X.env := by rfl) (hd : (n == ("__debug__" : Str)) = false := by decide) (hcd : (n == ("__classdict__" : Str)) = false := by decide) :
    PE (X.suite a ((a, oe) :: pn)) (.Attribute (.Name n p) x pos) (dX X.K X.mg i a dd fl (Rel X.K) (eFld fl x)) :=
  PE.imp (pe_xf T hno hz hf (pe_var (X := X.suite a ((a, oe) :: pn)) hN hv hd hcd) hb) fun σ H Q ⟨ρ, I, s, M, E, x1, h⟩ => by
    obtain ⟨fs, hd, hn, hr⟩ := x1.fs
    unfold eFld at h
    cases el : fl.lookup x with
    | none => rw [el] at h; exact h.elim
    | some d =>
      rw [el] at h
      obtain ⟨v, hv, rv⟩ := lookup_rel hn hr el
      exact ⟨.ref a, x1.sl, rfl, rfl, dd, fs, v, rfl, hd, hv, h.here (Ext.refl _ _) M E rv⟩
theorem xa_nil {i : Nat} {a dd : Addr} {fl : List (Str × D)} : PA X [] (dX X.K X.mg i a dd fl (RelL X.K) aNil) :=
  PA.imp pa_nil fun σ H Q ⟨ρ, I, s, M, E, _, h⟩ => h.here (Ext.refl _ _) M E .nil
theorem xa_cons {i : Nat} {a dd : Addr} {fl : List (Str × D)} {e : Expr} {es : List Expr} {f : S → R D} {g : S → R (List D)} (h1 : PE X e (dX X.K X.mg i a dd fl (Rel X.K) f)) (h2 : PA X es (dX X.K X.mg i a dd fl (RelL X.K) g)) (hs : starEach (e :: es) X.env = (false, eval e X.env) :: starEach es X.env := by rfl) :
    PA X (e :: es) (dX X.K X.mg i a dd fl (RelL X.K) (aCons f g)) :=
  PA.imp (pa_cons h1 h2 hs) fun σ H Q ⟨ρ, I, s, M, E, x1, h⟩ => by
    refine ⟨ρ, I, s, M, E, x1, ?_⟩
    unfold aCons at h
    cases e1 : f s with
    | err x m => rw [e1] at h; exact h
    | stuck => rw [e1] at h; exact h
    | ok d s1 =>
      rw [e1] at h
      intro ρ1 I1 H1 v f1 M1 E1 r1
      have l1 := f1.lat M.dis fun p o => (E.ownI o).2.1
      refine ⟨ρ1, I1, s1, M1, E1, x1.go f1 l1, ?_⟩
      have h : Fin X.K X.mg E0 (RelL X.K) σ Q ρ I H (Own σ s.env) ((g s1).bind fun ds s => .ok (d :: ds) s) := h
      cases e2 : g s1 with
      | err x m => rw [e2] at h; exact h.rebase f1
      | stuck => rw [e2] at h; exact h
      | ok ds s2 =>
        rw [e2] at h
        intro ρ2 I2 H2 vs f2 M2 E2 r2
        exact h ρ2 I2 H2 _ (f1.trans f2) M2 E2 (.cons (r1.lat (f2.lat M1.dis fun p o => (E1.ownI o).2.1)) r2)
theorem x_tup {i : Nat} {a dd : Addr} {fl : List (Str × D)} {es : List Expr} {g : S → R (List D)} {x1} (h : PA X es (dX X.K X.mg i a dd fl (RelL X.K) g)) : PE X (.Tuple es x1 pos) (dX X.K X.mg i a dd fl (Rel X.K) (eTup g)) :=
  PE.imp (pe_tup h) fun σ H Q ⟨ρ, I, s, M, E, x1, h⟩ => by
    refine ⟨ρ, I, s, M, E, x1, ?_⟩
    unfold eTup at h
    cases e1 : g s with
    | err x m => rw [e1] at h; exact h
    | stuck => rw [e1] at h; exact h
    | ok ds s1 =>
      rw [e1] at h
      intro ρ1 I1 H1 vs f1 M1 E1 r
      have h : Fin X.K X.mg E0 (Rel X.K) σ Q ρ I H (Own σ s.env) (if few ds = true then .ok (.tup ds) s1 else .stuck) := h
      cases e : few ds with
      | false => rw [e] at h; exact h.elim
      | true =>
        rw [e] at h
        refine ⟨by rw [← r.length]; exact of_decide_eq_true e, fun p hp => ?_⟩
        have x2 : Ext I1 H1 (fun q => I1 q ∨ q = p) (upd H1 p (.tup vs)) := Ext.new hp
        have h2 : Fin X.K X.mg E0 (Rel X.K) σ Q ρ I H (Own σ s.env) (.ok (.tup ds) s1) := h
        exact (h2.rebase f1).here x2 M1 E1 (.tup (.inl ⟨.inr rfl, upd_same⟩) (r.ext x2 M1.dis))

/-! ### try: return f(..) except C as e: return .. -/
def sTry1 (F : List D → List MO → Rf) (cls : Str) (i : Nat) (fs : S → R (List D)) (hd : List (Str × D) → S → R D) (s : S) : Rs := match fs s with
  | .ok ds s => (match F ds s.mem with
    | .ok d m => .ret d { s with mem := m }
    | .err x m => if x.cls = cls ∧ x.fields.isEmpty = false ∧ i < s.env.length then (match hd x.fields { env := s.env.set i none, mem := m } with
      | .ok d s => .ret d s
      | _ => .stuck) else .stuck
    | .stuck => .stuck)
  | _ => .stuck
theorem EnvOk.unset {K : KF} {ρ : List Addr} {I : Addr → Prop} {H : Hp} {σ : L2.St} {e : List (Option Cell)} {i : Nat} {v : V} (E : EnvOk K ρ I H σ e) : EnvOk K ρ I H (σ.set i (some v)) (e.set i none) ∧ ∀ p, Own (σ.set i (some v)) (e.set i none) p → Own σ e p := by
  have ne : ∀ {k : Nat} {c : Cell}, (e.set i none)[k]? = some (some c) → i ≠ k ∧ e[k]? = some (some c) := fun {k c} a => by
    by_cases z : i = k
    · subst z
      by_cases hl : i < e.length
      · rw [List.getElem?_set_self hl] at a; cases a
      · rw [List.getElem?_eq_none (by rw [List.length_set]; omega)] at a; cases a
    · rw [List.getElem?_set_ne z] at a; exact ⟨z, a⟩
  refine ⟨⟨by rw [List.length_set, List.length_set]; exact E.len, fun j d a => ?_, fun j u a => ?_, fun j k u u' q a b c c' => ?_⟩, fun p z => ?_⟩
  · obtain ⟨z, a⟩ := ne a
    rw [List.getElem?_set_ne z]; exact E.val j d a
  · obtain ⟨z, a⟩ := ne a
    rw [List.getElem?_set_ne z]; exact E.own j u a
  · obtain ⟨z, a⟩ := ne a
    obtain ⟨z', b⟩ := ne b
    rw [List.getElem?_set_ne z] at c
    rw [List.getElem?_set_ne z'] at c'
    exact E.sep j k u u' q a b c c'
  · obtain ⟨j, u, a, b⟩ := z
    obtain ⟨z, a⟩ := ne a
    rw [List.getElem?_set_ne z] at b
    exact ⟨j, u, a, b⟩
theorem s_try1 {F : List D → List MO → Rf} {k ar i : Nat} {cls x qual n fx : Str} {p np pos' rp rp' hpos : Pos} {e hx : Expr} {es : List Expr} {fs : S → R (List D)} {hd : List (Str × D) → S → R D} {Wout : WX} (T : ClsX X.prog X.K X.mg cls x qual) (G : FnD X.prog X.w X.K X.mg X.base k fx ar F) (hr : Room k X.A) (hgf : Gl X fx) (hgc : Gl X cls) (hlen : (e :: es).length = ar)
    (hst : X.stack = X.env :: X.outer) (hfr : X.env.frame = some X.env.locals) (hN : X.N.Nodup) (hi : X.N[i]? = some n) (hln : X.env.kindOf n = some .local) (tk : Takes X Wout)
    (ha : ∀ (pn : List (Addr × Obj)) (xe : Value → Shared → Prop), PAd (X.tr pn xe) E0 fs (e :: es))
    (hh : ∀ (C a dd : Addr) (oe : Obj) (pn : List (Addr × Obj)) (fl : List (Str × D)), XfC X.K C → PySem.W.findIn X.K (.ref C) x = some none → Zc (.ref C) (some dd) oe → (∃ vs, oe.data = .fields vs) → PE (X.suite a ((a, oe) :: pn)) hx (dX X.K X.mg i a dd fl (Rel X.K) (hd fl)))
    (hdc : (cls == ("__debug__" : Str)) = false := by decide) (hdb : (fx == ("__debug__" : Str)) = false := by decide) (he : starEach (e :: es) X.env = (false, eval e X.env) :: starEach es X.env := by rfl) (hpl : (backTo p (starEach es X.env)).any (·.1) = false := by rfl) :
    PSd X W (sTry1 (fun ds m => if ds.length = ar then F ds m else .stuck) cls i fs hd) (.Try [.Return (some (.Call (.Name fx rp) (e :: es) [] p)) rp'] [.ExceptHandler (some (.Name cls np)) (some n) [.Return (some hx) pos'] hpos] [] [] pos) := by
  obtain ⟨C, fI, T1, hm, xf, hno, hex⟩ := T.ex
  obtain ⟨f, fd, ps, hmf, hl, F1, hk, hb⟩ := G.ex
  refine PS.imp (ps_try_as (x := cls) (n := n) (c := .ref C) (tb := fun W => tRet (tCallS (SpF X.K X.mg ar F) (WE W) (dA X.K X.mg E0 fs)))
    (ts := fun a cl d => fun De σ H => ∃ dd fl, cl = .ref C ∧ d = some dd ∧ dX X.K X.mg i a dd fl (Rel X.K) (hd fl) σ H De.rt) hst hfr hN hi hln ⟨hgc, hdc, .inl hm⟩ tk (fun W' pn xe tk' _ => ?_) (fun a oe cl d pn hz hf => ?_)) fun De σ H ⟨ρ, I, s, M, E, h⟩ => ?_
  · exact pss_one (ps_ret (pe_callS (X := X.tr pn xe) F1 hr hgf hmf hk hb (fun σ => passAt tk' σ) (ha pn xe) hdb he hpl))
  · refine ⟨fun pins s σ H De J q => ?_⟩
    obtain ⟨dd, fl, rfl, rfl, q⟩ := q
    exact (pss_one (ps_ret (hh C a dd oe pn fl xf hno hz hf))).run pins s σ H De J q
  · show dA X.K X.mg E0 fs σ H _
    refine ⟨ρ, I, s, M, E, ?_⟩
    unfold sTry1 at h
    cases e1 : fs s with
    | err x m => rw [e1] at h; exact h.elim
    | stuck => rw [e1] at h; exact h.elim
    | ok ds s1 =>
      rw [e1] at h
      intro ρ1 I1 H1 vs f1 M1 E1 r
      dsimp only at h
      by_cases hn : ds.length = ar
      · rw [if_pos hn] at h
        refine ⟨ρ1, I1, ds, s1.mem, M1, r, hn, ?_⟩
        have out : ∀ {ρ' I' H'}, Frm ρ1 I1 H1 nobody ρ' I' H' nobody → Frm ρ1 I1 H1 (Own σ s1.env) ρ' I' H' (Own σ s1.env) := fun f => f.outer _ fun p o => (E1.ownI o).1
        cases e2 : F ds s1.mem with
        | stuck => rw [e2] at h; exact h.elim
        | ok d m =>
          rw [e2] at h
          exact fun ρ' I' H' v f' M' r' => h ρ' I' H' _ v (f1.trans (out f')) M' r'
        | err x m =>
          rw [e2] at h
          dsimp only at h
          intro ρ' I' H' cl dx f' M' xr
          split at h
          · rename_i hc
            obtain ⟨hc1, hc2, hc3⟩ := hc
            obtain ⟨C', hC', hcl, hfl⟩ := xr
            rw [hc1, hm] at hC'
            cases hC'
            subst hcl
            have E2 := E1.call M1.dis f'
            rcases hfl with hfl | ⟨dd, fs', hdx, hnI, hdd, hnm, hrl⟩
            · rw [hfl] at hc2; cases hc2
            · subst hdx
              refine ⟨true, hex, fun _ a haN => ⟨dd, x.fields, rfl, rfl, ?_⟩, fun z => by cases z⟩
              obtain ⟨E3, o3⟩ := E2.unset (i := i) (v := .ref a)
              have own : ∀ p, Own σ s1.env p → p ≠ dd := fun p ⟨j, o, a1, a2⟩ z => by
                obtain ⟨q, b1, b2, _, _⟩ := E2.own j o a1
                rw [a2] at b1
                cases b1
                subst z
                cases o with
                | lst ds => obtain ⟨xs, e, _⟩ := b2; rw [hdd] at e; cases e
                | dct ks vs => obtain ⟨xs, e, _⟩ := b2; rw [hdd] at e; cases e
                | kdt ks vs => obtain ⟨xs, e, _⟩ := b2; rw [hdd] at e; cases e
              refine ⟨ρ', I', { env := s1.env.set i none, mem := m }, M', E3, ⟨List.getElem?_set_self (by rw [← E1.len]; exact hc3), fun z => ?_, hnI, fun z => own dd (o3 _ z) rfl, fs', hdd, hnm, hrl⟩, ?_⟩
              · obtain ⟨j, hj, ej⟩ := List.mem_iff_getElem.mp z
                have a1 : ρ'[j]? = some dd := by rw [List.getElem?_eq_getElem hj, ej]
                have hjm : j < m.length := by rw [M'.len]; exact hj
                have b := M'.obj j dd m[j] a1 (List.getElem?_eq_getElem hjm)
                cases q : m[j] with
                | lst ds => rw [q] at b; obtain ⟨xs, e, _⟩ := b; rw [hdd] at e; cases e
                | dct ks vs => rw [q] at b; obtain ⟨xs, e, _⟩ := b; rw [hdd] at e; cases e
                | kdt ks vs => rw [q] at b; obtain ⟨xs, e, _⟩ := b; rw [hdd] at e; cases e
              · have fr : Frm ρ I H (Own σ s.env) ρ' I' H' (Own (σ.set i (some (.ref a))) (s1.env.set i none)) := (f1.trans (out f')).widen o3
                cases e3 : hd x.fields { env := s1.env.set i none, mem := m } with
                | ok d s2 =>
                  rw [e3] at h
                  exact fun ρ2 I2 H2 v f2 M2 E2 r2 => h ρ2 I2 H2 _ v (fr.trans f2) M2 r2
                | err y m2 => rw [e3] at h; exact h.elim
                | stuck => rw [e3] at h; exact h.elim
          · exact h.elim
      · rw [if_neg hn] at h; exact h.elim
theorem d_fn0 {F : List D → List MO → Rf} {k : Nat} {x : Str} {p : Pos} (G : FnD X.prog X.w X.K X.mg X.base k x 0 F) (hr : Room k X.A) (hx : Passes (CXd X) X W) (hg : Gl X x) (hdb : (x == ("__debug__" : Str)) = false := by decide) :
    PEd X W (eFn (fun ds m => if ds.length = 0 then F ds m else .stuck) aNil) (.Call (.Name x p) [] [] pos) := by
  obtain ⟨f, fd, ps, hm, hl, F1, hk, hb⟩ := G.ex
  refine PE.imp (pe_call0 F1 hr hg hm hk hb .nil hx hdb) fun σ H Q ⟨ρ, I, s, M, E, h⟩ => ?_
  have h2 := fn_here (F := fun ds m => if ds.length = 0 then F ds m else .stuck) (ds := []) M E h
  exact ⟨ρ, I, [], s.mem, M, .nil, rfl, h2⟩
end
end PM
end

section
set_option Elab.async false
set_option linter.all false
set_option maxRecDepth 100000
/-! PM15: the defs as they stand in the written part; constants; the law at last. -/
namespace PM
open PySem PySem.Spec L2
variable [PWc]
structure DefOk (K : KF) (mg : Str → Option Value) (x : Str) (st : Stmt) (ps : List Str) : Prop where
  ex : ∃ f fd, FunD K x x (defArgs st) (defBody st) (defScope st) [] [] f fd ∧ mg x = some (.ref f) ∧ Binds K fd ps []
section
variable {P : Program} {w : World} {K : KF} {mg : Str → Option Value} {base : Heap}
theorem fn_okD {x : Str} {st : Stmt} {N ps : List Str} {k n : Nat} {b : S → Rs} {f : Addr} {fd : FuncData} (F : FunD K x x (defArgs st) (defBody st) (defScope st) [] [] f fd) (S : FnScope N ps (defScope st)) (hl : ps.length = n)
    (hbody : ∀ (f : Addr) (cdv : Value) (A : Around) (outer : List Env) (s : Shared) (H : Hp) (E : XK), Room k (A.deeper (PyProof.Rows.envOfC x (defScope st) s.heap.objs.size f cdv)) →
      PSsd (cxOf (L2.CX P w) P w K mg base N x (defScope st) f cdv A outer s H E) E b (defBody st)) : FnOk P w K mg base (L2.CX P w) (k + 1) f fd ps (SpF K mg n (fnD N.length b)) := by
  refine FunD.ok (CX := L2.CX P w) F S (fun vs H Q E h => ?_) (fun cdv A outer s H vs Q E hr h => ?_)
  · obtain ⟨ρ, I, ds, m, M, r, e, _⟩ := h
    rw [← r.length, e, hl]
  · obtain ⟨ρ, I, ds, m, M, r, e, h⟩ := h
    refine ⟨_, hbody f cdv A outer s H E hr, ρ, I, { env := ds.map (fun d => some (.val d)) ++ List.replicate (N.length - ds.length) none, mem := m }, M, env_start r, ?_⟩
    unfold fnD at h
    have none : ∀ p, ¬ Own (L2.start N vs) (ds.map (fun d => some (Cell.val d)) ++ List.replicate (N.length - ds.length) Option.none) p := fun p z => own_start z
    cases e1 : b { env := ds.map (fun d => some (.val d)) ++ List.replicate (N.length - ds.length) Option.none, mem := m } with
    | next s2 => rw [e1] at h; exact fun ρ' I' H' σ' f M' E' => h ρ' I' H' .non (f.bare none) M' .non
    | ret d s2 => rw [e1] at h; exact fun ρ' I' H' O' v f M' r' => h ρ' I' H' v (f.bare none) M' r'
    | err x m2 => rw [e1] at h; exact fun ρ' I' H' O' cls dx f M' r' => h ρ' I' H' cls dx (f.bare none) M' r'
    | brk s2 => rw [e1] at h; exact h.elim
    | cont s2 => rw [e1] at h; exact h.elim
    | stuck => rw [e1] at h; exact h.elim
theorem fn_mkD {x : Str} {st : Stmt} {ps : List Str} {k n : Nat} {F : List D → List MO → Rf} (D : DefOk K mg x st ps) (hl : ps.length = n)
    (h : ∀ f fd, FunD K x x (defArgs st) (defBody st) (defScope st) [] [] f fd → FnOk P w K mg base (L2.CX P w) k f fd ps (SpF K mg n F)) : FnD P w K mg base k x n F := by
  obtain ⟨f, fd, F0, hm, hb⟩ := D.ex
  exact ⟨f, fd, ps, hm, hl, h f fd F0, F0.kp, hb⟩
theorem fn_zeroD {x : Str} {st : Stmt} {ps : List Str} {n : Nat} {F : List D → List MO → Rf} (D : DefOk K mg x st ps) (hl : ps.length = n) (hF : ∀ ds m, F ds m = .stuck) : FnD P w K mg base 0 x n F := by
  obtain ⟨f, fd, F0, hm, hb⟩ := D.ex
  exact fn_zero hm hb F0.kp hl hF
/-- from the written part -/
theorem def_of {fa : List He.Fa} {fn : List He.DefD} {h : Heap} {x : Str} {st : Stmt} {ps : List Str} (X : K.In h) (G : h.Ns mainGlobals mg) (c : He.SaysD fa fn K) (i j : Nat)
    (hb : ∀ (kV doc pm : Value) (an : Option Addr) (cdv ct : Value) (us : List Value), us.length = ps.length → bindArgs (PySem.W.fnOf x x (defArgs st) (defBody st) (defScope st) .none kV doc pm an cdv ct) ⟨us, []⟩ = pure (ps.zip us))
    (hi : fn[i]? = some ⟨(x, none), x, x, defArgs st, defBody st, defScope st, [], []⟩ := by rfl) (hj : fa[j]? = some (.glo x) := by rfl) : DefOk K mg x st ps := by
  obtain ⟨fd, F⟩ := c.def_ i hi
  exact ⟨He.ga K x, fd, F, He.glo_ok X G (c.fact j hj), FunD.bindsN F hb⟩
end
/-! ### constants -/
def relDB (K : KF) : Nat → D → Value → Bool
  | _, .non, .none => true
  | _, .bl b, .bool c => b == c
  | _, .int i, .int j _ => decide (i = j)
  | _, .str x, .str y _ => decide (x = y)
  | n + 1, .tup ds, .ref p => match K.lookup p with
    | some ⟨.type c, _, .seq its _, _⟩ => decide (c = "tuple") && (decide (its.size ≤ sizeLine) && (ds.length == its.toList.length && (ds.zip its.toList).all fun q => relDB K n q.1 q.2))
    | _ => false
  | _, _, _ => false
theorem relDB_all {K : KF} {n : Nat} (ih : ∀ {d : D} {v : Value}, relDB K n d v = true → ∃ u, RelV u v ∧ ∀ ρ I H, Rel K ρ I H d u) : ∀ {ds : List D} {vs : List Value}, ds.length = vs.length → ((ds.zip vs).all fun q => relDB K n q.1 q.2) = true → ∃ us, Vals us vs ∧ ∀ ρ I H, RelL K ρ I H ds us
  | [], [], _, _ => ⟨[], .nil, fun _ _ _ => .nil⟩
  | d :: ds, v :: vs, hl, h => by
    simp only [List.zip_cons_cons, List.all_cons, Bool.and_eq_true] at h
    obtain ⟨u, r1, q1⟩ := ih h.1
    obtain ⟨us, r2, q2⟩ := relDB_all ih (by simpa using hl) h.2
    exact ⟨u :: us, .cons r1 r2, fun ρ I H => .cons (q1 ρ I H) (q2 ρ I H)⟩
  | [], _ :: _, h, _ => by simp at h
  | _ :: _, [], h, _ => by simp at h
theorem relDB_ok {K : KF} : ∀ {n : Nat} {d : D} {v : Value}, relDB K n d v = true → ∃ u, RelV u v ∧ ∀ ρ I H, Rel K ρ I H d u := by
  intro n
  induction n with
  | zero =>
    intro d v h
    unfold relDB at h
    split at h
    · exact ⟨.non, rfl, fun _ _ _ => .non⟩
    · rename_i b c; have := beq_iff_eq.mp h; subst this; exact ⟨.bl b, rfl, fun _ _ _ => .bl b⟩
    · rename_i i j t; have := of_decide_eq_true h; subst this; exact ⟨.int i, ⟨t, rfl⟩, fun _ _ _ => .int i⟩
    · rename_i x y t; have := of_decide_eq_true h; subst this; exact ⟨.str x, ⟨t, rfl⟩, fun _ _ _ => .str x⟩
    · rename_i n' ds p hn; cases hn
    · cases h
  | succ n ih =>
    intro d v h
    unfold relDB at h
    split at h
    · exact ⟨.non, rfl, fun _ _ _ => .non⟩
    · rename_i b c; have := beq_iff_eq.mp h; subst this; exact ⟨.bl b, rfl, fun _ _ _ => .bl b⟩
    · rename_i i j t; have := of_decide_eq_true h; subst this; exact ⟨.int i, ⟨t, rfl⟩, fun _ _ _ => .int i⟩
    · rename_i x y t; have := of_decide_eq_true h; subst this; exact ⟨.str x, ⟨t, rfl⟩, fun _ _ _ => .str x⟩
    · rename_i n' ds p hn
      cases hn
      split at h
      · rename_i c od its m sl hl
        simp only [Bool.and_eq_true, decide_eq_true_eq, beq_iff_eq] at h
        obtain ⟨hc, hz, hlen, hall⟩ := h
        subst hc
        obtain ⟨us, r, q⟩ := relDB_all ih hlen hall
        exact ⟨.ref p, rfl, fun ρ I H => .tup (.inr ⟨_, its, m, hl, rfl, rfl, hz, r⟩) (q ρ I H)⟩
      · cases h
    · cases h
def globB (K : KF) (x : Str) (d : D) : Bool := match PySem.W.nsIn K mainGlobals x with
  | some (some v) => relDB K 8 d v
  | _ => false
theorem glob_of {K : KF} {mg : Str → Option Value} {h : Heap} {x : Str} {d : D} (X : K.In h) (G : h.Ns mainGlobals mg) (c : globB K x d = true) : GlobD K mg x d := by
  unfold globB at c
  split at c
  · rename_i v e
    obtain ⟨u, r, q⟩ := relDB_ok c
    exact ⟨v, u, PySem.W.mg_of X G e, r, q⟩
  · cases c
/-! ### an exception class as it stands -/
def supB (K : KF) (C fI : Addr) (x qual : Str) (cd : Value) : Bool :=
  PySem.W.excInitIn K C PMX.eTail "Exception.__new__" && (PySem.W.excOver K C PMX.eTail && ((PySem.W.clsIn K C).any (fun cd => cd.hasDict) && (decide (PySem.W.findIn K (.ref C) "__setattr__" = some (some (.builtin "object.__setattr__"))) &&
  (decide (PySem.W.takerIn K C x = some none) && (decide (PySem.W.typeIn K (.ref fI) = some (.type "function")) && (PySem.W.keepIn K (.ref C) && (decide (PySem.W.subIn K (.ref C) (.type "BaseException") = some true) &&
  (decide (PySem.W.subIn K (.ref C) (.type "Exception") = some true) && (decide (PySem.W.typeIn K (.ref C) = some (.type "type")) && (decide (PySem.W.mroIn K C (.ref C) = some true) && (decide (PySem.W.ks_superIn K C C "__init__" = some (some (.builtin "Exception.__init__"))) &&
  (decide (PySem.W.nsIn K cStatics "thirdparty.any" = some none) && (decide (PySem.W.nsIn K mainGlobals "super" = some none) && (PySem.W.codeIn K cd qual && (xfB K C && (decide (PySem.W.findIn K (.ref C) x = some none) && decide (PySem.W.exmOne K (.ref C) (.ref C) = some true)))))))))))))))))
theorem and2 {a b : Bool} (h : (a && b) = true) : a = true ∧ b = true := Bool.and_eq_true_iff.mp h
theorem clsX_of {P : Program} {K : KF} {mg : Str → Option Value} {h : Heap} {cls x qual : Str} {C fI cda cc : Addr} {oc kV doc pm ct c1 c2 : Value} {od an d1 d2 : Option Addr} {osl s1 s2 : Array (Option Value)} {p1 p2 q1 q2 q3 q4 q5 q6 r1 r2 r3 r4 : Pos} {vs : Array Value} {tf : Tok}
    (X : K.In h) (G : h.Ns mainGlobals mg) (aC : PySem.W.nsIn K mainGlobals cls = some (some (.ref C))) (iC : PySem.W.findIn K (.ref C) "__init__" = some (some (.ref fI)))
    (lI : K.lookup fI = some ⟨oc, od, .func (PySem.W.ksFn "__init__" qual (PMX.iA x p1 p2) (PMX.iB x q1 q2 q3 q4 q5 q6 r1 r2 r3 r4) (PMX.iS x) .none kV doc pm an (.ref cda) ct cc), osl⟩)
    (lD : K.lookup cda = some ⟨c1, d1, .fields vs, s1⟩) (vD : vs[2]? = some (.str P.main.file tf)) (lC : K.lookup cc = some ⟨c2, d2, .cell (some (.ref C)), s2⟩) (b : supB K C fI x qual (.ref cda) = true) (top : (P.main.scope.names.lookup ("super" : Str)).isSome = false)
    (hbd : ∀ u v : Value, bindArgs (PySem.W.ksFn "__init__" qual (PMX.iA x p1 p2) (PMX.iB x q1 q2 q3 q4 q5 q6 r1 r2 r3 r4) (PMX.iS x) .none kV doc pm an (.ref cda) ct cc) ⟨[u, v], []⟩ = pure [(("self" : Str), u), (x, v)])
    (hev : ∀ env : Env, ∃ pl : Sem Bool, eval (.Call (.Attribute (.Call (.Name "super" q1) [] [] q2) "__init__" q3) [.Name x q4] [] q5) env = (do
      let ov ← attributeBase (.Call (.Name "super" q1) [] [] q2) "__init__" env (eval (.Call (.Name "super" q1) [] [] q2) env)
      standAt q3.atName
      let (f, first) ← holding [ov] (getMethod ov "__init__" pl)
      callWith q5 f first (backTo q5 (starEach [.Name x q4] env)) [])) : ClsX P K mg cls x qual := by
  obtain ⟨b1, b⟩ := and2 b; obtain ⟨b2, b⟩ := and2 b; obtain ⟨b3, b⟩ := and2 b; obtain ⟨b4, b⟩ := and2 b
  obtain ⟨b5, b⟩ := and2 b; obtain ⟨b6, b⟩ := and2 b; obtain ⟨b7, b⟩ := and2 b; obtain ⟨b8, b⟩ := and2 b
  obtain ⟨b9, b⟩ := and2 b; obtain ⟨b10, b⟩ := and2 b; obtain ⟨b11, b⟩ := and2 b; obtain ⟨b12, b⟩ := and2 b
  obtain ⟨b13, b⟩ := and2 b; obtain ⟨b14, b⟩ := and2 b; obtain ⟨b15, b⟩ := and2 b; obtain ⟨b16, b⟩ := and2 b; obtain ⟨b17, b18⟩ := and2 b
  refine ⟨C, fI, ⟨b1, b2, b3, of_decide_eq_true b4, of_decide_eq_true b5, iC, of_decide_eq_true b6, b7, of_decide_eq_true b8, of_decide_eq_true b9, of_decide_eq_true b10, of_decide_eq_true b11, of_decide_eq_true b12, of_decide_eq_true b13, of_decide_eq_true b14, top, ?_⟩, PySem.W.mg_of X G aC, xfB_ok b16, of_decide_eq_true b17, of_decide_eq_true b18⟩
  exact ⟨oc, od, kV, doc, pm, an, cda, cc, ct, osl, p1, p2, q1, q2, q3, q4, q5, q6, r1, r2, r3, r4, c1, c2, d1, d2, s1, s2, vs, tf, lI, b15, lD, vD, lC, hbd, hev⟩
/-! ### the law -/
def spLaw (K : KF) : Sp := fun vs H Q _ => ∃ (a : Addr) (ns : List Int), vs = [.ref a] ∧ SqL K H a (ns.map V.int) ∧ ns.length ≤ 63 ∧ ∀ H', Q (.bl true) H'
theorem ints_rel {K : KF} {ρ : List Addr} {I : Addr → Prop} {H : Hp} : ∀ ns : List Int, RelL K ρ I H (ns.map .int) (ns.map V.int)
  | [] => .nil
  | n :: ns => .cons (.int n) (ints_rel ns)
theorem sp_law {K : KF} {mg : Str → Option Value} {F : List D → List MO → Rf} (hF : ∀ ns : List Int, ns.length ≤ 63 → ∃ m, F [.frz (ns.map .int)] [] = .ok (.bl true) m) (vs : List V) (H : Hp) (Q : VK) (E : XK) (h : spLaw K vs H Q E) : SpF K mg 1 F vs H Q E := by
  obtain ⟨a, ns, rfl, hS, hl, q⟩ := h
  obtain ⟨m, e⟩ := hF ns hl
  have fin : ∀ (I : Addr → Prop), (∀ p, I p → H p ≠ none) → ImmF K I H a (ns.map V.int) → SpF K mg 1 F [.ref a] H Q E := fun I hI hf => by
    refine ⟨[], I, [.frz (ns.map .int)], [], ⟨rfl, .nil, (fun p hp => by cases hp), hI, (fun n p o h => by simp at h)⟩, .cons (.frz hf (ints_rel ns)) .nil, rfl, ?_⟩
    rw [e]
    intro ρ' I' H' v _ _ r
    cases r
    exact q H'
  rcases hS with hS | hS
  · refine fin (fun p => p = a) (fun p hp => ?_) (.inl ⟨rfl, hS⟩)
    subst hp
    rcases hS with h | ⟨o, h⟩ <;> rw [h] <;> simp
  · exact fin (fun _ => False) (fun p hp => hp.elim) (.inr hS)
end PM
end

section
set_option Elab.async false
set_option linter.all false
set_option maxRecDepth 100000
set_option maxHeartbeats 2000000
/-! PM16: zip of two tuples or two lists, as an iterable. -/
namespace PM
open PySem PySem.Spec L2 RZ
variable [PWc]
section
variable {X : Cx} {W : XK} {pos : Pos}
def pairD (a b : D) : D := .tup [a, b]
def zipD (ds : List D) : Option (List D) := match ds with
  | [.tup xs, .tup ys] => some (List.zipWith pairD xs ys)
  | _ => none
theorem zip_at {xs ys : List D} {i : Nat} {d : D} (h : (List.zipWith pairD xs ys)[i]? = some d) : ∃ a b, xs[i]? = some a ∧ ys[i]? = some b ∧ d = pairD a b := by
  rw [List.getElem?_zipWith] at h
  split at h
  · rename_i a b ha hb
    cases h
    exact ⟨a, b, ha, hb, rfl⟩
  · cases h
theorem yields_zipT {K : KF} {ρ : List Addr} {I : Addr → Prop} {H : Hp} {p q : Addr} {xs ys : List V} {ds es : List D} (hx : ImmT K I H p xs) (hy : ImmT K I H q ys) (rx : RelL K ρ I H ds xs) (ry : RelL K ρ I H es ys) : Yields K ρ I H (List.zipWith pairD ds es) (ItzT K p q) := by
  intro ρ' I' H' f n i
  refine ⟨fun d hd => ?_, fun hl => ⟨xs, ys, (hx.lat f).sq, (hy.lat f).sq, by
    rw [← rx.length, ← ry.length]
    rw [List.length_zipWith] at hl
    omega⟩⟩
  obtain ⟨a, b, h1, h2, e⟩ := zip_at hd
  subst e
  obtain ⟨u, g1, r1⟩ := rx.get h1
  obtain ⟨w, g2, r2⟩ := ry.get h2
  refine ⟨⟨xs, ys, u, w, (hx.lat f).sq, (hy.lat f).sq, g1, g2⟩, fun x H'' y => ?_⟩
  obtain ⟨T, c, d, rfl, hT, rfl, q1, q2⟩ := y
  have e1 := q1 xs (hx.lat f).sq
  have e2 := q2 ys (hy.lat f).sq
  rw [g1] at e1
  rw [g2] at e2
  cases e1
  cases e2
  have x := Ext.new (I := I') (o := .tup [u, w]) hT
  exact ⟨_, x, .tup (.inl ⟨.inr rfl, upd_same⟩) (.cons ((r1.lat f).ext x n) (.cons ((r2.lat f).ext x n) .nil))⟩
theorem i_zip {a b : Expr} {fs : S → R (List D)} {p : Pos} {elts : List Expr} {kk : Nat} {tpos : Pos} (hg : Gl X "zip") (hm : X.mg "zip" = none) (ha : PAd X W fs [a, b])
    (hs : starEach [a, b] X.env = (false, eval a X.env) :: starEach [b] X.env := by rfl) (hpl : (backTo pos (starEach [b] X.env)).any (·.1) = false := by rfl) :
    PId X W (iArgs zipD fs) (.Tuple elts kk tpos) (.Call (.Name "zip" p) [a, b] [] pos) :=
  PI.imp (pi_zipA hg hm ha hs hpl) fun σ H Q ⟨ρ, I, s, M, E, h⟩ => dG.bind M E h fun ds s1 ρ1 I1 H1 vs M1 E1 r up h => by
    cases e : zipD ds with
    | none => rw [e] at h; exact h.elim
    | some q =>
      rw [e] at h
      unfold zipD at e
      split at e
      · rename_i xs ys
        cases e
        cases r with
        | cons r rr =>
          cases rr with
          | cons r' rr =>
            cases rr
            cases r with
            | @tup _ p1 us h1 q1 =>
              cases r' with
              | @tup _ p2 ws h2 q2 =>
                refine ⟨p1, p2, us, ws, rfl, .inr ⟨h1.sq, h2.sq, h.here (Ext.refl _ _) M1 E1 ?_⟩⟩
                exact yields_zipT h1 h2 q1 q2
      · cases e
end
end PM
end

section
set_option Elab.async false
set_option linter.all false
set_option maxRecDepth 100000
set_option maxHeartbeats 2000000
/-! PM17: several except clauses, each with a name. -/
namespace PM
open PySem PySem.Spec PyProof.Rows L2
variable [PWc]
abbrev Cls3 := Value × Nat × (Addr → Value → Option Addr → TS)
def wNamed (K : KF) (Wo : WX) (De : Ends) : List Cls3 → WX
  | [] => Wo
  | (c, i, ts) :: r => fun k dx τ G => ∃ b, PySem.W.exmOne K k c = some b ∧
    (b = true → ∀ a, G a = none → ts a k dx ⟨fun τ2 G2 => De.nx (τ2.set i none) G2, De.rt, fun τ2 G2 => De.bk (τ2.set i none) G2, fun τ2 G2 => De.ct (τ2.set i none) G2⟩ (τ.set i (some (.ref a))) G) ∧ (b = false → wNamed K Wo De r k dx τ G)
inductive Named (X : Cx) : List ExceptHandler → List Cls3 → Prop
  | nil : Named X [] []
  | cons {x n : Str} {c : Value} {i : Nat} {ts : Addr → Value → Option Addr → TS} {b₀ : Stmt} {rest : List Stmt} {np hp : Pos} {hds : List ExceptHandler} {l : List Cls3} (at' : X.N[i]? = some n) (lc : X.env.kindOf n = some .local) (nm : Names X x c)
      (body : ∀ (a : Addr) (oe : Obj) (k : Value) (dx : Option Addr) (pn : List (Addr × Obj)), Zc k dx oe → (∃ vs, oe.data = .fields vs) → PSs (X.suite a ((a, oe) :: pn)) (b₀ :: rest) (ts a k dx)) (r : Named X hds l) :
      Named X (.ExceptHandler (some (.Name x np)) (some n) (b₀ :: rest) hp :: hds) ((c, i, ts) :: l)
section
variable {X : Cx} {body : List Stmt} {h₀ : ExceptHandler} {hds : List ExceptHandler} {l : List Cls3} {pos : Pos} {tb : WX → TS} {Wo : WX}
theorem ps_try_named (hst : X.stack = X.env :: X.outer) (hfe : X.env.frame = some X.env.locals) (hN : X.N.Nodup) (tk : Takes X Wo)
    (hb : ∀ (W : WX) (pn : List (Addr × Obj)) (xe : Value → Shared → Prop), Takes (X.tr pn xe) W → PassesOwn (model X.prog X.w) X.A X.env xe → PSs (X.tr pn xe) body (tb W)) (hh : Named X (h₀ :: hds) l) :
    PS X (.Try body (h₀ :: hds) [] [] pos) (fun De σ H => tb (wNamed X.K Wo De l) De σ H) := by
  refine ⟨fun pins s σ H De I h => wpAny_Try_except ?_⟩
  have ok := I.ok; have frs' : X.A.frames = some (X.env :: X.outer) := by rw [ok.frames, hst]
  refine wpAny_mono ((hb (wNamed X.K Wo De l) (X.pn ++ pins) (fun e z₁ => wpAny (model X.prog X.w) X.A (noteFrame e X.env) (fun _ z₂ => wpAny (model X.prog X.w) X.A (setFlight e none) (fun _ z₃ => wpAny (model X.prog X.w) X.A (handleBy e X.env (h₀ :: hds)) (SP X pins De) X.xe z₃) X.xe z₂) X.xe z₁)
    (fun u t xx => ?_) PassesOwn.looking).run [] s σ H De (I.toTry _) h) (fun f t hsp => ?_) (fun e t he => he)
  · obtain ⟨a, B, sI, pp, τ, G, k, dx, rfl, J0, nb, up, sky, na, os, ag, w⟩ := xx
    have J : Inv X pins τ G sI := J0.ofTry ok
    have sk : Sky B (X.env :: X.outer) a (Zc k dx) X.env.locals t.heap := by rw [← hst]; exact sky
    show wpAny (model X.prog X.w) X.A (noteFrame (.ref a) X.env) _ _ _; refine Sky.land Zc.steady frs' hfe sk fun g3 fl up3 => ?_
    have J3 : Inv X pins τ G { t with heap := g3 } := J.landed nb fl.1 (up.trans up3) os ag
    obtain ⟨o3, vs3, at3, z3, dat3⟩ := fl.there
    have nfr : a ∉ frs (X.env :: X.outer) := fun hm => by obtain ⟨_, o', e', hnf⟩ := fl.2.2.1.mem hm; rw [at3] at e'; cases e'; exact hnf _ dat3
    have nL : a ≠ X.env.locals := fun z => nfr (List.mem_filterMap.mpr ⟨X.env, List.mem_cons_self, by rw [hfe, z]⟩)
    have nF : a ∉ X.fs := fun hm => by obtain ⟨e, he, q⟩ := List.mem_filterMap.mp hm; exact nfr (List.mem_filterMap.mpr ⟨e, List.mem_cons_of_mem _ he, q⟩)
    have S3 := J3.suite at3 dat3 na nL nF
    have go : ∀ {hd2 : List ExceptHandler} {l2 : List Cls3}, Named X hd2 l2 → wNamed X.K Wo De l2 k dx τ G → wpAny (model X.prog X.w) X.A (handleBy (.ref a) X.env hd2) (SP X pins De) X.xe { t with heap := g3 } := by
      intro hd2 l2 hk
      induction hk with
      | nil =>
        intro w; refine wpAny_handleBy_nil ?_
        obtain ⟨k1, k2, k3, oe, vs, T, oT, tt, he, hz, hd, h1, hr⟩ := id fl
        unfold PySem.passOn; refine wpAny_bind (wpAny_field he hd h1 ?_); rw [if_neg (show ¬ ((Value.ref T == Value.none) = true) from by simp)]
        have fin : wpAny (model X.prog X.w) X.A (setFlight (.ref a) X.env.frame) (fun _ z4 => wpAny (model X.prog X.w) X.A (throw (.ref a) : Sem Flow) (SP X pins De) X.xe z4) X.xe { t with heap := g3 } := by
          rw [hfe]; refine HandSPX.setFlight_upZ fl fun g4 hh4 up4 => wpAny_throw (tk _ _ ?_)
          exact ⟨a, B, sI, pins, τ, G, k, dx, rfl, J, nb, (up.trans up3).trans up4, .inr (.inr (by rw [hst]; exact hh4)), na, os, ag, w⟩
        first | exact wpAny_bind (wpAny_pure (wpAny_bind fin)) | exact wpAny_bind fin
      | @cons x n c i ts b₀ rest np hp hd3 l3 at' lc nm bd r ih =>
        intro w; obtain ⟨b, hb1, hyes, hno⟩ := w
        refine wpAny_handleBy_cons (codeAny_handlers_test ?_) (by intro q; cases q)
        have LT : PySem.W.Looks (model X.prog X.w) g3 (typeOf (.ref a)) k := fun A Q E s2 kk q => wpAny_typeOf_ref (kk _ _ at3) (by rw [z3.1]; exact q)
        have LM := PySem.W.exm_one (M := model X.prog X.w) (J3.kIn) LT hb1
        have test : ∀ {Q : Value → Shared → Prop} {E : Value → Shared → Prop}, Q c { t with heap := g3 } → wpAny (model X.prog X.w) (X.A.mark (some (.ref a))) (eval (.Name x np) X.env) Q E { t with heap := g3 } := fun {Q E} q => by
          obtain ⟨hg, hdbg, hm | ⟨hm, hv, hnn⟩⟩ := nm; (· exact ld_glob (X := X.suite a ((a, o3) :: (X.pn ++ pins))) S3 hg hm q hdbg); (· exact ld_blt (X := X.suite a ((a, o3) :: (X.pn ++ pins))) S3 hg hm hv q hnn hdbg)
        refine test (LM.here ?_)
        cases b with
        | true =>
          refine codeAny_handlers_suite_as (HandSPX.lands_againZ fl fun g4 fl4 up4 => ?_)
          have J4 : Inv X pins τ G { t with heap := g4 } := J.landed nb fl4.1 ((up.trans up3).trans up4) os ag
          obtain ⟨o4, vs4, at4, z4, dat4⟩ := fl4.there
          have S4 := J4.suite at4 dat4 na nL nF
          refine store_ok (X := X.suite a ((a, o4) :: (X.pn ++ pins))) (v := .ref a) S4 hN at' (.inl lc) rfl (fun s5 S5 => ?_) (.inr lc)
          refine wpAny_mono ((bd a o4 k dx (X.pn ++ pins) z4 ⟨_, dat4⟩).run [] s5 _ G _ S5 (hyes rfl a na)) (fun f s6 hsp => ?_) (fun _ _ z => False.elim z)
          have fin : ∀ {τ6 : L2.St} {G6 : Hp} {Q : Shared → Prop}, Inv (X.suite a ((a, o4) :: (X.pn ++ pins))) [] τ6 G6 s6 → (∀ s7, Inv X pins (τ6.set i none) G6 s7 → Q s7) → wpAny (model X.prog X.w) X.A (do bindName X.env n .none; unbindBehindTheSuite X.env n hp) (fun _ s7 => Q s7) X.xe s6 := fun {τ6 G6 Q} S6 hq => gone_ok (S6.unsuite ok) hN at' lc hq
          cases f with
          | ret u => obtain ⟨v6, τ6, G6, S6, r6, q6⟩ := hsp; exact fin S6 fun s7 J7 => ⟨_, _, _, J7, r6, q6⟩
          | _ => obtain ⟨τ6, G6, S6, q6⟩ := hsp; exact fin S6 fun s7 J7 => ⟨_, _, J7, q6⟩
        | false => exact ih (hno rfl)
    exact go hh w
  · cases f with
    | next => obtain ⟨τ, G, J', q⟩ := hsp; exact wpAny_execs_nil ⟨τ, G, J'.ofTry ok, q⟩
    | ret u => obtain ⟨v, τ, G, J', r, q⟩ := hsp; exact ⟨v, τ, G, J'.ofTry ok, r, q⟩
    | _ => obtain ⟨τ, G, J', q⟩ := hsp; exact ⟨τ, G, J'.ofTry ok, q⟩
end
end PM
end

section
set_option Elab.async false
set_option linter.all false
set_option maxRecDepth 100000
set_option maxHeartbeats 2000000
/-! PM18: try: return f(..) / except A as e: return .. / except B as e: return .. -/
namespace PM
open PySem PySem.Spec L2
variable [PWc]
structure ApX (K : KF) (mg : Str → Option Value) (c1 c2 : Str) : Prop where
  ex : ∃ C1 C2, mg c1 = some (.ref C1) ∧ mg c2 = some (.ref C2) ∧ PySem.W.exmOne K (.ref C2) (.ref C1) = some false
def hRun (hd : List (Str × D) → S → R D) (x : Exn) (i : Nat) (env : List (Option Cell)) (m : List MO) : Rs := match hd x.fields { env := env.set i none, mem := m } with
  | .ok d s => .ret d s
  | _ => .stuck
def sTry2 (F : List D → List MO → Rf) (c1 c2 : Str) (i : Nat) (fs : S → R (List D)) (h1 h2 : List (Str × D) → S → R D) (s : S) : Rs := match fs s with
  | .ok ds s => (match F ds s.mem with
    | .ok d m => .ret d { s with mem := m }
    | .err x m => if x.fields.isEmpty = false ∧ i < s.env.length then (if x.cls = c1 then hRun h1 x i s.env m else if x.cls = c2 then hRun h2 x i s.env m else .stuck) else .stuck
    | .stuck => .stuck)
  | _ => .stuck
section
variable {X : Cx} {W : XK} {pos : Pos}
theorem s_try2 {F : List D → List MO → Rf} {k ar i : Nat} {c1 c2 x1 x2 q1 q2 n fx : Str} {p np1 np2 pp1 pp2 rp rp' hp1 hp2 : Pos} {e hx1 hx2 : Expr} {es : List Expr} {fs : S → R (List D)} {h1 h2 : List (Str × D) → S → R D} {Wout : WX} (T1 : ClsX X.prog X.K X.mg c1 x1 q1) (T2 : ClsX X.prog X.K X.mg c2 x2 q2) (A : ApX X.K X.mg c1 c2) (G : FnD X.prog X.w X.K X.mg X.base k fx ar F) (hr : Room k X.A) (hgf : Gl X fx) (hg1 : Gl X c1) (hg2 : Gl X c2) (hlen : (e :: es).length = ar)
    (hst : X.stack = X.env :: X.outer) (hfr : X.env.frame = some X.env.locals) (hN : X.N.Nodup) (hi : X.N[i]? = some n) (hln : X.env.kindOf n = some .local) (tk : Takes X Wout)
    (ha : ∀ (pn : List (Addr × Obj)) (xe : Value → Shared → Prop), PAd (X.tr pn xe) E0 fs (e :: es))
    (hh1 : ∀ (C a dd : Addr) (oe : Obj) (pn : List (Addr × Obj)) (fl : List (Str × D)), XfC X.K C → PySem.W.findIn X.K (.ref C) x1 = some none → Zc (.ref C) (some dd) oe → (∃ vs, oe.data = .fields vs) → PE (X.suite a ((a, oe) :: pn)) hx1 (dX X.K X.mg i a dd fl (Rel X.K) (h1 fl)))
    (hh2 : ∀ (C a dd : Addr) (oe : Obj) (pn : List (Addr × Obj)) (fl : List (Str × D)), XfC X.K C → PySem.W.findIn X.K (.ref C) x2 = some none → Zc (.ref C) (some dd) oe → (∃ vs, oe.data = .fields vs) → PE (X.suite a ((a, oe) :: pn)) hx2 (dX X.K X.mg i a dd fl (Rel X.K) (h2 fl)))
    (hd1 : (c1 == ("__debug__" : Str)) = false := by decide) (hd2 : (c2 == ("__debug__" : Str)) = false := by decide) (hdb : (fx == ("__debug__" : Str)) = false := by decide) (he : starEach (e :: es) X.env = (false, eval e X.env) :: starEach es X.env := by rfl) (hpl : (backTo p (starEach es X.env)).any (·.1) = false := by rfl) :
    PSd X W (sTry2 (fun ds m => if ds.length = ar then F ds m else .stuck) c1 c2 i fs h1 h2) (.Try [.Return (some (.Call (.Name fx rp) (e :: es) [] p)) rp'] [.ExceptHandler (some (.Name c1 np1)) (some n) [.Return (some hx1) pp1] hp1, .ExceptHandler (some (.Name c2 np2)) (some n) [.Return (some hx2) pp2] hp2] [] [] pos) := by
  obtain ⟨C1, fI1, S1, hm1, xf1, hno1, hex1⟩ := T1.ex
  obtain ⟨C2, fI2, S2, hm2, xf2, hno2, hex2⟩ := T2.ex
  obtain ⟨B1, B2, hb1, hb2, hap⟩ := A.ex
  rw [hm1] at hb1; cases hb1
  rw [hm2] at hb2; cases hb2
  obtain ⟨f, fd, ps, hmf, hl, F1, hk, hb⟩ := G.ex
  let t1 : Addr → Value → Option Addr → TS := fun a cl d De σ H => ∃ dd fl, cl = .ref C1 ∧ d = some dd ∧ dX X.K X.mg i a dd fl (Rel X.K) (h1 fl) σ H De.rt
  let t2 : Addr → Value → Option Addr → TS := fun a cl d De σ H => ∃ dd fl, cl = .ref C2 ∧ d = some dd ∧ dX X.K X.mg i a dd fl (Rel X.K) (h2 fl) σ H De.rt
  have hN2 : Named X [.ExceptHandler (some (.Name c1 np1)) (some n) [.Return (some hx1) pp1] hp1, .ExceptHandler (some (.Name c2 np2)) (some n) [.Return (some hx2) pp2] hp2] [(.ref C1, i, t1), (.ref C2, i, t2)] := by
    refine .cons hi hln ⟨hg1, hd1, .inl hm1⟩ (fun a oe cl d pn hz hf => ⟨fun pins s σ H De J q => ?_⟩) (.cons hi hln ⟨hg2, hd2, .inl hm2⟩ (fun a oe cl d pn hz hf => ⟨fun pins s σ H De J q => ?_⟩) .nil)
    · obtain ⟨dd, fl, rfl, rfl, q⟩ := q; exact (pss_one (ps_ret (hh1 C1 a dd oe pn fl xf1 hno1 hz hf))).run pins s σ H De J q
    · obtain ⟨dd, fl, rfl, rfl, q⟩ := q; exact (pss_one (ps_ret (hh2 C2 a dd oe pn fl xf2 hno2 hz hf))).run pins s σ H De J q
  refine PS.imp (ps_try_named (tb := fun W => tRet (tCallS (SpF X.K X.mg ar F) (WE W) (dA X.K X.mg E0 fs))) hst hfr hN tk (fun W' pn xe tk' _ => ?_) hN2) fun De σ H ⟨ρ, I, s, M, E, h⟩ => ?_
  · exact pss_one (ps_ret (pe_callS (X := X.tr pn xe) F1 hr hgf hmf hk hb (fun σ => passAt tk' σ) (ha pn xe) hdb he hpl))
  · show dA X.K X.mg E0 fs σ H _
    refine ⟨ρ, I, s, M, E, ?_⟩
    unfold sTry2 at h
    cases e1 : fs s with
    | err x m => rw [e1] at h; exact h.elim
    | stuck => rw [e1] at h; exact h.elim
    | ok ds s1 =>
      rw [e1] at h
      intro ρ1 I1 H1 vs f1 M1 E1 r
      dsimp only at h
      by_cases hn : ds.length = ar
      · rw [if_pos hn] at h
        refine ⟨ρ1, I1, ds, s1.mem, M1, r, hn, ?_⟩
        have out : ∀ {ρ' I' H'}, Frm ρ1 I1 H1 nobody ρ' I' H' nobody → Frm ρ1 I1 H1 (Own σ s1.env) ρ' I' H' (Own σ s1.env) := fun f => f.outer _ fun p o => (E1.ownI o).1
        cases e2 : F ds s1.mem with
        | stuck => rw [e2] at h; exact h.elim
        | ok d m =>
          rw [e2] at h
          exact fun ρ' I' H' v f' M' r' => h ρ' I' H' _ v (f1.trans (out f')) M' r'
        | err x m =>
          rw [e2] at h
          dsimp only at h
          intro ρ' I' H' cl dx f' M' xr
          by_cases hc : x.fields.isEmpty = false ∧ i < s1.env.length
          · rw [if_pos hc] at h
            obtain ⟨hc2, hc3⟩ := hc
            obtain ⟨C', hC', hcl, hfl⟩ := xr
            subst hcl
            have E2 := E1.call M1.dis f'
            rcases hfl with hfl | ⟨dd, fs', hdx, hnI, hdd, hnm, hrl⟩
            · rw [hfl] at hc2; cases hc2
            · subst hdx
              have core : ∀ {hd : List (Str × D) → S → R D}, FinS X.K X.mg W De ρ I H (Own σ s.env) (hRun hd x i s1.env m) → ∀ a : Addr, dX X.K X.mg i a dd x.fields (Rel X.K) (hd x.fields) (σ.set i (some (.ref a))) H' De.rt := by
                intro hd hq a
                obtain ⟨E3, o3⟩ := E2.unset (i := i) (v := .ref a)
                have own : ∀ p, Own σ s1.env p → p ≠ dd := fun p ⟨j, o, a1, a2⟩ z => by
                  obtain ⟨q, b1, b2, _, _⟩ := E2.own j o a1
                  rw [a2] at b1
                  cases b1
                  subst z
                  cases o with
                  | lst ds => obtain ⟨xs, e, _⟩ := b2; rw [hdd] at e; cases e
                  | dct ks vs => obtain ⟨xs, e, _⟩ := b2; rw [hdd] at e; cases e
                  | kdt ks vs => obtain ⟨xs, e, _⟩ := b2; rw [hdd] at e; cases e
                refine ⟨ρ', I', { env := s1.env.set i none, mem := m }, M', E3, ⟨List.getElem?_set_self (by rw [← E1.len]; exact hc3), fun z => ?_, hnI, fun z => own dd (o3 _ z) rfl, fs', hdd, hnm, hrl⟩, ?_⟩
                · obtain ⟨j, hj, ej⟩ := List.mem_iff_getElem.mp z
                  have a1 : ρ'[j]? = some dd := by rw [List.getElem?_eq_getElem hj, ej]
                  have hjm : j < m.length := by rw [M'.len]; exact hj
                  have b := M'.obj j dd m[j] a1 (List.getElem?_eq_getElem hjm)
                  cases q : m[j] with
                  | lst ds => rw [q] at b; obtain ⟨xs, e, _⟩ := b; rw [hdd] at e; cases e
                  | dct ks vs => rw [q] at b; obtain ⟨xs, e, _⟩ := b; rw [hdd] at e; cases e
                  | kdt ks vs => rw [q] at b; obtain ⟨xs, e, _⟩ := b; rw [hdd] at e; cases e
                · have fr : Frm ρ I H (Own σ s.env) ρ' I' H' (Own (σ.set i (some (.ref a))) (s1.env.set i none)) := (f1.trans (out f')).widen o3
                  unfold hRun at hq
                  cases e3 : hd x.fields { env := s1.env.set i none, mem := m } with
                  | ok d s2 =>
                    rw [e3] at hq
                    exact fun ρ2 I2 H2 v f2 M2 E2 r2 => hq ρ2 I2 H2 _ v (fr.trans f2) M2 r2
                  | err y m2 => rw [e3] at hq; exact hq.elim
                  | stuck => rw [e3] at hq; exact hq.elim
              by_cases k1 : x.cls = c1
              · rw [if_pos k1] at h
                rw [k1, hm1] at hC'
                cases hC'
                exact ⟨true, hex1, fun _ a haN => ⟨dd, x.fields, rfl, rfl, core h a⟩, fun z => by cases z⟩
              · rw [if_neg k1] at h
                by_cases k2 : x.cls = c2
                · rw [if_pos k2] at h
                  rw [k2, hm2] at hC'
                  cases hC'
                  exact ⟨false, hap, fun z => (by cases z), fun _ => ⟨true, hex2, fun _ a haN => ⟨dd, x.fields, rfl, rfl, core h a⟩, fun z => by cases z⟩⟩
                · rw [if_neg k2] at h; exact h.elim
          · rw [if_neg hc] at h; exact h.elim
      · rw [if_neg hn] at h; exact h.elim
end
end PM
end

section
set_option Elab.async false
set_option linter.all false
set_option maxRecDepth 100000
set_option maxHeartbeats 2000000
/-! PM19: max of two ints. -/
namespace PM
open PySem PySem.Spec L2
variable [PWc]
section
variable {X : Cx} {W : XK} {pos : Pos}
def max2D (ds : List D) : Option D := match ds with
  | [.int i, .int j] => some (.int (if j > i then j else i))
  | _ => none
theorem c_max2 (hc : X.calm = true) : CallD X (.builtin "max") max2D := by
  intro pins s σ H xs us Q J r h
  obtain ⟨ρ, I, ds, d, n, ra, e, q⟩ := h
  unfold max2D at e
  split at e
  · cases e
    cases ra with
    | cons r1 r2 =>
      obtain ⟨v2, rfl, r3⟩ := r2.one
      cases r1
      cases r3
      exact call_max2 hc pins s σ H _ us Q J r ⟨_, _, rfl, q I H _ (Ext.refl _ _) (.int _)⟩
  · cases e
end
end PM
end

section
set_option Elab.async false
set_option linter.all false
set_option maxRecDepth 100000
set_option maxHeartbeats 2000000
/-! PM20: a, b = (a new object, an int). -/
namespace PM
open PySem PySem.Spec L2
variable [PWc]
section
variable {X : Cx} {W : XK} {pos : Pos}
def sParO (i j : Nat) (f : S → R MO) (n : Int) (s : S) : Rs := match sOwn i f s with
  | .next s => .next (s.set j (.int n))
  | .err x m => .err x m
  | _ => .stuck
theorem s_parO {i j : Nat} {x y : Str} {a : Expr} {f : S → R MO} {n : Int} {px py pt cp : Pos} {ck kt k2 pt2} (hc : X.calm = true) (hN : X.N.Nodup) (hi : X.N[i]? = some x) (hj : X.N[j]? = some y) (hij : i ≠ j)
    (hx : X.env.scope.names.lookup x = some .local) (hy : X.env.scope.names.lookup y = some .local) (ha : PFd X W f a)
    (hw : swappedStores [.Tuple [.Name x px, .Name y py] kt pt] (.Tuple [a, .Constant (.int n) ck cp] k2 pt2) X.env = pure (some [x, y]))
    (h1 : starEach [a, .Constant (.int n) ck cp] X.env = (false, eval a X.env) :: starEach [.Constant (.int n) ck cp] X.env := by rfl)
    (hs : swapsWithSole [.Tuple [.Name x px, .Name y py] kt pt] (.Tuple [a, .Constant (.int n) ck cp] k2 pt2) pos.line X.env = pure false := by rfl) :
    PSd X W (sParO i j f n) (.Assign [.Tuple [.Name x px, .Name y py] kt pt] (.Tuple [a, .Constant (.int n) ck cp] k2 pt2) pos) :=
  PS.imp (ps_par hc hN hi hj hij hx hy (pa_cons ha (pa_cons pe_int pa_nil) h1) hw hs) fun De σ H ⟨ρ, I, s, M, E, h⟩ => by
    have h' : FinS X.K X.mg W { De with nx := fun τ G => De.nx (τ.set j (some (.int n))) G } ρ I H (Own σ s.env) (sOwn i f s) := by
      unfold sParO at h
      cases e : sOwn i f s with
      | next s2 =>
        rw [e] at h
        intro ρ' I' H' τ fr M2 E2
        exact h ρ' I' H' (τ.set j (some (.int n))) (fr.widen fun p z => Own.set z) M2 (E2.set (.int n))
      | err x m => rw [e] at h; exact h
      | _ => rw [e] at h; exact h.elim
    have q := own_fin M E h'
    refine ⟨ρ, I, s, M, E, ?_⟩
    cases e : f s with
    | err x m => rw [e] at q; exact q
    | stuck => rw [e] at q; exact q
    | ok o s2 =>
      rw [e] at q
      intro ρ' I' H' p fr M2 E2 r ni nr no hn
      exact ⟨_, _, rfl, q ρ' I' H' p fr M2 E2 r ni nr no hn⟩
end
end PM
end

section
set_option Elab.async false
set_option linter.all false
set_option maxRecDepth 100000
set_option maxHeartbeats 2000000
/-! PM21: the test of an if-expression. -/
namespace PM
open PySem PySem.Spec PyProof.Rows L2
variable [PWc]
section
variable {X : Cx} {W : XK} {pos : Pos}
def tIfT (t ta tb : TT) : TT := fun σ H Q => t σ H fun c H1 => if c = true then ta σ H1 Q else tb σ H1 Q
theorem pt_if {c a b : Expr} {t ta tb : TT} (hc : PT X c t) (ha : PT X a ta) (hb : PT X b tb) : PT X (.IfExp c a b pos) (tIfT t ta tb) := by
  refine ⟨fun pins s σ H Q I h => ?_⟩
  have e : PySem.isTrue (.IfExp c a b pos) X.env (eval (.IfExp c a b pos) X.env) = (do
      if ← PySem.isTrue c X.env (eval c X.env) then PySem.isTrue a X.env (eval a X.env) else PySem.isTrue b X.env (eval b X.env)) := by rw [PySem.isTrue]
  rw [e]
  refine wpAny_bind (wpAny_mono (hc.run pins s σ H _ I h) (fun k s1 hk => ?_) fun _ _ z => z)
  obtain ⟨H1, I1, q⟩ := hk
  cases k with
  | true => exact ha.run pins s1 σ H1 Q I1 q
  | false => exact hb.run pins s1 σ H1 Q I1 q
def tIfD (c a b : S → R Bool) (s : S) : R Bool := (c s).bind fun k s => if k = true then a s else b s
theorem t_ifE {c a b : Expr} {gc ga gb : S → R Bool} (hc : PTd X W gc c) (ha : PTd X W ga a) (hb : PTd X W gb b) : PTd X W (tIfD gc ga gb) (.IfExp c a b pos) := by
  refine PT.imp (pt_if hc ha hb) fun σ H Q h => ?_
  obtain ⟨ρ, I, s, M, E, h⟩ := h
  refine dG.bind M E h fun k s1 ρ1 I1 H1 v M1 E1 r _ h => ?_
  subst r
  cases k with
  | true => exact iteT ⟨ρ1, I1, s1, M1, E1, h⟩
  | false => exact iteF ⟨ρ1, I1, s1, M1, E1, h⟩
end
end PM
end

section
set_option Elab.async false
set_option linter.all false
set_option maxRecDepth 100000
/-! PM22: order of data, sorted, in over data, tuples that dict(..) may read. -/
namespace PM
open PySem PySem.Spec L2
variable [PWc]
/-- stable insertion -/
def ins {α : Type} (le : α → α → Bool) (a : α) : List α → List α
  | [] => [a]
  | b :: bs => if le a b = true then a :: b :: bs else b :: ins le a bs
def isort {α : Type} (le : α → α → Bool) : List α → List α
  | [] => []
  | a :: as => ins le a (isort le as)
theorem ins_mid {α : Type} {le : α → α → Bool} {a : α} : ∀ {l₁ l₂ : List α}, (∀ b ∈ l₁, le a b = false) → (∀ b ∈ l₂, le a b = true) → ins le a (l₁ ++ l₂) = l₁ ++ a :: l₂
  | [], [], _, _ => rfl
  | [], b :: l, _, h => by simp [ins, h b (List.mem_cons_self ..)]
  | c :: l₁, l₂, h, h2 => by
    have := ins_mid (l₁ := l₁) (fun b hb => h b (List.mem_cons_of_mem _ hb)) h2
    simp [ins, h c (List.mem_cons_self ..), this]
theorem isort_eq {α : Type} {le : α → α → Bool} (tr : ∀ a b c, le a b = true → le b c = true → le a c = true) (to : ∀ a b, (le a b || le b a) = true) : ∀ l : List α, l.mergeSort le = isort le l
  | [] => by simp [isort]
  | a :: l => by
    obtain ⟨l₁, l₂, h1, h2, h3⟩ := List.mergeSort_cons (le := le) tr to a l
    have ih := isort_eq tr to l
    rw [isort, ← ih, h2, h1]
    refine (ins_mid (fun b hb => by simpa using h3 b hb) fun b hb => ?_).symm
    have p := List.pairwise_mergeSort (le := le) tr to (a :: l)
    rw [h1, List.pairwise_append] at p
    have q := (List.pairwise_cons.mp p.2.1).1 b hb
    exact q
def pyOf (d : D) : PyData := (toPy d).getD .none
def dLe (a b : D) : Bool := !PySem.W.dataLt (pyOf b) (pyOf a)
theorem dLe_tr (a b c : D) (h : dLe a b = true) (g : dLe b c = true) : dLe a c = true := by
  unfold dLe PySem.W.dataLt at *
  cases e : PyProof.Rows.lexLt PyProof.Rows.itemOrd (PySem.W.keyToks (pyOf c)) (PySem.W.keyToks (pyOf a)) with
  | false => rfl
  | true =>
    rcases PyProof.Rows.lex_negTrans _ (PySem.W.keyToks (pyOf b)) _ e with q | q
    · rw [q] at g; cases g
    · rw [q] at h; cases h
theorem dLe_to (a b : D) : (dLe a b || dLe b a) = true := by
  unfold dLe PySem.W.dataLt
  cases e : PyProof.Rows.lexLt PyProof.Rows.itemOrd (PySem.W.keyToks (pyOf b)) (PySem.W.keyToks (pyOf a)) with
  | false => rfl
  | true =>
    cases e2 : PyProof.Rows.lexLt PyProof.Rows.itemOrd (PySem.W.keyToks (pyOf a)) (PySem.W.keyToks (pyOf b)) with
    | false => rfl
    | true =>
      have := PyProof.Rows.lex_trans _ _ _ e e2
      rw [PyProof.Rows.lex_irrefl] at this; cases this
def isNonP : PyData → Bool
  | .none => true
  | _ => false
def isTupP : PyData → Bool
  | .tuple (_ :: _) => true
  | _ => false
def isOthP : PyData → Bool
  | .none => false
  | .tuple _ => false
  | _ => true
/-- a < b -/
def ltTD (a b : D) : Option D := match toPy a, toPy b with
  | some x, some y => if PySem.W.alike x y = true ∧ isNonP x = false ∧ x.depth ≤ 60 then some (.bl (PySem.W.dataLt x y)) else none
  | _, _ => none
def lt2D (a b : D) : Option D := (ltD a b).or (ltTD a b)
/-- x in a tuple -/
def inTD (a b : D) : Option D := match b with
  | .tup xs => (match toPy a, toPyL xs with
    | some x, some ys => if (SeqAt.shaped x = true ∧ SeqAt.shaped (.tuple ys) = true) ∧ x.depth ≤ 60 then some (.bl (ys.any fun z => PyData.eqv z x)) else none
    | _, _ => none)
  | _ => none
def ninTD (a b : D) : Option D := match b with
  | .tup xs => (match toPy a, toPyL xs with
    | some x, some ys => if (SeqAt.shaped x = true ∧ SeqAt.shaped (.tuple ys) = true) ∧ x.depth ≤ 60 then some (.bl (!ys.any fun z => PyData.eqv z x)) else none
    | _, _ => none)
  | _ => none
def in2D (a b : D) : Option D := (inD a b).or (inTD a b)
def nin2D (a b : D) : Option D := (ninD a b).or (ninTD a b)
/-- sorted of a list of data -/
def sortOk (xs : List D) : Bool := match toPyL xs with
  | some ps => (ps.all fun x => ps.all fun y => PySem.W.alike x y) && ((ps.all isTupP || ps.all isOthP) && (ps.all fun x => decide (x.depth ≤ 40) && decide (xs.length ≤ sizeLine)))
  | none => false
def sortedD : List D → Option D
  | [.lst xs] => if sortOk xs = true then some (.lst (isort dLe xs)) else none
  | _ => none
/-- sorted of a dict whose keys are ints -/
def leI (a b : Int) : Bool := decide (a ≤ b)
def intKs : List Key → Option (List Int)
  | [] => some []
  | .inl i :: ks => (intKs ks).map (i :: ·)
  | _ => none
def sortedKD : List D → Option D
  | [.dct ks _] => (match intKs ks with
    | some is => if is.length < 64 then some (.lst ((isort leI is).map .int)) else none
    | none => none)
  | _ => none
def sorted2D (ds : List D) : Option D := (sortedD ds).or (sortedKD ds)
def tuplePD : List D → Option D
  | [.lst xs] => some (.ptp xs)
  | _ => none
section
variable {X : Cx} {W : XK} {pos : Pos}
theorem CallD.or {f : Value} {g g' : List D → Option D} (h : CallD X f g) (h' : CallD X f g') : CallD X f (fun a => (g a).or (g' a)) := CallD.by fun ds d e => by
  cases q : g ds with
  | some x => rw [q] at e; exact ⟨g, by rw [q]; exact e, h⟩
  | none => rw [q] at e; exact ⟨g', e, h'⟩
theorem o_ltT (hu : X.A.units + 64 < cLine) : OpD X (compareOp .Lt) ltTD := by
  intro pins s σ H x y v u Q J rx ry h
  obtain ⟨ρ, I, a, b, d, n, ra, rb, e, q⟩ := h
  unfold ltTD at e
  cases e1 : toPy a with
  | none => rw [e1] at e; cases e
  | some x1 =>
    cases e2 : toPy b with
    | none => rw [e1, e2] at e; cases e
    | some x2 =>
      rw [e1, e2] at e
      dsimp only at e
      split at e
      · rename_i hs; cases e
        obtain ⟨as, r1⟩ := Dp.reads J x1 x v (ra.dp e1) rx
        obtain ⟨bs, r2⟩ := Dp.reads J x2 y u (rb.dp e2) ry
        refine PySem.W.lt_data r1 r2 hs.1 (fun z => ?_) (by have := Nat.min_le_left x1.depth x2.depth; omega) ⟨.bl _, H, J, rfl, q I H _ (Ext.refl _ _) (.bl _)⟩
        rw [z] at hs; cases hs.2.1
      · cases e
theorem o_lt2 (hu : X.A.units + 64 < cLine) : OpD X (compareOp .Lt) lt2D := OpD.or o_lt (o_ltT hu)
theorem o_inT (hu : X.A.units + 64 < cLine) : OpD X (compareOp .In) inTD := by
  intro pins s σ H x y v u Q J rx ry h
  obtain ⟨ρ, I, a, b, d, n, ra, rb, e, q⟩ := h
  unfold inTD at e
  split at e
  · rename_i xs
    cases e1 : toPy a with
    | none => rw [e1] at e; cases e
    | some x1 =>
      cases e2 : toPyL xs with
      | none => rw [e1, e2] at e; cases e
      | some ys =>
        rw [e1, e2] at e
        dsimp only at e
        split at e
        · rename_i hs; cases e
          have e3 : toPy (.tup xs) = some (.tuple ys) := by show (toPyL xs).map PyData.tuple = _; rw [e2]; rfl
          obtain ⟨as, r1⟩ := Dp.reads J x1 x v (ra.dp e1) rx
          obtain ⟨bs, r2⟩ := Dp.reads J _ y u (rb.dp e3) ry
          exact SeqAt.in_tuple_reads r2 r1 (SeqAt.canLay_of_shaped hs.1.2) (SeqAt.canLay_of_shaped hs.1.1) (by have := Nat.min_le_right (PyData.depthAll ys) x1.depth; omega) ⟨.bl _, H, J, rfl, q I H _ (Ext.refl _ _) (.bl _)⟩
        · cases e
  · cases e
theorem o_ninT (hu : X.A.units + 64 < cLine) : OpD X (compareOp .NotIn) ninTD := by
  intro pins s σ H x y v u Q J rx ry h
  obtain ⟨ρ, I, a, b, d, n, ra, rb, e, q⟩ := h
  unfold ninTD at e
  split at e
  · rename_i xs
    cases e1 : toPy a with
    | none => rw [e1] at e; cases e
    | some x1 =>
      cases e2 : toPyL xs with
      | none => rw [e1, e2] at e; cases e
      | some ys =>
        rw [e1, e2] at e
        dsimp only at e
        split at e
        · rename_i hs; cases e
          have e3 : toPy (.tup xs) = some (.tuple ys) := by show (toPyL xs).map PyData.tuple = _; rw [e2]; rfl
          obtain ⟨as, r1⟩ := Dp.reads J x1 x v (ra.dp e1) rx
          obtain ⟨bs, r2⟩ := Dp.reads J _ y u (rb.dp e3) ry
          exact SeqAt.notIn_tuple_reads r2 r1 (SeqAt.canLay_of_shaped hs.1.2) (SeqAt.canLay_of_shaped hs.1.1) (by have := Nat.min_le_right (PyData.depthAll ys) x1.depth; omega) ⟨.bl _, H, J, rfl, q I H _ (Ext.refl _ _) (.bl _)⟩
        · cases e
  · cases e
theorem o_in2 (hu : X.A.units + 64 < cLine) : OpD X (compareOp .In) in2D := OpD.or (o_in hu) (o_inT hu)
theorem o_nin2 (hu : X.A.units + 64 < cLine) : OpD X (compareOp .NotIn) nin2D := OpD.or (o_nin hu) (o_ninT hu)
theorem pyL_mem : ∀ {xs : List D} {ps : List PyData}, toPyL xs = some ps → ∀ d ∈ xs, toPy d = some (pyOf d) ∧ pyOf d ∈ ps
  | [], _, _, d, h => nomatch h
  | x :: xs, ps, e, d, h => by
    have e' : (match toPy x, toPyL xs with
      | some y, some ys => some (y :: ys)
      | _, _ => none) = some ps := e
    cases e1 : toPy x with
    | none => rw [e1] at e'; cases e'
    | some y =>
      cases e2 : toPyL xs with
      | none => rw [e1, e2] at e'; cases e'
      | some ys =>
        rw [e1, e2] at e'
        cases e'
        rcases List.mem_cons.mp h with rfl | h
        · have : pyOf d = y := by unfold pyOf; rw [e1]; rfl
          rw [this]
          exact ⟨e1, List.mem_cons_self ..⟩
        · obtain ⟨a, b⟩ := pyL_mem e2 d h
          exact ⟨a, List.mem_cons_of_mem _ b⟩
theorem sort_facts {xs : List D} (h : sortOk xs = true) : (∀ d ∈ xs, toPy d = some (pyOf d)) ∧ (∀ d ∈ xs, ∀ e ∈ xs, PySem.W.alike (pyOf d) (pyOf e) = true) ∧ ((∀ d ∈ xs, isTupP (pyOf d) = true) ∨ ∀ d ∈ xs, isOthP (pyOf d) = true) ∧ (∀ d ∈ xs, (pyOf d).depth ≤ 40) := by
  unfold sortOk at h
  cases e : toPyL xs with
  | none => rw [e] at h; cases h
  | some ps =>
    rw [e] at h
    simp only [Bool.and_eq_true, Bool.or_eq_true, List.all_eq_true, decide_eq_true_eq] at h
    obtain ⟨h1, h2, h3⟩ := h
    have m := pyL_mem e
    exact ⟨fun d hd => (m d hd).1, fun d hd e he => h1 _ (m d hd).2 _ (m e he).2, h2.imp (fun h d hd => h _ (m d hd).2) (fun h d hd => h _ (m d hd).2), fun d hd => (h3 _ (m d hd).2).1⟩
theorem isTupP_ok {x : PyData} (h : isTupP x = true) : ∃ y r, x = .tuple (y :: r) := by
  cases x with
  | tuple xs => cases xs with
    | nil => cases h
    | cons y r => exact ⟨y, r, rfl⟩
  | _ => cases h
theorem isOthP_ok {x : PyData} (h : isOthP x = true) : x ≠ .none ∧ ∀ xs, x ≠ .tuple xs := by
  cases x <;> first | (cases h; done) | exact ⟨(fun z => nomatch z), (fun _ z => nomatch z)⟩
/-- the items of a list, each with its value and its data -/
theorem each_of {pins : List (Addr × Obj)} {σ : St} {H : Hp} {s : Shared} {ρ : List Addr} {I : Addr → Prop} (J : Inv X pins σ H s) : ∀ {xs : List D} {ys : List V} {us : List Value}, RelL X.K ρ I H xs ys → Vals ys us → (∀ d ∈ xs, toPy d = some (pyOf d)) →
    PySem.W.EachIs (fun u (b : D × V) => RelV b.2 u ∧ Rel X.K ρ I H b.1 b.2) us (xs.zip ys) ∧ PySem.W.EachIs (fun u (b : D × V) => ∃ as, Reads s.heap u (pyOf b.1) as) us (xs.zip ys)
  | _, _, _, .nil, .nil, _ => ⟨.nil, .nil⟩
  | _, _, _, .cons (d := d) r1 r2, .cons q1 q2, h => by
    obtain ⟨a, b⟩ := each_of J r2 q2 fun e he => h e (List.mem_cons_of_mem _ he)
    exact ⟨.cons ⟨q1, r1⟩ a, .cons (Dp.reads J _ _ _ (r1.dp (h d (List.mem_cons_self ..))) q1) b⟩
theorem each_back {K : KF} {ρ : List Addr} {I : Addr → Prop} {H : Hp} : ∀ {us : List Value} {bs : List (D × V)}, PySem.W.EachIs (fun u (b : D × V) => RelV b.2 u ∧ Rel K ρ I H b.1 b.2) us bs → Vals (bs.map (·.2)) us ∧ RelL K ρ I H (bs.map (·.1)) (bs.map (·.2))
  | _, _, .nil => ⟨.nil, .nil⟩
  | _, _, .cons a b => let ⟨p, q⟩ := each_back b; ⟨.cons a.1 p, .cons a.2 q⟩
theorem zip_fst {α β : Type} : ∀ {xs : List α} {ys : List β}, xs.length = ys.length → (xs.zip ys).map (·.1) = xs
  | [], [], _ => rfl
  | x :: xs, y :: ys, h => by simp [zip_fst (xs := xs) (ys := ys) (by simpa using h)]
  | [], _ :: _, h => by simp at h
  | _ :: _, [], h => by simp at h
theorem mem_zip_fst {α β : Type} {xs : List α} {ys : List β} {b : α × β} (h : b ∈ xs.zip ys) : b.1 ∈ xs := (List.of_mem_zip (a := b.1) (b := b.2) h).1
theorem srt_map (bs : List (D × V)) : (bs.mergeSort (PySem.W.dataLe false fun (b : D × V) => pyOf b.1)).map (·.1) = isort dLe (bs.map (·.1)) := by
  rw [← isort_eq dLe_tr dLe_to]
  exact List.map_mergeSort (r := PySem.W.dataLe false fun (b : D × V) => pyOf b.1) (s := dLe) fun a _ b _ => rfl
theorem c_sortedL (hu : X.A.units + 64 < cLine) : CallD X (.builtin "sorted") sortedD := by
  intro pins s σ H xs us Q J r h
  obtain ⟨ρ, I, ds, d, n, ra, e, q⟩ := h
  unfold sortedD at e
  split at e
  · rename_i zs
    split at e
    · rename_i hs
      cases e
      obtain ⟨v, rfl, r1⟩ := ra.one
      cases r1 with
      | @lst _ p ys hi r2 =>
        obtain ⟨u, rfl, ru⟩ := vals1 r
        cases ru
        obtain ⟨its, rv, pl, hz⟩ := J.list hi.sq
        obtain ⟨f1, f2, f3, f4⟩ := sort_facts hs
        obtain ⟨e1, e2⟩ := each_of J r2 rv f1
        have ll := r2.length
        have lz : (zs.zip ys).length = ys.length := by rw [List.length_zip, ll, Nat.min_self]
        refine PySem.W.sorted_data (β := D × V) (enc := fun b => pyOf b.1) (bs := zs.zip ys) pl.isList e1 e2 ?_ ?_ (by rw [lz]; exact hz) (fun b hb => ?_) fun out ho eo => ?_
        · intro d hd d' hd'
          obtain ⟨b, hb, rfl⟩ := List.mem_map.mp hd
          obtain ⟨b', hb', rfl⟩ := List.mem_map.mp hd'
          exact f2 _ (mem_zip_fst hb) _ (mem_zip_fst hb')
        · refine f3.imp (fun g d hd => ?_) (fun g d hd => ?_)
          · obtain ⟨b, hb, rfl⟩ := List.mem_map.mp hd
            exact isTupP_ok (g _ (mem_zip_fst hb))
          · obtain ⟨b, hb, rfl⟩ := List.mem_map.mp hd
            exact isOthP_ok (g _ (mem_zip_fst hb))
        · have := f4 _ (mem_zip_fst hb)
          show X.A.units + 2 + (pyOf b.1).depth < cLine
          omega
        · obtain ⟨ep, he'⟩ := PyProof.Rows.sortedAll_at s.heap its out.toArray
          obtain ⟨b1, b2⟩ := each_back eo
          rw [srt_map, zip_fst ll] at b2
          have hlen : (((zs.zip ys).mergeSort (PySem.W.dataLe false fun (b : D × V) => pyOf b.1)).map (·.2)).length ≤ sizeLine := by
            rw [List.length_map, List.length_mergeSort, lz]; exact hz
          have hn : H (s.heap.objs.size + 1) = none := J.hok.fresh (Nat.le_succ _)
          have x := Ext.new (I := I) (o := .lst (((zs.zip ys).mergeSort (PySem.W.dataLe false fun (b : D × V) => pyOf b.1)).map (·.2))) hn
          exact ⟨.ref _, upd H (s.heap.objs.size + 1) (.lst (((zs.zip ys).mergeSort (PySem.W.dataLe false fun (b : D × V) => pyOf b.1)).map (·.2))), J.laid (t' := s.toks) (fun _ _ => PyProof.Rows.sortedAll_old) (Nat.le_succ _) ⟨hlen, out, ep, b1, he'⟩, rfl, q _ _ _ x (.lst ⟨.inr rfl, upd_same⟩ (b2.ext x n))⟩
    · cases e
  · cases e
/-! sorted of a dict with int keys -/
theorem ins_perm {α : Type} (le : α → α → Bool) (a : α) : ∀ l : List α, (ins le a l).Perm (a :: l)
  | [] => .refl _
  | b :: bs => by
    unfold ins
    split
    · exact .refl _
    · exact ((ins_perm le a bs).cons b).trans (.swap a b bs)
theorem isort_perm {α : Type} (le : α → α → Bool) : ∀ l : List α, (isort le l).Perm l
  | [] => .refl _
  | a :: l => (ins_perm le a _).trans ((isort_perm le l).cons a)
theorem ins_sorted (a : Int) : ∀ l : List Int, l.Pairwise (· ≤ ·) → (ins leI a l).Pairwise (· ≤ ·)
  | [], _ => by simp [ins]
  | b :: bs, h => by
    unfold ins
    split
    · rename_i q
      have q : a ≤ b := by simpa [leI] using q
      refine List.pairwise_cons.mpr ⟨fun c hc => ?_, h⟩
      rcases List.mem_cons.mp hc with rfl | hc
      · exact q
      · exact Int.le_trans q ((List.pairwise_cons.mp h).1 c hc)
    · rename_i q
      have q : b ≤ a := by
        have : ¬ a ≤ b := by simpa [leI] using q
        omega
      refine List.pairwise_cons.mpr ⟨fun c hc => ?_, ins_sorted a bs (List.pairwise_cons.mp h).2⟩
      rcases List.mem_cons.mp ((ins_perm leI a bs).mem_iff.mp hc) with rfl | hc
      · exact q
      · exact (List.pairwise_cons.mp h).1 c hc
theorem isort_sorted : ∀ l : List Int, (isort leI l).Pairwise (· ≤ ·)
  | [] => .nil
  | a :: l => ins_sorted a _ (isort_sorted l)
theorem sorted_unique : ∀ {l m : List Int}, l.Perm m → l.Pairwise (· ≤ ·) → m.Pairwise (· ≤ ·) → l = m
  | [], m, p, _, _ => p.nil_eq
  | a :: l, [], p, _, _ => by have := p.length_eq; simp at this
  | a :: l, b :: m, p, h, g => by
    have ab : a = b := by
      have h1 : a ∈ b :: m := p.mem_iff.mp (List.mem_cons_self ..)
      have h2 : b ∈ a :: l := p.mem_iff.mpr (List.mem_cons_self ..)
      rcases List.mem_cons.mp h1 with rfl | h1
      · rfl
      · rcases List.mem_cons.mp h2 with rfl | h2
        · rfl
        · exact Int.le_antisymm ((List.pairwise_cons.mp h).1 b h2) ((List.pairwise_cons.mp g).1 a h1)
    subst ab
    rw [sorted_unique ((List.perm_cons a).mp p) (List.pairwise_cons.mp h).2 (List.pairwise_cons.mp g).2]
theorem intKs_ok : ∀ {ks : List Key} {is : List Int}, intKs ks = some is → ks = is.map Sum.inl
  | [], is, h => by cases h; rfl
  | .inl i :: ks, is, h => by
    have h : (intKs ks).map (i :: ·) = some is := h
    cases e : intKs ks with
    | none => rw [e] at h; cases h
    | some js => rw [e] at h; cases h; rw [intKs_ok e]; rfl
  | .inr _ :: _, _, h => by cases h
theorem rel_ints {K : KF} {ρ : List Addr} {I : Addr → Prop} {H : Hp} : ∀ l : List Int, RelL K ρ I H (l.map .int) (l.map V.int)
  | [] => .nil
  | i :: l => .cons (.int i) (rel_ints l)
theorem c_sortedK (hc : X.calm = true) : CallD X (.builtin "sorted") sortedKD := by
  intro pins s σ H xs us Q J r h
  obtain ⟨ρ, I, ds, d, n, ra, e, q⟩ := h
  unfold sortedKD at e
  split at e
  · rename_i ks vs
    cases e1 : intKs ks with
    | none => rw [e1] at e; cases e
    | some is =>
      rw [e1] at e
      dsimp only at e
      split at e
      · rename_i hl
        cases e
        obtain ⟨v, rfl, r1⟩ := ra.one
        cases r1 with
        | @dct vs p od kvs hi hH r2 =>
          refine call_sortedDI hc pins s σ H _ us Q J r ⟨p, kvs, is, rfl, .inr ⟨od, hH⟩, intKs_ok e1, hl, fun ys l pr so hn => ?_⟩
          have ey : ys = isort leI is := sorted_unique (pr.trans (isort_perm leI is).symm) so (isort_sorted is)
          have x := Ext.new (I := I) (o := .lst (ys.map V.int)) hn
          exact q _ _ _ x (by rw [← ey]; exact .lst ⟨.inr rfl, upd_same⟩ (rel_ints ys))
      · cases e
  · cases e
theorem c_sorted2 (hu : X.A.units + 64 < cLine) (hc : X.calm = true) : CallD X (.builtin "sorted") sorted2D := CallD.or (c_sortedL hu) (c_sortedK hc)
/-! tuple(..) of a list -/
theorem call_tupleP : CallR X (.type "tuple") (fun xs H Q => ∃ p ys, xs = [.ref p] ∧ SqL X.K H p ys ∧ ∀ l od, od.dict = none → H l = none → Q (.ref l) (upd H l (.frz od (.tup ys)))) := by
  intro pins s σ H xs us Q I r h
  obtain ⟨p, ys, rfl, hq, q⟩ := h
  obtain ⟨u, rfl, rx⟩ := vals1 r
  cases rx
  obtain ⟨its, r', pl, hz⟩ := I.list hq
  have hlen := r'.length
  refine PySem.call_tuple_list pl.isList (fun h' kp => ?_) (by simp only [List.size_toArray] <;> omega)
  have I1 : Inv X pins σ H { s with heap := h' } := I.kept (t' := s.toks) kp
  have I2 : Inv X pins σ (upd H h'.objs.size (.frz { cls := .type "tuple", data := .seq its.toArray } (.tup ys))) { s with heap := h'.push { cls := .type "tuple", data := .seq its.toArray } } :=
    I1.laid (t' := s.toks) (fun b o e => Heap.get?_push_of_some _ e) (Nat.le_refl _) (show ObjOk X.prog X.w _ _ _ (.frz _ (.tup ys)) from ⟨Heap.get?_push_size _ rfl, hz, its, r', PyProof.Rows.IsTup.new _ _⟩)
  exact ⟨.ref h'.objs.size, _, I2, rfl, q _ _ rfl (I1.hok.fresh (Nat.le_refl _))⟩
theorem c_tupleP : CallD X (.type "tuple") tuplePD := by
  intro pins s σ H xs us Q J r h
  obtain ⟨ρ, I, ds, d, n, ra, e, q⟩ := h
  unfold tuplePD at e
  split at e
  · cases e
    obtain ⟨v, rfl, r1⟩ := ra.one
    cases r1 with
    | @lst _ p ys hi r2 =>
      refine call_tupleP pins s σ H _ us Q J r ⟨p, ys, rfl, hi.sq, fun l od ho hl => ?_⟩
      have x := Ext.new (I := I) (o := .frz od (.tup ys)) hl
      exact q _ _ _ x (.ptp (.inr rfl) upd_same ho (r2.ext x n))
  · cases e
end
end PM
end

section
set_option Elab.async false
set_option linter.all false
set_option maxRecDepth 100000
/-! PM23: dicts whose keys are nested tuples. -/
namespace PM
open PySem PySem.Spec L2
variable [PWc]
/-- the world is the one that was told -/
def HW (X : Cx) : Prop := X.w = PWc.w
section
variable {K : KF} {ρ : List Addr} {I : Addr → Prop} {H : Hp}
structure KdR (K : KF) (ρ : List Addr) (I : Addr → Prop) (H : Hp) (ks vs : List D) (es : List KE) : Prop where
  r : RelL K ρ I H ks (es.map fun e => V.ref e.2.1)
  v : RelL K ρ I H vs (es.map (·.2.2))
  k : ks.map toKey = es.map (fun e => some e.1)
abbrev KPr (e : KE) (x : NestedKey × Addr × Value) : Prop := e.1 = x.1 ∧ e.2.1 = x.2.1 ∧ RelV e.2.2 x.2.2
abbrev KP (es : List KE) (xs : List (NestedKey × Addr × Value)) : Prop := Paired KPr es xs
def kdGet : List D → List D → NestedKey → Option D
  | k :: ks, v :: vs, a => if toKey k = some a then some v else kdGet ks vs a
  | _, _, _ => none
def kdPutK : List D → D → NestedKey → List D
  | [], k, _ => [k]
  | k' :: ks, k, a => if toKey k' = some a then k' :: ks else k' :: kdPutK ks k a
def kdPutV : List D → List D → NestedKey → D → List D
  | k' :: ks, v' :: vs, a, d => if toKey k' = some a then d :: vs else v' :: kdPutV ks vs a d
  | _, _, _, d => [d]
def putE : List KE → NestedKey → Addr → V → List KE
  | [], a, p, v => [(a, p, v)]
  | e :: es, a, p, v => if e.1 = a then (e.1, e.2.1, v) :: es else e :: putE es a p v
theorem putE_len (a : NestedKey) (p : Addr) (v : V) : ∀ es : List KE, (putE es a p v).length ≤ es.length + 1
  | [] => by simp [putE]
  | e :: es => by
    unfold putE
    have := putE_len a p v es
    split <;> simp <;> omega
theorem putE_mem {a : NestedKey} {p : Addr} {v : V} {P : NestedKey → Prop} (ha : P a) : ∀ {es : List KE}, (∀ e ∈ es, P e.1) → ∀ e ∈ putE es a p v, P e.1
  | [], _, e, h => by simp [putE] at h; subst h; exact ha
  | e0 :: es, h, e, he => by
    unfold putE at he
    split at he
    · rcases List.mem_cons.mp he with rfl | he
      · exact h e0 (List.mem_cons_self ..)
      · exact h e (List.mem_cons_of_mem _ he)
    · rcases List.mem_cons.mp he with rfl | he
      · exact h e (List.mem_cons_self ..)
      · exact putE_mem ha (fun e he => h e (List.mem_cons_of_mem _ he)) e he
theorem kp_keys : ∀ {es : List KE} {xs : List (NestedKey × Addr × Value)}, KP es xs → es.map (·.1) = xs.map (·.1)
  | _, _, .nil => rfl
  | _, _, .cons h t => by rw [List.map_cons, List.map_cons, h.1, kp_keys t]
theorem kp_put {a : NestedKey} {p : Addr} {v : V} {u : Value} (rv : RelV v u) : ∀ {es : List KE} {xs : List (NestedKey × Addr × Value)}, KP es xs → (xs.map (·.1)).Nodup → KP (putE es a p v) (storedH xs a p u)
  | _, _, .nil, _ => by
    have : storedH ([] : List (NestedKey × Addr × Value)) a p u = [(a, p, u)] := rfl
    rw [this]; exact .cons ⟨rfl, rfl, rv⟩ .nil
  | _, _, .cons (a := e) (b := x) (l₁ := es) (l₂ := xs) h t, nd => by
    rw [List.map_cons, List.nodup_cons] at nd
    by_cases q : e.1 = a
    · have q' : x.1 = a := h.1.symm.trans q
      have e1 : putE (e :: es) a p v = (e.1, e.2.1, v) :: es := by simp [putE, q]
      have e2 : storedH (x :: xs) a p u = (x.1, x.2.1, u) :: xs := by
        have hs : atKey (x :: xs) a = some x.2 := by simp [atKey, q']
        rw [storedH_old hs, List.map_cons, map_putAt_of_not_mem xs a u (by rw [← q']; exact nd.1)]
        simp [putAt, q']
      rw [e1, e2]
      exact .cons ⟨h.1, h.2.1, rv⟩ t
    · have q' : ¬ x.1 = a := fun z => q (h.1.trans z)
      have e1 : putE (e :: es) a p v = e :: putE es a p v := by simp [putE, q]
      have e2 : storedH (x :: xs) a p u = x :: storedH xs a p u := by
        unfold storedH
        have e3 : atKey (x :: xs) a = atKey xs a := by simp [atKey, q']
        rw [e3]
        split
        · rw [List.map_cons]; congr 1; unfold putAt; rw [if_neg q']
        · rfl
      rw [e1, e2]
      exact .cons h (kp_put rv t nd.2)
theorem nodup_put {a : NestedKey} {p : Addr} {v : V} : ∀ {es : List KE}, (es.map (·.1)).Nodup → ((putE es a p v).map (·.1)).Nodup
  | [], _ => by simp [putE]
  | e :: es, h => by
    rw [List.map_cons, List.nodup_cons] at h
    unfold putE
    split
    · rw [List.map_cons, List.nodup_cons]; exact h
    · rename_i q
      rw [List.map_cons, List.nodup_cons]
      refine ⟨fun z => ?_, nodup_put h.2⟩
      obtain ⟨e', he', ee⟩ := List.mem_map.mp z
      have := putE_mem (p := p) (v := v) (P := fun k => k = a ∨ k ∈ es.map (·.1)) (.inl rfl) (es := es) (fun e he => .inr (List.mem_map.mpr ⟨e, he, rfl⟩)) e' he'
      rcases this with w | w
      · exact q (ee.symm.trans w)
      · exact h.1 (by rw [← ee]; exact w)
theorem KdR.put {k d : D} {kb : Addr} {a : NestedKey} {v : V} (rk : Rel K ρ I H k (.ref kb)) (ek : toKey k = some a) (rd : Rel K ρ I H d v) : ∀ {ks vs : List D} {es : List KE}, KdR K ρ I H ks vs es → KdR K ρ I H (kdPutK ks k a) (kdPutV ks vs a d) (putE es a kb v)
  | [], vs, [], h => by
    cases vs with
    | nil => exact ⟨.cons rk .nil, .cons rd .nil, by simp [kdPutK, putE, ek]⟩
    | cons => exact nomatch h.v
  | k' :: ks, [], e :: es, h => nomatch h.v
  | k' :: ks, v' :: vs, e :: es, h => by
    obtain ⟨hr, hv, hk⟩ := h
    cases hr with
    | cons a1 a2 =>
      cases hv with
      | cons b1 b2 =>
        simp only [List.map_cons, List.cons.injEq] at hk
        obtain ⟨k1, k2⟩ := hk
        by_cases q : e.1 = a
        · have q' : toKey k' = some a := by rw [k1, q]
          have z1 : kdPutK (k' :: ks) k a = k' :: ks := by simp [kdPutK, q']
          have z2 : kdPutV (k' :: ks) (v' :: vs) a d = d :: vs := by simp [kdPutV, q']
          have z3 : putE (e :: es) a kb v = (e.1, e.2.1, v) :: es := by simp [putE, q]
          rw [z1, z2, z3]
          exact ⟨.cons a1 a2, .cons rd b2, by simp [k1, k2]⟩
        · have q' : ¬ toKey k' = some a := by rw [k1]; simpa using q
          have z1 : kdPutK (k' :: ks) k a = k' :: kdPutK ks k a := by simp [kdPutK, q']
          have z2 : kdPutV (k' :: ks) (v' :: vs) a d = v' :: kdPutV ks vs a d := by simp [kdPutV, q']
          have z3 : putE (e :: es) a kb v = e :: putE es a kb v := by simp [putE, q]
          rw [z1, z2, z3]
          obtain ⟨c1, c2, c3⟩ := KdR.put rk ek rd ⟨a2, b2, k2⟩
          exact ⟨.cons a1 c1, .cons b1 c2, by simp [k1, c3]⟩
  | [], _, _ :: _, h => nomatch h.r
  | _ :: _, _, [], h => nomatch h.r
theorem KdR.get {a : NestedKey} : ∀ {ks vs : List D} {es : List KE} {xs : List (NestedKey × Addr × Value)}, KdR K ρ I H ks vs es → KP es xs →
    (∀ d, kdGet ks vs a = some d → ∃ u v, (atKey xs a).map (·.2) = some u ∧ RelV v u ∧ Rel K ρ I H d v) ∧ (kdGet ks vs a = none → atKey xs a = none)
  | [], _, [], _, _, .nil => ⟨(fun _ h => nomatch h), (fun _ => rfl)⟩
  | k' :: ks, [], e :: es, _, h, _ => nomatch h.v
  | k' :: ks, v' :: vs, e :: es, x :: xs, ⟨hr, hv, hk⟩, .cons p t => by
    cases hr with
    | cons a1 a2 =>
      cases hv with
      | cons b1 b2 =>
        simp only [List.map_cons, List.cons.injEq] at hk
        obtain ⟨k1, k2⟩ := hk
        by_cases q : e.1 = a
        · have q' : toKey k' = some a := by rw [k1, q]
          have q2 : x.1 = a := p.1.symm.trans q
          have z1 : kdGet (k' :: ks) (v' :: vs) a = some v' := by simp [kdGet, q']
          have z2 : atKey (x :: xs) a = some x.2 := by simp [atKey, q2]
          rw [z1, z2]
          exact ⟨(fun d e => by cases e; exact ⟨_, _, rfl, p.2.2, b1⟩), (fun e => nomatch e)⟩
        · have q' : ¬ toKey k' = some a := by rw [k1]; simpa using q
          have q2 : ¬ x.1 = a := fun z => q (p.1.trans z)
          have z1 : kdGet (k' :: ks) (v' :: vs) a = kdGet ks vs a := by simp [kdGet, q']
          have z2 : atKey (x :: xs) a = atKey xs a := by simp [atKey, q2]
          rw [z1, z2]
          exact KdR.get ⟨a2, b2, k2⟩ t
  | [], _, _ :: _, _, h, _ => nomatch h.r
  | _ :: _, _, [], _, h, _ => nomatch h.r
theorem KdR.lat {ρ' : List Addr} {I' : Addr → Prop} {H' : Hp} {ks vs : List D} {es : List KE} (h : KdR K ρ I H ks vs es) (l : Lat ρ I H ρ' I' H') : KdR K ρ' I' H' ks vs es := ⟨h.r.lat l, h.v.lat l, h.k⟩
end
section
variable {X : Cx} {pins : List (Addr × Obj)} {σ : St} {H : Hp} {s : Shared} {ρ : List Addr} {I : Addr → Prop}
mutual
theorem Rel.nested (J : Inv X pins σ H s) : ∀ {d : D} {v : V} {u : Value} {k : NestedKey}, Rel X.K ρ I H d v → RelV v u → toKey d = some k → NestedIs s.heap k u
  | .non, _, _, _, .non, rv, e => by cases e; cases rv; exact .none
  | .bl b, _, _, _, .bl _, rv, e => by cases e; cases rv; exact .bool rfl
  | .int i, _, _, _, .int _, rv, e => by cases e; obtain ⟨t, rfl⟩ := rv; exact .int i t
  | .str x, _, _, _, .str _, rv, e => by cases e; obtain ⟨t, rfl⟩ := rv; exact .text x t
  | .tup ds, _, _, _, .tup hi r, rv, e => by
    have e : (toKeyL ds).map NestedKey.tup = some _ := e
    cases e1 : toKeyL ds with
    | none => rw [e1] at e; cases e
    | some ks =>
      rw [e1] at e; cases e
      cases rv
      obtain ⟨its, r', ⟨o, ho, hc, n, hd⟩, hz⟩ := J.tuple hi.sq
      exact .tup ho hc hd (by simpa using RelL.nested J r r' e1)
  | .ptp _, _, _, _, _, _, e => by cases e
  | .lst _, _, _, _, _, _, e => by cases e
  | .frz _, _, _, _, _, _, e => by cases e
  | .dct _ _, _, _, _, _, _, e => by cases e
  | .kdt _ _, _, _, _, _, _, e => by cases e
  | .ref _, _, _, _, _, _, e => by cases e
theorem RelL.nested (J : Inv X pins σ H s) : ∀ {ds : List D} {vs : List V} {us : List Value} {ks : List NestedKey}, RelL X.K ρ I H ds vs → Vals vs us → toKeyL ds = some ks → NestedAll s.heap ks us
  | [], _, _, _, .nil, .nil, e => by cases e; exact .nil
  | d :: ds, _, _, _, .cons r1 r2, .cons q1 q2, e => by
    have e : (match toKey d, toKeyL ds with
      | some x, some xs => some (x :: xs)
      | _, _ => none) = some _ := e
    cases e1 : toKey d with
    | none => rw [e1] at e; cases e
    | some x =>
      cases e2 : toKeyL ds with
      | none => rw [e1, e2] at e; cases e
      | some xs => rw [e1, e2] at e; cases e; exact .cons (Rel.nested J r1 q1 e1) (RelL.nested J r2 q2 e2)
end
theorem ent_eq (hw : HW X) : entryOfKey (nestedKind PWc.P PWc.w) = entryOfKey (nestedKind X.prog X.w) := by
  funext x
  show DictEntry.mk (x.1.hash PWc.w) _ _ = DictEntry.mk (x.1.hash X.w) _ _
  rw [show X.w = PWc.w from hw]
/-- what stands at a dict with nested keys -/
structure KdAt (X : Cx) (s : Shared) (p : Addr) (es : List KE) (xs : List (NestedKey × Addr × Value)) : Prop where
  len : es.length ≤ sizeLine
  sys : (p == sysModules) = false
  dep : ∀ e ∈ es, e.1.depth ≤ 8
  kp : KP es xs
  d : s.heap.DictOfH (nestedKind X.prog X.w) p xs
theorem kd_is (J : Inv X pins σ H s) : ∀ {ks vs : List D} {es : List KE} {xs : List (NestedKey × Addr × Value)}, KdR X.K ρ I H ks vs es → KP es xs → ∀ x ∈ xs, NestedIs s.heap x.1 (.ref x.2.1)
  | [], _, [], _, _, .nil, x, hx => nomatch hx
  | k' :: ks, [], e :: es, _, h, _, _, _ => nomatch h.v
  | k' :: ks, v' :: vs, e :: es, y :: xs, ⟨hr, hv, hk⟩, .cons p t, x, hx => by
    cases hr with
    | cons a1 a2 =>
      cases hv with
      | cons b1 b2 =>
        simp only [List.map_cons, List.cons.injEq] at hk
        obtain ⟨k1, k2⟩ := hk
        rcases List.mem_cons.mp hx with rfl | hx
        · have := Rel.nested J a1 (u := .ref e.2.1) rfl k1
          rw [← p.1, ← p.2.1]; exact this
        · exact kd_is J ⟨a2, b2, k2⟩ t x hx
  | [], _, _ :: _, _, h, _, _, _ => nomatch h.r
  | _ :: _, _, [], _, h, _, _, _ => nomatch h.r
theorem kd_of {p : Addr} {es : List KE} {ks vs : List D} (hw : HW X) (J : Inv X pins σ H s) (h : Rd H p (kdO p es)) (r : KdR X.K ρ I H ks vs es) : ∃ xs, KdAt X s p es xs := by
  obtain ⟨⟨z, y, dp, xs, kp, o, es', ep, ho, hx, hd, he, hn⟩, _⟩ := (show ObjOk X.prog X.w H s.heap p (kdO p es) from h.ok J.hok)
  rw [ent_eq hw] at he
  refine ⟨xs, z, y, dp, kp, o, es', ep, ho, hx, hd, he, fun x hx => ⟨kd_is J r kp x hx, ?_⟩, hn⟩
  obtain ⟨i, hi⟩ := List.mem_iff_getElem?.mp hx
  have km := congrArg (fun l => l[i]?) (kp_keys kp)
  simp only [List.getElem?_map, hi, Option.map_some] at km
  cases q : es[i]? with
  | none => rw [q] at km; cases km
  | some e =>
    rw [q] at km
    have km : some e.1 = some x.1 := km
    have km := Option.some.inj km
    rw [← km]
    exact dp e (List.mem_of_getElem? q)
theorem kd_ok {H' : Hp} {h' : Heap} {p : Addr} {es : List KE} {xs : List (NestedKey × Addr × Value)} (hw : HW X) (z : es.length ≤ sizeLine) (y : (p == sysModules) = false) (dp : ∀ e ∈ es, e.1.depth ≤ 8) (kp : KP es xs) (d : h'.DictOfH (nestedKind X.prog X.w) p xs) : ObjOk X.prog X.w H' h' p (kdO p es) := by
  obtain ⟨o, es', ep, ho, hx, hd, he, _, hn⟩ := d
  rw [← ent_eq hw] at he
  refine ⟨⟨z, y, dp, xs, kp, o, es', ep, ho, hx, hd, he, hn⟩, ⟨o, ho⟩, fun h1 h2 q k => ?_⟩
  obtain ⟨z, y, dp, xs, kp, o, es', ep, ho, r⟩ := q
  exact ⟨z, y, dp, xs, kp, o, es', ep, k o ho, r⟩
end
theorem room8 {A : Around} (hu : A.units + 64 < cLine) {P : Program} {w : World} : (nestedKind P w).room A.in1 := by
  show A.units + 1 + 8 < cLine
  omega
theorem room9 {A : Around} (hu : A.units + 64 < cLine) {P : Program} {w : World} : (nestedKind P w).room A.in1.in1 := by
  show A.units + 1 + 1 + 8 < cLine
  omega
/-! ### {} -/
section
variable {X : Cx} {W : XK} {pos : Pos}
def fKdt0 (s : S) : R MO := .ok (.kdt [] []) s
theorem pe_dnewE (hw : HW X) : PE X (.Dict [] [] pos) (fun _ H Q => ∀ p, H p = none → Q (.ref p) (upd H p (kdO p []))) := ⟨fun pins s σ H Q I h =>
  wpAny_Dict_empty ⟨.ref s.heap.objs.size, _, I.laid (a := s.heap.objs.size) (o := kdO s.heap.objs.size []) (t' := s.toks) (fun _ _ q => Heap.get?_push_of_some _ q) (Nat.le_refl _)
    (kd_ok hw (Nat.zero_le _) (beq_eq_false_iff_ne.mpr (Ne.symm (Nat.ne_of_lt I.big))) (fun _ h => nomatch h) .nil (Heap.DictOfH.new s.heap)), rfl, h _ (I.hok.fresh (Nat.le_refl _))⟩⟩
theorem f_kdt0 (hw : HW X) : PFd X W fKdt0 (.Dict [] [] pos) :=
  PE.imp (pe_dnewE hw) fun σ H Q ⟨ρ, I, s, M, E, h⟩ => fun p hp => h.here M E hp ⟨[], upd_same, .nil, .nil, rfl⟩
/-! ### x[k] = v, x owns the dict -/
def isTupD : D → Bool
  | .tup _ => true
  | _ => false
def kdSet (ks vs : List D) (k d : D) : Option (List D × List D) := match toKey k with
  | some a => if isTupD k = true ∧ a.depth ≤ 8 ∧ ks.length < sizeLine then some (kdPutK ks k a, kdPutV ks vs a d) else none
  | none => none
def ownK (e : List (Option Cell)) (i : Nat) : Option (List D × List D) := match e[i]? with
  | some (some (.own (.kdt ks vs))) => some (ks, vs)
  | _ => none
theorem ownK_of {e : List (Option Cell)} {i : Nat} {q : List D × List D} (h : ownK e i = some q) : e[i]? = some (some (.own (.kdt q.1 q.2))) := by
  unfold ownK at h
  split at h
  · rename_i w; cases h; exact w
  · cases h
def sKPut (i : Nat) (fk fv : S → R D) (s : S) : Rs := (fv s).stm fun d s => match ownK s.env i with
  | none => .stuck
  | some _ => (fk s).stm fun k s => match ownK s.env i with
    | none => .stuck
    | some (ks, vs) => match kdSet ks vs k d with
      | some (ks', vs') => .next { s with env := s.env.set i (some (.own (.kdt ks' vs'))) }
      | none => .stuck
def tKPut (X : Cx) (i : Nat) (ty tv : TE) : TS := fun De σ H => tv σ H fun v H1 => ∃ p, σ[i]? = some (some (.ref p)) ∧ ty σ H1 fun y H2 => ∃ (ρ : List Addr) (I : Addr → Prop) (es : List KE) (ks vs : List D) (k : D) (a : NestedKey) (kb : Addr),
  H2 p = some (kdO p es) ∧ KdR X.K ρ I H2 ks vs es ∧ y = .ref kb ∧ Rel X.K ρ I H2 k (.ref kb) ∧ toKey k = some a ∧ a.depth ≤ 8 ∧ es.length < sizeLine ∧ De.nx σ (upd H2 p (kdO p (putE es a kb v)))
theorem ps_kput {i : Nat} {x : Str} {p0 pos' : Pos} {ki value : Expr} {ty tv : TE} (hw : HW X) (hu : X.A.units + 64 < cLine) (hN : X.N[i]? = some x) (hv : Vis X.env.scope x) (hi : PE X ki ty) (hval : PE X value tv) (hs : swapsWith value (some (.Subscript (.Name x p0) ki pos')) pos.line X.env = pure false)
    (hd : (x == ("__debug__" : Str)) = false := by decide) (hcd : (x == ("__classdict__" : Str)) = false := by decide) : PS X (.Assign [.Subscript (.Name x p0) ki pos'] value pos) (tKPut X i ty tv) := by
  have ho : PE X (.Name x p0) (tVar i) := pe_var hN hv hd hcd
  refine ⟨fun pins s σ H De J h => ?_⟩
  refine wpAny_Assign_Subscript (thn (hval.run pins s σ H _ J h) fun r s1 ⟨v, H1, J1, rv, p, hp, q1⟩ => thn (ho.run pins s1 σ H1 (fun x H' => x = .ref p ∧ H' = H1) J1 ⟨.ref p, hp, rfl, rfl⟩) fun u s2 ⟨x, H2, J2, rx, ex, eH⟩ => ?_) hs
  subst ex eH
  obtain rfl : u = Value.ref p := rx
  refine thn (hi.run pins s2 σ H2 _ J2 q1) fun iv s3 ⟨y, H3, J3, ry, ρ, I, es, ks, vs, k, a, kb, hH, kr, ey, rk, ek, dk, hl, q3⟩ => ?_
  subst ey
  obtain rfl : iv = Value.ref kb := ry
  obtain ⟨xs, kd⟩ := kd_of hw J3 (.inl hH) kr
  have hz : xs.length ≤ sizeLine := by rw [← Paired.length kd.kp]; exact kd.len
  refine wpAny_setItem_heap (knd := nestedKind X.prog X.w) (hsz := hz) (room8 hu) (⟨Rel.nested J3 rk rfl ek, dk⟩ : (nestedKind X.prog X.w).is s3.heap a kb) kd.d fun h' dd' hs => ⟨σ, _, ?_, q3⟩
  have he : ∃ q, h'.get? p = some q := let ⟨q, _, _, hq, _⟩ := dd'; ⟨q, hq⟩
  have hn : (xs.map (·.1)).Nodup := let ⟨_, _, _, _, _, _, _, _, hn⟩ := kd.d; hn
  exact d_write J3 (by rw [hH]; exact True.intro) hs he (kd_ok hw (Nat.le_trans (putE_len ..) hl) kd.sys (putE_mem (P := fun k => k.depth ≤ 8) dk kd.dep) (kp_put rv kd.kp hn) dd')
theorem KdR.len {K : KF} {ρ : List Addr} {I : Addr → Prop} {H : Hp} {ks vs : List D} {es : List KE} (r : KdR K ρ I H ks vs es) : ks.length = es.length := by rw [r.r.length, List.length_map]
theorem isTupD_ref {K : KF} {ρ : List Addr} {I : Addr → Prop} {H : Hp} {k : D} {v : V} (r : Rel K ρ I H k v) (h : isTupD k = true) : ∃ b, v = .ref b := by
  cases r <;> first | (cases h; done) | exact ⟨_, rfl⟩
theorem s_kput {i : Nat} {x : Str} {p0 pos' : Pos} {ki value : Expr} {fk fv : S → R D} (hw : HW X) (hu : X.A.units + 64 < cLine) (hN : X.N[i]? = some x) (hv : Vis X.env.scope x) (hi : PEd X W fk ki) (hval : PEd X W fv value)
    (hs : swapsWith value (some (.Subscript (.Name x p0) ki pos')) pos.line X.env = pure false := by rfl) (hd : (x == ("__debug__" : Str)) = false := by decide) (hcd : (x == ("__classdict__" : Str)) = false := by decide) :
    PSd X W (sKPut i fk fv) (.Assign [.Subscript (.Name x p0) ki pos'] value pos) := by
  refine PS.imp (ps_kput hw hu hN hv hi hval hs hd hcd) fun De σ H ⟨ρ, I, s, M, E, h⟩ => ?_
  refine dG.stm M E h fun d s1 ρ1 I1 H1 v f1 M1 E1 r1 h => ?_
  cases e1 : ownK s1.env i with
  | none => rw [e1] at h; exact h.elim
  | some q1 =>
    rw [e1] at h
    obtain ⟨p, hp, _, _, _⟩ := E1.own i _ (ownK_of e1)
    refine ⟨p, hp, dG.stm M1 E1 h fun k s2 ρ2 I2 H2 y f2 M2 E2 rk h => ?_⟩
    have rd := r1.lat (f2.lat M1.dis fun p o => (E1.ownI o).2.1)
    cases e2 : ownK s2.env i with
    | none => rw [e2] at h; exact h.elim
    | some q2 =>
      obtain ⟨ks, vs⟩ := q2
      rw [e2] at h
      dsimp only at h
      unfold kdSet at h
      cases ek : toKey k with
      | none => rw [ek] at h; exact h.elim
      | some a =>
        rw [ek] at h
        dsimp only at h
        by_cases hc : isTupD k = true ∧ a.depth ≤ 8 ∧ ks.length < sizeLine
        · rw [if_pos hc] at h
          obtain ⟨p', hp', ⟨es, hes, r, r2, kk⟩, _, _⟩ := E2.own i _ (ownK_of e2)
          rw [hp] at hp'
          cases hp'
          have kr : KdR X.K ρ2 I2 H2 ks vs es := ⟨r, r2, kk⟩
          obtain ⟨kb, rfl⟩ := isTupD_ref rk hc.1
          obtain ⟨a1, b1, c1⟩ := own_upd (o' := .kdt (kdPutK ks k a) (kdPutV ks vs a d)) (u := kdO p (putE es a kb v)) M2 E2 (ownK_of e2) hp fun H' l hh => by
            obtain ⟨z1, z2, z3⟩ := (KdR.put (rk.lat l) ek (rd.lat l) (kr.lat l))
            exact ⟨_, hh, z1, z2, z3⟩
          exact ⟨ρ2, I2, es, ks, vs, k, a, kb, hes, kr, rfl, rk, ek, hc.2.1, by rw [← kr.len]; exact hc.2.2, h _ _ _ _ a1 b1 c1⟩
        · rw [if_neg hc] at h; exact h.elim
end
end PM
end

section
set_option Elab.async false
set_option linter.all false
set_option maxRecDepth 100000
/-! PM24: dict(..), d.get, d[k] = v of an own dict, sorted(d.items()), the keys of a dict walked. -/
namespace PM
open PySem PySem.Spec L2
variable [PWc]
/-! ### dict(e) -/
def kPairs : List D → List Key → List D → Option (List Key × List D)
  | [], ks, vs => some (ks, vs)
  | .tup [k, v] :: ds, ks, vs => (match keyD k with
    | some a => kPairs ds (putKs ks a) (putVs ks vs a v)
    | none => none)
  | _, _, _ => none
def kdPairs : List D → List D → List D → Option (List D × List D)
  | [], ks, vs => some (ks, vs)
  | .tup [k, v] :: ds, ks, vs => (match toKey k with
    | some a => if isTupD k = true ∧ a.depth ≤ 8 then kdPairs ds (kdPutK ks k a) (kdPutV ks vs a v) else none
    | none => none)
  | _, _, _ => none
def fDict (fe : S → R D) (s : S) : R MO := (fe s).bind fun d s => match d with
  | .dct ks vs => .ok (.dct ks vs) s
  | .lst xs => (match kPairs xs [] [] with
    | some q => .ok (.dct q.1 q.2) s
    | none => .stuck)
  | .ptp xs => (match kdPairs xs [] [] with
    | some q => .ok (.kdt q.1 q.2) s
    | none => .stuck)
  | _ => .stuck
section
variable {K : KF} {ρ : List Addr} {I : Addr → Prop} {H : Hp}
theorem RelL.two {d e : D} {vs : List V} (r : RelL K ρ I H [d, e] vs) : ∃ v u, vs = [v, u] ∧ Rel K ρ I H d v ∧ Rel K ρ I H e u := by
  cases r with
  | cons a b => cases b with
    | cons c d => cases d; exact ⟨_, _, rfl, a, c⟩
theorem kPairs_inv {d : D} {ds : List D} {ks : List Key} {us : List D} {q : List Key × List D} (e : kPairs (d :: ds) ks us = some q) : ∃ k v a, d = .tup [k, v] ∧ keyD k = some a ∧ kPairs ds (putKs ks a) (putVs ks us a v) = some q := by
  match d, e with
  | .tup [k, v], e =>
    have e : (match keyD k with
      | some a => kPairs ds (putKs ks a) (putVs ks us a v)
      | none => none) = some q := e
    cases ek : keyD k with
    | none => rw [ek] at e; cases e
    | some a => rw [ek] at e; exact ⟨k, v, a, rfl, ek, e⟩
theorem kdPairs_inv {d : D} {ds ks us : List D} {q : List D × List D} (e : kdPairs (d :: ds) ks us = some q) : ∃ k v a, d = .tup [k, v] ∧ toKey k = some a ∧ isTupD k = true ∧ a.depth ≤ 8 ∧ kdPairs ds (kdPutK ks k a) (kdPutV ks us a v) = some q := by
  match d, e with
  | .tup [k, v], e =>
    have e : (match toKey k with
      | some a => if isTupD k = true ∧ a.depth ≤ 8 then kdPairs ds (kdPutK ks k a) (kdPutV ks us a v) else none
      | none => none) = some q := e
    cases ek : toKey k with
    | none => rw [ek] at e; cases e
    | some a =>
      rw [ek] at e
      dsimp only at e
      split at e
      · rename_i hc; exact ⟨k, v, a, rfl, ek, hc.1, hc.2, e⟩
      · cases e
theorem kPairs_rel : ∀ {ds : List D} {vs : List V} {kvs : List (Key × V)} {us : List D} {q : List Key × List D}, RelL K ρ I H ds vs → (kvs.map (·.1)).Nodup → RelL K ρ I H us (kvs.map (·.2)) → kPairs ds (kvs.map (·.1)) us = some q →
    ∃ (ps : List Addr) (more : List (Key × V)), vs = ps.map V.ref ∧ Paired (fun p kv => SqT K H p [kV kv.1, kv.2]) ps more ∧ q.1 = (mergeK kvs more).map (·.1) ∧ RelL K ρ I H q.2 ((mergeK kvs more).map (·.2))
  | [], _, kvs, us, q, .nil, nd, ru, e => by cases e; exact ⟨[], [], rfl, .nil, rfl, ru⟩
  | d :: ds, _, kvs, us, q, .cons (v := v) (vs := vs) r1 r2, nd, ru, e => by
    obtain ⟨k0, x0, a, rfl, ek, e⟩ := kPairs_inv e
    cases r1 with
    | @tup _ p ys hi rr =>
      obtain ⟨kv, xv, rfl, rk, rx⟩ := rr.two
      have ekv := keyD_rel rk ek
      subst ekv
      have pm := putK_map nd a xv
      rw [← pm.1] at e
      obtain ⟨ps, more, h1, h2, h3, h4⟩ := kPairs_rel (kvs := putK kvs a xv) r2 (by rw [pm.1]; exact pm.2 nd) (putVs_rel rx nd ru) e
      exact ⟨p :: ps, (a, xv) :: more, by rw [h1]; rfl, .cons hi.sq h2, h3, h4⟩
/-- the pairs of a tuple: key, its address, its value; the pairs' own addresses -/
theorem kdPairs_rel : ∀ {ds : List D} {vs : List V} {es : List KE} {ks us : List D} {q : List D × List D}, RelL K ρ I H ds vs → KdR K ρ I H ks us es → kdPairs ds ks us = some q →
    ∃ (ps : List Addr) (more : List KE), vs = ps.map V.ref ∧ Paired (fun p (e : KE) => SqT K H p [V.ref e.2.1, e.2.2] ∧ e.1.depth ≤ 8 ∧ ∃ k, Rel K ρ I H k (.ref e.2.1) ∧ toKey k = some e.1) ps more ∧ KdR K ρ I H q.1 q.2 (more.foldl (fun acc e => putE acc e.1 e.2.1 e.2.2) es)
  | [], _, es, ks, us, q, .nil, kr, e => by cases e; exact ⟨[], [], rfl, .nil, kr⟩
  | d :: ds, _, es, ks, us, q, .cons (v := v) (vs := vs) r1 r2, kr, e => by
    obtain ⟨k0, x0, a, rfl, ek, hc1, hc2, e⟩ := kdPairs_inv e
    cases r1 with
    | @tup _ p ys hi rr =>
      obtain ⟨kv, xv, rfl, rk, rx⟩ := rr.two
      obtain ⟨kb, rfl⟩ := isTupD_ref rk hc1
      obtain ⟨ps, more, h1, h2, h3⟩ := kdPairs_rel r2 (KdR.put rk ek rx kr) e
      exact ⟨p :: ps, (a, kb, xv) :: more, by rw [h1]; rfl, .cons ⟨hi.sq, hc2, k0, rk, ek⟩ h2, h3⟩
end
theorem kp_all {es : List KE} : ∀ {qs : List KE} {ps xs : List (NestedKey × Addr × Value)} {es : List KE}, KP qs ps → KP es xs → (xs.map (·.1)).Nodup → KP (qs.foldl (fun acc e => putE acc e.1 e.2.1 e.2.2) es) (storedAllH xs ps)
  | _, _, _, _, .nil, h, _ => h
  | _, _, xs, es, .cons (a := q) (b := p) h t, hk, nd => by
    have h1 := kp_put (a := q.1) (p := q.2.1) h.2.2 hk nd
    rw [List.foldl_cons]
    show KP _ (storedAllH (storedH xs p.1 p.2.1 p.2.2) _)
    rw [← h.1, ← h.2.1]
    refine kp_all (es := []) t h1 ?_
    rw [← kp_keys h1]
    exact nodup_put (by rw [kp_keys hk]; exact nd)
theorem foldE_mem {P : NestedKey → Prop} : ∀ {qs es : List KE}, (∀ e ∈ qs, P e.1) → (∀ e ∈ es, P e.1) → ∀ e ∈ qs.foldl (fun acc e => putE acc e.1 e.2.1 e.2.2) es, P e.1
  | [], _, _, h => h
  | q :: qs, es, hq, h => foldE_mem (qs := qs) (fun e he => hq e (List.mem_cons_of_mem _ he)) (putE_mem (hq q (List.mem_cons_self ..)) h)
theorem foldE_len : ∀ (qs es : List KE), (qs.foldl (fun acc e => putE acc e.1 e.2.1 e.2.2) es).length ≤ es.length + qs.length
  | [], es => Nat.le_refl _
  | q :: qs, es => by
    have h1 := foldE_len qs (putE es q.1 q.2.1 q.2.2)
    have h2 := putE_len q.1 q.2.1 q.2.2 es
    rw [List.foldl_cons, List.length_cons]
    omega
section
variable {X : Cx} {pins : List (Addr × Obj)} {σ : St} {H : Hp} {s : Shared} {ρ : List Addr} {I : Addr → Prop}
theorem pairs_at (J : Inv X pins σ H s) : ∀ {ps : List Addr} {more : List KE}, Paired (fun p (e : KE) => SqT X.K H p [V.ref e.2.1, e.2.2] ∧ e.1.depth ≤ 8 ∧ ∃ k, Rel X.K ρ I H k (.ref e.2.1) ∧ toKey k = some e.1) ps more →
    ∃ qs : List (NestedKey × Addr × Value), KP more qs ∧ qs.length = ps.length ∧ (∀ x ∈ qs, (nestedKind X.prog X.w).is s.heap x.1 x.2.1) ∧
      ∀ (j : Nat) (x : NestedKey × Addr × Value), qs[j]? = some x → ∃ b, ps[j]? = some b ∧ s.heap.IsTuple b #[.ref x.2.1, x.2.2]
  | _, _, .nil => ⟨[], .nil, rfl, (fun _ h => nomatch h), (fun j x e => by simp at e)⟩
  | _, _, .cons (a := p) (b := e) (l₁ := ps) (l₂ := more) h t => by
    obtain ⟨qs, h1, h2, h3, h4⟩ := pairs_at J t
    obtain ⟨hs, hd, k, rk, ek⟩ := h
    obtain ⟨its, rv, ht, _⟩ := J.tuple hs
    obtain ⟨u, y, ei, ru, ry⟩ := vals2 rv
    subst ei
    cases ru
    refine ⟨(e.1, e.2.1, y) :: qs, .cons ⟨rfl, rfl, ry⟩ h1, by simp [h2], fun x hx => ?_, fun j x hx => ?_⟩
    · rcases List.mem_cons.mp hx with rfl | hx
      · exact ⟨Rel.nested J rk rfl ek, hd⟩
      · exact h3 x hx
    · cases j with
      | zero =>
        cases hx
        obtain ⟨o, ho, hc, n, hd⟩ := ht
        exact ⟨p, rfl, o, ho, hc, n, hd⟩
      | succ j =>
        obtain ⟨b, e1, e2⟩ := h4 j x (by simpa using hx)
        exact ⟨b, by simpa using e1, e2⟩
end
section
variable {X : Cx} {W : XK} {pos : Pos}
theorem call_dictT (hw : HW X) (hu : X.A.units + 64 < cLine) (hc : X.calm = true) : CallR X (.type "dict") (fun xs H Q => ∃ (ρ : List Addr) (I : Addr → Prop) (p : Addr) (od : Obj) (ps : List Addr) (more : List KE), xs = [.ref p] ∧ H p = some (.frz od (.tup (ps.map V.ref))) ∧ od.dict = none ∧
    Paired (fun p (e : KE) => SqT X.K H p [V.ref e.2.1, e.2.2] ∧ e.1.depth ≤ 8 ∧ ∃ k, Rel X.K ρ I H k (.ref e.2.1) ∧ toKey k = some e.1) ps more ∧ ∀ l, H l = none → Q (.ref l) (upd H l (kdO l (more.foldl (fun acc e => putE acc e.1 e.2.1 e.2.2) [])))) := by
  intro pins s σ H xs us Q J r h
  obtain ⟨ρ, I, p, od, ps, more, rfl, hp, hod, pr, q⟩ := h
  obtain ⟨u, rfl, rx⟩ := vals1 r
  cases rx
  obtain ⟨ho, hz, its, rv, o, ho2, hcl, n, hd⟩ := (show ObjOk X.prog X.w H s.heap p (.frz od (.tup (ps.map V.ref))) from J.hok p _ hp)
  rw [ho] at ho2
  cases ho2
  have ei := refs_at rv
  subst ei
  rw [List.length_map] at hz
  obtain ⟨qs, k1, k2, k3, k4⟩ := pairs_at J pr
  refine call_dict_pairsH (knd := nestedKind X.prog X.w) (ps := qs) (PairArg.tuple p (ps.map Value.ref).toArray (fun j => ps.getD j 0) (qs.map fun x => (Value.ref x.2.1, x.2.2))) (J.ok.hd hc) (room9 hu) ⟨⟨od, n, ho, hcl, hod, hd⟩, by simp [k2], fun j k v hj => ?_⟩ ⟨by simp, fun i key v hi => ?_⟩ (fun h' hk x hx => ?_) (by simp [k2, hz]) fun h' tk hd' hk => ?_
  · rw [List.getElem?_map] at hj
    cases e : qs[j]? with
    | none => rw [e] at hj; cases hj
    | some x =>
      rw [e] at hj
      cases hj
      obtain ⟨b, e1, e2⟩ := k4 j x e
      refine ⟨by simp [List.getD, e1], ?_⟩
      have : ps.getD j 0 = b := by simp [List.getD, e1]
      show s.heap.IsTuple (ps.getD j 0) _ ∨ _
      rw [this]; exact .inl e2
  · have hi : (qs.map fun x => (Value.ref x.2.1, x.2.2))[i]? = some (key, v) := hi
    rw [List.getElem?_map] at hi
    cases e : qs[i]? with
    | none => rw [e] at hi; cases hi
    | some x => rw [e] at hi; cases hi; exact ⟨x.1, x.2.1, rfl, rfl⟩
  · exact nestedKind_stays.stays (fun b o vs m hb _ => hk b o (Nat.ne_of_lt (Heap.lt_size hb)) (fun z => nomatch z) hb) (k3 x hx)
  · have hm : (s.heap.objs.size == sysModules) = false := beq_eq_false_iff_ne.mpr (Nat.ne_of_gt J.big)
    have l1 : more.length = ps.length := by rw [Paired.length k1, k2]
    have hlen := foldE_len more []
    rw [List.length_nil, Nat.zero_add, l1] at hlen
    have dp : ∀ e ∈ more, e.1.depth ≤ 8 := fun e he => by
      obtain ⟨i, hi⟩ := List.mem_iff_getElem?.mp he
      have : ∀ {ps : List Addr} {more : List KE}, Paired (fun p (e : KE) => SqT X.K H p [V.ref e.2.1, e.2.2] ∧ e.1.depth ≤ 8 ∧ ∃ k, Rel X.K ρ I H k (.ref e.2.1) ∧ toKey k = some e.1) ps more → ∀ e ∈ more, e.1.depth ≤ 8 := by
        intro ps more t
        induction t with
        | nil => exact fun _ h => nomatch h
        | cons h t ih =>
          intro e he
          rcases List.mem_cons.mp he with rfl | he
          · exact h.2.1
          · exact ih e he
      exact this pr e he
    exact ⟨.ref s.heap.objs.size, _, J.laid (t' := tk) (fun b o e => hk b o (fun z => nomatch z) e) (Nat.le_refl _) (kd_ok hw (Nat.le_trans hlen hz) hm (foldE_mem (P := fun k => k.depth ≤ 8) dp (fun _ h => by cases h)) (kp_all (es := []) k1 .nil .nil) hd'), rfl, q _ (J.hok.fresh (Nat.le_refl _))⟩
theorem CallR.or {f : Value} {r r' : List V → Hp → VK → Prop} (h : CallR X f r) (h' : CallR X f r') : CallR X f (fun xs H Q => r xs H Q ∨ r' xs H Q) := fun pins s σ H xs us Q J rv q => q.elim (h pins s σ H xs us Q J rv) (h' pins s σ H xs us Q J rv)
theorem f_dict {a : Expr} {p : Pos} {fe : S → R D} (hw : HW X) (hu : X.A.units + 64 < cLine) (hc : X.calm = true) (hg : Gl X "dict") (hm : X.mg "dict" = none) (ha : PEd X W fe a) (he : starEach [a] X.env = (false, eval a X.env) :: starEach [] X.env := by rfl) (hpl : (backTo pos (starEach [] X.env)).any (·.1) = false := by rfl) :
    PFd X W (fDict fe) (.Call (.Name "dict" p) [a] [] pos) := by
  refine PE.imp (pe_callTy (CallR.or call_dictD (CallR.or (call_dictP hc) (call_dictT hw hu hc))) hg hm (by decide +kernel) (pa_cons ha pa_nil he) (by decide) (by decide) he hpl) fun σ H Q ⟨ρ, I, s, M, E, h⟩ => ?_
  refine dG.bindO M E h fun d s1 ρ1 I1 H1 v M1 E1 r h => ?_
  show (_ ∨ _ ∨ _)
  cases d with
  | dct ks vs =>
    cases r with
    | @dct _ p od kvs hi hH r2 =>
      refine .inl ⟨p, kvs, rfl, .inr ⟨od, hH⟩, fun l hl => ?_⟩
      have x : Ext I1 H1 I1 (upd H1 l (.dK kvs)) := Ext.fresh hl
      exact h.here M1 E1 hl ⟨kvs, upd_same, rfl, r2.ext x M1.dis⟩
  | lst xs =>
    dsimp only at h
    cases eq : kPairs xs [] [] with
    | none => rw [eq] at h; exact h.elim
    | some q =>
      rw [eq] at h
      cases r with
      | @lst _ p ys hi r2 =>
        obtain ⟨ps, more, h1, h2, h3, h4⟩ := kPairs_rel (kvs := []) r2 .nil .nil eq
        subst h1
        refine .inr (.inl ⟨p, ps, more, rfl, hi.sq, h2, fun l hl => ?_⟩)
        have x : Ext I1 H1 I1 (upd H1 l (.dK (mergeK [] more))) := Ext.fresh hl
        exact h.here M1 E1 hl ⟨mergeK [] more, upd_same, h3, h4.ext x M1.dis⟩
  | ptp xs =>
    dsimp only at h
    cases eq : kdPairs xs [] [] with
    | none => rw [eq] at h; exact h.elim
    | some q =>
      rw [eq] at h
      cases r with
      | @ptp _ p od ys hi hH ho r2 =>
        obtain ⟨ps, more, h1, h2, h3⟩ := kdPairs_rel (es := []) r2 ⟨.nil, .nil, rfl⟩ eq
        subst h1
        refine .inr (.inr ⟨ρ1, I1, p, od, ps, more, rfl, hH, ho, h2, fun l hl => ?_⟩)
        have x : Ext I1 H1 I1 (upd H1 l (kdO l (more.foldl (fun acc e => putE acc e.1 e.2.1 e.2.2) []))) := Ext.fresh hl
        exact h.here M1 E1 hl ⟨_, upd_same, h3.r.ext x M1.dis, h3.v.ext x M1.dis, h3.k⟩
  | _ => exact h.elim
theorem dG.bindL {α β γ δ : Type} {K : KF} {mg : Str → Option Value} {W : XK} {P : PR α β} {P2 : PR γ δ} {f : S → R α} {k : α → S → R γ} {σ : L2.St} {ρ : List Addr} {I : Addr → Prop} {H : Hp} {s : S} {Q : β → Hp → Prop} {Q2 : δ → Hp → Prop}
    (M : MemOk K ρ I H s.mem) (E : EnvOk K ρ I H σ s.env) (h : Fin K mg W P2 σ Q2 ρ I H (Own σ s.env) ((f s).bind k))
    (g : ∀ a s ρ' I' H' v, MemOk K ρ' I' H' s.mem → EnvOk K ρ' I' H' σ s.env → P ρ' I' H' a v → Lat ρ I H ρ' I' H' → Fin K mg W P2 σ Q2 ρ' I' H' (Own σ s.env) (k a s) → Q v H') : dG K mg W P f σ H Q :=
  ⟨ρ, I, s, M, E, h.bind fun a s2 ρ' I' H' v f M2 E2 r h2 => g a s2 ρ' I' H' v M2 E2 r (f.lat M.dis fun p o => (E.ownI o).2.1) h2⟩
/-! ### d.get(k, x) -/
def getD2 (d k x : D) : Option D := match d with
  | .kdt ks vs => (match toKey k with
    | some a => if isTupD k = true ∧ a.depth ≤ 8 then some ((kdGet ks vs a).getD x) else none
    | none => none)
  | _ => none
def eGet (fd fk fx : S → R D) (s : S) : R D := (fd s).bind fun d s => match d with
  | .kdt _ _ => (fk s).bind fun k s => (fx s).bind fun x s => (match getD2 d k x with
    | some y => .ok y s
    | none => .stuck)
  | _ => .stuck
def tKGet2 (X : Cx) (td ty tx : TE) : TE := fun σ H Q => td σ H fun x H1 => ∃ p od es, x = .ref p ∧ H1 p = some (.frz od (kdO p es)) ∧ ty σ H1 fun y H2 => tx σ H2 fun z H3 =>
  ∃ (ρ : List Addr) (I : Addr → Prop) (ks vs : List D) (k : D) (a : NestedKey) (kb : Addr), H3 p = some (.frz od (kdO p es)) ∧ KdR X.K ρ I H3 ks vs es ∧ y = .ref kb ∧ Rel X.K ρ I H3 k (.ref kb) ∧ toKey k = some a ∧ a.depth ≤ 8 ∧
    (∀ d v, kdGet ks vs a = some d → Rel X.K ρ I H3 d v → Q v H3) ∧ (kdGet ks vs a = none → Q z H3)
theorem kd_type {pins : List (Addr × Obj)} {σ : St} {H : Hp} {s : Shared} {p : Addr} {es : List KE} (J : Inv X pins σ H s) (h : Rd H p (kdO p es)) : s.TypeIs (.ref p) "dict" ∧ (∀ b, Value.ref p = .ref b → ∃ ob, s.heap.get? b = some ob ∧ ob.dict = none) := by
  obtain ⟨⟨z, y, dp, xs, kp, o, es', ep, ho, hx, hd, he, hn⟩, _⟩ := (show ObjOk X.prog X.w H s.heap p (kdO p es) from h.ok J.hok)
  exact ⟨⟨o, ho, hx.1⟩, fun b e => by cases e; exact ⟨o, ho, hx.2.1⟩⟩
theorem pe_kget2 {o e f : Expr} {apos cpos : Pos} {td ty tx : TE} (hw : HW X) (hu : X.A.units + 64 < cLine) (ho : PE X o td) (he : PE X e ty) (hf : PE X f tx) (m : M2 X o "get" apos e f cpos) : PE X (.Call (.Attribute o "get" apos) [e, f] [] cpos) (tKGet2 X td ty tx) := by
  refine ⟨fun pins s σ H Q J h => ?_⟩
  refine wpAny_Call_method m.base m.few m.line PySem.F.plainAttrs_dict PySem.F.slot_dict_get PySem.F.type_dict_get (thn (ho.run pins s σ H _ J h) fun u s1 ⟨x, H1, J1, rx, p, od, es, ex, hH, q1⟩ => ?_)
  subst ex
  obtain rfl : u = Value.ref p := rx
  obtain ⟨t1, t2⟩ := kd_type J1 (.inr ⟨od, hH⟩)
  refine ⟨t1, t2, ?_⟩
  rw [m.trees]
  refine Calls.callWith_builtin rfl (Calls.evalArgs_plain (Calls.spliced_cons (thn (he.run pins s1 σ H1 _ J1 q1) fun iv s2 ⟨y, H2, J2, ry, q2⟩ =>
    Calls.spliced_cons (thn (hf.run pins s2 σ H2 _ J2 q2) fun fv s3 ⟨z, H3, J3, rz, ρ, I, ks, vs, k, a, kb, hH3, kr, ey, rk, ek, dk, q3, q4⟩ => Calls.spliced_nil ?_))))
  subst ey
  obtain rfl : iv = Value.ref kb := ry
  obtain ⟨xs, kd⟩ := kd_of hw J3 (.inr ⟨od, hH3⟩) kr
  refine call_meetsIn PySem.F.slot_dict_get kd.d.typeIs PySem.F.entry_dict_get (PySem.F.args_dict_get_3 _ _ _) (meetsH_dict_get_default (nestedKind X.prog X.w) p kb kd.sys fv) ⟨room8 hu, a, xs, ⟨Rel.nested J3 rk rfl ek, dk⟩, kd.d, ?_⟩
  obtain ⟨g1, g2⟩ := KdR.get (a := a) kr kd.kp
  cases eg : kdGet ks vs a with
  | some d =>
    obtain ⟨u, v, h1, h2, h3⟩ := g1 d eg
    rw [h1]
    exact ⟨v, H3, J3.tok _, h2, q3 d v eg h3⟩
  | none =>
    rw [g2 eg]
    exact ⟨z, H3, J3.tok _, rz, q4 eg⟩
theorem d_get2' {o e f : Expr} {apos cpos : Pos} {fd fk fx : S → R D} (hw : HW X) (hu : X.A.units + 64 < cLine) (ho : PEd X W fd o) (he : PEd X W fk e) (hf : PEd X W fx f) (m : M2 X o "get" apos e f cpos) : PEd X W (eGet fd fk fx) (.Call (.Attribute o "get" apos) [e, f] [] cpos) := by
  refine PE.imp (pe_kget2 hw hu ho he hf m) fun σ H Q ⟨ρ, I, s, M, E, h⟩ => ?_
  refine dG.bind M E h fun d s1 ρ1 I1 H1 v M1 E1 rd up1 h => ?_
  cases d with
  | kdt ks vs =>
    cases rd with
    | @kdt _ _ p od es hi hH r1 r2 rk =>
      refine ⟨p, od, es, rfl, hH, dG.bindL M1 E1 h fun k s2 ρ2 I2 H2 y M2 E2 rk2 l2 h => dG.bindL M2 E2 h fun x s3 ρ3 I3 H3 z M3 E3 rx l3 h => ?_⟩
      have l := l2.trans l3
      have rk3 := rk2.lat l3
      cases eg : getD2 (.kdt ks vs) k x with
      | none => rw [eg] at h; exact h.elim
      | some y' =>
        rw [eg] at h
        unfold getD2 at eg
        dsimp only at eg
        cases ek : toKey k with
        | none => rw [ek] at eg; cases eg
        | some a =>
          rw [ek] at eg
          dsimp only at eg
          split at eg
          · rename_i hc
            cases eg
            obtain ⟨kb, rfl⟩ := isTupD_ref rk3 hc.1
            refine ⟨ρ3, I3, ks, vs, k, a, kb, l.same p _ hi hH, ⟨r1.lat l, r2.lat l, rk⟩, rfl, rk3, ek, hc.2, fun d v e r => ?_, fun e => ?_⟩
            · rw [e] at h; exact h.here (Ext.refl _ _) M3 E3 r
            · rw [e] at h; exact h.here (Ext.refl _ _) M3 E3 rx
          · cases eg
  | _ => exact h.elim
end
end PM
end

section
set_option Elab.async false
set_option linter.all false
set_option maxRecDepth 100000
/-! PM25: sorted(d.items()), a dict of one's own with keys ints and texts, its keys walked. -/
namespace PM
open PySem PySem.Spec L2
variable [PWc]
mutual
theorem reads_lt {h : Heap} : ∀ (d : PyData) (v : Value) (as : List Addr), PySem.W.alike d d = true → Reads h v d as → ∀ a ∈ as, a < h.objs.size
  | .none, _, _, _, r, a, ha => by cases r; cases ha
  | .bool _, _, _, _, r, a, ha => by cases r; cases ha
  | .int _, _, _, _, r, a, ha => by cases r; cases ha
  | .str _, _, _, _, r, a, ha => by cases r; cases ha
  | .list xs, _, _, hal, r, a, ha => by
    cases r with
    | list h1 h2 h3 h4 =>
      rcases List.mem_cons.mp ha with rfl | ha
      · exact Heap.lt_size h1
      · exact readsAll_lt xs _ _ (by simpa [PySem.W.alike] using hal) h4 a ha
  | .tuple xs, _, _, hal, r, a, ha => by
    cases r with
    | tuple h1 h2 h3 h4 => exact readsAll_lt xs _ _ (by simpa [PySem.W.alike] using hal) h4 a ha
  | .dict _, _, _, hal, _, _, _ => by simp [PySem.W.alike] at hal
theorem readsAll_lt {h : Heap} : ∀ (ds : List PyData) (vs : List Value) (as : List Addr), PySem.W.alikeAll ds ds = true → ReadsAll h vs ds as → ∀ a ∈ as, a < h.objs.size
  | [], _, _, _, r, a, ha => by cases r; cases ha
  | d :: ds, _, _, hal, r, a, ha => by
    cases r with
    | cons h1 h2 =>
      obtain ⟨z1, z2⟩ := PySem.W.alike_all_cons hal
      rcases List.mem_append.mp ha with ha | ha
      · exact reads_lt d _ _ z1 h1 a ha
      · exact readsAll_lt ds _ _ z2 h2 a ha
end
def pairL : List D → List D → List D
  | k :: ks, v :: vs => .tup [k, v] :: pairL ks vs
  | _, _ => []
theorem pyL_cons {d : D} {ds : List D} {ps : List PyData} (h : toPyL (d :: ds) = some ps) : ∃ x xs, toPy d = some x ∧ toPyL ds = some xs ∧ ps = x :: xs := by
  have h : (match toPy d, toPyL ds with
    | some x, some xs => some (x :: xs)
    | _, _ => none) = some ps := h
  cases e1 : toPy d with
  | none => rw [e1] at h; cases h
  | some x => cases e2 : toPyL ds with
    | none => rw [e1, e2] at h; cases h
    | some xs => rw [e1, e2] at h; cases h; exact ⟨x, xs, rfl, rfl, rfl⟩
theorem py_pair {k v : D} {x : PyData} (h : toPy (.tup [k, v]) = some x) : ∃ a b, toPy k = some a ∧ toPy v = some b ∧ x = .tuple [a, b] := by
  have h : (toPyL [k, v]).map PyData.tuple = some x := h
  cases e : toPyL [k, v] with
  | none => rw [e] at h; cases h
  | some ps =>
    rw [e] at h
    obtain ⟨a, xs, e1, e2, rfl⟩ := pyL_cons e
    obtain ⟨b, ys, e3, e4, rfl⟩ := pyL_cons e2
    cases e4
    cases h
    exact ⟨a, b, e1, e3, rfl⟩
/-- what sorted gives of the items of a dict -/
def rSortKd (K : KF) : List V → Hp → VK → Prop := fun xs H Q => ∃ (l p : Addr) (od : Obj) (es : List KE) (ρ : List Addr) (I : Addr → Prop) (ks vs : List D), xs = [.ref l] ∧ H l = some (DX.itemsO l p) ∧ H p = some (.frz od (kdO p es)) ∧ KdR K ρ I H ks vs es ∧ (∀ q ∈ ρ, ¬ I q) ∧ sortOk (pairL ks vs) = true ∧
  ∀ I' H' w, Ext I H I' H' → Rel K ρ I' H' (.lst (isort dLe (pairL ks vs))) w → Q w H'
section
variable {X : Cx} {pins : List (Addr × Obj)} {σ : St} {H : Hp} {s : Shared} {ρ : List Addr} {I : Addr → Prop}
/-- the pairs that the walk makes, item by item -/
theorem made_pairs (J : Inv X pins σ H s) : ∀ {ks vs : List D} {es : List KE} {xs : List (NestedKey × Addr × Value)}, KdR X.K ρ I H ks vs es → KP es xs → ∀ (j : Nat) (x : NestedKey × Addr × Value), xs[j]? = some x → ∃ k v y, (pairL ks vs)[j]? = some (.tup [k, v]) ∧ Rel X.K ρ I H k (.ref x.2.1) ∧ Rel X.K ρ I H v y ∧ RelV y x.2.2
  | [], _, [], _, _, .nil, j, x, hx => by simp at hx
  | k' :: ks, [], e :: es, _, h, _, _, _, _ => nomatch h.v
  | k' :: ks, v' :: vs, e :: es, y :: xs, ⟨hr, hv, hk⟩, .cons p t, j, x, hx => by
    cases hr with
    | cons a1 a2 =>
      cases hv with
      | cons b1 b2 =>
        simp only [List.map_cons, List.cons.injEq] at hk
        cases j with
        | zero =>
          cases hx
          exact ⟨k', v', _, rfl, by rw [← p.2.1]; exact a1, b1, p.2.2⟩
        | succ j => exact made_pairs J ⟨a2, b2, hk.2⟩ t j x (by simpa using hx)
  | [], _, _ :: _, _, h, _, _, _, _ => nomatch h.r
  | _ :: _, _, [], _, h, _, _, _, _ => nomatch h.r
theorem pairL_len : ∀ {ks vs : List D}, ks.length = vs.length → (pairL ks vs).length = ks.length
  | [], [], _ => rfl
  | _ :: ks, _ :: vs, h => by simp [pairL, pairL_len (ks := ks) (vs := vs) (by simpa using h)]
  | [], _ :: _, h => by simp at h
  | _ :: _, [], h => by simp at h
end
theorem eachIs_of {α β : Type} {R : α → β → Prop} : ∀ {as : List α} {bs : List β}, as.length = bs.length → (∀ (j : Nat) (a : α) (b : β), as[j]? = some a → bs[j]? = some b → R a b) → PySem.W.EachIs R as bs
  | [], [], _, _ => .nil
  | a :: as, b :: bs, h, f => .cons (f 0 a b rfl rfl) (eachIs_of (by simpa using h) fun j a b h1 h2 => f (j + 1) a b (by simpa using h1) (by simpa using h2))
  | [], _ :: _, h, _ => by simp at h
  | _ :: _, [], h, _ => by simp at h
theorem eachIs_map {α β : Type} {f : β → α} : ∀ {as : List α} {bs : List β}, PySem.W.EachIs (fun a b => a = f b) as bs → as = bs.map f
  | _, _, .nil => rfl
  | _, _, .cons h t => by rw [List.map_cons, ← h, ← eachIs_map t]
theorem srt_mapA (bs : List (D × Addr)) : (bs.mergeSort (PySem.W.dataLe false fun (b : D × Addr) => pyOf b.1)).map (·.1) = isort dLe (bs.map (·.1)) := by
  rw [← isort_eq dLe_tr dLe_to]
  exact List.map_mergeSort (r := PySem.W.dataLe false fun (b : D × Addr) => pyOf b.1) (s := dLe) fun a _ b _ => rfl
theorem relL_of {K : KF} {ρ : List Addr} {I : Addr → Prop} {H : Hp} : ∀ {bs : List (D × Addr)}, (∀ b ∈ bs, Rel K ρ I H b.1 (.ref b.2)) → RelL K ρ I H (bs.map (·.1)) (bs.map fun b => V.ref b.2)
  | [], _ => .nil
  | b :: bs, h => .cons (h b (List.mem_cons_self ..)) (relL_of fun c hc => h c (List.mem_cons_of_mem _ hc))
section
variable {X : Cx} {W : XK} {pos : Pos}
theorem cr_sortedKd (hw : HW X) (hu : X.A.units + 64 < cLine) (hc : X.calm = true) : CallR X (.builtin "sorted") (rSortKd X.K) := by
  intro pins s σ H xs us Q J r h
  obtain ⟨l, p, od, es, ρ, I, ks, vs, rfl, hl, hp, kr, nri, so, q⟩ := h
  obtain rfl := Vals.ref1 r
  have view : s.heap.IsItemsView l p := (show ObjOk X.prog X.w H s.heap l (DX.itemsO l p) from J.hok l _ hl).1
  obtain ⟨xs', kd⟩ := kd_of hw J (.inr ⟨od, hp⟩) kr
  obtain ⟨o, es', ep, ho, hx, hdat, hes, his, hn⟩ := kd.d
  have l1 : es.length = xs'.length := Paired.length kd.kp
  have l2 : es'.size = xs'.length := size_of_entries hes
  have lk : ks.length = vs.length := by rw [kr.len, kr.v.length, List.length_map]
  have lp : (pairL ks vs).length = xs'.length := by rw [pairL_len lk, kr.len, l1]
  have hh : X.A.handled = none := J.ok.hd hc
  have hzz : es'.size ≤ sizeLine := by rw [l2, ← l1]; exact kd.len
  refine DT.sortedI (es := es') (ep := ep) hh view ⟨o, ho, hx, hdat⟩ hzz fun h' tk as hk hlt hla hG => ?_
  have nd : as.Nodup := List.Pairwise.imp (fun h => Nat.ne_of_lt h) hG.rise
  obtain ⟨f1, f2, f3, f4⟩ := sort_facts so
  -- the pairs that were made
  have pr : ∀ (j : Nat) (b : Addr), as[j]? = some b → ∃ (k v : D) (kb : Addr) (y : V) (yv : Value), (pairL ks vs)[j]? = some (.tup [k, v]) ∧ Rel X.K ρ I H k (.ref kb) ∧ Rel X.K ρ I H v y ∧ RelV y yv ∧ h'.get? b = some { cls := .type "tuple", data := .seq #[Value.ref kb, yv] } := by
    intro j b hj
    obtain ⟨en, he, hg⟩ := hG.pairs j b hj
    rw [entry_at hes j] at he
    cases hxj : xs'[j]? with
    | none => rw [hxj] at he; cases he
    | some x =>
      rw [hxj] at he
      have een : entryOfKey (nestedKind X.prog X.w) x = en := Option.some.inj he
      obtain ⟨k, v, y, e1, e2, e3, e4⟩ := made_pairs J kr kd.kp j x hxj
      exact ⟨k, v, x.2.1, y, x.2.2, e1, e2, e3, e4, by rw [hg, ← een]; rfl⟩
  have hob : (h'.push { cls := .type "list", data := .seq (as.map Value.ref).toArray }).get? h'.objs.size = some (PyProof.Rows.seqObj "list" (as.map Value.ref).toArray 0) := Heap.get?_push_size _ rfl
  have kb : ∀ b o, s.heap.get? b = some o → (h'.push { cls := .type "list", data := .seq (as.map Value.ref).toArray }).get? b = some o := fun b o e => Heap.get?_push_of_some _ (hk b o e)
  have ne0 : ∀ b o, h'.get? b = some o → b ≠ h'.objs.size := fun b o e => Nat.ne_of_lt (Heap.lt_size e)
  have ka : ∀ b o, h'.get? b = some o → (h'.push { cls := .type "list", data := .seq (as.map Value.ref).toArray }).get? b = some o := fun b o e => Heap.get?_push_of_some _ e
  generalize hh2 : h'.push { cls := .type "list", data := .seq (as.map Value.ref).toArray } = h2 at hob kb ka ⊢
  have lz : ((pairL ks vs).zip as).length = as.length := by rw [List.length_zip, lp, hla, l2, Nat.min_self]
  have lza : (as.map Value.ref).length = ((pairL ks vs).zip as).length := by rw [List.length_map, lz]
  have at2 : ∀ (j : Nat) (u : Value) (b : D × Addr), (as.map Value.ref)[j]? = some u → ((pairL ks vs).zip as)[j]? = some b → u = .ref b.2 ∧ as[j]? = some b.2 ∧ (pairL ks vs)[j]? = some b.1 := by
    intro j u b hu hb
    obtain ⟨z1, z2⟩ := List.getElem?_zip_eq_some.mp hb
    rw [List.getElem?_map, z2] at hu
    cases hu
    exact ⟨rfl, z2, z1⟩
  have rd : ∀ (j : Nat) (b : D × Addr), as[j]? = some b.2 → (pairL ks vs)[j]? = some b.1 → ∃ rs, Reads h' (.ref b.2) (pyOf b.1) rs := by
    intro j b h1 h2
    obtain ⟨k, v, kb, y, yv, e1, e2, e3, e4, e5⟩ := pr j b.2 h1
    rw [h2] at e1
    have e1 : b.1 = .tup [k, v] := Option.some.inj e1
    obtain ⟨x1, x2, p1, p2, p3⟩ := py_pair (by rw [← e1]; exact f1 b.1 (List.mem_of_getElem? h2))
    rw [p3]
    obtain ⟨r1, q1⟩ := Dp.reads J x1 _ (.ref kb) (e2.dp p1) rfl
    obtain ⟨r2, q2⟩ := Dp.reads J x2 _ yv (e3.dp p2) e4
    exact ⟨_, .tuple e5 rfl rfl (.cons (PyProof.Rows.Reads.keeps hk q1) (.cons (PyProof.Rows.Reads.keeps hk q2) .nil))⟩
  refine PySem.W.list_sort_data (β := D × Addr) (enc := fun b => pyOf b.1) (bs := (pairL ks vs).zip as) (R := fun u b => u = .ref b.2) (s := { s with heap := h2, toks := tk }) hob
    (eachIs_of lza fun j u b h1 h2 => (at2 j u b h1 h2).1) (eachIs_of lza fun j u b h1 h2 => ?_) ?_ ?_ (by rw [lz, hla]; exact hzz) (fun b hb => ?_) fun out ho eo => ?_
  · obtain ⟨rfl, z2, z3⟩ := at2 j u b h1 h2
    obtain ⟨rs, q1⟩ := rd j b z2 z3
    have hm := List.mem_of_getElem? z3
    exact ⟨rs, PyProof.Rows.Reads.keeps ka q1, fun hm2 => absurd (reads_lt _ _ _ (f2 _ hm _ hm) q1 _ hm2) (Nat.lt_irrefl _)⟩
  · intro d hd d' hd'
    obtain ⟨b, hb, rfl⟩ := List.mem_map.mp hd
    obtain ⟨b', hb', rfl⟩ := List.mem_map.mp hd'
    exact f2 _ (mem_zip_fst hb) _ (mem_zip_fst hb')
  · refine f3.imp (fun g d hd => ?_) (fun g d hd => ?_)
    · obtain ⟨b, hb, rfl⟩ := List.mem_map.mp hd
      exact isTupP_ok (g _ (mem_zip_fst hb))
    · obtain ⟨b, hb, rfl⟩ := List.mem_map.mp hd
      exact isOthP_ok (g _ (mem_zip_fst hb))
  · have := f4 _ (mem_zip_fst hb)
    show X.A.units + 1 + 1 + (pyOf b.1).depth < cLine
    omega
  · show EP X pins σ Q (.ref h'.objs.size) { s with heap := PyProof.Rows.sortedHeap h2 h'.objs.size (as.map Value.ref) out.toArray, toks := tk }
    have eout := eachIs_map eo
    generalize ebs : ((pairL ks vs).zip as).mergeSort (PySem.W.dataLe false fun (b : D × Addr) => pyOf b.1) = bs at eout
    have pm : bs.Perm ((pairL ks vs).zip as) := by rw [← ebs]; exact List.mergeSort_perm _ _
    have e1 : bs.map (·.1) = isort dLe (pairL ks vs) := by
      rw [← ebs, srt_mapA, zip_fst (by rw [lp, hla, l2])]
    have idx : ∀ b ∈ bs, ∃ j : Nat, as[j]? = some b.2 ∧ (pairL ks vs)[j]? = some b.1 := by
      intro b hb
      obtain ⟨j, hj⟩ := List.mem_iff_getElem?.mp (pm.mem_iff.mp hb)
      obtain ⟨z1, z2⟩ := List.getElem?_zip_eq_some.mp hj
      exact ⟨j, z2, z1⟩
    have kF : ∀ b o, b ≠ h'.objs.size → h2.get? b = some o → (PyProof.Rows.sortedHeap h2 h'.objs.size (as.map Value.ref) out.toArray).get? b = some o := fun b o hb e => (PyProof.Rows.sortedHeap_old hb (Heap.lt_size e)).trans e
    have kS : ∀ b o, s.heap.get? b = some o → (PyProof.Rows.sortedHeap h2 h'.objs.size (as.map Value.ref) out.toArray).get? b = some o := fun b o e => kF b o (ne0 _ _ (hk b o e)) (kb b o e)
    obtain ⟨eF, heF⟩ := PyProof.Rows.sortedHeap_at (vs := as.map Value.ref) (out := out.toArray) hob
    have I1 : Inv X pins σ H { s with heap := PyProof.Rows.sortedHeap h2 h'.objs.size (as.map Value.ref) out.toArray, toks := tk } := J.kept (t' := tk) kS
    have hn0 : H h'.objs.size = none := J.hok.fresh (Nat.le_of_lt hlt)
    have hlen : (bs.map fun z => V.ref z.2).length ≤ sizeLine := by
      rw [List.length_map, pm.length_eq, lz, hla]; exact hzz
    have rv : Vals (bs.map fun z => V.ref z.2) out := by
      rw [eout]
      exact vals_maps (fun z : D × Addr => V.ref z.2) (fun z => Value.ref z.2) bs fun _ _ => rfl
    have I2 : Inv X pins σ (upd H h'.objs.size (.lst (bs.map fun z => V.ref z.2))) { s with heap := PyProof.Rows.sortedHeap h2 h'.objs.size (as.map Value.ref) out.toArray, toks := tk } :=
      I1.take (h' := PyProof.Rows.sortedHeap h2 h'.objs.size (as.map Value.ref) out.toArray) (t' := tk) (fun b ob _ e => e) (J.fpOk (Nat.le_of_lt hlt) hn0) ⟨hlen, out, eF, rv, heF⟩
    obtain ⟨H2, I3, g, qt⟩ := DX.takeT (P := fun b ws => ∃ (j : Nat) (k v : D) (kb : Addr) (y : V), as[j]? = some b ∧ (pairL ks vs)[j]? = some (.tup [k, v]) ∧ ws = [.ref kb, y] ∧ Rel X.K ρ I H k (.ref kb) ∧ Rel X.K ρ I H v y) J as _ I2 nd fun b hb => by
      obtain ⟨j, hj⟩ := List.mem_iff_getElem?.mp hb
      obtain ⟨k, v, kb', y, yv, z1, z2, z3, z4, z5⟩ := pr j b hj
      have hbl : s.heap.objs.size ≤ b := Nat.le_of_lt (hG.above b hb)
      refine ⟨hbl, ?_, [.ref kb', y], ⟨j, k, v, kb', y, hj, z1, rfl, z2, z3⟩, fun H3 => ⟨(by rw [sizeLine_eq]; show 2 ≤ 16777216; omega), [Value.ref kb', yv], .cons rfl (.cons z4 .nil), ⟨_, kF _ _ (ne0 _ _ z5) (ka _ _ z5), rfl, 0, rfl⟩⟩⟩
      rw [upd_ne (ne0 _ _ z5)]
      exact J.hok.fresh hbl
    have gr : ∀ b o, H b = some o → H2 b = some o := fun b o e => g b o (by rw [upd_ne (ne_of_none e hn0)]; exact e)
    have asn : ∀ b ∈ as, H b = none := fun b hb => J.hok.fresh (Nat.le_of_lt (hG.above b hb))
    have x : Ext I H (fun a => I a ∨ (a = h'.objs.size ∨ a ∈ as)) H2 := ⟨gr, fun _ h => .inl h, fun a z n => by
      rcases z with z | rfl | z
      · exact absurd z n
      · exact ⟨hn0, by rw [g _ _ upd_same]; simp⟩
      · obtain ⟨ws, _, e⟩ := qt a z
        exact ⟨asn a z, by rw [e]; simp⟩⟩
    refine ⟨.ref h'.objs.size, H2, I3, rfl, q _ H2 _ x ?_⟩
    rw [← e1]
    refine .lst ⟨.inr (.inl rfl), g _ _ upd_same⟩ (relL_of fun b hb => ?_)
    obtain ⟨i, i1, i2⟩ := idx b hb
    obtain ⟨ws, ⟨j, k, v, kb', y, j1, j2, rfl, rk, ry⟩, e⟩ := qt b.2 (List.mem_of_getElem? i1)
    have eij : i = j := (List.getElem?_inj (List.getElem?_eq_some_iff.mp i1).1 nd).mp (i1.trans j1.symm)
    subst eij
    have eb : b.1 = .tup [k, v] := Option.some.inj (i2.symm.trans j2)
    rw [eb]
    exact .tup (.inl ⟨.inr (.inr (List.mem_of_getElem? i1)), e⟩) (.cons (rk.ext x nri) (.cons (ry.ext x nri) .nil))
end
end PM
end

section
set_option Elab.async false
set_option linter.all false
set_option maxRecDepth 100000
/-! PM26: sorted(d.items()) as an expression, d[k] = v of an own dict with keys ints and texts, its keys walked. -/
namespace PM
open PySem PySem.Spec L2
variable [PWc]
section
variable {X : Cx} {W : XK} {pos : Pos}
theorem pe_kitems {o : Expr} {apos cpos : Pos} {to : TE} (ho : PE X o to) (hbase : attributeBase o "items" X.env (eval o X.env) = eval o X.env := by rfl) (hline : (apos.endLine == cpos.line) = true := by rfl) :
    PE X (.Call (.Attribute o "items" apos) [] [] cpos) (fun σ H Q => to σ H fun x H1 => ∃ p od es, x = .ref p ∧ H1 p = some (.frz od (kdO p es)) ∧ ∀ l, H1 l = none → Q (.ref l) (upd H1 l (DX.itemsO l p))) := by
  refine ⟨fun pins s σ H Q J h => ?_⟩
  refine wpAny_Call_method (T := "dict") (id := "dict.items") hbase rfl hline PySem.F.plainAttrs_dict PySem.F.slot_dict_items PySem.F.type_dict_items (thn (ho.run pins s σ H _ J h) fun u s1 ⟨x, H1, J1, rx, p, od, es, ex, hH, q1⟩ => ?_)
  subst ex
  obtain rfl : u = Value.ref p := rx
  obtain ⟨t1, t2⟩ := kd_type J1 (.inr ⟨od, hH⟩)
  refine ⟨t1, t2, ?_⟩
  obtain ⟨⟨z, y, dp, xs, kp, o', es', ep, ho', hx, hd, he, hn⟩, _⟩ := (show ObjOk X.prog X.w H1 s1.heap p (kdO p es) from Rd.ok (.inr ⟨od, hH⟩) J1.hok)
  have hraw : DT.Raw s1.heap p es' ep := ⟨o', ho', hx, hd⟩
  have hf : H1 s1.heap.objs.size = none := J1.hok.fresh (Nat.le_refl _)
  have fin : EP X pins σ Q (.ref s1.heap.objs.size) { s1 with heap := s1.heap.push { cls := .type "dict_items", data := .fields #[.ref p] } } :=
    ⟨.ref s1.heap.objs.size, upd H1 s1.heap.objs.size (DX.itemsO s1.heap.objs.size p), J1.laid (t' := s1.toks) (fun b u e => Heap.get?_push_of_some _ e) (Nat.le_refl _) (DX.itemsO_ok (Heap.get?_push_size _ rfl)), rfl, q1 _ hf⟩
  show wpAny _ _ (callWith cpos (.builtin "dict.items") [.ref p] [] []) _ X.xe s1
  exact method_meetsIn PySem.F.slot_dict_items PySem.F.entry_dict_items rfl (PySem.evalArgs_none ⟨rfl, t1, PySem.F.args_dict_items_1 _, _, DT.meetsItems (es := es') (ep := ep) y, hraw, fin⟩)
def eSortIt (fd : S → R D) (s : S) : R D := (fd s).bind fun d s => match d with
  | .kdt ks vs => if sortOk (pairL ks vs) = true then .ok (.lst (isort dLe (pairL ks vs))) s else .stuck
  | _ => .stuck
theorem d_sortIt {o : Expr} {p apos cpos : Pos} {fd : S → R D} (hw : HW X) (hu : X.A.units + 64 < cLine) (hc : X.calm = true) (hg : Gl X "sorted") (hm : X.mg "sorted" = none) (ho : PEd X W fd o)
    (hbase : attributeBase o "items" X.env (eval o X.env) = eval o X.env := by rfl) (hline : (apos.endLine == cpos.line) = true := by rfl)
    (he : starEach [.Call (.Attribute o "items" apos) [] [] cpos] X.env = (false, eval (.Call (.Attribute o "items" apos) [] [] cpos) X.env) :: starEach [] X.env := by rfl) (hpl : (backTo pos (starEach [] X.env)).any (·.1) = false := by rfl) :
    PEd X W (eSortIt fd) (.Call (.Name "sorted" p) [.Call (.Attribute o "items" apos) [] [] cpos] [] pos) := by
  refine PE.imp (pe_callB (cr_sortedKd hw hu hc) hg hm (by decide +kernel) (pa_cons (pe_kitems ho hbase hline) pa_nil he) (by decide) (by decide) he hpl) fun σ H Q ⟨ρ, I, s, M, E, h⟩ => ?_
  refine dG.bind M E h fun d s1 ρ1 I1 H1 v M1 E1 rd _ h => ?_
  cases d with
  | kdt ks vs =>
    dsimp only at h
    split at h
    · rename_i hs
      cases rd with
      | @kdt _ _ p od es hi hH r1 r2 rk =>
        refine ⟨p, od, es, rfl, hH, fun l hl => ?_⟩
        have x1 : Ext I1 H1 I1 (upd H1 l (DX.itemsO l p)) := Ext.fresh hl
        refine ⟨l, p, od, es, ρ1, I1, ks, vs, rfl, upd_same, x1.keep _ _ hH, ⟨r1.ext x1 M1.dis, r2.ext x1 M1.dis, rk⟩, M1.dis, hs, fun I' H' w x r => ?_⟩
        exact h.here (x1.trans x) M1 E1 r
    · exact h.elim
  | _ => exact h.elim
/-! ### x[k] = v, x owns the dict (keys ints and texts) -/
def ownD (e : List (Option Cell)) (i : Nat) : Option (List Key × List D) := match e[i]? with
  | some (some (.own (.dct ks vs))) => some (ks, vs)
  | _ => none
theorem ownD_of {e : List (Option Cell)} {i : Nat} {q : List Key × List D} (h : ownD e i = some q) : e[i]? = some (some (.own (.dct q.1 q.2))) := by
  unfold ownD at h
  split at h
  · rename_i w; cases h; exact w
  · cases h
/-- no key twice -/
def nodupK (ks : List Key) : Bool := decide ks.Nodup
def sDPut (i : Nat) (fk fv : S → R D) (s : S) : Rs := (fv s).stm fun d s => match ownD s.env i with
  | none => .stuck
  | some _ => (fk s).stm fun k s => match ownD s.env i with
    | none => .stuck
    | some (ks, vs) => match keyD k with
      | some a => if nodupK ks = true ∧ ks.length < sizeLine then .next { s with env := s.env.set i (some (.own (.dct (putKs ks a) (putVs ks vs a d)))) } else .stuck
      | none => .stuck
def tDPutO (i : Nat) (ty tv : TE) : TS := fun De σ H => tv σ H fun v H1 => ∃ p, σ[i]? = some (some (.ref p)) ∧ ty σ H1 fun y H2 => ∃ H4, DPut H2 p y v H4 ∧ De.nx σ H4
theorem ps_dputO {i : Nat} {x : Str} {p0 pos' : Pos} {ki value : Expr} {ty tv : TE} (hu : X.A.units + 1 < cLine) (hN : X.N[i]? = some x) (hv : Vis X.env.scope x) (hi : PE X ki ty) (hval : PE X value tv) (hs : swapsWith value (some (.Subscript (.Name x p0) ki pos')) pos.line X.env = pure false)
    (hd : (x == ("__debug__" : Str)) = false := by decide) (hcd : (x == ("__classdict__" : Str)) = false := by decide) : PS X (.Assign [.Subscript (.Name x p0) ki pos'] value pos) (tDPutO i ty tv) := by
  have ho : PE X (.Name x p0) (tVar i) := pe_var hN hv hd hcd
  refine ⟨fun pins s σ H De J h => ?_⟩
  refine wpAny_Assign_Subscript (thn (hval.run pins s σ H _ J h) fun r s1 ⟨v, H1, J1, rv, p, hp, q1⟩ => thn (ho.run pins s1 σ H1 (fun x H' => x = .ref p ∧ H' = H1) J1 ⟨.ref p, hp, rfl, rfl⟩) fun u s2 ⟨x, H2, J2, rx, ex, eH⟩ => ?_) hs
  subst ex eH
  obtain rfl : u = Value.ref p := rx
  refine thn (hi.run pins s2 σ H2 _ J2 q1) fun iv s3 ⟨y, H3, J3, ry, H4, g, q3⟩ => ?_
  exact d_setItem hu J3 g ry rv fun s4 J4 => ⟨σ, H4, J4, q3⟩
theorem s_dput {i : Nat} {x : Str} {p0 pos' : Pos} {ki value : Expr} {fk fv : S → R D} (hu : X.A.units + 1 < cLine) (hN : X.N[i]? = some x) (hv : Vis X.env.scope x) (hi : PEd X W fk ki) (hval : PEd X W fv value)
    (hs : swapsWith value (some (.Subscript (.Name x p0) ki pos')) pos.line X.env = pure false := by rfl) (hd : (x == ("__debug__" : Str)) = false := by decide) (hcd : (x == ("__classdict__" : Str)) = false := by decide) :
    PSd X W (sDPut i fk fv) (.Assign [.Subscript (.Name x p0) ki pos'] value pos) := by
  refine PS.imp (ps_dputO hu hN hv hi hval hs hd hcd) fun De σ H ⟨ρ, I, s, M, E, h⟩ => ?_
  refine dG.stm M E h fun d s1 ρ1 I1 H1 v f1 M1 E1 r1 h => ?_
  cases e1 : ownD s1.env i with
  | none => rw [e1] at h; exact h.elim
  | some q1 =>
    rw [e1] at h
    obtain ⟨p, hp, _, _, _⟩ := E1.own i _ (ownD_of e1)
    refine ⟨p, hp, dG.stm M1 E1 h fun k s2 ρ2 I2 H2 y f2 M2 E2 rk h => ?_⟩
    have rd := r1.lat (f2.lat M1.dis fun p o => (E1.ownI o).2.1)
    cases e2 : ownD s2.env i with
    | none => rw [e2] at h; exact h.elim
    | some q2 =>
      obtain ⟨ks, vs⟩ := q2
      rw [e2] at h
      dsimp only at h
      cases ek : keyD k with
      | none => rw [ek] at h; exact h.elim
      | some a =>
        rw [ek] at h
        dsimp only at h
        by_cases hc : nodupK ks = true ∧ ks.length < sizeLine
        · rw [if_pos hc] at h
          obtain ⟨p', hp', ⟨kvs, hes, ek2, r2⟩, _, _⟩ := E2.own i _ (ownD_of e2)
          rw [hp] at hp'
          cases hp'
          have ek2 : ks = kvs.map (·.1) := ek2
          subst ek2
          have nd : (kvs.map (·.1)).Nodup := of_decide_eq_true hc.1
          have ekv := keyD_rel rk ek
          subst ekv
          obtain ⟨a1, b1, c1⟩ := own_upd (o' := .dct (putKs (kvs.map (·.1)) a) (putVs (kvs.map (·.1)) vs a d)) (u := .dK (putK kvs a v)) M2 E2 (ownD_of e2) hp fun H' l hh => ⟨_, hh, (putK_map nd a v).1.symm, putVs_rel (rd.lat l) nd (r2.lat l)⟩
          exact ⟨_, DPut.k hes (by have := hc.2; rwa [List.length_map] at this), h _ _ _ _ a1 b1 c1⟩
        · rw [if_neg hc] at h; exact h.elim
/-! ### the keys of a dict, walked -/
def keyToD : Key → D
  | .inl i => .int i
  | .inr x => .str x
def iKeysD (f : S → R D) (s : S) : R (List D) := (f s).bind fun d s => match d with
  | .dct ks _ => .ok (ks.map keyToD) s
  | _ => .stuck
theorem rel_key {K : KF} {ρ : List Addr} {I : Addr → Prop} {H : Hp} (k : Key) : Rel K ρ I H (keyToD k) (kV k) := by
  cases k with
  | inl i => exact .int i
  | inr x => exact .str x
theorem i_keys {f : S → R D} {tg l : Expr} (hl : PEd X W f l) : PId X W (iKeysD f) tg l := by
  refine PI.imp (pi_keys hl) fun σ H Q ⟨ρ, I, s, M, E, h⟩ => ?_
  refine dG.bind M E h fun d s1 ρ1 I1 H1 v M1 E1 rd _ h => ?_
  cases d with
  | dct ks vs =>
    cases rd with
    | @dct _ p od kvs hi hH r2 =>
      refine ⟨p, od, rfl, .inl ⟨kvs, hH, ?_⟩⟩
      have h' : Fin X.K X.mg W (fun ρ I H ds J => Yields X.K ρ I H ds J) σ Q ρ1 I1 H1 (Own σ s1.env) (.ok ((kvs.map (·.1)).map keyToD) s1) := h
      refine h'.here (Ext.refl _ _) M1 E1 fun ρ' I' H' f n i => ⟨fun d hd => ?_, fun hle => ⟨f.same _ _ hi hH, by simpa using hle⟩⟩
      have hi' : i < kvs.length := by have := (List.getElem?_eq_some_iff.mp hd).1; simpa using this
      refine ⟨⟨f.same _ _ hi hH, hi'⟩, fun x H'' y => ?_⟩
      obtain ⟨e, k, v, hk, ex⟩ := y
      subst e ex
      rw [List.getElem?_map, List.getElem?_map, hk] at hd
      cases hd
      exact ⟨I', Ext.refl _ _, rel_key k⟩
  | _ => exact h.elim
end
end PM
end

section
set_option Elab.async false
set_option linter.all false
set_option maxRecDepth 100000
/-! PM27: a display of two pairs with written keys. -/
namespace PM
open PySem PySem.Spec L2
variable [PWc]
section
variable {X : Cx} {W : XK} {pos : Pos}
def fDisp2 (k1 k2 : Str) (f1 f2 : S → R D) (s : S) : R MO := (f1 s).bind fun d1 s => (f2 s).bind fun d2 s => if k1 = k2 then .stuck else .ok (.dct [.inr k1, .inr k2] [d1, d2]) s
theorem f_disp2 {k1 k2 : Str} {e1 e2 : Expr} {f1 f2 : S → R D} {p1 p2 : Pos} {i1 i2} (h1 : PEd X W f1 e1) (h2 : PEd X W f2 e2) : PFd X W (fDisp2 k1 k2 f1 f2) (.Dict [some (.Constant (.str k1) i1 p1), some (.Constant (.str k2) i2 p2)] [e1, e2] pos) := by
  refine PE.imp (pe_disp (pps_cons pe_str h1 (pps_cons pe_str h2 pps_nil)) rfl rfl (by simp) (by simp)) fun σ H Q ⟨ρ, I, s, M, E, h⟩ => fun p hp => ?_
  have nI : ¬ I p := fun z => M.dom _ z hp
  have nr : p ∉ ρ := fun z => M.there z hp
  have no : ¬ Own σ s.env p := fun z => (E.ownI z).1 hp
  obtain ⟨l0, M0, E0⟩ := priv_ok (u := .dK []) M E nI nr no
  have b0 : BlkD X.K σ p ρ I H (Own σ s.env) ρ I (upd H p (.dK [])) s [] [] := ⟨(Frm.refl ρ I H _).priv hp, M0, E0, upd_same, .nil, .nil, nI, nr, no⟩
  show dE X.K X.mg W f1 σ (upd H p (.dK [])) _
  refine ⟨ρ, I, s, M0, E0, ?_⟩
  unfold fDisp2 at h
  cases q1 : f1 s with
  | stuck => rw [q1] at h; exact h.elim
  | err x m => rw [q1] at h; exact fun ρ' I' H' O' cls dx fr M' r => h ρ' I' H' O' cls dx (b0.fr.trans fr) M' r
  | ok d1 s1 =>
    rw [q1] at h
    intro ρ1 I1 H1 v1 fr1 M1 E1 r1
    have b1 := b0.go fr1 M1 E1
    show dE X.K X.mg W f2 σ H1 _
    refine ⟨ρ1, I1, s1, M1, E1, ?_⟩
    have h : FinO X.K X.mg W σ Q ρ I H (Own σ s.env) ((f2 s1).bind fun d2 s => if k1 = k2 then .stuck else .ok (.dct [.inr k1, .inr k2] [d1, d2]) s) := h
    cases q2 : f2 s1 with
    | stuck => rw [q2] at h; exact h.elim
    | err x m => rw [q2] at h; exact fun ρ' I' H' O' cls dx fr M' r => h ρ' I' H' O' cls dx (b1.fr.trans fr) M' r
    | ok d2 s2 =>
      rw [q2] at h
      intro ρ2 I2 H2 v2 fr2 M2 E2 r2
      have b2 := b1.go fr2 M2 E2
      have r1' := r1.lat (fr2.lat M1.dis fun p o => (E1.ownI o).2.1)
      have h : FinO X.K X.mg W σ Q ρ I H (Own σ s.env) (if k1 = k2 then .stuck else .ok (.dct [.inr k1, .inr k2] [d1, d2]) s2) := h
      by_cases hk : k1 = k2
      · rw [if_pos hk] at h; exact h.elim
      · rw [if_neg hk] at h
        show H2 p = some (.dK []) ∧ _
        refine ⟨b2.hD, [(.inr k1, v1), (.inr k2, v2)], rfl, by show 2 ≤ 15; omega, ?_⟩
        have em : mergeK [] [(.inr k1, v1), (.inr k2, v2)] = ([(.inr k1, v1), (.inr k2, v2)] : List (Key × V)) := by
          simp [mergeK, putK, hk]
        rw [em]
        obtain ⟨l, M3, E3⟩ := priv_ok (u := .dK [(.inr k1, v1), (.inr k2, v2)]) b2.M b2.E b2.nI b2.nr b2.no
        exact h ρ2 I2 _ p (b2.fr.priv hp) M3 E3 ⟨_, upd_same, rfl, .cons (r1'.lat l) (.cons (r2.lat l) .nil)⟩ b2.nI b2.nr b2.no hp
end
end PM
end

section
set_option Elab.async false
set_option linter.all false
set_option maxRecDepth 100000
set_option maxHeartbeats 4000000
namespace K02
open PySem PySem.Spec L2 PM
/-- the text by places -/
def top (i : Nat) : Stmt := PySem.Challenge.pw_joinsay_k02_values_hold.main.body.getD i (.Pass ⟨0, 0, 0, 0⟩)
abbrev st_is_integer : Stmt := top 12
theorem sc_is_integer : FnScope ["thing"] ["thing"] (defScope st_is_integer) := ⟨rfl, rfl, rfl, by decide +kernel, rfl, by decide +kernel, by decide +kernel⟩
abbrev st_is_name : Stmt := top 13
theorem sc_is_name : FnScope ["thing", "sign"] ["thing"] (defScope st_is_name) := ⟨rfl, rfl, rfl, by decide +kernel, rfl, by decide +kernel, by decide +kernel⟩
abbrev st_is_form : Stmt := top 14
theorem sc_is_form : FnScope ["thing", "word", "many"] ["thing", "word", "many"] (defScope st_is_form) := ⟨rfl, rfl, rfl, by decide +kernel, rfl, by decide +kernel, by decide +kernel⟩
abbrev st_is_sort : Stmt := top 15
theorem sc_is_sort : FnScope ["shape", "things", "deep", "most"] ["shape", "things"] (defScope st_is_sort) := ⟨rfl, rfl, rfl, by decide +kernel, rfl, by decide +kernel, by decide +kernel⟩
abbrev st_inmost : Stmt := top 16
theorem sc_inmost : FnScope ["sort"] ["sort"] (defScope st_inmost) := ⟨rfl, rfl, rfl, by decide +kernel, rfl, by decide +kernel, by decide +kernel⟩
abbrev st_is_place : Stmt := top 17
theorem sc_is_place : FnScope ["shape", "things", "inner"] ["shape", "things"] (defScope st_is_place) := ⟨rfl, rfl, rfl, by decide +kernel, rfl, by decide +kernel, by decide +kernel⟩
abbrev st_is_shallow : Stmt := top 34
theorem sc_is_shallow : FnScope ["thing", "row", "_", "one", "member"] ["thing"] (defScope st_is_shallow) := ⟨rfl, rfl, rfl, by decide +kernel, rfl, by decide +kernel, by decide +kernel⟩
abbrev st_is_numeral : Stmt := top 35
theorem sc_is_numeral : FnScope ["thing"] ["thing"] (defScope st_is_numeral) := ⟨rfl, rfl, rfl, by decide +kernel, rfl, by decide +kernel, by decide +kernel⟩
abbrev st_is_word : Stmt := top 36
theorem sc_is_word : FnScope ["thing", "bit"] ["thing"] (defScope st_is_word) := ⟨rfl, rfl, rfl, by decide +kernel, rfl, by decide +kernel, by decide +kernel⟩
abbrev st_sort_of_un : Stmt := top 37
theorem sc_sort_of_un : FnScope ["own", "term", "unknowns", "places", "sort", "one"] ["own", "term"] (defScope st_sort_of_un) := ⟨rfl, rfl, rfl, by decide +kernel, rfl, by decide +kernel, by decide +kernel⟩
abbrev st_sort_of_list : Stmt := top 38
theorem sc_sort_of_list : FnScope ["own", "term", "head", "tail"] ["own", "term"] (defScope st_sort_of_list) := ⟨rfl, rfl, rfl, by decide +kernel, rfl, by decide +kernel, by decide +kernel⟩
abbrev st_sort_of_set : Stmt := top 39
theorem sc_sort_of_set : FnScope ["own", "term", "inner"] ["own", "term"] (defScope st_sort_of_set) := ⟨rfl, rfl, rfl, by decide +kernel, rfl, by decide +kernel, by decide +kernel⟩
abbrev st_sort_of_two : Stmt := top 40
theorem sc_sort_of_two : FnScope ["own", "terms", "word", "sort"] ["own", "terms", "word"] (defScope st_sort_of_two) := ⟨rfl, rfl, rfl, by decide +kernel, rfl, by decide +kernel, by decide +kernel⟩
abbrev st_sort_of_bits : Stmt := top 41
theorem sc_sort_of_bits : FnScope ["own", "term", "sort"] ["own", "term"] (defScope st_sort_of_bits) := ⟨rfl, rfl, rfl, by decide +kernel, rfl, by decide +kernel, by decide +kernel⟩
abbrev st_sort_in : Stmt := top 42
theorem sc_sort_in : FnScope ["own", "term", "word"] ["own", "term"] (defScope st_sort_in) := ⟨rfl, rfl, rfl, by decide +kernel, rfl, by decide +kernel, by decide +kernel⟩
abbrev st_is_claim_in : Stmt := top 43
theorem sc_is_claim_in : FnScope ["own", "claim", "word", "one", "other"] ["own", "claim"] (defScope st_is_claim_in) := ⟨rfl, rfl, rfl, by decide +kernel, rfl, by decide +kernel, by decide +kernel⟩
abbrev st_parts_of : Stmt := top 44
theorem sc_parts_of : FnScope ["part"] ["part"] (defScope st_parts_of) := ⟨rfl, rfl, rfl, by decide +kernel, rfl, by decide +kernel, by decide +kernel⟩
abbrev st_all_parts : Stmt := top 45
theorem sc_all_parts : FnScope ["part", "told", "left", "one"] ["part"] (defScope st_all_parts) := ⟨rfl, rfl, rfl, by decide +kernel, rfl, by decide +kernel, by decide +kernel⟩
abbrev st_own_of : Stmt := top 46
theorem sc_own_of : FnScope ["text", "name", "places", "sort"] ["text"] (defScope st_own_of) := ⟨rfl, rfl, rfl, by decide +kernel, rfl, by decide +kernel, by decide +kernel⟩
abbrev st_is_unknown : Stmt := top 47
theorem sc_is_unknown : FnScope ["thing", "things", "place"] ["thing", "things"] (defScope st_is_unknown) := ⟨rfl, rfl, rfl, by decide +kernel, rfl, by decide +kernel, by decide +kernel⟩
abbrev st_is_small_claim : Stmt := top 48
theorem sc_is_small_claim : FnScope ["thing", "own"] ["thing", "own"] (defScope st_is_small_claim) := ⟨rfl, rfl, rfl, by decide +kernel, rfl, by decide +kernel, by decide +kernel⟩
abbrev st_is_text : Stmt := top 49
theorem sc_is_text : FnScope ["shape", "_", "things", "unknowns", "claims", "names", "own", "one", "claim", "name"] ["shape"] (defScope st_is_text) := ⟨rfl, rfl, rfl, by decide +kernel, rfl, by decide +kernel, by decide +kernel⟩
abbrev st_sure_text : Stmt := top 50
theorem sc_sure_text : FnScope ["text"] ["text"] (defScope st_sure_text) := ⟨rfl, rfl, rfl, by decide +kernel, rfl, by decide +kernel, by decide +kernel⟩
abbrev st_ratio : Stmt := top 52
theorem sc_ratio : FnScope ["top", "bottom", "shared", "side"] ["top", "bottom"] (defScope st_ratio) := ⟨rfl, rfl, rfl, by decide +kernel, rfl, by decide +kernel, by decide +kernel⟩
abbrev st_is_ratio : Stmt := top 53
theorem sc_is_ratio : FnScope ["thing"] ["thing"] (defScope st_is_ratio) := ⟨rfl, rfl, rfl, by decide +kernel, rfl, by decide +kernel, by decide +kernel⟩
abbrev st_is_value : Stmt := top 54
theorem sc_is_value : FnScope ["thing", "sort", "one", "bit"] ["thing", "sort"] (defScope st_is_value) := ⟨rfl, rfl, rfl, by decide +kernel, rfl, by decide +kernel, by decide +kernel⟩
abbrev st_are_ascending : Stmt := top 55
theorem sc_are_ascending : FnScope ["row", "one", "other"] ["row"] (defScope st_are_ascending) := ⟨rfl, rfl, rfl, by decide +kernel, rfl, by decide +kernel, by decide +kernel⟩
abbrev st_is_table : Stmt := top 56
theorem sc_is_table : FnScope ["thing", "places", "sort", "pair", "one", "place"] ["thing", "places", "sort"] (defScope st_is_table) := ⟨rfl, rfl, rfl, by decide +kernel, rfl, by decide +kernel, by decide +kernel⟩
abbrev st_is_choice : Stmt := top 57
theorem sc_is_choice : FnScope ["model", "text", "name", "places", "sort", "told"] ["model", "text"] (defScope st_is_choice) := ⟨rfl, rfl, rfl, by decide +kernel, rfl, by decide +kernel, by decide +kernel⟩
abbrev st_found_in : Stmt := top 58
theorem sc_found_in : FnScope ["table", "args", "others", "told"] ["table", "args"] (defScope st_found_in) := ⟨rfl, rfl, rfl, by decide +kernel, rfl, by decide +kernel, by decide +kernel⟩
abbrev st_summed : Stmt := top 59
theorem sc_summed : FnScope ["one", "other", "told", "carry", "first", "second", "whole"] ["one", "other"] (defScope st_summed) := ⟨rfl, rfl, rfl, by decide +kernel, rfl, by decide +kernel, by decide +kernel⟩
abbrev st_gated : Stmt := top 60
theorem sc_gated : FnScope ["word", "one", "other", "first", "second"] ["word", "one", "other"] (defScope st_gated) := ⟨rfl, rfl, rfl, by decide +kernel, rfl, by decide +kernel, by decide +kernel⟩
abbrev st_counted : Stmt := top 61
theorem sc_counted : FnScope ["word", "one", "other", "side"] ["word", "one", "other"] (defScope st_counted) := ⟨rfl, rfl, rfl, by decide +kernel, rfl, by decide +kernel, by decide +kernel⟩
abbrev st_gathered : Stmt := top 62
theorem sc_gathered : FnScope ["word", "one", "other", "member"] ["word", "one", "other"] (defScope st_gathered) := ⟨rfl, rfl, rfl, by decide +kernel, rfl, by decide +kernel, by decide +kernel⟩
abbrev st_made : Stmt := top 63
theorem sc_made : FnScope ["term", "args", "word", "bit"] ["term", "args"] (defScope st_made) := ⟨rfl, rfl, rfl, by decide +kernel, rfl, by decide +kernel, by decide +kernel⟩
abbrev st_below : Stmt := top 64
theorem sc_below : FnScope ["one", "other"] ["one", "other"] (defScope st_below) := ⟨rfl, rfl, rfl, by decide +kernel, rfl, by decide +kernel, by decide +kernel⟩
abbrev st_asked : Stmt := top 65
theorem sc_asked : FnScope ["word", "one", "other", "left", "right"] ["word", "one", "other"] (defScope st_asked) := ⟨rfl, rfl, rfl, by decide +kernel, rfl, by decide +kernel, by decide +kernel⟩
abbrev st_worth : Stmt := top 66
theorem sc_worth : FnScope ["model", "term", "args", "one"] ["model", "term"] (defScope st_worth) := ⟨rfl, rfl, rfl, by decide +kernel, rfl, by decide +kernel, by decide +kernel⟩
abbrev st_holds : Stmt := top 67
theorem sc_holds : FnScope ["model", "claim", "word"] ["model", "claim"] (defScope st_holds) := ⟨rfl, rfl, rfl, by decide +kernel, rfl, by decide +kernel, by decide +kernel⟩
abbrev st_sure_choice : Stmt := top 68
theorem sc_sure_choice : FnScope ["text", "model"] ["text", "model"] (defScope st_sure_choice) := ⟨rfl, rfl, rfl, by decide +kernel, rfl, by decide +kernel, by decide +kernel⟩
abbrev st_value_at : Stmt := top 69
theorem sc_value_at : FnScope ["text", "model", "term"] ["text", "model", "term"] (defScope st_value_at) := ⟨rfl, rfl, rfl, by decide +kernel, rfl, by decide +kernel, by decide +kernel⟩
abbrev st_holds_at : Stmt := top 70
theorem sc_holds_at : FnScope ["text", "model", "claim"] ["text", "model", "claim"] (defScope st_holds_at) := ⟨rfl, rfl, rfl, by decide +kernel, rfl, by decide +kernel, by decide +kernel⟩
abbrev st_is_model : Stmt := top 71
theorem sc_is_model : FnScope ["text", "model", "claim"] ["text", "model"] (defScope st_is_model) := ⟨rfl, rfl, rfl, by decide +kernel, rfl, by decide +kernel, by decide +kernel⟩
abbrev st__law_cell : Stmt := top 73
theorem sc__law_cell : FnScope ["script", "k"] ["script", "k"] (defScope st__law_cell) := ⟨rfl, rfl, rfl, by decide +kernel, rfl, by decide +kernel, by decide +kernel⟩
abbrev st__law_digits : Stmt := top 74
theorem sc__law_digits : FnScope ["script", "first", "last", "found", "k", "c", "n", "turn", "s"] ["script", "first", "last"] (defScope st__law_digits) := ⟨rfl, rfl, rfl, by decide +kernel, rfl, by decide +kernel, by decide +kernel⟩
abbrev st__law_draw : Stmt := top 75
theorem sc__law_draw : FnScope ["box", "m", "digits", "at"] ["box", "m"] (defScope st__law_draw) := ⟨rfl, rfl, rfl, by decide +kernel, rfl, by decide +kernel, by decide +kernel⟩
abbrev st__law_pick : Stmt := top 76
theorem sc__law_pick : FnScope ["box", "rows"] ["box", "rows"] (defScope st__law_pick) := ⟨rfl, rfl, rfl, by decide +kernel, rfl, by decide +kernel, by decide +kernel⟩
abbrev st__law_unknowns : Stmt := top 77
theorem sc__law_unknowns : FnScope ["a", "rows"] [] (defScope st__law_unknowns) := ⟨rfl, rfl, rfl, by decide +kernel, rfl, by decide +kernel, by decide +kernel⟩
abbrev st__law_term : Stmt := top 78
theorem sc__law_term : FnScope ["box", "rows", "sort", "deep", "fit", "kind", "name", "places", "own", "word", "row", "place"] ["box", "rows", "sort", "deep"] (defScope st__law_term) := ⟨rfl, rfl, rfl, by decide +kernel, rfl, by decide +kernel, by decide +kernel⟩
abbrev st__law_atom : Stmt := top 79
theorem sc__law_atom : FnScope ["box", "rows", "deep", "a", "sorts", "sort", "row"] ["box", "rows", "deep"] (defScope st__law_atom) := ⟨rfl, rfl, rfl, by decide +kernel, rfl, by decide +kernel, by decide +kernel⟩
abbrev st__law_claim : Stmt := top 80
theorem sc__law_claim : FnScope ["box", "rows", "deep", "size", "kind", "word"] ["box", "rows", "deep", "size"] (defScope st__law_claim) := ⟨rfl, rfl, rfl, by decide +kernel, rfl, by decide +kernel, by decide +kernel⟩
abbrev st__law_some : Stmt := top 81
theorem sc__law_some : FnScope ["box", "rows", "kept", "row"] ["box"] (defScope st__law_some) := ⟨rfl, rfl, rfl, by decide +kernel, rfl, by decide +kernel, by decide +kernel⟩
abbrev st__law_made : Stmt := top 82
theorem sc__law_made : FnScope ["word", "args", "one"] ["word", "args"] (defScope st__law_made) := ⟨rfl, rfl, rfl, by decide +kernel, rfl, by decide +kernel, by decide +kernel⟩
abbrev st__law_worth : Stmt := top 83
theorem sc__law_worth : FnScope ["model", "term", "args", "pairs", "rest", "one"] ["model", "term"] (defScope st__law_worth) := ⟨rfl, rfl, rfl, by decide +kernel, rfl, by decide +kernel, by decide +kernel⟩
abbrev st__law_holds : Stmt := top 84
theorem sc__law_holds : FnScope ["model", "claim", "word", "one", "other"] ["model", "claim"] (defScope st__law_holds) := ⟨rfl, rfl, rfl, by decide +kernel, rfl, by decide +kernel, by decide +kernel⟩
abbrev st__law_value : Stmt := top 85
theorem sc__law_value : FnScope ["box", "sort", "many", "rows", "k", "one"] ["box", "sort", "many"] (defScope st__law_value) := ⟨rfl, rfl, rfl, by decide +kernel, rfl, by decide +kernel, by decide +kernel⟩
abbrev st__law_model : Stmt := top 86
theorem sc__law_model : FnScope ["box", "rows", "many", "found", "name", "places", "sort", "pairs", "k", "place"] ["box", "rows", "many"] (defScope st__law_model) := ⟨rfl, rfl, rfl, by decide +kernel, rfl, by decide +kernel, by decide +kernel⟩
abbrev st__law_like : Stmt := top 87
theorem sc__law_like : FnScope ["told", "due", "k"] ["told", "due"] (defScope st__law_like) := ⟨rfl, rfl, rfl, by decide +kernel, rfl, by decide +kernel, by decide +kernel⟩
abbrev st__law_told_value : Stmt := top 88
theorem sc__law_told_value : FnScope ["text", "model", "term", "error"] ["text", "model", "term"] (defScope st__law_told_value) := ⟨rfl, rfl, rfl, by decide +kernel, rfl, by decide +kernel, by decide +kernel⟩
abbrev st__law_told_truth : Stmt := top 89
theorem sc__law_told_truth : FnScope ["text", "model", "claim", "error"] ["text", "model", "claim"] (defScope st__law_told_truth) := ⟨rfl, rfl, rfl, by decide +kernel, rfl, by decide +kernel, by decide +kernel⟩
abbrev st__law_with : Stmt := top 90
theorem sc__law_with : FnScope ["model", "name", "value", "found"] ["model", "name", "value"] (defScope st__law_with) := ⟨rfl, rfl, rfl, by decide +kernel, rfl, by decide +kernel, by decide +kernel⟩
abbrev st__law_wrong : Stmt := top 91
theorem sc__law_wrong : FnScope ["model", "rows", "name"] ["model"] (defScope st__law_wrong) := ⟨rfl, rfl, rfl, by decide +kernel, rfl, by decide +kernel, by decide +kernel⟩
abbrev st__law_numbers_right : Stmt := top 92
theorem sc__law_numbers_right : FnScope ["n", "w", "text", "model", "terms", "told", "claims", "wrong", "one", "term", "claim"] [] (defScope st__law_numbers_right) := ⟨rfl, rfl, rfl, by decide +kernel, rfl, by decide +kernel, by decide +kernel⟩
abbrev st_law : Stmt := top 93
theorem sc_law : FnScope ["script", "box", "rows", "model", "a", "claims", "text", "sort", "truths", "right", "x", "plain", "turn", "told", "term", "wrong", "k", "claim"] ["script"] (defScope st_law) := ⟨rfl, rfl, rfl, by decide +kernel, rfl, by decide +kernel, by decide +kernel⟩
abbrev Cl := Nat → List D → List MO → Rf
variable [PWc]
def body_is_integer (cl : Cl) : S → Rs :=
  (sRet (eAnd (eIsi .int (eLoc 0)) (eNot (eIsi .bool (eLoc 0)))))
def body_is_name (cl : Cl) : S → Rs :=
  (sSeq (sIf (tOrD (tNotD (eTr (eIsi .str (eLoc 0)))) (tNotD (eBl (eChain leD leD (eC (.int (1))) (eCall lenD (aCons (eLoc 0) aNil)) (eC (.int (8)))))))
    (sRet (eC (.bl false)))
    sNil)
    (sRet (eAnd (eOp inD (eOp ixSq (eLoc 0) (eC (.int (0)))) (eC (.str "abcdefghijklmnopqrstuvwxyz"))) (eCall allD (aCons (eFrz (eLc [1] (.nm 1) (iAny (eLoc 0)) tYesD (eOp inD (eLoc 1) (eC (.str "abcdefghijklmnopqrstuvwxyz0123456789_"))))) aNil)))))
def body_is_form (cl : Cl) : S → Rs :=
  (sSeq (sIf (tOrD (tNotD (eTr (eIsi .tuple (eLoc 0)))) (eBl (eOp neD (eCall lenD (aCons (eLoc 0) aNil)) (eLoc 2))))
    (sRet (eC (.bl false)))
    sNil)
    (sRet (eAnd (eIsi .str (eOp ixSq (eLoc 0) (eC (.int (0))))) (eOp eqD (eOp ixSq (eLoc 0) (eC (.int (0)))) (eLoc 1)))))
def body_is_sort (cl : Cl) : S → Rs :=
  (sSeq (sPar 2 3 (aCons (eC (.int (1))) (aCons (eC (.int (6))) aNil)))
    (sSeq (sWhile (tOrD (eTr (eFn (fun ds m => if ds.length = 3 then cl 2 ds m else .stuck) (aCons (eLoc 0) (aCons (eC (.str "list")) (aCons (eC (.int (2))) aNil))))) (eTr (eFn (fun ds m => if ds.length = 3 then cl 2 ds m else .stuck) (aCons (eLoc 0) (aCons (eC (.str "set")) (aCons (eC (.int (2))) aNil))))))
    (sSeq (sIf (eBl (eOp eqD (eLoc 2) (eC (.int (3)))))
    (sRet (eC (.bl false)))
    sNil)
    (sSeq (sAug addI 2 (eC (.int (1))))
    (sSeq (sIf (eBl (eOp eqD (eOp ixSq (eLoc 0) (eC (.int (0)))) (eC (.str "set"))))
    (sSet 3 (eC (.int (3))))
    sNil)
    (sSet 0 (eOp ixSq (eLoc 0) (eC (.int (1)))))))) 3000)
    (sSeq (sIf (eTr (eFn (fun ds m => if ds.length = 3 then cl 2 ds m else .stuck) (aCons (eLoc 0) (aCons (eC (.str "num")) (aCons (eC (.int (1))) aNil)))))
    (sRet (eC (.bl true)))
    sNil)
    (sSeq (sIf (eTr (eFn (fun ds m => if ds.length = 3 then cl 2 ds m else .stuck) (aCons (eLoc 0) (aCons (eC (.str "things")) (aCons (eC (.int (2))) aNil)))))
    (sRet (eAnd (eIsi .str (eOp ixSq (eLoc 0) (eC (.int (1))))) (eOp inD (eOp ixSq (eLoc 0) (eC (.int (1)))) (eLoc 1))))
    sNil)
    (sRet (eAnd (eFn (fun ds m => if ds.length = 3 then cl 2 ds m else .stuck) (aCons (eLoc 0) (aCons (eC (.str "bits")) (aCons (eC (.int (2))) aNil)))) (eAnd (eFn (fun ds m => if ds.length = 1 then cl 0 ds m else .stuck) (aCons (eOp ixSq (eLoc 0) (eC (.int (1)))) aNil)) (eChain leD leD (eC (.int (1))) (eOp ixSq (eLoc 0) (eC (.int (1)))) (eLoc 3)))))))))
def body_inmost (cl : Cl) : S → Rs :=
  (sSeq (sWhile (eBl (eOp inD (eOp ixSq (eLoc 0) (eC (.int (0)))) (eTup (aCons (eC (.str "list")) (aCons (eC (.str "set")) aNil)))))
    (sSet 0 (eOp ixSq (eLoc 0) (eC (.int (1))))) 3000)
    (sRet (eLoc 0)))
def body_is_place (cl : Cl) : S → Rs :=
  (sSeq (sIf (tNotD (eTr (eFn (fun ds m => if ds.length = 2 then cl 3 ds m else .stuck) (aCons (eLoc 0) (aCons (eLoc 1) aNil)))))
    (sRet (eC (.bl false)))
    sNil)
    (sSeq (sSet 2 (eFn (fun ds m => if ds.length = 1 then cl 4 ds m else .stuck) (aCons (eLoc 0) aNil)))
    (sRet (eOr (eOp neD (eOp ixSq (eLoc 2) (eC (.int (0)))) (eC (.str "bits"))) (eOp leD (eOp ixSq (eLoc 2) (eC (.int (1)))) (eC (.int (3))))))))
def body_is_shallow (cl : Cl) : S → Rs :=
  (sSeq (sSet 1 (eLst (aCons (eLoc 0) aNil)))
    (sSeq (sFor (iArgs rng1 (aCons (eC (.int (200))) aNil)) (gNm 2)
    (sSeq (sSet 1 (eFrz (eLc2 [3, 4] [4] (.nm 3) (iAny (eLoc 1)) (eTr (eIsi .tuple (eLoc 3))) (.nm 4) (iAny (eLoc 3)) tYesD (eLoc 4))))
    (sSeq (sIf (tNotD (eTr (eLoc 1)))
    (sRet (eC (.bl true)))
    sNil)
    (sIf (eBl (eOp gtD (eCall lenD (aCons (eLoc 1) aNil)) (eC (.int (20000)))))
    (sRet (eC (.bl false)))
    sNil))))
    (sRet (eC (.bl false)))))
def body_is_numeral (cl : Cl) : S → Rs :=
  (sSeq (sIf (tOrD (tNotD (eTr (eFn (fun ds m => if ds.length = 3 then cl 2 ds m else .stuck) (aCons (eLoc 0) (aCons (eC (.str "num")) (aCons (eC (.int (3))) aNil)))))) (tOrD (tNotD (eTr (eFn (fun ds m => if ds.length = 1 then cl 0 ds m else .stuck) (aCons (eOp ixSq (eLoc 0) (eC (.int (1)))) aNil)))) (tNotD (eTr (eFn (fun ds m => if ds.length = 1 then cl 0 ds m else .stuck) (aCons (eOp ixSq (eLoc 0) (eC (.int (2)))) aNil))))))
    (sRet (eC (.bl false)))
    sNil)
    (sRet (eAnd (eOp leD (eCall absD (aCons (eOp ixSq (eLoc 0) (eC (.int (1)))) aNil)) (eC (.int (999)))) (eAnd (eChain leD leD (eC (.int (1))) (eOp ixSq (eLoc 0) (eC (.int (2)))) (eC (.int (999)))) (eOp eqD (eCall gcdD (aCons (eOp ixSq (eLoc 0) (eC (.int (1)))) (aCons (eOp ixSq (eLoc 0) (eC (.int (2)))) aNil))) (eC (.int (1))))))))
def body_is_word (cl : Cl) : S → Rs :=
  (sSeq (sIf (tOrD (tNotD (eTr (eFn (fun ds m => if ds.length = 3 then cl 2 ds m else .stuck) (aCons (eLoc 0) (aCons (eC (.str "word")) (aCons (eC (.int (2))) aNil)))))) (tOrD (tNotD (eTr (eIsi .tuple (eOp ixSq (eLoc 0) (eC (.int (1))))))) (tNotD (eBl (eChain leD leD (eC (.int (1))) (eCall lenD (aCons (eOp ixSq (eLoc 0) (eC (.int (1)))) aNil)) (eC (.int (6))))))))
    (sRet (eC (.bl false)))
    sNil)
    (sRet (eCall allD (aCons (eFrz (eLc [1] (.nm 1) (iAny (eOp ixSq (eLoc 0) (eC (.int (1))))) tYesD (eAnd (eFn (fun ds m => if ds.length = 1 then cl 0 ds m else .stuck) (aCons (eLoc 1) aNil)) (eChain leD leD (eC (.int (0))) (eLoc 1) (eC (.int (1))))))) aNil))))
def body_sort_of_un (cl : Cl) : S → Rs :=
  (sSeq (sSet 2 (eOp ixSq (eLoc 0) (eC (.int (1)))))
    (sSeq (sIf (tOrD (eBl (eOp neD (eCall lenD (aCons (eLoc 1) aNil)) (eC (.int (3))))) (tOrD (tNotD (eTr (eIsi .str (eOp ixSq (eLoc 1) (eC (.int (1))))))) (tOrD (eBl (eOp ninD (eOp ixSq (eLoc 1) (eC (.int (1)))) (eLoc 2))) (tNotD (eTr (eIsi .tuple (eOp ixSq (eLoc 1) (eC (.int (2))))))))))
    (sRet (eC .non))
    sNil)
    (sSeq (sAsg (eOp dgetD (eLoc 2) (eOp ixSq (eLoc 1) (eC (.int (1))))) (gTp 2 (gCons (gNm 3) (gCons (gNm 4) gNil))))
    (sRet (eIf (eBl (eOp eqD (eCall tupleD (aCons (eFrz (eLc [5] (.nm 5) (iAny (eOp ixSq (eLoc 1) (eC (.int (2))))) tYesD (eFn (fun ds m => if ds.length = 2 then cl 14 ds m else .stuck) (aCons (eLoc 0) (aCons (eLoc 5) aNil))))) aNil)) (eLoc 3))) (eLoc 4) (eC .non))))))
def body_sort_of_list (cl : Cl) : S → Rs :=
  (sSeq (sIf (eBl (eOp eqD (eOp ixSq (eLoc 1) (eC (.int (0)))) (eC (.str "nil"))))
    (sRet (eIf (tAndD (eBl (eOp eqD (eCall lenD (aCons (eLoc 1) aNil)) (eC (.int (2))))) (eTr (eFn (fun ds m => if ds.length = 2 then cl 3 ds m else .stuck) (aCons (eTup (aCons (eC (.str "list")) (aCons (eOp ixSq (eLoc 1) (eC (.int (1)))) aNil))) (aCons (eOp ixSq (eLoc 0) (eC (.int (0)))) aNil))))) (eTup (aCons (eC (.str "list")) (aCons (eOp ixSq (eLoc 1) (eC (.int (1)))) aNil))) (eC .non)))
    sNil)
    (sSeq (sIf (eBl (eOp neD (eCall lenD (aCons (eLoc 1) aNil)) (eC (.int (3)))))
    (sRet (eC .non))
    sNil)
    (sSeq (sPar 2 3 (aCons (eFn (fun ds m => if ds.length = 2 then cl 14 ds m else .stuck) (aCons (eLoc 0) (aCons (eOp ixSq (eLoc 1) (eC (.int (1)))) aNil))) (aCons (eFn (fun ds m => if ds.length = 2 then cl 14 ds m else .stuck) (aCons (eLoc 0) (aCons (eOp ixSq (eLoc 1) (eC (.int (2)))) aNil))) aNil)))
    (sRet (eIf (tAndD (eBl (eOp isnD (eLoc 2) (eC .non))) (eBl (eOp eqD (eLoc 3) (eTup (aCons (eC (.str "list")) (aCons (eLoc 2) aNil)))))) (eLoc 3) (eC .non))))))
def body_sort_of_set (cl : Cl) : S → Rs :=
  (sSeq (sIf (eBl (eOp eqD (eOp ixSq (eLoc 1) (eC (.int (0)))) (eC (.str "none"))))
    (sRet (eIf (tAndD (eBl (eOp eqD (eCall lenD (aCons (eLoc 1) aNil)) (eC (.int (2))))) (eTr (eFn (fun ds m => if ds.length = 2 then cl 3 ds m else .stuck) (aCons (eTup (aCons (eC (.str "set")) (aCons (eOp ixSq (eLoc 1) (eC (.int (1)))) aNil))) (aCons (eOp ixSq (eLoc 0) (eC (.int (0)))) aNil))))) (eTup (aCons (eC (.str "set")) (aCons (eOp ixSq (eLoc 1) (eC (.int (1)))) aNil))) (eC .non)))
    sNil)
    (sSeq (sIf (eBl (eOp eqD (eOp ixSq (eLoc 1) (eC (.int (0)))) (eC (.str "one"))))
    (sSeq (sSet 2 (eIf (eBl (eOp eqD (eCall lenD (aCons (eLoc 1) aNil)) (eC (.int (2))))) (eFn (fun ds m => if ds.length = 2 then cl 14 ds m else .stuck) (aCons (eLoc 0) (aCons (eOp ixSq (eLoc 1) (eC (.int (1)))) aNil))) (eC .non)))
    (sRet (eIf (tAndD (eBl (eOp isnD (eLoc 2) (eC .non))) (eTr (eFn (fun ds m => if ds.length = 2 then cl 3 ds m else .stuck) (aCons (eTup (aCons (eC (.str "set")) (aCons (eLoc 2) aNil))) (aCons (eOp ixSq (eLoc 0) (eC (.int (0)))) aNil))))) (eTup (aCons (eC (.str "set")) (aCons (eLoc 2) aNil))) (eC .non))))
    sNil)
    (sRet (eFn (fun ds m => if ds.length = 3 then cl 12 ds m else .stuck) (aCons (eLoc 0) (aCons (eSl (eLoc 1) (oSm (eC (.int (1)))) oNo) (aCons (eC (.str "set")) aNil)))))))
def body_sort_of_two (cl : Cl) : S → Rs :=
  (sSeq (sIf (eBl (eOp neD (eCall lenD (aCons (eLoc 1) aNil)) (eC (.int (2)))))
    (sRet (eC .non))
    sNil)
    (sSeq (sSet 3 (eFn (fun ds m => if ds.length = 2 then cl 14 ds m else .stuck) (aCons (eLoc 0) (aCons (eOp ixSq (eLoc 1) (eC (.int (0)))) aNil))))
    (sRet (eIf (tAndD (eBl (eOp isnD (eLoc 3) (eC .non))) (tAndD (eBl (eOp eqD (eOp ixSq (eLoc 3) (eC (.int (0)))) (eLoc 2))) (eBl (eOp eqD (eFn (fun ds m => if ds.length = 2 then cl 14 ds m else .stuck) (aCons (eLoc 0) (aCons (eOp ixSq (eLoc 1) (eC (.int (1)))) aNil))) (eLoc 3))))) (eLoc 3) (eC .non)))))
def body_sort_of_bits (cl : Cl) : S → Rs :=
  (sSeq (sIf (eBl (eOp eqD (eOp ixSq (eLoc 1) (eC (.int (0)))) (eC (.str "word"))))
    (sRet (eIf (eTr (eFn (fun ds m => if ds.length = 1 then cl 8 ds m else .stuck) (aCons (eLoc 1) aNil))) (eTup (aCons (eC (.str "bits")) (aCons (eCall lenD (aCons (eOp ixSq (eLoc 1) (eC (.int (1)))) aNil)) aNil))) (eC .non)))
    sNil)
    (sSeq (sIf (tAndD (eBl (eOp eqD (eOp ixSq (eLoc 1) (eC (.int (0)))) (eC (.str "flip")))) (eBl (eOp eqD (eCall lenD (aCons (eLoc 1) aNil)) (eC (.int (2))))))
    (sSeq (sSet 2 (eFn (fun ds m => if ds.length = 2 then cl 14 ds m else .stuck) (aCons (eLoc 0) (aCons (eOp ixSq (eLoc 1) (eC (.int (1)))) aNil))))
    (sRet (eIf (tAndD (eBl (eOp isnD (eLoc 2) (eC .non))) (eBl (eOp eqD (eOp ixSq (eLoc 2) (eC (.int (0)))) (eC (.str "bits"))))) (eLoc 2) (eC .non))))
    sNil)
    (sSeq (sIf (tAndD (eBl (eOp eqD (eOp ixSq (eLoc 1) (eC (.int (0)))) (eC (.str "gate")))) (eBl (eOp eqD (eCall lenD (aCons (eLoc 1) aNil)) (eC (.int (4))))))
    (sRet (eIf (tAndD (eTr (eIsi .str (eOp ixSq (eLoc 1) (eC (.int (1)))))) (eBl (eOp inD (eOp ixSq (eLoc 1) (eC (.int (1)))) (eC (.tup [(.str "and"), (.str "or"), (.str "xor")]))))) (eFn (fun ds m => if ds.length = 3 then cl 12 ds m else .stuck) (aCons (eLoc 0) (aCons (eSl (eLoc 1) (oSm (eC (.int (2)))) oNo) (aCons (eC (.str "bits")) aNil)))) (eC .non)))
    sNil)
    (sRet (eIf (eBl (eOp eqD (eOp ixSq (eLoc 1) (eC (.int (0)))) (eC (.str "sum")))) (eFn (fun ds m => if ds.length = 3 then cl 12 ds m else .stuck) (aCons (eLoc 0) (aCons (eSl (eLoc 1) (oSm (eC (.int (1)))) oNo) (aCons (eC (.str "bits")) aNil)))) (eC .non))))))
def body_sort_in (cl : Cl) : S → Rs :=
  (sSeq (sIf (tOrD (tNotD (eTr (eIsi .tuple (eLoc 1)))) (tOrD (eBl (eOp eqD (eCall lenD (aCons (eLoc 1) aNil)) (eC (.int (0))))) (tNotD (eTr (eIsi .str (eOp ixSq (eLoc 1) (eC (.int (0)))))))))
    (sRet (eC .non))
    sNil)
    (sSeq (sSet 2 (eOp ixSq (eLoc 1) (eC (.int (0)))))
    (sSeq (sIf (eBl (eOp eqD (eLoc 2) (eC (.str "un"))))
    (sRet (eFn (fun ds m => if ds.length = 2 then cl 9 ds m else .stuck) (aCons (eLoc 0) (aCons (eLoc 1) aNil))))
    sNil)
    (sSeq (sIf (eBl (eOp eqD (eLoc 2) (eC (.str "num"))))
    (sRet (eIf (eTr (eFn (fun ds m => if ds.length = 1 then cl 7 ds m else .stuck) (aCons (eLoc 1) aNil))) (eC (.tup [(.str "num")])) (eC .non)))
    sNil)
    (sSeq (sIf (eBl (eOp inD (eLoc 2) (eC (.tup [(.str "plus"), (.str "minus"), (.str "times")]))))
    (sRet (eFn (fun ds m => if ds.length = 3 then cl 12 ds m else .stuck) (aCons (eLoc 0) (aCons (eSl (eLoc 1) (oSm (eC (.int (1)))) oNo) (aCons (eC (.str "num")) aNil)))))
    sNil)
    (sSeq (sIf (eBl (eOp inD (eLoc 2) (eTup (aCons (eC (.str "nil")) (aCons (eC (.str "cons")) aNil)))))
    (sRet (eFn (fun ds m => if ds.length = 2 then cl 10 ds m else .stuck) (aCons (eLoc 0) (aCons (eLoc 1) aNil))))
    sNil)
    (sSeq (sIf (eBl (eOp inD (eLoc 2) (eC (.tup [(.str "none"), (.str "one"), (.str "join"), (.str "meet"), (.str "without")]))))
    (sRet (eFn (fun ds m => if ds.length = 2 then cl 11 ds m else .stuck) (aCons (eLoc 0) (aCons (eLoc 1) aNil))))
    sNil)
    (sRet (eFn (fun ds m => if ds.length = 2 then cl 13 ds m else .stuck) (aCons (eLoc 0) (aCons (eLoc 1) aNil)))))))))))
def body_is_claim_in (cl : Cl) : S → Rs :=
  (sSeq (sIf (tOrD (tNotD (eTr (eIsi .tuple (eLoc 1)))) (tOrD (eBl (eOp eqD (eCall lenD (aCons (eLoc 1) aNil)) (eC (.int (0))))) (tNotD (eTr (eIsi .str (eOp ixSq (eLoc 1) (eC (.int (0)))))))))
    (sRet (eC (.bl false)))
    sNil)
    (sSeq (sSet 2 (eOp ixSq (eLoc 1) (eC (.int (0)))))
    (sSeq (sIf (eBl (eOp inD (eLoc 2) (eTup (aCons (eC (.str "true")) (aCons (eC (.str "false")) aNil)))))
    (sRet (eOp eqD (eCall lenD (aCons (eLoc 1) aNil)) (eC (.int (1)))))
    sNil)
    (sSeq (sIf (eBl (eOp eqD (eLoc 2) (eC (.str "not"))))
    (sRet (eAnd (eOp eqD (eCall lenD (aCons (eLoc 1) aNil)) (eC (.int (2)))) (eFn (fun ds m => if ds.length = 2 then cl 15 ds m else .stuck) (aCons (eLoc 0) (aCons (eOp ixSq (eLoc 1) (eC (.int (1)))) aNil)))))
    sNil)
    (sSeq (sIf (eBl (eOp neD (eCall lenD (aCons (eLoc 1) aNil)) (eC (.int (3)))))
    (sRet (eC (.bl false)))
    sNil)
    (sSeq (sIf (eBl (eOp inD (eLoc 2) (eC (.tup [(.str "and"), (.str "or"), (.str "then"), (.str "same")]))))
    (sRet (eAnd (eFn (fun ds m => if ds.length = 2 then cl 15 ds m else .stuck) (aCons (eLoc 0) (aCons (eOp ixSq (eLoc 1) (eC (.int (1)))) aNil))) (eFn (fun ds m => if ds.length = 2 then cl 15 ds m else .stuck) (aCons (eLoc 0) (aCons (eOp ixSq (eLoc 1) (eC (.int (2)))) aNil)))))
    sNil)
    (sSeq (sPar 3 4 (aCons (eFn (fun ds m => if ds.length = 2 then cl 14 ds m else .stuck) (aCons (eLoc 0) (aCons (eOp ixSq (eLoc 1) (eC (.int (1)))) aNil))) (aCons (eFn (fun ds m => if ds.length = 2 then cl 14 ds m else .stuck) (aCons (eLoc 0) (aCons (eOp ixSq (eLoc 1) (eC (.int (2)))) aNil))) aNil)))
    (sSeq (sIf (tOrD (eBl (eOp isD (eLoc 3) (eC .non))) (eBl (eOp isD (eLoc 4) (eC .non))))
    (sRet (eC (.bl false)))
    sNil)
    (sSeq (sIf (eBl (eOp eqD (eLoc 2) (eC (.str "in"))))
    (sRet (eOp eqD (eLoc 4) (eTup (aCons (eC (.str "set")) (aCons (eLoc 3) aNil)))))
    sNil)
    (sSeq (sIf (eBl (eOp inD (eLoc 2) (eTup (aCons (eC (.str "less")) (aCons (eC (.str "most")) aNil)))))
    (sRet (eAnd (eOp eqD (eLoc 3) (eC (.tup [(.str "num")]))) (eOp eqD (eLoc 4) (eC (.tup [(.str "num")])))))
    sNil)
    (sRet (eAnd (eOp eqD (eLoc 3) (eLoc 4)) (eOr (eOp eqD (eLoc 2) (eC (.str "is"))) (eAnd (eOp eqD (eLoc 2) (eC (.str "below"))) (eOp eqD (eOp ixSq (eLoc 3) (eC (.int (0)))) (eC (.str "bits")))))))))))))))))
def body_parts_of (cl : Cl) : S → Rs :=
  (sSeq (sIf (eBl (eOp inD (eOp ixSq (eLoc 0) (eC (.int (0)))) (eC (.tup [(.str "num"), (.str "nil"), (.str "none"), (.str "word"), (.str "true"), (.str "false")]))))
    (sRet (eTup aNil))
    sNil)
    (sSeq (sIf (eBl (eOp eqD (eOp ixSq (eLoc 0) (eC (.int (0)))) (eC (.str "un"))))
    (sRet (eOp ixSq (eLoc 0) (eC (.int (2)))))
    sNil)
    (sRet (eIf (eBl (eOp eqD (eOp ixSq (eLoc 0) (eC (.int (0)))) (eC (.str "gate")))) (eSl (eLoc 0) (oSm (eC (.int (2)))) oNo) (eSl (eLoc 0) (oSm (eC (.int (1)))) oNo)))))
def body_all_parts (cl : Cl) : S → Rs :=
  (sSeq (sOwn 1 (fLst aNil))
    (sSeq (sOwn 2 (fLst (aCons (eLoc 0) aNil)))
    (sSeq (sWhile (tOwn 2)
    (sSeq (sSet 3 (ePop 2))
    (sSeq (sApp 1 (eLoc 3))
    (sExt 2 (eRev (eFn (fun ds m => if ds.length = 1 then cl 16 ds m else .stuck) (aCons (eLoc 3) aNil)))))) 3000)
    (sRet (eCall tupleD (aCons (eLoc 1) aNil))))))
def body_own_of (cl : Cl) : S → Rs :=
  (sRet (eTup (aCons (eOp ixSq (eLoc 0) (eC (.int (1)))) (aCons (eFrz (eDc [1, 2, 3] (.tp [1, 2, 3]) (iAny (eOp ixSq (eLoc 0) (eC (.int (2))))) tYesD (eLoc 1) (eTup (aCons (eLoc 2) (aCons (eLoc 3) aNil))))) aNil))))
def body_is_unknown (cl : Cl) : S → Rs :=
  (sSeq (sIf (tOrD (tNotD (eTr (eIsi .tuple (eLoc 0)))) (tOrD (eBl (eOp neD (eCall lenD (aCons (eLoc 0) aNil)) (eC (.int (3))))) (tOrD (tNotD (eTr (eFn (fun ds m => if ds.length = 1 then cl 1 ds m else .stuck) (aCons (eOp ixSq (eLoc 0) (eC (.int (0)))) aNil)))) (tNotD (eTr (eIsi .tuple (eOp ixSq (eLoc 0) (eC (.int (1))))))))))
    (sRet (eC (.bl false)))
    sNil)
    (sSeq (sIf (tOrD (eBl (eOp gtD (eCall lenD (aCons (eOp ixSq (eLoc 0) (eC (.int (1)))) aNil)) (eC (.int (3))))) (tNotD (eTr (eCall allD (aCons (eFrz (eLc [2] (.nm 2) (iAny (eOp ixSq (eLoc 0) (eC (.int (1))))) tYesD (eFn (fun ds m => if ds.length = 2 then cl 5 ds m else .stuck) (aCons (eLoc 2) (aCons (eLoc 1) aNil))))) aNil)))))
    (sRet (eC (.bl false)))
    sNil)
    (sRet (eFn (fun ds m => if ds.length = 2 then cl 3 ds m else .stuck) (aCons (eOp ixSq (eLoc 0) (eC (.int (2)))) (aCons (eLoc 1) aNil))))))
def body_is_small_claim (cl : Cl) : S → Rs :=
  (sRet (eAnd (eFn (fun ds m => if ds.length = 1 then cl 6 ds m else .stuck) (aCons (eLoc 0) aNil)) (eAnd (eFn (fun ds m => if ds.length = 2 then cl 15 ds m else .stuck) (aCons (eLoc 1) (aCons (eLoc 0) aNil))) (eOp leD (eCall lenD (aCons (eFn (fun ds m => if ds.length = 1 then cl 17 ds m else .stuck) (aCons (eLoc 0) aNil)) aNil)) (eC (.int (60)))))))
def body_is_text (cl : Cl) : S → Rs :=
  (sSeq (sIf (tOrD (tNotD (eTr (eFn (fun ds m => if ds.length = 3 then cl 2 ds m else .stuck) (aCons (eLoc 0) (aCons (eC (.str "text")) (aCons (eC (.int (4))) aNil)))))) (tNotD (eTr (eCall allD (aCons (eFrz (eLc [7] (.nm 7) (iAny (eSl (eLoc 0) (oSm (eC (.int (1)))) oNo)) tYesD (eIsi .tuple (eLoc 7)))) aNil)))))
    (sRet (eC (.bl false)))
    sNil)
    (sSeq (sAsg (eLoc 0) (gTp 4 (gCons (gNm 1) (gCons (gNm 2) (gCons (gNm 3) (gCons (gNm 4) gNil))))))
    (sSeq (sIf (tOrD (eBl (eOp gtD (eCall lenD (aCons (eLoc 2) aNil)) (eC (.int (6))))) (tOrD (eBl (eOp gtD (eCall lenD (aCons (eLoc 3) aNil)) (eC (.int (16))))) (eBl (eOp gtD (eCall lenD (aCons (eLoc 4) aNil)) (eC (.int (12)))))))
    (sRet (eC (.bl false)))
    sNil)
    (sSeq (sIf (tOrD (tNotD (eTr (eCall allD (aCons (eFrz (eLc [9] (.nm 9) (iAny (eLoc 2)) tYesD (eFn (fun ds m => if ds.length = 1 then cl 1 ds m else .stuck) (aCons (eLoc 9) aNil)))) aNil)))) (tNotD (eTr (eCall allD (aCons (eFrz (eLc [7] (.nm 7) (iAny (eLoc 3)) tYesD (eFn (fun ds m => if ds.length = 2 then cl 19 ds m else .stuck) (aCons (eLoc 7) (aCons (eLoc 2) aNil))))) aNil)))))
    (sRet (eC (.bl false)))
    sNil)
    (sSeq (sSet 5 (eOp addD (eCall listD (aCons (eLoc 2) aNil)) (eFrz (eLc [7] (.nm 7) (iAny (eLoc 3)) tYesD (eOp ixSq (eLoc 7) (eC (.int (0))))))))
    (sSeq (sIf (eBl (eOp ltD (eCall lenD (aCons (eFrz (eDc [9] (.nm 9) (iAny (eLoc 5)) tYesD (eLoc 9) (eC (.bl true)))) aNil)) (eCall lenD (aCons (eLoc 5) aNil))))
    (sRet (eC (.bl false)))
    sNil)
    (sSeq (sSet 6 (eFn (fun ds m => if ds.length = 1 then cl 18 ds m else .stuck) (aCons (eLoc 0) aNil)))
    (sRet (eCall allD (aCons (eFrz (eLc [8] (.nm 8) (iAny (eLoc 4)) tYesD (eFn (fun ds m => if ds.length = 2 then cl 20 ds m else .stuck) (aCons (eLoc 8) (aCons (eLoc 6) aNil))))) aNil))))))))))
def body_sure_text (cl : Cl) : S → Rs :=
  (sIf (tNotD (eTr (eFn (fun ds m => if ds.length = 1 then cl 21 ds m else .stuck) (aCons (eLoc 0) aNil))))
    (sRaise "BadPart" "what" (eC (.str "text")))
    sNil)
def body_ratio (cl : Cl) : S → Rs :=
  (sSeq (sSet 2 (eCall gcdD (aCons (eLoc 0) (aCons (eLoc 1) aNil))))
    (sSeq (sSet 3 (eIf (eBl (eOp ltD (eLoc 1) (eC (.int (0))))) (eUn negD (eC (.int (1)))) (eC (.int (1)))))
    (sRet (eTup (aCons (eOp fdivD (eOp mulD (eLoc 3) (eLoc 0)) (eLoc 2)) (aCons (eOp fdivD (eOp mulD (eLoc 3) (eLoc 1)) (eLoc 2)) aNil))))))
def body_is_ratio (cl : Cl) : S → Rs :=
  (sSeq (sIf (tOrD (tNotD (eTr (eIsi .tuple (eLoc 0)))) (tOrD (eBl (eOp neD (eCall lenD (aCons (eLoc 0) aNil)) (eC (.int (2))))) (tOrD (tNotD (eTr (eFn (fun ds m => if ds.length = 1 then cl 0 ds m else .stuck) (aCons (eOp ixSq (eLoc 0) (eC (.int (0)))) aNil)))) (tNotD (eTr (eFn (fun ds m => if ds.length = 1 then cl 0 ds m else .stuck) (aCons (eOp ixSq (eLoc 0) (eC (.int (1)))) aNil)))))))
    (sRet (eC (.bl false)))
    sNil)
    (sRet (eAnd (eOp gtD (eOp ixSq (eLoc 0) (eC (.int (1)))) (eC (.int (0)))) (eOp eqD (eCall gcdD (aCons (eOp ixSq (eLoc 0) (eC (.int (0)))) (aCons (eOp ixSq (eLoc 0) (eC (.int (1)))) aNil))) (eC (.int (1)))))))
def body_is_value (cl : Cl) : S → Rs :=
  (sSeq (sIf (eBl (eOp eqD (eOp ixSq (eLoc 1) (eC (.int (0)))) (eC (.str "num"))))
    (sRet (eFn (fun ds m => if ds.length = 1 then cl 24 ds m else .stuck) (aCons (eLoc 0) aNil)))
    sNil)
    (sSeq (sIf (eBl (eOp eqD (eOp ixSq (eLoc 1) (eC (.int (0)))) (eC (.str "things"))))
    (sRet (eAnd (eFn (fun ds m => if ds.length = 1 then cl 0 ds m else .stuck) (aCons (eLoc 0) aNil)) (eOp geD (eLoc 0) (eC (.int (0))))))
    sNil)
    (sSeq (sIf (tNotD (eTr (eIsi .tuple (eLoc 0))))
    (sRet (eC (.bl false)))
    sNil)
    (sSeq (sIf (eBl (eOp eqD (eOp ixSq (eLoc 1) (eC (.int (0)))) (eC (.str "bits"))))
    (sRet (eAnd (eOp eqD (eCall lenD (aCons (eLoc 0) aNil)) (eOp ixSq (eLoc 1) (eC (.int (1))))) (eCall allD (aCons (eFrz (eLc [3] (.nm 3) (iAny (eLoc 0)) tYesD (eAnd (eFn (fun ds m => if ds.length = 1 then cl 0 ds m else .stuck) (aCons (eLoc 3) aNil)) (eChain leD leD (eC (.int (0))) (eLoc 3) (eC (.int (1))))))) aNil))))
    sNil)
    (sSeq (sIf (tNotD (eTr (eCall allD (aCons (eFrz (eLc [2] (.nm 2) (iAny (eLoc 0)) tYesD (eFn (fun ds m => if ds.length = 2 then cl 25 ds m else .stuck) (aCons (eLoc 2) (aCons (eOp ixSq (eLoc 1) (eC (.int (1)))) aNil))))) aNil))))
    (sRet (eC (.bl false)))
    sNil)
    (sRet (eOr (eOp eqD (eOp ixSq (eLoc 1) (eC (.int (0)))) (eC (.str "list"))) (eFn (fun ds m => if ds.length = 1 then cl 26 ds m else .stuck) (aCons (eLoc 0) aNil)))))))))
def body_are_ascending (cl : Cl) : S → Rs :=
  (sRet (eCall allD (aCons (eFrz (eLc [1, 2] (.tp [1, 2]) (iArgs zipD (aCons (eLoc 0) (aCons (eSl (eLoc 0) (oSm (eC (.int (1)))) oNo) aNil))) tYesD (eOp lt2D (eLoc 1) (eLoc 2)))) aNil)))
def body_is_table (cl : Cl) : S → Rs :=
  (sSeq (sIf (tOrD (tNotD (eTr (eIsi .tuple (eLoc 0)))) (tOrD (eBl (eOp neD (eCall lenD (aCons (eLoc 0) aNil)) (eC (.int (2))))) (tNotD (eTr (eIsi .tuple (eOp ixSq (eLoc 0) (eC (.int (0)))))))))
    (sRet (eC (.bl false)))
    sNil)
    (sSeq (sFor (iAny (eOp ixSq (eLoc 0) (eC (.int (0))))) (gNm 3)
    (sSeq (sIf (tOrD (tNotD (eTr (eIsi .tuple (eLoc 3)))) (tOrD (eBl (eOp neD (eCall lenD (aCons (eLoc 3) aNil)) (eC (.int (2))))) (tNotD (eTr (eIsi .tuple (eOp ixSq (eLoc 3) (eC (.int (0)))))))))
    (sRet (eC (.bl false)))
    sNil)
    (sSeq (sIf (eBl (eOp neD (eCall lenD (aCons (eOp ixSq (eLoc 3) (eC (.int (0)))) aNil)) (eCall lenD (aCons (eLoc 1) aNil))))
    (sRet (eC (.bl false)))
    sNil)
    (sIf (tOrD (tNotD (eTr (eCall allD (aCons (eFrz (eLc [4, 5] (.tp [4, 5]) (iArgs zipD (aCons (eOp ixSq (eLoc 3) (eC (.int (0)))) (aCons (eLoc 1) aNil))) tYesD (eFn (fun ds m => if ds.length = 2 then cl 25 ds m else .stuck) (aCons (eLoc 4) (aCons (eLoc 5) aNil))))) aNil)))) (tNotD (eTr (eFn (fun ds m => if ds.length = 2 then cl 25 ds m else .stuck) (aCons (eOp ixSq (eLoc 3) (eC (.int (1)))) (aCons (eLoc 2) aNil))))))
    (sRet (eC (.bl false)))
    sNil))))
    (sRet (eAnd (eFn (fun ds m => if ds.length = 1 then cl 26 ds m else .stuck) (aCons (eCall tupleD (aCons (eFrz (eLc [3] (.nm 3) (iAny (eOp ixSq (eLoc 0) (eC (.int (0))))) tYesD (eOp ixSq (eLoc 3) (eC (.int (0)))))) aNil)) aNil)) (eFn (fun ds m => if ds.length = 2 then cl 25 ds m else .stuck) (aCons (eOp ixSq (eLoc 0) (eC (.int (1)))) (aCons (eLoc 2) aNil)))))))
def body_is_choice (cl : Cl) : S → Rs :=
  (sSeq (sIf (tOrD (tNotD (eTr (eIsi .dict (eLoc 0)))) (eBl (eOp neD (eCall lenD (aCons (eLoc 0) aNil)) (eCall lenD (aCons (eOp ixSq (eLoc 1) (eC (.int (2)))) aNil)))))
    (sRet (eC (.bl false)))
    sNil)
    (sSeq (sFor (iAny (eOp ixSq (eLoc 1) (eC (.int (2))))) (gTp 3 (gCons (gNm 2) (gCons (gNm 3) (gCons (gNm 4) gNil))))
    (sSeq (sIf (eBl (eOp ninD (eLoc 2) (eLoc 0)))
    (sRet (eC (.bl false)))
    sNil)
    (sSeq (sSet 5 (eOp dgetD (eLoc 0) (eLoc 2)))
    (sIf (tNotD (tIfD (eTr (eLoc 3)) (eTr (eFn (fun ds m => if ds.length = 3 then cl 27 ds m else .stuck) (aCons (eLoc 5) (aCons (eLoc 3) (aCons (eLoc 4) aNil))))) (eTr (eFn (fun ds m => if ds.length = 2 then cl 25 ds m else .stuck) (aCons (eLoc 5) (aCons (eLoc 4) aNil))))))
    (sRet (eC (.bl false)))
    sNil))))
    (sRet (eC (.bl true)))))
def body_found_in (cl : Cl) : S → Rs :=
  (sSeq (sFor (iAny (eOp ixSq (eLoc 0) (eC (.int (0))))) (gTp 2 (gCons (gNm 2) (gCons (gNm 3) gNil)))
    (sIf (eBl (eOp eqD (eLoc 2) (eLoc 1)))
    (sRet (eLoc 3))
    sNil))
    (sRet (eOp ixSq (eLoc 0) (eC (.int (1))))))
def body_summed (cl : Cl) : S → Rs :=
  (sSeq (sParO 2 3 (fLst aNil) (0))
    (sSeq (sFor (iArgs zipD (aCons (eLoc 0) (aCons (eLoc 1) aNil))) (gTp 2 (gCons (gNm 4) (gCons (gNm 5) gNil)))
    (sSeq (sSet 6 (eOp addD (eOp addD (eLoc 4) (eLoc 5)) (eLoc 3)))
    (sSeq (sApp 2 (eOp modD (eLoc 6) (eC (.int (2)))))
    (sSet 3 (eOp fdivD (eLoc 6) (eC (.int (2))))))))
    (sRet (eCall tupleD (aCons (eLoc 2) aNil)))))
def body_gated (cl : Cl) : S → Rs :=
  (sSeq (sIf (eBl (eOp eqD (eLoc 0) (eC (.str "and"))))
    (sRet (eCall tupleD (aCons (eFrz (eLc [3, 4] (.tp [3, 4]) (iArgs zipD (aCons (eLoc 1) (aCons (eLoc 2) aNil))) tYesD (eOp mulD (eLoc 3) (eLoc 4)))) aNil)))
    sNil)
    (sSeq (sIf (eBl (eOp eqD (eLoc 0) (eC (.str "or"))))
    (sRet (eCall tupleD (aCons (eFrz (eLc [3, 4] (.tp [3, 4]) (iArgs zipD (aCons (eLoc 1) (aCons (eLoc 2) aNil))) tYesD (eCall max2D (aCons (eLoc 3) (aCons (eLoc 4) aNil))))) aNil)))
    sNil)
    (sRet (eCall tupleD (aCons (eFrz (eLc [3, 4] (.tp [3, 4]) (iArgs zipD (aCons (eLoc 1) (aCons (eLoc 2) aNil))) tYesD (eOp modD (eOp addD (eLoc 3) (eLoc 4)) (eC (.int (2)))))) aNil)))))
def body_counted (cl : Cl) : S → Rs :=
  (sSeq (sIf (eBl (eOp eqD (eLoc 0) (eC (.str "times"))))
    (sRet (eFn (fun ds m => if ds.length = 2 then cl 23 ds m else .stuck) (aCons (eOp mulD (eOp ixSq (eLoc 1) (eC (.int (0)))) (eOp ixSq (eLoc 2) (eC (.int (0))))) (aCons (eOp mulD (eOp ixSq (eLoc 1) (eC (.int (1)))) (eOp ixSq (eLoc 2) (eC (.int (1))))) aNil))))
    sNil)
    (sSeq (sSet 3 (eIf (eBl (eOp eqD (eLoc 0) (eC (.str "plus")))) (eC (.int (1))) (eUn negD (eC (.int (1))))))
    (sRet (eFn (fun ds m => if ds.length = 2 then cl 23 ds m else .stuck) (aCons (eOp addD (eOp mulD (eOp ixSq (eLoc 1) (eC (.int (0)))) (eOp ixSq (eLoc 2) (eC (.int (1))))) (eOp mulD (eOp mulD (eLoc 3) (eOp ixSq (eLoc 2) (eC (.int (0))))) (eOp ixSq (eLoc 1) (eC (.int (1)))))) (aCons (eOp mulD (eOp ixSq (eLoc 1) (eC (.int (1)))) (eOp ixSq (eLoc 2) (eC (.int (1))))) aNil))))))
def body_gathered (cl : Cl) : S → Rs :=
  (sSeq (sIf (eBl (eOp eqD (eLoc 0) (eC (.str "join"))))
    (sRet (eCall tupleD (aCons (eCall sorted2D (aCons (eOp addD (eCall listD (aCons (eLoc 1) aNil)) (eFrz (eLc [3] (.nm 3) (iAny (eLoc 2)) (eBl (eOp nin2D (eLoc 3) (eLoc 1))) (eLoc 3)))) aNil)) aNil)))
    sNil)
    (sSeq (sIf (eBl (eOp eqD (eLoc 0) (eC (.str "meet"))))
    (sRet (eCall tupleD (aCons (eFrz (eLc [3] (.nm 3) (iAny (eLoc 1)) (eBl (eOp in2D (eLoc 3) (eLoc 2))) (eLoc 3))) aNil)))
    sNil)
    (sRet (eCall tupleD (aCons (eFrz (eLc [3] (.nm 3) (iAny (eLoc 1)) (eBl (eOp nin2D (eLoc 3) (eLoc 2))) (eLoc 3))) aNil)))))
def body_made (cl : Cl) : S → Rs :=
  (sSeq (sSet 2 (eOp ixSq (eLoc 0) (eC (.int (0)))))
    (sSeq (sIf (eBl (eOp eqD (eLoc 2) (eC (.str "num"))))
    (sRet (eSl (eLoc 0) (oSm (eC (.int (1)))) oNo))
    sNil)
    (sSeq (sIf (eBl (eOp eqD (eLoc 2) (eC (.str "word"))))
    (sRet (eOp ixSq (eLoc 0) (eC (.int (1)))))
    sNil)
    (sSeq (sIf (eBl (eOp inD (eLoc 2) (eTup (aCons (eC (.str "nil")) (aCons (eC (.str "none")) aNil)))))
    (sRet (eTup aNil))
    sNil)
    (sSeq (sIf (eBl (eOp eqD (eLoc 2) (eC (.str "cons"))))
    (sRet (eOp addD (eTup (aCons (eOp ixSq (eLoc 1) (eC (.int (0)))) aNil)) (eOp ixSq (eLoc 1) (eC (.int (1))))))
    sNil)
    (sSeq (sIf (eBl (eOp eqD (eLoc 2) (eC (.str "one"))))
    (sRet (eTup (aCons (eOp ixSq (eLoc 1) (eC (.int (0)))) aNil)))
    sNil)
    (sSeq (sIf (eBl (eOp eqD (eLoc 2) (eC (.str "flip"))))
    (sRet (eCall tupleD (aCons (eFrz (eLc [3] (.nm 3) (iAny (eOp ixSq (eLoc 1) (eC (.int (0))))) tYesD (eOp subD (eC (.int (1))) (eLoc 3)))) aNil)))
    sNil)
    (sSeq (sIf (eBl (eOp eqD (eLoc 2) (eC (.str "gate"))))
    (sRet (eFn (fun ds m => if ds.length = 3 then cl 31 ds m else .stuck) (aCons (eOp ixSq (eLoc 0) (eC (.int (1)))) (aCons (eOp ixSq (eLoc 1) (eC (.int (0)))) (aCons (eOp ixSq (eLoc 1) (eC (.int (1)))) aNil)))))
    sNil)
    (sSeq (sIf (eBl (eOp eqD (eLoc 2) (eC (.str "sum"))))
    (sRet (eFn (fun ds m => if ds.length = 2 then cl 30 ds m else .stuck) (aCons (eOp ixSq (eLoc 1) (eC (.int (0)))) (aCons (eOp ixSq (eLoc 1) (eC (.int (1)))) aNil))))
    sNil)
    (sSeq (sIf (eBl (eOp inD (eLoc 2) (eTup (aCons (eC (.str "join")) (aCons (eC (.str "meet")) (aCons (eC (.str "without")) aNil))))))
    (sRet (eFn (fun ds m => if ds.length = 3 then cl 33 ds m else .stuck) (aCons (eLoc 2) (aCons (eOp ixSq (eLoc 1) (eC (.int (0)))) (aCons (eOp ixSq (eLoc 1) (eC (.int (1)))) aNil)))))
    sNil)
    (sRet (eFn (fun ds m => if ds.length = 3 then cl 32 ds m else .stuck) (aCons (eLoc 2) (aCons (eOp ixSq (eLoc 1) (eC (.int (0)))) (aCons (eOp ixSq (eLoc 1) (eC (.int (1)))) aNil)))))))))))))))
def body_below (cl : Cl) : S → Rs :=
  (sRet (eOp lt2D (eRev (eLoc 0)) (eRev (eLoc 1))))
def body_asked (cl : Cl) : S → Rs :=
  (sSeq (sIf (eBl (eOp eqD (eLoc 0) (eC (.str "is"))))
    (sRet (eOp eqD (eLoc 1) (eLoc 2)))
    sNil)
    (sSeq (sIf (eBl (eOp eqD (eLoc 0) (eC (.str "in"))))
    (sRet (eOp in2D (eLoc 1) (eLoc 2)))
    sNil)
    (sSeq (sIf (eBl (eOp eqD (eLoc 0) (eC (.str "below"))))
    (sRet (eFn (fun ds m => if ds.length = 2 then cl 35 ds m else .stuck) (aCons (eLoc 1) (aCons (eLoc 2) aNil))))
    sNil)
    (sSeq (sPar 3 4 (aCons (eOp mulD (eOp ixSq (eLoc 1) (eC (.int (0)))) (eOp ixSq (eLoc 2) (eC (.int (1))))) (aCons (eOp mulD (eOp ixSq (eLoc 2) (eC (.int (0)))) (eOp ixSq (eLoc 1) (eC (.int (1))))) aNil)))
    (sRet (eIf (eBl (eOp eqD (eLoc 0) (eC (.str "less")))) (eOp lt2D (eLoc 3) (eLoc 4)) (eOp leD (eLoc 3) (eLoc 4))))))))
def body_worth (cl : Cl) : S → Rs :=
  (sSeq (sIf (eBl (eOp eqD (eOp ixSq (eLoc 1) (eC (.int (0)))) (eC (.str "un"))))
    (sSeq (sSet 2 (eCall tupleD (aCons (eFrz (eLc [3] (.nm 3) (iAny (eOp ixSq (eLoc 1) (eC (.int (2))))) tYesD (eFn (fun ds m => if ds.length = 2 then cl 37 ds m else .stuck) (aCons (eLoc 0) (aCons (eLoc 3) aNil))))) aNil)))
    (sRet (eIf (eTr (eLoc 2)) (eFn (fun ds m => if ds.length = 2 then cl 29 ds m else .stuck) (aCons (eOp dgetD (eLoc 0) (eOp ixSq (eLoc 1) (eC (.int (1))))) (aCons (eLoc 2) aNil))) (eOp dgetD (eLoc 0) (eOp ixSq (eLoc 1) (eC (.int (1))))))))
    sNil)
    (sSeq (sIf (eBl (eOp inD (eOp ixSq (eLoc 1) (eC (.int (0)))) (eTup (aCons (eC (.str "num")) (aCons (eC (.str "word")) (aCons (eC (.str "nil")) (aCons (eC (.str "none")) aNil)))))))
    (sRet (eFn (fun ds m => if ds.length = 2 then cl 34 ds m else .stuck) (aCons (eLoc 1) (aCons (eTup aNil) aNil))))
    sNil)
    (sRet (eFn (fun ds m => if ds.length = 2 then cl 34 ds m else .stuck) (aCons (eLoc 1) (aCons (eCall tupleD (aCons (eFrz (eLc [3] (.nm 3) (iAny (eIf (eBl (eOp eqD (eOp ixSq (eLoc 1) (eC (.int (0)))) (eC (.str "gate")))) (eSl (eLoc 1) (oSm (eC (.int (2)))) oNo) (eSl (eLoc 1) (oSm (eC (.int (1)))) oNo))) tYesD (eFn (fun ds m => if ds.length = 2 then cl 37 ds m else .stuck) (aCons (eLoc 0) (aCons (eLoc 3) aNil))))) aNil)) aNil))))))
def body_holds (cl : Cl) : S → Rs :=
  (sSeq (sSet 2 (eOp ixSq (eLoc 1) (eC (.int (0)))))
    (sSeq (sIf (eBl (eOp inD (eLoc 2) (eTup (aCons (eC (.str "true")) (aCons (eC (.str "false")) aNil)))))
    (sRet (eOp eqD (eLoc 2) (eC (.str "true"))))
    sNil)
    (sSeq (sIf (eBl (eOp eqD (eLoc 2) (eC (.str "not"))))
    (sRet (eNot (eFn (fun ds m => if ds.length = 2 then cl 38 ds m else .stuck) (aCons (eLoc 0) (aCons (eOp ixSq (eLoc 1) (eC (.int (1)))) aNil)))))
    sNil)
    (sSeq (sIf (eBl (eOp eqD (eLoc 2) (eC (.str "and"))))
    (sRet (eAnd (eFn (fun ds m => if ds.length = 2 then cl 38 ds m else .stuck) (aCons (eLoc 0) (aCons (eOp ixSq (eLoc 1) (eC (.int (1)))) aNil))) (eFn (fun ds m => if ds.length = 2 then cl 38 ds m else .stuck) (aCons (eLoc 0) (aCons (eOp ixSq (eLoc 1) (eC (.int (2)))) aNil)))))
    sNil)
    (sSeq (sIf (eBl (eOp eqD (eLoc 2) (eC (.str "or"))))
    (sRet (eOr (eFn (fun ds m => if ds.length = 2 then cl 38 ds m else .stuck) (aCons (eLoc 0) (aCons (eOp ixSq (eLoc 1) (eC (.int (1)))) aNil))) (eFn (fun ds m => if ds.length = 2 then cl 38 ds m else .stuck) (aCons (eLoc 0) (aCons (eOp ixSq (eLoc 1) (eC (.int (2)))) aNil)))))
    sNil)
    (sSeq (sIf (eBl (eOp eqD (eLoc 2) (eC (.str "then"))))
    (sRet (eOr (eNot (eFn (fun ds m => if ds.length = 2 then cl 38 ds m else .stuck) (aCons (eLoc 0) (aCons (eOp ixSq (eLoc 1) (eC (.int (1)))) aNil)))) (eFn (fun ds m => if ds.length = 2 then cl 38 ds m else .stuck) (aCons (eLoc 0) (aCons (eOp ixSq (eLoc 1) (eC (.int (2)))) aNil)))))
    sNil)
    (sSeq (sIf (eBl (eOp eqD (eLoc 2) (eC (.str "same"))))
    (sRet (eOp eqD (eFn (fun ds m => if ds.length = 2 then cl 38 ds m else .stuck) (aCons (eLoc 0) (aCons (eOp ixSq (eLoc 1) (eC (.int (1)))) aNil))) (eFn (fun ds m => if ds.length = 2 then cl 38 ds m else .stuck) (aCons (eLoc 0) (aCons (eOp ixSq (eLoc 1) (eC (.int (2)))) aNil)))))
    sNil)
    (sRet (eFn (fun ds m => if ds.length = 3 then cl 36 ds m else .stuck) (aCons (eLoc 2) (aCons (eFn (fun ds m => if ds.length = 2 then cl 37 ds m else .stuck) (aCons (eLoc 0) (aCons (eOp ixSq (eLoc 1) (eC (.int (1)))) aNil))) (aCons (eFn (fun ds m => if ds.length = 2 then cl 37 ds m else .stuck) (aCons (eLoc 0) (aCons (eOp ixSq (eLoc 1) (eC (.int (2)))) aNil))) aNil))))))))))))
def body_sure_choice (cl : Cl) : S → Rs :=
  (sSeq (sExpr (eFn (fun ds m => if ds.length = 1 then cl 22 ds m else .stuck) (aCons (eLoc 0) aNil)))
    (sIf (tNotD (eTr (eFn (fun ds m => if ds.length = 2 then cl 28 ds m else .stuck) (aCons (eLoc 1) (aCons (eLoc 0) aNil)))))
    (sRaise "Refused" "reason" (eC (.str "model")))
    sNil))
def body_value_at (cl : Cl) : S → Rs :=
  (sSeq (sExpr (eFn (fun ds m => if ds.length = 2 then cl 39 ds m else .stuck) (aCons (eLoc 0) (aCons (eLoc 1) aNil))))
    (sSeq (sIf (tOrD (tNotD (eTr (eFn (fun ds m => if ds.length = 1 then cl 6 ds m else .stuck) (aCons (eLoc 2) aNil)))) (eBl (eOp isD (eFn (fun ds m => if ds.length = 2 then cl 14 ds m else .stuck) (aCons (eFn (fun ds m => if ds.length = 1 then cl 18 ds m else .stuck) (aCons (eLoc 0) aNil)) (aCons (eLoc 2) aNil))) (eC .non))))
    (sRaise "BadPart" "what" (eC (.str "term")))
    sNil)
    (sRet (eFn (fun ds m => if ds.length = 2 then cl 37 ds m else .stuck) (aCons (eLoc 1) (aCons (eLoc 2) aNil))))))
def body_holds_at (cl : Cl) : S → Rs :=
  (sSeq (sExpr (eFn (fun ds m => if ds.length = 2 then cl 39 ds m else .stuck) (aCons (eLoc 0) (aCons (eLoc 1) aNil))))
    (sSeq (sIf (tOrD (tNotD (eTr (eFn (fun ds m => if ds.length = 1 then cl 6 ds m else .stuck) (aCons (eLoc 2) aNil)))) (tNotD (eTr (eFn (fun ds m => if ds.length = 2 then cl 15 ds m else .stuck) (aCons (eFn (fun ds m => if ds.length = 1 then cl 18 ds m else .stuck) (aCons (eLoc 0) aNil)) (aCons (eLoc 2) aNil))))))
    (sRaise "BadPart" "what" (eC (.str "claim")))
    sNil)
    (sRet (eFn (fun ds m => if ds.length = 2 then cl 38 ds m else .stuck) (aCons (eLoc 1) (aCons (eLoc 2) aNil))))))
def body_is_model (cl : Cl) : S → Rs :=
  (sSeq (sIf (tNotD (eTr (eFn (fun ds m => if ds.length = 1 then cl 21 ds m else .stuck) (aCons (eLoc 0) aNil))))
    (sRaise "BadPart" "what" (eC (.str "text")))
    sNil)
    (sRet (eAnd (eFn (fun ds m => if ds.length = 2 then cl 28 ds m else .stuck) (aCons (eLoc 1) (aCons (eLoc 0) aNil))) (eCall allD (aCons (eFrz (eLc [2] (.nm 2) (iAny (eOp ixSq (eLoc 0) (eC (.int (3))))) tYesD (eFn (fun ds m => if ds.length = 2 then cl 38 ds m else .stuck) (aCons (eLoc 1) (aCons (eLoc 2) aNil))))) aNil)))))
def body__law_cell (cl : Cl) : S → Rs :=
  (sSeq (sIf (eBl (eOp ltD (eLoc 1) (eCall lenD (aCons (eLoc 0) aNil))))
    (sRet (eOp ixSq (eLoc 0) (eLoc 1)))
    sNil)
    (sRet (eC (.int (0)))))
def body__law_digits (cl : Cl) : S → Rs :=
  (sSeq (sOwn 3 (fLst aNil))
    (sSeq (sFor (iArgs rng2 (aCons (eLoc 1) (aCons (eLoc 2) aNil))) (gNm 4)
    (sSeq (sSet 5 (eFn (fun ds m => if ds.length = 2 then cl 43 ds m else .stuck) (aCons (eLoc 0) (aCons (eLoc 4) aNil))))
    (sSeq (sIf (eBl (eOp ltD (eLoc 5) (eC (.int (0)))))
    (sSet 5 (eOp subD (eC (.int (1))) (eOp mulD (eLoc 5) (eC (.int (2))))))
    sNil)
    (sIf (eBl (eOp geD (eLoc 5) (eOp powD (eC (.int (10))) (eC (.int (18))))))
    (sSeq (sSet 6 (eLoc 5))
    (sFor (iArgs rng1 (aCons (eC (.int (60))) aNil)) (gNm 7)
    (sIf (eBl (eOp gtD (eLoc 6) (eC (.int (0)))))
    (sSeq (sApp 3 (eOp modD (eLoc 6) (eC (.int (1009)))))
    (sSet 6 (eOp fdivD (eLoc 6) (eC (.int (1009))))))
    sNil)))
    (sSeq (sSet 8 (eOp modD (eOp addD (eOp addD (eOp mulD (eLoc 5) (eC (.int (48271)))) (eOp mulD (eCall intD (aCons (eOp addD (eLoc 4) (eC (.int (1)))) aNil)) (eC (.int (69621))))) (eC (.int (11)))) (eC (.int (2147483647)))))
    (sFor (iArgs rng1 (aCons (eC (.int (12))) aNil)) (gNm 7)
    (sSeq (sSet 8 (eOp modD (eOp addD (eOp addD (eOp mulD (eLoc 8) (eC (.int (16807)))) (eOp mulD (eLoc 7) (eC (.int (7))))) (eC (.int (1)))) (eC (.int (2147483647)))))
    (sApp 3 (eOp modD (eOp fdivD (eLoc 8) (eC (.int (997)))) (eC (.int (1009))))))))))))
    (sRet (eLoc 3))))
def body__law_draw (cl : Cl) : S → Rs :=
  (sSeq (sAsg (eLoc 0) (gUn 2 (gCons (gNm 2) (gCons (gNm 3) gNil))))
    (sSeq (sSetIx (eOp addD (eLoc 3) (eC (.int (1)))) (eLoc 0) (eC (.int (1))))
    (sSeq (sIf (eBl (eOp ltD (eLoc 3) (eCall lenD (aCons (eLoc 2) aNil))))
    (sRet (eOp modD (eOp ixSq (eLoc 2) (eLoc 3)) (eLoc 1)))
    sNil)
    (sRet (eOp modD (eOp addD (eOp addD (eOp addD (eOp mulD (eOp mulD (eLoc 3) (eLoc 3)) (eC (.int (3)))) (eOp mulD (eLoc 3) (eC (.int (4))))) (eOp fdivD (eLoc 3) (eC (.int (3))))) (eC (.int (1)))) (eLoc 1))))))
def body__law_pick (cl : Cl) : S → Rs :=
  (sRet (eOp ixSq (eLoc 1) (eFn (fun ds m => if ds.length = 2 then cl 45 ds m else .stuck) (aCons (eLoc 0) (aCons (eCall lenD (aCons (eLoc 1) aNil)) aNil)))))
def body__law_unknowns (cl : Cl) : S → Rs :=
  (sSeq (sSet 0 (eTup (aCons (eC (.str "things")) (aCons (eC (.str "a")) aNil))))
    (sSeq (sSet 1 (eLst (aCons (eTup (aCons (eC (.str "x")) (aCons (eTup aNil) (aCons (eLoc 0) aNil)))) (aCons (eTup (aCons (eC (.str "y")) (aCons (eTup aNil) (aCons (eLoc 0) aNil)))) (aCons (eTup (aCons (eC (.str "z")) (aCons (eTup aNil) (aCons (eLoc 0) aNil)))) (aCons (eTup (aCons (eC (.str "f")) (aCons (eTup (aCons (eLoc 0) aNil)) (aCons (eLoc 0) aNil)))) (aCons (eTup (aCons (eC (.str "g")) (aCons (eTup (aCons (eLoc 0) (aCons (eLoc 0) aNil))) (aCons (eLoc 0) aNil)))) aNil)))))))
    (sSeq (sSet 1 (eOp addD (eLoc 1) (eLst (aCons (eTup (aCons (eC (.str "l")) (aCons (eTup aNil) (aCons (eTup (aCons (eC (.str "list")) (aCons (eLoc 0) aNil))) aNil)))) (aCons (eTup (aCons (eC (.str "m")) (aCons (eTup aNil) (aCons (eTup (aCons (eC (.str "list")) (aCons (eLoc 0) aNil))) aNil)))) (aCons (eTup (aCons (eC (.str "h")) (aCons (eTup (aCons (eTup (aCons (eC (.str "list")) (aCons (eLoc 0) aNil))) aNil)) (aCons (eLoc 0) aNil)))) (aCons (eTup (aCons (eC (.str "k")) (aCons (eTup (aCons (eLoc 0) aNil)) (aCons (eTup (aCons (eC (.str "list")) (aCons (eLoc 0) aNil))) aNil)))) aNil)))))))
    (sRet (eOp addD (eLoc 1) (eLst (aCons (eTup (aCons (eC (.str "s")) (aCons (eTup aNil) (aCons (eTup (aCons (eC (.str "set")) (aCons (eLoc 0) aNil))) aNil)))) (aCons (eTup (aCons (eC (.str "t")) (aCons (eTup aNil) (aCons (eTup (aCons (eC (.str "set")) (aCons (eLoc 0) aNil))) aNil)))) (aCons (eTup (aCons (eC (.str "p")) (aCons (eTup (aCons (eLoc 0) aNil)) (aCons (eTup (aCons (eC (.str "set")) (aCons (eLoc 0) aNil))) aNil)))) (aCons (eTup (aCons (eC (.str "q")) (aCons (eTup (aCons (eTup (aCons (eC (.str "set")) (aCons (eLoc 0) aNil))) aNil)) (aCons (eLoc 0) aNil)))) aNil))))))))))
def body__law_term (cl : Cl) : S → Rs :=
  (sSeq (sSet 4 (eFrz (eLc [10] (.nm 10) (iAny (eLoc 1)) (tAndD (eBl (eOp eqD (eOp ixSq (eLoc 10) (eC (.int (2)))) (eLoc 2))) (tOrD (eBl (eOp eqD (eOp ixSq (eLoc 10) (eC (.int (1)))) (eTup aNil))) (eBl (eOp gtD (eLoc 3) (eC (.int (0))))))) (eLoc 10))))
    (sSeq (sSet 5 (eFn (fun ds m => if ds.length = 2 then cl 45 ds m else .stuck) (aCons (eLoc 0) (aCons (eC (.int (4))) aNil))))
    (sSeq (sIf (tAndD (eBl (eOp gtD (eLoc 3) (eC (.int (0))))) (tAndD (eBl (eOp eqD (eOp ixSq (eLoc 2) (eC (.int (0)))) (eC (.str "list")))) (eBl (eOp ltD (eLoc 5) (eC (.int (2)))))))
    (sRet (eTup (aCons (eC (.str "cons")) (aCons (eFn (fun ds m => if ds.length = 4 then cl 48 ds m else .stuck) (aCons (eLoc 0) (aCons (eLoc 1) (aCons (eOp ixSq (eLoc 2) (eC (.int (1)))) (aCons (eOp subD (eLoc 3) (eC (.int (1)))) aNil))))) (aCons (eFn (fun ds m => if ds.length = 4 then cl 48 ds m else .stuck) (aCons (eLoc 0) (aCons (eLoc 1) (aCons (eLoc 2) (aCons (eOp subD (eLoc 3) (eC (.int (1)))) aNil))))) aNil)))))
    sNil)
    (sSeq (sIf (tAndD (eBl (eOp gtD (eLoc 3) (eC (.int (0))))) (tAndD (eBl (eOp eqD (eOp ixSq (eLoc 2) (eC (.int (0)))) (eC (.str "set")))) (eBl (eOp ltD (eLoc 5) (eC (.int (2)))))))
    (sSeq (sSet 9 (eFn (fun ds m => if ds.length = 2 then cl 46 ds m else .stuck) (aCons (eLoc 0) (aCons (eLst (aCons (eC (.str "one")) (aCons (eC (.str "join")) (aCons (eC (.str "meet")) (aCons (eC (.str "without")) aNil))))) aNil))))
    (sSeq (sIf (eBl (eOp eqD (eLoc 9) (eC (.str "one"))))
    (sRet (eTup (aCons (eC (.str "one")) (aCons (eFn (fun ds m => if ds.length = 4 then cl 48 ds m else .stuck) (aCons (eLoc 0) (aCons (eLoc 1) (aCons (eOp ixSq (eLoc 2) (eC (.int (1)))) (aCons (eOp subD (eLoc 3) (eC (.int (1)))) aNil))))) aNil))))
    sNil)
    (sRet (eTup (aCons (eLoc 9) (aCons (eFn (fun ds m => if ds.length = 4 then cl 48 ds m else .stuck) (aCons (eLoc 0) (aCons (eLoc 1) (aCons (eLoc 2) (aCons (eOp subD (eLoc 3) (eC (.int (1)))) aNil))))) (aCons (eFn (fun ds m => if ds.length = 4 then cl 48 ds m else .stuck) (aCons (eLoc 0) (aCons (eLoc 1) (aCons (eLoc 2) (aCons (eOp subD (eLoc 3) (eC (.int (1)))) aNil))))) aNil)))))))
    sNil)
    (sSeq (sIf (tOrD (eBl (eOp eqD (eLoc 4) (eLst aNil))) (tAndD (eBl (eOp eqD (eLoc 5) (eC (.int (3))))) (eBl (eOp eqD (eOp ixSq (eLoc 2) (eC (.int (0)))) (eC (.str "list"))))))
    (sRet (eIf (eBl (eOp eqD (eOp ixSq (eLoc 2) (eC (.int (0)))) (eC (.str "list")))) (eTup (aCons (eC (.str "nil")) (aCons (eOp ixSq (eLoc 2) (eC (.int (1)))) aNil))) (eTup (aCons (eC (.str "none")) (aCons (eOp ixSq (eLoc 2) (eC (.int (1)))) aNil)))))
    sNil)
    (sSeq (sAsg (eFn (fun ds m => if ds.length = 2 then cl 46 ds m else .stuck) (aCons (eLoc 0) (aCons (eLoc 4) aNil))) (gTp 3 (gCons (gNm 6) (gCons (gNm 7) (gCons (gNm 8) gNil)))))
    (sRet (eTup (aCons (eC (.str "un")) (aCons (eLoc 6) (aCons (eCall tupleD (aCons (eFrz (eLc [11] (.nm 11) (iAny (eLoc 7)) tYesD (eFn (fun ds m => if ds.length = 4 then cl 48 ds m else .stuck) (aCons (eLoc 0) (aCons (eLoc 1) (aCons (eLoc 11) (aCons (eOp subD (eLoc 3) (eC (.int (1)))) aNil))))))) aNil)) aNil)))))))))))
def body__law_atom (cl : Cl) : S → Rs :=
  (sSeq (sSet 3 (eTup (aCons (eC (.str "things")) (aCons (eC (.str "a")) aNil))))
    (sSeq (sSet 4 (eFrz (eLc [5] (.nm 5) (iAny (eLst (aCons (eLoc 3) (aCons (eLoc 3) (aCons (eTup (aCons (eC (.str "list")) (aCons (eLoc 3) aNil))) (aCons (eTup (aCons (eC (.str "set")) (aCons (eLoc 3) aNil))) aNil)))))) (eBl (eOp neD (eFrz (eLc [6] (.nm 6) (iAny (eLoc 1)) (tAndD (eBl (eOp eqD (eOp ixSq (eLoc 6) (eC (.int (2)))) (eLoc 5))) (eBl (eOp eqD (eOp ixSq (eLoc 6) (eC (.int (1)))) (eTup aNil)))) (eLoc 6))) (eLst aNil))) (eLoc 5))))
    (sSeq (sSet 5 (eFn (fun ds m => if ds.length = 2 then cl 46 ds m else .stuck) (aCons (eLoc 0) (aCons (eLoc 4) aNil))))
    (sSeq (sIf (tAndD (eBl (eOp eqD (eOp ixSq (eLoc 5) (eC (.int (0)))) (eC (.str "set")))) (eBl (eOp gtD (eFn (fun ds m => if ds.length = 2 then cl 45 ds m else .stuck) (aCons (eLoc 0) (aCons (eC (.int (3))) aNil))) (eC (.int (0))))))
    (sRet (eTup (aCons (eC (.str "in")) (aCons (eFn (fun ds m => if ds.length = 4 then cl 48 ds m else .stuck) (aCons (eLoc 0) (aCons (eLoc 1) (aCons (eLoc 3) (aCons (eLoc 2) aNil))))) (aCons (eFn (fun ds m => if ds.length = 4 then cl 48 ds m else .stuck) (aCons (eLoc 0) (aCons (eLoc 1) (aCons (eLoc 5) (aCons (eLoc 2) aNil))))) aNil)))))
    sNil)
    (sRet (eTup (aCons (eC (.str "is")) (aCons (eFn (fun ds m => if ds.length = 4 then cl 48 ds m else .stuck) (aCons (eLoc 0) (aCons (eLoc 1) (aCons (eLoc 5) (aCons (eLoc 2) aNil))))) (aCons (eFn (fun ds m => if ds.length = 4 then cl 48 ds m else .stuck) (aCons (eLoc 0) (aCons (eLoc 1) (aCons (eLoc 5) (aCons (eLoc 2) aNil))))) aNil)))))))))
def body__law_claim (cl : Cl) : S → Rs :=
  (sSeq (sSet 4 (eIf (eBl (eOp gtD (eLoc 3) (eC (.int (0))))) (eFn (fun ds m => if ds.length = 2 then cl 45 ds m else .stuck) (aCons (eLoc 0) (aCons (eC (.int (8))) aNil))) (eC (.int (0)))))
    (sSeq (sIf (eBl (eOp ltD (eLoc 4) (eC (.int (3)))))
    (sRet (eFn (fun ds m => if ds.length = 3 then cl 49 ds m else .stuck) (aCons (eLoc 0) (aCons (eLoc 1) (aCons (eLoc 2) aNil)))))
    sNil)
    (sSeq (sIf (eBl (eOp eqD (eLoc 4) (eC (.int (3)))))
    (sRet (eTup (aCons (eC (.str "not")) (aCons (eFn (fun ds m => if ds.length = 4 then cl 50 ds m else .stuck) (aCons (eLoc 0) (aCons (eLoc 1) (aCons (eLoc 2) (aCons (eOp subD (eLoc 3) (eC (.int (1)))) aNil))))) aNil))))
    sNil)
    (sSeq (sSet 5 (eOp ixSq (eLst (aCons (eC (.str "and")) (aCons (eC (.str "or")) (aCons (eC (.str "then")) (aCons (eC (.str "same")) aNil))))) (eOp subD (eLoc 4) (eC (.int (4))))))
    (sRet (eTup (aCons (eLoc 5) (aCons (eFn (fun ds m => if ds.length = 4 then cl 50 ds m else .stuck) (aCons (eLoc 0) (aCons (eLoc 1) (aCons (eLoc 2) (aCons (eOp subD (eLoc 3) (eC (.int (1)))) aNil))))) (aCons (eFn (fun ds m => if ds.length = 4 then cl 50 ds m else .stuck) (aCons (eLoc 0) (aCons (eLoc 1) (aCons (eLoc 2) (aCons (eOp subD (eLoc 3) (eC (.int (1)))) aNil))))) aNil)))))))))
def body__law_some (cl : Cl) : S → Rs :=
  (sSeq (sSet 1 (eFn (fun ds m => if ds.length = 0 then cl 47 ds m else .stuck) aNil))
    (sSeq (sSet 2 (eOp addD (eLst (aCons (eOp ixSq (eLoc 1) (eC (.int (0)))) aNil)) (eFrz (eLc [3] (.nm 3) (iAny (eSl (eLoc 1) (oSm (eC (.int (1)))) (oSm (eC (.int (5)))))) (eBl (eOp eqD (eFn (fun ds m => if ds.length = 2 then cl 45 ds m else .stuck) (aCons (eLoc 0) (aCons (eC (.int (2))) aNil))) (eC (.int (0))))) (eLoc 3)))))
    (sSeq (sIf (eBl (eOp eqD (eFn (fun ds m => if ds.length = 2 then cl 45 ds m else .stuck) (aCons (eLoc 0) (aCons (eC (.int (2))) aNil))) (eC (.int (0)))))
    (sSet 2 (eOp addD (eOp addD (eLoc 2) (eSl (eLoc 1) (oSm (eC (.int (5)))) (oSm (eC (.int (6)))))) (eFrz (eLc [3] (.nm 3) (iAny (eSl (eLoc 1) (oSm (eC (.int (6)))) (oSm (eC (.int (9)))))) (eBl (eOp eqD (eFn (fun ds m => if ds.length = 2 then cl 45 ds m else .stuck) (aCons (eLoc 0) (aCons (eC (.int (2))) aNil))) (eC (.int (0))))) (eLoc 3)))))
    sNil)
    (sSeq (sIf (eBl (eOp eqD (eFn (fun ds m => if ds.length = 2 then cl 45 ds m else .stuck) (aCons (eLoc 0) (aCons (eC (.int (2))) aNil))) (eC (.int (0)))))
    (sSet 2 (eOp addD (eOp addD (eLoc 2) (eSl (eLoc 1) (oSm (eC (.int (9)))) (oSm (eC (.int (10)))))) (eFrz (eLc [3] (.nm 3) (iAny (eSl (eLoc 1) (oSm (eC (.int (10)))) (oSm (eC (.int (13)))))) (eBl (eOp eqD (eFn (fun ds m => if ds.length = 2 then cl 45 ds m else .stuck) (aCons (eLoc 0) (aCons (eC (.int (3))) aNil))) (eC (.int (0))))) (eLoc 3)))))
    sNil)
    (sRet (eLoc 2))))))
def body__law_made (cl : Cl) : S → Rs :=
  (sSeq (sIf (eBl (eOp inD (eLoc 0) (eTup (aCons (eC (.str "nil")) (aCons (eC (.str "none")) aNil)))))
    (sRet (eTup aNil))
    sNil)
    (sSeq (sIf (eBl (eOp eqD (eLoc 0) (eC (.str "cons"))))
    (sRet (eOp addD (eTup (aCons (eOp ixSq (eLoc 1) (eC (.int (0)))) aNil)) (eOp ixSq (eLoc 1) (eC (.int (1))))))
    sNil)
    (sSeq (sIf (eBl (eOp eqD (eLoc 0) (eC (.str "one"))))
    (sRet (eTup (aCons (eOp ixSq (eLoc 1) (eC (.int (0)))) aNil)))
    sNil)
    (sSeq (sIf (eBl (eOp eqD (eLoc 0) (eC (.str "join"))))
    (sRet (eCall tupleD (aCons (eCall sorted2D (aCons (eFrz (fDict (eFrz (eLc [2] (.nm 2) (iAny (eOp addD (eOp ixSq (eLoc 1) (eC (.int (0)))) (eOp ixSq (eLoc 1) (eC (.int (1)))))) tYesD (eTup (aCons (eLoc 2) (aCons (eC (.int (1))) aNil))))))) aNil)) aNil)))
    sNil)
    (sRet (eCall tupleD (aCons (eFrz (eLc [2] (.nm 2) (iAny (eOp ixSq (eLoc 1) (eC (.int (0))))) (eBl (eOp eqD (eOp inD (eLoc 2) (eOp ixSq (eLoc 1) (eC (.int (1))))) (eOp eqD (eLoc 0) (eC (.str "meet"))))) (eLoc 2))) aNil)))))))
def body__law_worth (cl : Cl) : S → Rs :=
  (sSeq (sIf (eBl (eOp inD (eOp ixSq (eLoc 1) (eC (.int (0)))) (eTup (aCons (eC (.str "nil")) (aCons (eC (.str "none")) aNil)))))
    (sRet (eTup aNil))
    sNil)
    (sSeq (sSet 2 (eCall tupleD (aCons (eFrz (eLc [5] (.nm 5) (iAny (eIf (eBl (eOp eqD (eOp ixSq (eLoc 1) (eC (.int (0)))) (eC (.str "un")))) (eOp ixSq (eLoc 1) (eC (.int (2)))) (eSl (eLoc 1) (oSm (eC (.int (1)))) oNo))) tYesD (eFn (fun ds m => if ds.length = 2 then cl 53 ds m else .stuck) (aCons (eLoc 0) (aCons (eLoc 5) aNil))))) aNil)))
    (sSeq (sIf (eBl (eOp neD (eOp ixSq (eLoc 1) (eC (.int (0)))) (eC (.str "un"))))
    (sRet (eFn (fun ds m => if ds.length = 2 then cl 52 ds m else .stuck) (aCons (eOp ixSq (eLoc 1) (eC (.int (0)))) (aCons (eLoc 2) aNil))))
    sNil)
    (sSeq (sIf (eBl (eOp eqD (eLoc 2) (eTup aNil)))
    (sRet (eOp dgetD (eLoc 0) (eOp ixSq (eLoc 1) (eC (.int (1))))))
    sNil)
    (sSeq (sAsg (eOp dgetD (eLoc 0) (eOp ixSq (eLoc 1) (eC (.int (1))))) (gTp 2 (gCons (gNm 3) (gCons (gNm 4) gNil))))
    (sRet (eGet (eFrz (fDict (eLoc 3))) (eLoc 2) (eLoc 4))))))))
def body__law_holds (cl : Cl) : S → Rs :=
  (sSeq (sSet 2 (eOp ixSq (eLoc 1) (eC (.int (0)))))
    (sSeq (sIf (eBl (eOp inD (eLoc 2) (eTup (aCons (eC (.str "true")) (aCons (eC (.str "false")) aNil)))))
    (sRet (eOp eqD (eLoc 2) (eC (.str "true"))))
    sNil)
    (sSeq (sIf (eBl (eOp eqD (eLoc 2) (eC (.str "is"))))
    (sRet (eOp eqD (eFn (fun ds m => if ds.length = 2 then cl 53 ds m else .stuck) (aCons (eLoc 0) (aCons (eOp ixSq (eLoc 1) (eC (.int (1)))) aNil))) (eFn (fun ds m => if ds.length = 2 then cl 53 ds m else .stuck) (aCons (eLoc 0) (aCons (eOp ixSq (eLoc 1) (eC (.int (2)))) aNil)))))
    sNil)
    (sSeq (sIf (eBl (eOp eqD (eLoc 2) (eC (.str "in"))))
    (sRet (eOp inD (eFn (fun ds m => if ds.length = 2 then cl 53 ds m else .stuck) (aCons (eLoc 0) (aCons (eOp ixSq (eLoc 1) (eC (.int (1)))) aNil))) (eFn (fun ds m => if ds.length = 2 then cl 53 ds m else .stuck) (aCons (eLoc 0) (aCons (eOp ixSq (eLoc 1) (eC (.int (2)))) aNil)))))
    sNil)
    (sSeq (sSet 3 (eFn (fun ds m => if ds.length = 2 then cl 54 ds m else .stuck) (aCons (eLoc 0) (aCons (eOp ixSq (eLoc 1) (eC (.int (1)))) aNil))))
    (sSeq (sIf (eBl (eOp eqD (eLoc 2) (eC (.str "not"))))
    (sRet (eNot (eLoc 3)))
    sNil)
    (sSeq (sSet 4 (eFn (fun ds m => if ds.length = 2 then cl 54 ds m else .stuck) (aCons (eLoc 0) (aCons (eOp ixSq (eLoc 1) (eC (.int (2)))) aNil))))
    (sSeq (sIf (eBl (eOp eqD (eLoc 2) (eC (.str "and"))))
    (sRet (eAnd (eLoc 3) (eLoc 4)))
    sNil)
    (sSeq (sIf (eBl (eOp eqD (eLoc 2) (eC (.str "or"))))
    (sRet (eOr (eLoc 3) (eLoc 4)))
    sNil)
    (sRet (eIf (eBl (eOp eqD (eLoc 2) (eC (.str "then")))) (eOr (eNot (eLoc 3)) (eLoc 4)) (eOp eqD (eLoc 3) (eLoc 4)))))))))))))
def body__law_value (cl : Cl) : S → Rs :=
  (sSeq (sIf (eBl (eOp eqD (eOp ixSq (eLoc 1) (eC (.int (0)))) (eC (.str "things"))))
    (sRet (eFn (fun ds m => if ds.length = 2 then cl 45 ds m else .stuck) (aCons (eLoc 0) (aCons (eLoc 2) aNil))))
    sNil)
    (sSeq (sSet 3 (eFrz (eLc [4] (.nm 4) (iArgs rng1 (aCons (eFn (fun ds m => if ds.length = 2 then cl 45 ds m else .stuck) (aCons (eLoc 0) (aCons (eC (.int (3))) aNil))) aNil)) tYesD (eFn (fun ds m => if ds.length = 3 then cl 55 ds m else .stuck) (aCons (eLoc 0) (aCons (eOp ixSq (eLoc 1) (eC (.int (1)))) (aCons (eLoc 2) aNil)))))))
    (sRet (eIf (eBl (eOp eqD (eOp ixSq (eLoc 1) (eC (.int (0)))) (eC (.str "list")))) (eCall tupleD (aCons (eLoc 3) aNil)) (eCall tupleD (aCons (eCall sorted2D (aCons (eFrz (fDict (eFrz (eLc [5] (.nm 5) (iAny (eLoc 3)) tYesD (eTup (aCons (eLoc 5) (aCons (eC (.int (1))) aNil))))))) aNil)) aNil))))))
def body__law_model (cl : Cl) : S → Rs :=
  (sSeq (sOwn 3 fDct0)
    (sSeq (sFor (iAny (eLoc 1)) (gTp 3 (gCons (gNm 4) (gCons (gNm 5) (gCons (gNm 6) gNil))))
    (sIf (eBl (eOp eqD (eLoc 5) (eTup aNil)))
    (sDPut 3 (eLoc 4) (eFn (fun ds m => if ds.length = 3 then cl 55 ds m else .stuck) (aCons (eLoc 0) (aCons (eLoc 6) (aCons (eLoc 2) aNil)))))
    (sSeq (sOwn 7 fKdt0)
    (sSeq (sFor (iArgs rng1 (aCons (eFn (fun ds m => if ds.length = 2 then cl 45 ds m else .stuck) (aCons (eLoc 0) (aCons (eC (.int (4))) aNil))) aNil)) (gNm 8)
    (sKPut 7 (eCall tupleD (aCons (eFrz (eLc [9] (.nm 9) (iAny (eLoc 5)) tYesD (eFn (fun ds m => if ds.length = 3 then cl 55 ds m else .stuck) (aCons (eLoc 0) (aCons (eLoc 9) (aCons (eLoc 2) aNil)))))) aNil)) (eFn (fun ds m => if ds.length = 3 then cl 55 ds m else .stuck) (aCons (eLoc 0) (aCons (eLoc 6) (aCons (eLoc 2) aNil))))))
    (sDPut 3 (eLoc 4) (eTup (aCons (eCall tuplePD (aCons (eSortIt (eLoc 7)) aNil)) (aCons (eFn (fun ds m => if ds.length = 3 then cl 55 ds m else .stuck) (aCons (eLoc 0) (aCons (eLoc 6) (aCons (eLoc 2) aNil)))) aNil))))))))
    (sRet (eLoc 3))))
def body__law_like (cl : Cl) : S → Rs :=
  (sSeq (sIf (eTr (eIsi .tuple (eLoc 1)))
    (sRet (eAnd (eIsi .tuple (eLoc 0)) (eAnd (eOp eqD (eCall lenD (aCons (eLoc 0) aNil)) (eCall lenD (aCons (eLoc 1) aNil))) (eOp eqD (eFrz (eLc [2] (.nm 2) (iArgs rng1 (aCons (eCall lenD (aCons (eLoc 1) aNil)) aNil)) (tNotD (eTr (eFn (fun ds m => if ds.length = 2 then cl 57 ds m else .stuck) (aCons (eOp ixSq (eLoc 0) (eLoc 2)) (aCons (eOp ixSq (eLoc 1) (eLoc 2)) aNil))))) (eC (.int (1))))) (eLst aNil)))))
    sNil)
    (sSeq (sIf (eBl (eOp isD (eLoc 1) (eC (.bl true))))
    (sRet (eOp isD (eLoc 0) (eC (.bl true))))
    sNil)
    (sSeq (sIf (eBl (eOp isD (eLoc 1) (eC (.bl false))))
    (sRet (eOp isD (eLoc 0) (eC (.bl false))))
    sNil)
    (sSeq (sIf (eTr (eIsi .str (eLoc 1)))
    (sRet (eAnd (eIsi .str (eLoc 0)) (eOp eqD (eLoc 0) (eLoc 1))))
    sNil)
    (sRet (eAnd (eIsi .int (eLoc 0)) (eAnd (eNot (eIsi .bool (eLoc 0))) (eOp eqD (eLoc 0) (eLoc 1)))))))))
def body__law_told_value (cl : Cl) : S → Rs :=
  (sTry2 (fun ds m => if ds.length = 3 then cl 40 ds m else .stuck) "BadPart" "Refused" 3 (aCons (eLoc 0) (aCons (eLoc 1) (aCons (eLoc 2) aNil))) (fun fl => (eTup (aCons (eC (.str "bad")) (aCons (eFld fl "what") aNil)))) (fun fl => (eTup (aCons (eC (.str "refused")) (aCons (eFld fl "reason") aNil)))))
def body__law_told_truth (cl : Cl) : S → Rs :=
  (sTry2 (fun ds m => if ds.length = 3 then cl 41 ds m else .stuck) "BadPart" "Refused" 3 (aCons (eLoc 0) (aCons (eLoc 1) (aCons (eLoc 2) aNil))) (fun fl => (eTup (aCons (eC (.str "bad")) (aCons (eFld fl "what") aNil)))) (fun fl => (eTup (aCons (eC (.str "refused")) (aCons (eFld fl "reason") aNil)))))
def body__law_with (cl : Cl) : S → Rs :=
  (sSeq (sOwn 3 (fDict (eLoc 0)))
    (sSeq (sDPut 3 (eLoc 1) (eLoc 2))
    (sRet (eLoc 3))))
def body__law_wrong (cl : Cl) : S → Rs :=
  (sSeq (sSet 1 (eLst (aCons (eC .non) (aCons (eTup aNil) (aCons (eC (.int (5))) (aCons (eC (.str "model")) (aCons (eLst (aCons (eLoc 0) aNil)) (aCons (eFrz fDct0) (aCons (eFn (fun ds m => if ds.length = 3 then cl 60 ds m else .stuck) (aCons (eLoc 0) (aCons (eC (.str "zz")) (aCons (eC (.int (0))) aNil)))) (aCons (eFn (fun ds m => if ds.length = 3 then cl 60 ds m else .stuck) (aCons (eLoc 0) (aCons (eC (.str "x")) (aCons (eC (.bl true)) aNil)))) (aCons (eFn (fun ds m => if ds.length = 3 then cl 60 ds m else .stuck) (aCons (eLoc 0) (aCons (eC (.str "x")) (aCons (eOp subD (eC (.int (0))) (eC (.int (1)))) aNil)))) (aCons (eFn (fun ds m => if ds.length = 3 then cl 60 ds m else .stuck) (aCons (eLoc 0) (aCons (eC (.str "x")) (aCons (eC (.str "0")) aNil)))) aNil))))))))))))
    (sSeq (sSet 1 (eOp addD (eLoc 1) (eLst (aCons (eFn (fun ds m => if ds.length = 3 then cl 60 ds m else .stuck) (aCons (eLoc 0) (aCons (eC (.str "x")) (aCons (eC .non) aNil)))) (aCons (eFn (fun ds m => if ds.length = 3 then cl 60 ds m else .stuck) (aCons (eLoc 0) (aCons (eC (.str "x")) (aCons (eTup (aCons (eC (.int (0))) aNil)) aNil)))) (aCons (eFrz (fDict (eFrz (eLc [2] (.nm 2) (iKeysD (eLoc 0)) (eBl (eOp neD (eLoc 2) (eC (.str "x")))) (eTup (aCons (eLoc 2) (aCons (eOp dgetD (eLoc 0) (eLoc 2)) aNil))))))) aNil))))))
    (sSeq (sIf (eBl (eOp inD (eC (.str "s")) (eLoc 0)))
    (sSet 1 (eOp addD (eLoc 1) (eLst (aCons (eFn (fun ds m => if ds.length = 3 then cl 60 ds m else .stuck) (aCons (eLoc 0) (aCons (eC (.str "s")) (aCons (eTup (aCons (eC (.int (1))) (aCons (eC (.int (0))) aNil))) aNil)))) (aCons (eFn (fun ds m => if ds.length = 3 then cl 60 ds m else .stuck) (aCons (eLoc 0) (aCons (eC (.str "s")) (aCons (eTup (aCons (eC (.int (0))) (aCons (eC (.int (0))) aNil))) aNil)))) (aCons (eFn (fun ds m => if ds.length = 3 then cl 60 ds m else .stuck) (aCons (eLoc 0) (aCons (eC (.str "s")) (aCons (eLst (aCons (eC (.int (0))) aNil)) aNil)))) (aCons (eFn (fun ds m => if ds.length = 3 then cl 60 ds m else .stuck) (aCons (eLoc 0) (aCons (eC (.str "s")) (aCons (eTup (aCons (eC (.bl false)) aNil)) aNil)))) (aCons (eFn (fun ds m => if ds.length = 3 then cl 60 ds m else .stuck) (aCons (eLoc 0) (aCons (eC (.str "s")) (aCons (eC (.int (0))) aNil)))) aNil))))))))
    sNil)
    (sSeq (sIf (eBl (eOp inD (eC (.str "l")) (eLoc 0)))
    (sSet 1 (eOp addD (eLoc 1) (eLst (aCons (eFn (fun ds m => if ds.length = 3 then cl 60 ds m else .stuck) (aCons (eLoc 0) (aCons (eC (.str "l")) (aCons (eTup (aCons (eTup (aCons (eC (.int (0))) aNil)) aNil)) aNil)))) (aCons (eFn (fun ds m => if ds.length = 3 then cl 60 ds m else .stuck) (aCons (eLoc 0) (aCons (eC (.str "l")) (aCons (eLst (aCons (eC (.int (0))) aNil)) aNil)))) (aCons (eFn (fun ds m => if ds.length = 3 then cl 60 ds m else .stuck) (aCons (eLoc 0) (aCons (eC (.str "l")) (aCons (eTup (aCons (eC (.int (0))) (aCons (eOp subD (eC (.int (0))) (eC (.int (1)))) aNil))) aNil)))) aNil))))))
    sNil)
    (sSeq (sIf (eBl (eOp inD (eC (.str "f")) (eLoc 0)))
    (sSeq (sSet 1 (eOp addD (eLoc 1) (eLst (aCons (eFn (fun ds m => if ds.length = 3 then cl 60 ds m else .stuck) (aCons (eLoc 0) (aCons (eC (.str "f")) (aCons (eC (.int (0))) aNil)))) (aCons (eFn (fun ds m => if ds.length = 3 then cl 60 ds m else .stuck) (aCons (eLoc 0) (aCons (eC (.str "f")) (aCons (eTup (aCons (eTup (aCons (eTup (aCons (eTup (aCons (eC (.int (0))) aNil)) (aCons (eC (.int (1))) aNil))) (aCons (eTup (aCons (eTup (aCons (eC (.int (0))) aNil)) (aCons (eC (.int (1))) aNil))) aNil))) (aCons (eC (.int (0))) aNil))) aNil)))) (aCons (eFn (fun ds m => if ds.length = 3 then cl 60 ds m else .stuck) (aCons (eLoc 0) (aCons (eC (.str "f")) (aCons (eTup (aCons (eTup (aCons (eTup (aCons (eTup (aCons (eC (.int (1))) aNil)) (aCons (eC (.int (1))) aNil))) (aCons (eTup (aCons (eTup (aCons (eC (.int (0))) aNil)) (aCons (eC (.int (1))) aNil))) aNil))) (aCons (eC (.int (0))) aNil))) aNil)))) aNil))))))
    (sSet 1 (eOp addD (eLoc 1) (eLst (aCons (eFn (fun ds m => if ds.length = 3 then cl 60 ds m else .stuck) (aCons (eLoc 0) (aCons (eC (.str "f")) (aCons (eTup (aCons (eTup (aCons (eTup (aCons (eTup (aCons (eC (.int (0))) (aCons (eC (.int (0))) aNil))) (aCons (eC (.int (1))) aNil))) aNil)) (aCons (eC (.int (0))) aNil))) aNil)))) (aCons (eFn (fun ds m => if ds.length = 3 then cl 60 ds m else .stuck) (aCons (eLoc 0) (aCons (eC (.str "f")) (aCons (eTup (aCons (eTup (aCons (eTup (aCons (eC (.int (0))) (aCons (eC (.int (1))) aNil))) aNil)) (aCons (eC (.int (0))) aNil))) aNil)))) (aCons (eFn (fun ds m => if ds.length = 3 then cl 60 ds m else .stuck) (aCons (eLoc 0) (aCons (eC (.str "f")) (aCons (eTup (aCons (eTup (aCons (eTup (aCons (eTup (aCons (eC (.int (0))) aNil)) (aCons (eC .non) aNil))) aNil)) (aCons (eC (.int (0))) aNil))) aNil)))) (aCons (eFn (fun ds m => if ds.length = 3 then cl 60 ds m else .stuck) (aCons (eLoc 0) (aCons (eC (.str "f")) (aCons (eTup (aCons (eTup aNil) aNil)) aNil)))) aNil))))))))
    sNil)
    (sRet (eLoc 1)))))))
def body__law_numbers_right (cl : Cl) : S → Rs :=
  (sSeq (sAsg (eTup (aCons (eTup (aCons (eC (.str "un")) (aCons (eC (.str "n")) (aCons (eTup aNil) aNil)))) (aCons (eTup (aCons (eC (.str "un")) (aCons (eC (.str "w")) (aCons (eTup aNil) aNil)))) aNil))) (gTp 2 (gCons (gNm 0) (gCons (gNm 1) gNil))))
    (sSeq (sSet 2 (eTup (aCons (eC (.str "text")) (aCons (eTup aNil) (aCons (eTup (aCons (eTup (aCons (eC (.str "n")) (aCons (eTup aNil) (aCons (eTup (aCons (eC (.str "num")) aNil)) aNil)))) (aCons (eTup (aCons (eC (.str "w")) (aCons (eTup aNil) (aCons (eTup (aCons (eC (.str "bits")) (aCons (eC (.int (3))) aNil))) aNil)))) aNil))) (aCons (eTup (aCons (eTup (aCons (eC (.str "less")) (aCons (eLoc 0) (aCons (eTup (aCons (eC (.str "num")) (aCons (eC (.int (2))) (aCons (eC (.int (3))) aNil)))) aNil)))) (aCons (eTup (aCons (eC (.str "not")) (aCons (eTup (aCons (eC (.str "below")) (aCons (eLoc 1) (aCons (eTup (aCons (eC (.str "word")) (aCons (eTup (aCons (eC (.int (0))) (aCons (eC (.int (0))) (aCons (eC (.int (1))) aNil)))) aNil))) aNil)))) aNil))) aNil))) aNil))))))
    (sSeq (sSet 3 (eFrz (fDisp2 "n" "w" (eTup (aCons (eC (.int (1))) (aCons (eC (.int (2))) aNil))) (eTup (aCons (eC (.int (1))) (aCons (eC (.int (0))) (aCons (eC (.int (1))) aNil)))))))
    (sSeq (sSet 4 (eLst (aCons (eTup (aCons (eC (.str "times")) (aCons (eLoc 0) (aCons (eTup (aCons (eC (.str "num")) (aCons (eUn negD (eC (.int (3)))) (aCons (eC (.int (1))) aNil)))) aNil)))) (aCons (eTup (aCons (eC (.str "minus")) (aCons (eLoc 0) (aCons (eTup (aCons (eC (.str "num")) (aCons (eC (.int (1))) (aCons (eC (.int (2))) aNil)))) aNil)))) (aCons (eTup (aCons (eC (.str "plus")) (aCons (eLoc 0) (aCons (eTup (aCons (eC (.str "num")) (aCons (eC (.int (1))) (aCons (eC (.int (3))) aNil)))) aNil)))) (aCons (eTup (aCons (eC (.str "sum")) (aCons (eLoc 1) (aCons (eTup (aCons (eC (.str "word")) (aCons (eTup (aCons (eC (.int (1))) (aCons (eC (.int (1))) (aCons (eC (.int (0))) aNil)))) aNil))) aNil)))) (aCons (eTup (aCons (eC (.str "flip")) (aCons (eLoc 1) aNil))) (aCons (eTup (aCons (eC (.str "gate")) (aCons (eC (.str "xor")) (aCons (eLoc 1) (aCons (eTup (aCons (eC (.str "word")) (aCons (eTup (aCons (eC (.int (1))) (aCons (eC (.int (1))) (aCons (eC (.int (0))) aNil)))) aNil))) aNil))))) aNil))))))))
    (sSeq (sSet 5 (eCall tupleD (aCons (eOp addD (eFrz (eLc [9] (.nm 9) (iAny (eLoc 4)) tYesD (eFn (fun ds m => if ds.length = 3 then cl 58 ds m else .stuck) (aCons (eLoc 2) (aCons (eLoc 3) (aCons (eLoc 9) aNil)))))) (eLst (aCons (eFn (fun ds m => if ds.length = 3 then cl 58 ds m else .stuck) (aCons (eLoc 2) (aCons (eLoc 3) (aCons (eTup (aCons (eC (.str "gate")) (aCons (eC (.str "and")) (aCons (eLoc 1) (aCons (eTup (aCons (eC (.str "word")) (aCons (eTup (aCons (eC (.int (1))) (aCons (eC (.int (1))) (aCons (eC (.int (0))) aNil)))) aNil))) aNil))))) aNil)))) aNil))) aNil)))
    (sSeq (sIf (tOrD (tNotD (eTr (eFn (fun ds m => if ds.length = 2 then cl 57 ds m else .stuck) (aCons (eLoc 5) (aCons (eTup (aCons (eTup (aCons (eUn negD (eC (.int (3)))) (aCons (eC (.int (2))) aNil))) (aCons (eTup (aCons (eC (.int (0))) (aCons (eC (.int (1))) aNil))) (aCons (eTup (aCons (eC (.int (5))) (aCons (eC (.int (6))) aNil))) (aCons (eTup (aCons (eC (.int (0))) (aCons (eC (.int (0))) (aCons (eC (.int (0))) aNil)))) (aCons (eTup (aCons (eC (.int (0))) (aCons (eC (.int (1))) (aCons (eC (.int (0))) aNil)))) (aCons (eTup (aCons (eC (.int (0))) (aCons (eC (.int (1))) (aCons (eC (.int (1))) aNil)))) (aCons (eTup (aCons (eC (.int (1))) (aCons (eC (.int (0))) (aCons (eC (.int (0))) aNil)))) aNil)))))))) aNil))))) (eBl (eOp isnD (eFn (fun ds m => if ds.length = 2 then cl 42 ds m else .stuck) (aCons (eLoc 2) (aCons (eLoc 3) aNil))) (eC (.bl true)))))
    (sRet (eC (.bl false)))
    sNil)
    (sSeq (sSet 6 (eLst (aCons (eTup (aCons (eC (.str "most")) (aCons (eTup (aCons (eC (.str "num")) (aCons (eC (.int (1))) (aCons (eC (.int (2))) aNil)))) (aCons (eLoc 0) aNil)))) (aCons (eTup (aCons (eC (.str "less")) (aCons (eTup (aCons (eC (.str "num")) (aCons (eC (.int (1))) (aCons (eC (.int (2))) aNil)))) (aCons (eLoc 0) aNil)))) (aCons (eTup (aCons (eC (.str "below")) (aCons (eTup (aCons (eC (.str "word")) (aCons (eTup (aCons (eC (.int (1))) (aCons (eC (.int (1))) (aCons (eC (.int (0))) aNil)))) aNil))) (aCons (eLoc 1) aNil)))) (aCons (eTup (aCons (eC (.str "below")) (aCons (eLoc 1) (aCons (eLoc 1) aNil)))) aNil))))))
    (sSeq (sSet 6 (eOp addD (eLoc 6) (eLst (aCons (eTup (aCons (eC (.str "in")) (aCons (eLoc 0) (aCons (eTup (aCons (eC (.str "join")) (aCons (eTup (aCons (eC (.str "one")) (aCons (eLoc 0) aNil))) (aCons (eTup (aCons (eC (.str "one")) (aCons (eTup (aCons (eC (.str "num")) (aCons (eC (.int (1))) (aCons (eC (.int (1))) aNil)))) aNil))) aNil)))) aNil)))) (aCons (eTup (aCons (eC (.str "is")) (aCons (eTup (aCons (eC (.str "one")) (aCons (eLoc 0) aNil))) (aCons (eTup (aCons (eC (.str "none")) (aCons (eTup (aCons (eC (.str "num")) aNil)) aNil))) aNil)))) aNil)))))
    (sSeq (sIf (tNotD (eTr (eFn (fun ds m => if ds.length = 2 then cl 57 ds m else .stuck) (aCons (eCall tupleD (aCons (eFrz (eLc [10] (.nm 10) (iAny (eLoc 6)) tYesD (eFn (fun ds m => if ds.length = 3 then cl 59 ds m else .stuck) (aCons (eLoc 2) (aCons (eLoc 3) (aCons (eLoc 10) aNil)))))) aNil)) (aCons (eTup (aCons (eC (.bl true)) (aCons (eC (.bl false)) (aCons (eC (.bl true)) (aCons (eC (.bl false)) (aCons (eC (.bl true)) (aCons (eC (.bl false)) aNil))))))) aNil)))))
    (sRet (eC (.bl false)))
    sNil)
    (sSeq (sSet 7 (eOp addD (eFrz (eLc [8] (.nm 8) (iAny (eTup (aCons (eTup (aCons (eC (.int (2))) (aCons (eC (.int (4))) aNil))) (aCons (eTup (aCons (eC (.int (1))) (aCons (eC (.int (0))) aNil))) (aCons (eTup (aCons (eC (.int (1))) (aCons (eUn negD (eC (.int (2)))) aNil))) (aCons (eC (.int (1))) (aCons (eTup (aCons (eC (.bl true)) (aCons (eC (.int (1))) aNil))) aNil))))))) tYesD (eFrz (fDisp2 "n" "w" (eLoc 8) (eTup (aCons (eC (.int (1))) (aCons (eC (.int (0))) (aCons (eC (.int (1))) aNil)))))))) (eFrz (eLc [8] (.nm 8) (iAny (eTup (aCons (eTup (aCons (eC (.int (1))) (aCons (eC (.int (0))) aNil))) (aCons (eTup (aCons (eC (.int (1))) (aCons (eC (.int (0))) (aCons (eC (.int (2))) aNil)))) (aCons (eTup (aCons (eC (.int (1))) (aCons (eC (.int (0))) (aCons (eC (.bl true)) aNil)))) (aCons (eC (.int (5))) aNil)))))) tYesD (eFrz (fDisp2 "n" "w" (eTup (aCons (eC (.int (1))) (aCons (eC (.int (2))) aNil))) (eLoc 8)))))))
    (sRet (eOp eqD (eFrz (eLc [8] (.nm 8) (iAny (eLoc 7)) (eBl (eOp isnD (eFn (fun ds m => if ds.length = 2 then cl 42 ds m else .stuck) (aCons (eLoc 2) (aCons (eLoc 8) aNil))) (eC (.bl false)))) (eLoc 8))) (eLst aNil)))))))))))))
def law_1 (cl : Cl) : S → Rs :=
  (sSet 1 (eNew (fLst (aCons (eFn (fun ds m => if ds.length = 3 then cl 44 ds m else .stuck) (aCons (eLoc 0) (aCons (eC (.int (0))) (aCons (eC (.int (63))) aNil)))) (aCons (eC (.int (0))) aNil)))))
def law_2 (cl : Cl) : S → Rs :=
  (sSet 2 (eFn (fun ds m => if ds.length = 1 then cl 51 ds m else .stuck) (aCons (eLoc 1) aNil)))
def law_3 (cl : Cl) : S → Rs :=
  (sAsg (eTup (aCons (eFn (fun ds m => if ds.length = 3 then cl 56 ds m else .stuck) (aCons (eLoc 1) (aCons (eLoc 2) (aCons (eC (.int (3))) aNil)))) (aCons (eTup (aCons (eC (.str "things")) (aCons (eC (.str "a")) aNil))) aNil))) (gTp 2 (gCons (gNm 3) (gCons (gNm 4) gNil))))
def law_4 (cl : Cl) : S → Rs :=
  (sSet 5 (eCall tupleD (aCons (eFrz (eLc [16] (.nm 16) (iArgs rng1 (aCons (eC (.int (2))) aNil)) tYesD (eFn (fun ds m => if ds.length = 4 then cl 50 ds m else .stuck) (aCons (eLoc 1) (aCons (eLoc 2) (aCons (eC (.int (2))) (aCons (eC (.int (1))) aNil))))))) aNil)))
def law_5 (cl : Cl) : S → Rs :=
  (sSet 6 (eTup (aCons (eC (.str "text")) (aCons (eTup (aCons (eC (.str "a")) aNil)) (aCons (eCall tupleD (aCons (eLoc 2) aNil)) (aCons (eLoc 5) aNil))))))
def law_6 (cl : Cl) : S → Rs :=
  (sFor (iAny (eTup (aCons (eLoc 4) (aCons (eTup (aCons (eC (.str "list")) (aCons (eLoc 4) aNil))) (aCons (eTup (aCons (eC (.str "set")) (aCons (eLoc 4) aNil))) aNil))))) (gNm 7)
    (sSeq (sSet 14 (eFn (fun ds m => if ds.length = 4 then cl 48 ds m else .stuck) (aCons (eLoc 1) (aCons (eLoc 2) (aCons (eLoc 7) (aCons (eC (.int (2))) aNil))))))
    (sIf (tNotD (eTr (eFn (fun ds m => if ds.length = 2 then cl 57 ds m else .stuck) (aCons (eFn (fun ds m => if ds.length = 3 then cl 58 ds m else .stuck) (aCons (eLoc 6) (aCons (eLoc 3) (aCons (eLoc 14) aNil)))) (aCons (eFn (fun ds m => if ds.length = 2 then cl 53 ds m else .stuck) (aCons (eLoc 3) (aCons (eLoc 14) aNil))) aNil)))))
    (sRet (eC (.bl false)))
    sNil)))
def law_7 (cl : Cl) : S → Rs :=
  (sSet 8 (eCall tupleD (aCons (eFrz (eLc [17] (.nm 17) (iAny (eLoc 5)) tYesD (eFn (fun ds m => if ds.length = 2 then cl 54 ds m else .stuck) (aCons (eLoc 3) (aCons (eLoc 17) aNil))))) aNil)))
def law_8 (cl : Cl) : S → Rs :=
  (sIf (tOrD (tNotD (eTr (eFn (fun ds m => if ds.length = 2 then cl 57 ds m else .stuck) (aCons (eCall tupleD (aCons (eFrz (eLc [17] (.nm 17) (iAny (eLoc 5)) tYesD (eFn (fun ds m => if ds.length = 3 then cl 59 ds m else .stuck) (aCons (eLoc 6) (aCons (eLoc 3) (aCons (eLoc 17) aNil)))))) aNil)) (aCons (eLoc 8) aNil))))) (tNotD (eTr (eFn (fun ds m => if ds.length = 2 then cl 57 ds m else .stuck) (aCons (eFn (fun ds m => if ds.length = 2 then cl 42 ds m else .stuck) (aCons (eLoc 6) (aCons (eLoc 3) aNil))) (aCons (eOp ninD (eC (.bl false)) (eLoc 8)) aNil))))))
    (sRet (eC (.bl false)))
    sNil)
def law_9 (cl : Cl) : S → Rs :=
  (sSet 9 (eOp addD (eSl (eLoc 6) oNo (oSm (eC (.int (3))))) (eTup (aCons (eCall tupleD (aCons (eFrz (eLc [17] (.nm 17) (iAny (eLoc 5)) tYesD (eIf (eTr (eFn (fun ds m => if ds.length = 2 then cl 54 ds m else .stuck) (aCons (eLoc 3) (aCons (eLoc 17) aNil)))) (eLoc 17) (eTup (aCons (eC (.str "not")) (aCons (eLoc 17) aNil)))))) aNil)) aNil))))
def law_10 (cl : Cl) : S → Rs :=
  (sIf (tOrD (eBl (eOp isnD (eFn (fun ds m => if ds.length = 2 then cl 42 ds m else .stuck) (aCons (eLoc 9) (aCons (eLoc 3) aNil))) (eC (.bl true)))) (tNotD (eTr (eFn (fun ds m => if ds.length = 0 then cl 62 ds m else .stuck) aNil))))
    (sRet (eC (.bl false)))
    sNil)
def law_11 (cl : Cl) : S → Rs :=
  (sPar 10 11 (aCons (eTup (aCons (eC (.str "un")) (aCons (eC (.str "x")) (aCons (eTup aNil) aNil)))) (aCons (eOp addD (eSl (eLoc 6) oNo (oSm (eC (.int (3))))) (eTup (aCons (eTup aNil) aNil))) aNil)))
def law_12 (cl : Cl) : S → Rs :=
  (sFor (iArgs rng1 (aCons (eC (.int (3))) aNil)) (gNm 12)
    (sSeq (sSet 15 (eFn (fun ds m => if ds.length = 2 then cl 46 ds m else .stuck) (aCons (eLoc 1) (aCons (eFn (fun ds m => if ds.length = 1 then cl 61 ds m else .stuck) (aCons (eLoc 3) aNil)) aNil))))
    (sIf (tOrD (eBl (eOp isnD (eFn (fun ds m => if ds.length = 2 then cl 42 ds m else .stuck) (aCons (eLoc 11) (aCons (eLoc 15) aNil))) (eC (.bl false)))) (tNotD (eTr (eFn (fun ds m => if ds.length = 2 then cl 57 ds m else .stuck) (aCons (eFn (fun ds m => if ds.length = 3 then cl 58 ds m else .stuck) (aCons (eLoc 11) (aCons (eLoc 15) (aCons (eLoc 10) aNil)))) (aCons (eTup (aCons (eC (.str "refused")) (aCons (eC (.str "model")) aNil))) aNil))))))
    (sRet (eC (.bl false)))
    sNil)))
def law_13 (cl : Cl) : S → Rs :=
  (sIf (tNotD (eTr (eFn (fun ds m => if ds.length = 2 then cl 57 ds m else .stuck) (aCons (eTup (aCons (eFn (fun ds m => if ds.length = 3 then cl 58 ds m else .stuck) (aCons (eLoc 6) (aCons (eLoc 3) (aCons (eTup (aCons (eC (.str "cons")) (aCons (eLoc 10) (aCons (eLoc 10) aNil)))) aNil)))) (aCons (eFn (fun ds m => if ds.length = 3 then cl 59 ds m else .stuck) (aCons (eLoc 6) (aCons (eLoc 3) (aCons (eTup (aCons (eC (.str "in")) (aCons (eLoc 10) (aCons (eLoc 10) aNil)))) aNil)))) aNil))) (aCons (eTup (aCons (eTup (aCons (eC (.str "bad")) (aCons (eC (.str "term")) aNil))) (aCons (eTup (aCons (eC (.str "bad")) (aCons (eC (.str "claim")) aNil))) aNil))) aNil)))))
    (sRet (eC (.bl false)))
    sNil)
def law_14 (cl : Cl) : S → Rs :=
  (sSet 13 (eTup (aCons (eFn (fun ds m => if ds.length = 3 then cl 59 ds m else .stuck) (aCons (eSl (eLoc 6) oNo (oSm (eC (.int (3))))) (aCons (eLoc 3) (aCons (eTup (aCons (eC (.str "true")) aNil)) aNil)))) (aCons (eFn (fun ds m => if ds.length = 3 then cl 59 ds m else .stuck) (aCons (eLoc 11) (aCons (eFrz fDct0) (aCons (eTup (aCons (eC (.str "true")) aNil)) aNil)))) aNil))))
def law_15 (cl : Cl) : S → Rs :=
  (sRet (eFn (fun ds m => if ds.length = 2 then cl 57 ds m else .stuck) (aCons (eLoc 13) (aCons (eTup (aCons (eTup (aCons (eC (.str "bad")) (aCons (eC (.str "text")) aNil))) (aCons (eTup (aCons (eC (.str "refused")) (aCons (eC (.str "model")) aNil))) aNil))) aNil))))
def body_law (cl : Cl) : S → Rs :=
  sSeq (law_1 cl) (sSeq (law_2 cl) (sSeq (law_3 cl) (sSeq (law_4 cl) (sSeq (law_5 cl) (sSeq (law_6 cl) (sSeq (law_7 cl) (sSeq (law_8 cl) (sSeq (law_9 cl) (sSeq (law_10 cl) (sSeq (law_11 cl) (sSeq (law_12 cl) (sSeq (law_13 cl) (sSeq (law_14 cl) (law_15 cl))))))))))))))
def prog : Nat → Cl
  | 0, _ => fun _ _ => .stuck
  | k + 1, 0 => fnD 1 (body_is_integer (prog k))
  | k + 1, 1 => fnD 2 (body_is_name (prog k))
  | k + 1, 2 => fnD 3 (body_is_form (prog k))
  | k + 1, 3 => fnD 4 (body_is_sort (prog k))
  | k + 1, 4 => fnD 1 (body_inmost (prog k))
  | k + 1, 5 => fnD 3 (body_is_place (prog k))
  | k + 1, 6 => fnD 5 (body_is_shallow (prog k))
  | k + 1, 7 => fnD 1 (body_is_numeral (prog k))
  | k + 1, 8 => fnD 2 (body_is_word (prog k))
  | k + 1, 9 => fnD 6 (body_sort_of_un (prog k))
  | k + 1, 10 => fnD 4 (body_sort_of_list (prog k))
  | k + 1, 11 => fnD 3 (body_sort_of_set (prog k))
  | k + 1, 12 => fnD 4 (body_sort_of_two (prog k))
  | k + 1, 13 => fnD 3 (body_sort_of_bits (prog k))
  | k + 1, 14 => fnD 3 (body_sort_in (prog k))
  | k + 1, 15 => fnD 5 (body_is_claim_in (prog k))
  | k + 1, 16 => fnD 1 (body_parts_of (prog k))
  | k + 1, 17 => fnD 4 (body_all_parts (prog k))
  | k + 1, 18 => fnD 4 (body_own_of (prog k))
  | k + 1, 19 => fnD 3 (body_is_unknown (prog k))
  | k + 1, 20 => fnD 2 (body_is_small_claim (prog k))
  | k + 1, 21 => fnD 10 (body_is_text (prog k))
  | k + 1, 22 => fnD 1 (body_sure_text (prog k))
  | k + 1, 23 => fnD 4 (body_ratio (prog k))
  | k + 1, 24 => fnD 1 (body_is_ratio (prog k))
  | k + 1, 25 => fnD 4 (body_is_value (prog k))
  | k + 1, 26 => fnD 3 (body_are_ascending (prog k))
  | k + 1, 27 => fnD 6 (body_is_table (prog k))
  | k + 1, 28 => fnD 6 (body_is_choice (prog k))
  | k + 1, 29 => fnD 4 (body_found_in (prog k))
  | k + 1, 30 => fnD 7 (body_summed (prog k))
  | k + 1, 31 => fnD 5 (body_gated (prog k))
  | k + 1, 32 => fnD 4 (body_counted (prog k))
  | k + 1, 33 => fnD 4 (body_gathered (prog k))
  | k + 1, 34 => fnD 4 (body_made (prog k))
  | k + 1, 35 => fnD 2 (body_below (prog k))
  | k + 1, 36 => fnD 5 (body_asked (prog k))
  | k + 1, 37 => fnD 4 (body_worth (prog k))
  | k + 1, 38 => fnD 3 (body_holds (prog k))
  | k + 1, 39 => fnD 2 (body_sure_choice (prog k))
  | k + 1, 40 => fnD 3 (body_value_at (prog k))
  | k + 1, 41 => fnD 3 (body_holds_at (prog k))
  | k + 1, 42 => fnD 3 (body_is_model (prog k))
  | k + 1, 43 => fnD 2 (body__law_cell (prog k))
  | k + 1, 44 => fnD 9 (body__law_digits (prog k))
  | k + 1, 45 => fnD 4 (body__law_draw (prog k))
  | k + 1, 46 => fnD 2 (body__law_pick (prog k))
  | k + 1, 47 => fnD 2 (body__law_unknowns (prog k))
  | k + 1, 48 => fnD 12 (body__law_term (prog k))
  | k + 1, 49 => fnD 7 (body__law_atom (prog k))
  | k + 1, 50 => fnD 6 (body__law_claim (prog k))
  | k + 1, 51 => fnD 4 (body__law_some (prog k))
  | k + 1, 52 => fnD 3 (body__law_made (prog k))
  | k + 1, 53 => fnD 6 (body__law_worth (prog k))
  | k + 1, 54 => fnD 5 (body__law_holds (prog k))
  | k + 1, 55 => fnD 6 (body__law_value (prog k))
  | k + 1, 56 => fnD 10 (body__law_model (prog k))
  | k + 1, 57 => fnD 3 (body__law_like (prog k))
  | k + 1, 58 => fnD 4 (body__law_told_value (prog k))
  | k + 1, 59 => fnD 4 (body__law_told_truth (prog k))
  | k + 1, 60 => fnD 4 (body__law_with (prog k))
  | k + 1, 61 => fnD 3 (body__law_wrong (prog k))
  | k + 1, 62 => fnD 11 (body__law_numbers_right (prog k))
  | k + 1, 63 => fnD 18 (body_law (prog k))
  | _ + 1, _ => fun _ _ => .stuck
structure Glo (P : Program) (w : World) (K : KF) (mg : Str → Option Value) : Prop where
  pw : w = PWc.w
  b_isinstance : mg "isinstance" = none
  b_int : mg "int" = none
  b_bool : mg "bool" = none
  b_str : mg "str" = none
  b_len : mg "len" = none
  b_all : mg "all" = none
  b_tuple : mg "tuple" = none
  b_range : mg "range" = none
  b_abs : mg "abs" = none
  b_list : mg "list" = none
  b_zip : mg "zip" = none
  b_dict : mg "dict" = none
  b_max : mg "max" = none
  b_sorted : mg "sorted" = none
  g_MOST_SIGNS : GlobD K mg "MOST_SIGNS" (.int (8))
  g_LETTERS : GlobD K mg "LETTERS" (.str "abcdefghijklmnopqrstuvwxyz")
  g_SIGNS : GlobD K mg "SIGNS" (.str "abcdefghijklmnopqrstuvwxyz0123456789_")
  g_MOST_WIDE : GlobD K mg "MOST_WIDE" (.int (6))
  g_MOST_DEEP_sorts : GlobD K mg "MOST_DEEP_sorts" (.int (3))
  g_MOST_WIDE_WITHIN : GlobD K mg "MOST_WIDE_WITHIN" (.int (3))
  g_MOST_DEEP_terms : GlobD K mg "MOST_DEEP_terms" (.int (200))
  g_MOST_ABREAST : GlobD K mg "MOST_ABREAST" (.int (20000))
  g_MOST_NUMBER : GlobD K mg "MOST_NUMBER" (.int (999))
  g_MOST_BITS : GlobD K mg "MOST_BITS" (.int (6))
  g_GATES : GlobD K mg "GATES" (.tup [(.str "and"), (.str "or"), (.str "xor")])
  g_NUM : GlobD K mg "NUM" (.tup [(.str "num")])
  g_SUMS : GlobD K mg "SUMS" (.tup [(.str "plus"), (.str "minus"), (.str "times")])
  g_SETS : GlobD K mg "SETS" (.tup [(.str "none"), (.str "one"), (.str "join"), (.str "meet"), (.str "without")])
  g_BOTH : GlobD K mg "BOTH" (.tup [(.str "and"), (.str "or"), (.str "then"), (.str "same")])
  g_ALONE : GlobD K mg "ALONE" (.tup [(.str "num"), (.str "nil"), (.str "none"), (.str "word"), (.str "true"), (.str "false")])
  g_MOST_PLACES : GlobD K mg "MOST_PLACES" (.int (3))
  g_MOST_PARTS : GlobD K mg "MOST_PARTS" (.int (60))
  g_MOST_THINGS : GlobD K mg "MOST_THINGS" (.int (6))
  g_MOST_UNKNOWNS : GlobD K mg "MOST_UNKNOWNS" (.int (16))
  g_MOST_CLAIMS : GlobD K mg "MOST_CLAIMS" (.int (12))
  x_BadPart : ClsX P K mg "BadPart" "what" "BadPart.__init__"
  x_Refused : ClsX P K mg "Refused" "reason" "Refused.__init__"
  ap_BadPart_Refused : ApX K mg "BadPart" "Refused"
  gcd : mg "gcd" = some (.builtin "math.gcd")
structure Fns (P : Program) (w : World) (K : KF) (mg : Str → Option Value) (base : Heap) (k : Nat) (cl : Cl) : Prop where
  f0 : FnD P w K mg base k "is_integer" 1 (cl 0)
  f1 : FnD P w K mg base k "is_name" 1 (cl 1)
  f2 : FnD P w K mg base k "is_form" 3 (cl 2)
  f3 : FnD P w K mg base k "is_sort" 2 (cl 3)
  f4 : FnD P w K mg base k "inmost" 1 (cl 4)
  f5 : FnD P w K mg base k "is_place" 2 (cl 5)
  f6 : FnD P w K mg base k "is_shallow" 1 (cl 6)
  f7 : FnD P w K mg base k "is_numeral" 1 (cl 7)
  f8 : FnD P w K mg base k "is_word" 1 (cl 8)
  f9 : FnD P w K mg base k "sort_of_un" 2 (cl 9)
  f10 : FnD P w K mg base k "sort_of_list" 2 (cl 10)
  f11 : FnD P w K mg base k "sort_of_set" 2 (cl 11)
  f12 : FnD P w K mg base k "sort_of_two" 3 (cl 12)
  f13 : FnD P w K mg base k "sort_of_bits" 2 (cl 13)
  f14 : FnD P w K mg base k "sort_in" 2 (cl 14)
  f15 : FnD P w K mg base k "is_claim_in" 2 (cl 15)
  f16 : FnD P w K mg base k "parts_of" 1 (cl 16)
  f17 : FnD P w K mg base k "all_parts" 1 (cl 17)
  f18 : FnD P w K mg base k "own_of" 1 (cl 18)
  f19 : FnD P w K mg base k "is_unknown" 2 (cl 19)
  f20 : FnD P w K mg base k "is_small_claim" 2 (cl 20)
  f21 : FnD P w K mg base k "is_text" 1 (cl 21)
  f22 : FnD P w K mg base k "sure_text" 1 (cl 22)
  f23 : FnD P w K mg base k "ratio" 2 (cl 23)
  f24 : FnD P w K mg base k "is_ratio" 1 (cl 24)
  f25 : FnD P w K mg base k "is_value" 2 (cl 25)
  f26 : FnD P w K mg base k "are_ascending" 1 (cl 26)
  f27 : FnD P w K mg base k "is_table" 3 (cl 27)
  f28 : FnD P w K mg base k "is_choice" 2 (cl 28)
  f29 : FnD P w K mg base k "found_in" 2 (cl 29)
  f30 : FnD P w K mg base k "summed" 2 (cl 30)
  f31 : FnD P w K mg base k "gated" 3 (cl 31)
  f32 : FnD P w K mg base k "counted" 3 (cl 32)
  f33 : FnD P w K mg base k "gathered" 3 (cl 33)
  f34 : FnD P w K mg base k "made" 2 (cl 34)
  f35 : FnD P w K mg base k "below" 2 (cl 35)
  f36 : FnD P w K mg base k "asked" 3 (cl 36)
  f37 : FnD P w K mg base k "worth" 2 (cl 37)
  f38 : FnD P w K mg base k "holds" 2 (cl 38)
  f39 : FnD P w K mg base k "sure_choice" 2 (cl 39)
  f40 : FnD P w K mg base k "value_at" 3 (cl 40)
  f41 : FnD P w K mg base k "holds_at" 3 (cl 41)
  f42 : FnD P w K mg base k "is_model" 2 (cl 42)
  f43 : FnD P w K mg base k "_law_cell" 2 (cl 43)
  f44 : FnD P w K mg base k "_law_digits" 3 (cl 44)
  f45 : FnD P w K mg base k "_law_draw" 2 (cl 45)
  f46 : FnD P w K mg base k "_law_pick" 2 (cl 46)
  f47 : FnD P w K mg base k "_law_unknowns" 0 (cl 47)
  f48 : FnD P w K mg base k "_law_term" 4 (cl 48)
  f49 : FnD P w K mg base k "_law_atom" 3 (cl 49)
  f50 : FnD P w K mg base k "_law_claim" 4 (cl 50)
  f51 : FnD P w K mg base k "_law_some" 1 (cl 51)
  f52 : FnD P w K mg base k "_law_made" 2 (cl 52)
  f53 : FnD P w K mg base k "_law_worth" 2 (cl 53)
  f54 : FnD P w K mg base k "_law_holds" 2 (cl 54)
  f55 : FnD P w K mg base k "_law_value" 3 (cl 55)
  f56 : FnD P w K mg base k "_law_model" 3 (cl 56)
  f57 : FnD P w K mg base k "_law_like" 2 (cl 57)
  f58 : FnD P w K mg base k "_law_told_value" 3 (cl 58)
  f59 : FnD P w K mg base k "_law_told_truth" 3 (cl 59)
  f60 : FnD P w K mg base k "_law_with" 3 (cl 60)
  f61 : FnD P w K mg base k "_law_wrong" 1 (cl 61)
  f62 : FnD P w K mg base k "_law_numbers_right" 0 (cl 62)
  f63 : FnD P w K mg base k "law" 1 (cl 63)
section
variable {P : Program} {w : World} {K : KF} {mg : Str → Option Value} {base : Heap} {k : Nat} {cl : Cl}
theorem okf_is_integer {f : Addr} {fd : FuncData} (G : Glo P w K mg) (F : Fns P w K mg base k cl) (D : FunD K "is_integer" "is_integer" (defArgs st_is_integer) (defBody st_is_integer) (defScope st_is_integer) [] [] f fd) : FnOk P w K mg base (L2.CX P w) (k + 1) f fd ["thing"] (SpF K mg 1 (fnD 1 (body_is_integer cl))) :=
  fn_okD D sc_is_integer rfl fun f cdv A outer s H E hr => (s_one (s_ret (d_and (d_isi .int (dv 0) rfl G.b_isinstance rfl G.b_int (by decide +kernel) (by decide) (by decide)) (d_one (d_not (d_isi .bool (dv 0) rfl G.b_isinstance rfl G.b_bool (by decide +kernel) (by decide) (by decide)))))))
theorem okf_is_name {f : Addr} {fd : FuncData} (G : Glo P w K mg) (F : Fns P w K mg base k cl) (D : FunD K "is_name" "is_name" (defArgs st_is_name) (defBody st_is_name) (defScope st_is_name) [] [] f fd) : FnOk P w K mg base (L2.CX P w) (k + 1) f fd ["thing"] (SpF K mg 1 (fnD 2 (body_is_name cl))) :=
  fn_okD D sc_is_name rfl fun f cdv A outer s H E hr => (s_cons (s_if (w_pt (w_or (t_not (t_truth (d_isi .str (dv 0) rfl G.b_isinstance rfl G.b_str (by decide +kernel) (by decide) (by decide)))) (w_or1 (t_not (t_chain (o_le) (o_le) d_int (d_callB (c_len) rfl G.b_len (by decide +kernel) (a_cons (dv 0) a_nil)) (d_glob G.g_MOST_SIGNS rfl))))))
    (s_one (s_ret d_bl))
    s_nil)
    (s_one (s_ret (d_and (d_cmp (o_in (hu64 hr)) (d_ix ix_sq (dv 0) d_int (fun _ _ => rfl)) (d_glob G.g_LETTERS rfl) (by rfl)) (d_one (d_callB (c_all rfl) rfl G.b_all (by decide +kernel) (a_cons (d_frz (f_lc (own := [("sign", 1)]) (t := (.nm 1)) rfl sc_is_name.nd (i_any (dv 0)) (blkOk_by (by kernel_rfl)) (by decide) (fun _ _ _ _ _ => (tn 1 sc_is_name.nd)) (fun _ _ _ _ _ => ts_nil) (fun _ _ _ _ _ => (d_cmp (o_in (hu64 hr)) (dv 1) (d_glob G.g_SIGNS rfl) (by rfl))))) a_nil)))))))
theorem okf_is_form {f : Addr} {fd : FuncData} (G : Glo P w K mg) (F : Fns P w K mg base k cl) (D : FunD K "is_form" "is_form" (defArgs st_is_form) (defBody st_is_form) (defScope st_is_form) [] [] f fd) : FnOk P w K mg base (L2.CX P w) (k + 1) f fd ["thing", "word", "many"] (SpF K mg 3 (fnD 3 (body_is_form cl))) :=
  fn_okD D sc_is_form rfl fun f cdv A outer s H E hr => (s_cons (s_if (w_pt (w_or (t_not (t_truth (d_isi .tuple (dv 0) rfl G.b_isinstance rfl G.b_tuple (by decide +kernel) (by decide) (by decide)))) (w_or1 (t_cmp (o_ne (hu64 hr)) (d_callB (c_len) rfl G.b_len (by decide +kernel) (a_cons (dv 0) a_nil)) (dv 2) (nomark _)))))
    (s_one (s_ret d_bl))
    s_nil)
    (s_one (s_ret (d_and (d_isi .str (d_ix ix_sq (dv 0) d_int (fun _ _ => rfl)) rfl G.b_isinstance rfl G.b_str (by decide +kernel) (by decide) (by decide)) (d_one (d_cmp (o_eq (hu64 hr)) (d_ix ix_sq (dv 0) d_int (fun _ _ => rfl)) (dv 1) (nomark _)))))))
theorem okf_is_sort {f : Addr} {fd : FuncData} (G : Glo P w K mg) (F : Fns P w K mg base k cl) (D : FunD K "is_sort" "is_sort" (defArgs st_is_sort) (defBody st_is_sort) (defScope st_is_sort) [] [] f fd) : FnOk P w K mg base (L2.CX P w) (k + 1) f fd ["shape", "things"] (SpF K mg 2 (fnD 4 (body_is_sort cl))) :=
  fn_okD D sc_is_sort rfl fun f cdv A outer s H E hr => (s_cons (s_par (i := 2) (j := 3) rfl sc_is_sort.nd rfl rfl (by decide) rfl rfl (a_cons d_int (a_cons (d_glob G.g_MOST_WIDE rfl) a_nil)) (by rfl))
    (s_cons (s_while 3000 own_fn (w_pt (w_or (t_truth (d_fn F.f2 hr pass_fn rfl rfl (a_cons (dv 0) (a_cons d_str (a_cons d_int a_nil))))) (w_or1 (t_truth (d_fn F.f2 hr pass_fn rfl rfl (a_cons (dv 0) (a_cons d_str (a_cons d_int a_nil))))))))
    (s_cons (s_if (t_cmp (o_eq (hu64 hr)) (dv 2) (d_glob G.g_MOST_DEEP_sorts rfl) (nomark _))
    (s_one (s_ret d_bl))
    s_nil)
    (s_cons (sg 2 sc_is_sort.nd d_int p_add)
    (s_cons (s_if (t_cmp (o_eq (hu64 hr)) (d_ix ix_sq (dv 0) d_int (fun _ _ => rfl)) d_str (nomark _))
    (s_one (ss 3 sc_is_sort.nd (d_glob G.g_MOST_WIDE_WITHIN rfl)))
    s_nil)
    (s_one (ss 0 sc_is_sort.nd (d_ix ix_sq (dv 0) d_int (fun _ _ => rfl))))))))
    (s_cons (s_if (t_truth (d_fn F.f2 hr pass_fn rfl rfl (a_cons (dv 0) (a_cons d_str (a_cons d_int a_nil)))))
    (s_one (s_ret d_bl))
    s_nil)
    (s_cons (s_if (t_truth (d_fn F.f2 hr pass_fn rfl rfl (a_cons (dv 0) (a_cons d_str (a_cons d_int a_nil)))))
    (s_one (s_ret (d_and (d_isi .str (d_ix ix_sq (dv 0) d_int (fun _ _ => rfl)) rfl G.b_isinstance rfl G.b_str (by decide +kernel) (by decide) (by decide)) (d_one (d_cmp (o_in (hu64 hr)) (d_ix ix_sq (dv 0) d_int (fun _ _ => rfl)) (dv 1) (by rfl))))))
    s_nil)
    (s_one (s_ret (d_and (d_fn F.f2 hr pass_fn rfl rfl (a_cons (dv 0) (a_cons d_str (a_cons d_int a_nil)))) (d_and (d_fn F.f0 hr pass_fn rfl rfl (a_cons (d_ix ix_sq (dv 0) d_int (fun _ _ => rfl)) a_nil)) (d_one (d_chain (o_le) (o_le) d_int (d_ix ix_sq (dv 0) d_int (fun _ _ => rfl)) (dv 3)))))))))))
theorem okf_inmost {f : Addr} {fd : FuncData} (G : Glo P w K mg) (F : Fns P w K mg base k cl) (D : FunD K "inmost" "inmost" (defArgs st_inmost) (defBody st_inmost) (defScope st_inmost) [] [] f fd) : FnOk P w K mg base (L2.CX P w) (k + 1) f fd ["sort"] (SpF K mg 1 (fnD 1 (body_inmost cl))) :=
  fn_okD D sc_inmost rfl fun f cdv A outer s H E hr => (s_cons (s_while 3000 own_fn (t_cmp (o_in (hu64 hr)) (d_ix ix_sq (dv 0) d_int (fun _ _ => rfl)) (d_tup (a_cons d_str (a_cons d_str a_nil))) (by rfl))
    (s_one (ss 0 sc_inmost.nd (d_ix ix_sq (dv 0) d_int (fun _ _ => rfl)))))
    (s_one (s_ret (dv 0))))
theorem okf_is_place {f : Addr} {fd : FuncData} (G : Glo P w K mg) (F : Fns P w K mg base k cl) (D : FunD K "is_place" "is_place" (defArgs st_is_place) (defBody st_is_place) (defScope st_is_place) [] [] f fd) : FnOk P w K mg base (L2.CX P w) (k + 1) f fd ["shape", "things"] (SpF K mg 2 (fnD 3 (body_is_place cl))) :=
  fn_okD D sc_is_place rfl fun f cdv A outer s H E hr => (s_cons (s_if (t_not (t_truth (d_fn F.f3 hr pass_fn rfl rfl (a_cons (dv 0) (a_cons (dv 1) a_nil)))))
    (s_one (s_ret d_bl))
    s_nil)
    (s_cons (ss 2 sc_is_place.nd (d_fn F.f4 hr pass_fn rfl rfl (a_cons (dv 0) a_nil)))
    (s_one (s_ret (d_or (d_cmp (o_ne (hu64 hr)) (d_ix ix_sq (dv 2) d_int (fun _ _ => rfl)) d_str (nomark _)) (d_one (d_cmp (o_le) (d_ix ix_sq (dv 2) d_int (fun _ _ => rfl)) (d_glob G.g_MOST_WIDE_WITHIN rfl) (nomark _))))))))
theorem okf_is_shallow {f : Addr} {fd : FuncData} (G : Glo P w K mg) (F : Fns P w K mg base k cl) (D : FunD K "is_shallow" "is_shallow" (defArgs st_is_shallow) (defBody st_is_shallow) (defScope st_is_shallow) [] [] f fd) : FnOk P w K mg base (L2.CX P w) (k + 1) f fd ["thing"] (SpF K mg 1 (fnD 5 (body_is_shallow cl))) :=
  fn_okD D sc_is_shallow rfl fun f cdv A outer s H E hr => (s_cons (ss 1 sc_is_shallow.nd (d_lst (a_cons (dv 0) a_nil)))
    (s_cons (s_for own_fn rfl (i_range1 rfl G.b_range (a_cons (d_glob G.g_MOST_DEEP_terms rfl) a_nil)) (gn 2 sc_is_shallow.nd)
    (s_cons (s_lc2 (i := 1) (own := [("one", 3), ("member", 4)]) (vs1 := [4]) (t := (.nm 3)) (t1 := (.nm 4)) rfl sc_is_shallow.nd rfl rfl (sw_true rfl rfl rfl (by decide +kernel)) (i_any (dv 1)) (blkOk_by (by kernel_rfl)) (by decide) (by decide) (by decide) (fun _ _ _ _ _ => (tn 3 sc_is_shallow.nd)) (fun _ _ _ _ _ => (ts_one (t_truth (d_isi .tuple (dv 3) rfl G.b_isinstance rfl G.b_tuple (by decide +kernel) (by decide) (by decide))))) (fun _ _ _ _ _ => (i_any (dv 3))) (fun _ _ _ _ _ => (tn 4 sc_is_shallow.nd)) (fun _ _ _ _ _ => ts_nil) (fun _ _ _ _ _ => (dv 4)) (fun _ _ _ => dF_set))
    (s_cons (s_if (t_not (t_truth (dv 1)))
    (s_one (s_ret d_bl))
    s_nil)
    (s_one (s_if (t_cmp (o_gt) (d_callB (c_len) rfl G.b_len (by decide +kernel) (a_cons (dv 1) a_nil)) (d_glob G.g_MOST_ABREAST rfl) (nomark _))
    (s_one (s_ret d_bl))
    s_nil)))))
    (s_one (s_ret d_bl))))
theorem okf_is_numeral {f : Addr} {fd : FuncData} (G : Glo P w K mg) (F : Fns P w K mg base k cl) (D : FunD K "is_numeral" "is_numeral" (defArgs st_is_numeral) (defBody st_is_numeral) (defScope st_is_numeral) [] [] f fd) : FnOk P w K mg base (L2.CX P w) (k + 1) f fd ["thing"] (SpF K mg 1 (fnD 1 (body_is_numeral cl))) :=
  fn_okD D sc_is_numeral rfl fun f cdv A outer s H E hr => (s_cons (s_if (w_pt (w_or (t_not (t_truth (d_fn F.f2 hr pass_fn rfl rfl (a_cons (dv 0) (a_cons d_str (a_cons d_int a_nil)))))) (w_or (t_not (t_truth (d_fn F.f0 hr pass_fn rfl rfl (a_cons (d_ix ix_sq (dv 0) d_int (fun _ _ => rfl)) a_nil)))) (w_or1 (t_not (t_truth (d_fn F.f0 hr pass_fn rfl rfl (a_cons (d_ix ix_sq (dv 0) d_int (fun _ _ => rfl)) a_nil))))))))
    (s_one (s_ret d_bl))
    s_nil)
    (s_one (s_ret (d_and (d_cmp (o_le) (d_callB (c_abs) rfl G.b_abs (by decide +kernel) (a_cons (d_ix ix_sq (dv 0) d_int (fun _ _ => rfl)) a_nil)) (d_glob G.g_MOST_NUMBER rfl) (nomark _)) (d_and (d_chain (o_le) (o_le) d_int (d_ix ix_sq (dv 0) d_int (fun _ _ => rfl)) (d_glob G.g_MOST_NUMBER rfl)) (d_one (d_cmp (o_eq (hu64 hr)) (d_callBf c_gcd rfl G.gcd (a_cons (d_ix ix_sq (dv 0) d_int (fun _ _ => rfl)) (a_cons (d_ix ix_sq (dv 0) d_int (fun _ _ => rfl)) a_nil))) d_int (nomark _))))))))
theorem okf_is_word {f : Addr} {fd : FuncData} (G : Glo P w K mg) (F : Fns P w K mg base k cl) (D : FunD K "is_word" "is_word" (defArgs st_is_word) (defBody st_is_word) (defScope st_is_word) [] [] f fd) : FnOk P w K mg base (L2.CX P w) (k + 1) f fd ["thing"] (SpF K mg 1 (fnD 2 (body_is_word cl))) :=
  fn_okD D sc_is_word rfl fun f cdv A outer s H E hr => (s_cons (s_if (w_pt (w_or (t_not (t_truth (d_fn F.f2 hr pass_fn rfl rfl (a_cons (dv 0) (a_cons d_str (a_cons d_int a_nil)))))) (w_or (t_not (t_truth (d_isi .tuple (d_ix ix_sq (dv 0) d_int (fun _ _ => rfl)) rfl G.b_isinstance rfl G.b_tuple (by decide +kernel) (by decide) (by decide)))) (w_or1 (t_not (t_chain (o_le) (o_le) d_int (d_callB (c_len) rfl G.b_len (by decide +kernel) (a_cons (d_ix ix_sq (dv 0) d_int (fun _ _ => rfl)) a_nil)) (d_glob G.g_MOST_BITS rfl)))))))
    (s_one (s_ret d_bl))
    s_nil)
    (s_one (s_ret (d_callB (c_all rfl) rfl G.b_all (by decide +kernel) (a_cons (d_frz (f_lc (own := [("bit", 1)]) (t := (.nm 1)) rfl sc_is_word.nd (i_any (d_ix ix_sq (dv 0) d_int (fun _ _ => rfl))) (blkOk_by (by kernel_rfl)) (by decide) (fun _ _ _ _ _ => (tn 1 sc_is_word.nd)) (fun _ _ _ _ _ => ts_nil) (fun _ _ _ _ _ => (d_and (d_fn F.f0 hr passL rfl rfl (a_cons (dv 1) a_nil)) (d_one (d_chain (o_le) (o_le) d_int (dv 1) d_int)))))) a_nil)))))
theorem okf_sort_of_un {f : Addr} {fd : FuncData} (G : Glo P w K mg) (F : Fns P w K mg base k cl) (D : FunD K "sort_of_un" "sort_of_un" (defArgs st_sort_of_un) (defBody st_sort_of_un) (defScope st_sort_of_un) [] [] f fd) : FnOk P w K mg base (L2.CX P w) (k + 1) f fd ["own", "term"] (SpF K mg 2 (fnD 6 (body_sort_of_un cl))) :=
  fn_okD D sc_sort_of_un rfl fun f cdv A outer s H E hr => (s_cons (ss 2 sc_sort_of_un.nd (d_ix ix_sq (dv 0) d_int (fun _ _ => rfl)))
    (s_cons (s_if (w_pt (w_or (t_cmp (o_ne (hu64 hr)) (d_callB (c_len) rfl G.b_len (by decide +kernel) (a_cons (dv 1) a_nil)) d_int (nomark _)) (w_or (t_not (t_truth (d_isi .str (d_ix ix_sq (dv 1) d_int (fun _ _ => rfl)) rfl G.b_isinstance rfl G.b_str (by decide +kernel) (by decide) (by decide)))) (w_or (t_cmp (o_nin (hu64 hr)) (d_ix ix_sq (dv 1) d_int (fun _ _ => rfl)) (dv 2) (by rfl)) (w_or1 (t_not (t_truth (d_isi .tuple (d_ix ix_sq (dv 1) d_int (fun _ _ => rfl)) rfl G.b_isinstance rfl G.b_tuple (by decide +kernel) (by decide) (by decide)))))))))
    (s_one (s_ret d_non))
    s_nil)
    (s_cons (s_asg (d_dget (hu1 hr) (dv 2) (d_ix ix_sq (dv 1) d_int (fun _ _ => rfl))) (g_tup rfl (gs_cons (gn 3 sc_sort_of_un.nd) (gs_cons (gn 4 sc_sort_of_un.nd) gs_nil))))
    (s_one (s_ret (d_if (t_cmp (o_eq (hu64 hr)) (d_callTy (c_tuple) rfl G.b_tuple (by decide +kernel) (a_cons (d_frz (f_lc (own := [("one", 5)]) (t := (.nm 5)) rfl sc_sort_of_un.nd (i_any (d_ix ix_sq (dv 1) d_int (fun _ _ => rfl))) (blkOk_by (by kernel_rfl)) (by decide) (fun _ _ _ _ _ => (tn 5 sc_sort_of_un.nd)) (fun _ _ _ _ _ => ts_nil) (fun _ _ _ _ _ => (d_fn F.f14 hr passL rfl rfl (a_cons (dv 0) (a_cons (dv 5) a_nil)))))) a_nil)) (dv 3) (nomark _)) (dv 4) d_non))))))
theorem okf_sort_of_list {f : Addr} {fd : FuncData} (G : Glo P w K mg) (F : Fns P w K mg base k cl) (D : FunD K "sort_of_list" "sort_of_list" (defArgs st_sort_of_list) (defBody st_sort_of_list) (defScope st_sort_of_list) [] [] f fd) : FnOk P w K mg base (L2.CX P w) (k + 1) f fd ["own", "term"] (SpF K mg 2 (fnD 4 (body_sort_of_list cl))) :=
  fn_okD D sc_sort_of_list rfl fun f cdv A outer s H E hr => (s_cons (s_if (t_cmp (o_eq (hu64 hr)) (d_ix ix_sq (dv 1) d_int (fun _ _ => rfl)) d_str (nomark _))
    (s_one (s_ret (d_if (w_pt (w_and (t_cmp (o_eq (hu64 hr)) (d_callB (c_len) rfl G.b_len (by decide +kernel) (a_cons (dv 1) a_nil)) d_int (nomark _)) (w_and1 (t_truth (d_fn F.f3 hr pass_fn rfl rfl (a_cons (d_tup (a_cons d_str (a_cons (d_ix ix_sq (dv 1) d_int (fun _ _ => rfl)) a_nil))) (a_cons (d_ix ix_sq (dv 0) d_int (fun _ _ => rfl)) a_nil))))))) (d_tup (a_cons d_str (a_cons (d_ix ix_sq (dv 1) d_int (fun _ _ => rfl)) a_nil))) d_non)))
    s_nil)
    (s_cons (s_if (t_cmp (o_ne (hu64 hr)) (d_callB (c_len) rfl G.b_len (by decide +kernel) (a_cons (dv 1) a_nil)) d_int (nomark _))
    (s_one (s_ret d_non))
    s_nil)
    (s_cons (s_par (i := 2) (j := 3) rfl sc_sort_of_list.nd rfl rfl (by decide) rfl rfl (a_cons (d_fn F.f14 hr pass_fn rfl rfl (a_cons (dv 0) (a_cons (d_ix ix_sq (dv 1) d_int (fun _ _ => rfl)) a_nil))) (a_cons (d_fn F.f14 hr pass_fn rfl rfl (a_cons (dv 0) (a_cons (d_ix ix_sq (dv 1) d_int (fun _ _ => rfl)) a_nil))) a_nil)) (by rfl))
    (s_one (s_ret (d_if (w_pt (w_and (t_cmp (o_isn) (dv 2) d_non (nomark _)) (w_and1 (t_cmp (o_eq (hu64 hr)) (dv 3) (d_tup (a_cons d_str (a_cons (dv 2) a_nil))) (nomark _))))) (dv 3) d_non))))))
theorem okf_sort_of_set {f : Addr} {fd : FuncData} (G : Glo P w K mg) (F : Fns P w K mg base k cl) (D : FunD K "sort_of_set" "sort_of_set" (defArgs st_sort_of_set) (defBody st_sort_of_set) (defScope st_sort_of_set) [] [] f fd) : FnOk P w K mg base (L2.CX P w) (k + 1) f fd ["own", "term"] (SpF K mg 2 (fnD 3 (body_sort_of_set cl))) :=
  fn_okD D sc_sort_of_set rfl fun f cdv A outer s H E hr => (s_cons (s_if (t_cmp (o_eq (hu64 hr)) (d_ix ix_sq (dv 1) d_int (fun _ _ => rfl)) d_str (nomark _))
    (s_one (s_ret (d_if (w_pt (w_and (t_cmp (o_eq (hu64 hr)) (d_callB (c_len) rfl G.b_len (by decide +kernel) (a_cons (dv 1) a_nil)) d_int (nomark _)) (w_and1 (t_truth (d_fn F.f3 hr pass_fn rfl rfl (a_cons (d_tup (a_cons d_str (a_cons (d_ix ix_sq (dv 1) d_int (fun _ _ => rfl)) a_nil))) (a_cons (d_ix ix_sq (dv 0) d_int (fun _ _ => rfl)) a_nil))))))) (d_tup (a_cons d_str (a_cons (d_ix ix_sq (dv 1) d_int (fun _ _ => rfl)) a_nil))) d_non)))
    s_nil)
    (s_cons (s_if (t_cmp (o_eq (hu64 hr)) (d_ix ix_sq (dv 1) d_int (fun _ _ => rfl)) d_str (nomark _))
    (s_cons (ss 2 sc_sort_of_set.nd (d_if (t_cmp (o_eq (hu64 hr)) (d_callB (c_len) rfl G.b_len (by decide +kernel) (a_cons (dv 1) a_nil)) d_int (nomark _)) (d_fn F.f14 hr pass_fn rfl rfl (a_cons (dv 0) (a_cons (d_ix ix_sq (dv 1) d_int (fun _ _ => rfl)) a_nil))) d_non))
    (s_one (s_ret (d_if (w_pt (w_and (t_cmp (o_isn) (dv 2) d_non (nomark _)) (w_and1 (t_truth (d_fn F.f3 hr pass_fn rfl rfl (a_cons (d_tup (a_cons d_str (a_cons (dv 2) a_nil))) (a_cons (d_ix ix_sq (dv 0) d_int (fun _ _ => rfl)) a_nil))))))) (d_tup (a_cons d_str (a_cons (dv 2) a_nil))) d_non))))
    s_nil)
    (s_one (s_ret (d_fn F.f12 hr pass_fn rfl rfl (a_cons (dv 0) (a_cons (d_slice (dv 1) (o_sm d_int) o_no) (a_cons d_str a_nil))))))))
theorem okf_sort_of_two {f : Addr} {fd : FuncData} (G : Glo P w K mg) (F : Fns P w K mg base k cl) (D : FunD K "sort_of_two" "sort_of_two" (defArgs st_sort_of_two) (defBody st_sort_of_two) (defScope st_sort_of_two) [] [] f fd) : FnOk P w K mg base (L2.CX P w) (k + 1) f fd ["own", "terms", "word"] (SpF K mg 3 (fnD 4 (body_sort_of_two cl))) :=
  fn_okD D sc_sort_of_two rfl fun f cdv A outer s H E hr => (s_cons (s_if (t_cmp (o_ne (hu64 hr)) (d_callB (c_len) rfl G.b_len (by decide +kernel) (a_cons (dv 1) a_nil)) d_int (nomark _))
    (s_one (s_ret d_non))
    s_nil)
    (s_cons (ss 3 sc_sort_of_two.nd (d_fn F.f14 hr pass_fn rfl rfl (a_cons (dv 0) (a_cons (d_ix ix_sq (dv 1) d_int (fun _ _ => rfl)) a_nil))))
    (s_one (s_ret (d_if (w_pt (w_and (t_cmp (o_isn) (dv 3) d_non (nomark _)) (w_and (t_cmp (o_eq (hu64 hr)) (d_ix ix_sq (dv 3) d_int (fun _ _ => rfl)) (dv 2) (nomark _)) (w_and1 (t_cmp (o_eq (hu64 hr)) (d_fn F.f14 hr pass_fn rfl rfl (a_cons (dv 0) (a_cons (d_ix ix_sq (dv 1) d_int (fun _ _ => rfl)) a_nil))) (dv 3) (nomark _)))))) (dv 3) d_non)))))
theorem okf_sort_of_bits {f : Addr} {fd : FuncData} (G : Glo P w K mg) (F : Fns P w K mg base k cl) (D : FunD K "sort_of_bits" "sort_of_bits" (defArgs st_sort_of_bits) (defBody st_sort_of_bits) (defScope st_sort_of_bits) [] [] f fd) : FnOk P w K mg base (L2.CX P w) (k + 1) f fd ["own", "term"] (SpF K mg 2 (fnD 3 (body_sort_of_bits cl))) :=
  fn_okD D sc_sort_of_bits rfl fun f cdv A outer s H E hr => (s_cons (s_if (t_cmp (o_eq (hu64 hr)) (d_ix ix_sq (dv 1) d_int (fun _ _ => rfl)) d_str (nomark _))
    (s_one (s_ret (d_if (t_truth (d_fn F.f8 hr pass_fn rfl rfl (a_cons (dv 1) a_nil))) (d_tup (a_cons d_str (a_cons (d_callB (c_len) rfl G.b_len (by decide +kernel) (a_cons (d_ix ix_sq (dv 1) d_int (fun _ _ => rfl)) a_nil)) a_nil))) d_non)))
    s_nil)
    (s_cons (s_if (w_pt (w_and (t_cmp (o_eq (hu64 hr)) (d_ix ix_sq (dv 1) d_int (fun _ _ => rfl)) d_str (nomark _)) (w_and1 (t_cmp (o_eq (hu64 hr)) (d_callB (c_len) rfl G.b_len (by decide +kernel) (a_cons (dv 1) a_nil)) d_int (nomark _)))))
    (s_cons (ss 2 sc_sort_of_bits.nd (d_fn F.f14 hr pass_fn rfl rfl (a_cons (dv 0) (a_cons (d_ix ix_sq (dv 1) d_int (fun _ _ => rfl)) a_nil))))
    (s_one (s_ret (d_if (w_pt (w_and (t_cmp (o_isn) (dv 2) d_non (nomark _)) (w_and1 (t_cmp (o_eq (hu64 hr)) (d_ix ix_sq (dv 2) d_int (fun _ _ => rfl)) d_str (nomark _))))) (dv 2) d_non))))
    s_nil)
    (s_cons (s_if (w_pt (w_and (t_cmp (o_eq (hu64 hr)) (d_ix ix_sq (dv 1) d_int (fun _ _ => rfl)) d_str (nomark _)) (w_and1 (t_cmp (o_eq (hu64 hr)) (d_callB (c_len) rfl G.b_len (by decide +kernel) (a_cons (dv 1) a_nil)) d_int (nomark _)))))
    (s_one (s_ret (d_if (w_pt (w_and (t_truth (d_isi .str (d_ix ix_sq (dv 1) d_int (fun _ _ => rfl)) rfl G.b_isinstance rfl G.b_str (by decide +kernel) (by decide) (by decide))) (w_and1 (t_cmp (o_in (hu64 hr)) (d_ix ix_sq (dv 1) d_int (fun _ _ => rfl)) (d_glob G.g_GATES rfl) (by rfl))))) (d_fn F.f12 hr pass_fn rfl rfl (a_cons (dv 0) (a_cons (d_slice (dv 1) (o_sm d_int) o_no) (a_cons d_str a_nil)))) d_non)))
    s_nil)
    (s_one (s_ret (d_if (t_cmp (o_eq (hu64 hr)) (d_ix ix_sq (dv 1) d_int (fun _ _ => rfl)) d_str (nomark _)) (d_fn F.f12 hr pass_fn rfl rfl (a_cons (dv 0) (a_cons (d_slice (dv 1) (o_sm d_int) o_no) (a_cons d_str a_nil)))) d_non))))))
theorem okf_sort_in {f : Addr} {fd : FuncData} (G : Glo P w K mg) (F : Fns P w K mg base k cl) (D : FunD K "sort_in" "sort_in" (defArgs st_sort_in) (defBody st_sort_in) (defScope st_sort_in) [] [] f fd) : FnOk P w K mg base (L2.CX P w) (k + 1) f fd ["own", "term"] (SpF K mg 2 (fnD 3 (body_sort_in cl))) :=
  fn_okD D sc_sort_in rfl fun f cdv A outer s H E hr => (s_cons (s_if (w_pt (w_or (t_not (t_truth (d_isi .tuple (dv 1) rfl G.b_isinstance rfl G.b_tuple (by decide +kernel) (by decide) (by decide)))) (w_or (t_cmp (o_eq (hu64 hr)) (d_callB (c_len) rfl G.b_len (by decide +kernel) (a_cons (dv 1) a_nil)) d_int (nomark _)) (w_or1 (t_not (t_truth (d_isi .str (d_ix ix_sq (dv 1) d_int (fun _ _ => rfl)) rfl G.b_isinstance rfl G.b_str (by decide +kernel) (by decide) (by decide))))))))
    (s_one (s_ret d_non))
    s_nil)
    (s_cons (ss 2 sc_sort_in.nd (d_ix ix_sq (dv 1) d_int (fun _ _ => rfl)))
    (s_cons (s_if (t_cmp (o_eq (hu64 hr)) (dv 2) d_str (nomark _))
    (s_one (s_ret (d_fn F.f9 hr pass_fn rfl rfl (a_cons (dv 0) (a_cons (dv 1) a_nil)))))
    s_nil)
    (s_cons (s_if (t_cmp (o_eq (hu64 hr)) (dv 2) d_str (nomark _))
    (s_one (s_ret (d_if (t_truth (d_fn F.f7 hr pass_fn rfl rfl (a_cons (dv 1) a_nil))) (d_glob G.g_NUM rfl) d_non)))
    s_nil)
    (s_cons (s_if (t_cmp (o_in (hu64 hr)) (dv 2) (d_glob G.g_SUMS rfl) (by rfl))
    (s_one (s_ret (d_fn F.f12 hr pass_fn rfl rfl (a_cons (dv 0) (a_cons (d_slice (dv 1) (o_sm d_int) o_no) (a_cons d_str a_nil))))))
    s_nil)
    (s_cons (s_if (t_cmp (o_in (hu64 hr)) (dv 2) (d_tup (a_cons d_str (a_cons d_str a_nil))) (by rfl))
    (s_one (s_ret (d_fn F.f10 hr pass_fn rfl rfl (a_cons (dv 0) (a_cons (dv 1) a_nil)))))
    s_nil)
    (s_cons (s_if (t_cmp (o_in (hu64 hr)) (dv 2) (d_glob G.g_SETS rfl) (by rfl))
    (s_one (s_ret (d_fn F.f11 hr pass_fn rfl rfl (a_cons (dv 0) (a_cons (dv 1) a_nil)))))
    s_nil)
    (s_one (s_ret (d_fn F.f13 hr pass_fn rfl rfl (a_cons (dv 0) (a_cons (dv 1) a_nil))))))))))))
theorem okf_is_claim_in {f : Addr} {fd : FuncData} (G : Glo P w K mg) (F : Fns P w K mg base k cl) (D : FunD K "is_claim_in" "is_claim_in" (defArgs st_is_claim_in) (defBody st_is_claim_in) (defScope st_is_claim_in) [] [] f fd) : FnOk P w K mg base (L2.CX P w) (k + 1) f fd ["own", "claim"] (SpF K mg 2 (fnD 5 (body_is_claim_in cl))) :=
  fn_okD D sc_is_claim_in rfl fun f cdv A outer s H E hr => (s_cons (s_if (w_pt (w_or (t_not (t_truth (d_isi .tuple (dv 1) rfl G.b_isinstance rfl G.b_tuple (by decide +kernel) (by decide) (by decide)))) (w_or (t_cmp (o_eq (hu64 hr)) (d_callB (c_len) rfl G.b_len (by decide +kernel) (a_cons (dv 1) a_nil)) d_int (nomark _)) (w_or1 (t_not (t_truth (d_isi .str (d_ix ix_sq (dv 1) d_int (fun _ _ => rfl)) rfl G.b_isinstance rfl G.b_str (by decide +kernel) (by decide) (by decide))))))))
    (s_one (s_ret d_bl))
    s_nil)
    (s_cons (ss 2 sc_is_claim_in.nd (d_ix ix_sq (dv 1) d_int (fun _ _ => rfl)))
    (s_cons (s_if (t_cmp (o_in (hu64 hr)) (dv 2) (d_tup (a_cons d_str (a_cons d_str a_nil))) (by rfl))
    (s_one (s_ret (d_cmp (o_eq (hu64 hr)) (d_callB (c_len) rfl G.b_len (by decide +kernel) (a_cons (dv 1) a_nil)) d_int (nomark _))))
    s_nil)
    (s_cons (s_if (t_cmp (o_eq (hu64 hr)) (dv 2) d_str (nomark _))
    (s_one (s_ret (d_and (d_cmp (o_eq (hu64 hr)) (d_callB (c_len) rfl G.b_len (by decide +kernel) (a_cons (dv 1) a_nil)) d_int (nomark _)) (d_one (d_fn F.f15 hr pass_fn rfl rfl (a_cons (dv 0) (a_cons (d_ix ix_sq (dv 1) d_int (fun _ _ => rfl)) a_nil)))))))
    s_nil)
    (s_cons (s_if (t_cmp (o_ne (hu64 hr)) (d_callB (c_len) rfl G.b_len (by decide +kernel) (a_cons (dv 1) a_nil)) d_int (nomark _))
    (s_one (s_ret d_bl))
    s_nil)
    (s_cons (s_if (t_cmp (o_in (hu64 hr)) (dv 2) (d_glob G.g_BOTH rfl) (by rfl))
    (s_one (s_ret (d_and (d_fn F.f15 hr pass_fn rfl rfl (a_cons (dv 0) (a_cons (d_ix ix_sq (dv 1) d_int (fun _ _ => rfl)) a_nil))) (d_one (d_fn F.f15 hr pass_fn rfl rfl (a_cons (dv 0) (a_cons (d_ix ix_sq (dv 1) d_int (fun _ _ => rfl)) a_nil)))))))
    s_nil)
    (s_cons (s_par (i := 3) (j := 4) rfl sc_is_claim_in.nd rfl rfl (by decide) rfl rfl (a_cons (d_fn F.f14 hr pass_fn rfl rfl (a_cons (dv 0) (a_cons (d_ix ix_sq (dv 1) d_int (fun _ _ => rfl)) a_nil))) (a_cons (d_fn F.f14 hr pass_fn rfl rfl (a_cons (dv 0) (a_cons (d_ix ix_sq (dv 1) d_int (fun _ _ => rfl)) a_nil))) a_nil)) (by rfl))
    (s_cons (s_if (w_pt (w_or (t_cmp (o_is) (dv 3) d_non (nomark _)) (w_or1 (t_cmp (o_is) (dv 4) d_non (nomark _)))))
    (s_one (s_ret d_bl))
    s_nil)
    (s_cons (s_if (t_cmp (o_eq (hu64 hr)) (dv 2) d_str (nomark _))
    (s_one (s_ret (d_cmp (o_eq (hu64 hr)) (dv 4) (d_tup (a_cons d_str (a_cons (dv 3) a_nil))) (nomark _))))
    s_nil)
    (s_cons (s_if (t_cmp (o_in (hu64 hr)) (dv 2) (d_tup (a_cons d_str (a_cons d_str a_nil))) (by rfl))
    (s_one (s_ret (d_and (d_cmp (o_eq (hu64 hr)) (dv 3) (d_glob G.g_NUM rfl) (nomark _)) (d_one (d_cmp (o_eq (hu64 hr)) (dv 4) (d_glob G.g_NUM rfl) (nomark _))))))
    s_nil)
    (s_one (s_ret (d_and (d_cmp (o_eq (hu64 hr)) (dv 3) (dv 4) (nomark _)) (d_one (d_or (d_cmp (o_eq (hu64 hr)) (dv 2) d_str (nomark _)) (d_one (d_and (d_cmp (o_eq (hu64 hr)) (dv 2) d_str (nomark _)) (d_one (d_cmp (o_eq (hu64 hr)) (d_ix ix_sq (dv 3) d_int (fun _ _ => rfl)) d_str (nomark _))))))))))))))))))))
theorem okf_parts_of {f : Addr} {fd : FuncData} (G : Glo P w K mg) (F : Fns P w K mg base k cl) (D : FunD K "parts_of" "parts_of" (defArgs st_parts_of) (defBody st_parts_of) (defScope st_parts_of) [] [] f fd) : FnOk P w K mg base (L2.CX P w) (k + 1) f fd ["part"] (SpF K mg 1 (fnD 1 (body_parts_of cl))) :=
  fn_okD D sc_parts_of rfl fun f cdv A outer s H E hr => (s_cons (s_if (t_cmp (o_in (hu64 hr)) (d_ix ix_sq (dv 0) d_int (fun _ _ => rfl)) (d_glob G.g_ALONE rfl) (by rfl))
    (s_one (s_ret (d_tup a_nil)))
    s_nil)
    (s_cons (s_if (t_cmp (o_eq (hu64 hr)) (d_ix ix_sq (dv 0) d_int (fun _ _ => rfl)) d_str (nomark _))
    (s_one (s_ret (d_ix ix_sq (dv 0) d_int (fun _ _ => rfl))))
    s_nil)
    (s_one (s_ret (d_if (t_cmp (o_eq (hu64 hr)) (d_ix ix_sq (dv 0) d_int (fun _ _ => rfl)) d_str (nomark _)) (d_slice (dv 0) (o_sm d_int) o_no) (d_slice (dv 0) (o_sm d_int) o_no))))))
theorem okf_all_parts {f : Addr} {fd : FuncData} (G : Glo P w K mg) (F : Fns P w K mg base k cl) (D : FunD K "all_parts" "all_parts" (defArgs st_all_parts) (defBody st_all_parts) (defScope st_all_parts) [] [] f fd) : FnOk P w K mg base (L2.CX P w) (k + 1) f fd ["part"] (SpF K mg 1 (fnD 4 (body_all_parts cl))) :=
  fn_okD D sc_all_parts rfl fun f cdv A outer s H E hr => (s_cons (so 1 sc_all_parts.nd (f_lst a_nil))
    (s_cons (so 2 sc_all_parts.nd (f_lst (a_cons (dv 0) a_nil)))
    (s_cons (s_while 3000 own_fn (tw 2)
    (s_cons (ss 3 sc_all_parts.nd (d_pop (i := 2) rfl (Or.inl rfl)))
    (s_cons (s_app (i := 1) rfl (Or.inl rfl) (dv 3))
    (s_one (s_ext (i := 2) rfl (Or.inl rfl) (d_rev (d_fn F.f16 hr pass_fn rfl rfl (a_cons (dv 3) a_nil))))))))
    (s_one (s_ret (d_callTy (c_tuple) rfl G.b_tuple (by decide +kernel) (a_cons (dv 1) a_nil)))))))
theorem okf_own_of {f : Addr} {fd : FuncData} (G : Glo P w K mg) (F : Fns P w K mg base k cl) (D : FunD K "own_of" "own_of" (defArgs st_own_of) (defBody st_own_of) (defScope st_own_of) [] [] f fd) : FnOk P w K mg base (L2.CX P w) (k + 1) f fd ["text"] (SpF K mg 1 (fnD 4 (body_own_of cl))) :=
  fn_okD D sc_own_of rfl fun f cdv A outer s H E hr => (s_one (s_ret (d_tup (a_cons (d_ix ix_sq (dv 0) d_int (fun _ _ => rfl)) (a_cons (d_frz (f_dc (own := [("name", 1), ("places", 2), ("sort", 3)]) (t := (.tp [1, 2, 3])) rfl sc_own_of.nd (i_any (d_ix ix_sq (dv 0) d_int (fun _ _ => rfl))) (blkOk_by (by kernel_rfl)) (by decide) (fun _ _ _ _ _ => (tg_tp rfl (tc 1 sc_own_of.nd (tc 2 sc_own_of.nd (tc 3 sc_own_of.nd tgs_nil))))) (fun _ _ _ _ _ => ts_nil) (fun _ _ _ _ _ => (dv 1)) (fun _ _ _ _ _ => (d_tup (a_cons (dv 2) (a_cons (dv 3) a_nil)))))) a_nil)))))
theorem okf_is_unknown {f : Addr} {fd : FuncData} (G : Glo P w K mg) (F : Fns P w K mg base k cl) (D : FunD K "is_unknown" "is_unknown" (defArgs st_is_unknown) (defBody st_is_unknown) (defScope st_is_unknown) [] [] f fd) : FnOk P w K mg base (L2.CX P w) (k + 1) f fd ["thing", "things"] (SpF K mg 2 (fnD 3 (body_is_unknown cl))) :=
  fn_okD D sc_is_unknown rfl fun f cdv A outer s H E hr => (s_cons (s_if (w_pt (w_or (t_not (t_truth (d_isi .tuple (dv 0) rfl G.b_isinstance rfl G.b_tuple (by decide +kernel) (by decide) (by decide)))) (w_or (t_cmp (o_ne (hu64 hr)) (d_callB (c_len) rfl G.b_len (by decide +kernel) (a_cons (dv 0) a_nil)) d_int (nomark _)) (w_or (t_not (t_truth (d_fn F.f1 hr pass_fn rfl rfl (a_cons (d_ix ix_sq (dv 0) d_int (fun _ _ => rfl)) a_nil)))) (w_or1 (t_not (t_truth (d_isi .tuple (d_ix ix_sq (dv 0) d_int (fun _ _ => rfl)) rfl G.b_isinstance rfl G.b_tuple (by decide +kernel) (by decide) (by decide)))))))))
    (s_one (s_ret d_bl))
    s_nil)
    (s_cons (s_if (w_pt (w_or (t_cmp (o_gt) (d_callB (c_len) rfl G.b_len (by decide +kernel) (a_cons (d_ix ix_sq (dv 0) d_int (fun _ _ => rfl)) a_nil)) (d_glob G.g_MOST_PLACES rfl) (nomark _)) (w_or1 (t_not (t_truth (d_callB (c_all rfl) rfl G.b_all (by decide +kernel) (a_cons (d_frz (f_lc (own := [("place", 2)]) (t := (.nm 2)) rfl sc_is_unknown.nd (i_any (d_ix ix_sq (dv 0) d_int (fun _ _ => rfl))) (blkOk_by (by kernel_rfl)) (by decide) (fun _ _ _ _ _ => (tn 2 sc_is_unknown.nd)) (fun _ _ _ _ _ => ts_nil) (fun _ _ _ _ _ => (d_fn F.f5 hr passL rfl rfl (a_cons (dv 2) (a_cons (dv 1) a_nil)))))) a_nil)))))))
    (s_one (s_ret d_bl))
    s_nil)
    (s_one (s_ret (d_fn F.f3 hr pass_fn rfl rfl (a_cons (d_ix ix_sq (dv 0) d_int (fun _ _ => rfl)) (a_cons (dv 1) a_nil)))))))
theorem okf_is_small_claim {f : Addr} {fd : FuncData} (G : Glo P w K mg) (F : Fns P w K mg base k cl) (D : FunD K "is_small_claim" "is_small_claim" (defArgs st_is_small_claim) (defBody st_is_small_claim) (defScope st_is_small_claim) [] [] f fd) : FnOk P w K mg base (L2.CX P w) (k + 1) f fd ["thing", "own"] (SpF K mg 2 (fnD 2 (body_is_small_claim cl))) :=
  fn_okD D sc_is_small_claim rfl fun f cdv A outer s H E hr => (s_one (s_ret (d_and (d_fn F.f6 hr pass_fn rfl rfl (a_cons (dv 0) a_nil)) (d_and (d_fn F.f15 hr pass_fn rfl rfl (a_cons (dv 1) (a_cons (dv 0) a_nil))) (d_one (d_cmp (o_le) (d_callB (c_len) rfl G.b_len (by decide +kernel) (a_cons (d_fn F.f17 hr pass_fn rfl rfl (a_cons (dv 0) a_nil)) a_nil)) (d_glob G.g_MOST_PARTS rfl) (nomark _)))))))
theorem okf_is_text {f : Addr} {fd : FuncData} (G : Glo P w K mg) (F : Fns P w K mg base k cl) (D : FunD K "is_text" "is_text" (defArgs st_is_text) (defBody st_is_text) (defScope st_is_text) [] [] f fd) : FnOk P w K mg base (L2.CX P w) (k + 1) f fd ["shape"] (SpF K mg 1 (fnD 10 (body_is_text cl))) :=
  fn_okD D sc_is_text rfl fun f cdv A outer s H E hr => (s_cons (s_if (w_pt (w_or (t_not (t_truth (d_fn F.f2 hr pass_fn rfl rfl (a_cons (dv 0) (a_cons d_str (a_cons d_int a_nil)))))) (w_or1 (t_not (t_truth (d_callB (c_all rfl) rfl G.b_all (by decide +kernel) (a_cons (d_frz (f_lc (own := [("one", 7)]) (t := (.nm 7)) rfl sc_is_text.nd (i_any (d_slice (dv 0) (o_sm d_int) o_no)) (blkOk_by (by kernel_rfl)) (by decide) (fun _ _ _ _ _ => (tn 7 sc_is_text.nd)) (fun _ _ _ _ _ => ts_nil) (fun _ _ _ _ _ => (d_isi .tuple (dv 7) rfl G.b_isinstance rfl G.b_tuple (by decide +kernel) (by decide) (by decide))))) a_nil)))))))
    (s_one (s_ret d_bl))
    s_nil)
    (s_cons (s_asg (dv 0) (g_tup rfl (gs_cons (gn 1 sc_is_text.nd) (gs_cons (gn 2 sc_is_text.nd) (gs_cons (gn 3 sc_is_text.nd) (gs_cons (gn 4 sc_is_text.nd) gs_nil))))))
    (s_cons (s_if (w_pt (w_or (t_cmp (o_gt) (d_callB (c_len) rfl G.b_len (by decide +kernel) (a_cons (dv 2) a_nil)) (d_glob G.g_MOST_THINGS rfl) (nomark _)) (w_or (t_cmp (o_gt) (d_callB (c_len) rfl G.b_len (by decide +kernel) (a_cons (dv 3) a_nil)) (d_glob G.g_MOST_UNKNOWNS rfl) (nomark _)) (w_or1 (t_cmp (o_gt) (d_callB (c_len) rfl G.b_len (by decide +kernel) (a_cons (dv 4) a_nil)) (d_glob G.g_MOST_CLAIMS rfl) (nomark _))))))
    (s_one (s_ret d_bl))
    s_nil)
    (s_cons (s_if (w_pt (w_or (t_not (t_truth (d_callB (c_all rfl) rfl G.b_all (by decide +kernel) (a_cons (d_frz (f_lc (own := [("name", 9)]) (t := (.nm 9)) rfl sc_is_text.nd (i_any (dv 2)) (blkOk_by (by kernel_rfl)) (by decide) (fun _ _ _ _ _ => (tn 9 sc_is_text.nd)) (fun _ _ _ _ _ => ts_nil) (fun _ _ _ _ _ => (d_fn F.f1 hr passL rfl rfl (a_cons (dv 9) a_nil))))) a_nil)))) (w_or1 (t_not (t_truth (d_callB (c_all rfl) rfl G.b_all (by decide +kernel) (a_cons (d_frz (f_lc (own := [("one", 7)]) (t := (.nm 7)) rfl sc_is_text.nd (i_any (dv 3)) (blkOk_by (by kernel_rfl)) (by decide) (fun _ _ _ _ _ => (tn 7 sc_is_text.nd)) (fun _ _ _ _ _ => ts_nil) (fun _ _ _ _ _ => (d_fn F.f19 hr passL rfl rfl (a_cons (dv 7) (a_cons (dv 2) a_nil)))))) a_nil)))))))
    (s_one (s_ret d_bl))
    s_nil)
    (s_cons (ss 5 sc_is_text.nd (d_op o_add (d_callTy (c_list) rfl G.b_list (by decide +kernel) (a_cons (dv 2) a_nil)) (d_frz (f_lc (own := [("one", 7)]) (t := (.nm 7)) rfl sc_is_text.nd (i_any (dv 3)) (blkOk_by (by kernel_rfl)) (by decide) (fun _ _ _ _ _ => (tn 7 sc_is_text.nd)) (fun _ _ _ _ _ => ts_nil) (fun _ _ _ _ _ => (d_ix ix_sq (dv 7) d_int (fun _ _ => rfl)))))))
    (s_cons (s_if (t_cmp (o_lt) (d_callB (c_len) rfl G.b_len (by decide +kernel) (a_cons (d_frz (f_dc (own := [("name", 9)]) (t := (.nm 9)) rfl sc_is_text.nd (i_any (dv 5)) (blkOk_by (by kernel_rfl)) (by decide) (fun _ _ _ _ _ => (tn 9 sc_is_text.nd)) (fun _ _ _ _ _ => ts_nil) (fun _ _ _ _ _ => (dv 9)) (fun _ _ _ _ _ => d_bl))) a_nil)) (d_callB (c_len) rfl G.b_len (by decide +kernel) (a_cons (dv 5) a_nil)) (nomark _))
    (s_one (s_ret d_bl))
    s_nil)
    (s_cons (ss 6 sc_is_text.nd (d_fn F.f18 hr pass_fn rfl rfl (a_cons (dv 0) a_nil)))
    (s_one (s_ret (d_callB (c_all rfl) rfl G.b_all (by decide +kernel) (a_cons (d_frz (f_lc (own := [("claim", 8)]) (t := (.nm 8)) rfl sc_is_text.nd (i_any (dv 4)) (blkOk_by (by kernel_rfl)) (by decide) (fun _ _ _ _ _ => (tn 8 sc_is_text.nd)) (fun _ _ _ _ _ => ts_nil) (fun _ _ _ _ _ => (d_fn F.f20 hr passL rfl rfl (a_cons (dv 8) (a_cons (dv 6) a_nil)))))) a_nil)))))))))))
theorem okf_sure_text {f : Addr} {fd : FuncData} (G : Glo P w K mg) (F : Fns P w K mg base k cl) (D : FunD K "sure_text" "sure_text" (defArgs st_sure_text) (defBody st_sure_text) (defScope st_sure_text) [] [] f fd) : FnOk P w K mg base (L2.CX P w) (k + 1) f fd ["text"] (SpF K mg 1 (fnD 1 (body_sure_text cl))) :=
  fn_okD D sc_sure_text rfl fun f cdv A outer s H E hr => (s_one (s_if (t_not (t_truth (d_fn F.f21 hr pass_fn rfl rfl (a_cons (dv 0) a_nil))))
    (s_one (s_raise G.x_BadPart rfl takes_fn hr rfl d_str))
    s_nil))
theorem okf_ratio {f : Addr} {fd : FuncData} (G : Glo P w K mg) (F : Fns P w K mg base k cl) (D : FunD K "ratio" "ratio" (defArgs st_ratio) (defBody st_ratio) (defScope st_ratio) [] [] f fd) : FnOk P w K mg base (L2.CX P w) (k + 1) f fd ["top", "bottom"] (SpF K mg 2 (fnD 4 (body_ratio cl))) :=
  fn_okD D sc_ratio rfl fun f cdv A outer s H E hr => (s_cons (ss 2 sc_ratio.nd (d_callBf c_gcd rfl G.gcd (a_cons (dv 0) (a_cons (dv 1) a_nil))))
    (s_cons (ss 3 sc_ratio.nd (d_if (t_cmp (o_lt) (dv 1) d_int (nomark _)) (d_neg d_int) d_int))
    (s_one (s_ret (d_tup (a_cons (d_op o_fdiv (d_op o_mul (dv 3) (dv 0)) (dv 2)) (a_cons (d_op o_fdiv (d_op o_mul (dv 3) (dv 1)) (dv 2)) a_nil)))))))
theorem okf_is_ratio {f : Addr} {fd : FuncData} (G : Glo P w K mg) (F : Fns P w K mg base k cl) (D : FunD K "is_ratio" "is_ratio" (defArgs st_is_ratio) (defBody st_is_ratio) (defScope st_is_ratio) [] [] f fd) : FnOk P w K mg base (L2.CX P w) (k + 1) f fd ["thing"] (SpF K mg 1 (fnD 1 (body_is_ratio cl))) :=
  fn_okD D sc_is_ratio rfl fun f cdv A outer s H E hr => (s_cons (s_if (w_pt (w_or (t_not (t_truth (d_isi .tuple (dv 0) rfl G.b_isinstance rfl G.b_tuple (by decide +kernel) (by decide) (by decide)))) (w_or (t_cmp (o_ne (hu64 hr)) (d_callB (c_len) rfl G.b_len (by decide +kernel) (a_cons (dv 0) a_nil)) d_int (nomark _)) (w_or (t_not (t_truth (d_fn F.f0 hr pass_fn rfl rfl (a_cons (d_ix ix_sq (dv 0) d_int (fun _ _ => rfl)) a_nil)))) (w_or1 (t_not (t_truth (d_fn F.f0 hr pass_fn rfl rfl (a_cons (d_ix ix_sq (dv 0) d_int (fun _ _ => rfl)) a_nil)))))))))
    (s_one (s_ret d_bl))
    s_nil)
    (s_one (s_ret (d_and (d_cmp (o_gt) (d_ix ix_sq (dv 0) d_int (fun _ _ => rfl)) d_int (nomark _)) (d_one (d_cmp (o_eq (hu64 hr)) (d_callBf c_gcd rfl G.gcd (a_cons (d_ix ix_sq (dv 0) d_int (fun _ _ => rfl)) (a_cons (d_ix ix_sq (dv 0) d_int (fun _ _ => rfl)) a_nil))) d_int (nomark _)))))))
theorem okf_is_value {f : Addr} {fd : FuncData} (G : Glo P w K mg) (F : Fns P w K mg base k cl) (D : FunD K "is_value" "is_value" (defArgs st_is_value) (defBody st_is_value) (defScope st_is_value) [] [] f fd) : FnOk P w K mg base (L2.CX P w) (k + 1) f fd ["thing", "sort"] (SpF K mg 2 (fnD 4 (body_is_value cl))) :=
  fn_okD D sc_is_value rfl fun f cdv A outer s H E hr => (s_cons (s_if (t_cmp (o_eq (hu64 hr)) (d_ix ix_sq (dv 1) d_int (fun _ _ => rfl)) d_str (nomark _))
    (s_one (s_ret (d_fn F.f24 hr pass_fn rfl rfl (a_cons (dv 0) a_nil))))
    s_nil)
    (s_cons (s_if (t_cmp (o_eq (hu64 hr)) (d_ix ix_sq (dv 1) d_int (fun _ _ => rfl)) d_str (nomark _))
    (s_one (s_ret (d_and (d_fn F.f0 hr pass_fn rfl rfl (a_cons (dv 0) a_nil)) (d_one (d_cmp (o_ge) (dv 0) d_int (nomark _))))))
    s_nil)
    (s_cons (s_if (t_not (t_truth (d_isi .tuple (dv 0) rfl G.b_isinstance rfl G.b_tuple (by decide +kernel) (by decide) (by decide))))
    (s_one (s_ret d_bl))
    s_nil)
    (s_cons (s_if (t_cmp (o_eq (hu64 hr)) (d_ix ix_sq (dv 1) d_int (fun _ _ => rfl)) d_str (nomark _))
    (s_one (s_ret (d_and (d_cmp (o_eq (hu64 hr)) (d_callB (c_len) rfl G.b_len (by decide +kernel) (a_cons (dv 0) a_nil)) (d_ix ix_sq (dv 1) d_int (fun _ _ => rfl)) (nomark _)) (d_one (d_callB (c_all rfl) rfl G.b_all (by decide +kernel) (a_cons (d_frz (f_lc (own := [("bit", 3)]) (t := (.nm 3)) rfl sc_is_value.nd (i_any (dv 0)) (blkOk_by (by kernel_rfl)) (by decide) (fun _ _ _ _ _ => (tn 3 sc_is_value.nd)) (fun _ _ _ _ _ => ts_nil) (fun _ _ _ _ _ => (d_and (d_fn F.f0 hr passL rfl rfl (a_cons (dv 3) a_nil)) (d_one (d_chain (o_le) (o_le) d_int (dv 3) d_int)))))) a_nil))))))
    s_nil)
    (s_cons (s_if (t_not (t_truth (d_callB (c_all rfl) rfl G.b_all (by decide +kernel) (a_cons (d_frz (f_lc (own := [("one", 2)]) (t := (.nm 2)) rfl sc_is_value.nd (i_any (dv 0)) (blkOk_by (by kernel_rfl)) (by decide) (fun _ _ _ _ _ => (tn 2 sc_is_value.nd)) (fun _ _ _ _ _ => ts_nil) (fun _ _ _ _ _ => (d_fn F.f25 hr passL rfl rfl (a_cons (dv 2) (a_cons (d_ix ix_sq (dv 1) d_int (fun _ _ => rfl)) a_nil)))))) a_nil))))
    (s_one (s_ret d_bl))
    s_nil)
    (s_one (s_ret (d_or (d_cmp (o_eq (hu64 hr)) (d_ix ix_sq (dv 1) d_int (fun _ _ => rfl)) d_str (nomark _)) (d_one (d_fn F.f26 hr pass_fn rfl rfl (a_cons (dv 0) a_nil)))))))))))
theorem okf_are_ascending {f : Addr} {fd : FuncData} (G : Glo P w K mg) (F : Fns P w K mg base k cl) (D : FunD K "are_ascending" "are_ascending" (defArgs st_are_ascending) (defBody st_are_ascending) (defScope st_are_ascending) [] [] f fd) : FnOk P w K mg base (L2.CX P w) (k + 1) f fd ["row"] (SpF K mg 1 (fnD 3 (body_are_ascending cl))) :=
  fn_okD D sc_are_ascending rfl fun f cdv A outer s H E hr => (s_one (s_ret (d_callB (c_all rfl) rfl G.b_all (by decide +kernel) (a_cons (d_frz (f_lc (own := [("one", 1), ("other", 2)]) (t := (.tp [1, 2])) rfl sc_are_ascending.nd (i_zip rfl G.b_zip (a_cons (dv 0) (a_cons (d_slice (dv 0) (o_sm d_int) o_no) a_nil))) (blkOk_by (by kernel_rfl)) (by decide) (fun _ _ _ _ _ => (tg_tp rfl (tc 1 sc_are_ascending.nd (tc 2 sc_are_ascending.nd tgs_nil)))) (fun _ _ _ _ _ => ts_nil) (fun _ _ _ _ _ => (d_cmp (o_lt2 (hu64 hr)) (dv 1) (dv 2) (nomark _))))) a_nil))))
theorem okf_is_table {f : Addr} {fd : FuncData} (G : Glo P w K mg) (F : Fns P w K mg base k cl) (D : FunD K "is_table" "is_table" (defArgs st_is_table) (defBody st_is_table) (defScope st_is_table) [] [] f fd) : FnOk P w K mg base (L2.CX P w) (k + 1) f fd ["thing", "places", "sort"] (SpF K mg 3 (fnD 6 (body_is_table cl))) :=
  fn_okD D sc_is_table rfl fun f cdv A outer s H E hr => (s_cons (s_if (w_pt (w_or (t_not (t_truth (d_isi .tuple (dv 0) rfl G.b_isinstance rfl G.b_tuple (by decide +kernel) (by decide) (by decide)))) (w_or (t_cmp (o_ne (hu64 hr)) (d_callB (c_len) rfl G.b_len (by decide +kernel) (a_cons (dv 0) a_nil)) d_int (nomark _)) (w_or1 (t_not (t_truth (d_isi .tuple (d_ix ix_sq (dv 0) d_int (fun _ _ => rfl)) rfl G.b_isinstance rfl G.b_tuple (by decide +kernel) (by decide) (by decide))))))))
    (s_one (s_ret d_bl))
    s_nil)
    (s_cons (s_for own_fn rfl (i_any (d_ix ix_sq (dv 0) d_int (fun _ _ => rfl))) (gn 3 sc_is_table.nd)
    (s_cons (s_if (w_pt (w_or (t_not (t_truth (d_isi .tuple (dv 3) rfl G.b_isinstance rfl G.b_tuple (by decide +kernel) (by decide) (by decide)))) (w_or (t_cmp (o_ne (hu64 hr)) (d_callB (c_len) rfl G.b_len (by decide +kernel) (a_cons (dv 3) a_nil)) d_int (nomark _)) (w_or1 (t_not (t_truth (d_isi .tuple (d_ix ix_sq (dv 3) d_int (fun _ _ => rfl)) rfl G.b_isinstance rfl G.b_tuple (by decide +kernel) (by decide) (by decide))))))))
    (s_one (s_ret d_bl))
    s_nil)
    (s_cons (s_if (t_cmp (o_ne (hu64 hr)) (d_callB (c_len) rfl G.b_len (by decide +kernel) (a_cons (d_ix ix_sq (dv 3) d_int (fun _ _ => rfl)) a_nil)) (d_callB (c_len) rfl G.b_len (by decide +kernel) (a_cons (dv 1) a_nil)) (nomark _))
    (s_one (s_ret d_bl))
    s_nil)
    (s_one (s_if (w_pt (w_or (t_not (t_truth (d_callB (c_all rfl) rfl G.b_all (by decide +kernel) (a_cons (d_frz (f_lc (own := [("one", 4), ("place", 5)]) (t := (.tp [4, 5])) rfl sc_is_table.nd (i_zip rfl G.b_zip (a_cons (d_ix ix_sq (dv 3) d_int (fun _ _ => rfl)) (a_cons (dv 1) a_nil))) (blkOk_by (by kernel_rfl)) (by decide) (fun _ _ _ _ _ => (tg_tp rfl (tc 4 sc_is_table.nd (tc 5 sc_is_table.nd tgs_nil)))) (fun _ _ _ _ _ => ts_nil) (fun _ _ _ _ _ => (d_fn F.f25 hr passL rfl rfl (a_cons (dv 4) (a_cons (dv 5) a_nil)))))) a_nil)))) (w_or1 (t_not (t_truth (d_fn F.f25 hr pass_fn rfl rfl (a_cons (d_ix ix_sq (dv 3) d_int (fun _ _ => rfl)) (a_cons (dv 2) a_nil))))))))
    (s_one (s_ret d_bl))
    s_nil)))))
    (s_one (s_ret (d_and (d_fn F.f26 hr pass_fn rfl rfl (a_cons (d_callTy (c_tuple) rfl G.b_tuple (by decide +kernel) (a_cons (d_frz (f_lc (own := [("pair", 3)]) (t := (.nm 3)) rfl sc_is_table.nd (i_any (d_ix ix_sq (dv 0) d_int (fun _ _ => rfl))) (blkOk_by (by kernel_rfl)) (by decide) (fun _ _ _ _ _ => (tn 3 sc_is_table.nd)) (fun _ _ _ _ _ => ts_nil) (fun _ _ _ _ _ => (d_ix ix_sq (dv 3) d_int (fun _ _ => rfl))))) a_nil)) a_nil)) (d_one (d_fn F.f25 hr pass_fn rfl rfl (a_cons (d_ix ix_sq (dv 0) d_int (fun _ _ => rfl)) (a_cons (dv 2) a_nil)))))))))
theorem okf_is_choice {f : Addr} {fd : FuncData} (G : Glo P w K mg) (F : Fns P w K mg base k cl) (D : FunD K "is_choice" "is_choice" (defArgs st_is_choice) (defBody st_is_choice) (defScope st_is_choice) [] [] f fd) : FnOk P w K mg base (L2.CX P w) (k + 1) f fd ["model", "text"] (SpF K mg 2 (fnD 6 (body_is_choice cl))) :=
  fn_okD D sc_is_choice rfl fun f cdv A outer s H E hr => (s_cons (s_if (w_pt (w_or (t_not (t_truth (d_isi .dict (dv 0) rfl G.b_isinstance rfl G.b_dict (by decide +kernel) (by decide) (by decide)))) (w_or1 (t_cmp (o_ne (hu64 hr)) (d_callB (c_len) rfl G.b_len (by decide +kernel) (a_cons (dv 0) a_nil)) (d_callB (c_len) rfl G.b_len (by decide +kernel) (a_cons (d_ix ix_sq (dv 1) d_int (fun _ _ => rfl)) a_nil)) (nomark _)))))
    (s_one (s_ret d_bl))
    s_nil)
    (s_cons (s_for own_fn rfl (i_any (d_ix ix_sq (dv 1) d_int (fun _ _ => rfl))) (g_tup rfl (gs_cons (gn 2 sc_is_choice.nd) (gs_cons (gn 3 sc_is_choice.nd) (gs_cons (gn 4 sc_is_choice.nd) gs_nil))))
    (s_cons (s_if (t_cmp (o_nin (hu64 hr)) (dv 2) (dv 0) (by rfl))
    (s_one (s_ret d_bl))
    s_nil)
    (s_cons (ss 5 sc_is_choice.nd (d_dget (hu1 hr) (dv 0) (dv 2)))
    (s_one (s_if (t_not (t_ifE (t_truth (dv 3)) (t_truth (d_fn F.f27 hr pass_fn rfl rfl (a_cons (dv 5) (a_cons (dv 3) (a_cons (dv 4) a_nil))))) (t_truth (d_fn F.f25 hr pass_fn rfl rfl (a_cons (dv 5) (a_cons (dv 4) a_nil))))))
    (s_one (s_ret d_bl))
    s_nil)))))
    (s_one (s_ret d_bl))))
theorem okf_found_in {f : Addr} {fd : FuncData} (G : Glo P w K mg) (F : Fns P w K mg base k cl) (D : FunD K "found_in" "found_in" (defArgs st_found_in) (defBody st_found_in) (defScope st_found_in) [] [] f fd) : FnOk P w K mg base (L2.CX P w) (k + 1) f fd ["table", "args"] (SpF K mg 2 (fnD 4 (body_found_in cl))) :=
  fn_okD D sc_found_in rfl fun f cdv A outer s H E hr => (s_cons (s_for own_fn rfl (i_any (d_ix ix_sq (dv 0) d_int (fun _ _ => rfl))) (g_tup rfl (gs_cons (gn 2 sc_found_in.nd) (gs_cons (gn 3 sc_found_in.nd) gs_nil)))
    (s_one (s_if (t_cmp (o_eq (hu64 hr)) (dv 2) (dv 1) (nomark _))
    (s_one (s_ret (dv 3)))
    s_nil)))
    (s_one (s_ret (d_ix ix_sq (dv 0) d_int (fun _ _ => rfl)))))
theorem okf_summed {f : Addr} {fd : FuncData} (G : Glo P w K mg) (F : Fns P w K mg base k cl) (D : FunD K "summed" "summed" (defArgs st_summed) (defBody st_summed) (defScope st_summed) [] [] f fd) : FnOk P w K mg base (L2.CX P w) (k + 1) f fd ["one", "other"] (SpF K mg 2 (fnD 7 (body_summed cl))) :=
  fn_okD D sc_summed rfl fun f cdv A outer s H E hr => (s_cons (s_parO (i := 2) (j := 3) rfl sc_summed.nd rfl rfl (by decide) rfl rfl (f_lst a_nil) (by rfl))
    (s_cons (s_for own_fn rfl (i_zip rfl G.b_zip (a_cons (dv 0) (a_cons (dv 1) a_nil))) (g_tup rfl (gs_cons (gn 4 sc_summed.nd) (gs_cons (gn 5 sc_summed.nd) gs_nil)))
    (s_cons (ss 6 sc_summed.nd (d_op o_add (d_op o_add (dv 4) (dv 5)) (dv 3)))
    (s_cons (s_app (i := 2) rfl (Or.inl rfl) (d_op o_mod (dv 6) d_int))
    (s_one (ss 3 sc_summed.nd (d_op o_fdiv (dv 6) d_int))))))
    (s_one (s_ret (d_callTy (c_tuple) rfl G.b_tuple (by decide +kernel) (a_cons (dv 2) a_nil))))))
theorem okf_gated {f : Addr} {fd : FuncData} (G : Glo P w K mg) (F : Fns P w K mg base k cl) (D : FunD K "gated" "gated" (defArgs st_gated) (defBody st_gated) (defScope st_gated) [] [] f fd) : FnOk P w K mg base (L2.CX P w) (k + 1) f fd ["word", "one", "other"] (SpF K mg 3 (fnD 5 (body_gated cl))) :=
  fn_okD D sc_gated rfl fun f cdv A outer s H E hr => (s_cons (s_if (t_cmp (o_eq (hu64 hr)) (dv 0) d_str (nomark _))
    (s_one (s_ret (d_callTy (c_tuple) rfl G.b_tuple (by decide +kernel) (a_cons (d_frz (f_lc (own := [("first", 3), ("second", 4)]) (t := (.tp [3, 4])) rfl sc_gated.nd (i_zip rfl G.b_zip (a_cons (dv 1) (a_cons (dv 2) a_nil))) (blkOk_by (by kernel_rfl)) (by decide) (fun _ _ _ _ _ => (tg_tp rfl (tc 3 sc_gated.nd (tc 4 sc_gated.nd tgs_nil)))) (fun _ _ _ _ _ => ts_nil) (fun _ _ _ _ _ => (d_op o_mul (dv 3) (dv 4))))) a_nil))))
    s_nil)
    (s_cons (s_if (t_cmp (o_eq (hu64 hr)) (dv 0) d_str (nomark _))
    (s_one (s_ret (d_callTy (c_tuple) rfl G.b_tuple (by decide +kernel) (a_cons (d_frz (f_lc (own := [("first", 3), ("second", 4)]) (t := (.tp [3, 4])) rfl sc_gated.nd (i_zip rfl G.b_zip (a_cons (dv 1) (a_cons (dv 2) a_nil))) (blkOk_by (by kernel_rfl)) (by decide) (fun _ _ _ _ _ => (tg_tp rfl (tc 3 sc_gated.nd (tc 4 sc_gated.nd tgs_nil)))) (fun _ _ _ _ _ => ts_nil) (fun _ _ _ _ _ => (d_callB (c_max2 rfl) rfl G.b_max (by decide +kernel) (a_cons (dv 3) (a_cons (dv 4) a_nil)))))) a_nil))))
    s_nil)
    (s_one (s_ret (d_callTy (c_tuple) rfl G.b_tuple (by decide +kernel) (a_cons (d_frz (f_lc (own := [("first", 3), ("second", 4)]) (t := (.tp [3, 4])) rfl sc_gated.nd (i_zip rfl G.b_zip (a_cons (dv 1) (a_cons (dv 2) a_nil))) (blkOk_by (by kernel_rfl)) (by decide) (fun _ _ _ _ _ => (tg_tp rfl (tc 3 sc_gated.nd (tc 4 sc_gated.nd tgs_nil)))) (fun _ _ _ _ _ => ts_nil) (fun _ _ _ _ _ => (d_op o_mod (d_op o_add (dv 3) (dv 4)) d_int)))) a_nil))))))
theorem okf_counted {f : Addr} {fd : FuncData} (G : Glo P w K mg) (F : Fns P w K mg base k cl) (D : FunD K "counted" "counted" (defArgs st_counted) (defBody st_counted) (defScope st_counted) [] [] f fd) : FnOk P w K mg base (L2.CX P w) (k + 1) f fd ["word", "one", "other"] (SpF K mg 3 (fnD 4 (body_counted cl))) :=
  fn_okD D sc_counted rfl fun f cdv A outer s H E hr => (s_cons (s_if (t_cmp (o_eq (hu64 hr)) (dv 0) d_str (nomark _))
    (s_one (s_ret (d_fn F.f23 hr pass_fn rfl rfl (a_cons (d_op o_mul (d_ix ix_sq (dv 1) d_int (fun _ _ => rfl)) (d_ix ix_sq (dv 2) d_int (fun _ _ => rfl))) (a_cons (d_op o_mul (d_ix ix_sq (dv 1) d_int (fun _ _ => rfl)) (d_ix ix_sq (dv 2) d_int (fun _ _ => rfl))) a_nil)))))
    s_nil)
    (s_cons (ss 3 sc_counted.nd (d_if (t_cmp (o_eq (hu64 hr)) (dv 0) d_str (nomark _)) d_int (d_neg d_int)))
    (s_one (s_ret (d_fn F.f23 hr pass_fn rfl rfl (a_cons (d_op o_add (d_op o_mul (d_ix ix_sq (dv 1) d_int (fun _ _ => rfl)) (d_ix ix_sq (dv 2) d_int (fun _ _ => rfl))) (d_op o_mul (d_op o_mul (dv 3) (d_ix ix_sq (dv 2) d_int (fun _ _ => rfl))) (d_ix ix_sq (dv 1) d_int (fun _ _ => rfl)))) (a_cons (d_op o_mul (d_ix ix_sq (dv 1) d_int (fun _ _ => rfl)) (d_ix ix_sq (dv 2) d_int (fun _ _ => rfl))) a_nil)))))))
theorem okf_gathered {f : Addr} {fd : FuncData} (G : Glo P w K mg) (F : Fns P w K mg base k cl) (D : FunD K "gathered" "gathered" (defArgs st_gathered) (defBody st_gathered) (defScope st_gathered) [] [] f fd) : FnOk P w K mg base (L2.CX P w) (k + 1) f fd ["word", "one", "other"] (SpF K mg 3 (fnD 4 (body_gathered cl))) :=
  fn_okD D sc_gathered rfl fun f cdv A outer s H E hr => (s_cons (s_if (t_cmp (o_eq (hu64 hr)) (dv 0) d_str (nomark _))
    (s_one (s_ret (d_callTy (c_tuple) rfl G.b_tuple (by decide +kernel) (a_cons (d_callB (c_sorted2 (hu64 hr) rfl) rfl G.b_sorted (by decide +kernel) (a_cons (d_op o_add (d_callTy (c_list) rfl G.b_list (by decide +kernel) (a_cons (dv 1) a_nil)) (d_frz (f_lc (own := [("member", 3)]) (t := (.nm 3)) rfl sc_gathered.nd (i_any (dv 2)) (blkOk_by (by kernel_rfl)) (by decide) (fun _ _ _ _ _ => (tn 3 sc_gathered.nd)) (fun _ _ _ _ _ => (ts_one (t_cmp (o_nin2 (hu64 hr)) (dv 3) (dv 1) (by rfl)))) (fun _ _ _ _ _ => (dv 3))))) a_nil)) a_nil))))
    s_nil)
    (s_cons (s_if (t_cmp (o_eq (hu64 hr)) (dv 0) d_str (nomark _))
    (s_one (s_ret (d_callTy (c_tuple) rfl G.b_tuple (by decide +kernel) (a_cons (d_frz (f_lc (own := [("member", 3)]) (t := (.nm 3)) rfl sc_gathered.nd (i_any (dv 1)) (blkOk_by (by kernel_rfl)) (by decide) (fun _ _ _ _ _ => (tn 3 sc_gathered.nd)) (fun _ _ _ _ _ => (ts_one (t_cmp (o_in2 (hu64 hr)) (dv 3) (dv 2) (by rfl)))) (fun _ _ _ _ _ => (dv 3)))) a_nil))))
    s_nil)
    (s_one (s_ret (d_callTy (c_tuple) rfl G.b_tuple (by decide +kernel) (a_cons (d_frz (f_lc (own := [("member", 3)]) (t := (.nm 3)) rfl sc_gathered.nd (i_any (dv 1)) (blkOk_by (by kernel_rfl)) (by decide) (fun _ _ _ _ _ => (tn 3 sc_gathered.nd)) (fun _ _ _ _ _ => (ts_one (t_cmp (o_nin2 (hu64 hr)) (dv 3) (dv 2) (by rfl)))) (fun _ _ _ _ _ => (dv 3)))) a_nil))))))
theorem okf_made {f : Addr} {fd : FuncData} (G : Glo P w K mg) (F : Fns P w K mg base k cl) (D : FunD K "made" "made" (defArgs st_made) (defBody st_made) (defScope st_made) [] [] f fd) : FnOk P w K mg base (L2.CX P w) (k + 1) f fd ["term", "args"] (SpF K mg 2 (fnD 4 (body_made cl))) :=
  fn_okD D sc_made rfl fun f cdv A outer s H E hr => (s_cons (ss 2 sc_made.nd (d_ix ix_sq (dv 0) d_int (fun _ _ => rfl)))
    (s_cons (s_if (t_cmp (o_eq (hu64 hr)) (dv 2) d_str (nomark _))
    (s_one (s_ret (d_slice (dv 0) (o_sm d_int) o_no)))
    s_nil)
    (s_cons (s_if (t_cmp (o_eq (hu64 hr)) (dv 2) d_str (nomark _))
    (s_one (s_ret (d_ix ix_sq (dv 0) d_int (fun _ _ => rfl))))
    s_nil)
    (s_cons (s_if (t_cmp (o_in (hu64 hr)) (dv 2) (d_tup (a_cons d_str (a_cons d_str a_nil))) (by rfl))
    (s_one (s_ret (d_tup a_nil)))
    s_nil)
    (s_cons (s_if (t_cmp (o_eq (hu64 hr)) (dv 2) d_str (nomark _))
    (s_one (s_ret (d_op o_add (d_tup (a_cons (d_ix ix_sq (dv 1) d_int (fun _ _ => rfl)) a_nil)) (d_ix ix_sq (dv 1) d_int (fun _ _ => rfl)))))
    s_nil)
    (s_cons (s_if (t_cmp (o_eq (hu64 hr)) (dv 2) d_str (nomark _))
    (s_one (s_ret (d_tup (a_cons (d_ix ix_sq (dv 1) d_int (fun _ _ => rfl)) a_nil))))
    s_nil)
    (s_cons (s_if (t_cmp (o_eq (hu64 hr)) (dv 2) d_str (nomark _))
    (s_one (s_ret (d_callTy (c_tuple) rfl G.b_tuple (by decide +kernel) (a_cons (d_frz (f_lc (own := [("bit", 3)]) (t := (.nm 3)) rfl sc_made.nd (i_any (d_ix ix_sq (dv 1) d_int (fun _ _ => rfl))) (blkOk_by (by kernel_rfl)) (by decide) (fun _ _ _ _ _ => (tn 3 sc_made.nd)) (fun _ _ _ _ _ => ts_nil) (fun _ _ _ _ _ => (d_op o_sub d_int (dv 3))))) a_nil))))
    s_nil)
    (s_cons (s_if (t_cmp (o_eq (hu64 hr)) (dv 2) d_str (nomark _))
    (s_one (s_ret (d_fn F.f31 hr pass_fn rfl rfl (a_cons (d_ix ix_sq (dv 0) d_int (fun _ _ => rfl)) (a_cons (d_ix ix_sq (dv 1) d_int (fun _ _ => rfl)) (a_cons (d_ix ix_sq (dv 1) d_int (fun _ _ => rfl)) a_nil))))))
    s_nil)
    (s_cons (s_if (t_cmp (o_eq (hu64 hr)) (dv 2) d_str (nomark _))
    (s_one (s_ret (d_fn F.f30 hr pass_fn rfl rfl (a_cons (d_ix ix_sq (dv 1) d_int (fun _ _ => rfl)) (a_cons (d_ix ix_sq (dv 1) d_int (fun _ _ => rfl)) a_nil)))))
    s_nil)
    (s_cons (s_if (t_cmp (o_in (hu64 hr)) (dv 2) (d_tup (a_cons d_str (a_cons d_str (a_cons d_str a_nil)))) (by rfl))
    (s_one (s_ret (d_fn F.f33 hr pass_fn rfl rfl (a_cons (dv 2) (a_cons (d_ix ix_sq (dv 1) d_int (fun _ _ => rfl)) (a_cons (d_ix ix_sq (dv 1) d_int (fun _ _ => rfl)) a_nil))))))
    s_nil)
    (s_one (s_ret (d_fn F.f32 hr pass_fn rfl rfl (a_cons (dv 2) (a_cons (d_ix ix_sq (dv 1) d_int (fun _ _ => rfl)) (a_cons (d_ix ix_sq (dv 1) d_int (fun _ _ => rfl)) a_nil))))))))))))))))
theorem okf_below {f : Addr} {fd : FuncData} (G : Glo P w K mg) (F : Fns P w K mg base k cl) (D : FunD K "below" "below" (defArgs st_below) (defBody st_below) (defScope st_below) [] [] f fd) : FnOk P w K mg base (L2.CX P w) (k + 1) f fd ["one", "other"] (SpF K mg 2 (fnD 2 (body_below cl))) :=
  fn_okD D sc_below rfl fun f cdv A outer s H E hr => (s_one (s_ret (d_cmp (o_lt2 (hu64 hr)) (d_rev (dv 0)) (d_rev (dv 1)) (nomark _))))
theorem okf_asked {f : Addr} {fd : FuncData} (G : Glo P w K mg) (F : Fns P w K mg base k cl) (D : FunD K "asked" "asked" (defArgs st_asked) (defBody st_asked) (defScope st_asked) [] [] f fd) : FnOk P w K mg base (L2.CX P w) (k + 1) f fd ["word", "one", "other"] (SpF K mg 3 (fnD 5 (body_asked cl))) :=
  fn_okD D sc_asked rfl fun f cdv A outer s H E hr => (s_cons (s_if (t_cmp (o_eq (hu64 hr)) (dv 0) d_str (nomark _))
    (s_one (s_ret (d_cmp (o_eq (hu64 hr)) (dv 1) (dv 2) (nomark _))))
    s_nil)
    (s_cons (s_if (t_cmp (o_eq (hu64 hr)) (dv 0) d_str (nomark _))
    (s_one (s_ret (d_cmp (o_in2 (hu64 hr)) (dv 1) (dv 2) (by rfl))))
    s_nil)
    (s_cons (s_if (t_cmp (o_eq (hu64 hr)) (dv 0) d_str (nomark _))
    (s_one (s_ret (d_fn F.f35 hr pass_fn rfl rfl (a_cons (dv 1) (a_cons (dv 2) a_nil)))))
    s_nil)
    (s_cons (s_par (i := 3) (j := 4) rfl sc_asked.nd rfl rfl (by decide) rfl rfl (a_cons (d_op o_mul (d_ix ix_sq (dv 1) d_int (fun _ _ => rfl)) (d_ix ix_sq (dv 2) d_int (fun _ _ => rfl))) (a_cons (d_op o_mul (d_ix ix_sq (dv 2) d_int (fun _ _ => rfl)) (d_ix ix_sq (dv 1) d_int (fun _ _ => rfl))) a_nil)) (by rfl))
    (s_one (s_ret (d_if (t_cmp (o_eq (hu64 hr)) (dv 0) d_str (nomark _)) (d_cmp (o_lt2 (hu64 hr)) (dv 3) (dv 4) (nomark _)) (d_cmp (o_le) (dv 3) (dv 4) (nomark _)))))))))
theorem okf_worth {f : Addr} {fd : FuncData} (G : Glo P w K mg) (F : Fns P w K mg base k cl) (D : FunD K "worth" "worth" (defArgs st_worth) (defBody st_worth) (defScope st_worth) [] [] f fd) : FnOk P w K mg base (L2.CX P w) (k + 1) f fd ["model", "term"] (SpF K mg 2 (fnD 4 (body_worth cl))) :=
  fn_okD D sc_worth rfl fun f cdv A outer s H E hr => (s_cons (s_if (t_cmp (o_eq (hu64 hr)) (d_ix ix_sq (dv 1) d_int (fun _ _ => rfl)) d_str (nomark _))
    (s_cons (ss 2 sc_worth.nd (d_callTy (c_tuple) rfl G.b_tuple (by decide +kernel) (a_cons (d_frz (f_lc (own := [("one", 3)]) (t := (.nm 3)) rfl sc_worth.nd (i_any (d_ix ix_sq (dv 1) d_int (fun _ _ => rfl))) (blkOk_by (by kernel_rfl)) (by decide) (fun _ _ _ _ _ => (tn 3 sc_worth.nd)) (fun _ _ _ _ _ => ts_nil) (fun _ _ _ _ _ => (d_fn F.f37 hr passL rfl rfl (a_cons (dv 0) (a_cons (dv 3) a_nil)))))) a_nil)))
    (s_one (s_ret (d_if (t_truth (dv 2)) (d_fn F.f29 hr pass_fn rfl rfl (a_cons (d_dget (hu1 hr) (dv 0) (d_ix ix_sq (dv 1) d_int (fun _ _ => rfl))) (a_cons (dv 2) a_nil))) (d_dget (hu1 hr) (dv 0) (d_ix ix_sq (dv 1) d_int (fun _ _ => rfl)))))))
    s_nil)
    (s_cons (s_if (t_cmp (o_in (hu64 hr)) (d_ix ix_sq (dv 1) d_int (fun _ _ => rfl)) (d_tup (a_cons d_str (a_cons d_str (a_cons d_str (a_cons d_str a_nil))))) (by rfl))
    (s_one (s_ret (d_fn F.f34 hr pass_fn rfl rfl (a_cons (dv 1) (a_cons (d_tup a_nil) a_nil)))))
    s_nil)
    (s_one (s_ret (d_fn F.f34 hr pass_fn rfl rfl (a_cons (dv 1) (a_cons (d_callTy (c_tuple) rfl G.b_tuple (by decide +kernel) (a_cons (d_frz (f_lc (own := [("one", 3)]) (t := (.nm 3)) rfl sc_worth.nd (i_any (d_if (t_cmp (o_eq (hu64 hr)) (d_ix ix_sq (dv 1) d_int (fun _ _ => rfl)) d_str (nomark _)) (d_slice (dv 1) (o_sm d_int) o_no) (d_slice (dv 1) (o_sm d_int) o_no))) (blkOk_by (by kernel_rfl)) (by decide) (fun _ _ _ _ _ => (tn 3 sc_worth.nd)) (fun _ _ _ _ _ => ts_nil) (fun _ _ _ _ _ => (d_fn F.f37 hr passL rfl rfl (a_cons (dv 0) (a_cons (dv 3) a_nil)))))) a_nil)) a_nil)))))))
theorem okf_holds {f : Addr} {fd : FuncData} (G : Glo P w K mg) (F : Fns P w K mg base k cl) (D : FunD K "holds" "holds" (defArgs st_holds) (defBody st_holds) (defScope st_holds) [] [] f fd) : FnOk P w K mg base (L2.CX P w) (k + 1) f fd ["model", "claim"] (SpF K mg 2 (fnD 3 (body_holds cl))) :=
  fn_okD D sc_holds rfl fun f cdv A outer s H E hr => (s_cons (ss 2 sc_holds.nd (d_ix ix_sq (dv 1) d_int (fun _ _ => rfl)))
    (s_cons (s_if (t_cmp (o_in (hu64 hr)) (dv 2) (d_tup (a_cons d_str (a_cons d_str a_nil))) (by rfl))
    (s_one (s_ret (d_cmp (o_eq (hu64 hr)) (dv 2) d_str (nomark _))))
    s_nil)
    (s_cons (s_if (t_cmp (o_eq (hu64 hr)) (dv 2) d_str (nomark _))
    (s_one (s_ret (d_not (d_fn F.f38 hr pass_fn rfl rfl (a_cons (dv 0) (a_cons (d_ix ix_sq (dv 1) d_int (fun _ _ => rfl)) a_nil))))))
    s_nil)
    (s_cons (s_if (t_cmp (o_eq (hu64 hr)) (dv 2) d_str (nomark _))
    (s_one (s_ret (d_and (d_fn F.f38 hr pass_fn rfl rfl (a_cons (dv 0) (a_cons (d_ix ix_sq (dv 1) d_int (fun _ _ => rfl)) a_nil))) (d_one (d_fn F.f38 hr pass_fn rfl rfl (a_cons (dv 0) (a_cons (d_ix ix_sq (dv 1) d_int (fun _ _ => rfl)) a_nil)))))))
    s_nil)
    (s_cons (s_if (t_cmp (o_eq (hu64 hr)) (dv 2) d_str (nomark _))
    (s_one (s_ret (d_or (d_fn F.f38 hr pass_fn rfl rfl (a_cons (dv 0) (a_cons (d_ix ix_sq (dv 1) d_int (fun _ _ => rfl)) a_nil))) (d_one (d_fn F.f38 hr pass_fn rfl rfl (a_cons (dv 0) (a_cons (d_ix ix_sq (dv 1) d_int (fun _ _ => rfl)) a_nil)))))))
    s_nil)
    (s_cons (s_if (t_cmp (o_eq (hu64 hr)) (dv 2) d_str (nomark _))
    (s_one (s_ret (d_or (d_not (d_fn F.f38 hr pass_fn rfl rfl (a_cons (dv 0) (a_cons (d_ix ix_sq (dv 1) d_int (fun _ _ => rfl)) a_nil)))) (d_one (d_fn F.f38 hr pass_fn rfl rfl (a_cons (dv 0) (a_cons (d_ix ix_sq (dv 1) d_int (fun _ _ => rfl)) a_nil)))))))
    s_nil)
    (s_cons (s_if (t_cmp (o_eq (hu64 hr)) (dv 2) d_str (nomark _))
    (s_one (s_ret (d_cmp (o_eq (hu64 hr)) (d_fn F.f38 hr pass_fn rfl rfl (a_cons (dv 0) (a_cons (d_ix ix_sq (dv 1) d_int (fun _ _ => rfl)) a_nil))) (d_fn F.f38 hr pass_fn rfl rfl (a_cons (dv 0) (a_cons (d_ix ix_sq (dv 1) d_int (fun _ _ => rfl)) a_nil))) (nomark _))))
    s_nil)
    (s_one (s_ret (d_fn F.f36 hr pass_fn rfl rfl (a_cons (dv 2) (a_cons (d_fn F.f37 hr pass_fn rfl rfl (a_cons (dv 0) (a_cons (d_ix ix_sq (dv 1) d_int (fun _ _ => rfl)) a_nil))) (a_cons (d_fn F.f37 hr pass_fn rfl rfl (a_cons (dv 0) (a_cons (d_ix ix_sq (dv 1) d_int (fun _ _ => rfl)) a_nil))) a_nil)))))))))))))
theorem okf_sure_choice {f : Addr} {fd : FuncData} (G : Glo P w K mg) (F : Fns P w K mg base k cl) (D : FunD K "sure_choice" "sure_choice" (defArgs st_sure_choice) (defBody st_sure_choice) (defScope st_sure_choice) [] [] f fd) : FnOk P w K mg base (L2.CX P w) (k + 1) f fd ["text", "model"] (SpF K mg 2 (fnD 2 (body_sure_choice cl))) :=
  fn_okD D sc_sure_choice rfl fun f cdv A outer s H E hr => (s_cons (s_expr (d_fn F.f22 hr pass_fn rfl rfl (a_cons (dv 0) a_nil)))
    (s_one (s_if (t_not (t_truth (d_fn F.f28 hr pass_fn rfl rfl (a_cons (dv 1) (a_cons (dv 0) a_nil)))))
    (s_one (s_raise G.x_Refused rfl takes_fn hr rfl d_str))
    s_nil)))
theorem okf_value_at {f : Addr} {fd : FuncData} (G : Glo P w K mg) (F : Fns P w K mg base k cl) (D : FunD K "value_at" "value_at" (defArgs st_value_at) (defBody st_value_at) (defScope st_value_at) [] [] f fd) : FnOk P w K mg base (L2.CX P w) (k + 1) f fd ["text", "model", "term"] (SpF K mg 3 (fnD 3 (body_value_at cl))) :=
  fn_okD D sc_value_at rfl fun f cdv A outer s H E hr => (s_cons (s_expr (d_fn F.f39 hr pass_fn rfl rfl (a_cons (dv 0) (a_cons (dv 1) a_nil))))
    (s_cons (s_if (w_pt (w_or (t_not (t_truth (d_fn F.f6 hr pass_fn rfl rfl (a_cons (dv 2) a_nil)))) (w_or1 (t_cmp (o_is) (d_fn F.f14 hr pass_fn rfl rfl (a_cons (d_fn F.f18 hr pass_fn rfl rfl (a_cons (dv 0) a_nil)) (a_cons (dv 2) a_nil))) d_non (nomark _)))))
    (s_one (s_raise G.x_BadPart rfl takes_fn hr rfl d_str))
    s_nil)
    (s_one (s_ret (d_fn F.f37 hr pass_fn rfl rfl (a_cons (dv 1) (a_cons (dv 2) a_nil)))))))
theorem okf_holds_at {f : Addr} {fd : FuncData} (G : Glo P w K mg) (F : Fns P w K mg base k cl) (D : FunD K "holds_at" "holds_at" (defArgs st_holds_at) (defBody st_holds_at) (defScope st_holds_at) [] [] f fd) : FnOk P w K mg base (L2.CX P w) (k + 1) f fd ["text", "model", "claim"] (SpF K mg 3 (fnD 3 (body_holds_at cl))) :=
  fn_okD D sc_holds_at rfl fun f cdv A outer s H E hr => (s_cons (s_expr (d_fn F.f39 hr pass_fn rfl rfl (a_cons (dv 0) (a_cons (dv 1) a_nil))))
    (s_cons (s_if (w_pt (w_or (t_not (t_truth (d_fn F.f6 hr pass_fn rfl rfl (a_cons (dv 2) a_nil)))) (w_or1 (t_not (t_truth (d_fn F.f15 hr pass_fn rfl rfl (a_cons (d_fn F.f18 hr pass_fn rfl rfl (a_cons (dv 0) a_nil)) (a_cons (dv 2) a_nil))))))))
    (s_one (s_raise G.x_BadPart rfl takes_fn hr rfl d_str))
    s_nil)
    (s_one (s_ret (d_fn F.f38 hr pass_fn rfl rfl (a_cons (dv 1) (a_cons (dv 2) a_nil)))))))
theorem okf_is_model {f : Addr} {fd : FuncData} (G : Glo P w K mg) (F : Fns P w K mg base k cl) (D : FunD K "is_model" "is_model" (defArgs st_is_model) (defBody st_is_model) (defScope st_is_model) [] [] f fd) : FnOk P w K mg base (L2.CX P w) (k + 1) f fd ["text", "model"] (SpF K mg 2 (fnD 3 (body_is_model cl))) :=
  fn_okD D sc_is_model rfl fun f cdv A outer s H E hr => (s_cons (s_if (t_not (t_truth (d_fn F.f21 hr pass_fn rfl rfl (a_cons (dv 0) a_nil))))
    (s_one (s_raise G.x_BadPart rfl takes_fn hr rfl d_str))
    s_nil)
    (s_one (s_ret (d_and (d_fn F.f28 hr pass_fn rfl rfl (a_cons (dv 1) (a_cons (dv 0) a_nil))) (d_one (d_callB (c_all rfl) rfl G.b_all (by decide +kernel) (a_cons (d_frz (f_lc (own := [("claim", 2)]) (t := (.nm 2)) rfl sc_is_model.nd (i_any (d_ix ix_sq (dv 0) d_int (fun _ _ => rfl))) (blkOk_by (by kernel_rfl)) (by decide) (fun _ _ _ _ _ => (tn 2 sc_is_model.nd)) (fun _ _ _ _ _ => ts_nil) (fun _ _ _ _ _ => (d_fn F.f38 hr passL rfl rfl (a_cons (dv 1) (a_cons (dv 2) a_nil)))))) a_nil)))))))
theorem okf__law_cell {f : Addr} {fd : FuncData} (G : Glo P w K mg) (F : Fns P w K mg base k cl) (D : FunD K "_law_cell" "_law_cell" (defArgs st__law_cell) (defBody st__law_cell) (defScope st__law_cell) [] [] f fd) : FnOk P w K mg base (L2.CX P w) (k + 1) f fd ["script", "k"] (SpF K mg 2 (fnD 2 (body__law_cell cl))) :=
  fn_okD D sc__law_cell rfl fun f cdv A outer s H E hr => (s_cons (s_if (t_cmp (o_lt) (dv 1) (d_callB (c_len) rfl G.b_len (by decide +kernel) (a_cons (dv 0) a_nil)) (nomark _))
    (s_one (s_ret (d_ix ix_sq (dv 0) (dv 1) (fun _ _ => rfl))))
    s_nil)
    (s_one (s_ret d_int)))
theorem okf__law_digits {f : Addr} {fd : FuncData} (G : Glo P w K mg) (F : Fns P w K mg base k cl) (D : FunD K "_law_digits" "_law_digits" (defArgs st__law_digits) (defBody st__law_digits) (defScope st__law_digits) [] [] f fd) : FnOk P w K mg base (L2.CX P w) (k + 1) f fd ["script", "first", "last"] (SpF K mg 3 (fnD 9 (body__law_digits cl))) :=
  fn_okD D sc__law_digits rfl fun f cdv A outer s H E hr => (s_cons (so 3 sc__law_digits.nd (f_lst a_nil))
    (s_cons (s_for own_fn rfl (i_range2 rfl G.b_range (a_cons (dv 1) (a_cons (dv 2) a_nil))) (gn 4 sc__law_digits.nd)
    (s_cons (ss 5 sc__law_digits.nd (d_fn F.f43 hr pass_fn rfl rfl (a_cons (dv 0) (a_cons (dv 4) a_nil))))
    (s_cons (s_if (t_cmp (o_lt) (dv 5) d_int (nomark _))
    (s_one (ss 5 sc__law_digits.nd (d_op o_sub d_int (d_op o_mul (dv 5) d_int))))
    s_nil)
    (s_one (s_if (t_cmp (o_ge) (dv 5) (d_op o_pow d_int d_int) (nomark _))
    (s_cons (ss 6 sc__law_digits.nd (dv 5))
    (s_one (s_for own_fn rfl (i_range1 rfl G.b_range (a_cons d_int a_nil)) (gn 7 sc__law_digits.nd)
    (s_one (s_if (t_cmp (o_gt) (dv 6) d_int (nomark _))
    (s_cons (s_app (i := 3) rfl (Or.inl rfl) (d_op o_mod (dv 6) d_int))
    (s_one (ss 6 sc__law_digits.nd (d_op o_fdiv (dv 6) d_int))))
    s_nil)))))
    (s_cons (ss 8 sc__law_digits.nd (d_op o_mod (d_op o_add (d_op o_add (d_op o_mul (dv 5) d_int) (d_op o_mul (d_callTy (c_int) rfl G.b_int (by decide +kernel) (a_cons (d_op o_add (dv 4) d_int) a_nil)) d_int)) d_int) d_int))
    (s_one (s_for own_fn rfl (i_range1 rfl G.b_range (a_cons d_int a_nil)) (gn 7 sc__law_digits.nd)
    (s_cons (ss 8 sc__law_digits.nd (d_op o_mod (d_op o_add (d_op o_add (d_op o_mul (dv 8) d_int) (d_op o_mul (dv 7) d_int)) d_int) d_int))
    (s_one (s_app (i := 3) rfl (Or.inl rfl) (d_op o_mod (d_op o_fdiv (dv 8) d_int) d_int))))))))))))
    (s_one (s_ret (dv 3)))))
theorem okf__law_draw {f : Addr} {fd : FuncData} (G : Glo P w K mg) (F : Fns P w K mg base k cl) (D : FunD K "_law_draw" "_law_draw" (defArgs st__law_draw) (defBody st__law_draw) (defScope st__law_draw) [] [] f fd) : FnOk P w K mg base (L2.CX P w) (k + 1) f fd ["box", "m"] (SpF K mg 2 (fnD 4 (body__law_draw cl))) :=
  fn_okD D sc__law_draw rfl fun f cdv A outer s H E hr => (s_cons (s_asg (dv 0) (g_unl rfl (gs_cons (gn 2 sc__law_draw.nd) (gs_cons (gn 3 sc__law_draw.nd) gs_nil))))
    (s_cons (s_setIx (d_op o_add (dv 3) d_int) (dv 0) d_int)
    (s_cons (s_if (t_cmp (o_lt) (dv 3) (d_callB (c_len) rfl G.b_len (by decide +kernel) (a_cons (dv 2) a_nil)) (nomark _))
    (s_one (s_ret (d_op o_mod (d_ix ix_sq (dv 2) (dv 3) (fun _ _ => rfl)) (dv 1))))
    s_nil)
    (s_one (s_ret (d_op o_mod (d_op o_add (d_op o_add (d_op o_add (d_op o_mul (d_op o_mul (dv 3) (dv 3)) d_int) (d_op o_mul (dv 3) d_int)) (d_op o_fdiv (dv 3) d_int)) d_int) (dv 1)))))))
theorem okf__law_pick {f : Addr} {fd : FuncData} (G : Glo P w K mg) (F : Fns P w K mg base k cl) (D : FunD K "_law_pick" "_law_pick" (defArgs st__law_pick) (defBody st__law_pick) (defScope st__law_pick) [] [] f fd) : FnOk P w K mg base (L2.CX P w) (k + 1) f fd ["box", "rows"] (SpF K mg 2 (fnD 2 (body__law_pick cl))) :=
  fn_okD D sc__law_pick rfl fun f cdv A outer s H E hr => (s_one (s_ret (d_ix ix_sq (dv 1) (d_fn F.f45 hr pass_fn rfl rfl (a_cons (dv 0) (a_cons (d_callB (c_len) rfl G.b_len (by decide +kernel) (a_cons (dv 1) a_nil)) a_nil))) (fun _ _ => rfl))))
theorem okf__law_unknowns {f : Addr} {fd : FuncData} (G : Glo P w K mg) (F : Fns P w K mg base k cl) (D : FunD K "_law_unknowns" "_law_unknowns" (defArgs st__law_unknowns) (defBody st__law_unknowns) (defScope st__law_unknowns) [] [] f fd) : FnOk P w K mg base (L2.CX P w) (k + 1) f fd [] (SpF K mg 0 (fnD 2 (body__law_unknowns cl))) :=
  fn_okD D sc__law_unknowns rfl fun f cdv A outer s H E hr => (s_cons (ss 0 sc__law_unknowns.nd (d_tup (a_cons d_str (a_cons d_str a_nil))))
    (s_cons (ss 1 sc__law_unknowns.nd (d_lst (a_cons (d_tup (a_cons d_str (a_cons (d_tup a_nil) (a_cons (dv 0) a_nil)))) (a_cons (d_tup (a_cons d_str (a_cons (d_tup a_nil) (a_cons (dv 0) a_nil)))) (a_cons (d_tup (a_cons d_str (a_cons (d_tup a_nil) (a_cons (dv 0) a_nil)))) (a_cons (d_tup (a_cons d_str (a_cons (d_tup (a_cons (dv 0) a_nil)) (a_cons (dv 0) a_nil)))) (a_cons (d_tup (a_cons d_str (a_cons (d_tup (a_cons (dv 0) (a_cons (dv 0) a_nil))) (a_cons (dv 0) a_nil)))) a_nil)))))))
    (s_cons (ss 1 sc__law_unknowns.nd (d_op o_add (dv 1) (d_lst (a_cons (d_tup (a_cons d_str (a_cons (d_tup a_nil) (a_cons (d_tup (a_cons d_str (a_cons (dv 0) a_nil))) a_nil)))) (a_cons (d_tup (a_cons d_str (a_cons (d_tup a_nil) (a_cons (d_tup (a_cons d_str (a_cons (dv 0) a_nil))) a_nil)))) (a_cons (d_tup (a_cons d_str (a_cons (d_tup (a_cons (d_tup (a_cons d_str (a_cons (dv 0) a_nil))) a_nil)) (a_cons (dv 0) a_nil)))) (a_cons (d_tup (a_cons d_str (a_cons (d_tup (a_cons (dv 0) a_nil)) (a_cons (d_tup (a_cons d_str (a_cons (dv 0) a_nil))) a_nil)))) a_nil)))))))
    (s_one (s_ret (d_op o_add (dv 1) (d_lst (a_cons (d_tup (a_cons d_str (a_cons (d_tup a_nil) (a_cons (d_tup (a_cons d_str (a_cons (dv 0) a_nil))) a_nil)))) (a_cons (d_tup (a_cons d_str (a_cons (d_tup a_nil) (a_cons (d_tup (a_cons d_str (a_cons (dv 0) a_nil))) a_nil)))) (a_cons (d_tup (a_cons d_str (a_cons (d_tup (a_cons (dv 0) a_nil)) (a_cons (d_tup (a_cons d_str (a_cons (dv 0) a_nil))) a_nil)))) (a_cons (d_tup (a_cons d_str (a_cons (d_tup (a_cons (d_tup (a_cons d_str (a_cons (dv 0) a_nil))) a_nil)) (a_cons (dv 0) a_nil)))) a_nil)))))))))))
theorem okf__law_term {f : Addr} {fd : FuncData} (G : Glo P w K mg) (F : Fns P w K mg base k cl) (D : FunD K "_law_term" "_law_term" (defArgs st__law_term) (defBody st__law_term) (defScope st__law_term) [] [] f fd) : FnOk P w K mg base (L2.CX P w) (k + 1) f fd ["box", "rows", "sort", "deep"] (SpF K mg 4 (fnD 12 (body__law_term cl))) :=
  fn_okD D sc__law_term rfl fun f cdv A outer s H E hr => (s_cons (s_lc (i := 4) (own := [("row", 10)]) (t := (.nm 10)) rfl sc__law_term.nd rfl rfl (sw_true rfl rfl rfl (by decide +kernel)) (i_any (dv 1)) (blkOk_by (by kernel_rfl)) (by decide) (fun _ _ _ _ _ => (tn 10 sc__law_term.nd)) (fun _ _ _ _ _ => (ts_one (w_pt (w_and (t_cmp (o_eq (hu64 hr)) (d_ix ix_sq (dv 10) d_int (fun _ _ => rfl)) (dv 2) (nomark _)) (w_and1 (w_pt (w_or (t_cmp (o_eq (hu64 hr)) (d_ix ix_sq (dv 10) d_int (fun _ _ => rfl)) (d_tup a_nil) (nomark _)) (w_or1 (t_cmp (o_gt) (dv 3) d_int (nomark _)))))))))) (fun _ _ _ _ _ => (dv 10)) (fun _ _ _ => dF_set))
    (s_cons (ss 5 sc__law_term.nd (d_fn F.f45 hr pass_fn rfl rfl (a_cons (dv 0) (a_cons d_int a_nil))))
    (s_cons (s_if (w_pt (w_and (t_cmp (o_gt) (dv 3) d_int (nomark _)) (w_and (t_cmp (o_eq (hu64 hr)) (d_ix ix_sq (dv 2) d_int (fun _ _ => rfl)) d_str (nomark _)) (w_and1 (t_cmp (o_lt) (dv 5) d_int (nomark _))))))
    (s_one (s_ret (d_tup (a_cons d_str (a_cons (d_fn F.f48 hr pass_fn rfl rfl (a_cons (dv 0) (a_cons (dv 1) (a_cons (d_ix ix_sq (dv 2) d_int (fun _ _ => rfl)) (a_cons (d_op o_sub (dv 3) d_int) a_nil))))) (a_cons (d_fn F.f48 hr pass_fn rfl rfl (a_cons (dv 0) (a_cons (dv 1) (a_cons (dv 2) (a_cons (d_op o_sub (dv 3) d_int) a_nil))))) a_nil))))))
    s_nil)
    (s_cons (s_if (w_pt (w_and (t_cmp (o_gt) (dv 3) d_int (nomark _)) (w_and (t_cmp (o_eq (hu64 hr)) (d_ix ix_sq (dv 2) d_int (fun _ _ => rfl)) d_str (nomark _)) (w_and1 (t_cmp (o_lt) (dv 5) d_int (nomark _))))))
    (s_cons (ss 9 sc__law_term.nd (d_fn F.f46 hr pass_fn rfl rfl (a_cons (dv 0) (a_cons (d_lst (a_cons d_str (a_cons d_str (a_cons d_str (a_cons d_str a_nil))))) a_nil))))
    (s_cons (s_if (t_cmp (o_eq (hu64 hr)) (dv 9) d_str (nomark _))
    (s_one (s_ret (d_tup (a_cons d_str (a_cons (d_fn F.f48 hr pass_fn rfl rfl (a_cons (dv 0) (a_cons (dv 1) (a_cons (d_ix ix_sq (dv 2) d_int (fun _ _ => rfl)) (a_cons (d_op o_sub (dv 3) d_int) a_nil))))) a_nil)))))
    s_nil)
    (s_one (s_ret (d_tup (a_cons (dv 9) (a_cons (d_fn F.f48 hr pass_fn rfl rfl (a_cons (dv 0) (a_cons (dv 1) (a_cons (dv 2) (a_cons (d_op o_sub (dv 3) d_int) a_nil))))) (a_cons (d_fn F.f48 hr pass_fn rfl rfl (a_cons (dv 0) (a_cons (dv 1) (a_cons (dv 2) (a_cons (d_op o_sub (dv 3) d_int) a_nil))))) a_nil))))))))
    s_nil)
    (s_cons (s_if (w_pt (w_or (t_cmp (o_eq (hu64 hr)) (dv 4) (d_lst a_nil) (nomark _)) (w_or1 (w_pt (w_and (t_cmp (o_eq (hu64 hr)) (dv 5) d_int (nomark _)) (w_and1 (t_cmp (o_eq (hu64 hr)) (d_ix ix_sq (dv 2) d_int (fun _ _ => rfl)) d_str (nomark _))))))))
    (s_one (s_ret (d_if (t_cmp (o_eq (hu64 hr)) (d_ix ix_sq (dv 2) d_int (fun _ _ => rfl)) d_str (nomark _)) (d_tup (a_cons d_str (a_cons (d_ix ix_sq (dv 2) d_int (fun _ _ => rfl)) a_nil))) (d_tup (a_cons d_str (a_cons (d_ix ix_sq (dv 2) d_int (fun _ _ => rfl)) a_nil))))))
    s_nil)
    (s_cons (s_asg (d_fn F.f46 hr pass_fn rfl rfl (a_cons (dv 0) (a_cons (dv 4) a_nil))) (g_tup rfl (gs_cons (gn 6 sc__law_term.nd) (gs_cons (gn 7 sc__law_term.nd) (gs_cons (gn 8 sc__law_term.nd) gs_nil)))))
    (s_one (s_ret (d_tup (a_cons d_str (a_cons (dv 6) (a_cons (d_callTy (c_tuple) rfl G.b_tuple (by decide +kernel) (a_cons (d_frz (f_lc (own := [("place", 11)]) (t := (.nm 11)) rfl sc__law_term.nd (i_any (dv 7)) (blkOk_by (by kernel_rfl)) (by decide) (fun _ _ _ _ _ => (tn 11 sc__law_term.nd)) (fun _ _ _ _ _ => ts_nil) (fun _ _ _ _ _ => (d_fn F.f48 hr passL rfl rfl (a_cons (dv 0) (a_cons (dv 1) (a_cons (dv 11) (a_cons (d_op o_sub (dv 3) d_int) a_nil)))))))) a_nil)) a_nil))))))))))))
theorem okf__law_atom {f : Addr} {fd : FuncData} (G : Glo P w K mg) (F : Fns P w K mg base k cl) (D : FunD K "_law_atom" "_law_atom" (defArgs st__law_atom) (defBody st__law_atom) (defScope st__law_atom) [] [] f fd) : FnOk P w K mg base (L2.CX P w) (k + 1) f fd ["box", "rows", "deep"] (SpF K mg 3 (fnD 7 (body__law_atom cl))) :=
  fn_okD D sc__law_atom rfl fun f cdv A outer s H E hr => (s_cons (ss 3 sc__law_atom.nd (d_tup (a_cons d_str (a_cons d_str a_nil))))
    (s_cons (s_lc (i := 4) (own := [("sort", 5)]) (t := (.nm 5)) rfl sc__law_atom.nd rfl rfl (sw_true rfl rfl rfl (by decide +kernel)) (i_any (d_lst (a_cons (dv 3) (a_cons (dv 3) (a_cons (d_tup (a_cons d_str (a_cons (dv 3) a_nil))) (a_cons (d_tup (a_cons d_str (a_cons (dv 3) a_nil))) a_nil)))))) (blkOk_by (by kernel_rfl)) (by decide) (fun _ _ _ _ _ => (tn 5 sc__law_atom.nd)) (fun _ _ _ _ _ => (ts_one (t_cmp (o_ne (hu64 hr)) (d_frz (f_lc (own := [("row", 6)]) (t := (.nm 6)) rfl sc__law_atom.nd (i_any (dv 1)) (blkOk_by (by kernel_rfl)) (by decide) (fun _ _ _ _ _ => (tn 6 sc__law_atom.nd)) (fun _ _ _ _ _ => (ts_one (w_pt (w_and (t_cmp (o_eq (hu64 hr)) (d_ix ix_sq (dv 6) d_int (fun _ _ => rfl)) (dv 5) (nomark _)) (w_and1 (t_cmp (o_eq (hu64 hr)) (d_ix ix_sq (dv 6) d_int (fun _ _ => rfl)) (d_tup a_nil) (nomark _))))))) (fun _ _ _ _ _ => (dv 6)))) (d_lst a_nil) (nomark _)))) (fun _ _ _ _ _ => (dv 5)) (fun _ _ _ => dF_set))
    (s_cons (ss 5 sc__law_atom.nd (d_fn F.f46 hr pass_fn rfl rfl (a_cons (dv 0) (a_cons (dv 4) a_nil))))
    (s_cons (s_if (w_pt (w_and (t_cmp (o_eq (hu64 hr)) (d_ix ix_sq (dv 5) d_int (fun _ _ => rfl)) d_str (nomark _)) (w_and1 (t_cmp (o_gt) (d_fn F.f45 hr pass_fn rfl rfl (a_cons (dv 0) (a_cons d_int a_nil))) d_int (nomark _)))))
    (s_one (s_ret (d_tup (a_cons d_str (a_cons (d_fn F.f48 hr pass_fn rfl rfl (a_cons (dv 0) (a_cons (dv 1) (a_cons (dv 3) (a_cons (dv 2) a_nil))))) (a_cons (d_fn F.f48 hr pass_fn rfl rfl (a_cons (dv 0) (a_cons (dv 1) (a_cons (dv 5) (a_cons (dv 2) a_nil))))) a_nil))))))
    s_nil)
    (s_one (s_ret (d_tup (a_cons d_str (a_cons (d_fn F.f48 hr pass_fn rfl rfl (a_cons (dv 0) (a_cons (dv 1) (a_cons (dv 5) (a_cons (dv 2) a_nil))))) (a_cons (d_fn F.f48 hr pass_fn rfl rfl (a_cons (dv 0) (a_cons (dv 1) (a_cons (dv 5) (a_cons (dv 2) a_nil))))) a_nil))))))))))
theorem okf__law_claim {f : Addr} {fd : FuncData} (G : Glo P w K mg) (F : Fns P w K mg base k cl) (D : FunD K "_law_claim" "_law_claim" (defArgs st__law_claim) (defBody st__law_claim) (defScope st__law_claim) [] [] f fd) : FnOk P w K mg base (L2.CX P w) (k + 1) f fd ["box", "rows", "deep", "size"] (SpF K mg 4 (fnD 6 (body__law_claim cl))) :=
  fn_okD D sc__law_claim rfl fun f cdv A outer s H E hr => (s_cons (ss 4 sc__law_claim.nd (d_if (t_cmp (o_gt) (dv 3) d_int (nomark _)) (d_fn F.f45 hr pass_fn rfl rfl (a_cons (dv 0) (a_cons d_int a_nil))) d_int))
    (s_cons (s_if (t_cmp (o_lt) (dv 4) d_int (nomark _))
    (s_one (s_ret (d_fn F.f49 hr pass_fn rfl rfl (a_cons (dv 0) (a_cons (dv 1) (a_cons (dv 2) a_nil))))))
    s_nil)
    (s_cons (s_if (t_cmp (o_eq (hu64 hr)) (dv 4) d_int (nomark _))
    (s_one (s_ret (d_tup (a_cons d_str (a_cons (d_fn F.f50 hr pass_fn rfl rfl (a_cons (dv 0) (a_cons (dv 1) (a_cons (dv 2) (a_cons (d_op o_sub (dv 3) d_int) a_nil))))) a_nil)))))
    s_nil)
    (s_cons (ss 5 sc__law_claim.nd (d_ix ix_sq (d_lst (a_cons d_str (a_cons d_str (a_cons d_str (a_cons d_str a_nil))))) (d_op o_sub (dv 4) d_int) (fun _ _ => rfl)))
    (s_one (s_ret (d_tup (a_cons (dv 5) (a_cons (d_fn F.f50 hr pass_fn rfl rfl (a_cons (dv 0) (a_cons (dv 1) (a_cons (dv 2) (a_cons (d_op o_sub (dv 3) d_int) a_nil))))) (a_cons (d_fn F.f50 hr pass_fn rfl rfl (a_cons (dv 0) (a_cons (dv 1) (a_cons (dv 2) (a_cons (d_op o_sub (dv 3) d_int) a_nil))))) a_nil))))))))))
theorem okf__law_some {f : Addr} {fd : FuncData} (G : Glo P w K mg) (F : Fns P w K mg base k cl) (D : FunD K "_law_some" "_law_some" (defArgs st__law_some) (defBody st__law_some) (defScope st__law_some) [] [] f fd) : FnOk P w K mg base (L2.CX P w) (k + 1) f fd ["box"] (SpF K mg 1 (fnD 4 (body__law_some cl))) :=
  fn_okD D sc__law_some rfl fun f cdv A outer s H E hr => (s_cons (ss 1 sc__law_some.nd (d_fn0 F.f47 hr pass_fn rfl))
    (s_cons (ss 2 sc__law_some.nd (d_op o_add (d_lst (a_cons (d_ix ix_sq (dv 1) d_int (fun _ _ => rfl)) a_nil)) (d_frz (f_lc (own := [("row", 3)]) (t := (.nm 3)) rfl sc__law_some.nd (i_any (d_slice (dv 1) (o_sm d_int) (o_sm d_int))) (blkOk_by (by kernel_rfl)) (by decide) (fun _ _ _ _ _ => (tn 3 sc__law_some.nd)) (fun _ _ _ _ _ => (ts_one (t_cmp (o_eq (hu64 hr)) (d_fn F.f45 hr passL rfl rfl (a_cons (dv 0) (a_cons d_int a_nil))) d_int (nomark _)))) (fun _ _ _ _ _ => (dv 3))))))
    (s_cons (s_if (t_cmp (o_eq (hu64 hr)) (d_fn F.f45 hr pass_fn rfl rfl (a_cons (dv 0) (a_cons d_int a_nil))) d_int (nomark _))
    (s_one (ss 2 sc__law_some.nd (d_op o_add (d_op o_add (dv 2) (d_slice (dv 1) (o_sm d_int) (o_sm d_int))) (d_frz (f_lc (own := [("row", 3)]) (t := (.nm 3)) rfl sc__law_some.nd (i_any (d_slice (dv 1) (o_sm d_int) (o_sm d_int))) (blkOk_by (by kernel_rfl)) (by decide) (fun _ _ _ _ _ => (tn 3 sc__law_some.nd)) (fun _ _ _ _ _ => (ts_one (t_cmp (o_eq (hu64 hr)) (d_fn F.f45 hr passL rfl rfl (a_cons (dv 0) (a_cons d_int a_nil))) d_int (nomark _)))) (fun _ _ _ _ _ => (dv 3)))))))
    s_nil)
    (s_cons (s_if (t_cmp (o_eq (hu64 hr)) (d_fn F.f45 hr pass_fn rfl rfl (a_cons (dv 0) (a_cons d_int a_nil))) d_int (nomark _))
    (s_one (ss 2 sc__law_some.nd (d_op o_add (d_op o_add (dv 2) (d_slice (dv 1) (o_sm d_int) (o_sm d_int))) (d_frz (f_lc (own := [("row", 3)]) (t := (.nm 3)) rfl sc__law_some.nd (i_any (d_slice (dv 1) (o_sm d_int) (o_sm d_int))) (blkOk_by (by kernel_rfl)) (by decide) (fun _ _ _ _ _ => (tn 3 sc__law_some.nd)) (fun _ _ _ _ _ => (ts_one (t_cmp (o_eq (hu64 hr)) (d_fn F.f45 hr passL rfl rfl (a_cons (dv 0) (a_cons d_int a_nil))) d_int (nomark _)))) (fun _ _ _ _ _ => (dv 3)))))))
    s_nil)
    (s_one (s_ret (dv 2)))))))
theorem okf__law_made {f : Addr} {fd : FuncData} (G : Glo P w K mg) (F : Fns P w K mg base k cl) (D : FunD K "_law_made" "_law_made" (defArgs st__law_made) (defBody st__law_made) (defScope st__law_made) [] [] f fd) : FnOk P w K mg base (L2.CX P w) (k + 1) f fd ["word", "args"] (SpF K mg 2 (fnD 3 (body__law_made cl))) :=
  fn_okD D sc__law_made rfl fun f cdv A outer s H E hr => (s_cons (s_if (t_cmp (o_in (hu64 hr)) (dv 0) (d_tup (a_cons d_str (a_cons d_str a_nil))) (by rfl))
    (s_one (s_ret (d_tup a_nil)))
    s_nil)
    (s_cons (s_if (t_cmp (o_eq (hu64 hr)) (dv 0) d_str (nomark _))
    (s_one (s_ret (d_op o_add (d_tup (a_cons (d_ix ix_sq (dv 1) d_int (fun _ _ => rfl)) a_nil)) (d_ix ix_sq (dv 1) d_int (fun _ _ => rfl)))))
    s_nil)
    (s_cons (s_if (t_cmp (o_eq (hu64 hr)) (dv 0) d_str (nomark _))
    (s_one (s_ret (d_tup (a_cons (d_ix ix_sq (dv 1) d_int (fun _ _ => rfl)) a_nil))))
    s_nil)
    (s_cons (s_if (t_cmp (o_eq (hu64 hr)) (dv 0) d_str (nomark _))
    (s_one (s_ret (d_callTy (c_tuple) rfl G.b_tuple (by decide +kernel) (a_cons (d_callB (c_sorted2 (hu64 hr) rfl) rfl G.b_sorted (by decide +kernel) (a_cons (d_frz (f_dict G.pw (hu64 hr) rfl rfl G.b_dict (d_frz (f_lc (own := [("one", 2)]) (t := (.nm 2)) rfl sc__law_made.nd (i_any (d_op o_add (d_ix ix_sq (dv 1) d_int (fun _ _ => rfl)) (d_ix ix_sq (dv 1) d_int (fun _ _ => rfl)))) (blkOk_by (by kernel_rfl)) (by decide) (fun _ _ _ _ _ => (tn 2 sc__law_made.nd)) (fun _ _ _ _ _ => ts_nil) (fun _ _ _ _ _ => (d_tup (a_cons (dv 2) (a_cons d_int a_nil)))))))) a_nil)) a_nil))))
    s_nil)
    (s_one (s_ret (d_callTy (c_tuple) rfl G.b_tuple (by decide +kernel) (a_cons (d_frz (f_lc (own := [("one", 2)]) (t := (.nm 2)) rfl sc__law_made.nd (i_any (d_ix ix_sq (dv 1) d_int (fun _ _ => rfl))) (blkOk_by (by kernel_rfl)) (by decide) (fun _ _ _ _ _ => (tn 2 sc__law_made.nd)) (fun _ _ _ _ _ => (ts_one (t_cmp (o_eq (hu64 hr)) (d_cmp (o_in (hu64 hr)) (dv 2) (d_ix ix_sq (dv 1) d_int (fun _ _ => rfl)) (by rfl)) (d_cmp (o_eq (hu64 hr)) (dv 0) d_str (nomark _)) (nomark _)))) (fun _ _ _ _ _ => (dv 2)))) a_nil))))))))
theorem okf__law_worth {f : Addr} {fd : FuncData} (G : Glo P w K mg) (F : Fns P w K mg base k cl) (D : FunD K "_law_worth" "_law_worth" (defArgs st__law_worth) (defBody st__law_worth) (defScope st__law_worth) [] [] f fd) : FnOk P w K mg base (L2.CX P w) (k + 1) f fd ["model", "term"] (SpF K mg 2 (fnD 6 (body__law_worth cl))) :=
  fn_okD D sc__law_worth rfl fun f cdv A outer s H E hr => (s_cons (s_if (t_cmp (o_in (hu64 hr)) (d_ix ix_sq (dv 1) d_int (fun _ _ => rfl)) (d_tup (a_cons d_str (a_cons d_str a_nil))) (by rfl))
    (s_one (s_ret (d_tup a_nil)))
    s_nil)
    (s_cons (ss 2 sc__law_worth.nd (d_callTy (c_tuple) rfl G.b_tuple (by decide +kernel) (a_cons (d_frz (f_lc (own := [("one", 5)]) (t := (.nm 5)) rfl sc__law_worth.nd (i_any (d_if (t_cmp (o_eq (hu64 hr)) (d_ix ix_sq (dv 1) d_int (fun _ _ => rfl)) d_str (nomark _)) (d_ix ix_sq (dv 1) d_int (fun _ _ => rfl)) (d_slice (dv 1) (o_sm d_int) o_no))) (blkOk_by (by kernel_rfl)) (by decide) (fun _ _ _ _ _ => (tn 5 sc__law_worth.nd)) (fun _ _ _ _ _ => ts_nil) (fun _ _ _ _ _ => (d_fn F.f53 hr passL rfl rfl (a_cons (dv 0) (a_cons (dv 5) a_nil)))))) a_nil)))
    (s_cons (s_if (t_cmp (o_ne (hu64 hr)) (d_ix ix_sq (dv 1) d_int (fun _ _ => rfl)) d_str (nomark _))
    (s_one (s_ret (d_fn F.f52 hr pass_fn rfl rfl (a_cons (d_ix ix_sq (dv 1) d_int (fun _ _ => rfl)) (a_cons (dv 2) a_nil)))))
    s_nil)
    (s_cons (s_if (t_cmp (o_eq (hu64 hr)) (dv 2) (d_tup a_nil) (nomark _))
    (s_one (s_ret (d_dget (hu1 hr) (dv 0) (d_ix ix_sq (dv 1) d_int (fun _ _ => rfl)))))
    s_nil)
    (s_cons (s_asg (d_dget (hu1 hr) (dv 0) (d_ix ix_sq (dv 1) d_int (fun _ _ => rfl))) (g_tup rfl (gs_cons (gn 3 sc__law_worth.nd) (gs_cons (gn 4 sc__law_worth.nd) gs_nil))))
    (s_one (s_ret (d_get2' G.pw (hu64 hr) (d_frz (f_dict G.pw (hu64 hr) rfl rfl G.b_dict (dv 3))) (dv 2) (dv 4) ⟨rfl, rfl, rfl, rfl⟩))))))))
theorem okf__law_holds {f : Addr} {fd : FuncData} (G : Glo P w K mg) (F : Fns P w K mg base k cl) (D : FunD K "_law_holds" "_law_holds" (defArgs st__law_holds) (defBody st__law_holds) (defScope st__law_holds) [] [] f fd) : FnOk P w K mg base (L2.CX P w) (k + 1) f fd ["model", "claim"] (SpF K mg 2 (fnD 5 (body__law_holds cl))) :=
  fn_okD D sc__law_holds rfl fun f cdv A outer s H E hr => (s_cons (ss 2 sc__law_holds.nd (d_ix ix_sq (dv 1) d_int (fun _ _ => rfl)))
    (s_cons (s_if (t_cmp (o_in (hu64 hr)) (dv 2) (d_tup (a_cons d_str (a_cons d_str a_nil))) (by rfl))
    (s_one (s_ret (d_cmp (o_eq (hu64 hr)) (dv 2) d_str (nomark _))))
    s_nil)
    (s_cons (s_if (t_cmp (o_eq (hu64 hr)) (dv 2) d_str (nomark _))
    (s_one (s_ret (d_cmp (o_eq (hu64 hr)) (d_fn F.f53 hr pass_fn rfl rfl (a_cons (dv 0) (a_cons (d_ix ix_sq (dv 1) d_int (fun _ _ => rfl)) a_nil))) (d_fn F.f53 hr pass_fn rfl rfl (a_cons (dv 0) (a_cons (d_ix ix_sq (dv 1) d_int (fun _ _ => rfl)) a_nil))) (nomark _))))
    s_nil)
    (s_cons (s_if (t_cmp (o_eq (hu64 hr)) (dv 2) d_str (nomark _))
    (s_one (s_ret (d_cmp (o_in (hu64 hr)) (d_fn F.f53 hr pass_fn rfl rfl (a_cons (dv 0) (a_cons (d_ix ix_sq (dv 1) d_int (fun _ _ => rfl)) a_nil))) (d_fn F.f53 hr pass_fn rfl rfl (a_cons (dv 0) (a_cons (d_ix ix_sq (dv 1) d_int (fun _ _ => rfl)) a_nil))) (by rfl))))
    s_nil)
    (s_cons (ss 3 sc__law_holds.nd (d_fn F.f54 hr pass_fn rfl rfl (a_cons (dv 0) (a_cons (d_ix ix_sq (dv 1) d_int (fun _ _ => rfl)) a_nil))))
    (s_cons (s_if (t_cmp (o_eq (hu64 hr)) (dv 2) d_str (nomark _))
    (s_one (s_ret (d_not (dv 3))))
    s_nil)
    (s_cons (ss 4 sc__law_holds.nd (d_fn F.f54 hr pass_fn rfl rfl (a_cons (dv 0) (a_cons (d_ix ix_sq (dv 1) d_int (fun _ _ => rfl)) a_nil))))
    (s_cons (s_if (t_cmp (o_eq (hu64 hr)) (dv 2) d_str (nomark _))
    (s_one (s_ret (d_and (dv 3) (d_one (dv 4)))))
    s_nil)
    (s_cons (s_if (t_cmp (o_eq (hu64 hr)) (dv 2) d_str (nomark _))
    (s_one (s_ret (d_or (dv 3) (d_one (dv 4)))))
    s_nil)
    (s_one (s_ret (d_if (t_cmp (o_eq (hu64 hr)) (dv 2) d_str (nomark _)) (d_or (d_not (dv 3)) (d_one (dv 4))) (d_cmp (o_eq (hu64 hr)) (dv 3) (dv 4) (nomark _))))))))))))))
theorem okf__law_value {f : Addr} {fd : FuncData} (G : Glo P w K mg) (F : Fns P w K mg base k cl) (D : FunD K "_law_value" "_law_value" (defArgs st__law_value) (defBody st__law_value) (defScope st__law_value) [] [] f fd) : FnOk P w K mg base (L2.CX P w) (k + 1) f fd ["box", "sort", "many"] (SpF K mg 3 (fnD 6 (body__law_value cl))) :=
  fn_okD D sc__law_value rfl fun f cdv A outer s H E hr => (s_cons (s_if (t_cmp (o_eq (hu64 hr)) (d_ix ix_sq (dv 1) d_int (fun _ _ => rfl)) d_str (nomark _))
    (s_one (s_ret (d_fn F.f45 hr pass_fn rfl rfl (a_cons (dv 0) (a_cons (dv 2) a_nil)))))
    s_nil)
    (s_cons (s_lc (i := 3) (own := [("k", 4)]) (t := (.nm 4)) rfl sc__law_value.nd rfl rfl (sw_true rfl rfl rfl (by decide +kernel)) (i_range1 rfl G.b_range (a_cons (d_fn F.f45 hr pass_fn rfl rfl (a_cons (dv 0) (a_cons d_int a_nil))) a_nil)) (blkOk_by (by kernel_rfl)) (by decide) (fun _ _ _ _ _ => (tn 4 sc__law_value.nd)) (fun _ _ _ _ _ => ts_nil) (fun _ _ _ _ _ => (d_fn F.f55 hr passL rfl rfl (a_cons (dv 0) (a_cons (d_ix ix_sq (dv 1) d_int (fun _ _ => rfl)) (a_cons (dv 2) a_nil))))) (fun _ _ _ => dF_set))
    (s_one (s_ret (d_if (t_cmp (o_eq (hu64 hr)) (d_ix ix_sq (dv 1) d_int (fun _ _ => rfl)) d_str (nomark _)) (d_callTy (c_tuple) rfl G.b_tuple (by decide +kernel) (a_cons (dv 3) a_nil)) (d_callTy (c_tuple) rfl G.b_tuple (by decide +kernel) (a_cons (d_callB (c_sorted2 (hu64 hr) rfl) rfl G.b_sorted (by decide +kernel) (a_cons (d_frz (f_dict G.pw (hu64 hr) rfl rfl G.b_dict (d_frz (f_lc (own := [("one", 5)]) (t := (.nm 5)) rfl sc__law_value.nd (i_any (dv 3)) (blkOk_by (by kernel_rfl)) (by decide) (fun _ _ _ _ _ => (tn 5 sc__law_value.nd)) (fun _ _ _ _ _ => ts_nil) (fun _ _ _ _ _ => (d_tup (a_cons (dv 5) (a_cons d_int a_nil)))))))) a_nil)) a_nil)))))))
theorem okf__law_model {f : Addr} {fd : FuncData} (G : Glo P w K mg) (F : Fns P w K mg base k cl) (D : FunD K "_law_model" "_law_model" (defArgs st__law_model) (defBody st__law_model) (defScope st__law_model) [] [] f fd) : FnOk P w K mg base (L2.CX P w) (k + 1) f fd ["box", "rows", "many"] (SpF K mg 3 (fnD 10 (body__law_model cl))) :=
  fn_okD D sc__law_model rfl fun f cdv A outer s H E hr => (s_cons (so 3 sc__law_model.nd f_dct0)
    (s_cons (s_for own_fn rfl (i_any (dv 1)) (g_tup rfl (gs_cons (gn 4 sc__law_model.nd) (gs_cons (gn 5 sc__law_model.nd) (gs_cons (gn 6 sc__law_model.nd) gs_nil))))
    (s_one (s_if (t_cmp (o_eq (hu64 hr)) (dv 5) (d_tup a_nil) (nomark _))
    (s_one (s_dput (i := 3) (hu1 hr) rfl (Or.inl rfl) (dv 4) (d_fn F.f55 hr pass_fn rfl rfl (a_cons (dv 0) (a_cons (dv 6) (a_cons (dv 2) a_nil))))))
    (s_cons (so 7 sc__law_model.nd (f_kdt0 G.pw))
    (s_cons (s_for own_fn rfl (i_range1 rfl G.b_range (a_cons (d_fn F.f45 hr pass_fn rfl rfl (a_cons (dv 0) (a_cons d_int a_nil))) a_nil)) (gn 8 sc__law_model.nd)
    (s_one (s_kput (i := 7) G.pw (hu64 hr) rfl (Or.inl rfl) (d_callTy (c_tuple) rfl G.b_tuple (by decide +kernel) (a_cons (d_frz (f_lc (own := [("place", 9)]) (t := (.nm 9)) rfl sc__law_model.nd (i_any (dv 5)) (blkOk_by (by kernel_rfl)) (by decide) (fun _ _ _ _ _ => (tn 9 sc__law_model.nd)) (fun _ _ _ _ _ => ts_nil) (fun _ _ _ _ _ => (d_fn F.f55 hr passL rfl rfl (a_cons (dv 0) (a_cons (dv 9) (a_cons (dv 2) a_nil))))))) a_nil)) (d_fn F.f55 hr pass_fn rfl rfl (a_cons (dv 0) (a_cons (dv 6) (a_cons (dv 2) a_nil)))))))
    (s_one (s_dput (i := 3) (hu1 hr) rfl (Or.inl rfl) (dv 4) (d_tup (a_cons (d_callTy c_tupleP rfl G.b_tuple (by decide +kernel) (a_cons (d_sortIt G.pw (hu64 hr) rfl rfl G.b_sorted (dv 7)) a_nil)) (a_cons (d_fn F.f55 hr pass_fn rfl rfl (a_cons (dv 0) (a_cons (dv 6) (a_cons (dv 2) a_nil)))) a_nil))))))))))
    (s_one (s_ret (dv 3)))))
theorem okf__law_like {f : Addr} {fd : FuncData} (G : Glo P w K mg) (F : Fns P w K mg base k cl) (D : FunD K "_law_like" "_law_like" (defArgs st__law_like) (defBody st__law_like) (defScope st__law_like) [] [] f fd) : FnOk P w K mg base (L2.CX P w) (k + 1) f fd ["told", "due"] (SpF K mg 2 (fnD 3 (body__law_like cl))) :=
  fn_okD D sc__law_like rfl fun f cdv A outer s H E hr => (s_cons (s_if (t_truth (d_isi .tuple (dv 1) rfl G.b_isinstance rfl G.b_tuple (by decide +kernel) (by decide) (by decide)))
    (s_one (s_ret (d_and (d_isi .tuple (dv 0) rfl G.b_isinstance rfl G.b_tuple (by decide +kernel) (by decide) (by decide)) (d_and (d_cmp (o_eq (hu64 hr)) (d_callB (c_len) rfl G.b_len (by decide +kernel) (a_cons (dv 0) a_nil)) (d_callB (c_len) rfl G.b_len (by decide +kernel) (a_cons (dv 1) a_nil)) (nomark _)) (d_one (d_cmp (o_eq (hu64 hr)) (d_frz (f_lc (own := [("k", 2)]) (t := (.nm 2)) rfl sc__law_like.nd (i_range1 rfl G.b_range (a_cons (d_callB (c_len) rfl G.b_len (by decide +kernel) (a_cons (dv 1) a_nil)) a_nil)) (blkOk_by (by kernel_rfl)) (by decide) (fun _ _ _ _ _ => (tn 2 sc__law_like.nd)) (fun _ _ _ _ _ => (ts_one (t_not (t_truth (d_fn F.f57 hr passL rfl rfl (a_cons (d_ix ix_sq (dv 0) (dv 2) (fun _ _ => rfl)) (a_cons (d_ix ix_sq (dv 1) (dv 2) (fun _ _ => rfl)) a_nil))))))) (fun _ _ _ _ _ => d_int))) (d_lst a_nil) (nomark _)))))))
    s_nil)
    (s_cons (s_if (t_cmp (o_is) (dv 1) d_bl (nomark _))
    (s_one (s_ret (d_cmp (o_is) (dv 0) d_bl (nomark _))))
    s_nil)
    (s_cons (s_if (t_cmp (o_is) (dv 1) d_bl (nomark _))
    (s_one (s_ret (d_cmp (o_is) (dv 0) d_bl (nomark _))))
    s_nil)
    (s_cons (s_if (t_truth (d_isi .str (dv 1) rfl G.b_isinstance rfl G.b_str (by decide +kernel) (by decide) (by decide)))
    (s_one (s_ret (d_and (d_isi .str (dv 0) rfl G.b_isinstance rfl G.b_str (by decide +kernel) (by decide) (by decide)) (d_one (d_cmp (o_eq (hu64 hr)) (dv 0) (dv 1) (nomark _))))))
    s_nil)
    (s_one (s_ret (d_and (d_isi .int (dv 0) rfl G.b_isinstance rfl G.b_int (by decide +kernel) (by decide) (by decide)) (d_and (d_not (d_isi .bool (dv 0) rfl G.b_isinstance rfl G.b_bool (by decide +kernel) (by decide) (by decide))) (d_one (d_cmp (o_eq (hu64 hr)) (dv 0) (dv 1) (nomark _)))))))))))
theorem okf__law_told_value {f : Addr} {fd : FuncData} (G : Glo P w K mg) (F : Fns P w K mg base k cl) (D : FunD K "_law_told_value" "_law_told_value" (defArgs st__law_told_value) (defBody st__law_told_value) (defScope st__law_told_value) [] [] f fd) : FnOk P w K mg base (L2.CX P w) (k + 1) f fd ["text", "model", "term"] (SpF K mg 3 (fnD 4 (body__law_told_value cl))) :=
  fn_okD D sc__law_told_value rfl fun f cdv A outer s H E hr => (s_one (s_try2 (i := 3) G.x_BadPart G.x_Refused G.ap_BadPart_Refused F.f40 hr (by rfl) (by rfl) (by rfl) (by rfl) (by rfl) (by rfl) sc__law_told_value.nd (by rfl) (by rfl) takes_fn (fun _ _ => (a_cons (dv 0) (a_cons (dv 1) (a_cons (dv 2) a_nil)))) (fun C a dd oe pn fl hxf hno hz hf => (x_tup (xa_cons (x_plain d_str) (xa_cons (x_fld hxf hno hz hf rfl (Or.inl rfl)) xa_nil)))) (fun C a dd oe pn fl hxf hno hz hf => (x_tup (xa_cons (x_plain d_str) (xa_cons (x_fld hxf hno hz hf rfl (Or.inl rfl)) xa_nil))))))
theorem okf__law_told_truth {f : Addr} {fd : FuncData} (G : Glo P w K mg) (F : Fns P w K mg base k cl) (D : FunD K "_law_told_truth" "_law_told_truth" (defArgs st__law_told_truth) (defBody st__law_told_truth) (defScope st__law_told_truth) [] [] f fd) : FnOk P w K mg base (L2.CX P w) (k + 1) f fd ["text", "model", "claim"] (SpF K mg 3 (fnD 4 (body__law_told_truth cl))) :=
  fn_okD D sc__law_told_truth rfl fun f cdv A outer s H E hr => (s_one (s_try2 (i := 3) G.x_BadPart G.x_Refused G.ap_BadPart_Refused F.f41 hr (by rfl) (by rfl) (by rfl) (by rfl) (by rfl) (by rfl) sc__law_told_truth.nd (by rfl) (by rfl) takes_fn (fun _ _ => (a_cons (dv 0) (a_cons (dv 1) (a_cons (dv 2) a_nil)))) (fun C a dd oe pn fl hxf hno hz hf => (x_tup (xa_cons (x_plain d_str) (xa_cons (x_fld hxf hno hz hf rfl (Or.inl rfl)) xa_nil)))) (fun C a dd oe pn fl hxf hno hz hf => (x_tup (xa_cons (x_plain d_str) (xa_cons (x_fld hxf hno hz hf rfl (Or.inl rfl)) xa_nil))))))
theorem okf__law_with {f : Addr} {fd : FuncData} (G : Glo P w K mg) (F : Fns P w K mg base k cl) (D : FunD K "_law_with" "_law_with" (defArgs st__law_with) (defBody st__law_with) (defScope st__law_with) [] [] f fd) : FnOk P w K mg base (L2.CX P w) (k + 1) f fd ["model", "name", "value"] (SpF K mg 3 (fnD 4 (body__law_with cl))) :=
  fn_okD D sc__law_with rfl fun f cdv A outer s H E hr => (s_cons (so 3 sc__law_with.nd (f_dict G.pw (hu64 hr) rfl rfl G.b_dict (dv 0)))
    (s_cons (s_dput (i := 3) (hu1 hr) rfl (Or.inl rfl) (dv 1) (dv 2))
    (s_one (s_ret (dv 3)))))
theorem okf__law_wrong {f : Addr} {fd : FuncData} (G : Glo P w K mg) (F : Fns P w K mg base k cl) (D : FunD K "_law_wrong" "_law_wrong" (defArgs st__law_wrong) (defBody st__law_wrong) (defScope st__law_wrong) [] [] f fd) : FnOk P w K mg base (L2.CX P w) (k + 1) f fd ["model"] (SpF K mg 1 (fnD 3 (body__law_wrong cl))) :=
  fn_okD D sc__law_wrong rfl fun f cdv A outer s H E hr => (s_cons (ss 1 sc__law_wrong.nd (d_lst (a_cons d_non (a_cons (d_tup a_nil) (a_cons d_int (a_cons d_str (a_cons (d_lst (a_cons (dv 0) a_nil)) (a_cons (d_frz f_dct0) (a_cons (d_fn F.f60 hr pass_fn rfl rfl (a_cons (dv 0) (a_cons d_str (a_cons d_int a_nil)))) (a_cons (d_fn F.f60 hr pass_fn rfl rfl (a_cons (dv 0) (a_cons d_str (a_cons d_bl a_nil)))) (a_cons (d_fn F.f60 hr pass_fn rfl rfl (a_cons (dv 0) (a_cons d_str (a_cons (d_op o_sub d_int d_int) a_nil)))) (a_cons (d_fn F.f60 hr pass_fn rfl rfl (a_cons (dv 0) (a_cons d_str (a_cons d_str a_nil)))) a_nil))))))))))))
    (s_cons (ss 1 sc__law_wrong.nd (d_op o_add (dv 1) (d_lst (a_cons (d_fn F.f60 hr pass_fn rfl rfl (a_cons (dv 0) (a_cons d_str (a_cons d_non a_nil)))) (a_cons (d_fn F.f60 hr pass_fn rfl rfl (a_cons (dv 0) (a_cons d_str (a_cons (d_tup (a_cons d_int a_nil)) a_nil)))) (a_cons (d_frz (f_dict G.pw (hu64 hr) rfl rfl G.b_dict (d_frz (f_lc (own := [("name", 2)]) (t := (.nm 2)) rfl sc__law_wrong.nd (i_keys (dv 0)) (blkOk_by (by kernel_rfl)) (by decide) (fun _ _ _ _ _ => (tn 2 sc__law_wrong.nd)) (fun _ _ _ _ _ => (ts_one (t_cmp (o_ne (hu64 hr)) (dv 2) d_str (nomark _)))) (fun _ _ _ _ _ => (d_tup (a_cons (dv 2) (a_cons (d_dget (hu1 hr) (dv 0) (dv 2)) a_nil)))))))) a_nil))))))
    (s_cons (s_if (t_cmp (o_in (hu64 hr)) d_str (dv 0) (by rfl))
    (s_one (ss 1 sc__law_wrong.nd (d_op o_add (dv 1) (d_lst (a_cons (d_fn F.f60 hr pass_fn rfl rfl (a_cons (dv 0) (a_cons d_str (a_cons (d_tup (a_cons d_int (a_cons d_int a_nil))) a_nil)))) (a_cons (d_fn F.f60 hr pass_fn rfl rfl (a_cons (dv 0) (a_cons d_str (a_cons (d_tup (a_cons d_int (a_cons d_int a_nil))) a_nil)))) (a_cons (d_fn F.f60 hr pass_fn rfl rfl (a_cons (dv 0) (a_cons d_str (a_cons (d_lst (a_cons d_int a_nil)) a_nil)))) (a_cons (d_fn F.f60 hr pass_fn rfl rfl (a_cons (dv 0) (a_cons d_str (a_cons (d_tup (a_cons d_bl a_nil)) a_nil)))) (a_cons (d_fn F.f60 hr pass_fn rfl rfl (a_cons (dv 0) (a_cons d_str (a_cons d_int a_nil)))) a_nil)))))))))
    s_nil)
    (s_cons (s_if (t_cmp (o_in (hu64 hr)) d_str (dv 0) (by rfl))
    (s_one (ss 1 sc__law_wrong.nd (d_op o_add (dv 1) (d_lst (a_cons (d_fn F.f60 hr pass_fn rfl rfl (a_cons (dv 0) (a_cons d_str (a_cons (d_tup (a_cons (d_tup (a_cons d_int a_nil)) a_nil)) a_nil)))) (a_cons (d_fn F.f60 hr pass_fn rfl rfl (a_cons (dv 0) (a_cons d_str (a_cons (d_lst (a_cons d_int a_nil)) a_nil)))) (a_cons (d_fn F.f60 hr pass_fn rfl rfl (a_cons (dv 0) (a_cons d_str (a_cons (d_tup (a_cons d_int (a_cons (d_op o_sub d_int d_int) a_nil))) a_nil)))) a_nil)))))))
    s_nil)
    (s_cons (s_if (t_cmp (o_in (hu64 hr)) d_str (dv 0) (by rfl))
    (s_cons (ss 1 sc__law_wrong.nd (d_op o_add (dv 1) (d_lst (a_cons (d_fn F.f60 hr pass_fn rfl rfl (a_cons (dv 0) (a_cons d_str (a_cons d_int a_nil)))) (a_cons (d_fn F.f60 hr pass_fn rfl rfl (a_cons (dv 0) (a_cons d_str (a_cons (d_tup (a_cons (d_tup (a_cons (d_tup (a_cons (d_tup (a_cons d_int a_nil)) (a_cons d_int a_nil))) (a_cons (d_tup (a_cons (d_tup (a_cons d_int a_nil)) (a_cons d_int a_nil))) a_nil))) (a_cons d_int a_nil))) a_nil)))) (a_cons (d_fn F.f60 hr pass_fn rfl rfl (a_cons (dv 0) (a_cons d_str (a_cons (d_tup (a_cons (d_tup (a_cons (d_tup (a_cons (d_tup (a_cons d_int a_nil)) (a_cons d_int a_nil))) (a_cons (d_tup (a_cons (d_tup (a_cons d_int a_nil)) (a_cons d_int a_nil))) a_nil))) (a_cons d_int a_nil))) a_nil)))) a_nil))))))
    (s_one (ss 1 sc__law_wrong.nd (d_op o_add (dv 1) (d_lst (a_cons (d_fn F.f60 hr pass_fn rfl rfl (a_cons (dv 0) (a_cons d_str (a_cons (d_tup (a_cons (d_tup (a_cons (d_tup (a_cons (d_tup (a_cons d_int (a_cons d_int a_nil))) (a_cons d_int a_nil))) a_nil)) (a_cons d_int a_nil))) a_nil)))) (a_cons (d_fn F.f60 hr pass_fn rfl rfl (a_cons (dv 0) (a_cons d_str (a_cons (d_tup (a_cons (d_tup (a_cons (d_tup (a_cons d_int (a_cons d_int a_nil))) a_nil)) (a_cons d_int a_nil))) a_nil)))) (a_cons (d_fn F.f60 hr pass_fn rfl rfl (a_cons (dv 0) (a_cons d_str (a_cons (d_tup (a_cons (d_tup (a_cons (d_tup (a_cons (d_tup (a_cons d_int a_nil)) (a_cons d_non a_nil))) a_nil)) (a_cons d_int a_nil))) a_nil)))) (a_cons (d_fn F.f60 hr pass_fn rfl rfl (a_cons (dv 0) (a_cons d_str (a_cons (d_tup (a_cons (d_tup a_nil) a_nil)) a_nil)))) a_nil)))))))))
    s_nil)
    (s_one (s_ret (dv 1))))))))
theorem okf__law_numbers_right {f : Addr} {fd : FuncData} (G : Glo P w K mg) (F : Fns P w K mg base k cl) (D : FunD K "_law_numbers_right" "_law_numbers_right" (defArgs st__law_numbers_right) (defBody st__law_numbers_right) (defScope st__law_numbers_right) [] [] f fd) : FnOk P w K mg base (L2.CX P w) (k + 1) f fd [] (SpF K mg 0 (fnD 11 (body__law_numbers_right cl))) :=
  fn_okD D sc__law_numbers_right rfl fun f cdv A outer s H E hr => (s_cons (s_asg (d_tup (a_cons (d_tup (a_cons d_str (a_cons d_str (a_cons (d_tup a_nil) a_nil)))) (a_cons (d_tup (a_cons d_str (a_cons d_str (a_cons (d_tup a_nil) a_nil)))) a_nil))) (g_tup rfl (gs_cons (gn 0 sc__law_numbers_right.nd) (gs_cons (gn 1 sc__law_numbers_right.nd) gs_nil))))
    (s_cons (ss 2 sc__law_numbers_right.nd (d_tup (a_cons d_str (a_cons (d_tup a_nil) (a_cons (d_tup (a_cons (d_tup (a_cons d_str (a_cons (d_tup a_nil) (a_cons (d_tup (a_cons d_str a_nil)) a_nil)))) (a_cons (d_tup (a_cons d_str (a_cons (d_tup a_nil) (a_cons (d_tup (a_cons d_str (a_cons d_int a_nil))) a_nil)))) a_nil))) (a_cons (d_tup (a_cons (d_tup (a_cons d_str (a_cons (dv 0) (a_cons (d_tup (a_cons d_str (a_cons d_int (a_cons d_int a_nil)))) a_nil)))) (a_cons (d_tup (a_cons d_str (a_cons (d_tup (a_cons d_str (a_cons (dv 1) (a_cons (d_tup (a_cons d_str (a_cons (d_tup (a_cons d_int (a_cons d_int (a_cons d_int a_nil)))) a_nil))) a_nil)))) a_nil))) a_nil))) a_nil))))))
    (s_cons (ss 3 sc__law_numbers_right.nd (d_frz (f_disp2 (d_tup (a_cons d_int (a_cons d_int a_nil))) (d_tup (a_cons d_int (a_cons d_int (a_cons d_int a_nil)))))))
    (s_cons (ss 4 sc__law_numbers_right.nd (d_lst (a_cons (d_tup (a_cons d_str (a_cons (dv 0) (a_cons (d_tup (a_cons d_str (a_cons (d_neg d_int) (a_cons d_int a_nil)))) a_nil)))) (a_cons (d_tup (a_cons d_str (a_cons (dv 0) (a_cons (d_tup (a_cons d_str (a_cons d_int (a_cons d_int a_nil)))) a_nil)))) (a_cons (d_tup (a_cons d_str (a_cons (dv 0) (a_cons (d_tup (a_cons d_str (a_cons d_int (a_cons d_int a_nil)))) a_nil)))) (a_cons (d_tup (a_cons d_str (a_cons (dv 1) (a_cons (d_tup (a_cons d_str (a_cons (d_tup (a_cons d_int (a_cons d_int (a_cons d_int a_nil)))) a_nil))) a_nil)))) (a_cons (d_tup (a_cons d_str (a_cons (dv 1) a_nil))) (a_cons (d_tup (a_cons d_str (a_cons d_str (a_cons (dv 1) (a_cons (d_tup (a_cons d_str (a_cons (d_tup (a_cons d_int (a_cons d_int (a_cons d_int a_nil)))) a_nil))) a_nil))))) a_nil))))))))
    (s_cons (ss 5 sc__law_numbers_right.nd (d_callTy (c_tuple) rfl G.b_tuple (by decide +kernel) (a_cons (d_op o_add (d_frz (f_lc (own := [("term", 9)]) (t := (.nm 9)) rfl sc__law_numbers_right.nd (i_any (dv 4)) (blkOk_by (by kernel_rfl)) (by decide) (fun _ _ _ _ _ => (tn 9 sc__law_numbers_right.nd)) (fun _ _ _ _ _ => ts_nil) (fun _ _ _ _ _ => (d_fn F.f58 hr passL rfl rfl (a_cons (dv 2) (a_cons (dv 3) (a_cons (dv 9) a_nil))))))) (d_lst (a_cons (d_fn F.f58 hr pass_fn rfl rfl (a_cons (dv 2) (a_cons (dv 3) (a_cons (d_tup (a_cons d_str (a_cons d_str (a_cons (dv 1) (a_cons (d_tup (a_cons d_str (a_cons (d_tup (a_cons d_int (a_cons d_int (a_cons d_int a_nil)))) a_nil))) a_nil))))) a_nil)))) a_nil))) a_nil)))
    (s_cons (s_if (w_pt (w_or (t_not (t_truth (d_fn F.f57 hr pass_fn rfl rfl (a_cons (dv 5) (a_cons (d_tup (a_cons (d_tup (a_cons (d_neg d_int) (a_cons d_int a_nil))) (a_cons (d_tup (a_cons d_int (a_cons d_int a_nil))) (a_cons (d_tup (a_cons d_int (a_cons d_int a_nil))) (a_cons (d_tup (a_cons d_int (a_cons d_int (a_cons d_int a_nil)))) (a_cons (d_tup (a_cons d_int (a_cons d_int (a_cons d_int a_nil)))) (a_cons (d_tup (a_cons d_int (a_cons d_int (a_cons d_int a_nil)))) (a_cons (d_tup (a_cons d_int (a_cons d_int (a_cons d_int a_nil)))) a_nil)))))))) a_nil))))) (w_or1 (t_cmp (o_isn) (d_fn F.f42 hr pass_fn rfl rfl (a_cons (dv 2) (a_cons (dv 3) a_nil))) d_bl (nomark _)))))
    (s_one (s_ret d_bl))
    s_nil)
    (s_cons (ss 6 sc__law_numbers_right.nd (d_lst (a_cons (d_tup (a_cons d_str (a_cons (d_tup (a_cons d_str (a_cons d_int (a_cons d_int a_nil)))) (a_cons (dv 0) a_nil)))) (a_cons (d_tup (a_cons d_str (a_cons (d_tup (a_cons d_str (a_cons d_int (a_cons d_int a_nil)))) (a_cons (dv 0) a_nil)))) (a_cons (d_tup (a_cons d_str (a_cons (d_tup (a_cons d_str (a_cons (d_tup (a_cons d_int (a_cons d_int (a_cons d_int a_nil)))) a_nil))) (a_cons (dv 1) a_nil)))) (a_cons (d_tup (a_cons d_str (a_cons (dv 1) (a_cons (dv 1) a_nil)))) a_nil))))))
    (s_cons (ss 6 sc__law_numbers_right.nd (d_op o_add (dv 6) (d_lst (a_cons (d_tup (a_cons d_str (a_cons (dv 0) (a_cons (d_tup (a_cons d_str (a_cons (d_tup (a_cons d_str (a_cons (dv 0) a_nil))) (a_cons (d_tup (a_cons d_str (a_cons (d_tup (a_cons d_str (a_cons d_int (a_cons d_int a_nil)))) a_nil))) a_nil)))) a_nil)))) (a_cons (d_tup (a_cons d_str (a_cons (d_tup (a_cons d_str (a_cons (dv 0) a_nil))) (a_cons (d_tup (a_cons d_str (a_cons (d_tup (a_cons d_str a_nil)) a_nil))) a_nil)))) a_nil)))))
    (s_cons (s_if (t_not (t_truth (d_fn F.f57 hr pass_fn rfl rfl (a_cons (d_callTy (c_tuple) rfl G.b_tuple (by decide +kernel) (a_cons (d_frz (f_lc (own := [("claim", 10)]) (t := (.nm 10)) rfl sc__law_numbers_right.nd (i_any (dv 6)) (blkOk_by (by kernel_rfl)) (by decide) (fun _ _ _ _ _ => (tn 10 sc__law_numbers_right.nd)) (fun _ _ _ _ _ => ts_nil) (fun _ _ _ _ _ => (d_fn F.f59 hr passL rfl rfl (a_cons (dv 2) (a_cons (dv 3) (a_cons (dv 10) a_nil))))))) a_nil)) (a_cons (d_tup (a_cons d_bl (a_cons d_bl (a_cons d_bl (a_cons d_bl (a_cons d_bl (a_cons d_bl a_nil))))))) a_nil)))))
    (s_one (s_ret d_bl))
    s_nil)
    (s_cons (ss 7 sc__law_numbers_right.nd (d_op o_add (d_frz (f_lc (own := [("one", 8)]) (t := (.nm 8)) rfl sc__law_numbers_right.nd (i_any (d_tup (a_cons (d_tup (a_cons d_int (a_cons d_int a_nil))) (a_cons (d_tup (a_cons d_int (a_cons d_int a_nil))) (a_cons (d_tup (a_cons d_int (a_cons (d_neg d_int) a_nil))) (a_cons d_int (a_cons (d_tup (a_cons d_bl (a_cons d_int a_nil))) a_nil))))))) (blkOk_by (by kernel_rfl)) (by decide) (fun _ _ _ _ _ => (tn 8 sc__law_numbers_right.nd)) (fun _ _ _ _ _ => ts_nil) (fun _ _ _ _ _ => (d_frz (f_disp2 (dv 8) (d_tup (a_cons d_int (a_cons d_int (a_cons d_int a_nil))))))))) (d_frz (f_lc (own := [("one", 8)]) (t := (.nm 8)) rfl sc__law_numbers_right.nd (i_any (d_tup (a_cons (d_tup (a_cons d_int (a_cons d_int a_nil))) (a_cons (d_tup (a_cons d_int (a_cons d_int (a_cons d_int a_nil)))) (a_cons (d_tup (a_cons d_int (a_cons d_int (a_cons d_bl a_nil)))) (a_cons d_int a_nil)))))) (blkOk_by (by kernel_rfl)) (by decide) (fun _ _ _ _ _ => (tn 8 sc__law_numbers_right.nd)) (fun _ _ _ _ _ => ts_nil) (fun _ _ _ _ _ => (d_frz (f_disp2 (d_tup (a_cons d_int (a_cons d_int a_nil))) (dv 8))))))))
    (s_one (s_ret (d_cmp (o_eq (hu64 hr)) (d_frz (f_lc (own := [("one", 8)]) (t := (.nm 8)) rfl sc__law_numbers_right.nd (i_any (dv 7)) (blkOk_by (by kernel_rfl)) (by decide) (fun _ _ _ _ _ => (tn 8 sc__law_numbers_right.nd)) (fun _ _ _ _ _ => (ts_one (t_cmp (o_isn) (d_fn F.f42 hr passL rfl rfl (a_cons (dv 2) (a_cons (dv 8) a_nil))) d_bl (nomark _)))) (fun _ _ _ _ _ => (dv 8)))) (d_lst a_nil) (nomark _))))))))))))))
theorem okf_law {f : Addr} {fd : FuncData} (G : Glo P w K mg) (F : Fns P w K mg base k cl) (D : FunD K "law" "law" (defArgs st_law) (defBody st_law) (defScope st_law) [] [] f fd) : FnOk P w K mg base (L2.CX P w) (k + 1) f fd ["script"] (SpF K mg 1 (fnD 18 (body_law cl))) :=
  fn_okD D sc_law rfl fun f cdv A outer s H E hr => (s_cons (ss 1 sc_law.nd (d_new (f_lst (a_cons (d_fn F.f44 hr pass_fn rfl rfl (a_cons (dv 0) (a_cons d_int (a_cons d_int a_nil)))) (a_cons d_int a_nil)))))
    (s_cons (ss 2 sc_law.nd (d_fn F.f51 hr pass_fn rfl rfl (a_cons (dv 1) a_nil)))
    (s_cons (s_asg (d_tup (a_cons (d_fn F.f56 hr pass_fn rfl rfl (a_cons (dv 1) (a_cons (dv 2) (a_cons d_int a_nil)))) (a_cons (d_tup (a_cons d_str (a_cons d_str a_nil))) a_nil))) (g_tup rfl (gs_cons (gn 3 sc_law.nd) (gs_cons (gn 4 sc_law.nd) gs_nil))))
    (s_cons (ss 5 sc_law.nd (d_callTy (c_tuple) rfl G.b_tuple (by decide +kernel) (a_cons (d_frz (f_lc (own := [("k", 16)]) (t := (.nm 16)) rfl sc_law.nd (i_range1 rfl G.b_range (a_cons d_int a_nil)) (blkOk_by (by kernel_rfl)) (by decide) (fun _ _ _ _ _ => (tn 16 sc_law.nd)) (fun _ _ _ _ _ => ts_nil) (fun _ _ _ _ _ => (d_fn F.f50 hr passL rfl rfl (a_cons (dv 1) (a_cons (dv 2) (a_cons d_int (a_cons d_int a_nil)))))))) a_nil)))
    (s_cons (ss 6 sc_law.nd (d_tup (a_cons d_str (a_cons (d_tup (a_cons d_str a_nil)) (a_cons (d_callTy (c_tuple) rfl G.b_tuple (by decide +kernel) (a_cons (dv 2) a_nil)) (a_cons (dv 5) a_nil))))))
    (s_cons (s_for own_fn rfl (i_any (d_tup (a_cons (dv 4) (a_cons (d_tup (a_cons d_str (a_cons (dv 4) a_nil))) (a_cons (d_tup (a_cons d_str (a_cons (dv 4) a_nil))) a_nil))))) (gn 7 sc_law.nd)
    (s_cons (ss 14 sc_law.nd (d_fn F.f48 hr pass_fn rfl rfl (a_cons (dv 1) (a_cons (dv 2) (a_cons (dv 7) (a_cons d_int a_nil))))))
    (s_one (s_if (t_not (t_truth (d_fn F.f57 hr pass_fn rfl rfl (a_cons (d_fn F.f58 hr pass_fn rfl rfl (a_cons (dv 6) (a_cons (dv 3) (a_cons (dv 14) a_nil)))) (a_cons (d_fn F.f53 hr pass_fn rfl rfl (a_cons (dv 3) (a_cons (dv 14) a_nil))) a_nil)))))
    (s_one (s_ret d_bl))
    s_nil))))
    (s_cons (ss 8 sc_law.nd (d_callTy (c_tuple) rfl G.b_tuple (by decide +kernel) (a_cons (d_frz (f_lc (own := [("claim", 17)]) (t := (.nm 17)) rfl sc_law.nd (i_any (dv 5)) (blkOk_by (by kernel_rfl)) (by decide) (fun _ _ _ _ _ => (tn 17 sc_law.nd)) (fun _ _ _ _ _ => ts_nil) (fun _ _ _ _ _ => (d_fn F.f54 hr passL rfl rfl (a_cons (dv 3) (a_cons (dv 17) a_nil)))))) a_nil)))
    (s_cons (s_if (w_pt (w_or (t_not (t_truth (d_fn F.f57 hr pass_fn rfl rfl (a_cons (d_callTy (c_tuple) rfl G.b_tuple (by decide +kernel) (a_cons (d_frz (f_lc (own := [("claim", 17)]) (t := (.nm 17)) rfl sc_law.nd (i_any (dv 5)) (blkOk_by (by kernel_rfl)) (by decide) (fun _ _ _ _ _ => (tn 17 sc_law.nd)) (fun _ _ _ _ _ => ts_nil) (fun _ _ _ _ _ => (d_fn F.f59 hr passL rfl rfl (a_cons (dv 6) (a_cons (dv 3) (a_cons (dv 17) a_nil))))))) a_nil)) (a_cons (dv 8) a_nil))))) (w_or1 (t_not (t_truth (d_fn F.f57 hr pass_fn rfl rfl (a_cons (d_fn F.f42 hr pass_fn rfl rfl (a_cons (dv 6) (a_cons (dv 3) a_nil))) (a_cons (d_cmp (o_nin (hu64 hr)) d_bl (dv 8) (by rfl)) a_nil))))))))
    (s_one (s_ret d_bl))
    s_nil)
    (s_cons (ss 9 sc_law.nd (d_op o_add (d_slice (dv 6) o_no (o_sm d_int)) (d_tup (a_cons (d_callTy (c_tuple) rfl G.b_tuple (by decide +kernel) (a_cons (d_frz (f_lc (own := [("claim", 17)]) (t := (.nm 17)) rfl sc_law.nd (i_any (dv 5)) (blkOk_by (by kernel_rfl)) (by decide) (fun _ _ _ _ _ => (tn 17 sc_law.nd)) (fun _ _ _ _ _ => ts_nil) (fun _ _ _ _ _ => (d_if (t_truth (d_fn F.f54 hr passL rfl rfl (a_cons (dv 3) (a_cons (dv 17) a_nil)))) (dv 17) (d_tup (a_cons d_str (a_cons (dv 17) a_nil))))))) a_nil)) a_nil))))
    (s_cons (s_if (w_pt (w_or (t_cmp (o_isn) (d_fn F.f42 hr pass_fn rfl rfl (a_cons (dv 9) (a_cons (dv 3) a_nil))) d_bl (nomark _)) (w_or1 (t_not (t_truth (d_fn0 F.f62 hr pass_fn rfl))))))
    (s_one (s_ret d_bl))
    s_nil)
    (s_cons (s_par (i := 10) (j := 11) rfl sc_law.nd rfl rfl (by decide) rfl rfl (a_cons (d_tup (a_cons d_str (a_cons d_str (a_cons (d_tup a_nil) a_nil)))) (a_cons (d_op o_add (d_slice (dv 6) o_no (o_sm d_int)) (d_tup (a_cons (d_tup a_nil) a_nil))) a_nil)) (by rfl))
    (s_cons (s_for own_fn rfl (i_range1 rfl G.b_range (a_cons d_int a_nil)) (gn 12 sc_law.nd)
    (s_cons (ss 15 sc_law.nd (d_fn F.f46 hr pass_fn rfl rfl (a_cons (dv 1) (a_cons (d_fn F.f61 hr pass_fn rfl rfl (a_cons (dv 3) a_nil)) a_nil))))
    (s_one (s_if (w_pt (w_or (t_cmp (o_isn) (d_fn F.f42 hr pass_fn rfl rfl (a_cons (dv 11) (a_cons (dv 15) a_nil))) d_bl (nomark _)) (w_or1 (t_not (t_truth (d_fn F.f57 hr pass_fn rfl rfl (a_cons (d_fn F.f58 hr pass_fn rfl rfl (a_cons (dv 11) (a_cons (dv 15) (a_cons (dv 10) a_nil)))) (a_cons (d_tup (a_cons d_str (a_cons d_str a_nil))) a_nil))))))))
    (s_one (s_ret d_bl))
    s_nil))))
    (s_cons (s_if (t_not (t_truth (d_fn F.f57 hr pass_fn rfl rfl (a_cons (d_tup (a_cons (d_fn F.f58 hr pass_fn rfl rfl (a_cons (dv 6) (a_cons (dv 3) (a_cons (d_tup (a_cons d_str (a_cons (dv 10) (a_cons (dv 10) a_nil)))) a_nil)))) (a_cons (d_fn F.f59 hr pass_fn rfl rfl (a_cons (dv 6) (a_cons (dv 3) (a_cons (d_tup (a_cons d_str (a_cons (dv 10) (a_cons (dv 10) a_nil)))) a_nil)))) a_nil))) (a_cons (d_tup (a_cons (d_tup (a_cons d_str (a_cons d_str a_nil))) (a_cons (d_tup (a_cons d_str (a_cons d_str a_nil))) a_nil))) a_nil)))))
    (s_one (s_ret d_bl))
    s_nil)
    (s_cons (ss 13 sc_law.nd (d_tup (a_cons (d_fn F.f59 hr pass_fn rfl rfl (a_cons (d_slice (dv 6) o_no (o_sm d_int)) (a_cons (dv 3) (a_cons (d_tup (a_cons d_str a_nil)) a_nil)))) (a_cons (d_fn F.f59 hr pass_fn rfl rfl (a_cons (dv 11) (a_cons (d_frz f_dct0) (a_cons (d_tup (a_cons d_str a_nil)) a_nil)))) a_nil))))
    (s_one (s_ret (d_fn F.f57 hr pass_fn rfl rfl (a_cons (dv 13) (a_cons (d_tup (a_cons (d_tup (a_cons d_str (a_cons d_str a_nil))) (a_cons (d_tup (a_cons d_str (a_cons d_str a_nil))) a_nil))) a_nil)))))))))))))))))))
structure Head (K : KF) (mg : Str → Option Value) : Prop where
  d0 : DefOk K mg "is_integer" st_is_integer ["thing"]
  d1 : DefOk K mg "is_name" st_is_name ["thing"]
  d2 : DefOk K mg "is_form" st_is_form ["thing", "word", "many"]
  d3 : DefOk K mg "is_sort" st_is_sort ["shape", "things"]
  d4 : DefOk K mg "inmost" st_inmost ["sort"]
  d5 : DefOk K mg "is_place" st_is_place ["shape", "things"]
  d6 : DefOk K mg "is_shallow" st_is_shallow ["thing"]
  d7 : DefOk K mg "is_numeral" st_is_numeral ["thing"]
  d8 : DefOk K mg "is_word" st_is_word ["thing"]
  d9 : DefOk K mg "sort_of_un" st_sort_of_un ["own", "term"]
  d10 : DefOk K mg "sort_of_list" st_sort_of_list ["own", "term"]
  d11 : DefOk K mg "sort_of_set" st_sort_of_set ["own", "term"]
  d12 : DefOk K mg "sort_of_two" st_sort_of_two ["own", "terms", "word"]
  d13 : DefOk K mg "sort_of_bits" st_sort_of_bits ["own", "term"]
  d14 : DefOk K mg "sort_in" st_sort_in ["own", "term"]
  d15 : DefOk K mg "is_claim_in" st_is_claim_in ["own", "claim"]
  d16 : DefOk K mg "parts_of" st_parts_of ["part"]
  d17 : DefOk K mg "all_parts" st_all_parts ["part"]
  d18 : DefOk K mg "own_of" st_own_of ["text"]
  d19 : DefOk K mg "is_unknown" st_is_unknown ["thing", "things"]
  d20 : DefOk K mg "is_small_claim" st_is_small_claim ["thing", "own"]
  d21 : DefOk K mg "is_text" st_is_text ["shape"]
  d22 : DefOk K mg "sure_text" st_sure_text ["text"]
  d23 : DefOk K mg "ratio" st_ratio ["top", "bottom"]
  d24 : DefOk K mg "is_ratio" st_is_ratio ["thing"]
  d25 : DefOk K mg "is_value" st_is_value ["thing", "sort"]
  d26 : DefOk K mg "are_ascending" st_are_ascending ["row"]
  d27 : DefOk K mg "is_table" st_is_table ["thing", "places", "sort"]
  d28 : DefOk K mg "is_choice" st_is_choice ["model", "text"]
  d29 : DefOk K mg "found_in" st_found_in ["table", "args"]
  d30 : DefOk K mg "summed" st_summed ["one", "other"]
  d31 : DefOk K mg "gated" st_gated ["word", "one", "other"]
  d32 : DefOk K mg "counted" st_counted ["word", "one", "other"]
  d33 : DefOk K mg "gathered" st_gathered ["word", "one", "other"]
  d34 : DefOk K mg "made" st_made ["term", "args"]
  d35 : DefOk K mg "below" st_below ["one", "other"]
  d36 : DefOk K mg "asked" st_asked ["word", "one", "other"]
  d37 : DefOk K mg "worth" st_worth ["model", "term"]
  d38 : DefOk K mg "holds" st_holds ["model", "claim"]
  d39 : DefOk K mg "sure_choice" st_sure_choice ["text", "model"]
  d40 : DefOk K mg "value_at" st_value_at ["text", "model", "term"]
  d41 : DefOk K mg "holds_at" st_holds_at ["text", "model", "claim"]
  d42 : DefOk K mg "is_model" st_is_model ["text", "model"]
  d43 : DefOk K mg "_law_cell" st__law_cell ["script", "k"]
  d44 : DefOk K mg "_law_digits" st__law_digits ["script", "first", "last"]
  d45 : DefOk K mg "_law_draw" st__law_draw ["box", "m"]
  d46 : DefOk K mg "_law_pick" st__law_pick ["box", "rows"]
  d47 : DefOk K mg "_law_unknowns" st__law_unknowns []
  d48 : DefOk K mg "_law_term" st__law_term ["box", "rows", "sort", "deep"]
  d49 : DefOk K mg "_law_atom" st__law_atom ["box", "rows", "deep"]
  d50 : DefOk K mg "_law_claim" st__law_claim ["box", "rows", "deep", "size"]
  d51 : DefOk K mg "_law_some" st__law_some ["box"]
  d52 : DefOk K mg "_law_made" st__law_made ["word", "args"]
  d53 : DefOk K mg "_law_worth" st__law_worth ["model", "term"]
  d54 : DefOk K mg "_law_holds" st__law_holds ["model", "claim"]
  d55 : DefOk K mg "_law_value" st__law_value ["box", "sort", "many"]
  d56 : DefOk K mg "_law_model" st__law_model ["box", "rows", "many"]
  d57 : DefOk K mg "_law_like" st__law_like ["told", "due"]
  d58 : DefOk K mg "_law_told_value" st__law_told_value ["text", "model", "term"]
  d59 : DefOk K mg "_law_told_truth" st__law_told_truth ["text", "model", "claim"]
  d60 : DefOk K mg "_law_with" st__law_with ["model", "name", "value"]
  d61 : DefOk K mg "_law_wrong" st__law_wrong ["model"]
  d62 : DefOk K mg "_law_numbers_right" st__law_numbers_right []
  d63 : DefOk K mg "law" st_law ["script"]
theorem all (Hd : Head K mg) (G : Glo P w K mg) : ∀ k, Fns P w K mg base k (prog k)
  | 0 => ⟨fn_zeroD Hd.d0 rfl (fun _ _ => rfl), fn_zeroD Hd.d1 rfl (fun _ _ => rfl), fn_zeroD Hd.d2 rfl (fun _ _ => rfl), fn_zeroD Hd.d3 rfl (fun _ _ => rfl), fn_zeroD Hd.d4 rfl (fun _ _ => rfl), fn_zeroD Hd.d5 rfl (fun _ _ => rfl), fn_zeroD Hd.d6 rfl (fun _ _ => rfl), fn_zeroD Hd.d7 rfl (fun _ _ => rfl), fn_zeroD Hd.d8 rfl (fun _ _ => rfl), fn_zeroD Hd.d9 rfl (fun _ _ => rfl), fn_zeroD Hd.d10 rfl (fun _ _ => rfl), fn_zeroD Hd.d11 rfl (fun _ _ => rfl), fn_zeroD Hd.d12 rfl (fun _ _ => rfl), fn_zeroD Hd.d13 rfl (fun _ _ => rfl), fn_zeroD Hd.d14 rfl (fun _ _ => rfl), fn_zeroD Hd.d15 rfl (fun _ _ => rfl), fn_zeroD Hd.d16 rfl (fun _ _ => rfl), fn_zeroD Hd.d17 rfl (fun _ _ => rfl), fn_zeroD Hd.d18 rfl (fun _ _ => rfl), fn_zeroD Hd.d19 rfl (fun _ _ => rfl), fn_zeroD Hd.d20 rfl (fun _ _ => rfl), fn_zeroD Hd.d21 rfl (fun _ _ => rfl), fn_zeroD Hd.d22 rfl (fun _ _ => rfl), fn_zeroD Hd.d23 rfl (fun _ _ => rfl), fn_zeroD Hd.d24 rfl (fun _ _ => rfl), fn_zeroD Hd.d25 rfl (fun _ _ => rfl), fn_zeroD Hd.d26 rfl (fun _ _ => rfl), fn_zeroD Hd.d27 rfl (fun _ _ => rfl), fn_zeroD Hd.d28 rfl (fun _ _ => rfl), fn_zeroD Hd.d29 rfl (fun _ _ => rfl), fn_zeroD Hd.d30 rfl (fun _ _ => rfl), fn_zeroD Hd.d31 rfl (fun _ _ => rfl), fn_zeroD Hd.d32 rfl (fun _ _ => rfl), fn_zeroD Hd.d33 rfl (fun _ _ => rfl), fn_zeroD Hd.d34 rfl (fun _ _ => rfl), fn_zeroD Hd.d35 rfl (fun _ _ => rfl), fn_zeroD Hd.d36 rfl (fun _ _ => rfl), fn_zeroD Hd.d37 rfl (fun _ _ => rfl), fn_zeroD Hd.d38 rfl (fun _ _ => rfl), fn_zeroD Hd.d39 rfl (fun _ _ => rfl), fn_zeroD Hd.d40 rfl (fun _ _ => rfl), fn_zeroD Hd.d41 rfl (fun _ _ => rfl), fn_zeroD Hd.d42 rfl (fun _ _ => rfl), fn_zeroD Hd.d43 rfl (fun _ _ => rfl), fn_zeroD Hd.d44 rfl (fun _ _ => rfl), fn_zeroD Hd.d45 rfl (fun _ _ => rfl), fn_zeroD Hd.d46 rfl (fun _ _ => rfl), fn_zeroD Hd.d47 rfl (fun _ _ => rfl), fn_zeroD Hd.d48 rfl (fun _ _ => rfl), fn_zeroD Hd.d49 rfl (fun _ _ => rfl), fn_zeroD Hd.d50 rfl (fun _ _ => rfl), fn_zeroD Hd.d51 rfl (fun _ _ => rfl), fn_zeroD Hd.d52 rfl (fun _ _ => rfl), fn_zeroD Hd.d53 rfl (fun _ _ => rfl), fn_zeroD Hd.d54 rfl (fun _ _ => rfl), fn_zeroD Hd.d55 rfl (fun _ _ => rfl), fn_zeroD Hd.d56 rfl (fun _ _ => rfl), fn_zeroD Hd.d57 rfl (fun _ _ => rfl), fn_zeroD Hd.d58 rfl (fun _ _ => rfl), fn_zeroD Hd.d59 rfl (fun _ _ => rfl), fn_zeroD Hd.d60 rfl (fun _ _ => rfl), fn_zeroD Hd.d61 rfl (fun _ _ => rfl), fn_zeroD Hd.d62 rfl (fun _ _ => rfl), fn_zeroD Hd.d63 rfl (fun _ _ => rfl)⟩
  | k + 1 => by
    have ih := all Hd G k
    exact ⟨fn_mkD Hd.d0 rfl fun _ _ D => okf_is_integer G ih D, fn_mkD Hd.d1 rfl fun _ _ D => okf_is_name G ih D, fn_mkD Hd.d2 rfl fun _ _ D => okf_is_form G ih D, fn_mkD Hd.d3 rfl fun _ _ D => okf_is_sort G ih D, fn_mkD Hd.d4 rfl fun _ _ D => okf_inmost G ih D, fn_mkD Hd.d5 rfl fun _ _ D => okf_is_place G ih D, fn_mkD Hd.d6 rfl fun _ _ D => okf_is_shallow G ih D, fn_mkD Hd.d7 rfl fun _ _ D => okf_is_numeral G ih D, fn_mkD Hd.d8 rfl fun _ _ D => okf_is_word G ih D, fn_mkD Hd.d9 rfl fun _ _ D => okf_sort_of_un G ih D, fn_mkD Hd.d10 rfl fun _ _ D => okf_sort_of_list G ih D, fn_mkD Hd.d11 rfl fun _ _ D => okf_sort_of_set G ih D, fn_mkD Hd.d12 rfl fun _ _ D => okf_sort_of_two G ih D, fn_mkD Hd.d13 rfl fun _ _ D => okf_sort_of_bits G ih D, fn_mkD Hd.d14 rfl fun _ _ D => okf_sort_in G ih D, fn_mkD Hd.d15 rfl fun _ _ D => okf_is_claim_in G ih D, fn_mkD Hd.d16 rfl fun _ _ D => okf_parts_of G ih D, fn_mkD Hd.d17 rfl fun _ _ D => okf_all_parts G ih D, fn_mkD Hd.d18 rfl fun _ _ D => okf_own_of G ih D, fn_mkD Hd.d19 rfl fun _ _ D => okf_is_unknown G ih D, fn_mkD Hd.d20 rfl fun _ _ D => okf_is_small_claim G ih D, fn_mkD Hd.d21 rfl fun _ _ D => okf_is_text G ih D, fn_mkD Hd.d22 rfl fun _ _ D => okf_sure_text G ih D, fn_mkD Hd.d23 rfl fun _ _ D => okf_ratio G ih D, fn_mkD Hd.d24 rfl fun _ _ D => okf_is_ratio G ih D, fn_mkD Hd.d25 rfl fun _ _ D => okf_is_value G ih D, fn_mkD Hd.d26 rfl fun _ _ D => okf_are_ascending G ih D, fn_mkD Hd.d27 rfl fun _ _ D => okf_is_table G ih D, fn_mkD Hd.d28 rfl fun _ _ D => okf_is_choice G ih D, fn_mkD Hd.d29 rfl fun _ _ D => okf_found_in G ih D, fn_mkD Hd.d30 rfl fun _ _ D => okf_summed G ih D, fn_mkD Hd.d31 rfl fun _ _ D => okf_gated G ih D, fn_mkD Hd.d32 rfl fun _ _ D => okf_counted G ih D, fn_mkD Hd.d33 rfl fun _ _ D => okf_gathered G ih D, fn_mkD Hd.d34 rfl fun _ _ D => okf_made G ih D, fn_mkD Hd.d35 rfl fun _ _ D => okf_below G ih D, fn_mkD Hd.d36 rfl fun _ _ D => okf_asked G ih D, fn_mkD Hd.d37 rfl fun _ _ D => okf_worth G ih D, fn_mkD Hd.d38 rfl fun _ _ D => okf_holds G ih D, fn_mkD Hd.d39 rfl fun _ _ D => okf_sure_choice G ih D, fn_mkD Hd.d40 rfl fun _ _ D => okf_value_at G ih D, fn_mkD Hd.d41 rfl fun _ _ D => okf_holds_at G ih D, fn_mkD Hd.d42 rfl fun _ _ D => okf_is_model G ih D, fn_mkD Hd.d43 rfl fun _ _ D => okf__law_cell G ih D, fn_mkD Hd.d44 rfl fun _ _ D => okf__law_digits G ih D, fn_mkD Hd.d45 rfl fun _ _ D => okf__law_draw G ih D, fn_mkD Hd.d46 rfl fun _ _ D => okf__law_pick G ih D, fn_mkD Hd.d47 rfl fun _ _ D => okf__law_unknowns G ih D, fn_mkD Hd.d48 rfl fun _ _ D => okf__law_term G ih D, fn_mkD Hd.d49 rfl fun _ _ D => okf__law_atom G ih D, fn_mkD Hd.d50 rfl fun _ _ D => okf__law_claim G ih D, fn_mkD Hd.d51 rfl fun _ _ D => okf__law_some G ih D, fn_mkD Hd.d52 rfl fun _ _ D => okf__law_made G ih D, fn_mkD Hd.d53 rfl fun _ _ D => okf__law_worth G ih D, fn_mkD Hd.d54 rfl fun _ _ D => okf__law_holds G ih D, fn_mkD Hd.d55 rfl fun _ _ D => okf__law_value G ih D, fn_mkD Hd.d56 rfl fun _ _ D => okf__law_model G ih D, fn_mkD Hd.d57 rfl fun _ _ D => okf__law_like G ih D, fn_mkD Hd.d58 rfl fun _ _ D => okf__law_told_value G ih D, fn_mkD Hd.d59 rfl fun _ _ D => okf__law_told_truth G ih D, fn_mkD Hd.d60 rfl fun _ _ D => okf__law_with G ih D, fn_mkD Hd.d61 rfl fun _ _ D => okf__law_wrong G ih D, fn_mkD Hd.d62 rfl fun _ _ D => okf__law_numbers_right G ih D, fn_mkD Hd.d63 rfl fun _ _ D => okf_law G ih D⟩
end
/-! the written part -/
def fa : List He.Fa := [.glo "is_integer", .glo "is_name", .glo "is_form", .glo "is_sort", .glo "inmost", .glo "is_place", .glo "is_shallow", .glo "is_numeral", .glo "is_word", .glo "sort_of_un", .glo "sort_of_list", .glo "sort_of_set", .glo "sort_of_two", .glo "sort_of_bits", .glo "sort_in", .glo "is_claim_in", .glo "parts_of", .glo "all_parts", .glo "own_of", .glo "is_unknown", .glo "is_small_claim", .glo "is_text", .glo "sure_text", .glo "ratio", .glo "is_ratio", .glo "is_value", .glo "are_ascending", .glo "is_table", .glo "is_choice", .glo "found_in", .glo "summed", .glo "gated", .glo "counted", .glo "gathered", .glo "made", .glo "below", .glo "asked", .glo "worth", .glo "holds", .glo "sure_choice", .glo "value_at", .glo "holds_at", .glo "is_model", .glo "_law_cell", .glo "_law_digits", .glo "_law_draw", .glo "_law_pick", .glo "_law_unknowns", .glo "_law_term", .glo "_law_atom", .glo "_law_claim", .glo "_law_some", .glo "_law_made", .glo "_law_worth", .glo "_law_holds", .glo "_law_value", .glo "_law_model", .glo "_law_like", .glo "_law_told_value", .glo "_law_told_truth", .glo "_law_with", .glo "_law_wrong", .glo "_law_numbers_right", .glo "law", .glo "BadPart", .glo "Refused", .free "isinstance", .free "int", .free "bool", .free "str", .free "len", .free "all", .free "tuple", .free "range", .free "abs", .free "list", .free "zip", .free "dict", .free "max", .free "sorted", .free "super"]
def fnl : List He.DefD := [⟨("is_integer", none), "is_integer", "is_integer", defArgs st_is_integer, defBody st_is_integer, defScope st_is_integer, [], []⟩, ⟨("is_name", none), "is_name", "is_name", defArgs st_is_name, defBody st_is_name, defScope st_is_name, [], []⟩, ⟨("is_form", none), "is_form", "is_form", defArgs st_is_form, defBody st_is_form, defScope st_is_form, [], []⟩, ⟨("is_sort", none), "is_sort", "is_sort", defArgs st_is_sort, defBody st_is_sort, defScope st_is_sort, [], []⟩, ⟨("inmost", none), "inmost", "inmost", defArgs st_inmost, defBody st_inmost, defScope st_inmost, [], []⟩, ⟨("is_place", none), "is_place", "is_place", defArgs st_is_place, defBody st_is_place, defScope st_is_place, [], []⟩, ⟨("is_shallow", none), "is_shallow", "is_shallow", defArgs st_is_shallow, defBody st_is_shallow, defScope st_is_shallow, [], []⟩, ⟨("is_numeral", none), "is_numeral", "is_numeral", defArgs st_is_numeral, defBody st_is_numeral, defScope st_is_numeral, [], []⟩, ⟨("is_word", none), "is_word", "is_word", defArgs st_is_word, defBody st_is_word, defScope st_is_word, [], []⟩, ⟨("sort_of_un", none), "sort_of_un", "sort_of_un", defArgs st_sort_of_un, defBody st_sort_of_un, defScope st_sort_of_un, [], []⟩, ⟨("sort_of_list", none), "sort_of_list", "sort_of_list", defArgs st_sort_of_list, defBody st_sort_of_list, defScope st_sort_of_list, [], []⟩, ⟨("sort_of_set", none), "sort_of_set", "sort_of_set", defArgs st_sort_of_set, defBody st_sort_of_set, defScope st_sort_of_set, [], []⟩, ⟨("sort_of_two", none), "sort_of_two", "sort_of_two", defArgs st_sort_of_two, defBody st_sort_of_two, defScope st_sort_of_two, [], []⟩, ⟨("sort_of_bits", none), "sort_of_bits", "sort_of_bits", defArgs st_sort_of_bits, defBody st_sort_of_bits, defScope st_sort_of_bits, [], []⟩, ⟨("sort_in", none), "sort_in", "sort_in", defArgs st_sort_in, defBody st_sort_in, defScope st_sort_in, [], []⟩, ⟨("is_claim_in", none), "is_claim_in", "is_claim_in", defArgs st_is_claim_in, defBody st_is_claim_in, defScope st_is_claim_in, [], []⟩, ⟨("parts_of", none), "parts_of", "parts_of", defArgs st_parts_of, defBody st_parts_of, defScope st_parts_of, [], []⟩, ⟨("all_parts", none), "all_parts", "all_parts", defArgs st_all_parts, defBody st_all_parts, defScope st_all_parts, [], []⟩, ⟨("own_of", none), "own_of", "own_of", defArgs st_own_of, defBody st_own_of, defScope st_own_of, [], []⟩, ⟨("is_unknown", none), "is_unknown", "is_unknown", defArgs st_is_unknown, defBody st_is_unknown, defScope st_is_unknown, [], []⟩, ⟨("is_small_claim", none), "is_small_claim", "is_small_claim", defArgs st_is_small_claim, defBody st_is_small_claim, defScope st_is_small_claim, [], []⟩, ⟨("is_text", none), "is_text", "is_text", defArgs st_is_text, defBody st_is_text, defScope st_is_text, [], []⟩, ⟨("sure_text", none), "sure_text", "sure_text", defArgs st_sure_text, defBody st_sure_text, defScope st_sure_text, [], []⟩, ⟨("ratio", none), "ratio", "ratio", defArgs st_ratio, defBody st_ratio, defScope st_ratio, [], []⟩, ⟨("is_ratio", none), "is_ratio", "is_ratio", defArgs st_is_ratio, defBody st_is_ratio, defScope st_is_ratio, [], []⟩, ⟨("is_value", none), "is_value", "is_value", defArgs st_is_value, defBody st_is_value, defScope st_is_value, [], []⟩, ⟨("are_ascending", none), "are_ascending", "are_ascending", defArgs st_are_ascending, defBody st_are_ascending, defScope st_are_ascending, [], []⟩, ⟨("is_table", none), "is_table", "is_table", defArgs st_is_table, defBody st_is_table, defScope st_is_table, [], []⟩, ⟨("is_choice", none), "is_choice", "is_choice", defArgs st_is_choice, defBody st_is_choice, defScope st_is_choice, [], []⟩, ⟨("found_in", none), "found_in", "found_in", defArgs st_found_in, defBody st_found_in, defScope st_found_in, [], []⟩, ⟨("summed", none), "summed", "summed", defArgs st_summed, defBody st_summed, defScope st_summed, [], []⟩, ⟨("gated", none), "gated", "gated", defArgs st_gated, defBody st_gated, defScope st_gated, [], []⟩, ⟨("counted", none), "counted", "counted", defArgs st_counted, defBody st_counted, defScope st_counted, [], []⟩, ⟨("gathered", none), "gathered", "gathered", defArgs st_gathered, defBody st_gathered, defScope st_gathered, [], []⟩, ⟨("made", none), "made", "made", defArgs st_made, defBody st_made, defScope st_made, [], []⟩, ⟨("below", none), "below", "below", defArgs st_below, defBody st_below, defScope st_below, [], []⟩, ⟨("asked", none), "asked", "asked", defArgs st_asked, defBody st_asked, defScope st_asked, [], []⟩, ⟨("worth", none), "worth", "worth", defArgs st_worth, defBody st_worth, defScope st_worth, [], []⟩, ⟨("holds", none), "holds", "holds", defArgs st_holds, defBody st_holds, defScope st_holds, [], []⟩, ⟨("sure_choice", none), "sure_choice", "sure_choice", defArgs st_sure_choice, defBody st_sure_choice, defScope st_sure_choice, [], []⟩, ⟨("value_at", none), "value_at", "value_at", defArgs st_value_at, defBody st_value_at, defScope st_value_at, [], []⟩, ⟨("holds_at", none), "holds_at", "holds_at", defArgs st_holds_at, defBody st_holds_at, defScope st_holds_at, [], []⟩, ⟨("is_model", none), "is_model", "is_model", defArgs st_is_model, defBody st_is_model, defScope st_is_model, [], []⟩, ⟨("_law_cell", none), "_law_cell", "_law_cell", defArgs st__law_cell, defBody st__law_cell, defScope st__law_cell, [], []⟩, ⟨("_law_digits", none), "_law_digits", "_law_digits", defArgs st__law_digits, defBody st__law_digits, defScope st__law_digits, [], []⟩, ⟨("_law_draw", none), "_law_draw", "_law_draw", defArgs st__law_draw, defBody st__law_draw, defScope st__law_draw, [], []⟩, ⟨("_law_pick", none), "_law_pick", "_law_pick", defArgs st__law_pick, defBody st__law_pick, defScope st__law_pick, [], []⟩, ⟨("_law_unknowns", none), "_law_unknowns", "_law_unknowns", defArgs st__law_unknowns, defBody st__law_unknowns, defScope st__law_unknowns, [], []⟩, ⟨("_law_term", none), "_law_term", "_law_term", defArgs st__law_term, defBody st__law_term, defScope st__law_term, [], []⟩, ⟨("_law_atom", none), "_law_atom", "_law_atom", defArgs st__law_atom, defBody st__law_atom, defScope st__law_atom, [], []⟩, ⟨("_law_claim", none), "_law_claim", "_law_claim", defArgs st__law_claim, defBody st__law_claim, defScope st__law_claim, [], []⟩, ⟨("_law_some", none), "_law_some", "_law_some", defArgs st__law_some, defBody st__law_some, defScope st__law_some, [], []⟩, ⟨("_law_made", none), "_law_made", "_law_made", defArgs st__law_made, defBody st__law_made, defScope st__law_made, [], []⟩, ⟨("_law_worth", none), "_law_worth", "_law_worth", defArgs st__law_worth, defBody st__law_worth, defScope st__law_worth, [], []⟩, ⟨("_law_holds", none), "_law_holds", "_law_holds", defArgs st__law_holds, defBody st__law_holds, defScope st__law_holds, [], []⟩, ⟨("_law_value", none), "_law_value", "_law_value", defArgs st__law_value, defBody st__law_value, defScope st__law_value, [], []⟩, ⟨("_law_model", none), "_law_model", "_law_model", defArgs st__law_model, defBody st__law_model, defScope st__law_model, [], []⟩, ⟨("_law_like", none), "_law_like", "_law_like", defArgs st__law_like, defBody st__law_like, defScope st__law_like, [], []⟩, ⟨("_law_told_value", none), "_law_told_value", "_law_told_value", defArgs st__law_told_value, defBody st__law_told_value, defScope st__law_told_value, [], []⟩, ⟨("_law_told_truth", none), "_law_told_truth", "_law_told_truth", defArgs st__law_told_truth, defBody st__law_told_truth, defScope st__law_told_truth, [], []⟩, ⟨("_law_with", none), "_law_with", "_law_with", defArgs st__law_with, defBody st__law_with, defScope st__law_with, [], []⟩, ⟨("_law_wrong", none), "_law_wrong", "_law_wrong", defArgs st__law_wrong, defBody st__law_wrong, defScope st__law_wrong, [], []⟩, ⟨("_law_numbers_right", none), "_law_numbers_right", "_law_numbers_right", defArgs st__law_numbers_right, defBody st__law_numbers_right, defScope st__law_numbers_right, [], []⟩, ⟨("law", none), "law", "law", defArgs st_law, defBody st_law, defScope st_law, [], []⟩]
theorem head_of {K : KF} {mg : Str → Option Value} {h : Heap} (X : K.In h) (G : h.Ns mainGlobals mg) (c : He.SaysD fa fnl K) : Head K mg := ⟨def_of X G c 0 0 (fun _ _ _ _ _ _ us hl => match us, hl with | [_], _ => rfl),
  def_of X G c 1 1 (fun _ _ _ _ _ _ us hl => match us, hl with | [_], _ => rfl),
  def_of X G c 2 2 (fun _ _ _ _ _ _ us hl => match us, hl with | [_, _, _], _ => rfl),
  def_of X G c 3 3 (fun _ _ _ _ _ _ us hl => match us, hl with | [_, _], _ => rfl),
  def_of X G c 4 4 (fun _ _ _ _ _ _ us hl => match us, hl with | [_], _ => rfl),
  def_of X G c 5 5 (fun _ _ _ _ _ _ us hl => match us, hl with | [_, _], _ => rfl),
  def_of X G c 6 6 (fun _ _ _ _ _ _ us hl => match us, hl with | [_], _ => rfl),
  def_of X G c 7 7 (fun _ _ _ _ _ _ us hl => match us, hl with | [_], _ => rfl),
  def_of X G c 8 8 (fun _ _ _ _ _ _ us hl => match us, hl with | [_], _ => rfl),
  def_of X G c 9 9 (fun _ _ _ _ _ _ us hl => match us, hl with | [_, _], _ => rfl),
  def_of X G c 10 10 (fun _ _ _ _ _ _ us hl => match us, hl with | [_, _], _ => rfl),
  def_of X G c 11 11 (fun _ _ _ _ _ _ us hl => match us, hl with | [_, _], _ => rfl),
  def_of X G c 12 12 (fun _ _ _ _ _ _ us hl => match us, hl with | [_, _, _], _ => rfl),
  def_of X G c 13 13 (fun _ _ _ _ _ _ us hl => match us, hl with | [_, _], _ => rfl),
  def_of X G c 14 14 (fun _ _ _ _ _ _ us hl => match us, hl with | [_, _], _ => rfl),
  def_of X G c 15 15 (fun _ _ _ _ _ _ us hl => match us, hl with | [_, _], _ => rfl),
  def_of X G c 16 16 (fun _ _ _ _ _ _ us hl => match us, hl with | [_], _ => rfl),
  def_of X G c 17 17 (fun _ _ _ _ _ _ us hl => match us, hl with | [_], _ => rfl),
  def_of X G c 18 18 (fun _ _ _ _ _ _ us hl => match us, hl with | [_], _ => rfl),
  def_of X G c 19 19 (fun _ _ _ _ _ _ us hl => match us, hl with | [_, _], _ => rfl),
  def_of X G c 20 20 (fun _ _ _ _ _ _ us hl => match us, hl with | [_, _], _ => rfl),
  def_of X G c 21 21 (fun _ _ _ _ _ _ us hl => match us, hl with | [_], _ => rfl),
  def_of X G c 22 22 (fun _ _ _ _ _ _ us hl => match us, hl with | [_], _ => rfl),
  def_of X G c 23 23 (fun _ _ _ _ _ _ us hl => match us, hl with | [_, _], _ => rfl),
  def_of X G c 24 24 (fun _ _ _ _ _ _ us hl => match us, hl with | [_], _ => rfl),
  def_of X G c 25 25 (fun _ _ _ _ _ _ us hl => match us, hl with | [_, _], _ => rfl),
  def_of X G c 26 26 (fun _ _ _ _ _ _ us hl => match us, hl with | [_], _ => rfl),
  def_of X G c 27 27 (fun _ _ _ _ _ _ us hl => match us, hl with | [_, _, _], _ => rfl),
  def_of X G c 28 28 (fun _ _ _ _ _ _ us hl => match us, hl with | [_, _], _ => rfl),
  def_of X G c 29 29 (fun _ _ _ _ _ _ us hl => match us, hl with | [_, _], _ => rfl),
  def_of X G c 30 30 (fun _ _ _ _ _ _ us hl => match us, hl with | [_, _], _ => rfl),
  def_of X G c 31 31 (fun _ _ _ _ _ _ us hl => match us, hl with | [_, _, _], _ => rfl),
  def_of X G c 32 32 (fun _ _ _ _ _ _ us hl => match us, hl with | [_, _, _], _ => rfl),
  def_of X G c 33 33 (fun _ _ _ _ _ _ us hl => match us, hl with | [_, _, _], _ => rfl),
  def_of X G c 34 34 (fun _ _ _ _ _ _ us hl => match us, hl with | [_, _], _ => rfl),
  def_of X G c 35 35 (fun _ _ _ _ _ _ us hl => match us, hl with | [_, _], _ => rfl),
  def_of X G c 36 36 (fun _ _ _ _ _ _ us hl => match us, hl with | [_, _, _], _ => rfl),
  def_of X G c 37 37 (fun _ _ _ _ _ _ us hl => match us, hl with | [_, _], _ => rfl),
  def_of X G c 38 38 (fun _ _ _ _ _ _ us hl => match us, hl with | [_, _], _ => rfl),
  def_of X G c 39 39 (fun _ _ _ _ _ _ us hl => match us, hl with | [_, _], _ => rfl),
  def_of X G c 40 40 (fun _ _ _ _ _ _ us hl => match us, hl with | [_, _, _], _ => rfl),
  def_of X G c 41 41 (fun _ _ _ _ _ _ us hl => match us, hl with | [_, _, _], _ => rfl),
  def_of X G c 42 42 (fun _ _ _ _ _ _ us hl => match us, hl with | [_, _], _ => rfl),
  def_of X G c 43 43 (fun _ _ _ _ _ _ us hl => match us, hl with | [_, _], _ => rfl),
  def_of X G c 44 44 (fun _ _ _ _ _ _ us hl => match us, hl with | [_, _, _], _ => rfl),
  def_of X G c 45 45 (fun _ _ _ _ _ _ us hl => match us, hl with | [_, _], _ => rfl),
  def_of X G c 46 46 (fun _ _ _ _ _ _ us hl => match us, hl with | [_, _], _ => rfl),
  def_of X G c 47 47 (fun _ _ _ _ _ _ us hl => match us, hl with | [], _ => rfl),
  def_of X G c 48 48 (fun _ _ _ _ _ _ us hl => match us, hl with | [_, _, _, _], _ => rfl),
  def_of X G c 49 49 (fun _ _ _ _ _ _ us hl => match us, hl with | [_, _, _], _ => rfl),
  def_of X G c 50 50 (fun _ _ _ _ _ _ us hl => match us, hl with | [_, _, _, _], _ => rfl),
  def_of X G c 51 51 (fun _ _ _ _ _ _ us hl => match us, hl with | [_], _ => rfl),
  def_of X G c 52 52 (fun _ _ _ _ _ _ us hl => match us, hl with | [_, _], _ => rfl),
  def_of X G c 53 53 (fun _ _ _ _ _ _ us hl => match us, hl with | [_, _], _ => rfl),
  def_of X G c 54 54 (fun _ _ _ _ _ _ us hl => match us, hl with | [_, _], _ => rfl),
  def_of X G c 55 55 (fun _ _ _ _ _ _ us hl => match us, hl with | [_, _, _], _ => rfl),
  def_of X G c 56 56 (fun _ _ _ _ _ _ us hl => match us, hl with | [_, _, _], _ => rfl),
  def_of X G c 57 57 (fun _ _ _ _ _ _ us hl => match us, hl with | [_, _], _ => rfl),
  def_of X G c 58 58 (fun _ _ _ _ _ _ us hl => match us, hl with | [_, _, _], _ => rfl),
  def_of X G c 59 59 (fun _ _ _ _ _ _ us hl => match us, hl with | [_, _, _], _ => rfl),
  def_of X G c 60 60 (fun _ _ _ _ _ _ us hl => match us, hl with | [_, _, _], _ => rfl),
  def_of X G c 61 61 (fun _ _ _ _ _ _ us hl => match us, hl with | [_], _ => rfl),
  def_of X G c 62 62 (fun _ _ _ _ _ _ us hl => match us, hl with | [], _ => rfl),
  def_of X G c 63 63 (fun _ _ _ _ _ _ us hl => match us, hl with | [_], _ => rfl)⟩
def cs : List (Str × D) := [("MOST_SIGNS", (.int (8))), ("LETTERS", (.str "abcdefghijklmnopqrstuvwxyz")), ("SIGNS", (.str "abcdefghijklmnopqrstuvwxyz0123456789_")), ("MOST_WIDE", (.int (6))), ("MOST_DEEP_sorts", (.int (3))), ("MOST_WIDE_WITHIN", (.int (3))), ("MOST_DEEP_terms", (.int (200))), ("MOST_ABREAST", (.int (20000))), ("MOST_NUMBER", (.int (999))), ("MOST_BITS", (.int (6))), ("GATES", (.tup [(.str "and"), (.str "or"), (.str "xor")])), ("NUM", (.tup [(.str "num")])), ("SUMS", (.tup [(.str "plus"), (.str "minus"), (.str "times")])), ("SETS", (.tup [(.str "none"), (.str "one"), (.str "join"), (.str "meet"), (.str "without")])), ("BOTH", (.tup [(.str "and"), (.str "or"), (.str "then"), (.str "same")])), ("ALONE", (.tup [(.str "num"), (.str "nil"), (.str "none"), (.str "word"), (.str "true"), (.str "false")])), ("MOST_PLACES", (.int (3))), ("MOST_PARTS", (.int (60))), ("MOST_THINGS", (.int (6))), ("MOST_UNKNOWNS", (.int (16))), ("MOST_CLAIMS", (.int (12)))]
theorem glo_of {P : Program} {w : World} (pw : w = PWc.w) {K : KF} {mg : Str → Option Value} {h : Heap} (X : K.In h) (G : h.Ns mainGlobals mg) (c : He.SaysD fa fnl K) (k : (cs.all fun q => globB K q.1 q.2) = true) (x_BadPart : ClsX P K mg "BadPart" "what" "BadPart.__init__") (x_Refused : ClsX P K mg "Refused" "reason" "Refused.__init__") (ap_BadPart_Refused : ApX K mg "BadPart" "Refused") (gc : PySem.W.nsIn K mainGlobals "gcd" = some (some (.builtin "math.gcd"))) : Glo P w K mg := ⟨pw,
  He.free_ok X G (c.fact 66 (f := .free "isinstance") rfl),
  He.free_ok X G (c.fact 67 (f := .free "int") rfl),
  He.free_ok X G (c.fact 68 (f := .free "bool") rfl),
  He.free_ok X G (c.fact 69 (f := .free "str") rfl),
  He.free_ok X G (c.fact 70 (f := .free "len") rfl),
  He.free_ok X G (c.fact 71 (f := .free "all") rfl),
  He.free_ok X G (c.fact 72 (f := .free "tuple") rfl),
  He.free_ok X G (c.fact 73 (f := .free "range") rfl),
  He.free_ok X G (c.fact 74 (f := .free "abs") rfl),
  He.free_ok X G (c.fact 75 (f := .free "list") rfl),
  He.free_ok X G (c.fact 76 (f := .free "zip") rfl),
  He.free_ok X G (c.fact 77 (f := .free "dict") rfl),
  He.free_ok X G (c.fact 78 (f := .free "max") rfl),
  He.free_ok X G (c.fact 79 (f := .free "sorted") rfl),
  glob_of X G (List.all_eq_true.mp k ("MOST_SIGNS", (.int (8))) (List.mem_of_getElem? (i := 0) rfl)),
  glob_of X G (List.all_eq_true.mp k ("LETTERS", (.str "abcdefghijklmnopqrstuvwxyz")) (List.mem_of_getElem? (i := 1) rfl)),
  glob_of X G (List.all_eq_true.mp k ("SIGNS", (.str "abcdefghijklmnopqrstuvwxyz0123456789_")) (List.mem_of_getElem? (i := 2) rfl)),
  glob_of X G (List.all_eq_true.mp k ("MOST_WIDE", (.int (6))) (List.mem_of_getElem? (i := 3) rfl)),
  glob_of X G (List.all_eq_true.mp k ("MOST_DEEP_sorts", (.int (3))) (List.mem_of_getElem? (i := 4) rfl)),
  glob_of X G (List.all_eq_true.mp k ("MOST_WIDE_WITHIN", (.int (3))) (List.mem_of_getElem? (i := 5) rfl)),
  glob_of X G (List.all_eq_true.mp k ("MOST_DEEP_terms", (.int (200))) (List.mem_of_getElem? (i := 6) rfl)),
  glob_of X G (List.all_eq_true.mp k ("MOST_ABREAST", (.int (20000))) (List.mem_of_getElem? (i := 7) rfl)),
  glob_of X G (List.all_eq_true.mp k ("MOST_NUMBER", (.int (999))) (List.mem_of_getElem? (i := 8) rfl)),
  glob_of X G (List.all_eq_true.mp k ("MOST_BITS", (.int (6))) (List.mem_of_getElem? (i := 9) rfl)),
  glob_of X G (List.all_eq_true.mp k ("GATES", (.tup [(.str "and"), (.str "or"), (.str "xor")])) (List.mem_of_getElem? (i := 10) rfl)),
  glob_of X G (List.all_eq_true.mp k ("NUM", (.tup [(.str "num")])) (List.mem_of_getElem? (i := 11) rfl)),
  glob_of X G (List.all_eq_true.mp k ("SUMS", (.tup [(.str "plus"), (.str "minus"), (.str "times")])) (List.mem_of_getElem? (i := 12) rfl)),
  glob_of X G (List.all_eq_true.mp k ("SETS", (.tup [(.str "none"), (.str "one"), (.str "join"), (.str "meet"), (.str "without")])) (List.mem_of_getElem? (i := 13) rfl)),
  glob_of X G (List.all_eq_true.mp k ("BOTH", (.tup [(.str "and"), (.str "or"), (.str "then"), (.str "same")])) (List.mem_of_getElem? (i := 14) rfl)),
  glob_of X G (List.all_eq_true.mp k ("ALONE", (.tup [(.str "num"), (.str "nil"), (.str "none"), (.str "word"), (.str "true"), (.str "false")])) (List.mem_of_getElem? (i := 15) rfl)),
  glob_of X G (List.all_eq_true.mp k ("MOST_PLACES", (.int (3))) (List.mem_of_getElem? (i := 16) rfl)),
  glob_of X G (List.all_eq_true.mp k ("MOST_PARTS", (.int (60))) (List.mem_of_getElem? (i := 17) rfl)),
  glob_of X G (List.all_eq_true.mp k ("MOST_THINGS", (.int (6))) (List.mem_of_getElem? (i := 18) rfl)),
  glob_of X G (List.all_eq_true.mp k ("MOST_UNKNOWNS", (.int (16))) (List.mem_of_getElem? (i := 19) rfl)),
  glob_of X G (List.all_eq_true.mp k ("MOST_CLAIMS", (.int (12))) (List.mem_of_getElem? (i := 20) rfl)),
  x_BadPart,
  x_Refused,
  ap_BadPart_Refused,
  PySem.W.mg_of X G gc⟩
/-! the law: KK calls deep -/
abbrev KK : Nat := 100
theorem facts {P : Program} {w : World} (pw : w = PWc.w) {K : KF} {h : Heap} {mg : Str → Option Value} {fa0 : Addr} (X : K.In h) (G : h.Ns mainGlobals mg) (hfa : mg "law" = some (.ref fa0)) (c : He.SaysD fa fnl K) (k : (cs.all fun q => globB K q.1 q.2) = true) (x_BadPart : ClsX P K mg "BadPart" "what" "BadPart.__init__") (x_Refused : ClsX P K mg "Refused" "reason" "Refused.__init__") (ap_BadPart_Refused : ApX K mg "BadPart" "Refused") (gc : PySem.W.nsIn K mainGlobals "gcd" = some (some (.builtin "math.gcd")))
    (plain : ∀ ns : List Int, ns.length ≤ 63 → ∃ m, fnD 18 (body_law (prog KK)) [.frz (ns.map .int)] [] = .ok (.bl true) m) :
    ∃ fd : FuncData, (∀ (s : Shared) (u : Value), BindsTo s fd ⟨[u], []⟩ [("script", u)]) ∧ ∀ base : Heap, K.In base → base.Ns mainGlobals mg → FnOk P w K mg base (L2.CX P w) (KK + 1) fa0 fd ["script"] (spLaw K) := by
  obtain ⟨fd, F⟩ := c.def_ 63 (d := ⟨("law", none), "law", "law", defArgs st_law, defBody st_law, defScope st_law, [], []⟩) rfl
  have e := hfa.symm.trans (He.glo_ok X G (c.fact 63 (f := .glo "law") rfl))
  cases e
  have b := FunD.bindsA (ps := ["script"]) F fun _ _ _ _ _ _ us hl => match us, hl with | [_], _ => rfl
  have Gl := glo_of pw X G c k x_BadPart x_Refused ap_BadPart_Refused gc
  refine ⟨fd, fun s v => b s [v] rfl, fun base _ _ => ?_⟩
  have A := all (P := P) (w := w) (base := base) (head_of X G c) Gl KK
  exact L2.FnOk.imp (okf_law Gl A F) (sp_law plain)
end K02
end

section
set_option Elab.async false
set_option linter.all false
set_option maxRecDepth 100000
/-! PS: the evaluator's equations, for plain laws. -/
namespace PM
open PySem PySem.Spec L2
@[simp] theorem ev_bind_ok {α β : Type} (a : α) (s : S) (f : α → S → R β) : (R.ok a s).bind f = f a s := rfl
@[simp] theorem ev_bind_err {α β : Type} (e : Exn) (m : List MO) (f : α → S → R β) : (R.err e m : R α).bind f = .err e m := rfl
@[simp] theorem ev_stm_ok {α : Type} (a : α) (s : S) (f : α → S → Rs) : (R.ok a s).stm f = f a s := rfl
@[simp] theorem ev_stm_err {α : Type} (e : Exn) (m : List MO) (f : α → S → Rs) : (R.err e m : R α).stm f = .err e m := rfl
@[simp] theorem ev_seq (f g : S → Rs) (s : S) : sSeq f g s = match f s with
  | .next s => g s
  | r => r := rfl
@[simp] theorem ev_nil (s : S) : sNil s = .next s := rfl
@[simp] theorem ev_if (c : S → R Bool) (f g : S → Rs) (s : S) : sIf c f g s = (c s).stm fun b s => if b = true then f s else g s := rfl
@[simp] theorem ev_ret (f : S → R D) (s : S) : sRet f s = (f s).stm fun d s => .ret d s := rfl
@[simp] theorem ev_retN (s : S) : sRetN s = .ret .non s := rfl
@[simp] theorem ev_set (i : Nat) (f : S → R D) (s : S) : sSet i f s = (f s).stm fun d s => .next ⟨s.env.set i (some (.val d)), s.mem⟩ := rfl
@[simp] theorem ev_S (s : S) (i : Nat) (d : D) : s.set i d = ⟨s.env.set i (some (.val d)), s.mem⟩ := rfl
@[simp] theorem ev_C (d : D) (s : S) : eC d s = .ok d s := rfl
@[simp] theorem ev_loc (i : Nat) (e : List (Option Cell)) (m : List MO) : eLoc i ⟨e, m⟩ = match e[i]? with
  | some (some (.val d)) => .ok d ⟨e, m⟩
  | some (some (.own o)) => .ok o.toD ⟨e.set i (some (.val o.toD)), m⟩
  | _ => .stuck := rfl
@[simp] theorem ev_op (g : D → D → Option D) (fa fb : S → R D) (s : S) : eOp g fa fb s = (fa s).bind fun a s => (fb s).bind fun b s => match g a b with
  | some d => .ok d s
  | none => .stuck := rfl
@[simp] theorem ev_tr (f : S → R D) (s : S) : eTr f s = (f s).bind fun d s => match truthD d with
  | some k => .ok k s
  | none => .stuck := rfl
@[simp] theorem ev_bl (f : S → R D) (s : S) : eBl f s = (f s).bind fun d s => match d with
  | .bl b => .ok b s
  | _ => .stuck := rfl
@[simp] theorem ev_and (fa fb : S → R Bool) (s : S) : tAndD fa fb s = (fa s).bind fun k s => if k = true then fb s else .ok false s := rfl
@[simp] theorem ev_or (fa fb : S → R Bool) (s : S) : tOrD fa fb s = (fa s).bind fun k s => if k = true then .ok true s else fb s := rfl
@[simp] theorem ev_not (fa : S → R Bool) (s : S) : tNotD fa s = (fa s).bind fun k s => .ok (!k) s := rfl
@[simp] theorem ev_eAnd (fa fb : S → R D) (s : S) : eAnd fa fb s = (fa s).bind fun d s => match truthD d with
  | some true => fb s
  | some false => .ok d s
  | none => .stuck := rfl
@[simp] theorem ev_eOr (fa fb : S → R D) (s : S) : eOr fa fb s = (fa s).bind fun d s => match truthD d with
  | some true => .ok d s
  | some false => fb s
  | none => .stuck := rfl
@[simp] theorem ev_eNot (f : S → R D) (s : S) : eNot f s = (f s).bind fun d s => match truthD d with
  | some k => .ok (.bl (!k)) s
  | none => .stuck := rfl
@[simp] theorem ev_eIf (c : S → R Bool) (fa fb : S → R D) (s : S) : eIf c fa fb s = (c s).bind fun k s => if k = true then fa s else fb s := rfl
@[simp] theorem ev_isi (t : Ty) (f : S → R D) (s : S) : eIsi t f s = (f s).bind fun d s => match isiD t d with
  | some b => .ok (.bl b) s
  | none => .stuck := rfl
@[simp] theorem ev_aNil (s : S) : aNil s = .ok [] s := rfl
@[simp] theorem ev_aCons (f : S → R D) (g : S → R (List D)) (s : S) : aCons f g s = (f s).bind fun d s => (g s).bind fun ds s => .ok (d :: ds) s := rfl
@[simp] theorem ev_call (g : List D → Option D) (fs : S → R (List D)) (s : S) : eCall g fs s = (fs s).bind fun ds s => match g ds with
  | some d => .ok d s
  | none => .stuck := rfl
@[simp] theorem ev_fn (F : List D → List MO → Rf) (fs : S → R (List D)) (s : S) : eFn F fs s = (fs s).bind fun ds s => match F ds s.mem with
  | .ok d m => .ok d ⟨s.env, m⟩
  | .err x m => .err x m
  | .stuck => .stuck := rfl
@[simp] theorem ev_tup (fs : S → R (List D)) (s : S) : eTup fs s = (fs s).bind fun ds s => if few ds = true then .ok (.tup ds) s else .stuck := rfl
@[simp] theorem ev_lst (fs : S → R (List D)) (s : S) : eLst fs s = (fs s).bind fun ds s => if few ds = true then .ok (.lst ds) s else .stuck := rfl
@[simp] theorem ev_few (ds : List D) : few ds = decide (ds.length ≤ 16777216) := rfl
@[simp] theorem ev_frz (f : S → R MO) (s : S) : eFrz f s = (f s).bind fun o s => .ok o.toD s := rfl
@[simp] theorem ev_toDl (xs : List D) : MO.toD (.lst xs) = .lst xs := rfl
@[simp] theorem ev_toDd (ks : List Key) (xs : List D) : MO.toD (.dct ks xs) = .dct ks xs := rfl
@[simp] theorem ev_oNo (s : S) : oNo s = .ok none s := rfl
@[simp] theorem ev_oSm (f : S → R D) (s : S) : oSm f s = (f s).bind fun d s => match d with
  | .int i => .ok (some i) s
  | _ => .stuck := rfl
@[simp] theorem ev_sl (fe : S → R D) (fl fh : S → R (Option Int)) (s : S) : eSl fe fl fh s = (fe s).bind fun d s => (fl s).bind fun lo s => (fh s).bind fun hi s => match slD d lo hi with
  | some e => .ok e s
  | none => .stuck := rfl
@[simp] theorem ev_any (f : S → R D) (s : S) : iAny f s = (f s).bind fun d s => match itemsA d with
  | some ds => .ok ds s
  | none => .stuck := rfl
@[simp] theorem ev_lc (vs : List Nat) (t : Tgt) (fi : S → R (List D)) (ft : S → R Bool) (fe : S → R D) (s : S) : eLc vs t fi ft fe s =
  (fi s).bind fun ds s => if few ds = true then (lcItems vs t ft fe ds s).bind fun ys s => .ok (.lst ys) s else .stuck := rfl
@[simp] theorem ev_lc_nil (vs : List Nat) (t : Tgt) (ft : S → R Bool) (fe : S → R D) (s : S) : lcItems vs t ft fe [] s = .ok [] s := rfl
@[simp] theorem ev_yes (s : S) : tYesD s = .ok true s := rfl
@[simp] theorem ev_asg (fe : S → R D) (g : D → S → Option S) (s : S) : sAsg fe g s = (fe s).stm fun d s => match g d s with
  | some s => .next s
  | none => .stuck := rfl
@[simp] theorem ev_gNm (i : Nat) (d : D) (s : S) : gNm i d s = some ⟨s.env.set i (some (.val d)), s.mem⟩ := rfl
@[simp] theorem ev_gTp (n : Nat) (g : List D → S → Option S) (ds : List D) (s : S) : gTp n g (.tup ds) s = if ds.length = n then g ds s else none := rfl
@[simp] theorem ev_gNil (s : S) : PM.gNil [] s = some s := rfl
@[simp] theorem ev_gCons (f : D → S → Option S) (g : List D → S → Option S) (d : D) (ds : List D) (s : S) : PM.gCons f g (d :: ds) s = match f d s with
  | some s => g ds s
  | none => none := rfl
@[simp] theorem ev_par (i j : Nat) (fs : S → R (List D)) (s : S) : sPar i j fs s = (fs s).stm fun ds s => match ds with
  | [d, e] => .next ⟨(s.env.set i (some (.val d))).set j (some (.val e)), s.mem⟩
  | _ => .stuck := rfl
@[simp] theorem ev_par3 (i j l : Nat) (fs : S → R (List D)) (s : S) : sPar3 i j l fs s = (fs s).stm fun ds s => match ds with
  | [d, e, f] => .next ⟨((s.env.set i (some (.val d))).set j (some (.val e))).set l (some (.val f)), s.mem⟩
  | _ => .stuck := rfl
/-! on data -/
@[simp] theorem ev_ix_tup (xs : List D) (i : Int) : ixSq (.tup xs) (.int i) = atI xs i := rfl
@[simp] theorem ev_ix_lst (xs : List D) (i : Int) : ixSq (.lst xs) (.int i) = atI xs i := rfl
@[simp] theorem ev_ix_frz (xs : List D) (i : Int) : ixSq (.frz xs) (.int i) = atI xs i := rfl
@[simp] theorem ev_at0 (x : D) (xs : List D) : atI (x :: xs) 0 = some x := by
  unfold atI ixN; simp
theorem at_nat {xs : List D} {n : Nat} {d : D} (h : xs[n]? = some d) : atI xs (n : Int) = some d := by
  have hl : n < xs.length := (List.getElem?_eq_some_iff.mp h).1
  unfold atI ixN
  rw [if_pos (by omega), if_pos (by omega)]
  exact h
@[simp] theorem ev_at1 (x y : D) (xs : List D) : atI (x :: y :: xs) 1 = some y := at_nat (n := 1) rfl
@[simp] theorem ev_at2 (x y z : D) (xs : List D) : atI (x :: y :: z :: xs) 2 = some z := at_nat (n := 2) rfl
@[simp] theorem ev_at3 (x y z u : D) (xs : List D) : atI (x :: y :: z :: u :: xs) 3 = some u := at_nat (n := 3) rfl
@[simp] theorem ev_len_tup (xs : List D) : lenD [.tup xs] = some (.int xs.length) := rfl
@[simp] theorem ev_len_lst (xs : List D) : lenD [.lst xs] = some (.int xs.length) := rfl
@[simp] theorem ev_len_frz (xs : List D) : lenD [.frz xs] = some (.int xs.length) := rfl
@[simp] theorem ev_lt (i j : Int) : ltD (.int i) (.int j) = some (.bl (decide (i < j))) := rfl
@[simp] theorem ev_le (i j : Int) : leD (.int i) (.int j) = some (.bl (decide (i ≤ j))) := rfl
@[simp] theorem ev_gt (i j : Int) : gtD (.int i) (.int j) = some (.bl (decide (j < i))) := rfl
@[simp] theorem ev_ge (i j : Int) : geD (.int i) (.int j) = some (.bl (decide (j ≤ i))) := rfl
@[simp] theorem ev_isN (a : D) : isD a .non = some (.bl (isNonD a)) := rfl
@[simp] theorem ev_isnN (a : D) : isnD a .non = some (.bl (!isNonD a)) := rfl
@[simp] theorem ev_isB (a : D) (c : Bool) : isD a (.bl c) = some (.bl (isBlD c a)) := rfl
@[simp] theorem ev_isnB (a : D) (c : Bool) : isnD a (.bl c) = some (.bl (!isBlD c a)) := rfl
theorem shaped_str {z : Str} (h : PyData.strOk z = true) : SeqAt.shaped (.str z) = true := by
  unfold SeqAt.shaped
  simp [PyData.canLay0, PyData.depth, h]
theorem shaped_int (z : Int) : SeqAt.shaped (.int z) = true := by
  unfold SeqAt.shaped
  simp [PyData.canLay0, PyData.depth]
@[simp] theorem ev_eq_str {x y : Str} (hx : PyData.strOk x = true) (hy : PyData.strOk y = true) : eqD (.str x) (.str y) = some (.bl (x == y)) := by
  unfold eqD eqvD
  simp [toPy, shaped_str hx, shaped_str hy, PyData.eqv]
@[simp] theorem ev_ne_str {x y : Str} (hx : PyData.strOk x = true) (hy : PyData.strOk y = true) : neD (.str x) (.str y) = some (.bl (!(x == y))) := by
  unfold neD eqvD
  simp [toPy, shaped_str hx, shaped_str hy, PyData.eqv]
theorem map_toNat : ∀ {a b : List Char}, a.map Char.toNat = b.map Char.toNat → a = b
  | [], [], _ => rfl
  | [], _ :: _, h => by simp at h
  | _ :: _, [], h => by simp at h
  | x :: a, y :: b, h => by
    simp only [List.map_cons, List.cons.injEq] at h
    rw [map_toNat h.2, Char.toNat_inj.mp h.1]
@[simp] theorem so_inj (a b : String) : (PySem.Str.ofString a = PySem.Str.ofString b) = (a = b) := by
  apply propext
  constructor
  · intro h
    rw [PySem.Str.ofString_eq_toList, PySem.Str.ofString_eq_toList] at h
    have h2 := congrArg (fun s : Str => s.cps.toList) h
    simp only [] at h2
    exact String.toList_inj.mp (map_toNat h2)
  · rintro rfl; rfl
@[simp] theorem so_beq (a b : String) : (PySem.Str.ofString a == PySem.Str.ofString b) = decide (a = b) := by
  by_cases h : a = b
  · subst h; simp
  · rw [decide_eq_false h, beq_eq_false_iff_ne]
    intro z
    rw [so_inj] at z
    exact h z
@[simp] theorem so_ok (a : String) : PyData.strOk (PySem.Str.ofString a) = true := by
  unfold PyData.strOk
  rw [PySem.Str.ofString_eq_toList]
  simp only [List.all_toArray, List.all_map, List.all_eq_true]
  intro c _
  have := c.valid
  simp only [Function.comp, decide_eq_true_eq]
  rcases this with h | ⟨_, h⟩
  · have : c.toNat < 0xd800 := h
    omega
  · exact h
@[simp] theorem ev_eq_int (x y : Int) : eqD (.int x) (.int y) = some (.bl (x == y)) := by
  unfold eqD eqvD
  simp [toPy, shaped_int, PyData.eqv]
@[simp] theorem ev_ne_int (x y : Int) : neD (.int x) (.int y) = some (.bl (!(x == y))) := by
  unfold neD eqvD
  simp [toPy, shaped_int, PyData.eqv]
@[simp] theorem ev_tt (b : Bool) : truthD (.bl b) = some b := rfl
@[simp] theorem ev_it_tup (xs : List D) : itemsA (.tup xs) = some xs := rfl
@[simp] theorem ev_it_lst (xs : List D) : itemsA (.lst xs) = some xs := rfl
@[simp] theorem ev_it_frz (xs : List D) : itemsA (.frz xs) = some xs := rfl
end PM
end

section
set_option Elab.async false
set_option linter.all false
set_option maxRecDepth 100000
set_option maxHeartbeats 4000000
namespace K02
open PySem PySem.Spec L2 PM
/-! ### draws -/
def boxM (dg : List Int) (at' : Int) : List MO := [MO.lst [.lst (dg.map .int), .int at']]
theorem draw {cl : Cl} {dg : List Int} {p n : Int} (h0 : 0 ≤ p) (h1 : p < 2 ^ 60) (hn : 0 < n) : ∃ v, fnD 4 (body__law_draw cl) [.ref 0, .int n] (boxM dg p) = .ok (.int v) (boxM dg (p + 1)) ∧ 0 ≤ v ∧ v < n := by
  by_cases hl : p < (dg.length : Int)
  · have hj : p.toNat < dg.length := by omega
    have hg : atI (dg.map D.int) p = some (.int dg[p.toNat]) := by
      have := at_nat (xs := dg.map D.int) (n := p.toNat) (d := .int dg[p.toNat]) (by rw [List.getElem?_map, List.getElem?_eq_getElem hj]; rfl)
      rwa [show ((p.toNat : Nat) : Int) = p by omega] at this
    refine ⟨dg[p.toNat] % n, ?_, Int.emod_nonneg _ (by omega), Int.emod_lt_of_pos _ hn⟩
    simp [fnD, body__law_draw, boxM, R.bind, R.stm, PM.gUn, memL, addD, sSetIx, setIxM, ixN, hl, modD, hn, hg]
  · refine ⟨(p * p * 3 + p * 4 + p / 3 + 1) % n, ?_, Int.emod_nonneg _ (by omega), Int.emod_lt_of_pos _ hn⟩
    have c1 : CMul p p := .inl ⟨by omega, by omega⟩
    have c2 : CMul (p * p) 3 := .inr ⟨by decide, by decide⟩
    have c3 : CMul p 4 := .inl ⟨by omega, by omega⟩
    have c4 : CDiv p 3 := by unfold CDiv; decide
    simp [fnD, body__law_draw, boxM, R.bind, R.stm, PM.gUn, memL, addD, sSetIx, setIxM, ixN, hl, modD, hn, mulD, fdivD, c1, c2, c3, c4]
/-- the box, at most b draws were made -/
def Bx (dg : List Int) (b : Nat) (m : List MO) : Prop := ∃ p : Int, m = boxM dg p ∧ 0 ≤ p ∧ p ≤ b
theorem Bx.mono {dg : List Int} {b c : Nat} {m : List MO} (B : Bx dg b m) (h : b ≤ c) : Bx dg c m := let ⟨p, e, h1, h2⟩ := B; ⟨p, e, h1, by omega⟩
abbrev Fd := List D → List MO → Rf
def DrawOk (dg : List Int) (F : Fd) : Prop := ∀ (b : Nat) (m : List MO) (n : Int), Bx dg b m → b < 2 ^ 59 → 0 < n → ∃ v m', F [.ref 0, .int n] m = .ok (.int v) m' ∧ 0 ≤ v ∧ v < n ∧ Bx dg (b + 1) m'
theorem draw_ok (dg : List Int) (k : Nat) : DrawOk dg (prog (k + 1) 45) := by
  rintro b m n ⟨p, rfl, h0, h1⟩ hb hn
  obtain ⟨v, e, h2, h3⟩ := draw (cl := prog k) (dg := dg) h0 (by omega) hn
  exact ⟨v, _, e, h2, h3, p + 1, rfl, by omega, by omega⟩
def PickOk (dg : List Int) (F : Fd) : Prop := ∀ (b : Nat) (m : List MO) (xs : List D), Bx dg b m → b < 2 ^ 59 → xs ≠ [] → ∃ d m', F [.ref 0, .lst xs] m = .ok d m' ∧ d ∈ xs ∧ Bx dg (b + 1) m'
theorem pick_ok {dg : List Int} {cl : Cl} (hd : DrawOk dg (cl 45)) : PickOk dg (fnD 2 (body__law_pick cl)) := by
  intro b m xs B hb hx
  have hl : 0 < xs.length := List.length_pos_iff.mpr hx
  obtain ⟨v, m', e, h1, h2, B'⟩ := hd b m xs.length B hb (by omega)
  have hj : v.toNat < xs.length := by omega
  have hg : atI xs v = some xs[v.toNat] := by
    have := at_nat (xs := xs) (n := v.toNat) (d := xs[v.toNat]) (List.getElem?_eq_getElem hj)
    rwa [show ((v.toNat : Nat) : Int) = v by omega] at this
  refine ⟨xs[v.toNat], m', ?_, List.getElem_mem hj, B'⟩
  simp [fnD, body__law_pick, R.bind, R.stm, e, hg]
/-! ### rows -/
def sA : D := .tup [.str "things", .str "a"]
def sL : D := .tup [.str "list", sA]
def sS : D := .tup [.str "set", sA]
abbrev Row := String × List D × D
def rowD (r : Row) : D := .tup [.str (PySem.Str.ofString r.1), .tup r.2.1, r.2.2]
def allRows : List Row := [("x", [], sA), ("y", [], sA), ("z", [], sA), ("f", [sA], sA), ("g", [sA, sA], sA), ("l", [], sL), ("m", [], sL), ("h", [sL], sA), ("k", [sA], sL), ("s", [], sS), ("t", [], sS), ("p", [sA], sS), ("q", [sS], sA)]
theorem unknowns_ok (k : Nat) (m : List MO) : prog (k + 1) 47 [] m = .ok (.lst (allRows.map rowD)) m := rfl
theorem rest_set {env : List (Option Cell)} {i : Nat} {c2 : Option Cell} (hl : i < env.length) : restE env (env.set i c2) [i] = env := by
  show (env.set i c2).set i (env.getD i none) = env
  rw [List.set_set]
  have : env.getD i none = env[i] := by rw [List.getD_eq_getElem?_getD, List.getElem?_eq_getElem hl]; rfl
  rw [this, List.set_getElem_self]
theorem lc_draw {dg : List Int} {F : Fd} (hd : DrawOk dg F) {n : Int} (hn : 0 < n) {i : Nat} {env : List (Option Cell)} (h0 : env[0]? = some (some (.val (.ref 0)))) (hi : i ≠ 0) (hl : i < env.length) (hno : noOwn env [i] = true) : ∀ (ds : List D) (b : Nat) (m : List MO), Bx dg b m → b + ds.length < 2 ^ 59 →
    ∃ ys m', lcItems [i] (.nm i) (eBl (eOp eqD (eFn (fun ds m => if ds.length = 2 then F ds m else .stuck) (aCons (eLoc 0) (aCons (eC (.int n)) aNil))) (eC (.int 0)))) (eLoc i) ds ⟨env, m⟩ = .ok ys ⟨env, m'⟩ ∧ ys.Sublist ds ∧ Bx dg (b + ds.length) m'
  | [], b, m, B, _ => ⟨[], m, rfl, .slnil, B⟩
  | d :: ds, b, m, B, hb => by
    simp only [List.length_cons] at hb ⊢
    obtain ⟨v, m1, e, h1, h2, B1⟩ := hd b m n B (by omega) hn
    obtain ⟨ys, m2, e2, sub, B2⟩ := lc_draw hd hn h0 hi hl hno ds (b + 1) m1 B1 (by omega)
    have g0 : (env.set i (some (Cell.val d)))[0]? = some (some (.val (.ref 0))) := by
      rw [List.getElem?_set_ne hi, h0]
    have gi : (env.set i (some (Cell.val d)))[i]? = some (some (.val d)) := List.getElem?_set_self hl
    have r := rest_set (c2 := some (Cell.val d)) hl
    have B3 : Bx dg (b + (ds.length + 1)) m2 := B2.mono (by omega)
    by_cases hv : v = 0
    · refine ⟨d :: ys, m2, ?_, sub.cons_cons d, B3⟩
      unfold lcItems
      simp [hno, tgD, wipeE, R.bind, g0, gi, e, hv, r, e2]
    · refine ⟨ys, m2, ?_, sub.cons d, B3⟩
      have hv' : (v == 0) = false := by simpa using hv
      unfold lcItems
      simp [hno, tgD, wipeE, R.bind, g0, gi, e, hv', r, e2]
def xRow : Row := ("x", [], sA)
def SomeOk (dg : List Int) (F : Fd) : Prop := ∀ (b : Nat) (m : List MO), Bx dg b m → b < 2 ^ 58 → ∃ (rows : List Row) (m' : List MO), F [.ref 0] m = .ok (.lst ((xRow :: rows).map rowD)) m' ∧ (xRow :: rows).Sublist allRows ∧ Bx dg (b + 12) m'
theorem sub_rows {ys : List D} {rb : List Row} (h : ys.Sublist (rb.map rowD)) : ∃ zs : List Row, ys = zs.map rowD ∧ zs.Sublist rb := by
  obtain ⟨zs, h1, h2⟩ := List.sublist_map_iff.mp h
  exact ⟨zs, h2, h1⟩
theorem some_blk {dg : List Int} {F : Fd} (hd : DrawOk dg F) {RR : List D} {a b c d n : Int} {ra rb ks : List Row} (hsa : slD (.lst RR) (some a) (some b) = some (.lst (ra.map rowD))) (hsb : slD (.lst RR) (some c) (some d) = some (.lst (rb.map rowD))) (hn : 0 < n) (hz : ks.length + ra.length + rb.length ≤ 100) {b0 : Nat} {m : List MO} (B : Bx dg b0 m) (hb : b0 < 2 ^ 58 + 1000) :
    ∃ ks' m', sIf (eBl (eOp eqD (eFn (fun ds m => if ds.length = 2 then F ds m else .stuck) (aCons (eLoc 0) (aCons (eC (.int (2))) aNil))) (eC (.int (0)))))
      (sSet 2 (eOp addD (eOp addD (eLoc 2) (eSl (eLoc 1) (oSm (eC (.int a))) (oSm (eC (.int b))))) (eFrz (eLc [3] (.nm 3) (iAny (eSl (eLoc 1) (oSm (eC (.int c))) (oSm (eC (.int d))))) (eBl (eOp eqD (eFn (fun ds m => if ds.length = 2 then F ds m else .stuck) (aCons (eLoc 0) (aCons (eC (.int n)) aNil))) (eC (.int (0))))) (eLoc 3)))))
      sNil ⟨[some (.val (.ref 0)), some (.val (.lst RR)), some (.val (.lst (ks.map rowD))), none], m⟩ = .next ⟨[some (.val (.ref 0)), some (.val (.lst RR)), some (.val (.lst (ks'.map rowD))), none], m'⟩ ∧
      (ks' = ks ∨ ∃ ys : List Row, ys.Sublist rb ∧ ks' = ks ++ ra ++ ys) ∧ Bx dg (b0 + 1 + rb.length) m' := by
  obtain ⟨v, m1, e1, h1, h1', B1⟩ := hd _ m 2 B (by omega) (by decide)
  by_cases hv : v = 0
  · obtain ⟨ys, m2, e2, sub, B2⟩ := lc_draw hd hn (i := 3) (env := [some (.val (.ref 0)), some (.val (.lst RR)), some (.val (.lst (ks.map rowD))), none]) rfl (by decide) (by simp) rfl (rb.map rowD) (b0 + 1) m1 B1 (by rw [List.length_map]; omega)
    obtain ⟨zs, rfl, sub'⟩ := sub_rows sub
    have kz := sub'.length_le
    rw [List.length_map] at B2
    refine ⟨ks ++ ra ++ zs, m2, ?_, .inr ⟨zs, sub', rfl⟩, B2⟩
    have c1 : ks.length + ra.length ≤ sizeLine := by rw [sizeLine_eq]; omega
    have c2 : ks.length + ra.length + zs.length ≤ sizeLine := by rw [sizeLine_eq]; omega
    have c3 : rb.length ≤ 16777216 := by omega
    have c2' : ks.length + (ra.length + zs.length) ≤ sizeLine := by rw [sizeLine_eq]; omega
    simp [R.bind, R.stm, e1, hv, hsa, hsb, e2, addD, c1, c2, c2', c3]
  · have hv' : (v == 0) = false := by simpa using hv
    refine ⟨ks, m1, ?_, .inl rfl, B1.mono (by omega)⟩
    simp [R.bind, R.stm, e1, hv']
theorem some_ok {dg : List Int} {cl : Cl} (hd : DrawOk dg (cl 45)) (hu : ∀ m, cl 47 [] m = .ok (.lst (allRows.map rowD)) m) : SomeOk dg (fnD 4 (body__law_some cl)) := by
  intro b m B hb
  obtain ⟨RR, hR⟩ : ∃ RR, RR = allRows.map rowD := ⟨_, rfl⟩
  have s15 : slD (.lst RR) (some 1) (some 5) = some (.lst ((allRows.take 5).drop 1 |>.map rowD)) := by subst hR; rfl
  have s56 : slD (.lst RR) (some 5) (some 6) = some (.lst ((allRows.take 6).drop 5 |>.map rowD)) := by subst hR; rfl
  have s69 : slD (.lst RR) (some 6) (some 9) = some (.lst ((allRows.take 9).drop 6 |>.map rowD)) := by subst hR; rfl
  have s90 : slD (.lst RR) (some 9) (some 10) = some (.lst ((allRows.take 10).drop 9 |>.map rowD)) := by subst hR; rfl
  have s03 : slD (.lst RR) (some 10) (some 13) = some (.lst ((allRows.take 13).drop 10 |>.map rowD)) := by subst hR; rfl
  have a0 : atI RR 0 = some (rowD xRow) := by subst hR; rfl
  obtain ⟨R1, hR1, l1⟩ : ∃ x, x = ((allRows.take 5).drop 1 |>.map rowD) ∧ x.length = 4 := ⟨_, rfl, rfl⟩
  rw [← hR1] at s15
  obtain ⟨ys1, m1, e1, sub1, B1⟩ := lc_draw hd (n := 2) (by decide) (i := 3) (env := [some (.val (.ref 0)), some (.val (.lst RR)), none, none]) rfl (by decide) (by simp) rfl R1 b m B (by omega)
  rw [hR1] at sub1
  rw [l1] at B1
  obtain ⟨zs1, rfl, sub1'⟩ := sub_rows sub1
  have k1 : zs1.length ≤ 4 := sub1'.length_le
  obtain ⟨ks2, m2, e2, q2, B2⟩ := some_blk hd s56 s69 (n := 2) (by decide) (ks := xRow :: zs1) (by show zs1.length + 1 + 1 + 3 ≤ _; omega) B1 (by show b + 4 < _; omega)
  have k2 : ks2.length ≤ 9 := by
    rcases q2 with rfl | ⟨ys, h, rfl⟩
    · show zs1.length + 1 ≤ 9; omega
    · have := h.length_le
      simp only [List.length_append, List.length_cons]
      have h3 : ((allRows.take 9).drop 6).length = 3 := rfl
      have h1 : ((allRows.take 6).drop 5).length = 1 := rfl
      omega
  obtain ⟨ks3, m3, e3, q3, B3⟩ := some_blk hd s90 s03 (n := 3) (by decide) (ks := ks2) (by show ks2.length + 1 + 3 ≤ _; omega) B2 (by show b + 4 + 1 + 3 < _; omega)
  have sub : ks3.Sublist allRows := by
    have base : (xRow :: zs1).Sublist (allRows.take 5) := sub1'.cons_cons xRow
    have two : ks2.Sublist (allRows.take 9) := by
      rcases q2 with rfl | ⟨ys, h, rfl⟩
      · exact base.trans (List.take_sublist_take_left (by decide))
      · exact (base.append (List.Sublist.refl ((allRows.take 6).drop 5))).append h
    rcases q3 with rfl | ⟨ys, h, rfl⟩
    · exact two.trans (List.take_sublist _ _)
    · exact (two.append (List.Sublist.refl ((allRows.take 10).drop 9))).append h
  have hx : ∃ rest, ks3 = xRow :: rest := by
    rcases q2 with rfl | ⟨ys, h, rfl⟩ <;> rcases q3 with rfl | ⟨ys', h', rfl⟩ <;> exact ⟨_, rfl⟩
  obtain ⟨rest, rfl⟩ := hx
  refine ⟨rest, m3, ?_, sub, B3.mono (by show b + 4 + 1 + 3 + 1 + 3 ≤ _; omega)⟩
  have c1 : 1 + zs1.length ≤ 16777216 := by omega
  rw [← hR] at hu
  simp only [List.map_cons] at e2 e3
  simp [-ev_if, fnD, body__law_some, R.bind, R.stm, hu, a0, s15, e1, addD, c1, l1, sizeLine_eq, e2, e3]
end K02
end

section
set_option Elab.async false
set_option linter.all false
set_option maxRecDepth 100000
set_option maxHeartbeats 4000000
namespace K02
open PySem PySem.Spec L2 PM
/-! ### terms -/
def unT (nm : String) (xs : List D) : D := .tup [.str "un", .str (PySem.Str.ofString nm), .tup xs]
def setD (e : D) : D := .tup [.str "set", e]
inductive Tm (rows : List Row) : Nat → D → D → Prop
  | un0 {n nm s} : (nm, [], s) ∈ rows → Tm rows n s (unT nm [])
  | un1 {n nm p s x} : (nm, [p], s) ∈ rows → Tm rows n p x → Tm rows (n + 1) s (unT nm [x])
  | un2 {n nm p q s x y} : (nm, [p, q], s) ∈ rows → Tm rows n p x → Tm rows n q y → Tm rows (n + 1) s (unT nm [x, y])
  | nil {n} : Tm rows n sL (.tup [.str "nil", sA])
  | none {n e} : e = sA ∨ e = sL → Tm rows n (setD e) (.tup [.str "none", e])
  | cons {n h t} : Tm rows n sA h → Tm rows n sL t → Tm rows (n + 1) sL (.tup [.str "cons", h, t])
  | one {n x e} : e = sA ∨ e = sL → Tm rows n e x → Tm rows (n + 1) (setD e) (.tup [.str "one", x])
  | two {n w x y e} : w ∈ ["join", "meet", "without"] → e = sA ∨ e = sL → Tm rows n (setD e) x → Tm rows n (setD e) y → Tm rows (n + 1) (setD e) (.tup [.str (PySem.Str.ofString w), x, y])
theorem three {s : D} (h : s = sA ∨ s = sL ∨ s = sS) {P : D → Prop} (a : P sA) (b : P sL) (c : P sS) : P s := by
  rcases h with rfl | rfl | rfl <;> assumption
abbrev S3 (s : D) : Prop := s = sA ∨ s = sL ∨ s = sS
theorem row_sort {r : Row} (h : r ∈ allRows) : S3 r.2.2 := by
  simp only [allRows, List.mem_cons, List.not_mem_nil, or_false] at h
  rcases h with rfl | rfl | rfl | rfl | rfl | rfl | rfl | rfl | rfl | rfl | rfl | rfl | rfl <;> simp [S3]
theorem row_places {r : Row} (h : r ∈ allRows) : r.2.1 = [] ∨ (∃ p, r.2.1 = [p] ∧ S3 p) ∨ r.2.1 = [sA, sA] := by
  simp only [allRows, List.mem_cons, List.not_mem_nil, or_false] at h
  rcases h with rfl | rfl | rfl | rfl | rfl | rfl | rfl | rfl | rfl | rfl | rfl | rfl | rfl <;> simp [S3]
theorem ne_AL : sA ≠ sL := by simp [sA, sL]
theorem ne_AS : sA ≠ sS := by simp [sA, sS]
theorem ne_LS : sL ≠ sS := by simp [sL, sS]
theorem eq_sorts {s s' : D} (h : S3 s) (h' : S3 s') : ∃ b, eqD s s' = some (.bl b) ∧ (b = true ↔ s = s') := by
  rcases h with rfl | rfl | rfl <;> rcases h' with rfl | rfl | rfl
  · exact ⟨true, by kernel_rfl, by simp⟩
  · exact ⟨false, by kernel_rfl, by simp [ne_AL]⟩
  · exact ⟨false, by kernel_rfl, by simp [ne_AS]⟩
  · exact ⟨false, by kernel_rfl, by simp [ne_AL.symm]⟩
  · exact ⟨true, by kernel_rfl, by simp⟩
  · exact ⟨false, by kernel_rfl, by simp [ne_LS]⟩
  · exact ⟨false, by kernel_rfl, by simp [ne_AS.symm]⟩
  · exact ⟨false, by kernel_rfl, by simp [ne_LS.symm]⟩
  · exact ⟨true, by kernel_rfl, by simp⟩
theorem eq_places {r : Row} (h : r ∈ allRows) : ∃ b, eqD (.tup r.2.1) (.tup []) = some (.bl b) ∧ (b = true ↔ r.2.1 = []) := by
  rcases row_places h with e | ⟨p, e, hp⟩ | e <;> rw [e]
  · exact ⟨true, by kernel_rfl, by simp⟩
  · refine ⟨false, ?_, by simp⟩
    rcases hp with rfl | rfl | rfl <;> kernel_rfl
  · exact ⟨false, by kernel_rfl, by simp⟩
/-- a row's data -/
theorem row_py {r : Row} (h : r ∈ allRows) : ∃ p, toPy (rowD r) = some p ∧ p.canLay0 = true ∧ p.depth ≤ 5 := by
  simp only [allRows, List.mem_cons, List.not_mem_nil, or_false] at h
  rcases h with rfl | rfl | rfl | rfl | rfl | rfl | rfl | rfl | rfl | rfl | rfl | rfl | rfl <;> exact ⟨_, rfl, by simp [PyData.canLay0, PyData.canLayAll0], by simp [PyData.depth, PyData.depthAll]⟩
theorem rows_py : ∀ {fs : List Row}, (∀ r ∈ fs, r ∈ allRows) → ∃ ps, toPyL (fs.map rowD) = some ps ∧ PyData.canLayAll0 ps = true ∧ PyData.depthAll ps ≤ 5 ∧ ps.length = fs.length
  | [], _ => ⟨[], rfl, rfl, by simp [PyData.depthAll], rfl⟩
  | r :: fs, h => by
    obtain ⟨p, e1, c1, d1⟩ := row_py (h r List.mem_cons_self)
    obtain ⟨ps, e2, c2, d2, l2⟩ := rows_py fun x hx => h x (List.mem_cons_of_mem r hx)
    refine ⟨p :: ps, ?_, ?_, ?_, by simp [l2]⟩
    · simp only [List.map_cons, toPyL, e1, e2]
    · simp only [PyData.canLayAll0, c1, c2, Bool.and_self]
    · simp only [PyData.depthAll]; omega
theorem eq_fit {fs : List Row} (h : ∀ r ∈ fs, r ∈ allRows) : eqD (.lst (fs.map rowD)) (.lst []) = some (.bl fs.isEmpty) := by
  obtain ⟨ps, e, c, d, l⟩ := rows_py h
  have s1 : SeqAt.shaped (.list ps) = true := by
    unfold SeqAt.shaped
    simp [PyData.canLay0, PyData.depth, c]; omega
  have s2 : SeqAt.shaped (.list []) = true := by
    unfold SeqAt.shaped
    simp [PyData.canLay0, PyData.depth, PyData.canLayAll0, PyData.depthAll]
  unfold eqD eqvD
  simp only [toPy, e, toPyL, Option.map_some, s1, s2, and_self, if_true]
  cases ps with
  | nil => cases fs with
    | nil => simp [PyData.eqv, PyData.eqvAll]
    | cons _ _ => simp at l
  | cons p ps => cases fs with
    | nil => simp at l
    | cons _ _ => simp [PyData.eqv, PyData.eqvAll]
theorem ne_fit {fs : List Row} (h : ∀ r ∈ fs, r ∈ allRows) : neD (.lst (fs.map rowD)) (.lst []) = some (.bl (!fs.isEmpty)) := by
  have := eq_fit h
  unfold eqD at this
  unfold neD
  cases e : eqvD (.lst (fs.map rowD)) (.lst []) with
  | none => rw [e] at this; cases this
  | some b => rw [e] at this; simp only [Option.map_some, Option.some.injEq, D.bl.injEq] at this; rw [this]; rfl
/-! ### drawn terms -/
theorem lc_fit {s : D} {n : Int} {env : List (Option Cell)} (hs : S3 s) (h2 : env[2]? = some (some (.val s))) (h3 : env[3]? = some (some (.val (.int n)))) (hl : 10 < env.length) (hno : noOwn env [10] = true) : ∀ (rows : List Row) (m : List MO), (∀ r ∈ rows, r ∈ allRows) →
    ∃ fs : List Row, lcItems [10] (.nm 10) (tAndD (eBl (eOp eqD (eOp ixSq (eLoc 10) (eC (.int (2)))) (eLoc 2))) (tOrD (eBl (eOp eqD (eOp ixSq (eLoc 10) (eC (.int (1)))) (eTup aNil))) (eBl (eOp gtD (eLoc 3) (eC (.int (0))))))) (eLoc 10) (rows.map rowD) ⟨env, m⟩ = .ok (fs.map rowD) ⟨env, m⟩ ∧
      fs.Sublist rows ∧ (∀ r ∈ fs, r.2.2 = s ∧ (r.2.1 = [] ∨ 0 < n)) ∧ (∀ r ∈ rows, r.2.2 = s → r.2.1 = [] → r ∈ fs)
  | [], m, _ => ⟨[], rfl, .slnil, by simp, by simp⟩
  | r :: rows, m, h => by
    obtain ⟨fs, e, sub, q1, q2⟩ := lc_fit hs h2 h3 hl hno rows m fun x hx => h x (List.mem_cons_of_mem r hx)
    have hr := h r List.mem_cons_self
    obtain ⟨b1, e1, i1⟩ := eq_sorts (row_sort hr) hs
    obtain ⟨b2, e2, i2⟩ := eq_places hr
    have g2 : (env.set 10 (some (Cell.val (rowD r))))[2]? = some (some (.val s)) := by rw [List.getElem?_set_ne (by decide), h2]
    have g3 : (env.set 10 (some (Cell.val (rowD r))))[3]? = some (some (.val (.int n))) := by rw [List.getElem?_set_ne (by decide), h3]
    have gi : (env.set 10 (some (Cell.val (rowD r))))[10]? = some (some (.val (rowD r))) := List.getElem?_set_self hl
    have rr := rest_set (c2 := some (Cell.val (rowD r))) hl
    have x2 : ixSq (rowD r) (.int 2) = some r.2.2 := ev_at2 _ _ _ _
    have x1 : ixSq (rowD r) (.int 1) = some (.tup r.2.1) := ev_at1 _ _ _
    by_cases c1 : b1 = true
    · by_cases c2 : b2 = true ∨ 0 < n
      · refine ⟨r :: fs, ?_, sub.cons_cons r, ?_, ?_⟩
        · rw [List.map_cons, List.map_cons]
          unfold lcItems
          rcases c2 with c2 | c2
          · simp [hno, tgD, wipeE, R.bind, g2, g3, gi, e1, e2, c1, c2, rr, e, x2, x1]
          · simp [hno, tgD, wipeE, R.bind, g2, g3, gi, e1, e2, c1, c2, rr, e, x2, x1]
        · intro x hx
          rcases List.mem_cons.mp hx with rfl | hx
          · exact ⟨i1.mp c1, c2.imp i2.mp id⟩
          · exact q1 x hx
        · intro x hx z1 z2
          rcases List.mem_cons.mp hx with rfl | hx
          · exact List.mem_cons_self
          · exact List.mem_cons_of_mem _ (q2 x hx z1 z2)
      · have c2a : b2 = false := by cases b2 <;> simp_all
        have c2b : ¬ (0 < n) := fun z => c2 (.inr z)
        refine ⟨fs, ?_, sub.cons r, q1, ?_⟩
        · rw [List.map_cons]
          unfold lcItems
          simp [hno, tgD, wipeE, R.bind, g2, g3, gi, e1, e2, c1, c2a, c2b, rr, e, x2, x1]
        · intro x hx z1 z2
          rcases List.mem_cons.mp hx with rfl | hx
          · rw [i2.mpr z2] at c2a; cases c2a
          · exact q2 x hx z1 z2
    · have c1a : b1 = false := by cases b1 <;> simp_all
      refine ⟨fs, ?_, sub.cons r, q1, ?_⟩
      · rw [List.map_cons]
        unfold lcItems
        simp [hno, tgD, wipeE, R.bind, g2, g3, gi, e1, e2, c1a, rr, e, x2, x1]
      · intro x hx z1 z2
        rcases List.mem_cons.mp hx with rfl | hx
        · rw [i1.mpr z1] at c1a; cases c1a
        · exact q2 x hx z1 z2
def tc : Nat → Nat
  | 0 => 2
  | n + 1 => 2 + 2 * tc n
def TermOk (dg : List Int) (F : Fd) (rows : List Row) (RD : D) (n : Nat) : Prop := ∀ (b : Nat) (m : List MO) (s : D), S3 s → Bx dg b m → b + tc n < 2 ^ 57 → ∃ t m', F [.ref 0, RD, s, .int n] m = .ok t m' ∧ Tm rows n s t ∧ Bx dg (b + tc n) m'
structure RowsAt (rows : List Row) (RD : D) : Prop where
  it : itemsA RD = some (rows.map rowD)
  all : ∀ r ∈ rows, r ∈ allRows
  x : xRow ∈ rows
  len : rows.length ≤ 100
theorem tc_le (n : Nat) : 2 ≤ tc n := by cases n <;> simp [tc]
theorem term_un {dg : List Int} {cl : Cl} {rows : List Row} {RD : D} {n : Nat} {s : D} {m : List MO} {b : Nat} {r : Row} (hr : r ∈ rows) (ha : r ∈ allRows) (hs : r.2.2 = s) (hn : r.2.1 = [] ∨ 0 < n) (ih : ∀ j, n = j + 1 → TermOk dg (cl 48) rows RD j) (B : Bx dg b m) (hb : b + (tc n - 2) < 2 ^ 57)
    (htc : tc n ≤ 1000) (x4 x5 x6 x7 x8 x9 x10 : Option Cell) : ∃ xs m', lcItems [11] (.nm 11) tYesD (eFn (fun ds m => if ds.length = 4 then cl 48 ds m else .stuck) (aCons (eLoc 0) (aCons (eLoc 1) (aCons (eLoc 11) (aCons (eOp subD (eLoc 3) (eC (.int (1)))) aNil))))) r.2.1
      ⟨[some (.val (.ref 0)), some (.val RD), some (.val s), some (.val (.int n)), x4, x5, x6, x7, x8, x9, x10, none], m⟩ = .ok xs ⟨[some (.val (.ref 0)), some (.val RD), some (.val s), some (.val (.int n)), x4, x5, x6, x7, x8, x9, x10, none], m'⟩ ∧
      Tm rows n s (unT r.1 xs) ∧ Bx dg (b + (tc n - 2)) m' ∧ xs.length ≤ 2 ∧ r.2.1.length ≤ 2 := by
  obtain ⟨nm, ps, s'⟩ := r
  simp only at hs hn
  subst hs
  rcases row_places ha with e | ⟨p, e, hp⟩ | e
  · simp only at e
    subst e
    exact ⟨[], m, rfl, .un0 hr, B.mono (Nat.le_add_right _ _), by simp, by simp⟩
  · simp only at e
    subst e
    cases n with
    | zero => rcases hn with h | h
              · cases h
              · exact absurd h (Nat.lt_irrefl 0)
    | succ j =>
      obtain ⟨x, m1, e1, T1, B1⟩ := ih j rfl b m p hp B (by simp only [tc] at hb; omega)
      refine ⟨[x], m1, ?_, .un1 hr T1, B1.mono (by simp only [tc]; omega), by simp, by simp⟩
      simp [R.bind, lcItems, noOwn, tgD, wipeE, restE, subD, e1]
  · simp only at e
    subst e
    cases n with
    | zero => rcases hn with h | h
              · cases h
              · exact absurd h (Nat.lt_irrefl 0)
    | succ j =>
      simp only [tc] at htc
      obtain ⟨x, m1, e1, T1, B1⟩ := ih j rfl b m sA (.inl rfl) B (by simp only [tc] at hb; omega)
      obtain ⟨y, m2, e2, T2, B2⟩ := ih j rfl _ m1 sA (.inl rfl) B1 (by simp only [tc] at hb; omega)
      refine ⟨[x, y], m2, ?_, .un2 hr T1 T2, B2.mono (by simp only [tc]; omega), by simp, by simp⟩
      simp [R.bind, lcItems, noOwn, tgD, wipeE, restE, subD, e1, e2]
theorem term_step {dg : List Int} {cl : Cl} (hd : DrawOk dg (cl 45)) (hp : PickOk dg (cl 46)) {rows : List Row} {RD : D} (hR : RowsAt rows RD) (n : Nat) (htc : tc n ≤ 1000) (ih : ∀ j, n = j + 1 → TermOk dg (cl 48) rows RD j) : TermOk dg (fnD 12 (body__law_term cl)) rows RD n := by
  intro b m s hs B hb
  obtain ⟨fs, ef, sub, q1, q2⟩ := lc_fit (n := (n : Int)) (env := [some (.val (.ref 0)), some (.val RD), some (.val s), some (.val (.int n)), none, none, none, none, none, none, none, none]) hs rfl rfl (by simp) rfl rows m hR.all
  obtain ⟨v, m1, ev, hv0, hv4, B1⟩ := hd b m 4 B (by omega) (by decide)
  have fa : ∀ r ∈ fs, r ∈ allRows := fun r hr => hR.all r (sub.subset hr)
  have efit := eq_fit fa
  have l1 : rows.length ≤ 16777216 := by have := hR.len; omega
  have t2 := tc_le n
  have hit := hR.it
  have cn : (0 : Int) ≤ n := by omega
  -- one of those that fit
  have pick : fs ≠ [] → ∃ r xs m2 m3, cl 46 [.ref 0, .lst (fs.map rowD)] m1 = .ok (rowD r) m2 ∧ Tm rows n s (unT r.1 xs) ∧ Bx dg (b + tc n) m3 ∧ xs.length ≤ 2 ∧ r.2.1.length ≤ 2 ∧
      lcItems [11] (.nm 11) tYesD (eFn (fun ds m => if ds.length = 4 then cl 48 ds m else .stuck) (aCons (eLoc 0) (aCons (eLoc 1) (aCons (eLoc 11) (aCons (eOp subD (eLoc 3) (eC (.int (1)))) aNil))))) r.2.1
      ⟨[some (.val (.ref 0)), some (.val RD), some (.val s), some (.val (.int n)), some (.val (.lst (fs.map rowD))), some (.val (.int v)), some (.val (.str (PySem.Str.ofString r.1))), some (.val (.tup r.2.1)), some (.val r.2.2), none, none, none], m2⟩ =
        .ok xs ⟨[some (.val (.ref 0)), some (.val RD), some (.val s), some (.val (.int n)), some (.val (.lst (fs.map rowD))), some (.val (.int v)), some (.val (.str (PySem.Str.ofString r.1))), some (.val (.tup r.2.1)), some (.val r.2.2), none, none, none], m3⟩ := by
    intro hne
    obtain ⟨d, m2, e2, hd2, B2⟩ := hp _ m1 (fs.map rowD) B1 (by omega) (by simpa using hne)
    obtain ⟨r, hr, rfl⟩ := List.mem_map.mp hd2
    obtain ⟨xs, m3, e3, T3, B3, z1, z2⟩ := term_un (sub.subset hr) (fa r hr) (q1 r hr).1 ((q1 r hr).2.imp id fun z => by omega) ih B2 (by omega) htc (some (.val (.lst (fs.map rowD)))) (some (.val (.int v))) (some (.val (.str (PySem.Str.ofString r.1)))) (some (.val (.tup r.2.1))) (some (.val r.2.2)) none none
    exact ⟨r, xs, m2, m3, e2, T3, B3.mono (by omega), z1, z2, e3⟩
  rcases hs with rfl | rfl | rfl
  · -- a thing
    have hne : fs ≠ [] := fun z => by
      have := q2 xRow hR.x rfl rfl
      rw [z] at this; cases this
    have hie : fs.isEmpty = false := by cases fs <;> simp_all
    obtain ⟨r, xs, m2, m3, e2, T3, B3, z1, z2, e3⟩ := pick hne
    have x0 : ixSq sA (.int 0) = some (.str "things") := rfl
    refine ⟨unT r.1 xs, m3, ?_, T3, B3⟩
    have z1' : xs.length ≤ 16777216 := by omega
    have z2' : r.2.1.length ≤ 16777216 := by omega
    rw [hie] at efit
    simp [fnD, body__law_term, R.bind, R.stm, hit, l1, ef, ev, efit, x0, e2, rowD, tupleD, unT, e3, z1', z2']
  · -- a list
    have x0 : ixSq sL (.int 0) = some (.str "list") := rfl
    have x1 : ixSq sL (.int 1) = some sA := rfl
    by_cases c1 : 0 < n ∧ v < 2
    · obtain ⟨j, rfl⟩ : ∃ j, n = j + 1 := ⟨n - 1, by omega⟩
      simp only [tc] at hb htc
      obtain ⟨x, m2, e2, T2, B2⟩ := ih j rfl _ m1 sA (.inl rfl) B1 (by omega)
      obtain ⟨y, m3, e3, T3, B3⟩ := ih j rfl _ m2 sL (.inr (.inl rfl)) B2 (by omega)
      refine ⟨.tup [.str "cons", x, y], m3, ?_, .cons T2 T3, B3.mono (by simp only [tc]; omega)⟩
      have g : (0 : Int) < (j : Int) + 1 := by omega
      simp only [Int.natCast_add, Int.natCast_one] at ef
      simp [fnD, body__law_term, R.bind, R.stm, hit, l1, ef, ev, x0, x1, c1.2, subD, e2, e3, g]
    · by_cases c2 : fs = [] ∨ v = 3
      · refine ⟨.tup [.str "nil", sA], m1, ?_, .nil, B1.mono (by omega)⟩
        have e00 : ∃ b, eqD (.lst (fs.map rowD)) (.lst []) = some (.bl b) ∧ (b = true ∨ v = 3) := ⟨_, efit, c2.imp (fun z => by rw [z]; rfl) id⟩
        obtain ⟨b', e00, hb'⟩ := e00
        by_cases z : 0 < n
        · have z2 : ¬ v < 2 := fun z2 => c1 ⟨z, z2⟩
          rcases hb' with c2 | c2
          · simp [fnD, body__law_term, R.bind, R.stm, hit, l1, ef, ev, x0, x1, z, z2, e00, c2]
          · cases b' <;> simp [fnD, body__law_term, R.bind, R.stm, hit, l1, ef, ev, x0, x1, z, z2, e00, c2]
        · rcases hb' with c2 | c2
          · simp [fnD, body__law_term, R.bind, R.stm, hit, l1, ef, ev, x0, x1, z, e00, c2]
          · cases b' <;> simp [fnD, body__law_term, R.bind, R.stm, hit, l1, ef, ev, x0, x1, z, e00, c2]
      · have hne : fs ≠ [] := fun z => c2 (.inl z)
        have hv3 : (v == 3) = false := by simpa using fun z => c2 (.inr z)
        have hie : fs.isEmpty = false := by cases fs <;> simp_all
        obtain ⟨r, xs, m2, m3, e2, T3, B3, z1, z2, e3⟩ := pick hne
        refine ⟨unT r.1 xs, m3, ?_, T3, B3⟩
        have z1' : xs.length ≤ 16777216 := by omega
        have z2' : r.2.1.length ≤ 16777216 := by omega
        rw [hie] at efit
        by_cases z : 0 < n
        · have z2 : ¬ v < 2 := fun z2 => c1 ⟨z, z2⟩
          simp [fnD, body__law_term, R.bind, R.stm, hit, l1, ef, ev, efit, x0, e2, rowD, tupleD, unT, e3, z1', z2', z, z2, hv3]
        · simp [fnD, body__law_term, R.bind, R.stm, hit, l1, ef, ev, efit, x0, e2, rowD, tupleD, unT, e3, z1', z2', z, hv3]
  · -- a set
    have x0 : ixSq sS (.int 0) = some (.str "set") := rfl
    have x1 : ixSq sS (.int 1) = some sA := rfl
    by_cases c1 : 0 < n ∧ v < 2
    · obtain ⟨j, rfl⟩ : ∃ j, n = j + 1 := ⟨n - 1, by omega⟩
      simp only [tc] at hb htc
      have g : (0 : Int) < (j : Int) + 1 := by omega
      simp only [Int.natCast_add, Int.natCast_one] at ef
      obtain ⟨d, m2, e2, hd2, B2⟩ := hp _ m1 [.str "one", .str "join", .str "meet", .str "without"] B1 (by omega) (by simp)
      have two : ∀ w : String, w ∈ ["join", "meet", "without"] → d = .str (PySem.Str.ofString w) → ∃ t m', fnD 12 (body__law_term cl) [.ref 0, RD, sS, .int ((j + 1 : Nat) : Int)] m = .ok t m' ∧ Tm rows (j + 1) sS t ∧ Bx dg (b + tc (j + 1)) m' := by
        intro w hw hd3
        subst hd3
        obtain ⟨x, m3, e3, T3, B3⟩ := ih j rfl _ m2 sS (.inr (.inr rfl)) B2 (by omega)
        obtain ⟨y, m4, e4, T4, B4⟩ := ih j rfl _ m3 sS (.inr (.inr rfl)) B3 (by omega)
        refine ⟨.tup [.str (PySem.Str.ofString w), x, y], m4, ?_, .two hw (.inl rfl) T3 T4, B4.mono (by simp only [tc]; omega)⟩
        have hw1 : ¬ w = "one" := by
          rintro rfl
          simp at hw
        simp [fnD, body__law_term, R.bind, R.stm, hit, l1, ef, ev, x0, x1, c1.2, subD, e2, e3, e4, g, hw1]
      simp only [List.mem_cons, List.not_mem_nil, or_false] at hd2
      rcases hd2 with rfl | rfl | rfl | rfl
      · obtain ⟨x, m3, e3, T3, B3⟩ := ih j rfl _ m2 sA (.inl rfl) B2 (by omega)
        refine ⟨.tup [.str "one", x], m3, ?_, .one (.inl rfl) T3, B3.mono (by simp only [tc]; omega)⟩
        simp [fnD, body__law_term, R.bind, R.stm, hit, l1, ef, ev, x0, x1, c1.2, subD, e2, e3, g]
      · exact two "join" (by simp) rfl
      · exact two "meet" (by simp) rfl
      · exact two "without" (by simp) rfl
    · by_cases c2 : fs = []
      · refine ⟨.tup [.str "none", sA], m1, ?_, .none (.inl rfl), B1.mono (by omega)⟩
        have hie : fs.isEmpty = true := by rw [c2]; rfl
        rw [hie] at efit
        by_cases z : 0 < n
        · have z2 : ¬ v < 2 := fun z2 => c1 ⟨z, z2⟩
          simp [fnD, body__law_term, R.bind, R.stm, hit, l1, ef, ev, x0, x1, z, z2, efit]
        · simp [fnD, body__law_term, R.bind, R.stm, hit, l1, ef, ev, x0, x1, z, efit]
      · have hie : fs.isEmpty = false := by cases fs <;> simp_all
        obtain ⟨r, xs, m2, m3, e2, T3, B3, z1, z2, e3⟩ := pick c2
        refine ⟨unT r.1 xs, m3, ?_, T3, B3⟩
        have z1' : xs.length ≤ 16777216 := by omega
        have z2' : r.2.1.length ≤ 16777216 := by omega
        rw [hie] at efit
        by_cases z : 0 < n
        · have z2 : ¬ v < 2 := fun z2 => c1 ⟨z, z2⟩
          simp [fnD, body__law_term, R.bind, R.stm, hit, l1, ef, ev, efit, x0, e2, rowD, tupleD, unT, e3, z1', z2', z, z2]
        · simp [fnD, body__law_term, R.bind, R.stm, hit, l1, ef, ev, efit, x0, e2, rowD, tupleD, unT, e3, z1', z2', z]
end K02
namespace K02
open PySem PySem.Spec L2 PM
theorem term_all (dg : List Int) {rows : List Row} {RD : D} (hR : RowsAt rows RD) (k : Nat) : ∀ n : Nat, n ≤ 3 → TermOk dg (prog (k + n + 4) 48) rows RD n
  | 0, h => term_step (cl := prog (k + 3)) (draw_ok dg (k + 2)) (pick_ok (cl := prog (k + 2)) (draw_ok dg (k + 1))) hR 0 (by decide) fun j e => by cases e
  | n + 1, h => term_step (cl := prog (k + n + 4)) (draw_ok dg (k + n + 3)) (pick_ok (cl := prog (k + n + 3)) (draw_ok dg (k + n + 2))) hR (n + 1) (by
      have : n = 0 ∨ n = 1 ∨ n = 2 := by omega
      rcases this with rfl | rfl | rfl <;> decide) fun j e => by
      cases e
      exact term_all dg hR k n (by omega)
/-! ### sets of lists -/
theorem ne_sl {s : D} (h : S3 s) : eqD s (setD sL) = some (.bl false) := by
  rcases h with rfl | rfl | rfl <;> kernel_rfl
theorem lc_fit4 {n : Int} {env : List (Option Cell)} (h2 : env[2]? = some (some (.val (setD sL)))) (hl : 10 < env.length) (hno : noOwn env [10] = true) : ∀ (rows : List Row) (m : List MO), (∀ r ∈ rows, r ∈ allRows) →
    lcItems [10] (.nm 10) (tAndD (eBl (eOp eqD (eOp ixSq (eLoc 10) (eC (.int (2)))) (eLoc 2))) (tOrD (eBl (eOp eqD (eOp ixSq (eLoc 10) (eC (.int (1)))) (eTup aNil))) (eBl (eOp gtD (eLoc 3) (eC (.int (0))))))) (eLoc 10) (rows.map rowD) ⟨env, m⟩ = .ok [] ⟨env, m⟩
  | [], m, _ => rfl
  | r :: rows, m, h => by
    have e := lc_fit4 (n := n) h2 hl hno rows m fun x hx => h x (List.mem_cons_of_mem r hx)
    have e1 := ne_sl (row_sort (h r List.mem_cons_self))
    have g2 : (env.set 10 (some (Cell.val (rowD r))))[2]? = some (some (.val (setD sL))) := by rw [List.getElem?_set_ne (by decide), h2]
    have gi : (env.set 10 (some (Cell.val (rowD r))))[10]? = some (some (.val (rowD r))) := List.getElem?_set_self hl
    have rr := rest_set (c2 := some (Cell.val (rowD r))) hl
    have x2 : ixSq (rowD r) (.int 2) = some r.2.2 := ev_at2 _ _ _ _
    rw [List.map_cons]
    unfold lcItems
    simp [hno, tgD, wipeE, R.bind, g2, gi, e1, rr, e, x2]
def Term4Ok (dg : List Int) (F : Fd) (rows : List Row) (RD : D) (n : Nat) : Prop := ∀ (b : Nat) (m : List MO), Bx dg b m → b + tc n < 2 ^ 57 → ∃ t m', F [.ref 0, RD, setD sL, .int n] m = .ok t m' ∧ Tm rows n (setD sL) t ∧ Bx dg (b + tc n) m'
theorem term4_step {dg : List Int} {cl : Cl} (hd : DrawOk dg (cl 45)) (hp : PickOk dg (cl 46)) {rows : List Row} {RD : D} (hR : RowsAt rows RD) (n : Nat) (htc : tc n ≤ 1000) (ih : ∀ j, n = j + 1 → TermOk dg (cl 48) rows RD j) (ih4 : ∀ j, n = j + 1 → Term4Ok dg (cl 48) rows RD j) : Term4Ok dg (fnD 12 (body__law_term cl)) rows RD n := by
  intro b m B hb
  have ef := lc_fit4 (n := 0) (env := [some (.val (.ref 0)), some (.val RD), some (.val (setD sL)), some (.val (.int n)), none, none, none, none, none, none, none, none]) rfl (by simp) rfl rows m hR.all
  obtain ⟨v, m1, ev, hv0, hv4, B1⟩ := hd b m 4 B (by omega) (by decide)
  have efit : eqD (.lst []) (.lst []) = some (.bl true) := eq_fit (fs := []) (by simp)
  have l1 : rows.length ≤ 16777216 := by have := hR.len; omega
  have t2 := tc_le n
  have hit := hR.it
  have x0 : ixSq (setD sL) (.int 0) = some (.str "set") := rfl
  have x1 : ixSq (setD sL) (.int 1) = some sL := rfl
  by_cases c1 : 0 < n ∧ v < 2
  · obtain ⟨j, rfl⟩ : ∃ j, n = j + 1 := ⟨n - 1, by omega⟩
    simp only [tc] at hb htc
    have g : (0 : Int) < (j : Int) + 1 := by omega
    simp only [Int.natCast_add, Int.natCast_one] at ef
    obtain ⟨d, m2, e2, hd2, B2⟩ := hp _ m1 [.str "one", .str "join", .str "meet", .str "without"] B1 (by omega) (by simp)
    have two : ∀ w : String, w ∈ ["join", "meet", "without"] → d = .str (PySem.Str.ofString w) → ∃ t m', fnD 12 (body__law_term cl) [.ref 0, RD, setD sL, .int ((j + 1 : Nat) : Int)] m = .ok t m' ∧ Tm rows (j + 1) (setD sL) t ∧ Bx dg (b + tc (j + 1)) m' := by
      intro w hw hd3
      subst hd3
      obtain ⟨x, m3, e3, T3, B3⟩ := ih4 j rfl _ m2 B2 (by omega)
      obtain ⟨y, m4, e4, T4, B4⟩ := ih4 j rfl _ m3 B3 (by omega)
      refine ⟨.tup [.str (PySem.Str.ofString w), x, y], m4, ?_, .two hw (.inr rfl) T3 T4, B4.mono (by simp only [tc]; omega)⟩
      have hw1 : ¬ w = "one" := by
        rintro rfl
        simp at hw
      simp [fnD, body__law_term, R.bind, R.stm, hit, l1, ef, ev, x0, x1, c1.2, subD, e2, e3, e4, g, hw1]
    simp only [List.mem_cons, List.not_mem_nil, or_false] at hd2
    rcases hd2 with rfl | rfl | rfl | rfl
    · obtain ⟨x, m3, e3, T3, B3⟩ := ih j rfl _ m2 sL (.inr (.inl rfl)) B2 (by omega)
      refine ⟨.tup [.str "one", x], m3, ?_, .one (.inr rfl) T3, B3.mono (by simp only [tc]; omega)⟩
      simp [fnD, body__law_term, R.bind, R.stm, hit, l1, ef, ev, x0, x1, c1.2, subD, e2, e3, g]
    · exact two "join" (by simp) rfl
    · exact two "meet" (by simp) rfl
    · exact two "without" (by simp) rfl
  · refine ⟨.tup [.str "none", sL], m1, ?_, .none (.inr rfl), B1.mono (by omega)⟩
    by_cases z : 0 < n
    · have z2 : ¬ v < 2 := fun z2 => c1 ⟨z, z2⟩
      simp [fnD, body__law_term, R.bind, R.stm, hit, l1, ef, ev, x0, x1, z, z2, efit]
    · simp [fnD, body__law_term, R.bind, R.stm, hit, l1, ef, ev, x0, x1, z, efit]
theorem term4_all (dg : List Int) {rows : List Row} {RD : D} (hR : RowsAt rows RD) (k : Nat) : ∀ n : Nat, n ≤ 3 → Term4Ok dg (prog (k + n + 4) 48) rows RD n
  | 0, h => term4_step (cl := prog (k + 3)) (draw_ok dg (k + 2)) (pick_ok (cl := prog (k + 2)) (draw_ok dg (k + 1))) hR 0 (by decide) (fun j e => by cases e) fun j e => by cases e
  | n + 1, h => term4_step (cl := prog (k + n + 4)) (draw_ok dg (k + n + 3)) (pick_ok (cl := prog (k + n + 3)) (draw_ok dg (k + n + 2))) hR (n + 1) (by
      have : n = 0 ∨ n = 1 ∨ n = 2 := by omega
      rcases this with rfl | rfl | rfl <;> decide) (fun j e => by
      cases e
      exact term_all dg hR k n (by omega)) fun j e => by
      cases e
      exact term4_all dg hR k n (by omega)
end K02
end

section
set_option Elab.async false
set_option linter.all false
set_option maxRecDepth 100000
set_option maxHeartbeats 4000000
namespace K02
open PySem PySem.Spec L2 PM
/-! ### claims -/
inductive Cm (rows : List Row) : Nat → Nat → D → Prop
  | is {z n s x y} : S3 s → Tm rows n s x → Tm rows n s y → Cm rows z n (.tup [.str "is", x, y])
  | isin {z n x y} : Tm rows n sA x → Tm rows n sS y → Cm rows z n (.tup [.str "in", x, y])
  | not {z n c} : Cm rows z n c → Cm rows (z + 1) n (.tup [.str "not", c])
  | two {z n w c d} : w ∈ ["and", "or", "then", "same"] → Cm rows z n c → Cm rows z n d → Cm rows (z + 1) n (.tup [.str (PySem.Str.ofString w), c, d])
theorem lc_const {s : D} {env : List (Option Cell)} (hs : S3 s) (h5 : env[5]? = some (some (.val s))) (hl : 6 < env.length) (hno : noOwn env [6] = true) : ∀ (rows : List Row) (m : List MO), (∀ r ∈ rows, r ∈ allRows) →
    ∃ fs : List Row, lcItems [6] (.nm 6) (tAndD (eBl (eOp eqD (eOp ixSq (eLoc 6) (eC (.int (2)))) (eLoc 5))) (eBl (eOp eqD (eOp ixSq (eLoc 6) (eC (.int (1)))) (eTup aNil)))) (eLoc 6) (rows.map rowD) ⟨env, m⟩ = .ok (fs.map rowD) ⟨env, m⟩ ∧
      fs.Sublist rows ∧ (∀ r ∈ rows, r.2.2 = s → r.2.1 = [] → r ∈ fs)
  | [], m, _ => ⟨[], rfl, .slnil, by simp⟩
  | r :: rows, m, h => by
    obtain ⟨fs, e, sub, q2⟩ := lc_const hs h5 hl hno rows m fun x hx => h x (List.mem_cons_of_mem r hx)
    have hr := h r List.mem_cons_self
    obtain ⟨b1, e1, i1⟩ := eq_sorts (row_sort hr) hs
    obtain ⟨b2, e2, i2⟩ := eq_places hr
    have g5 : (env.set 6 (some (Cell.val (rowD r))))[5]? = some (some (.val s)) := by rw [List.getElem?_set_ne (by decide), h5]
    have gi : (env.set 6 (some (Cell.val (rowD r))))[6]? = some (some (.val (rowD r))) := List.getElem?_set_self hl
    have rr := rest_set (c2 := some (Cell.val (rowD r))) hl
    have x2 : ixSq (rowD r) (.int 2) = some r.2.2 := ev_at2 _ _ _ _
    have x1 : ixSq (rowD r) (.int 1) = some (.tup r.2.1) := ev_at1 _ _ _
    cases b1 with
    | true => cases b2 with
      | true =>
        refine ⟨r :: fs, ?_, sub.cons_cons r, fun x hx z1 z2 => ?_⟩
        · rw [List.map_cons, List.map_cons]
          unfold lcItems
          simp [hno, tgD, wipeE, R.bind, g5, gi, e1, e2, rr, e, x2, x1]
        · rcases List.mem_cons.mp hx with rfl | hx
          · exact List.mem_cons_self
          · exact List.mem_cons_of_mem _ (q2 x hx z1 z2)
      | false =>
        refine ⟨fs, ?_, sub.cons r, fun x hx z1 z2 => ?_⟩
        · rw [List.map_cons]
          unfold lcItems
          simp [hno, tgD, wipeE, R.bind, g5, gi, e1, e2, rr, e, x2, x1]
        · rcases List.mem_cons.mp hx with rfl | hx
          · exact absurd (i2.mpr z2) (by simp)
          · exact q2 x hx z1 z2
    | false =>
      refine ⟨fs, ?_, sub.cons r, fun x hx z1 z2 => ?_⟩
      · rw [List.map_cons]
        unfold lcItems
        simp [hno, tgD, wipeE, R.bind, g5, gi, e1, e2, rr, e, x2, x1]
      · rcases List.mem_cons.mp hx with rfl | hx
        · exact absurd (i1.mpr z1) (by simp)
        · exact q2 x hx z1 z2
theorem lc_sorts {rows : List Row} {RD : D} (hR : RowsAt rows RD) {x0 x2 x3 x4 : Option Cell} : ∀ (ds : List D) (m : List MO), (∀ s ∈ ds, S3 s) →
    ∃ ss, lcItems [5] (.nm 5) (eBl (eOp neD (eFrz (eLc [6] (.nm 6) (iAny (eLoc 1)) (tAndD (eBl (eOp eqD (eOp ixSq (eLoc 6) (eC (.int (2)))) (eLoc 5))) (eBl (eOp eqD (eOp ixSq (eLoc 6) (eC (.int (1)))) (eTup aNil)))) (eLoc 6))) (eLst aNil))) (eLoc 5) ds ⟨[x0, some (.val RD), x2, x3, x4, none, none], m⟩ = .ok ss ⟨[x0, some (.val RD), x2, x3, x4, none, none], m⟩ ∧
      ss.Sublist ds ∧ (sA ∈ ds → ss ≠ [])
  | [], m, _ => ⟨[], rfl, .slnil, by simp⟩
  | s :: ds, m, h => by
    obtain ⟨ss, e, sub, q⟩ := lc_sorts hR (x0 := x0) (x2 := x2) (x3 := x3) (x4 := x4) ds m fun x hx => h x (List.mem_cons_of_mem s hx)
    obtain ⟨fs, ef, sf, qf⟩ := lc_const (h s List.mem_cons_self) (env := [x0, some (.val RD), x2, x3, x4, some (.val s), none]) rfl (by simp) rfl rows m hR.all
    have fa : ∀ r ∈ fs, r ∈ allRows := fun r hr => hR.all r (sf.subset hr)
    have efit := ne_fit fa
    have l1 : rows.length ≤ 16777216 := by have := hR.len; omega
    have hit := hR.it
    have nown : noOwn [x0, some (.val RD), x2, x3, x4, none, none] [5] = true := rfl
    by_cases hne : fs.isEmpty = true
    · refine ⟨ss, ?_, sub.cons s, fun hA => ?_⟩
      · rw [hne] at efit
        unfold lcItems
        simp [nown, tgD, wipeE, restE, R.bind, hit, l1, ef, efit, e]
      · rcases List.mem_cons.mp hA with z | hA
        · have := qf xRow hR.x (by rw [← z]; rfl) rfl
          cases fs
          · cases this
          · cases hne
        · exact q hA
    · have hne' : fs.isEmpty = false := by simpa using hne
      refine ⟨s :: ss, ?_, sub.cons_cons s, fun _ => by simp⟩
      rw [hne'] at efit
      unfold lcItems
      simp [nown, tgD, wipeE, restE, R.bind, hit, l1, ef, efit, e]
def AtomOk (dg : List Int) (F : Fd) (rows : List Row) (RD : D) (n : Nat) : Prop := ∀ (b : Nat) (m : List MO) (z : Nat), Bx dg b m → b + 2 + 2 * tc n < 2 ^ 56 → ∃ t m', F [.ref 0, RD, .int n] m = .ok t m' ∧ Cm rows z n t ∧ Bx dg (b + 2 + 2 * tc n) m'
theorem atom_ok {dg : List Int} {cl : Cl} (hd : DrawOk dg (cl 45)) (hp : PickOk dg (cl 46)) {rows : List Row} {RD : D} (hR : RowsAt rows RD) (n : Nat) (ht : TermOk dg (cl 48) rows RD n) : AtomOk dg (fnD 7 (body__law_atom cl)) rows RD n := by
  intro b m z B hb
  obtain ⟨ss, es, sub, q⟩ := lc_sorts hR (x0 := some (.val (.ref 0))) (x2 := some (.val (.int n))) (x3 := some (.val sA)) (x4 := none) [sA, sA, sL, sS] m (by simp [S3])
  obtain ⟨s, m1, e1, hs, B1⟩ := hp b m ss B (by omega) (q (by simp))
  have s3 : S3 s := by
    have := sub.subset hs
    simp only [List.mem_cons, List.not_mem_nil, or_false] at this
    rcases this with rfl | rfl | rfl | rfl <;> simp [S3]
  have hA : (D.tup [.str "things", .str "a"]) = sA := rfl
  have hL : (D.tup [.str "list", sA]) = sL := rfl
  have hS : (D.tup [.str "set", sA]) = sS := rfl
  have pair : s ≠ sS ∨ True → (∀ m2, Bx dg (b + 2) m2 → ∃ x y m3 m4, cl 48 [.ref 0, RD, s, .int n] m2 = .ok x m3 ∧ cl 48 [.ref 0, RD, s, .int n] m3 = .ok y m4 ∧ Tm rows n s x ∧ Tm rows n s y ∧ Bx dg (b + 2 + 2 * tc n) m4) := by
    intro _ m2 B2
    obtain ⟨x, m3, e3, T3, B3⟩ := ht _ m2 s s3 B2 (by omega)
    obtain ⟨y, m4, e4, T4, B4⟩ := ht _ m3 s s3 B3 (by omega)
    exact ⟨x, y, m3, m4, e3, e4, T3, T4, B4.mono (by omega)⟩
  rcases s3 with rfl | rfl | rfl
  · obtain ⟨x, y, m3, m4, e3, e4, T3, T4, B4⟩ := pair (.inr trivial) m1 (B1.mono (by omega))
    refine ⟨_, m4, ?_, .is (.inl rfl) T3 T4, B4⟩
    have x0 : ixSq sA (.int 0) = some (.str "things") := rfl
    simp [fnD, body__law_atom, R.bind, R.stm, hA, hL, hS, es, e1, x0, e3, e4]
  · obtain ⟨x, y, m3, m4, e3, e4, T3, T4, B4⟩ := pair (.inr trivial) m1 (B1.mono (by omega))
    refine ⟨_, m4, ?_, .is (.inr (.inl rfl)) T3 T4, B4⟩
    have x0 : ixSq sL (.int 0) = some (.str "list") := rfl
    simp [fnD, body__law_atom, R.bind, R.stm, hA, hL, hS, es, e1, x0, e3, e4]
  · have x0 : ixSq sS (.int 0) = some (.str "set") := rfl
    obtain ⟨v, m2, e2, h2, h2', B2⟩ := hd _ m1 3 B1 (by omega) (by decide)
    by_cases hv : 0 < v
    · obtain ⟨x, m3, e3, T3, B3⟩ := ht _ m2 sA (.inl rfl) B2 (by omega)
      obtain ⟨y, m4, e4, T4, B4⟩ := ht _ m3 sS (.inr (.inr rfl)) B3 (by omega)
      refine ⟨_, m4, ?_, .isin T3 T4, B4.mono (by omega)⟩
      simp [fnD, body__law_atom, R.bind, R.stm, hA, hL, hS, es, e1, x0, e2, hv, e3, e4]
    · obtain ⟨x, y, m3, m4, e3, e4, T3, T4, B4⟩ := pair (.inr trivial) m2 (B2.mono (by omega))
      refine ⟨_, m4, ?_, .is (.inr (.inr rfl)) T3 T4, B4⟩
      simp [fnD, body__law_atom, R.bind, R.stm, hA, hL, hS, es, e1, x0, e2, hv, e3, e4]
end K02
namespace K02
open PySem PySem.Spec L2 PM
def cc (n : Nat) : Nat → Nat
  | 0 => 2 + 2 * tc n
  | z + 1 => 1 + 2 * cc n z
theorem cc_le (n : Nat) : ∀ z, 2 + 2 * tc n ≤ cc n z
  | 0 => Nat.le_refl _
  | z + 1 => by have := cc_le n z; simp only [cc]; omega
def ClaimOk (dg : List Int) (F : Fd) (rows : List Row) (RD : D) (n z : Nat) : Prop := ∀ (b : Nat) (m : List MO), Bx dg b m → b + cc n z < 2 ^ 56 → ∃ t m', F [.ref 0, RD, .int n, .int z] m = .ok t m' ∧ Cm rows z n t ∧ Bx dg (b + cc n z) m'
theorem claim_step {dg : List Int} {cl : Cl} (hd : DrawOk dg (cl 45)) {rows : List Row} {RD : D} (n z : Nat) (ha : AtomOk dg (cl 49) rows RD n) (ih : ∀ j, z = j + 1 → ClaimOk dg (cl 50) rows RD n j) : ClaimOk dg (fnD 6 (body__law_claim cl)) rows RD n z := by
  intro b m B hb
  have cz := cc_le n z
  cases z with
  | zero =>
    obtain ⟨t, m1, e1, T1, B1⟩ := ha b m 0 B (by simp only [cc] at hb; omega)
    refine ⟨t, m1, ?_, T1, B1.mono (by simp only [cc]; omega)⟩
    simp [fnD, body__law_claim, R.bind, R.stm, e1]
  | succ j =>
    have cj := cc_le n j
    simp only [cc] at hb
    obtain ⟨v, m1, ev, h0, h8, B1⟩ := hd b m 8 B (by omega) (by decide)
    have g : (0 : Int) < (j : Int) + 1 := by omega
    by_cases c1 : v < 3
    · obtain ⟨t, m2, e2, T2, B2⟩ := ha _ m1 (j + 1) B1 (by omega)
      refine ⟨t, m2, ?_, T2, B2.mono (by simp only [cc]; omega)⟩
      simp [fnD, body__law_claim, R.bind, R.stm, ev, e2, g, c1]
    · obtain ⟨x, m2, e2, T2, B2⟩ := ih j rfl _ m1 B1 (by omega)
      by_cases c2 : v = 3
      · subst c2
        refine ⟨.tup [.str "not", x], m2, ?_, .not T2, B2.mono (by simp only [cc]; omega)⟩
        simp [fnD, body__law_claim, R.bind, R.stm, ev, e2, g, subD]
      · obtain ⟨y, m3, e3, T3, B3⟩ := ih j rfl _ m2 B2 (by omega)
        have c2' : (v == 3) = false := by simpa using c2
        have hw : ∃ w : String, w ∈ ["and", "or", "then", "same"] ∧ atI [D.str "and", .str "or", .str "then", .str "same"] (v - 4) = some (.str (PySem.Str.ofString w)) := by
          have : v = 4 ∨ v = 5 ∨ v = 6 ∨ v = 7 := by omega
          rcases this with rfl | rfl | rfl | rfl
          · exact ⟨"and", by simp, rfl⟩
          · exact ⟨"or", by simp, rfl⟩
          · exact ⟨"then", by simp, rfl⟩
          · exact ⟨"same", by simp, rfl⟩
        obtain ⟨w, hw1, hw2⟩ := hw
        refine ⟨.tup [.str (PySem.Str.ofString w), x, y], m3, ?_, .two hw1 T2 T3, B3.mono (by simp only [cc]; omega)⟩
        simp [fnD, body__law_claim, R.bind, R.stm, ev, e2, e3, g, c1, c2', subD, hw2]
theorem claim_all (dg : List Int) {rows : List Row} {RD : D} (hR : RowsAt rows RD) (k n : Nat) (hn : n ≤ 3) : ∀ z : Nat, ClaimOk dg (prog (k + n + z + 6) 50) rows RD n z
  | 0 => claim_step (cl := prog (k + n + 5)) (draw_ok dg _) n 0 (atom_ok (cl := prog (k + n + 4)) (draw_ok dg _) (pick_ok (cl := prog (k + n + 3)) (draw_ok dg _)) hR n (term_all dg hR k n hn)) fun j e => by cases e
  | z + 1 => claim_step (cl := prog (k + n + z + 6)) (draw_ok dg _) n (z + 1) (by
      have h : AtomOk dg (fnD 7 (body__law_atom (prog (k + n + z + 5)))) rows RD n := atom_ok (cl := prog (k + n + z + 5)) (draw_ok dg _) (pick_ok (cl := prog (k + n + z + 4)) (draw_ok dg _)) hR n (by
        have := term_all dg hR (k + z + 1) n hn
        rwa [show k + z + 1 + n + 4 = k + n + z + 5 by omega] at this)
      exact h) fun j e => by
      cases e
      exact claim_all dg hR k n hn z
def Good (rows : List Row) (c : D) : Prop := Cm rows 1 2 c ∨ Cm rows 2 1 c
def textD (rows : List Row) (cs : List D) : D := .tup [.str "text", .tup [.str "a"], .tup (rows.map rowD), .tup cs]
structure TextAt (rows : List Row) (cs : List D) : Prop where
  sub : (xRow :: rows).Sublist allRows
  good : ∀ c ∈ cs, Good (xRow :: rows) c
theorem rows_at {rows : List Row} (h : (xRow :: rows).Sublist allRows) {RD : D} (hR : itemsA RD = some ((xRow :: rows).map rowD)) : RowsAt (xRow :: rows) RD :=
  ⟨hR, fun r hr => h.subset hr, List.mem_cons_self, by have := h.length_le; have h13 : allRows.length = 13 := rfl; omega⟩
end K02
end

section
set_option Elab.async false
set_option linter.all false
set_option maxRecDepth 100000
set_option maxHeartbeats 4000000
namespace K02
open PySem PySem.Spec L2 PM
/-! ### what the program says of terms -/
def rkey (r : Row) : Key := Sum.inr (PySem.Str.ofString r.1)
def rval (r : Row) : D := .tup [.tup r.2.1, r.2.2]
def aT : D := .tup [.str "a"]
def ownD (rows : List Row) : D := .tup [aT, .dct (rows.map rkey) (rows.map rval)]
theorem get_row : ∀ {rows : List Row} {r : Row}, (rows.map (·.1)).Nodup → r ∈ rows → getP (rows.map rkey) (rows.map rval) (rkey r) = some (rval r)
  | [], r, _, h => by cases h
  | q :: rows, r, nd, h => by
    simp only [List.map_cons, List.nodup_cons] at nd
    rcases List.mem_cons.mp h with rfl | h
    · simp [getP]
    · have ne : ¬ rkey q = rkey r := fun z => by
        unfold rkey at z
        simp only [Sum.inr.injEq, so_inj] at z
        exact nd.1 (z ▸ List.mem_map_of_mem h)
      have ih := get_row nd.2 h
      simp only [getP, List.map_cons, List.zip_cons_cons, List.find?_cons, decide_eq_false ne] at ih ⊢
      exact ih
theorem names_nd {rows : List Row} (h : rows.Sublist allRows) : (rows.map (·.1)).Nodup := by
  have : (allRows.map (·.1)).Nodup := by decide
  exact this.sublist (h.map _)
theorem eq_pl {r : Row} (h : r ∈ allRows) : eqD (.tup r.2.1) (.tup r.2.1) = some (.bl true) := by
  rcases row_places h with e | ⟨p, e, hp⟩ | e <;> rw [e]
  · kernel_rfl
  · rcases hp with rfl | rfl | rfl <;> kernel_rfl
  · kernel_rfl
def InOk (F : Fd) (own t s : D) : Prop := ∀ m, F [own, t] m = .ok s m
theorem un_ok {cl : Cl} {rows : List Row} {r : Row} {xs : List D} (hg : getP (rows.map rkey) (rows.map rval) (rkey r) = some (rval r)) (ha : r ∈ allRows) (hx : ∀ m, lcItems [5] (.nm 5) tYesD (eFn (fun ds m => if ds.length = 2 then cl 14 ds m else .stuck) (aCons (eLoc 0) (aCons (eLoc 5) aNil))) xs
      ⟨[some (.val (ownD rows)), some (.val (unT r.1 xs)), some (.val (.dct (rows.map rkey) (rows.map rval))), some (.val (.tup r.2.1)), some (.val r.2.2), none], m⟩ = .ok r.2.1 ⟨[some (.val (ownD rows)), some (.val (unT r.1 xs)), some (.val (.dct (rows.map rkey) (rows.map rval))), some (.val (.tup r.2.1)), some (.val r.2.2), none], m⟩) (hl : xs.length ≤ 100) :
    InOk (fnD 6 (body_sort_of_un cl)) (ownD rows) (unT r.1 xs) r.2.2 := by
  intro m
  have hx := hx m
  have hl' : xs.length ≤ 16777216 := by omega
  have e := eq_pl ha
  have hg : getP (rows.map rkey) (rows.map rval) (Sum.inr (PySem.Str.ofString r.1)) = some (.tup [.tup r.2.1, r.2.2]) := hg
  unfold ownD unT at hx ⊢
  simp [fnD, body_sort_of_un, R.bind, R.stm, isiD, ninD, memD, keyD, hg, dgetD, hl', hx, tupleD, e]
theorem in_un {cl : Cl} {own a b d : D} (h : InOk (cl 9) own (.tup [.str "un", a, b]) d) : InOk (fnD 3 (body_sort_in cl)) own (.tup [.str "un", a, b]) d := by
  intro m
  have h := h m
  simp [fnD, body_sort_in, isiD, h, R.bind, R.stm]
theorem in_cons {cl : Cl} {own a b d : D} (h : InOk (cl 10) own (.tup [.str "cons", a, b]) d) : InOk (fnD 3 (body_sort_in cl)) own (.tup [.str "cons", a, b]) d := by
  intro m
  have h := h m
  simp [fnD, body_sort_in, isiD, h, R.bind, R.stm, inD, memD, flatD, eqF]
theorem in_nil {cl : Cl} {own a d : D} (h : InOk (cl 10) own (.tup [.str "nil", a]) d) : InOk (fnD 3 (body_sort_in cl)) own (.tup [.str "nil", a]) d := by
  intro m
  have h := h m
  simp [fnD, body_sort_in, isiD, h, R.bind, R.stm, inD, memD, flatD, eqF]
theorem in_set {cl : Cl} {own d : D} {w : String} {xs : List D} (hw : w ∈ ["none", "one", "join", "meet", "without"]) (hx : xs.length = 1 ∨ xs.length = 2) (h : InOk (cl 11) own (.tup (.str (PySem.Str.ofString w) :: xs)) d) : InOk (fnD 3 (body_sort_in cl)) own (.tup (.str (PySem.Str.ofString w) :: xs)) d := by
  intro m
  have h := h m
  have ne : ∀ i : Nat, ¬ ((i : Int) + 1 = 0) := fun i => by omega
  simp only [List.mem_cons, List.not_mem_nil, or_false] at hw
  rcases hw with rfl | rfl | rfl | rfl | rfl <;> simp [fnD, body_sort_in, isiD, h, R.bind, R.stm, inD, memD, flatD, eqF, ne]
theorem list_nil {cl : Cl} {dd : D} {m : List MO} (h : ∀ m, cl 3 [sL, aT] m = .ok (.bl true) m) : fnD 4 (body_sort_of_list cl) [.tup [aT, dd], .tup [.str "nil", sA]] m = .ok sL m := by
  have h := h m
  unfold sL at h ⊢
  simp [fnD, body_sort_of_list, isiD, h, R.bind, R.stm]
theorem list_cons {cl : Cl} {own x y : D} (h1 : InOk (cl 14) own x sA) (h2 : InOk (cl 14) own y sL) : InOk (fnD 4 (body_sort_of_list cl)) own (.tup [.str "cons", x, y]) sL := by
  intro m
  have h1 := h1 m
  have h2 := h2 m
  have e : eqD sL (.tup [.str "list", sA]) = some (.bl true) := by kernel_rfl
  have n1 : isNonD sA = false := rfl
  simp [fnD, body_sort_of_list, isiD, h1, h2, R.bind, R.stm, e, n1]
theorem set_none {cl : Cl} {dd e : D} {m : List MO} (h : ∀ m, cl 3 [setD e, aT] m = .ok (.bl true) m) : fnD 3 (body_sort_of_set cl) [.tup [aT, dd], .tup [.str "none", e]] m = .ok (setD e) m := by
  have h := h m
  unfold setD at h ⊢
  simp [fnD, body_sort_of_set, isiD, h, R.bind, R.stm]
theorem set_one {cl : Cl} {dd x e : D} (he : isNonD e = false) (h : ∀ m, cl 3 [setD e, aT] m = .ok (.bl true) m) (h1 : InOk (cl 14) (.tup [aT, dd]) x e) : InOk (fnD 3 (body_sort_of_set cl)) (.tup [aT, dd]) (.tup [.str "one", x]) (setD e) := by
  intro m
  have h := h m
  have h1 := h1 m
  unfold setD at h ⊢
  simp [fnD, body_sort_of_set, isiD, h, R.bind, R.stm, h1, he]
theorem set_two {cl : Cl} {own x y s : D} {w : String} (hw : w ∈ ["join", "meet", "without"]) (h : ∀ m, cl 12 [own, .tup [x, y], .str "set"] m = .ok s m) : InOk (fnD 3 (body_sort_of_set cl)) own (.tup [.str (PySem.Str.ofString w), x, y]) s := by
  intro m
  have h := h m
  have sl : slD (.tup [D.str (PySem.Str.ofString w), x, y]) (some 1) none = some (.tup [x, y]) := rfl
  simp only [List.mem_cons, List.not_mem_nil, or_false] at hw
  rcases hw with rfl | rfl | rfl <;> simp [fnD, body_sort_of_set, isiD, h, R.bind, R.stm, sl]
theorem two_ok {cl : Cl} {own x y e : D} {m : List MO} (he : e = sA ∨ e = sL) (h1 : InOk (cl 14) own x (setD e)) (h2 : InOk (cl 14) own y (setD e)) : fnD 4 (body_sort_of_two cl) [own, .tup [x, y], .str "set"] m = .ok (setD e) m := by
  have h1 := h1 m
  have h2 := h2 m
  have x0 : ixSq (setD e) (.int 0) = some (.str "set") := rfl
  have n1 : isNonD (setD e) = false := rfl
  have ee : eqD (setD e) (setD e) = some (.bl true) := by rcases he with rfl | rfl <;> kernel_rfl
  simp [fnD, body_sort_of_two, R.bind, R.stm, h1, h2, x0, n1, ee]
end K02
namespace K02
open PySem PySem.Spec L2 PM
theorem is_sL (k : Nat) (m : List MO) : prog (k + 4) 3 [sL, aT] m = .ok (.bl true) m := by kernel_rfl
theorem is_sS (k : Nat) (m : List MO) : prog (k + 4) 3 [setD sA, aT] m = .ok (.bl true) m := by kernel_rfl
theorem is_sSL (k : Nat) (m : List MO) : prog (k + 4) 3 [setD sL, aT] m = .ok (.bl true) m := by kernel_rfl
theorem is_set {e : D} (he : e = sA ∨ e = sL) (k : Nat) (m : List MO) : prog (k + 4) 3 [setD e, aT] m = .ok (.bl true) m := by
  rcases he with rfl | rfl
  · exact is_sS k m
  · exact is_sSL k m
theorem sort_all {rows : List Row} (hsub : rows.Sublist allRows) : ∀ {n : Nat} {s t : D}, Tm rows n s t → ∀ K : Nat, InOk (prog (K + 3 * n + 8) 14) (ownD rows) t s := by
  have nd := names_nd hsub
  have all : ∀ r ∈ rows, r ∈ allRows := fun r hr => hsub.subset hr
  intro n s t T
  have up : ∀ {K n : Nat} {t s : D}, InOk (prog (K + 1 + 3 * n + 8) 14) (ownD rows) t s → InOk (prog (K + 3 * (n + 1) + 6) 14) (ownD rows) t s := fun {K n t s} h => by
    rwa [show K + 1 + 3 * n + 8 = K + 3 * (n + 1) + 6 by omega] at h
  induction T with
  | @un0 n nm s hr =>
    intro K
    refine in_un (cl := prog (K + 3 * n + 7)) ?_
    exact un_ok (cl := prog (K + 3 * n + 6)) (r := (nm, [], s)) (get_row nd hr) (all _ hr) (fun m => rfl) (by simp)
  | @un1 n nm p s x hr T ih =>
    intro K
    refine in_un (cl := prog (K + 3 * (n + 1) + 7)) ?_
    refine un_ok (cl := prog (K + 3 * (n + 1) + 6)) (r := (nm, [p], s)) (get_row nd hr) (all _ hr) (fun m => ?_) (by simp)
    have e' : prog (K + 3 * (n + 1) + 6) 14 [ownD rows, x] m = .ok p m := up (ih (K + 1)) m
    simp [R.bind, lcItems, noOwn, tgD, wipeE, restE, e']
  | @un2 n nm p q s x y hr T1 T2 ih1 ih2 =>
    intro K
    refine in_un (cl := prog (K + 3 * (n + 1) + 7)) ?_
    refine un_ok (cl := prog (K + 3 * (n + 1) + 6)) (r := (nm, [p, q], s)) (get_row nd hr) (all _ hr) (fun m => ?_) (by simp)
    have e1 : prog (K + 3 * (n + 1) + 6) 14 [ownD rows, x] m = .ok p m := up (ih1 (K + 1)) m
    have e2 : prog (K + 3 * (n + 1) + 6) 14 [ownD rows, y] m = .ok q m := up (ih2 (K + 1)) m
    simp [R.bind, lcItems, noOwn, tgD, wipeE, restE, e1, e2]
  | @nil n =>
    intro K
    refine in_nil (cl := prog (K + 3 * n + 7)) fun m => ?_
    exact list_nil (cl := prog (K + 3 * n + 6)) fun m => is_sL _ m
  | @none n e he =>
    intro K
    refine in_set (cl := prog (K + 3 * n + 7)) (by simp) (.inl rfl) fun m => ?_
    exact set_none (cl := prog (K + 3 * n + 6)) fun m => is_set he _ m
  | @cons n h t T1 T2 ih1 ih2 =>
    intro K
    refine in_cons (cl := prog (K + 3 * (n + 1) + 7)) ?_
    exact list_cons (cl := prog (K + 3 * (n + 1) + 6)) (up (ih1 (K + 1))) (up (ih2 (K + 1)))
  | @one n x e he T ih =>
    intro K
    refine in_set (cl := prog (K + 3 * (n + 1) + 7)) (by simp) (.inl rfl) ?_
    exact set_one (cl := prog (K + 3 * (n + 1) + 6)) (by rcases he with rfl | rfl <;> rfl) (fun m => is_set he _ m) (up (ih (K + 1)))
  | @two n w x y e hw he T1 T2 ih1 ih2 =>
    intro K
    have hw' : w ∈ ["none", "one", "join", "meet", "without"] := by
      simp only [List.mem_cons, List.not_mem_nil, or_false] at hw ⊢
      rcases hw with rfl | rfl | rfl <;> simp
    refine in_set (cl := prog (K + 3 * (n + 1) + 7)) hw' (.inr rfl) ?_
    refine set_two (cl := prog (K + 3 * (n + 1) + 6)) hw fun m => ?_
    exact two_ok (cl := prog (K + 3 * (n + 1) + 5)) he (ih1 K) (ih2 K)
end K02
end

section
set_option Elab.async false
set_option linter.all false
set_option maxRecDepth 100000
set_option maxHeartbeats 4000000
namespace K02
open PySem PySem.Spec L2 PM
/-! ### claims -/
theorem c_is {cl : Cl} {own x y s : D} (hs : S3 s) (h1 : InOk (cl 14) own x s) (h2 : InOk (cl 14) own y s) : InOk (fnD 5 (body_is_claim_in cl)) own (.tup [.str "is", x, y]) (.bl true) := by
  intro m
  have h1 := h1 m
  have h2 := h2 m
  have n1 : isNonD s = false := by rcases hs with rfl | rfl | rfl <;> rfl
  obtain ⟨b, e, i⟩ := eq_sorts hs hs
  have : b = true := i.mpr rfl
  subst this
  simp [fnD, body_is_claim_in, isiD, R.bind, R.stm, inD, memD, flatD, eqF, h1, h2, n1, e]
theorem c_in {cl : Cl} {own x y : D} (h1 : InOk (cl 14) own x sA) (h2 : InOk (cl 14) own y sS) : InOk (fnD 5 (body_is_claim_in cl)) own (.tup [.str "in", x, y]) (.bl true) := by
  intro m
  have h1 := h1 m
  have h2 := h2 m
  have n1 : isNonD sA = false := rfl
  have n2 : isNonD sS = false := rfl
  have e : eqD sS (.tup [.str "set", sA]) = some (.bl true) := by kernel_rfl
  simp [fnD, body_is_claim_in, isiD, R.bind, R.stm, inD, memD, flatD, eqF, h1, h2, n1, n2, e]
theorem c_not {cl : Cl} {own x : D} (h1 : InOk (cl 15) own x (.bl true)) : InOk (fnD 5 (body_is_claim_in cl)) own (.tup [.str "not", x]) (.bl true) := by
  intro m
  have h1 := h1 m
  simp [fnD, body_is_claim_in, isiD, R.bind, R.stm, inD, memD, flatD, eqF, h1]
theorem c_two {cl : Cl} {own x y : D} {w : String} (hw : w ∈ ["and", "or", "then", "same"]) (h1 : InOk (cl 15) own x (.bl true)) (h2 : InOk (cl 15) own y (.bl true)) : InOk (fnD 5 (body_is_claim_in cl)) own (.tup [.str (PySem.Str.ofString w), x, y]) (.bl true) := by
  intro m
  have h1 := h1 m
  have h2 := h2 m
  simp only [List.mem_cons, List.not_mem_nil, or_false] at hw
  rcases hw with rfl | rfl | rfl | rfl <;> simp [fnD, body_is_claim_in, isiD, R.bind, R.stm, inD, memD, flatD, eqF, h1, h2]
theorem claim_true {rows : List Row} (hsub : rows.Sublist allRows) : ∀ {z n : Nat} {c : D}, Cm rows z n c → ∀ K : Nat, InOk (prog (K + z + 3 * n + 9) 15) (ownD rows) c (.bl true) := by
  intro z n c C
  induction C with
  | @is z n s x y hs T1 T2 =>
    intro K
    exact c_is (cl := prog (K + z + 3 * n + 8)) hs (sort_all hsub T1 (K + z)) (sort_all hsub T2 (K + z))
  | @isin z n x y T1 T2 =>
    intro K
    exact c_in (cl := prog (K + z + 3 * n + 8)) (sort_all hsub T1 (K + z)) (sort_all hsub T2 (K + z))
  | @not z n c C ih =>
    intro K
    have h := ih K
    rw [show K + (z + 1) + 3 * n + 9 = (K + z + 3 * n + 9) + 1 by omega]
    exact c_not (cl := prog (K + z + 3 * n + 9)) h
  | @two z n w c d hw C1 C2 ih1 ih2 =>
    intro K
    have h1 := ih1 K
    have h2 := ih2 K
    rw [show K + (z + 1) + 3 * n + 9 = (K + z + 3 * n + 9) + 1 by omega]
    exact c_two (cl := prog (K + z + 3 * n + 9)) hw h1 h2
/-! ### own_of -/
theorem putVs_new : ∀ {ks : List Key} {vs : List D} {k : Key} {d : D}, k ∉ ks → ks.length = vs.length → putVs ks vs k d = vs ++ [d]
  | [], [], k, d, _, _ => rfl
  | [], _ :: _, _, _, _, h => by simp at h
  | _ :: _, [], _, _, _, h => by simp at h
  | k' :: ks, d' :: vs, k, d, hk, hl => by
    have h1 : ¬ k' = k := fun z => hk (by simp [z])
    have h2 : k ∉ ks := fun z => hk (List.mem_cons_of_mem _ z)
    simp only [putVs, if_neg h1, List.cons_append]
    rw [putVs_new h2 (by simpa using hl)]
theorem putKs_new {ks : List Key} {k : Key} (h : k ∉ ks) : putKs ks k = ks ++ [k] := by
  unfold putKs
  rw [if_neg]
  simp only [List.any_eq_true, decide_eq_true_eq, not_exists, not_and]
  intro x hx z
  exact h (z ▸ hx)
theorem dc_rows {T : D} : ∀ (rows : List Row) (ks : List Key) (vs : List D) (m : List MO), (∀ r ∈ rows, rkey r ∉ ks) → (rows.map (·.1)).Nodup → ks.length = vs.length → ks.length + rows.length ≤ 1000 →
    dcItems [1, 2, 3] (.tp [1, 2, 3]) tYesD (eLoc 1) (eTup (aCons (eLoc 2) (aCons (eLoc 3) aNil))) (rows.map rowD) ks vs ⟨[some (.val T), none, none, none], m⟩ = .ok (.dct (ks ++ rows.map rkey) (vs ++ rows.map rval)) ⟨[some (.val T), none, none, none], m⟩
  | [], ks, vs, m, _, _, _, _ => by simp [dcItems]
  | r :: rows, ks, vs, m, h, nd, hl, hz => by
    simp only [List.map_cons, List.nodup_cons, List.length_cons] at nd hz
    have hk := h r List.mem_cons_self
    have ih := dc_rows (T := T) rows (ks ++ [rkey r]) (vs ++ [rval r]) m (fun q hq z => by
      rcases List.mem_append.mp z with z | z
      · exact h q (List.mem_cons_of_mem r hq) z
      · simp only [List.mem_cons, List.not_mem_nil, or_false] at z
        unfold rkey at z
        simp only [Sum.inr.injEq, so_inj] at z
        exact nd.1 (z ▸ List.mem_map_of_mem hq)) nd.2 (by simp [hl]) (by simp; omega)
    have nown : noOwn [some (.val T), none, none, none] [1, 2, 3] = true := rfl
    have hz' : ks.length < 16777216 := by omega
    have e1 := putKs_new hk
    have e2 := putVs_new (d := rval r) hk hl
    rw [List.map_cons]
    unfold dcItems
    unfold rkey at e1 e2
    unfold rval at e2
    simp only [List.append_assoc, List.cons_append, List.nil_append] at ih
    have ih' : dcItems [1, 2, 3] (.tp [1, 2, 3]) tYesD (eLoc 1) (eTup (aCons (eLoc 2) (aCons (eLoc 3) aNil))) (rows.map rowD) (ks ++ [Sum.inr (PySem.Str.ofString r.1)]) (vs ++ [.tup [.tup r.2.1, r.2.2]]) ⟨[some (.val T), none, none, none], m⟩ = .ok (.dct (ks ++ rkey r :: rows.map rkey) (vs ++ rval r :: rows.map rval)) ⟨[some (.val T), none, none, none], m⟩ := ih
    simp [nown, tgD, rowD, setAll, S.set, wipeE, restE, keyD, sizeLine_eq, hz', e1, e2, ih', R.bind]
theorem own_ok {cl : Cl} {rows : List Row} (hsub : rows.Sublist allRows) (cs : List D) (m : List MO) : fnD 4 (body_own_of cl) [textD rows cs] m = .ok (ownD rows) m := by
  have hl : rows.length ≤ 13 := hsub.length_le
  have e := dc_rows (T := textD rows cs) rows [] [] m (by simp) (names_nd hsub) rfl (by simp; omega)
  unfold textD at e ⊢
  simp only [List.nil_append] at e
  simp [fnD, body_own_of, R.bind, R.stm, eDc, e, ownD, aT]
end K02
end

section
set_option Elab.async false
set_option linter.all false
set_option maxRecDepth 100000
set_option maxHeartbeats 4000000
namespace K02
open PySem PySem.Spec L2 PM
/-! ### shallow -/
mutual
def nodes : D → Nat
  | .tup xs => 1 + nodesL xs
  | _ => 1
def nodesL : List D → Nat
  | [] => 0
  | d :: ds => nodes d + nodesL ds
end
mutual
def clean : D → Bool
  | .tup xs => cleanL xs
  | .str _ => true
  | .int _ => true
  | .non => true
  | .bl _ => true
  | _ => false
def cleanL : List D → Bool
  | [] => true
  | d :: ds => clean d && cleanL ds
end
def kid : D → List D
  | .tup xs => xs
  | _ => []
def kids : List D → List D
  | [] => []
  | d :: ds => kid d ++ kids ds
theorem nodesL_append : ∀ a b : List D, nodesL (a ++ b) = nodesL a + nodesL b
  | [], b => by simp [nodesL]
  | d :: a, b => by simp only [List.cons_append, nodesL, nodesL_append a b]; omega
theorem cleanL_append : ∀ {a b : List D}, cleanL a = true → cleanL b = true → cleanL (a ++ b) = true
  | [], b, _, h => h
  | d :: a, b, h, h2 => by
    simp only [cleanL, Bool.and_eq_true] at h
    simp only [List.cons_append, cleanL, h.1, cleanL_append h.2 h2, Bool.and_self]
theorem nodes_kid (d : D) : nodes d = 1 + nodesL (kid d) := by cases d <;> simp [nodes, kid, nodesL]
theorem nodes_kids : ∀ ds : List D, nodesL ds = ds.length + nodesL (kids ds)
  | [] => rfl
  | d :: ds => by
    simp only [nodesL, kids, nodesL_append, List.length_cons]
    rw [nodes_kid d, nodes_kids ds]; omega
theorem clean_kid {d : D} (h : clean d = true) : cleanL (kid d) = true := by
  cases d <;> simp_all [kid, cleanL, clean]
theorem clean_kids : ∀ {ds : List D}, cleanL ds = true → cleanL (kids ds) = true
  | [], _ => rfl
  | d :: ds, h => by
    simp only [cleanL, Bool.and_eq_true] at h
    exact cleanL_append (clean_kid h.1) (clean_kids h.2)
theorem len_nodes : ∀ ds : List D, ds.length ≤ nodesL ds
  | [] => Nat.le_refl _
  | d :: ds => by have := len_nodes ds; have := nodes_kid d; simp only [nodesL, List.length_cons]; omega
theorem lcC_id {env : List (Option Cell)} (hl : 4 < env.length) (hno : noOwn env [4] = true) : ∀ (ds : List D) (n : Nat) (m : List MO), n + ds.length ≤ 1000000 → lcC [4] (.nm 4) tYesD (eLoc 4) ds n ⟨env, m⟩ = .ok ds ⟨env, m⟩
  | [], n, m, _ => rfl
  | d :: ds, n, m, h => by
    simp only [List.length_cons] at h
    have e := lcC_id hl hno ds (n + 1) m (by omega)
    have gi : (env.set 4 (some (Cell.val d)))[4]? = some (some (.val d)) := List.getElem?_set_self hl
    have rr := rest_set (c2 := some (Cell.val d)) hl
    have hn : n < 16777216 := by omega
    unfold lcC
    simp [hno, tgD, wipeE, R.bind, gi, rr, e, hn, sizeLine_eq]
theorem lc2_kids {x0 x1 x2 : Option Cell} : ∀ (ds : List D) (n : Nat) (m : List MO), cleanL ds = true → n + nodesL ds ≤ 1000000 →
    lc2Items [3, 4] [4] (.nm 3) (.nm 4) (eTr (eIsi .tuple (eLoc 3))) (iAny (eLoc 3)) tYesD (eLoc 4) ds n ⟨[x0, x1, x2, none, none], m⟩ = .ok (kids ds) ⟨[x0, x1, x2, none, none], m⟩
  | [], n, m, _, _ => rfl
  | d :: ds, n, m, hc, hz => by
    simp only [cleanL, Bool.and_eq_true] at hc
    simp only [nodesL] at hz
    have k1 := nodes_kid d
    have k2 := len_nodes (kid d)
    have e := lc2_kids (x0 := x0) (x1 := x1) (x2 := x2) ds (n + (kid d).length) m hc.2 (by omega)
    have nown : noOwn [x0, x1, x2, none, none] [3, 4] = true := rfl
    obtain ⟨h1, _⟩ := hc
    cases d with
    | tup xs =>
      simp only [kid] at e k2 k1
      have e2 := lcC_id (env := [x0, x1, x2, some (.val (.tup xs)), none]) (by simp) rfl xs n m (by omega)
      unfold lc2Items
      simp [nown, tgD, wipeE, restE, R.bind, isiD, e2, e, kids, kid]
    | str x => unfold lc2Items; simp [nown, tgD, wipeE, restE, R.bind, isiD, kids, kid]; simpa [kid] using e
    | int x => unfold lc2Items; simp [nown, tgD, wipeE, restE, R.bind, isiD, kids, kid]; simpa [kid] using e
    | non => unfold lc2Items; simp [nown, tgD, wipeE, restE, R.bind, isiD, kids, kid]; simpa [kid] using e
    | bl x => unfold lc2Items; simp [nown, tgD, wipeE, restE, R.bind, isiD, kids, kid]; simpa [kid] using e
    | _ => simp [clean] at h1
theorem shallow_loop {x0 : Option Cell} : ∀ (ks : List D) (row : List D) (m : List MO) (x2 : Option Cell), cleanL row = true → nodesL row ≤ ks.length → nodesL row ≤ 1000 → 0 < ks.length →
    ∃ s, sLoop (gNm 2) (sSeq (sSet 1 (eFrz (eLc2 [3, 4] [4] (.nm 3) (iAny (eLoc 1)) (eTr (eIsi .tuple (eLoc 3))) (.nm 4) (iAny (eLoc 3)) tYesD (eLoc 4))))
    (sSeq (sIf (tNotD (eTr (eLoc 1)))
    (sRet (eC (.bl true)))
    sNil)
    (sIf (eBl (eOp gtD (eCall lenD (aCons (eLoc 1) aNil)) (eC (.int (20000)))))
    (sRet (eC (.bl false)))
    sNil))) ks ⟨[x0, some (.val (.lst row)), x2, none, none], m⟩ = .ret (.bl true) s ∧ s.mem = m
  | [], row, m, x2, _, _, _, h => absurd h (Nat.lt_irrefl 0)
  | k :: ks, row, m, x2, hc, hn, hz, _ => by
    have e := lc2_kids (x0 := x0) (x1 := some (.val (.lst row))) (x2 := some (.val k)) row 0 m hc (by omega)
    have nk := nodes_kids row
    have lk := len_nodes (kids row)
    simp only [List.length_cons] at hn
    by_cases hk : kids row = []
    · refine ⟨⟨[x0, some (.val (.lst (kids row))), some (.val k), none, none], m⟩, ?_, rfl⟩
      unfold sLoop
      simp [R.bind, R.stm, eLc2, e, truthD, hk]
    · have hrow : row ≠ [] := fun z => hk (by rw [z]; rfl)
      have hpos : 0 < row.length := List.length_pos_iff.mpr hrow
      have kpos : 0 < (kids row).length := List.length_pos_iff.mpr hk
      obtain ⟨s, e2, hs⟩ := shallow_loop (x0 := x0) ks (kids row) m (some (.val k)) (clean_kids hc) (by omega) (by omega) (by omega)
      refine ⟨s, ?_, hs⟩
      have hie : (kids row).isEmpty = false := by simpa using hk
      have hle : ¬ ((20000 : Int) < (kids row).length) := by omega
      unfold sLoop
      simp [R.bind, R.stm, eLc2, e, truthD, hie, hle, hk]
      simpa using e2
theorem shallow_ok {cl : Cl} {d : D} (hc : clean d = true) (hn : nodes d ≤ 200) (m : List MO) : fnD 5 (body_is_shallow cl) [d] m = .ok (.bl true) m := by
  have hl : (rangeD 0 200).length = 200 := by simp [rangeD]
  obtain ⟨s, e, hs⟩ := shallow_loop (x0 := some (.val d)) (rangeD 0 200) [d] m none (by simp [cleanL, hc]) (by rw [hl]; simp [nodesL]; omega) (by simp [nodesL]; omega) (by rw [hl]; decide)
  have sm : small62 200 = true := by decide
  simp [fnD, body_is_shallow, R.bind, R.stm, sFor, iArgs, rng1, sm, e, hs]
end K02
namespace K02
open PySem PySem.Spec L2 PM
/-! ### parts -/
mutual
inductive Pn (F : Fd) : D → Nat → Prop
  | mk {d ps n} : (∀ m, F [d] m = .ok (.tup ps) m) → ps.length ≤ 100 → PnL F ps n → Pn F d (n + 1)
inductive PnL (F : Fd) : List D → Nat → Prop
  | nil : PnL F [] 0
  | cons {d ds a b} : Pn F d a → PnL F ds b → PnL F (d :: ds) (a + b)
end
theorem PnL.append {F : Fd} : ∀ {ds es : List D} {a b : Nat}, PnL F ds a → PnL F es b → PnL F (ds ++ es) (a + b)
  | _, _, _, _, .nil, h => by simpa using h
  | _, _, _, _, .cons p q, h => by
    have := PnL.cons p (PnL.append q h)
    rw [← Nat.add_assoc] at this
    exact this
theorem PnL.len {F : Fd} : ∀ {ds : List D} {a : Nat}, PnL F ds a → ds.length ≤ a
  | _, _, .nil => Nat.le_refl _
  | _, _, .cons (.mk _ _ _) q => by have := PnL.len q; simp only [List.length_cons]; omega
theorem parts_loop {F : Fd} {x0 : Option Cell} : ∀ (N fuel : Nat) (told rest : List D) (x3 : Option Cell) (m : List MO), PnL F rest N → N < fuel → told.length + N ≤ 100000 →
    ∃ told' x3', sWhile (tOwn 2) (sSeq (sSet 3 (ePop 2)) (sSeq (sApp 1 (eLoc 3)) (sExt 2 (eRev (eFn (fun ds m => if ds.length = 1 then F ds m else .stuck) (aCons (eLoc 3) aNil)))))) fuel
      ⟨[x0, some (.own (.lst told)), some (.own (.lst rest.reverse)), x3], m⟩ = .next ⟨[x0, some (.own (.lst told')), some (.own (.lst [])), x3'], m⟩ ∧ told'.length = told.length + N
  | N, 0, _, _, _, _, _, h, _ => absurd h (Nat.not_lt_zero N)
  | _, fuel + 1, told, [], x3, m, .nil, _, _ => by
    refine ⟨told, x3, ?_, rfl⟩
    simp [sWhile, tOwn, ownL, R.stm]
  | _, fuel + 1, told, d :: rest, x3, m, .cons (b := b) (.mk (ps := ps) (n := n) e hp q) h, hf, hz => by
    have q2 := q.append h
    have l2 := h.len
    have lq := q.len
    obtain ⟨told', x3', e2, l⟩ := parts_loop (F := F) (x0 := x0) (n + b) fuel (told ++ [d]) (ps ++ rest) (some (.val d)) m q2 (by omega) (by simp; omega)
    refine ⟨told', x3', ?_, by rw [l]; simp; omega⟩
    have c1 : told.length < 16777216 := by omega
    have c2 : rest.length + ps.length ≤ 16777216 := by omega
    have nt : ¬ (d :: rest).reverse = [] := by simp
    have pop : (rest.reverse ++ [d])[rest.length]? = some d := by
      rw [List.getElem?_append_right (by simp)]
      simp
    have dl : (rest.reverse ++ [d]).dropLast = rest.reverse := List.dropLast_concat
    have e' := e m
    rw [List.reverse_append] at e2
    simp [sWhile, tOwn, ownL, R.stm, R.bind, ePop, sApp, sExt, eRev, revK, pop, dl, sizeLine_eq, c1, c2, e', e2]
theorem all_parts_ok {cl : Cl} {d : D} {N : Nat} (h : Pn (cl 16) d N) (hN : N < 3000) (m : List MO) : ∃ ts : List D, fnD 4 (body_all_parts cl) [d] m = .ok (.tup ts) m ∧ ts.length = N := by
  have h1 : PnL (cl 16) [d] N := by
    have := PnL.cons h .nil
    exact this
  obtain ⟨told', x3', e, l⟩ := parts_loop (F := cl 16) (x0 := some (.val d)) N 3000 [] [d] none m h1 hN (by simp; omega)
  refine ⟨told', ?_, by simpa using l⟩
  simp only [List.reverse_cons, List.reverse_nil, List.nil_append] at e
  simp [fnD, body_all_parts, R.bind, R.stm, sOwn, fLst, e, tupleD]
/-- a claim's parts -/
theorem po_rest {cl : Cl} {w : String} {xs : List D} (h1 : ¬ w = "num" ∧ ¬ w = "nil" ∧ ¬ w = "none" ∧ ¬ w = "word" ∧ ¬ w = "true" ∧ ¬ w = "false" ∧ ¬ w = "un" ∧ ¬ w = "gate") (m : List MO) : fnD 1 (body_parts_of cl) [.tup (.str (PySem.Str.ofString w) :: xs)] m = .ok (.tup xs) m := by
  obtain ⟨n1, n2, n3, n4, n5, n6, n7, n8⟩ := h1
  have sl : slD (.tup (D.str (PySem.Str.ofString w) :: xs)) (some 1) none = some (.tup xs) := by
    simp [slD, cutL, HT.sIx]
  have n1' : ¬ "num" = w := fun z => n1 z.symm
  have n2' : ¬ "nil" = w := fun z => n2 z.symm
  have n3' : ¬ "none" = w := fun z => n3 z.symm
  have n4' : ¬ "word" = w := fun z => n4 z.symm
  have n5' : ¬ "true" = w := fun z => n5 z.symm
  have n6' : ¬ "false" = w := fun z => n6 z.symm
  simp [fnD, body_parts_of, R.bind, R.stm, inD, memD, flatD, eqF, n1, n2, n3, n4, n5, n6, n7, n8, n1', n2', n3', n4', n5', n6', sl]
end K02
end

section
set_option Elab.async false
set_option linter.all false
set_option maxRecDepth 100000
set_option maxHeartbeats 4000000
namespace K02
open PySem PySem.Spec L2 PM
def tn : Nat → Nat
  | 0 => 7
  | n + 1 => 4 + 2 * tn n
def tp : Nat → Nat
  | 0 => 1
  | n + 1 => 1 + 2 * tp n
theorem tn_le (n : Nat) : 7 ≤ tn n := by
  induction n with
  | zero => decide
  | succ n ih => simp only [tn]; omega
theorem tp_le (n : Nat) : 1 ≤ tp n := by
  induction n with
  | zero => decide
  | succ n ih => simp only [tp]; omega
/-- what the program's walks over a term ask of it -/
structure Fine (F : Fd) (d : D) (a b : Nat) : Prop where
  cl : clean d = true
  nd : nodes d ≤ a
  pn : ∃ N, N ≤ b ∧ Pn F d N
theorem po_un {cl : Cl} {nm : String} {xs : List D} (m : List MO) : fnD 1 (body_parts_of cl) [unT nm xs] m = .ok (.tup xs) m := by
  simp [fnD, body_parts_of, unT, R.bind, R.stm, inD, memD, flatD, eqF]
theorem po_alone {cl : Cl} {w : String} (hw : w ∈ ["nil", "none"]) {xs : List D} (m : List MO) : fnD 1 (body_parts_of cl) [.tup (.str (PySem.Str.ofString w) :: xs)] m = .ok (.tup []) m := by
  simp only [List.mem_cons, List.not_mem_nil, or_false] at hw
  rcases hw with rfl | rfl <;> simp [fnD, body_parts_of, unT, R.bind, R.stm, inD, memD, flatD, eqF]
theorem tm_fine {F : Fd} (hF : ∃ cl : Cl, F = fnD 1 (body_parts_of cl)) {rows : List Row} : ∀ {n : Nat} {s t : D}, Tm rows n s t → Fine F t (tn n) (tp n) := by
  obtain ⟨cl, rfl⟩ := hF
  have leaf : ∀ {d : D} {n : Nat}, (∀ m, fnD 1 (body_parts_of cl) [d] m = .ok (.tup []) m) → ∃ N, N ≤ tp n ∧ Pn (fnD 1 (body_parts_of cl)) d N := fun {d n} h => ⟨1, tp_le n, .mk h (by simp) .nil⟩
  have one : ∀ {d x : D} {n : Nat}, (∀ m, fnD 1 (body_parts_of cl) [d] m = .ok (.tup [x]) m) → (∃ N, N ≤ tp n ∧ Pn (fnD 1 (body_parts_of cl)) x N) → ∃ N, N ≤ tp (n + 1) ∧ Pn (fnD 1 (body_parts_of cl)) d N := fun {d x n} h ⟨N, hN, p⟩ =>
    ⟨N + 0 + 1, by simp only [tp]; omega, .mk h (by simp) (.cons p .nil)⟩
  have two : ∀ {d x y : D} {n : Nat}, (∀ m, fnD 1 (body_parts_of cl) [d] m = .ok (.tup [x, y]) m) → (∃ N, N ≤ tp n ∧ Pn (fnD 1 (body_parts_of cl)) x N) → (∃ N, N ≤ tp n ∧ Pn (fnD 1 (body_parts_of cl)) y N) → ∃ N, N ≤ tp (n + 1) ∧ Pn (fnD 1 (body_parts_of cl)) d N := fun {d x y n} h ⟨N, hN, p⟩ ⟨M, hM, q⟩ =>
    ⟨N + (M + 0) + 1, by simp only [tp]; omega, .mk h (by simp) (.cons p (.cons q .nil))⟩
  intro n s t T
  induction T with
  | @un0 n nm s hr => exact ⟨rfl, by have := tn_le n; simp only [unT, nodes, nodesL]; omega, leaf po_un⟩
  | @un1 n nm p s x hr T ih => exact ⟨by simp [unT, clean, cleanL, ih.cl], by have := ih.nd; simp only [unT, nodes, nodesL, tn]; omega, one po_un ih.pn⟩
  | @un2 n nm p q s x y hr T1 T2 ih1 ih2 => exact ⟨by simp [unT, clean, cleanL, ih1.cl, ih2.cl], by have := ih1.nd; have := ih2.nd; simp only [unT, nodes, nodesL, tn]; omega, two po_un ih1.pn ih2.pn⟩
  | @nil n => exact ⟨rfl, by have := tn_le n; simp only [sA, nodes, nodesL]; omega, leaf (po_alone (w := "nil") (by simp))⟩
  | @none n e he => exact ⟨by rcases he with rfl | rfl <;> rfl, by have := tn_le n; rcases he with rfl | rfl <;> simp only [sA, sL, nodes, nodesL] <;> omega, leaf (po_alone (w := "none") (by simp))⟩
  | @cons n h t T1 T2 ih1 ih2 => exact ⟨by simp [clean, cleanL, ih1.cl, ih2.cl], by have := ih1.nd; have := ih2.nd; simp only [nodes, nodesL, tn]; omega, two (fun m => po_rest (w := "cons") (by decide) m) ih1.pn ih2.pn⟩
  | @one n x e he T ih => exact ⟨by simp [clean, cleanL, ih.cl], by have := ih.nd; simp only [nodes, nodesL, tn]; omega, one (fun m => po_rest (w := "one") (by decide) m) ih.pn⟩
  | @two n w x y e hw he T1 T2 ih1 ih2 =>
    refine ⟨by simp [clean, cleanL, ih1.cl, ih2.cl], by have := ih1.nd; have := ih2.nd; simp only [nodes, nodesL, tn]; omega, two (fun m => ?_) ih1.pn ih2.pn⟩
    refine po_rest (w := w) ?_ m
    simp only [List.mem_cons, List.not_mem_nil, or_false] at hw
    rcases hw with rfl | rfl | rfl <;> decide
def cn (n : Nat) : Nat → Nat
  | 0 => 2 + 2 * tn n
  | z + 1 => 2 + 2 * cn n z
def cp (n : Nat) : Nat → Nat
  | 0 => 1 + 2 * tp n
  | z + 1 => 1 + 2 * cp n z
theorem cn_le (n : Nat) : ∀ z, 2 + 2 * tn n ≤ cn n z
  | 0 => Nat.le_refl _
  | z + 1 => by have := cn_le n z; simp only [cn]; omega
theorem cp_le (n : Nat) : ∀ z, 1 + 2 * tp n ≤ cp n z
  | 0 => Nat.le_refl _
  | z + 1 => by have := cp_le n z; simp only [cp]; omega
theorem cm_fine {F : Fd} (hF : ∃ cl : Cl, F = fnD 1 (body_parts_of cl)) {rows : List Row} : ∀ {z n : Nat} {c : D}, Cm rows z n c → Fine F c (cn n z) (cp n z) := by
  have tf := fun {n : Nat} {s t : D} (T : Tm rows n s t) => tm_fine hF T
  obtain ⟨cl, rfl⟩ := hF
  intro z n c C
  induction C with
  | @is z n s x y hs T1 T2 =>
    have i1 := tf T1
    have i2 := tf T2
    obtain ⟨N, hN, p⟩ := i1.pn
    obtain ⟨M, hM, q⟩ := i2.pn
    have c1 := cn_le n z
    have c2 := cp_le n z
    exact ⟨by simp [clean, cleanL, i1.cl, i2.cl], by have := i1.nd; have := i2.nd; simp only [nodes, nodesL]; omega, N + (M + 0) + 1, by omega, .mk (fun m => po_rest (w := "is") (by decide) m) (by simp) (.cons p (.cons q .nil))⟩
  | @isin z n x y T1 T2 =>
    have i1 := tf T1
    have i2 := tf T2
    obtain ⟨N, hN, p⟩ := i1.pn
    obtain ⟨M, hM, q⟩ := i2.pn
    have c1 := cn_le n z
    have c2 := cp_le n z
    exact ⟨by simp [clean, cleanL, i1.cl, i2.cl], by have := i1.nd; have := i2.nd; simp only [nodes, nodesL]; omega, N + (M + 0) + 1, by omega, .mk (fun m => po_rest (w := "in") (by decide) m) (by simp) (.cons p (.cons q .nil))⟩
  | @not z n c C ih =>
    obtain ⟨N, hN, p⟩ := ih.pn
    exact ⟨by simp [clean, cleanL, ih.cl], by have := ih.nd; simp only [nodes, nodesL, cn]; omega, N + 0 + 1, by simp only [cp]; omega, .mk (fun m => po_rest (w := "not") (by decide) m) (by simp) (.cons p .nil)⟩
  | @two z n w c d hw C1 C2 ih1 ih2 =>
    obtain ⟨N, hN, p⟩ := ih1.pn
    obtain ⟨M, hM, q⟩ := ih2.pn
    refine ⟨by simp [clean, cleanL, ih1.cl, ih2.cl], by have := ih1.nd; have := ih2.nd; simp only [nodes, nodesL, cn]; omega, N + (M + 0) + 1, by simp only [cp]; omega, .mk (fun m => po_rest (w := w) ?_ m) (by simp) (.cons p (.cons q .nil))⟩
    simp only [List.mem_cons, List.not_mem_nil, or_false] at hw
    rcases hw with rfl | rfl | rfl | rfl <;> decide
/-! ### small claims, texts -/
theorem small_ok {rows : List Row} (hsub : rows.Sublist allRows) {c : D} (h : Good rows c) (K : Nat) (m : List MO) : prog (K + 20) 20 [c, ownD rows] m = .ok (.bl true) m := by
  have fin : ∀ {z n : Nat}, Cm rows z n c → cn n z ≤ 200 → cp n z ≤ 60 → z + 3 * n ≤ 8 → prog (K + 20) 20 [c, ownD rows] m = .ok (.bl true) m := by
    intro z n C h1 h2 h3
    have f := cm_fine (F := prog (K + 18) 16) ⟨prog (K + 17), rfl⟩ C
    have e1 : prog (K + 19) 6 [c] m = .ok (.bl true) m := shallow_ok (cl := prog (K + 18)) f.cl (by have := f.nd; omega) m
    have e2 : prog (K + 19) 15 [ownD rows, c] m = .ok (.bl true) m := by
      have := claim_true hsub C (K + 10 - (z + 3 * n)) m
      rwa [show K + 10 - (z + 3 * n) + z + 3 * n + 9 = K + 19 by omega] at this
    obtain ⟨N, hN, p⟩ := f.pn
    obtain ⟨ts, e3, l3⟩ := all_parts_ok (cl := prog (K + 18)) p (by omega) m
    have e3 : prog (K + 19) 17 [c] m = .ok (.tup ts) m := e3
    have l : (ts.length : Int) ≤ 60 := by omega
    show fnD 2 (body_is_small_claim (prog (K + 19))) [c, ownD rows] m = _
    simp [fnD, body_is_small_claim, R.bind, R.stm, e1, e2, e3, l]
  rcases h with C | C
  · exact fin C (by decide) (by decide) (by decide)
  · exact fin C (by decide) (by decide) (by decide)
end K02
end

section
set_option Elab.async false
set_option linter.all false
set_option maxRecDepth 100000
set_option maxHeartbeats 4000000
namespace K02
open PySem PySem.Spec L2 PM
/-! ### is_text -/
/-- a comprehension whose element does not change anything -/
theorem lc_map {g : D → D} {i : Nat} {env : List (Option Cell)} {fe : S → R D} {m : List MO} (hl : i < env.length) (hno : noOwn env [i] = true) : ∀ (ds : List D), (∀ d ∈ ds, fe ⟨env.set i (some (.val d)), m⟩ = .ok (g d) ⟨env.set i (some (.val d)), m⟩) →
    lcItems [i] (.nm i) tYesD fe ds ⟨env, m⟩ = .ok (ds.map g) ⟨env, m⟩
  | [], _ => rfl
  | d :: ds, h => by
    have e := lc_map hl hno ds fun x hx => h x (List.mem_cons_of_mem d hx)
    have e1 := h d List.mem_cons_self
    have rr := rest_set (c2 := some (Cell.val d)) hl
    unfold lcItems
    simp [hno, tgD, wipeE, R.bind, rr, e, e1]
theorem bls_true {α : Type} : ∀ xs : List α, ∃ bs, blsD (xs.map fun _ => D.bl true) = some bs ∧ bs.all id = true
  | [] => ⟨[], rfl, rfl⟩
  | _ :: xs => by
    obtain ⟨bs, e, h⟩ := bls_true xs
    exact ⟨true :: bs, by simp [blsD, e], by simpa using h⟩
theorem all_true {α : Type} (xs : List α) : allD [.lst (xs.map fun _ => D.bl true)] = some (.bl true) := by
  obtain ⟨bs, e, h⟩ := bls_true xs
  simp only [allD, e, Option.map_some, h]
theorem bls_map {α : Type} (g : α → Bool) : ∀ xs : List α, blsD (xs.map fun x => D.bl (g x)) = some (xs.map g)
  | [] => rfl
  | x :: xs => by simp [blsD, bls_map g xs]
theorem all_map {α : Type} (g : α → Bool) (xs : List α) : allD [.lst (xs.map fun x => D.bl (g x))] = some (.bl (xs.all g)) := by
  simp only [allD, bls_map, Option.map_some]
  congr 2
  induction xs <;> simp_all
theorem dc_names {env : List (Option Cell)} {m : List MO} (hl : 9 < env.length) (hno : noOwn env [9] = true) : ∀ (ns : List String) (ks : List Key) (vs : List D), (∀ n ∈ ns, (Sum.inr (PySem.Str.ofString n) : Key) ∉ ks) → ns.Nodup → ks.length = vs.length → ks.length + ns.length ≤ 1000 →
    ∃ vs', dcItems [9] (.nm 9) tYesD (eLoc 9) (eC (.bl true)) (ns.map fun n => D.str (PySem.Str.ofString n)) ks vs ⟨env, m⟩ = .ok (.dct (ks ++ ns.map fun n => Sum.inr (PySem.Str.ofString n)) vs') ⟨env, m⟩
  | [], ks, vs, _, _, _, _ => ⟨vs, by simp [dcItems]⟩
  | n :: ns, ks, vs, h, nd, hl2, hz => by
    simp only [List.nodup_cons, List.length_cons] at nd hz
    have hk := h n List.mem_cons_self
    obtain ⟨vs', ih⟩ := dc_names (m := m) hl hno ns (ks ++ [Sum.inr (PySem.Str.ofString n)]) (vs ++ [.bl true]) (fun q hq z => by
      rcases List.mem_append.mp z with z | z
      · exact h q (List.mem_cons_of_mem n hq) z
      · simp only [List.mem_cons, List.not_mem_nil, or_false, Sum.inr.injEq, so_inj] at z
        exact nd.1 (z ▸ hq)) nd.2 (by simp [hl2]) (by simp; omega)
    refine ⟨vs', ?_⟩
    have hz' : ks.length < 16777216 := by omega
    have e1 := putKs_new hk
    have e2 := putVs_new (d := .bl true) hk hl2
    have gi : (env.set 9 (some (Cell.val (.str (PySem.Str.ofString n)))))[9]? = some (some (.val (.str (PySem.Str.ofString n)))) := List.getElem?_set_self hl
    have rr := rest_set (c2 := some (Cell.val (.str (PySem.Str.ofString n)))) hl
    rw [List.map_cons]
    unfold dcItems
    simp only [List.append_assoc, List.cons_append, List.nil_append] at ih
    simp [hno, tgD, wipeE, gi, rr, keyD, sizeLine_eq, hz', e1, e2, ih]
theorem unk_ok {r : Row} (h : r ∈ allRows) (k : Nat) (m : List MO) : prog (k + 8) 19 [rowD r, aT] m = .ok (.bl true) m := by
  simp only [allRows, List.mem_cons, List.not_mem_nil, or_false] at h
  rcases h with rfl | rfl | rfl | rfl | rfl | rfl | rfl | rfl | rfl | rfl | rfl | rfl | rfl <;> kernel_rfl
theorem form_ok (k : Nat) (T U C : D) (m : List MO) : prog (k + 1) 2 [.tup [.str "text", T, U, C], .str "text", .int 4] m = .ok (.bl true) m := by kernel_rfl
theorem name_a (k : Nat) (m : List MO) : prog (k + 1) 1 [.str "a"] m = .ok (.bl true) m := by kernel_rfl
theorem text_gen {g : D → Bool} {rows : List Row} (hsub : rows.Sublist allRows) {cs : List D} (hl : cs.length ≤ 12) (K : Nat) (h : ∀ c ∈ cs, ∀ m, prog (K + 20) 20 [c, ownD rows] m = .ok (.bl (g c)) m) (m : List MO) : prog (K + 21) 21 [textD rows cs] m = .ok (.bl (cs.all g)) m := by
  have hr : ∀ r ∈ rows, r ∈ allRows := fun r hr => hsub.subset hr
  have lr : rows.length ≤ 13 := hsub.length_le
  have f1 : rows.length ≤ 16777216 := by omega
  have f2 : cs.length ≤ 16777216 := by omega
  have g1 : ¬ ((16 : Int) < rows.length) := by omega
  have g2 : ¬ ((12 : Int) < cs.length) := by omega
  obtain ⟨T, hT⟩ : ∃ T, T = textD rows cs := ⟨_, rfl⟩
  obtain ⟨U, hU⟩ : ∃ U, U = rows.map rowD := ⟨_, rfl⟩
  have lU : U.length = rows.length := by rw [hU, List.length_map]
  have e1 : prog (K + 20) 2 [T, .str "text", .int 4] m = .ok (.bl true) m := by rw [hT]; exact form_ok _ _ _ _ m
  have sl : slD T (some 1) none = some (.tup [aT, .tup U, .tup cs]) := by rw [hT, hU]; rfl
  have e2 : prog (K + 20) 1 [.str "a"] m = .ok (.bl true) m := name_a _ m
  have own : prog (K + 20) 18 [T] m = .ok (ownD rows) m := by rw [hT]; exact own_ok (cl := prog (K + 19)) hsub cs m
  have hTup : T = .tup [.str "text", aT, .tup U, .tup cs] := by rw [hT, hU]; rfl
  have mapU : ∀ (g : Row → D) (g' : D → D), (∀ r ∈ rows, g' (rowD r) = g r) → U.map g' = rows.map g := fun g g' hg => by
    rw [hU, List.map_map]
    exact List.map_congr_left fun r hr => hg r hr
  have mem : ∀ d ∈ U, ∃ r, r ∈ rows ∧ d = rowD r := fun d hd => by
    rw [hU] at hd
    obtain ⟨r, h1, h2⟩ := List.mem_map.mp hd
    exact ⟨r, h1, h2.symm⟩
  -- the three comprehensions over what is long
  have c1 := lc_map (i := 7) (env := [some (.val T), some (.val (.str "text")), some (.val aT), some (.val (.tup U)), some (.val (.tup cs)), none, none, none, none, none]) (m := m) (g := fun _ => .bl true) (fe := eFn (fun ds m => if ds.length = 2 then prog (K + 20) 19 ds m else .stuck) (aCons (eLoc 7) (aCons (eLoc 2) aNil))) (by simp) rfl U fun d hd => by
    obtain ⟨r, h1, rfl⟩ := mem d hd
    have e : prog (K + 20) 19 [rowD r, aT] m = .ok (.bl true) m := unk_ok (hr r h1) (K + 12) m
    simp [R.bind, e]
  have c2 := lc_map (i := 7) (env := [some (.val T), some (.val (.str "text")), some (.val aT), some (.val (.tup U)), some (.val (.tup cs)), none, none, none, none, none]) (m := m) (g := fun d => (ixSq d (.int 0)).getD .non) (fe := eOp ixSq (eLoc 7) (eC (.int 0))) (by simp) rfl U fun d hd => by
    obtain ⟨r, h1, rfl⟩ := mem d hd
    simp [R.bind, rowD]
  rw [mapU (fun r => .str (PySem.Str.ofString r.1)) _ (fun r _ => by simp [rowD])] at c2
  have nn : (("a" :: rows.map (·.1)) : List String).Nodup := by
    have : (("a" :: allRows.map (·.1)) : List String).Nodup := by decide
    exact this.sublist ((hsub.map _).cons_cons "a")
  have nl : D.str "a" :: rows.map (fun r => D.str (PySem.Str.ofString r.1)) = ("a" :: rows.map (·.1)).map fun n => D.str (PySem.Str.ofString n) := by simp
  obtain ⟨vs', c3⟩ := dc_names (env := [some (.val T), some (.val (.str "text")), some (.val aT), some (.val (.tup U)), some (.val (.tup cs)), some (.val (.lst (D.str "a" :: rows.map (fun r => D.str (PySem.Str.ofString r.1))))), none, none, none, none]) (m := m) (by simp) rfl ("a" :: rows.map (·.1)) [] [] (by simp) nn rfl (by simp; omega)
  rw [← nl] at c3
  have c4 := lc_map (i := 8) (env := [some (.val T), some (.val (.str "text")), some (.val aT), some (.val (.tup U)), some (.val (.tup cs)), some (.val (.lst (D.str "a" :: rows.map (fun r => D.str (PySem.Str.ofString r.1))))), some (.val (ownD rows)), none, none, none]) (m := m) (g := fun c => .bl (g c)) (fe := eFn (fun ds m => if ds.length = 2 then prog (K + 20) 20 ds m else .stuck) (aCons (eLoc 8) (aCons (eLoc 6) aNil))) (by simp) rfl cs fun d hd => by
    have e := h d hd m
    simp [R.bind, e]
  rw [← hT]
  show fnD 10 (body_is_text (prog (K + 20))) [T] m = _
  have a1 := all_true U
  have a2 := all_map g cs
  have a3 : allD [.lst [D.bl true, .bl true, .bl true]] = some (.bl true) := rfl
  have a4 : allD [.lst [D.bl true]] = some (.bl true) := rfl
  have f3 : rows.length + 1 ≤ 16777216 := by omega
  have f4 : 1 + rows.length ≤ 16777216 := by omega
  have gT : ∀ (g : List D → S → Option S) (s : S), gTp 4 g T s = g [.str "text", aT, .tup U, .tup cs] s := fun g s => by rw [hTup]; rfl
  have itA : itemsA aT = some [.str "a"] := rfl
  have lnA : lenD [aT] = some (.int 1) := rfl
  have liA : listD [aT] = some (.lst [.str "a"]) := rfl
  have iA : isiD .tuple aT = some true := rfl
  have iU : isiD .tuple (.tup U) = some true := rfl
  have iC : isiD .tuple (.tup cs) = some true := rfl
  have lnD : ∀ (ks : List Key) (vs : List D), lenD [.dct ks vs] = some (.int ks.length) := fun _ _ => rfl
  simp only [List.nil_append] at c3
  simp [fnD, body_is_text, R.bind, R.stm, e1, sl, lcItems, noOwn, tgD, wipeE, restE, iA, iU, iC, a3, gT, lnA, lU, g1, g2, f1, f2, itA, e2, a4, c1, a1, liA, c2, addD, sizeLine_eq, f4, eDc, c3, lnD, own, c4, a2]
theorem text_true {rows : List Row} (hsub : rows.Sublist allRows) {cs : List D} (hl : cs.length ≤ 12) (K : Nat) (h : ∀ c ∈ cs, ∀ m, prog (K + 20) 20 [c, ownD rows] m = .ok (.bl true) m) (m : List MO) : prog (K + 21) 21 [textD rows cs] m = .ok (.bl true) m := by
  have := text_gen (g := fun _ => true) hsub hl K h m
  have e : (cs.all fun _ => true) = true := List.all_eq_true.mpr fun _ _ => rfl
  rw [e] at this
  exact this
end K02
end

section
set_option Elab.async false
set_option linter.all false
set_option maxRecDepth 100000
set_option maxHeartbeats 4000000
namespace K02
open PySem PySem.Spec L2 PM
/-! ### digits -/
theorem dig1 {x0 x1 x2 x4 x5 x8 : Option Cell} {m : List MO} : ∀ (ks : List D) (dg : List Int) (n : Int) (x7 : Option Cell), 0 ≤ n → dg.length + ks.length ≤ 100000 → ∃ (dg' : List Int) (n' : Int) (x7' : Option Cell), sLoop (gNm 7) (sIf (eBl (eOp gtD (eLoc 6) (eC (.int (0)))))
    (sSeq (sApp 3 (eOp modD (eLoc 6) (eC (.int (1009)))))
    (sSet 6 (eOp fdivD (eLoc 6) (eC (.int (1009))))))
    sNil) ks ⟨[x0, x1, x2, some (.own (.lst (dg.map .int))), x4, x5, some (.val (.int n)), x7, x8], m⟩ = .next ⟨[x0, x1, x2, some (.own (.lst (dg'.map .int))), x4, x5, some (.val (.int n')), x7', x8], m⟩ ∧ dg'.length ≤ dg.length + ks.length
  | [], dg, n, x7, _, _ => ⟨dg, n, x7, rfl, Nat.le_refl _⟩
  | k :: ks, dg, n, x7, h0, hz => by
    simp only [List.length_cons] at hz
    by_cases hn : 0 < n
    · have hdg : dg.map D.int ++ [.int (n % 1009)] = (dg ++ [n % 1009]).map .int := by simp
      obtain ⟨dg', n', x7', e, l⟩ := dig1 (x0 := x0) (x1 := x1) (x2 := x2) (x4 := x4) (x5 := x5) (x8 := x8) (m := m) ks (dg ++ [n % 1009]) (n / 1009) (some (.val k)) (Int.ediv_nonneg h0 (by decide)) (by simp; omega)
      refine ⟨dg', n', x7', ?_, by simp at l ⊢; omega⟩
      have c1 : CDiv n 1009 := by unfold CDiv; decide
      have c2 : dg.length < 16777216 := by omega
      unfold sLoop
      simp [R.bind, R.stm, hn, sApp, ownL, modD, fdivD, c1, c2, sizeLine_eq]
      simpa using e
    · obtain ⟨dg', n', x7', e, l⟩ := dig1 (x0 := x0) (x1 := x1) (x2 := x2) (x4 := x4) (x5 := x5) (x8 := x8) (m := m) ks dg n (some (.val k)) h0 (by omega)
      refine ⟨dg', n', x7', ?_, by simp; omega⟩
      unfold sLoop
      simp [R.bind, R.stm, hn]
      simpa using e
theorem dig2 {x0 x1 x2 x4 x5 x6 : Option Cell} {m : List MO} : ∀ (ts : List Int) (dg : List Int) (s : Int) (x7 : Option Cell), dg.length + ts.length ≤ 100000 → ∃ (dg' : List Int) (s' : Int) (x7' : Option Cell), sLoop (gNm 7) (sSeq (sSet 8 (eOp modD (eOp addD (eOp addD (eOp mulD (eLoc 8) (eC (.int (16807)))) (eOp mulD (eLoc 7) (eC (.int (7))))) (eC (.int (1)))) (eC (.int (2147483647)))))
    (sApp 3 (eOp modD (eOp fdivD (eLoc 8) (eC (.int (997)))) (eC (.int (1009)))))) (ts.map .int) ⟨[x0, x1, x2, some (.own (.lst (dg.map .int))), x4, x5, x6, x7, some (.val (.int s))], m⟩ = .next ⟨[x0, x1, x2, some (.own (.lst (dg'.map .int))), x4, x5, x6, x7', some (.val (.int s'))], m⟩ ∧ dg'.length ≤ dg.length + ts.length
  | [], dg, n, x7, _ => ⟨dg, n, x7, rfl, Nat.le_refl _⟩
  | t :: ts, dg, s, x7, hz => by
    simp only [List.length_cons] at hz
    have c1 : CMul s 16807 := .inr ⟨by decide, by decide⟩
    have c2 : CMul t 7 := .inr ⟨by decide, by decide⟩
    have c3 : ∀ z : Int, CDiv z 997 := fun z => by unfold CDiv; decide
    have c4 : dg.length < 16777216 := by omega
    obtain ⟨dg', s', x7', e, l⟩ := dig2 (x0 := x0) (x1 := x1) (x2 := x2) (x4 := x4) (x5 := x5) (x6 := x6) (m := m) ts (dg ++ [(s * 16807 + t * 7 + 1) % 2147483647 / 997 % 1009]) ((s * 16807 + t * 7 + 1) % 2147483647) (some (.val (.int t))) (by simp; omega)
    refine ⟨dg', s', x7', ?_, by simp at l ⊢; omega⟩
    rw [List.map_cons]
    unfold sLoop
    simp [R.bind, R.stm, sApp, ownL, modD, fdivD, mulD, addD, c1, c2, c3, c4, sizeLine_eq]
    simpa using e
theorem cell_ok {cl : Cl} {ns : List Int} {k : Int} (h0 : 0 ≤ k) (m : List MO) : ∃ c, fnD 2 (body__law_cell cl) [.frz (ns.map .int), .int k] m = .ok (.int c) m := by
  by_cases hl : k < (ns.length : Int)
  · have hj : k.toNat < ns.length := by omega
    have hg : atI (ns.map D.int) k = some (.int ns[k.toNat]) := by
      have := at_nat (xs := ns.map D.int) (n := k.toNat) (d := .int ns[k.toNat]) (by rw [List.getElem?_map, List.getElem?_eq_getElem hj]; rfl)
      rwa [show ((k.toNat : Nat) : Int) = k by omega] at this
    exact ⟨_, by simp [fnD, body__law_cell, R.bind, R.stm, hl, hg]; rfl⟩
  · exact ⟨0, by simp [fnD, body__law_cell, R.bind, R.stm, hl]⟩
theorem rangeD_int (n : Nat) : rangeD 0 n = ((List.range n).map fun (i : Nat) => (i : Int)).map D.int := by
  unfold rangeD
  rw [List.map_map]
  apply List.map_congr_left
  intro a _
  simp
def digTail : S → Rs :=
    sIf (eBl (eOp geD (eLoc 5) (eOp powD (eC (.int (10))) (eC (.int (18))))))
    (sSeq (sSet 6 (eLoc 5))
    (sFor (iArgs rng1 (aCons (eC (.int (60))) aNil)) (gNm 7)
    (sIf (eBl (eOp gtD (eLoc 6) (eC (.int (0)))))
    (sSeq (sApp 3 (eOp modD (eLoc 6) (eC (.int (1009)))))
    (sSet 6 (eOp fdivD (eLoc 6) (eC (.int (1009))))))
    sNil)))
    (sSeq (sSet 8 (eOp modD (eOp addD (eOp addD (eOp mulD (eLoc 5) (eC (.int (48271)))) (eOp mulD (eCall intD (aCons (eOp addD (eLoc 4) (eC (.int (1)))) aNil)) (eC (.int (69621))))) (eC (.int (11)))) (eC (.int (2147483647)))))
    (sFor (iArgs rng1 (aCons (eC (.int (12))) aNil)) (gNm 7)
    (sSeq (sSet 8 (eOp modD (eOp addD (eOp addD (eOp mulD (eLoc 8) (eC (.int (16807)))) (eOp mulD (eLoc 7) (eC (.int (7))))) (eC (.int (1)))) (eC (.int (2147483647)))))
    (sApp 3 (eOp modD (eOp fdivD (eLoc 8) (eC (.int (997)))) (eC (.int (1009))))))))
def digBody (cl : Cl) : S → Rs :=
    (sSeq (sSet 5 (eFn (fun ds m => if ds.length = 2 then cl 43 ds m else .stuck) (aCons (eLoc 0) (aCons (eLoc 4) aNil))))
    (sSeq (sIf (eBl (eOp ltD (eLoc 5) (eC (.int (0)))))
    (sSet 5 (eOp subD (eC (.int (1))) (eOp mulD (eLoc 5) (eC (.int (2))))))
    sNil)
    digTail))
theorem dig_step {cl : Cl} {ns : List Int} (hc : ∀ (k : Int) (m : List MO), 0 ≤ k → ∃ c, cl 43 [.frz (ns.map .int), .int k] m = .ok (.int c) m) {x1 x2 x5 x6 x7 x8 : Option Cell} {m : List MO} {k : Int} (k0 : 0 ≤ k) (dg : List Int) (hz : dg.length ≤ 50000) : ∃ (dg' : List Int) (x5' x6' x7' x8' : Option Cell),
    digBody cl ⟨[some (.val (.frz (ns.map .int))), x1, x2, some (.own (.lst (dg.map .int))), some (.val (.int k)), x5, x6, x7, x8], m⟩ = .next ⟨[some (.val (.frz (ns.map .int))), x1, x2, some (.own (.lst (dg'.map .int))), some (.val (.int k)), x5', x6', x7', x8'], m⟩ ∧ dg'.length ≤ dg.length + 60 := by
  obtain ⟨c0, ec⟩ := hc k m k0
  have sm60 : small62 60 = true := by decide
  have sm12 : small62 12 = true := by decide
  have l60 : (rangeD 0 60).length = 60 := by simp [rangeD]
  have pw : powD (.int 10) (.int 18) = some (.int 1000000000000000000) := by kernel_rfl
  have cm2 : ∀ z : Int, CMul z 2 := fun z => .inr ⟨by decide, by decide⟩
  have cm3 : ∀ z : Int, CMul z 48271 := fun z => .inr ⟨by decide, by decide⟩
  have cm4 : ∀ z : Int, CMul z 69621 := fun z => .inr ⟨by decide, by decide⟩
  -- after the turn about
  have tail : ∀ c : Int, 0 ≤ c → ∃ (dg' : List Int) (x5' x6' x7' x8' : Option Cell),
      digTail ⟨[some (.val (.frz (ns.map .int))), x1, x2, some (.own (.lst (dg.map .int))), some (.val (.int k)), some (.val (.int c)), x6, x7, x8], m⟩ = .next ⟨[some (.val (.frz (ns.map .int))), x1, x2, some (.own (.lst (dg'.map .int))), some (.val (.int k)), x5', x6', x7', x8'], m⟩ ∧ dg'.length ≤ dg.length + 60 := by
    intro c c00
    by_cases hbig : 1000000000000000000 ≤ c
    · obtain ⟨dg1, n1, y7, e1, l1⟩ := dig1 (x0 := some (.val (.frz (ns.map .int)))) (x1 := x1) (x2 := x2) (x4 := some (.val (.int k))) (x5 := some (.val (.int c))) (x8 := x8) (m := m) (rangeD 0 60) dg c x7 c00 (by rw [l60]; omega)
      refine ⟨dg1, some (.val (.int c)), some (.val (.int n1)), y7, x8, ?_, by omega⟩
      simp [digTail, R.bind, R.stm, pw, hbig, sFor, iArgs, rng1, sm60, e1]
    · obtain ⟨dg1, s1, y7, e1, l1⟩ := dig2 (x0 := some (.val (.frz (ns.map .int)))) (x1 := x1) (x2 := x2) (x4 := some (.val (.int k))) (x5 := some (.val (.int c))) (x6 := x6) (m := m) ((List.range 12).map fun (i : Nat) => (i : Int)) dg ((c * 48271 + (k + 1) * 69621 + 11) % 2147483647) x7 (by simp; omega)
      rw [← rangeD_int] at e1
      refine ⟨dg1, some (.val (.int c)), x6, y7, some (.val (.int s1)), ?_, by simp at l1; omega⟩
      simp [digTail, R.bind, R.stm, pw, hbig, sFor, iArgs, rng1, sm12, mulD, addD, modD, intD, cm3, cm4, e1]
  by_cases hneg : c0 < 0
  · obtain ⟨dg', y5, y6, y7, y8, e, l⟩ := tail (1 - c0 * 2) (by omega)
    refine ⟨dg', y5, y6, y7, y8, ?_, l⟩
    simp [digBody, R.bind, R.stm, ec, hneg, mulD, subD, cm2, e]
  · obtain ⟨dg', y5, y6, y7, y8, e, l⟩ := tail c0 (by omega)
    refine ⟨dg', y5, y6, y7, y8, ?_, l⟩
    simp [digBody, R.bind, R.stm, ec, hneg, e]
theorem dig_loop {cl : Cl} {ns : List Int} (hc : ∀ (k : Int) (m : List MO), 0 ≤ k → ∃ c, cl 43 [.frz (ns.map .int), .int k] m = .ok (.int c) m) {x1 x2 : Option Cell} {m : List MO} : ∀ (ks : List Int) (dg : List Int) (x4 x5 x6 x7 x8 : Option Cell), (∀ k ∈ ks, 0 ≤ k) → dg.length + 60 * ks.length ≤ 50000 → ∃ (dg' : List Int) (x4' x5' x6' x7' x8' : Option Cell),
    sLoop (gNm 4) (digBody cl) (ks.map .int) ⟨[some (.val (.frz (ns.map .int))), x1, x2, some (.own (.lst (dg.map .int))), x4, x5, x6, x7, x8], m⟩ = .next ⟨[some (.val (.frz (ns.map .int))), x1, x2, some (.own (.lst (dg'.map .int))), x4', x5', x6', x7', x8'], m⟩ ∧ dg'.length ≤ dg.length + 60 * ks.length
  | [], dg, x4, x5, x6, x7, x8, _, _ => ⟨dg, x4, x5, x6, x7, x8, rfl, Nat.le_refl _⟩
  | k :: ks, dg, x4, x5, x6, x7, x8, hk, hz => by
    simp only [List.length_cons] at hz
    obtain ⟨dg1, y5, y6, y7, y8, e1, l1⟩ := dig_step hc (x1 := x1) (x2 := x2) (x5 := x5) (x6 := x6) (x7 := x7) (x8 := x8) (m := m) (hk k List.mem_cons_self) dg (by omega)
    obtain ⟨dg', z4, z5, z6, z7, z8, e2, l2⟩ := dig_loop hc (x1 := x1) (x2 := x2) (m := m) ks dg1 (some (.val (.int k))) y5 y6 y7 y8 (fun q hq => hk q (List.mem_cons_of_mem k hq)) (by omega)
    refine ⟨dg', z4, z5, z6, z7, z8, ?_, by simp; omega⟩
    rw [List.map_cons]
    unfold sLoop
    simp [e1, e2]
theorem digits_ok {cl : Cl} {ns : List Int} (hc : ∀ (k : Int) (m : List MO), 0 ≤ k → ∃ c, cl 43 [.frz (ns.map .int), .int k] m = .ok (.int c) m) (m : List MO) : ∃ dg : List Int, fnD 9 (body__law_digits cl) [.frz (ns.map .int), .int 0, .int 63] m = .ok (.lst (dg.map .int)) m := by
  obtain ⟨dg, x4, x5, x6, x7, x8, e, l⟩ := dig_loop hc (x1 := some (.val (.int 0))) (x2 := some (.val (.int 63))) (m := m) ((List.range 63).map fun (i : Nat) => (i : Int)) [] none none none none none (fun k hk => by
    obtain ⟨i, _, rfl⟩ := List.mem_map.mp hk
    omega) (by simp)
  rw [← rangeD_int] at e
  refine ⟨dg, ?_⟩
  have sm0 : small62 0 = true := by decide
  have sm63 : small62 63 = true := by decide
  simp only [List.map_nil] at e
  show (match (sSeq (sOwn 3 (fLst aNil)) (sSeq (sFor (iArgs rng2 (aCons (eLoc 1) (aCons (eLoc 2) aNil))) (gNm 4) (digBody cl)) (sRet (eLoc 3)))) ⟨[some (.val (.frz (ns.map .int))), some (.val (.int 0)), some (.val (.int 63)), none, none, none, none, none, none], m⟩ with
    | .ret d s => Rf.ok d s.mem
    | .next s => .ok .non s.mem
    | .err x m => .err x m
    | _ => .stuck) = _
  simp [R.bind, R.stm, sOwn, fLst, sFor, iArgs, rng2, sm0, sm63, e]
end K02
end

section
set_option Elab.async false
set_option linter.all false
set_option maxRecDepth 100000
/-! P02v: trees of ints: keys, equality, order (no program). -/
namespace PM
open PySem PySem.Spec L2
/-- a tree of ints, so deep at most -/
def itN : Nat → D → Bool
  | _, .int _ => true
  | n + 1, .tup xs => xs.all (itN n)
  | _, _ => false
def keyOf (d : D) : NestedKey := (toKey d).getD .none
theorem toKeyL_of {f : D → NestedKey} : ∀ {xs : List D}, (∀ x ∈ xs, toKey x = some (f x)) → toKeyL xs = some (xs.map f)
  | [], _ => rfl
  | x :: xs, h => by
    show (match toKey x, toKeyL xs with
      | some a, some b => some (a :: b)
      | _, _ => none) = _
    rw [h x (List.mem_cons_self ..), toKeyL_of fun y hy => h y (List.mem_cons_of_mem _ hy)]
    rfl
theorem toPyL_of {f : D → PyData} : ∀ {xs : List D}, (∀ x ∈ xs, toPy x = some (f x)) → toPyL xs = some (xs.map f)
  | [], _ => rfl
  | x :: xs, h => by
    show (match toPy x, toPyL xs with
      | some a, some b => some (a :: b)
      | _, _ => none) = _
    rw [h x (List.mem_cons_self ..), toPyL_of fun y hy => h y (List.mem_cons_of_mem _ hy)]
    rfl
theorem datas_map : ∀ ks : List NestedKey, NestedKey.datas ks = ks.map NestedKey.data
  | [] => rfl
  | k :: ks => by rw [NestedKey.datas, datas_map ks]; rfl
theorem lay_all : ∀ {ps : List PyData}, (∀ p ∈ ps, p.canLay0 = true) → PyData.canLayAll0 ps = true
  | [], _ => by simp [PyData.canLayAll0]
  | p :: ps, h => by
    rw [PyData.canLayAll0, h p (List.mem_cons_self ..), lay_all fun q hq => h q (List.mem_cons_of_mem _ hq)]; rfl
theorem depth_all {n : Nat} : ∀ {ps : List PyData}, (∀ p ∈ ps, p.depth ≤ n) → PyData.depthAll ps ≤ n
  | [], _ => by simp [PyData.depthAll]
  | p :: ps, h => by
    rw [PyData.depthAll]
    exact Nat.max_le.mpr ⟨h p (List.mem_cons_self ..), depth_all fun q hq => h q (List.mem_cons_of_mem _ hq)⟩
theorem kdepth_all {n : Nat} : ∀ {ps : List NestedKey}, (∀ p ∈ ps, p.depth ≤ n) → NestedKey.depthAll ps ≤ n
  | [], _ => by simp [NestedKey.depthAll]
  | p :: ps, h => by
    rw [NestedKey.depthAll]
    exact Nat.max_le.mpr ⟨h p (List.mem_cons_self ..), kdepth_all fun q hq => h q (List.mem_cons_of_mem _ hq)⟩
structure ItAt (n : Nat) (x : D) : Prop where
  k : toKey x = some (keyOf x)
  p : toPy x = some (keyOf x).data
  l : (keyOf x).data.canLay0 = true
  d : (keyOf x).data.depth ≤ n
  e : (keyOf x).depth ≤ n
theorem it_at : ∀ {n : Nat} {d : D}, itN n d = true → ItAt n d
  | n, .int i, _ => ⟨rfl, rfl, by simp [keyOf, toKey, NestedKey.data, PyData.canLay0], by simp [keyOf, toKey, NestedKey.data, PyData.depth], by simp [keyOf, toKey, NestedKey.depth]⟩
  | n + 1, .tup xs, h => by
    have h : xs.all (itN n) = true := h
    have a : ∀ x ∈ xs, ItAt n x := fun x hx => it_at (List.all_eq_true.mp h x hx)
    have k1 : toKeyL xs = some (xs.map keyOf) := toKeyL_of fun x hx => (a x hx).k
    have k2 : toKey (.tup xs) = some (.tup (xs.map keyOf)) := by show (toKeyL xs).map NestedKey.tup = _; rw [k1]; rfl
    have k3 : keyOf (.tup xs) = .tup (xs.map keyOf) := by unfold keyOf; rw [k2]; rfl
    have p1 : toPyL xs = some (xs.map fun x => (keyOf x).data) := toPyL_of fun x hx => (a x hx).p
    have e1 : (NestedKey.tup (xs.map keyOf)).data = .tuple (xs.map fun x => (keyOf x).data) := by
      rw [NestedKey.data, datas_map, List.map_map]; rfl
    refine ⟨by rw [k2, k3], ?_, ?_, ?_, ?_⟩
    · rw [k3, e1]; show (toPyL xs).map PyData.tuple = _; rw [p1]; rfl
    · rw [k3, e1, PyData.canLay0]
      refine lay_all fun p hp => ?_
      obtain ⟨x, hx, rfl⟩ := List.mem_map.mp hp
      exact (a x hx).l
    · rw [k3, e1, PyData.depth]
      refine Nat.succ_le_succ (depth_all fun p hp => ?_)
      obtain ⟨x, hx, rfl⟩ := List.mem_map.mp hp
      exact (a x hx).d
    · rw [k3, NestedKey.depth]
      refine Nat.succ_le_succ (kdepth_all fun p hp => ?_)
      obtain ⟨x, hx, rfl⟩ := List.mem_map.mp hp
      exact (a x hx).e
  | 0, .tup _, h => nomatch h
  | n, .non, h => by cases n <;> cases h
  | n, .bl _, h => by cases n <;> cases h
  | n, .str _, h => by cases n <;> cases h
  | n, .lst _, h => by cases n <;> cases h
  | n, .dct _ _, h => by cases n <;> cases h
  | n, .ptp _, h => by cases n <;> cases h
  | n, .kdt _ _, h => by cases n <;> cases h
  | n, .ref _, h => by cases n <;> cases h
  | n, .frz _, h => by cases n <;> cases h
mutual
theorem eqv_data : ∀ a b : NestedKey, PyData.eqv a.data b.data = NestedKey.beq a b
  | .none, b => by cases b <;> simp [NestedKey.data, PyData.eqv, NestedKey.beq]
  | .num i, b => by cases b <;> simp [NestedKey.data, PyData.eqv, NestedKey.beq, BEq.beq]
  | .text x, b => by
    cases b with
    | text y =>
      simp only [NestedKey.data, PyData.eqv, NestedKey.beq]
      by_cases h : x = y
      · subst h; simp
      · rw [decide_eq_false h, beq_eq_false_iff_ne]; exact h
    | _ => simp [NestedKey.data, PyData.eqv, NestedKey.beq]
  | .tup xs, b => by
    cases b with
    | tup ys => rw [NestedKey.data, NestedKey.data, PyData.eqv, NestedKey.beq]; exact eqvs_data xs ys
    | _ => simp [NestedKey.data, PyData.eqv, NestedKey.beq]
theorem eqvs_data : ∀ a b : List NestedKey, PyData.eqvAll (NestedKey.datas a) (NestedKey.datas b) = NestedKey.beqAll a b
  | [], [] => by simp [NestedKey.datas, PyData.eqvAll, NestedKey.beqAll]
  | [], _ :: _ => by simp [NestedKey.datas, PyData.eqvAll, NestedKey.beqAll]
  | _ :: _, [] => by simp [NestedKey.datas, PyData.eqvAll, NestedKey.beqAll]
  | x :: xs, y :: ys => by
    rw [NestedKey.datas, NestedKey.datas, PyData.eqvAll, NestedKey.beqAll, eqv_data x y, eqvs_data xs ys]
end
theorem eqv_dec (a b : NestedKey) : PyData.eqv a.data b.data = decide (a = b) := by rw [eqv_data, NestedKey.decide_eq]
theorem eq_tree {n : Nat} {a b : D} (ha : ItAt n a) (hb : ItAt n b) (hn : n ≤ 60) : eqD a b = some (.bl (decide (keyOf a = keyOf b))) := by
  unfold eqD eqvD
  have s1 : SeqAt.shaped (keyOf a).data = true := by unfold SeqAt.shaped; rw [ha.l]; have := ha.d; simp; omega
  have s2 : SeqAt.shaped (keyOf b).data = true := by unfold SeqAt.shaped; rw [hb.l]; have := hb.d; simp; omega
  rw [ha.p, hb.p]
  simp [s1, s2, eqv_dec]
theorem ne_tree {n : Nat} {a b : D} (ha : ItAt n a) (hb : ItAt n b) (hn : n ≤ 60) : neD a b = some (.bl (!decide (keyOf a = keyOf b))) := by
  unfold neD eqvD
  have s1 : SeqAt.shaped (keyOf a).data = true := by unfold SeqAt.shaped; rw [ha.l]; have := ha.d; simp; omega
  have s2 : SeqAt.shaped (keyOf b).data = true := by unfold SeqAt.shaped; rw [hb.l]; have := hb.d; simp; omega
  rw [ha.p, hb.p]
  simp [s1, s2, eqv_dec]
/-! order -/
def ltO (a b : D) : Bool := PySem.W.dataLt (pyOf a) (pyOf b)
theorem ItAt.py {n : Nat} {d : D} (h : ItAt n d) : pyOf d = (keyOf d).data := by unfold pyOf; rw [h.p]; rfl
def alk (a b : D) : Bool := PySem.W.alike (pyOf a) (pyOf b)
theorem lt_tree {n : Nat} {xs : List D} {b : D} (ha : ItAt n (.tup xs)) (hb : ItAt n b) (hn : n ≤ 60) (hal : alk (.tup xs) b = true) : lt2D (.tup xs) b = some (.bl (ltO (.tup xs) b)) := by
  unfold lt2D
  have e0 : ltD (.tup xs) b = none := rfl
  rw [e0, Option.none_or]
  unfold ltTD
  have e1 := ha.py
  have e2 := hb.py
  have p1 := ha.p
  have p2 := hb.p
  rw [← e1] at p1
  rw [← e2] at p2
  have hd : (pyOf (.tup xs)).depth ≤ 60 := by rw [e1]; exact Nat.le_trans ha.d hn
  have hnn : isNonP (pyOf (.tup xs)) = false := by
    have p1' : (toPyL xs).map PyData.tuple = some (pyOf (.tup xs)) := p1
    cases e : toPyL xs with
    | none => rw [e] at p1'; cases p1'
    | some ps => rw [e] at p1'; rw [← Option.some.inj p1']; rfl
  rw [p1, p2]
  dsimp only
  rw [if_pos ⟨hal, hnn, hd⟩]; rfl
theorem lex_toks {x y : PyData} (hal : PySem.W.alike x y = true) (hne : PyData.eqv x y = false) : PySem.W.keyToks x ≠ PySem.W.keyToks y := by
  intro e
  have h := (PySem.W.toks_eqv x y hal).2 hne
  have h1 := h [.inl 0] [.inl 1]
  have h2 := h [.inl 1] [.inl 0]
  rw [e, PySem.W.lex_pre, PySem.W.lex_one] at h1
  rw [e, PySem.W.lex_pre, PySem.W.lex_one] at h2
  rw [← h2] at h1
  exact absurd h1 (by decide)
/-- two unlike ones: one is below the other -/
theorem lt_total {n : Nat} {a b : D} (ha : ItAt n a) (hb : ItAt n b) (hal : alk a b = true) (hne : keyOf a ≠ keyOf b) (h : ltO b a = false) : ltO a b = true := by
  cases e : ltO a b with
  | true => rfl
  | false =>
    exfalso
    unfold ltO PySem.W.dataLt at e h
    have := PyProof.Rows.lex_total _ _ e h
    refine lex_toks (x := pyOf a) (y := pyOf b) hal ?_ this
    rw [ha.py, hb.py, eqv_dec]
    exact decide_eq_false hne
end PM
end

section
set_option Elab.async false
set_option linter.all false
set_option maxRecDepth 100000
set_option maxHeartbeats 4000000
namespace K02
open PySem PySem.Spec L2 PM
/-! ### values -/
def sd (xs : List Int) : D := .tup (xs.map .int)
def s8x : List (List Int) := [[], [0], [1], [0, 1], [2], [0, 2], [1, 2], [0, 1, 2]]
def s8 (n : Nat) : D := sd (s8x.getD n [])
def In3 (xs : List Int) : Prop := ∀ x ∈ xs, 0 ≤ x ∧ x < 3
inductive Val (b : Nat) : D → D → Prop
  | th {i : Int} : 0 ≤ i → i < 3 → Val b sA (.int i)
  | li {xs : List Int} : In3 xs → xs.length ≤ b → Val b sL (sd xs)
  | se {n : Nat} : n < 8 → Val b sS (s8 n)
theorem Val.mono {b c : Nat} {s v : D} (h : Val b s v) (hc : b ≤ c) : Val c s v := by
  cases h with
  | th h1 h2 => exact .th h1 h2
  | li h1 h2 => exact .li h1 (Nat.le_trans h2 hc)
  | se h => exact .se h
theorem itN_sd (n : Nat) (xs : List Int) : itN (n + 1) (sd xs) = true := by
  show (xs.map D.int).all (itN n) = true
  rw [List.all_eq_true]
  intro x hx
  obtain ⟨i, _, rfl⟩ := List.mem_map.mp hx
  cases n <;> rfl
theorem Val.it {b n : Nat} {s v : D} (h : Val b s v) : itN (n + 1) v = true := by
  cases h with
  | th h1 h2 => rfl
  | li h1 h2 => exact itN_sd n _
  | se h => exact itN_sd n _
theorem py_sd (xs : List Int) : pyOf (sd xs) = .tuple (xs.map .int) := by
  have h : toPyL (xs.map D.int) = some ((xs.map D.int).map fun d => match d with | .int i => PyData.int i | _ => .none) := toPyL_of fun x hx => by
    obtain ⟨i, _, rfl⟩ := List.mem_map.mp hx; rfl
  have : toPy (sd xs) = some (.tuple (xs.map .int)) := by
    show (toPyL (xs.map D.int)).map PyData.tuple = _
    rw [h, List.map_map]; rfl
  unfold pyOf; rw [this]; rfl
theorem alk_sd (xs ys : List Int) : alk (sd xs) (sd ys) = true := by
  unfold alk
  rw [py_sd, py_sd, PySem.W.alike]
  exact PySem.W.alike_ints xs ys
theorem Val.alk {b c : Nat} {s v w : D} (hv : Val b s v) (hw : Val c s w) : PM.alk v w = true := by
  cases hv with
  | th h1 h2 => cases hw with
    | th h3 h4 => simp [PM.alk, pyOf, toPy, PySem.W.alike]
  | li h1 h2 =>
    generalize hs : sL = s at hw
    cases hw with
    | th => exact absurd hs.symm ne_AL
    | li h3 h4 => exact alk_sd _ _
    | se h => exact absurd hs ne_LS
  | se h =>
    generalize hs : sS = s at hw
    cases hw with
    | th => exact absurd hs.symm ne_AS
    | li h3 h4 => exact absurd hs.symm ne_LS
    | se h => exact alk_sd _ _
theorem three_int {i : Int} (h0 : 0 ≤ i) (h1 : i < 3) : i = 0 ∨ i = 1 ∨ i = 2 := by omega
theorem eight {n : Nat} (h : n < 8) : n = 0 ∨ n = 1 ∨ n = 2 ∨ n = 3 ∨ n = 4 ∨ n = 5 ∨ n = 6 ∨ n = 7 := by omega
/-! ### is_value -/
theorem iv_int {i : Int} (h0 : 0 ≤ i) (h1 : i < 3) (k : Nat) (m : List MO) : prog (k + 2) 25 [.int i, sA] m = .ok (.bl true) m := by
  rcases three_int h0 h1 with rfl | rfl | rfl <;> kernel_rfl
theorem iv_set {n : Nat} (h : n < 8) (k : Nat) (m : List MO) : prog (k + 4) 25 [s8 n, sS] m = .ok (.bl true) m := by
  rcases eight h with rfl | rfl | rfl | rfl | rfl | rfl | rfl | rfl <;> kernel_rfl
theorem iv_list {xs : List Int} (h : In3 xs) (hl : xs.length ≤ 1000) (k : Nat) (m : List MO) : prog (k + 3) 25 [sd xs, sL] m = .ok (.bl true) m := by
  have e := lc_map (g := fun _ => D.bl true) (i := 2) (env := [some (.val (sd xs)), some (.val sL), none, none]) (fe := eFn (fun ds m => if ds.length = 2 then prog (k + 2) 25 ds m else .stuck) (aCons (eLoc 2) (aCons (eOp ixSq (eLoc 1) (eC (.int 1))) aNil))) (m := m) (by simp) rfl (xs.map .int) fun d hd => by
    obtain ⟨i, hi, rfl⟩ := List.mem_map.mp hd
    have q := iv_int (h i hi).1 (h i hi).2 k m
    simp [R.bind, sL, q]
  have a := all_true (xs.map D.int)
  have hz : (xs.map D.int).length ≤ 16777216 := by rw [List.length_map]; omega
  show fnD 4 (body_is_value (prog (k + 2))) [sd xs, sL] m = _
  unfold sd at e ⊢
  generalize xs.map D.int = ys at e a hz ⊢
  simp only [sL] at e ⊢
  simp [fnD, body_is_value, R.bind, R.stm, isiD, hz, e, a]
theorem Val.is {b : Nat} {s v : D} (h : Val b s v) (hb : b ≤ 1000) (k : Nat) (m : List MO) : prog (k + 4) 25 [v, s] m = .ok (.bl true) m := by
  cases h with
  | th h1 h2 => exact iv_int h1 h2 (k + 2) m
  | li h1 h2 => exact iv_list h1 (by omega) (k + 1) m
  | se h => exact iv_set h k m
/-! ### what is made of values -/
def opw (w : String) (a b : Nat) : Nat := if w = "join" then a ||| b else if w = "meet" then a &&& b else a &&& (7 - b)
def p64 : List (Nat × Nat) := [0, 1, 2, 3, 4, 5, 6, 7].flatMap fun a => [0, 1, 2, 3, 4, 5, 6, 7].map fun b => (a, b)
theorem mem64 {a b : Nat} (ha : a < 8) (hb : b < 8) : (a, b) ∈ p64 := by
  unfold p64
  simp only [List.mem_flatMap, List.mem_map]
  refine ⟨a, ?_, b, ?_, rfl⟩ <;> simp <;> omega
theorem opw_lt {w : String} {a b : Nat} (ha : a < 8) (hb : b < 8) : opw w a b < 8 := by
  unfold opw
  split
  · exact Nat.or_lt_two_pow (n := 3) ha hb
  · split
    · exact Nat.and_lt_two_pow (n := 3) _ hb
    · exact Nat.and_lt_two_pow (n := 3) _ (by omega)
theorem each_eq {α β : Type} {f g : α → β} : ∀ {l : List α}, l.map f = l.map g → ∀ a ∈ l, f a = g a
  | [], _, _, h => nomatch h
  | x :: l, h, a, ha => by
    simp only [List.map_cons, List.cons.injEq] at h
    rcases List.mem_cons.mp ha with rfl | ha
    · exact h.1
    · exact each_eq h.2 a ha
theorem made64 {w : String} (hw : w ∈ ["join", "meet", "without"]) (x y : D) (k : Nat) (m : List MO) : (p64.map fun p => prog (k + 2) 34 [.tup [.str (PySem.Str.ofString w), x, y], .tup [s8 p.1, s8 p.2]] m) = p64.map fun p => Rf.ok (s8 (opw w p.1 p.2)) m := by
  simp only [List.mem_cons, List.not_mem_nil, or_false] at hw
  rcases hw with rfl | rfl | rfl <;> kernel_rfl
theorem lmade64 {w : String} (hw : w ∈ ["join", "meet", "without"]) (k : Nat) (m : List MO) : (p64.map fun p => prog (k + 2) 52 [.str (PySem.Str.ofString w), .tup [s8 p.1, s8 p.2]] m) = p64.map fun p => Rf.ok (s8 (opw w p.1 p.2)) m := by
  simp only [List.mem_cons, List.not_mem_nil, or_false] at hw
  rcases hw with rfl | rfl | rfl <;> kernel_rfl
def bitOf (i : Int) : Nat := if i = 0 then 1 else if i = 1 then 2 else 4
theorem made_one {i : Int} (h0 : 0 ≤ i) (h1 : i < 3) (x : D) (k : Nat) (m : List MO) : prog (k + 1) 34 [.tup [.str "one", x], .tup [.int i]] m = .ok (s8 (bitOf i)) m := by
  rcases three_int h0 h1 with rfl | rfl | rfl <;> kernel_rfl
theorem lmade_one {i : Int} (h0 : 0 ≤ i) (h1 : i < 3) (k : Nat) (m : List MO) : prog (k + 1) 52 [.str "one", .tup [.int i]] m = .ok (s8 (bitOf i)) m := by
  rcases three_int h0 h1 with rfl | rfl | rfl <;> kernel_rfl
theorem bit_lt (i : Int) : bitOf i < 8 := by unfold bitOf; split <;> (try split) <;> omega
end K02
end

section
set_option Elab.async false
set_option linter.all false
set_option maxRecDepth 100000
set_option maxHeartbeats 4000000
namespace K02
open PySem PySem.Spec L2 PM
/-! ### tables -/
inductive ArgsOk (b : Nat) : List D → List D → Prop
  | nil : ArgsOk b [] []
  | cons {p x ps xs} : Val b p x → ArgsOk b ps xs → ArgsOk b (p :: ps) (x :: xs)
theorem ArgsOk.it {b n : Nat} : ∀ {ps xs : List D}, ArgsOk b ps xs → itN (n + 2) (.tup xs) = true
  | _, _, .nil => rfl
  | _, _, .cons h t => by
    have := t.it (n := n)
    show (_ && _) = true
    rw [Bool.and_eq_true]
    exact ⟨h.it, this⟩
theorem ArgsOk.alk {b c : Nat} : ∀ {ps xs ys : List D}, ArgsOk b ps xs → ArgsOk c ps ys → PM.alk (.tup xs) (.tup ys) = true := by
  intro ps xs ys h g
  have e : ∀ {zs : List D}, (∀ z ∈ zs, itN 1 z = true) → pyOf (.tup zs) = .tuple (zs.map pyOf) := fun {zs} hz => by
    have : toPyL zs = some (zs.map pyOf) := toPyL_of fun x hx => by
      have a := it_at (hz x hx)
      rw [a.py]; exact a.p
    have t : toPy (.tup zs) = some (.tuple (zs.map pyOf)) := by show (toPyL zs).map PyData.tuple = _; rw [this]; rfl
    unfold pyOf at t ⊢; rw [t]; rfl
  have m1 : ∀ {c : Nat} {ps zs : List D}, ArgsOk c ps zs → ∀ z ∈ zs, itN 1 z = true := by
    intro c ps zs h
    induction h with
    | nil => exact fun _ h => nomatch h
    | cons h t ih =>
      intro z hz
      rcases List.mem_cons.mp hz with rfl | hz
      · exact h.it
      · exact ih z hz
  unfold PM.alk
  rw [e (m1 h), e (m1 g), PySem.W.alike]
  clear e
  induction h generalizing ys with
  | nil => cases g; rfl
  | cons h1 t1 ih =>
    cases g with
    | cons g1 t2 =>
      rw [List.map_cons, List.map_cons, PySem.W.alikeAll, ih t2]
      have := Val.alk h1 g1
      unfold PM.alk at this
      rw [this]; rfl
def pr (p : D × D) : D := .tup [p.1, p.2]
structure PairOk (r : Row) (p : D × D) : Prop where
  a : ∃ as, p.1 = .tup as ∧ ArgsOk 2 r.2.1 as
  v : Val 2 r.2.2 p.2
structure TabOk (r : Row) (P : List (D × D)) : Prop where
  ok : ∀ p ∈ P, PairOk r p
  asc : P.Pairwise fun p q => ltO p.1 q.1 = true
  len : P.length ≤ 3
def look (P : List (D × D)) (a rest : D) : D := match P.find? fun p => decide (keyOf p.1 = keyOf a) with
  | some p => p.2
  | none => rest
/-! found_in -/
theorem found_loop {x0 x1 : Option Cell} {a : D} {m : List MO} (h1 : x1 = some (.val a)) (ha : ItAt 50 a) : ∀ (P : List (D × D)) (x2 x3 : Option Cell), (∀ p ∈ P, ItAt 50 p.1) →
    ∃ x2' x3', sLoop (gTp 2 (gCons (gNm 2) (gCons (gNm 3) gNil))) (sIf (eBl (eOp eqD (eLoc 2) (eLoc 1))) (sRet (eLoc 3)) sNil) (P.map pr) ⟨[x0, x1, x2, x3], m⟩ =
      match P.find? fun p => decide (keyOf p.1 = keyOf a) with
      | some p => .ret p.2 ⟨[x0, x1, x2', x3'], m⟩
      | none => .next ⟨[x0, x1, x2', x3'], m⟩
  | [], x2, x3, _ => ⟨x2, x3, rfl⟩
  | p :: P, x2, x3, h => by
    subst h1
    have e := eq_tree (h p (List.mem_cons_self ..)) ha (by omega)
    by_cases hk : keyOf p.1 = keyOf a
    · refine ⟨some (.val p.1), some (.val p.2), ?_⟩
      rw [List.find?_cons, decide_eq_true hk]
      rw [decide_eq_true hk] at e
      simp [sLoop, pr, R.bind, R.stm, e]
    · obtain ⟨x2', x3', ih⟩ := found_loop (x0 := x0) (m := m) rfl ha P (some (.val p.1)) (some (.val p.2)) fun q hq => h q (List.mem_cons_of_mem _ hq)
      refine ⟨x2', x3', ?_⟩
      rw [List.find?_cons, decide_eq_false hk]
      rw [decide_eq_false hk] at e
      simp only [] at ih ⊢
      rw [← ih]
      simp [sLoop, pr, R.bind, R.stm, e]
theorem found_ok {P : List (D × D)} {rest a : D} (hP : ∀ p ∈ P, ItAt 50 p.1) (ha : ItAt 50 a) (k : Nat) (m : List MO) : prog (k + 1) 29 [.tup [.ptp (P.map pr), rest], a] m = .ok (look P a rest) m := by
  obtain ⟨x2', x3', e⟩ := found_loop (x0 := some (.val (.tup [.ptp (P.map pr), rest]))) (x1 := some (.val a)) (m := m) rfl ha P none none hP
  show fnD 4 (body_found_in (prog k)) [.tup [.ptp (P.map pr), rest], a] m = _
  have hi : itemsA (.ptp (P.map pr)) = some (P.map pr) := rfl
  generalize P.map pr = Q at e hi ⊢
  unfold look
  cases hf : P.find? fun p => decide (keyOf p.1 = keyOf a) with
  | some p =>
    rw [hf] at e
    simp [fnD, body_found_in, sFor, R.bind, R.stm, hi, e]
  | none =>
    rw [hf] at e
    simp [fnD, body_found_in, sFor, R.bind, R.stm, hi, e]
/-! dict(pairs).get -/
theorem kdPutK_new : ∀ {ks : List D} {k : D} {a : NestedKey}, (∀ k' ∈ ks, toKey k' ≠ some a) → kdPutK ks k a = ks ++ [k]
  | [], _, _, _ => rfl
  | k' :: ks, k, a, h => by
    have h1 := h k' (List.mem_cons_self ..)
    simp [kdPutK, h1, kdPutK_new (ks := ks) fun x hx => h x (List.mem_cons_of_mem _ hx)]
theorem kdPutV_new : ∀ {ks vs : List D} {a : NestedKey} {d : D}, ks.length = vs.length → (∀ k' ∈ ks, toKey k' ≠ some a) → kdPutV ks vs a d = vs ++ [d]
  | [], [], _, _, _, _ => rfl
  | k' :: ks, v' :: vs, a, d, hl, h => by
    have h1 := h k' (List.mem_cons_self ..)
    simp [kdPutV, h1, kdPutV_new (ks := ks) (vs := vs) (by simpa using hl) fun x hx => h x (List.mem_cons_of_mem _ hx)]
  | [], _ :: _, _, _, hl, _ => by simp at hl
  | _ :: _, [], _, _, hl, _ => by simp at hl
theorem kdPairs_ok : ∀ (P : List (D × D)) (ks vs : List D), ks.length = vs.length → (∀ p ∈ P, ItAt 2 p.1 ∧ isTupD p.1 = true) → (∀ p ∈ P, ∀ k ∈ ks, toKey k ≠ some (keyOf p.1)) → P.Pairwise (fun p q => keyOf p.1 ≠ keyOf q.1) → kdPairs (P.map pr) ks vs = some (ks ++ P.map (·.1), vs ++ P.map (·.2))
  | [], ks, vs, _, _, _, _ => by simp [kdPairs]
  | p :: P, ks, vs, hl, hi, hd, hp => by
    obtain ⟨h1, h2⟩ := hi p (List.mem_cons_self ..)
    have hp' := List.pairwise_cons.mp hp
    have n1 : ∀ k' ∈ ks, toKey k' ≠ some (keyOf p.1) := fun k' hk => hd p (List.mem_cons_self ..) k' hk
    have hdep : (keyOf p.1).depth ≤ 8 := Nat.le_trans h1.e (by omega)
    have e : kdPairs ((p :: P).map pr) ks vs = kdPairs (P.map pr) (kdPutK ks p.1 (keyOf p.1)) (kdPutV ks vs (keyOf p.1) p.2) := by
      show (match toKey p.1 with
        | some a => if isTupD p.1 = true ∧ a.depth ≤ 8 then kdPairs (P.map pr) (kdPutK ks p.1 a) (kdPutV ks vs a p.2) else none
        | none => none) = _
      rw [h1.k]
      dsimp only
      rw [if_pos ⟨h2, hdep⟩]
    rw [e, kdPutK_new n1, kdPutV_new hl n1, kdPairs_ok P _ _ (by simp [hl]) (fun q hq => hi q (List.mem_cons_of_mem _ hq)) (fun q hq k hk => ?_) hp'.2]
    · simp
    · rcases List.mem_append.mp hk with hk | hk
      · exact hd q (List.mem_cons_of_mem _ hq) k hk
      · rw [List.mem_singleton] at hk
        rw [hk, h1.k]
        exact fun z => hp'.1 q hq (Option.some.inj z)
theorem kdGet_look : ∀ (P : List (D × D)) (a rest : D), (∀ p ∈ P, ItAt 2 p.1) → (kdGet (P.map (·.1)) (P.map (·.2)) (keyOf a)).getD rest = look P a rest
  | [], a, rest, _ => rfl
  | p :: P, a, rest, h => by
    have h1 := h p (List.mem_cons_self ..)
    have ih := kdGet_look P a rest fun q hq => h q (List.mem_cons_of_mem _ hq)
    unfold look at ih ⊢
    rw [List.map_cons, List.map_cons, kdGet, h1.k, List.find?_cons]
    by_cases hk : keyOf p.1 = keyOf a
    · rw [if_pos (by rw [hk]), decide_eq_true hk]; rfl
    · rw [if_neg (fun z => hk (Option.some.inj z)), decide_eq_false hk]; exact ih
theorem ltO_ne {a b : D} (ha : ItAt 2 a) (hb : ItAt 2 b) (h : ltO a b = true) : keyOf a ≠ keyOf b := by
  intro e
  unfold ltO at h
  rw [ha.py, hb.py, e] at h
  unfold PySem.W.dataLt at h
  rw [PyProof.Rows.lex_irrefl] at h
  cases h
theorem PairOk.it {r : Row} {p : D × D} (h : PairOk r p) : ItAt 2 p.1 ∧ isTupD p.1 = true := by
  obtain ⟨as, e, h⟩ := h.a
  rw [e]
  exact ⟨it_at (ArgsOk.it (n := 0) h), rfl⟩
theorem _root_.PM.ItAt.up {n k : Nat} {d : D} (h : ItAt n d) (hk : n ≤ k) : ItAt k d := ⟨h.k, h.p, h.l, Nat.le_trans h.d hk, Nat.le_trans h.e hk⟩
theorem TabOk.ne {r : Row} {P : List (D × D)} (h : TabOk r P) : P.Pairwise fun p q => keyOf p.1 ≠ keyOf q.1 :=
  List.Pairwise.imp_of_mem (fun {p q} hp hq hlt => ltO_ne (h.ok p hp).it.1 (h.ok q hq).it.1 hlt) h.asc
theorem get_ok {r : Row} {P : List (D × D)} (h : TabOk r P) {as : List D} {b : Nat} {ps : List D} (ha : ArgsOk b ps as) (rest : D) (e : List (Option Cell)) (m : List MO) (h3 : e[3]? = some (some (.val (.ptp (P.map pr))))) (h2 : e[2]? = some (some (.val (.tup as)))) (h4 : e[4]? = some (some (.val rest))) :
    eGet (eFrz (fDict (eLoc 3))) (eLoc 2) (eLoc 4) ⟨e, m⟩ = .ok (look P (.tup as) rest) ⟨e, m⟩ := by
  have q1 := kdPairs_ok P [] [] rfl (fun p hp => (h.ok p hp).it) (fun _ _ _ hk => nomatch hk) h.ne
  have q2 := kdGet_look P (.tup as) rest fun p hp => (h.ok p hp).it.1
  have ia : ItAt 2 (.tup as) := it_at (ArgsOk.it (n := 0) ha)
  have hdep : (keyOf (.tup as)).depth ≤ 8 := Nat.le_trans ia.e (by omega)
  have q3 : getD2 (.kdt (P.map (·.1)) (P.map (·.2))) (.tup as) rest = some (look P (.tup as) rest) := by
    unfold getD2
    dsimp only
    rw [ia.k]
    dsimp only
    rw [if_pos ⟨rfl, hdep⟩, q2]
  rw [List.nil_append, List.nil_append] at q1
  have q4 : (fDict (eLoc 3)) ⟨e, m⟩ = .ok (.kdt (P.map (·.1)) (P.map (·.2))) ⟨e, m⟩ := by
    unfold fDict
    simp only [ev_loc, h3, R.bind, q1]
  unfold eGet eFrz
  simp only [q4, R.bind, MO.toD, ev_loc, h2, h4, q3]
end K02
end

section
set_option Elab.async false
set_option linter.all false
set_option maxRecDepth 100000
set_option maxHeartbeats 4000000
namespace K02
open PySem PySem.Spec L2 PM
/-! ### choices of values -/
inductive EntOk (r : Row) : D → Prop
  | val {v} : r.2.1 = [] → Val 2 r.2.2 v → EntOk r v
  | tab {P rest} : r.2.1 ≠ [] → TabOk r P → Val 2 r.2.2 rest → EntOk r (.tup [.ptp (P.map pr), rest])
abbrev Md := List (Row × D)
def mdD (ms : Md) : D := .dct (ms.map fun q => rkey q.1) (ms.map (·.2))
structure MdOk (ms : Md) : Prop where
  sub : (ms.map (·.1)).Sublist allRows
  ok : ∀ q ∈ ms, EntOk q.1 q.2
theorem md_get : ∀ {ms : Md} {q : Row × D}, ((ms.map (·.1)).map (·.1)).Nodup → q ∈ ms → getP (ms.map fun q => rkey q.1) (ms.map (·.2)) (rkey q.1) = some q.2
  | [], q, _, h => by cases h
  | q0 :: ms, q, nd, h => by
    simp only [List.map_cons, List.nodup_cons] at nd
    rcases List.mem_cons.mp h with rfl | h
    · simp [getP]
    · have ne : ¬ rkey q0.1 = rkey q.1 := fun z => by
        unfold rkey at z
        simp only [Sum.inr.injEq, so_inj] at z
        exact nd.1 (z ▸ List.mem_map_of_mem (List.mem_map_of_mem h))
      have ih := md_get nd.2 h
      simp only [getP, List.map_cons, List.zip_cons_cons, List.find?_cons, decide_eq_false ne] at ih ⊢
      exact ih
theorem MdOk.get {ms : Md} (h : MdOk ms) {r : Row} (hr : r ∈ ms.map (·.1)) : ∃ e, EntOk r e ∧ dgetD (mdD ms) (.str (PySem.Str.ofString r.1)) = some e := by
  obtain ⟨q, hq, rfl⟩ := List.mem_map.mp hr
  exact ⟨q.2, h.ok q hq, md_get (names_nd h.sub) hq⟩
theorem dget_lock {ms : Md} : ∀ {x e}, dgetD (mdD ms) x = some e → ∀ M, M = mdD ms → dgetD M x = some e := fun h M e => by rw [e]; exact h
/-! ### the two ways to a term's value -/
def W2 (M t : D) (n : Nat) (v : D) : Prop := ∀ (K : Nat) (m : List MO), prog (K + n + 5) 37 [M, t] m = .ok v m ∧ prog (K + n + 5) 53 [M, t] m = .ok v m
theorem W2.at' {M t v : D} {n : Nat} (h : W2 M t n v) (K j : Nat) (m : List MO) (hj : n + 5 ≤ j) : prog j 37 [M, t] m = .ok v m ∧ prog j 53 [M, t] m = .ok v m := by
  have := h (j - (n + 5)) m
  rwa [show j - (n + 5) + n + 5 = j by omega] at this
section
variable {M : D} {k : Nat} {m : List MO}
theorem w_un0 {nm : String} {v : D} (h : dgetD M (.str (PySem.Str.ofString nm)) = some v) : prog (k + 1) 37 [M, unT nm []] m = .ok v m ∧ prog (k + 1) 53 [M, unT nm []] m = .ok v m := by
  constructor
  · show fnD 4 (body_worth (prog k)) [M, unT nm []] m = _
    simp [fnD, body_worth, unT, R.bind, R.stm, h, tupleD, truthD, few]
  · show fnD 6 (body__law_worth (prog k)) [M, unT nm []] m = _
    have e : eqD (.tup []) (.tup []) = some (.bl true) := rfl
    have i1 : inD (.str (PySem.Str.ofString "un")) (.tup [.str "nil", .str "none"]) = some (.bl false) := rfl
    simp [fnD, body__law_worth, unT, R.bind, R.stm, h, tupleD, e, i1]
theorem w_un {nm : String} {xs vs : List D} {P : List (D × D)} {rest : D} {r : Row} {b : Nat} (hT : TabOk r P) (hA : ArgsOk b r.2.1 vs) (hne : vs ≠ []) (hlen : xs.length ≤ 10) (h : dgetD M (.str (PySem.Str.ofString nm)) = some (.tup [.ptp (P.map pr), rest]))
    (l1 : lcItems [3] (.nm 3) tYesD (eFn (fun ds m => if ds.length = 2 then prog (k + 1) 37 ds m else .stuck) (aCons (eLoc 0) (aCons (eLoc 3) aNil))) xs ⟨[some (.val M), some (.val (unT nm xs)), none, none], m⟩ = .ok vs ⟨[some (.val M), some (.val (unT nm xs)), none, none], m⟩)
    (l2 : lcItems [5] (.nm 5) tYesD (eFn (fun ds m => if ds.length = 2 then prog (k + 1) 53 ds m else .stuck) (aCons (eLoc 0) (aCons (eLoc 5) aNil))) xs ⟨[some (.val M), some (.val (unT nm xs)), none, none, none, none], m⟩ = .ok vs ⟨[some (.val M), some (.val (unT nm xs)), none, none, none, none], m⟩) :
    prog (k + 2) 37 [M, unT nm xs] m = .ok (look P (.tup vs) rest) m ∧ prog (k + 2) 53 [M, unT nm xs] m = .ok (look P (.tup vs) rest) m := by
  have hz : xs.length ≤ 16777216 := by omega
  have ia : ItAt 50 (.tup vs) := (it_at (ArgsOk.it (n := 0) hA)).up (by omega)
  have ne0 : vs.isEmpty = false := by cases vs with
    | nil => exact absurd rfl hne
    | cons => rfl
  constructor
  · have q := found_ok (P := P) (rest := rest) (a := .tup vs) (fun p hp => ((hT.ok p hp).it.1).up (by omega)) ia k m
    show fnD 4 (body_worth (prog (k + 1))) [M, unT nm xs] m = _
    unfold unT at l1 ⊢
    generalize (D.tup [.ptp (P.map pr), rest]) = E at h q
    simp [fnD, body_worth, R.bind, R.stm, hz, l1, tupleD, truthD, ne0, h, q]
  · have e : eqD (.tup vs) (.tup []) = some (.bl false) := by
      have := eq_tree (n := 50) ia ((it_at (n := 2) (d := .tup []) rfl).up (by omega)) (by omega)
      rw [this]
      have hk : keyOf (.tup vs) ≠ keyOf (.tup []) := by
        cases vs with
        | nil => exact absurd rfl hne
        | cons v vs =>
          intro z
          have k1 := ia.k
          have k2 : toKey (.tup []) = some (.tup []) := rfl
          rw [z] at k1
          have : keyOf (.tup []) = .tup [] := rfl
          rw [this] at k1
          have k3 : (toKeyL (v :: vs)).map NestedKey.tup = some (.tup []) := k1
          have k4 : toKeyL (v :: vs) = match toKey v, toKeyL vs with
            | some x, some xs => some (x :: xs)
            | _, _ => none := rfl
          rw [k4] at k3
          cases e1 : toKey v with
          | none => rw [e1] at k3; cases k3
          | some a => cases e2 : toKeyL vs with
            | none => rw [e1, e2] at k3; cases k3
            | some as => rw [e1, e2] at k3; cases k3
      rw [decide_eq_false hk]
    have i1 : inD (.str (PySem.Str.ofString "un")) (.tup [.str "nil", .str "none"]) = some (.bl false) := rfl
    have g := get_ok hT hA rest [some (.val M), some (.val (unT nm xs)), some (.val (.tup vs)), some (.val (.ptp (P.map pr))), some (.val rest), none] m rfl rfl rfl
    show fnD 6 (body__law_worth (prog (k + 1))) [M, unT nm xs] m = _
    unfold unT at l2 g ⊢
    generalize (D.ptp (P.map pr)) = E at h g
    simp [fnD, body__law_worth, R.bind, R.stm, i1, hz, l2, tupleD, e, h, g]
/-- a made term of parts that have values -/
theorem w_made {w : String} {xs vs : List D} {v : D} (hw : w ∈ ["cons", "one", "join", "meet", "without"]) (hlen : xs.length = 1 ∨ xs.length = 2)
    (l1 : lcItems [3] (.nm 3) tYesD (eFn (fun ds m => if ds.length = 2 then prog (k + 2) 37 ds m else .stuck) (aCons (eLoc 0) (aCons (eLoc 3) aNil))) xs ⟨[some (.val M), some (.val (.tup (.str (PySem.Str.ofString w) :: xs))), none, none], m⟩ = .ok vs ⟨[some (.val M), some (.val (.tup (.str (PySem.Str.ofString w) :: xs))), none, none], m⟩)
    (l2 : lcItems [5] (.nm 5) tYesD (eFn (fun ds m => if ds.length = 2 then prog (k + 2) 53 ds m else .stuck) (aCons (eLoc 0) (aCons (eLoc 5) aNil))) xs ⟨[some (.val M), some (.val (.tup (.str (PySem.Str.ofString w) :: xs))), none, none, none, none], m⟩ = .ok vs ⟨[some (.val M), some (.val (.tup (.str (PySem.Str.ofString w) :: xs))), none, none, none, none], m⟩)
    (e1 : prog (k + 2) 34 [.tup (.str (PySem.Str.ofString w) :: xs), .tup vs] m = .ok v m) (e2 : prog (k + 2) 52 [.str (PySem.Str.ofString w), .tup vs] m = .ok v m) :
    prog (k + 3) 37 [M, .tup (.str (PySem.Str.ofString w) :: xs)] m = .ok v m ∧ prog (k + 3) 53 [M, .tup (.str (PySem.Str.ofString w) :: xs)] m = .ok v m := by
  have hz : xs.length ≤ 16777216 := by omega
  have sl : slD (.tup (.str (PySem.Str.ofString w) :: xs)) (some 1) none = some (.tup xs) := by
    match xs, hlen with
    | [x], _ => rfl
    | [x, y], _ => rfl
  have hn : w ≠ "un" ∧ w ≠ "gate" := by
    simp only [List.mem_cons, List.not_mem_nil, or_false] at hw
    rcases hw with rfl | rfl | rfl | rfl | rfl <;> decide
  have i1 : inD (.str (PySem.Str.ofString w)) (.tup [.str "nil", .str "none"]) = some (.bl false) := by
    simp only [List.mem_cons, List.not_mem_nil, or_false] at hw
    rcases hw with rfl | rfl | rfl | rfl | rfl <;> rfl
  have i2 : inD (.str (PySem.Str.ofString w)) (.tup [.str "num", .str "word", .str "nil", .str "none"]) = some (.bl false) := by
    simp only [List.mem_cons, List.not_mem_nil, or_false] at hw
    rcases hw with rfl | rfl | rfl | rfl | rfl <;> rfl
  constructor
  · show fnD 4 (body_worth (prog (k + 2))) [M, _] m = _
    generalize hT : D.tup (.str (PySem.Str.ofString w) :: xs) = T at l1 e1 sl ⊢
    have h0 : ixSq T (.int 0) = some (.str (PySem.Str.ofString w)) := by subst hT; simp
    simp [fnD, body_worth, R.bind, R.stm, h0, hn.1, hn.2, i2, sl, hz, l1, tupleD, e1]
  · show fnD 6 (body__law_worth (prog (k + 2))) [M, _] m = _
    generalize hT : D.tup (.str (PySem.Str.ofString w) :: xs) = T at l2 sl ⊢
    have h0 : ixSq T (.int 0) = some (.str (PySem.Str.ofString w)) := by subst hT; simp
    simp [fnD, body__law_worth, R.bind, R.stm, h0, hn.1, hn.2, i1, sl, hz, l2, tupleD, e2]
theorem w_nil : prog (k + 2) 37 [M, .tup [.str "nil", sA]] m = .ok (sd []) m ∧ prog (k + 2) 53 [M, .tup [.str "nil", sA]] m = .ok (sd []) m := ⟨by kernel_rfl, by kernel_rfl⟩
theorem w_none : prog (k + 2) 37 [M, .tup [.str "none", sA]] m = .ok (sd []) m ∧ prog (k + 2) 53 [M, .tup [.str "none", sA]] m = .ok (sd []) m := ⟨by kernel_rfl, by kernel_rfl⟩
theorem made_cons {x y : D} {i : Int} {is : List Int} (hl : is.length ≤ 1000) : prog (k + 1) 34 [.tup [.str "cons", x, y], .tup [.int i, sd is]] m = .ok (sd (i :: is)) m ∧ prog (k + 1) 52 [.str "cons", .tup [.int i, sd is]] m = .ok (sd (i :: is)) m := by
  have c : 1 + is.length ≤ 16777216 := by omega
  have i1 : inD (.str (PySem.Str.ofString "cons")) (.tup [.str "nil", .str "none"]) = some (.bl false) := rfl
  constructor
  · show fnD 4 (body_made (prog k)) _ m = _
    simp [fnD, body_made, R.bind, R.stm, i1, sd, addD, c, sizeLine_eq]
  · show fnD 3 (body__law_made (prog k)) _ m = _
    simp [fnD, body__law_made, R.bind, R.stm, i1, sd, addD, c, sizeLine_eq]
end
end K02
end

section
set_option Elab.async false
set_option linter.all false
set_option maxRecDepth 100000
set_option maxHeartbeats 4000000
namespace K02
open PySem PySem.Spec L2 PM
theorem look_val {r : Row} {P : List (D × D)} (h : TabOk r P) {rest : D} (hr : Val 2 r.2.2 rest) (a : D) : Val 2 r.2.2 (look P a rest) := by
  unfold look
  cases e : P.find? fun p => decide (keyOf p.1 = keyOf a) with
  | none => exact hr
  | some p => exact (h.ok p (List.mem_of_find?_eq_some e)).v
theorem sA_inv {b : Nat} {v : D} (h : Val b sA v) : ∃ i : Int, v = .int i ∧ 0 ≤ i ∧ i < 3 := by
  generalize hs : sA = s at h
  cases h with
  | th h1 h2 => exact ⟨_, rfl, h1, h2⟩
  | li => exact absurd hs ne_AL
  | se => exact absurd hs ne_AS
theorem sL_inv {b : Nat} {v : D} (h : Val b sL v) : ∃ xs : List Int, v = sd xs ∧ In3 xs ∧ xs.length ≤ b := by
  generalize hs : sL = s at h
  cases h with
  | th => exact absurd hs.symm ne_AL
  | li h1 h2 => exact ⟨_, rfl, h1, h2⟩
  | se => exact absurd hs ne_LS
theorem sS_inv {b : Nat} {v : D} (h : Val b sS v) : ∃ n : Nat, v = s8 n ∧ n < 8 := by
  generalize hs : sS = s at h
  cases h with
  | th => exact absurd hs.symm ne_AS
  | li => exact absurd hs.symm ne_LS
  | se h => exact ⟨_, rfl, h⟩
theorem set_sL : setD sL ≠ sS := by simp [setD, sS, sL, sA]
theorem W2.mk {M t v : D} {n : Nat} (h : ∀ (j : Nat) (m : List MO), n + 4 ≤ j → prog (j + 1) 37 [M, t] m = .ok v m ∧ prog (j + 1) 53 [M, t] m = .ok v m) : W2 M t n v := fun K m => h (K + n + 4) m (by omega)
theorem W2.up {M t v : D} {n : Nat} (h : W2 M t n v) {j : Nat} (m : List MO) (hj : n + 5 ≤ j) : prog j 37 [M, t] m = .ok v m ∧ prog j 53 [M, t] m = .ok v m := h.at' 0 j m hj
theorem worth_all {ms : Md} (hm : MdOk ms) {M : D} (hM : M = mdD ms) : ∀ {n : Nat} {s t : D}, Tm (ms.map (·.1)) n s t → S3 s → n ≤ 900 → ∃ v, Val (2 + n) s v ∧ W2 M t n v := by
  have all : ∀ r ∈ ms.map (·.1), r ∈ allRows := fun r hr => hm.sub.subset hr
  intro n s t T
  induction T with
  | @un0 n nm s hr =>
    intro _ _
    obtain ⟨e, he, hg⟩ := hm.get hr
    have hg : dgetD M (.str (PySem.Str.ofString nm)) = some e := by rw [hM]; exact hg
    cases he with
    | val _ hv => exact ⟨e, hv.mono (by omega), .mk fun j m _ => w_un0 hg⟩
    | tab h => exact absurd rfl h
  | @un1 n nm p s x hr T ih =>
    intro _ hn
    obtain ⟨e, he, hg⟩ := hm.get hr
    have hg : dgetD M (.str (PySem.Str.ofString nm)) = some e := by rw [hM]; exact hg
    cases he with
    | val h _ => exact absurd h (by simp)
    | @tab P rest h hT hv =>
      have hp : S3 p := by
        rcases row_places (all _ hr) with h | ⟨q, h, hq⟩ | h
        · cases h
        · have h : [p] = [q] := h
          cases h; exact hq
        · cases h
      obtain ⟨v, hv1, hw⟩ := ih hp (by omega)
      have hA : ArgsOk (2 + n) [p] [v] := .cons hv1 .nil
      refine ⟨look P (.tup [v]) rest, (look_val hT hv _).mono (by omega), .mk fun j m hj => ?_⟩
      obtain ⟨i, rfl⟩ : ∃ i, j = i + 1 := ⟨j - 1, by omega⟩
      obtain ⟨q1, q2⟩ := hw.up m (j := i + 1) (by omega)
      exact w_un (r := (nm, [p], s)) hT hA (by simp) (by simp) hg (by simp [lcItems, noOwn, tgD, wipeE, restE, R.bind, q1]) (by simp [lcItems, noOwn, tgD, wipeE, restE, R.bind, q2])
  | @un2 n nm p q s x y hr T1 T2 ih1 ih2 =>
    intro _ hn
    obtain ⟨e, he, hg⟩ := hm.get hr
    have hg : dgetD M (.str (PySem.Str.ofString nm)) = some e := by rw [hM]; exact hg
    cases he with
    | val h _ => exact absurd h (by simp)
    | @tab P rest h hT hv =>
      have hp : S3 p ∧ S3 q := by
        rcases row_places (all _ hr) with h | ⟨q, h, hq⟩ | h
        · cases h
        · cases h
        · have h : [p, q] = [sA, sA] := h
          cases h; exact ⟨.inl rfl, .inl rfl⟩
      obtain ⟨v, hv1, hw⟩ := ih1 hp.1 (by omega)
      obtain ⟨u, hv2, hw2⟩ := ih2 hp.2 (by omega)
      have hA : ArgsOk (2 + n) [p, q] [v, u] := .cons hv1 (.cons hv2 .nil)
      refine ⟨look P (.tup [v, u]) rest, (look_val hT hv _).mono (by omega), .mk fun j m hj => ?_⟩
      obtain ⟨i, rfl⟩ : ∃ i, j = i + 1 := ⟨j - 1, by omega⟩
      obtain ⟨q1, q2⟩ := hw.up m (j := i + 1) (by omega)
      obtain ⟨q3, q4⟩ := hw2.up m (j := i + 1) (by omega)
      exact w_un (r := (nm, [p, q], s)) hT hA (by simp) (by simp) hg (by simp [lcItems, noOwn, tgD, wipeE, restE, R.bind, q1, q3]) (by simp [lcItems, noOwn, tgD, wipeE, restE, R.bind, q2, q4])
  | @nil n =>
    intro _ _
    refine ⟨sd [], .li (fun _ h => nomatch h) (by simp), .mk fun j m hj => ?_⟩
    obtain ⟨i, rfl⟩ : ∃ i, j = i + 1 := ⟨j - 1, by omega⟩
    exact w_nil
  | @none n e he =>
    intro hs _
    rcases he with rfl | rfl
    · refine ⟨sd [], .se (n := 0) (by omega), .mk fun j m hj => ?_⟩
      obtain ⟨i, rfl⟩ : ∃ i, j = i + 1 := ⟨j - 1, by omega⟩
      exact w_none
    · exfalso
      rcases hs with h | h | h
      · simp [setD, sA] at h
      · simp [setD, sL] at h
      · exact set_sL h
  | @cons n h t T1 T2 ih1 ih2 =>
    intro _ hn
    obtain ⟨v, hv1, hw⟩ := ih1 (.inl rfl) (by omega)
    obtain ⟨u, hv2, hw2⟩ := ih2 (.inr (.inl rfl)) (by omega)
    obtain ⟨i0, rfl, a1, a2⟩ := sA_inv hv1
    obtain ⟨xs, rfl, b1, b2⟩ := sL_inv hv2
    refine ⟨sd (i0 :: xs), .li (fun x hx => ?_) (by simp; omega), .mk fun j m hj => ?_⟩
    · rcases List.mem_cons.mp hx with rfl | hx
      · exact ⟨a1, a2⟩
      · exact b1 x hx
    · obtain ⟨i, rfl⟩ : ∃ i, j = i + 2 := ⟨j - 2, by omega⟩
      obtain ⟨q1, q2⟩ := hw.up m (j := i + 2) (by omega)
      obtain ⟨q3, q4⟩ := hw2.up m (j := i + 2) (by omega)
      obtain ⟨c1, c2⟩ := made_cons (k := i + 1) (m := m) (x := h) (y := t) (i := i0) (is := xs) (by omega)
      exact w_made (w := "cons") (by simp) (.inr rfl) (by simp [lcItems, noOwn, tgD, wipeE, restE, R.bind, q1, q3]) (by simp [lcItems, noOwn, tgD, wipeE, restE, R.bind, q2, q4]) c1 c2
  | @one n x e he T ih =>
    intro hs hn
    have he : e = sA := by
      rcases he with rfl | rfl
      · rfl
      · exfalso
        rcases hs with h | h | h
        · simp [setD, sA] at h
        · simp [setD, sL] at h
        · exact set_sL h
    subst he
    obtain ⟨v, hv1, hw⟩ := ih (.inl rfl) (by omega)
    obtain ⟨i0, rfl, a1, a2⟩ := sA_inv hv1
    refine ⟨s8 (bitOf i0), .se (bit_lt i0), .mk fun j m hj => ?_⟩
    obtain ⟨i, rfl⟩ : ∃ i, j = i + 2 := ⟨j - 2, by omega⟩
    obtain ⟨q1, q2⟩ := hw.up m (j := i + 2) (by omega)
    exact w_made (w := "one") (by simp) (.inl rfl) (by simp [lcItems, noOwn, tgD, wipeE, restE, R.bind, q1]) (by simp [lcItems, noOwn, tgD, wipeE, restE, R.bind, q2]) (made_one a1 a2 x (i + 1) m) (lmade_one a1 a2 (i + 1) m)
  | @two n w x y e hw0 he T1 T2 ih1 ih2 =>
    intro hs hn
    obtain ⟨v, hv1, hw⟩ := ih1 hs (by omega)
    obtain ⟨u, hv2, hw2⟩ := ih2 hs (by omega)
    have he : e = sA := by
      rcases he with rfl | rfl
      · rfl
      · exfalso
        rcases hs with h | h | h
        · simp [setD, sA] at h
        · simp [setD, sL] at h
        · exact set_sL h
    subst he
    obtain ⟨a, rfl, ha⟩ := sS_inv hv1
    obtain ⟨b, rfl, hb⟩ := sS_inv hv2
    refine ⟨s8 (opw w a b), .se (opw_lt ha hb), .mk fun j m hj => ?_⟩
    obtain ⟨i, rfl⟩ : ∃ i, j = i + 2 := ⟨j - 2, by omega⟩
    obtain ⟨q1, q2⟩ := hw.up m (j := i + 2) (by omega)
    obtain ⟨q3, q4⟩ := hw2.up m (j := i + 2) (by omega)
    have c1 := each_eq (made64 hw0 x y i m) (a, b) (mem64 ha hb)
    have c2 := each_eq (lmade64 hw0 i m) (a, b) (mem64 ha hb)
    have hw' : w ∈ ["cons", "one", "join", "meet", "without"] := by
      simp only [List.mem_cons, List.not_mem_nil, or_false] at hw0 ⊢
      rcases hw0 with rfl | rfl | rfl <;> simp
    exact w_made hw' (.inr rfl) (by simp [lcItems, noOwn, tgD, wipeE, restE, R.bind, q1, q3]) (by simp [lcItems, noOwn, tgD, wipeE, restE, R.bind, q2, q4]) c1 c2
/-! ### claims -/
def H2 (M c : D) (n : Nat) (b : Bool) : Prop := ∀ (j : Nat) (m : List MO), n ≤ j → prog j 38 [M, c] m = .ok (.bl b) m ∧ prog j 54 [M, c] m = .ok (.bl b) m
theorem in24 : ([0, 1, 2] : List Int).flatMap (fun i => [0, 1, 2, 3, 4, 5, 6, 7].map fun a => (inD (.int i) (s8 a), in2D (.int i) (s8 a))) = ([0, 1, 2] : List Int).flatMap (fun i => [0, 1, 2, 3, 4, 5, 6, 7].map fun a => (some (D.bl (Nat.testBit a i.toNat)), some (D.bl (Nat.testBit a i.toNat)))) := by kernel_rfl
theorem in_set_bl {i : Int} {a : Nat} (h0 : 0 ≤ i) (h1 : i < 3) (ha : a < 8) : inD (.int i) (s8 a) = some (.bl (Nat.testBit a i.toNat)) ∧ in2D (.int i) (s8 a) = some (.bl (Nat.testBit a i.toNat)) := by
  rcases three_int h0 h1 with rfl | rfl | rfl <;> rcases eight ha with rfl | rfl | rfl | rfl | rfl | rfl | rfl | rfl <;> exact ⟨by kernel_rfl, by kernel_rfl⟩
theorem Val.eq_bl {b c : Nat} {s v w : D} (hv : Val b s v) (hw : Val c s w) : ∃ k, eqD v w = some (.bl k) :=
  ⟨_, eq_tree (it_at (hv.it (n := 0))) (it_at (hw.it (n := 0))) (by omega)⟩
section
variable {M : D} {k : Nat} {m : List MO}
theorem h_is {x y v w : D} {b : Bool} (h1 : prog k 37 [M, x] m = .ok v m ∧ prog k 53 [M, x] m = .ok v m) (h2 : prog k 37 [M, y] m = .ok w m ∧ prog k 53 [M, y] m = .ok w m) (e : eqD v w = some (.bl b)) (a : prog k 36 [.str "is", v, w] m = .ok (.bl b) m) :
    prog (k + 1) 38 [M, .tup [.str "is", x, y]] m = .ok (.bl b) m ∧ prog (k + 1) 54 [M, .tup [.str "is", x, y]] m = .ok (.bl b) m := by
  have i1 : inD (.str (PySem.Str.ofString "is")) (.tup [.str "true", .str "false"]) = some (.bl false) := rfl
  constructor
  · show fnD 3 (body_holds (prog k)) _ m = _
    simp [fnD, body_holds, R.bind, R.stm, i1, h1.1, h2.1, a]
  · show fnD 5 (body__law_holds (prog k)) _ m = _
    simp [fnD, body__law_holds, R.bind, R.stm, i1, h1.2, h2.2, e]
theorem h_in {x y v w : D} {b : Bool} (h1 : prog k 37 [M, x] m = .ok v m ∧ prog k 53 [M, x] m = .ok v m) (h2 : prog k 37 [M, y] m = .ok w m ∧ prog k 53 [M, y] m = .ok w m) (e : inD v w = some (.bl b)) (a : prog k 36 [.str "in", v, w] m = .ok (.bl b) m) :
    prog (k + 1) 38 [M, .tup [.str "in", x, y]] m = .ok (.bl b) m ∧ prog (k + 1) 54 [M, .tup [.str "in", x, y]] m = .ok (.bl b) m := by
  have i1 : inD (.str (PySem.Str.ofString "in")) (.tup [.str "true", .str "false"]) = some (.bl false) := rfl
  constructor
  · show fnD 3 (body_holds (prog k)) _ m = _
    simp [fnD, body_holds, R.bind, R.stm, i1, h1.1, h2.1, a]
  · show fnD 5 (body__law_holds (prog k)) _ m = _
    simp [fnD, body__law_holds, R.bind, R.stm, i1, h1.2, h2.2, e]
theorem a_is {v w : D} {b : Bool} (e : eqD v w = some (.bl b)) : prog (k + 1) 36 [.str "is", v, w] m = .ok (.bl b) m := by
  show fnD 5 (body_asked (prog k)) _ m = _
  simp [fnD, body_asked, R.bind, R.stm, e]
theorem a_in {v w : D} {b : Bool} (e : in2D v w = some (.bl b)) : prog (k + 1) 36 [.str "in", v, w] m = .ok (.bl b) m := by
  show fnD 5 (body_asked (prog k)) _ m = _
  simp [fnD, body_asked, R.bind, R.stm, e]
theorem h_not {x : D} {b : Bool} (h1 : prog k 38 [M, x] m = .ok (.bl b) m ∧ prog k 54 [M, x] m = .ok (.bl b) m) :
    prog (k + 1) 38 [M, .tup [.str "not", x]] m = .ok (.bl (!b)) m ∧ prog (k + 1) 54 [M, .tup [.str "not", x]] m = .ok (.bl (!b)) m := by
  have i1 : inD (.str (PySem.Str.ofString "not")) (.tup [.str "true", .str "false"]) = some (.bl false) := rfl
  constructor
  · show fnD 3 (body_holds (prog k)) _ m = _
    simp [fnD, body_holds, R.bind, R.stm, i1, h1.1]
  · show fnD 5 (body__law_holds (prog k)) _ m = _
    simp [fnD, body__law_holds, R.bind, R.stm, i1, h1.2]
def opb (w : String) (a b : Bool) : Bool := if w = "and" then a && b else if w = "or" then a || b else if w = "then" then !a || b else a == b
theorem eq_bl (a b : Bool) : eqD (.bl a) (.bl b) = some (.bl (a == b)) := by cases a <;> cases b <;> rfl
theorem h_two {w : String} {x y : D} {a b : Bool} (hw : w ∈ ["and", "or", "then", "same"]) (h1 : prog k 38 [M, x] m = .ok (.bl a) m ∧ prog k 54 [M, x] m = .ok (.bl a) m) (h2 : prog k 38 [M, y] m = .ok (.bl b) m ∧ prog k 54 [M, y] m = .ok (.bl b) m) :
    prog (k + 1) 38 [M, .tup [.str (PySem.Str.ofString w), x, y]] m = .ok (.bl (opb w a b)) m ∧ prog (k + 1) 54 [M, .tup [.str (PySem.Str.ofString w), x, y]] m = .ok (.bl (opb w a b)) m := by
  have i1 : inD (.str (PySem.Str.ofString w)) (.tup [.str "true", .str "false"]) = some (.bl false) := by
    simp only [List.mem_cons, List.not_mem_nil, or_false] at hw
    rcases hw with rfl | rfl | rfl | rfl <;> rfl
  have e := eq_bl a b
  simp only [List.mem_cons, List.not_mem_nil, or_false] at hw
  constructor
  · show fnD 3 (body_holds (prog k)) _ m = _
    rcases hw with rfl | rfl | rfl | rfl <;> cases a <;> simp [fnD, body_holds, R.bind, R.stm, i1, h1.1, h2.1, opb, e]
  · show fnD 5 (body__law_holds (prog k)) _ m = _
    rcases hw with rfl | rfl | rfl | rfl <;> cases a <;> simp [fnD, body__law_holds, R.bind, R.stm, i1, h1.2, h2.2, opb, e]
end
theorem holds_all {ms : Md} (hm : MdOk ms) {M : D} (hM : M = mdD ms) : ∀ {z n : Nat} {c : D}, Cm (ms.map (·.1)) z n c → n ≤ 900 → ∃ b : Bool, H2 M c (z + n + 8) b := by
  intro z n c C
  induction C with
  | @is z n s x y hs T1 T2 =>
    intro hn
    obtain ⟨v, v1, w1⟩ := worth_all hm hM T1 hs hn
    obtain ⟨w, v2, w2⟩ := worth_all hm hM T2 hs hn
    obtain ⟨b, e⟩ := v1.eq_bl v2
    refine ⟨b, fun j m hj => ?_⟩
    obtain ⟨i, rfl⟩ : ∃ i, j = i + 2 := ⟨j - 2, by omega⟩
    exact h_is (w1.up m (by omega)) (w2.up m (by omega)) e (a_is e)
  | @isin z n x y T1 T2 =>
    intro hn
    obtain ⟨v, v1, w1⟩ := worth_all hm hM T1 (.inl rfl) hn
    obtain ⟨w, v2, w2⟩ := worth_all hm hM T2 (.inr (.inr rfl)) hn
    obtain ⟨i0, rfl, a1, a2⟩ := sA_inv v1
    obtain ⟨a, rfl, ha⟩ := sS_inv v2
    obtain ⟨e1, e2⟩ := in_set_bl a1 a2 ha
    refine ⟨Nat.testBit a i0.toNat, fun j m hj => ?_⟩
    obtain ⟨i, rfl⟩ : ∃ i, j = i + 2 := ⟨j - 2, by omega⟩
    exact h_in (w1.up m (by omega)) (w2.up m (by omega)) e1 (a_in e2)
  | @not z n c C ih =>
    intro hn
    obtain ⟨b, h⟩ := ih hn
    refine ⟨!b, fun j m hj => ?_⟩
    obtain ⟨i, rfl⟩ : ∃ i, j = i + 1 := ⟨j - 1, by omega⟩
    exact h_not (h i m (by omega))
  | @two z n w c d hw C1 C2 ih1 ih2 =>
    intro hn
    obtain ⟨a, h1⟩ := ih1 hn
    obtain ⟨b, h2⟩ := ih2 hn
    refine ⟨opb w a b, fun j m hj => ?_⟩
    obtain ⟨i, rfl⟩ : ∃ i, j = i + 1 := ⟨j - 1, by omega⟩
    exact h_two hw (h1 i m (by omega)) (h2 i m (by omega))
end K02
end

section
set_option Elab.async false
set_option linter.all false
set_option maxRecDepth 100000
set_option maxHeartbeats 4000000
namespace K02
open PySem PySem.Spec L2 PM
/-! ### are_ascending, is_table -/
theorem asc_ok {L : List D} (hl : L.length ≤ 3) (hi : ∀ a ∈ L, itN 2 a = true ∧ isTupD a = true) (hal : ∀ a ∈ L, ∀ b ∈ L, PM.alk a b = true) (hp : L.Pairwise fun a b => ltO a b = true) (k : Nat) (m : List MO) : prog (k + 1) 26 [.tup L] m = .ok (.bl true) m := by
  have lt : ∀ {a b : D}, a ∈ L → b ∈ L → ltO a b = true → lt2D a b = some (.bl true) := fun {a b} ha hb h => by
    obtain ⟨xs, rfl⟩ : ∃ xs, a = .tup xs := by
      have := (hi a ha).2
      cases a <;> first | (cases this; done) | exact ⟨_, rfl⟩
    have := lt_tree (it_at (hi _ ha).1) (it_at (hi b hb).1) (by omega) (hal _ ha b hb)
    rw [this, h]
  show fnD 3 (body_are_ascending (prog k)) [.tup L] m = _
  match L, hl, hp with
  | [], _, _ => kernel_rfl
  | [a], _, _ => kernel_rfl
  | [a, b], _, hp =>
    have e := lt (a := a) (b := b) (by simp) (by simp) (by simp at hp; exact hp)
    have s : slD (.tup [a, b]) (some 1) none = some (.tup [b]) := rfl
    simp [fnD, body_are_ascending, R.bind, R.stm, s, iArgs, zipD, pairD, lcItems, noOwn, tgD, wipeE, restE, setAll, e, allD, blsD]
  | [a, b, c], _, hp =>
    simp at hp
    have e := lt (a := a) (b := b) (by simp) (by simp) hp.1.1
    have e2 := lt (a := b) (b := c) (by simp) (by simp) hp.2
    have s : slD (.tup [a, b, c]) (some 1) none = some (.tup [b, c]) := rfl
    simp [fnD, body_are_ascending, R.bind, R.stm, s, iArgs, zipD, pairD, lcItems, noOwn, tgD, wipeE, restE, setAll, e, e2, allD, blsD]
theorem pair_step {r : Row} (ha : r ∈ allRows) {p : D × D} (h : PairOk r p) {k : Nat} {m : List MO} {x0 : Option Cell} {x3 x4 x5 : Option Cell} (h4 : x4 = none) (h5 : x5 = none) :
    (sSeq (sIf (tOrD (tNotD (eTr (eIsi .tuple (eLoc 3)))) (tOrD (eBl (eOp neD (eCall lenD (aCons (eLoc 3) aNil)) (eC (.int (2))))) (tNotD (eTr (eIsi .tuple (eOp ixSq (eLoc 3) (eC (.int (0)))))))))
    (sRet (eC (.bl false)))
    sNil)
    (sSeq (sIf (eBl (eOp neD (eCall lenD (aCons (eOp ixSq (eLoc 3) (eC (.int (0)))) aNil)) (eCall lenD (aCons (eLoc 1) aNil))))
    (sRet (eC (.bl false)))
    sNil)
    (sIf (tOrD (tNotD (eTr (eCall allD (aCons (eFrz (eLc [4, 5] (.tp [4, 5]) (iArgs zipD (aCons (eOp ixSq (eLoc 3) (eC (.int (0)))) (aCons (eLoc 1) aNil))) tYesD (eFn (fun ds m => if ds.length = 2 then prog (k + 4) 25 ds m else .stuck) (aCons (eLoc 4) (aCons (eLoc 5) aNil))))) aNil)))) (tNotD (eTr (eFn (fun ds m => if ds.length = 2 then prog (k + 4) 25 ds m else .stuck) (aCons (eOp ixSq (eLoc 3) (eC (.int (1)))) (aCons (eLoc 2) aNil))))))
    (sRet (eC (.bl false)))
    sNil))) ⟨[x0, some (.val (.tup r.2.1)), some (.val r.2.2), some (.val (pr p)), x4, x5], m⟩ = .next ⟨[x0, some (.val (.tup r.2.1)), some (.val r.2.2), some (.val (pr p)), x4, x5], m⟩ := by
  subst h4 h5
  obtain ⟨as, e, hA⟩ := h.a
  have hv := h.v.is (by omega) k m
  have hlen : as.length = r.2.1.length ∧ r.2.1.length ≤ 2 := by
    have : ∀ {b : Nat} {ps xs : List D}, ArgsOk b ps xs → xs.length = ps.length := by
      intro b ps xs h
      induction h with
      | nil => rfl
      | cons _ _ ih => simp [ih]
    refine ⟨this hA, ?_⟩
    rcases row_places ha with h | ⟨q, h, _⟩ | h <;> rw [h] <;> simp
  unfold pr
  rw [e]
  rcases row_places ha with hp | ⟨q, hp, hq⟩ | hp
  · rw [hp] at hA ⊢
    cases hA
    simp [R.bind, R.stm, isiD, iArgs, zipD, pairD, lcItems, allD, blsD, hv]
  · rw [hp] at hA ⊢
    cases hA with
    | cons h1 t =>
      cases t
      have e1 := h1.is (by omega) k m
      simp [R.bind, R.stm, isiD, iArgs, zipD, pairD, lcItems, noOwn, tgD, wipeE, restE, setAll, allD, blsD, hv, e1]
  · rw [hp] at hA ⊢
    cases hA with
    | cons h1 t =>
      cases t with
      | cons h2 t =>
        cases t
        have e1 := h1.is (by omega) k m
        have e2 := h2.is (by omega) k m
        simp [R.bind, R.stm, isiD, iArgs, zipD, pairD, lcItems, noOwn, tgD, wipeE, restE, setAll, allD, blsD, hv, e1, e2]
end K02
end

section
set_option Elab.async false
set_option linter.all false
set_option maxRecDepth 100000
set_option maxHeartbeats 4000000
namespace K02
open PySem PySem.Spec L2 PM
theorem table_loop {r : Row} (ha : r ∈ allRows) {k : Nat} {m : List MO} {x0 : Option Cell} : ∀ (P : List (D × D)) (x3 : Option Cell), (x3 = none ∨ ∃ d, x3 = some (.val d)) → (∀ p ∈ P, PairOk r p) → ∃ x3', (x3' = none ∨ ∃ d, x3' = some (.val d)) ∧ sLoop (gNm 3) (sSeq (sIf (tOrD (tNotD (eTr (eIsi .tuple (eLoc 3)))) (tOrD (eBl (eOp neD (eCall lenD (aCons (eLoc 3) aNil)) (eC (.int (2))))) (tNotD (eTr (eIsi .tuple (eOp ixSq (eLoc 3) (eC (.int (0)))))))))
    (sRet (eC (.bl false)))
    sNil)
    (sSeq (sIf (eBl (eOp neD (eCall lenD (aCons (eOp ixSq (eLoc 3) (eC (.int (0)))) aNil)) (eCall lenD (aCons (eLoc 1) aNil))))
    (sRet (eC (.bl false)))
    sNil)
    (sIf (tOrD (tNotD (eTr (eCall allD (aCons (eFrz (eLc [4, 5] (.tp [4, 5]) (iArgs zipD (aCons (eOp ixSq (eLoc 3) (eC (.int (0)))) (aCons (eLoc 1) aNil))) tYesD (eFn (fun ds m => if ds.length = 2 then prog (k + 4) 25 ds m else .stuck) (aCons (eLoc 4) (aCons (eLoc 5) aNil))))) aNil)))) (tNotD (eTr (eFn (fun ds m => if ds.length = 2 then prog (k + 4) 25 ds m else .stuck) (aCons (eOp ixSq (eLoc 3) (eC (.int (1)))) (aCons (eLoc 2) aNil))))))
    (sRet (eC (.bl false)))
    sNil))) (P.map pr) ⟨[x0, some (.val (.tup r.2.1)), some (.val r.2.2), x3, none, none], m⟩ = .next ⟨[x0, some (.val (.tup r.2.1)), some (.val r.2.2), x3', none, none], m⟩
  | [], x3, hx, _ => ⟨x3, hx, rfl⟩
  | p :: P, x3, _, h => by
    obtain ⟨x3', hx, ih⟩ := table_loop ha (k := k) (m := m) (x0 := x0) P (some (.val (pr p))) (.inr ⟨_, rfl⟩) fun q hq => h q (List.mem_cons_of_mem _ hq)
    have st := pair_step ha (h p (List.mem_cons_self ..)) (k := k) (m := m) (x0 := x0) (x4 := none) (x5 := none) (x3 := none) rfl rfl
    refine ⟨x3', hx, ?_⟩
    rw [List.map_cons, sLoop]
    simp only [ev_gNm, List.set]
    rw [st]
    exact ih
theorem args_mem {r : Row} {P : List (D × D)} (h : ∀ p ∈ P, PairOk r p) : ∀ a ∈ P.map (·.1), ∃ as, a = .tup as ∧ ArgsOk 2 r.2.1 as := fun a ha => by
  obtain ⟨p, hp, rfl⟩ := List.mem_map.mp ha
  exact (h p hp).a
theorem table_ok {r : Row} (ha : r ∈ allRows) {P : List (D × D)} {rest : D} (hT : TabOk r P) (hr : Val 2 r.2.2 rest) (k : Nat) (m : List MO) : prog (k + 5) 27 [.tup [.ptp (P.map pr), rest], .tup r.2.1, r.2.2] m = .ok (.bl true) m := by
  obtain ⟨x3', hx, lp⟩ := table_loop ha (k := k) (m := m) (x0 := some (.val (.tup [.ptp (P.map pr), rest]))) P none (.inl rfl) hT.ok
  have am := args_mem hT.ok
  have asc := asc_ok (L := P.map (·.1)) (by rw [List.length_map]; exact hT.len) (fun a h => by
    obtain ⟨as, rfl, g⟩ := am a h
    exact ⟨ArgsOk.it (n := 0) g, rfl⟩) (fun a h b g => by
    obtain ⟨as, rfl, h'⟩ := am a h
    obtain ⟨bs, rfl, g'⟩ := am b g
    exact h'.alk g') (by rw [List.pairwise_map]; exact hT.asc) (k + 3) m
  have hv := hr.is (by omega) k m
  have lc := lc_map (g := fun d => match d with | .tup (x :: _) => x | _ => d) (i := 3) (env := [some (.val (.tup [.ptp (P.map pr), rest])), some (.val (.tup r.2.1)), some (.val r.2.2), x3', none, none]) (fe := eOp ixSq (eLoc 3) (eC (.int 0))) (m := m) (by simp) (by rcases hx with rfl | ⟨d, rfl⟩ <;> rfl) (P.map pr) fun d hd => by
    obtain ⟨p, _, rfl⟩ := List.mem_map.mp hd
    simp [pr, R.bind]
  have ep : ((P.map pr).map fun d => match d with | .tup (x :: _) => x | _ => d) = P.map (·.1) := by
    rw [List.map_map]; rfl
  rw [ep] at lc
  have hz : (P.map pr).length ≤ 16777216 := by rw [List.length_map]; have := hT.len; omega
  have hi : itemsA (.ptp (P.map pr)) = some (P.map pr) := rfl
  have hp : isiD .tuple (.ptp (P.map pr)) = some true := rfl
  show fnD 6 (body_is_table (prog (k + 4))) [.tup [.ptp (P.map pr), rest], .tup r.2.1, r.2.2] m = _
  generalize P.map pr = Q at lp lc hz hi hp ⊢
  generalize P.map (·.1) = L at lc asc
  have hp2 : isiD .tuple (.tup [.ptp Q, rest]) = some true := rfl
  have ix0 : ixSq (.tup [.ptp Q, rest]) (.int 0) = some (.ptp Q) := ev_at0 _ _
  have ix1 : ixSq (.tup [.ptp Q, rest]) (.int 1) = some rest := ev_at1 _ _ _
  have ln : lenD [.tup [.ptp Q, rest]] = some (.int 2) := rfl
  generalize D.tup [.ptp Q, rest] = E at lp lc hp2 ix0 ix1 ln ⊢
  simp [fnD, body_is_table, sFor, R.bind, R.stm, hp2, ln, ix0, ix1, hp, hi, lp, lc, hz, tupleD, asc, hv]
end K02
end

section
set_option Elab.async false
set_option linter.all false
set_option maxRecDepth 100000
set_option maxHeartbeats 4000000
namespace K02
open PySem PySem.Spec L2 PM
/-! ### is_choice -/
/-- what is asked of an unknown's value -/
def ChkOk (k : Nat) (r : Row) (e : D) (b : Bool) : Prop := ∀ m, if r.2.1 = [] then prog k 25 [e, r.2.2] m = .ok (.bl b) m else prog k 27 [e, .tup r.2.1, r.2.2] m = .ok (.bl b) m
structure RowIn (k : Nat) (M : D) (r : Row) (e : D) (b : Bool) : Prop where
  i : ninD (.str (PySem.Str.ofString r.1)) M = some (.bl false)
  g : dgetD M (.str (PySem.Str.ofString r.1)) = some e
  c : ChkOk k r e b
theorem choice_step {k : Nat} {M e : D} {r : Row} {b : Bool} (h : RowIn k M r e b) {m : List MO} {x1 x2 x3 x4 x5 : Option Cell} :
    (sSeq (sIf (eBl (eOp ninD (eLoc 2) (eLoc 0)))
    (sRet (eC (.bl false)))
    sNil)
    (sSeq (sSet 5 (eOp dgetD (eLoc 0) (eLoc 2)))
    (sIf (tNotD (tIfD (eTr (eLoc 3)) (eTr (eFn (fun ds m => if ds.length = 3 then prog k 27 ds m else .stuck) (aCons (eLoc 5) (aCons (eLoc 3) (aCons (eLoc 4) aNil))))) (eTr (eFn (fun ds m => if ds.length = 2 then prog k 25 ds m else .stuck) (aCons (eLoc 5) (aCons (eLoc 4) aNil))))))
    (sRet (eC (.bl false)))
    sNil))) ⟨[some (.val M), x1, some (.val (.str (PySem.Str.ofString r.1))), some (.val (.tup r.2.1)), some (.val r.2.2), x5], m⟩ =
    if b = true then .next ⟨[some (.val M), x1, some (.val (.str (PySem.Str.ofString r.1))), some (.val (.tup r.2.1)), some (.val r.2.2), some (.val e)], m⟩ else .ret (.bl false) ⟨[some (.val M), x1, some (.val (.str (PySem.Str.ofString r.1))), some (.val (.tup r.2.1)), some (.val r.2.2), some (.val e)], m⟩ := by
  obtain ⟨h1, h2, h3⟩ := h
  have h3 := h3 m
  by_cases hp : r.2.1 = []
  · rw [if_pos hp] at h3
    rw [hp]
    cases b <;> simp [R.bind, R.stm, h1, h2, tIfD, truthD, h3]
  · rw [if_neg hp] at h3
    have ne : r.2.1.isEmpty = false := by
      cases q : r.2.1 with
      | nil => exact absurd q hp
      | cons => rfl
    cases b <;> simp [R.bind, R.stm, h1, h2, tIfD, truthD, ne, h3]
theorem choice_loop {k : Nat} {M : D} {g : Row → Bool} {m : List MO} {x1 : Option Cell} : ∀ (rs : List Row) (x2 x3 x4 x5 : Option Cell), (∀ r ∈ rs, ∃ e, RowIn k M r e (g r)) → ∃ x2' x3' x4' x5', sLoop (gTp 3 (gCons (gNm 2) (gCons (gNm 3) (gCons (gNm 4) gNil))))
    (sSeq (sIf (eBl (eOp ninD (eLoc 2) (eLoc 0)))
    (sRet (eC (.bl false)))
    sNil)
    (sSeq (sSet 5 (eOp dgetD (eLoc 0) (eLoc 2)))
    (sIf (tNotD (tIfD (eTr (eLoc 3)) (eTr (eFn (fun ds m => if ds.length = 3 then prog k 27 ds m else .stuck) (aCons (eLoc 5) (aCons (eLoc 3) (aCons (eLoc 4) aNil))))) (eTr (eFn (fun ds m => if ds.length = 2 then prog k 25 ds m else .stuck) (aCons (eLoc 5) (aCons (eLoc 4) aNil))))))
    (sRet (eC (.bl false)))
    sNil))) (rs.map rowD) ⟨[some (.val M), x1, x2, x3, x4, x5], m⟩ = if rs.all g = true then .next ⟨[some (.val M), x1, x2', x3', x4', x5'], m⟩ else .ret (.bl false) ⟨[some (.val M), x1, x2', x3', x4', x5'], m⟩
  | [], x2, x3, x4, x5, _ => ⟨x2, x3, x4, x5, rfl⟩
  | r :: rs, x2, x3, x4, x5, h => by
    obtain ⟨e, hr⟩ := h r (List.mem_cons_self ..)
    have st := choice_step hr (m := m) (x1 := x1) (x2 := none) (x3 := none) (x4 := none) (x5 := x5)
    rw [List.map_cons, sLoop]
    have es : gTp 3 (gCons (gNm 2) (gCons (gNm 3) (gCons (gNm 4) gNil))) (rowD r) ⟨[some (.val M), x1, x2, x3, x4, x5], m⟩ = some ⟨[some (.val M), x1, some (.val (.str (PySem.Str.ofString r.1))), some (.val (.tup r.2.1)), some (.val r.2.2), x5], m⟩ := by
      simp [rowD]
    rw [es]
    dsimp only
    rw [st]
    cases hb : g r with
    | false =>
      refine ⟨some (.val (.str (PySem.Str.ofString r.1))), some (.val (.tup r.2.1)), some (.val r.2.2), some (.val e), ?_⟩
      rw [List.all_cons, hb, if_neg Bool.false_ne_true, Bool.false_and, if_neg Bool.false_ne_true]
    | true =>
      obtain ⟨x2', x3', x4', x5', ih⟩ := choice_loop (k := k) (M := M) (g := g) (m := m) (x1 := x1) rs (some (.val (.str (PySem.Str.ofString r.1)))) (some (.val (.tup r.2.1))) (some (.val r.2.2)) (some (.val e)) fun q hq => h q (List.mem_cons_of_mem _ hq)
      refine ⟨x2', x3', x4', x5', ?_⟩
      rw [List.all_cons, hb, if_pos rfl, Bool.true_and]
      exact ih
theorem choice_gen {k : Nat} {M : D} {rows : List Row} {cs : List D} {g : Row → Bool} (hd : isiD .dict M = some true) (hl : lenD [M] = some (.int rows.length)) (h : ∀ r ∈ rows, ∃ e, RowIn k M r e (g r)) (hz : rows.length ≤ 1000) (m : List MO) : prog (k + 1) 28 [M, textD rows cs] m = .ok (.bl (rows.all g)) m := by
  obtain ⟨x2', x3', x4', x5', lp⟩ := choice_loop (m := m) (x1 := some (.val (textD rows cs))) rows none none none none h
  have t2 : ixSq (textD rows cs) (.int 2) = some (.tup (rows.map rowD)) := ev_at2 _ _ _ _
  have l2 : lenD [.tup (rows.map rowD)] = some (.int rows.length) := by rw [ev_len_tup, List.length_map]
  show fnD 6 (body_is_choice (prog k)) [M, textD rows cs] m = _
  generalize textD rows cs = T at lp t2 ⊢
  generalize rows.map rowD = R0 at lp t2 l2 ⊢
  cases hb : rows.all g with
  | true =>
    rw [hb, if_pos rfl] at lp
    simp [fnD, body_is_choice, sFor, R.bind, R.stm, hd, hl, t2, l2, lp]
  | false =>
    rw [hb, if_neg Bool.false_ne_true] at lp
    simp [fnD, body_is_choice, sFor, R.bind, R.stm, hd, hl, t2, l2, lp]
theorem choice_nodict {k : Nat} {M T : D} (hd : isiD .dict M = some false) (m : List MO) : prog (k + 1) 28 [M, T] m = .ok (.bl false) m := by
  show fnD 6 (body_is_choice (prog k)) [M, T] m = _
  simp [fnD, body_is_choice, R.bind, R.stm, hd]
theorem choice_len {k : Nat} {M : D} {rows : List Row} {cs : List D} {n : Int} (hd : isiD .dict M = some true) (hl : lenD [M] = some (.int n)) (hn : n ≠ rows.length) (m : List MO) : prog (k + 1) 28 [M, textD rows cs] m = .ok (.bl false) m := by
  have t2 : ixSq (textD rows cs) (.int 2) = some (.tup (rows.map rowD)) := ev_at2 _ _ _ _
  have l2 : lenD [.tup (rows.map rowD)] = some (.int rows.length) := by rw [ev_len_tup, List.length_map]
  have hn' : (n == (rows.length : Int)) = false := by simpa using hn
  show fnD 6 (body_is_choice (prog k)) [M, textD rows cs] m = _
  generalize textD rows cs = T at t2 ⊢
  generalize rows.map rowD = R0 at t2 l2 ⊢
  simp [fnD, body_is_choice, R.bind, R.stm, hd, hl, t2, l2, hn']
/-- the right one -/
theorem chk_ok {r : Row} (ha : r ∈ allRows) {e : D} (h : EntOk r e) (k : Nat) : ChkOk (k + 5) r e true := fun m => by
  cases h with
  | val h1 h2 => rw [if_pos h1]; exact h2.is (by omega) (k + 1) m
  | tab h1 h2 h3 => rw [if_neg h1]; exact table_ok ha h2 h3 k m
theorem md_nin {ms : Md} {r : Row} (hr : r ∈ ms.map (·.1)) (nd : ((ms.map (·.1)).map (·.1)).Nodup) : ninD (.str (PySem.Str.ofString r.1)) (mdD ms) = some (.bl false) := by
  obtain ⟨q, hq, rfl⟩ := List.mem_map.mp hr
  show (some ((getP (ms.map fun q => rkey q.1) (ms.map (·.2)) (rkey q.1)).isSome)).map (fun k => D.bl (!k)) = _
  rw [md_get nd hq]; rfl
theorem choice_right {ms : Md} (hm : MdOk ms) {cs : List D} (k : Nat) (m : List MO) : prog (k + 6) 28 [mdD ms, textD (ms.map (·.1)) cs] m = .ok (.bl true) m := by
  have hz := hm.sub.length_le
  have h13 : allRows.length = 13 := rfl
  have e := choice_gen (k := k + 5) (M := mdD ms) (rows := ms.map (·.1)) (cs := cs) (g := fun _ => true) rfl (by show some (D.int ((ms.map fun q => rkey q.1).length)) = _; simp) (fun r hr => by
    obtain ⟨e, he, hg⟩ := hm.get hr
    exact ⟨e, md_nin hr (names_nd hm.sub), hg, chk_ok (hm.sub.subset hr) he k⟩) (by omega) m
  have : (ms.map (·.1)).all (fun _ => true) = true := by simp
  rw [this] at e
  exact e
end K02
end

section
set_option Elab.async false
set_option linter.all false
set_option maxRecDepth 100000
set_option maxHeartbeats 4000000
namespace K02
open PySem PySem.Spec L2 PM
abbrev exText : Exn := ⟨"BadPart", [("what", .str "text")]⟩
abbrev exTerm : Exn := ⟨"BadPart", [("what", .str "term")]⟩
abbrev exClaim : Exn := ⟨"BadPart", [("what", .str "claim")]⟩
abbrev exModel : Exn := ⟨"Refused", [("reason", .str "model")]⟩
section
variable {cl : Cl} {T M t c own s v : D} {m : List MO} {x : Exn}
theorem sure_yes (h : cl 21 [T] m = .ok (.bl true) m) : fnD 1 (body_sure_text cl) [T] m = .ok .non m := by
  simp [fnD, body_sure_text, R.bind, R.stm, h]
theorem sure_no (h : cl 21 [T] m = .ok (.bl false) m) : fnD 1 (body_sure_text cl) [T] m = .err exText m := by
  simp [fnD, body_sure_text, R.bind, R.stm, h, sRaise]
theorem sc_yes (h1 : cl 22 [T] m = .ok .non m) (h2 : cl 28 [M, T] m = .ok (.bl true) m) : fnD 2 (body_sure_choice cl) [T, M] m = .ok .non m := by
  simp [fnD, body_sure_choice, R.bind, R.stm, sExpr, h1, h2]
theorem sc_text (h1 : cl 22 [T] m = .err x m) : fnD 2 (body_sure_choice cl) [T, M] m = .err x m := by
  simp [fnD, body_sure_choice, R.bind, R.stm, sExpr, h1]
theorem sc_no (h1 : cl 22 [T] m = .ok .non m) (h2 : cl 28 [M, T] m = .ok (.bl false) m) : fnD 2 (body_sure_choice cl) [T, M] m = .err exModel m := by
  simp [fnD, body_sure_choice, R.bind, R.stm, sExpr, h1, h2, sRaise]
theorem va_err (h : cl 39 [T, M] m = .err x m) : fnD 3 (body_value_at cl) [T, M, t] m = .err x m := by
  simp [fnD, body_value_at, R.bind, R.stm, sExpr, h]
theorem va_yes (h : cl 39 [T, M] m = .ok .non m) (h6 : cl 6 [t] m = .ok (.bl true) m) (h18 : cl 18 [T] m = .ok own m) (h14 : cl 14 [own, t] m = .ok s m) (hs : isNonD s = false) (h37 : cl 37 [M, t] m = .ok v m) : fnD 3 (body_value_at cl) [T, M, t] m = .ok v m := by
  simp [fnD, body_value_at, R.bind, R.stm, sExpr, h, h6, h18, h14, hs, h37]
theorem va_bad (h : cl 39 [T, M] m = .ok .non m) (h6 : cl 6 [t] m = .ok (.bl true) m) (h18 : cl 18 [T] m = .ok own m) (h14 : cl 14 [own, t] m = .ok .non m) : fnD 3 (body_value_at cl) [T, M, t] m = .err exTerm m := by
  simp [fnD, body_value_at, R.bind, R.stm, sExpr, h, h6, h18, h14, isNonD, sRaise]
theorem ha_err (h : cl 39 [T, M] m = .err x m) : fnD 3 (body_holds_at cl) [T, M, t] m = .err x m := by
  simp [fnD, body_holds_at, R.bind, R.stm, sExpr, h]
theorem ha_yes (h : cl 39 [T, M] m = .ok .non m) (h6 : cl 6 [c] m = .ok (.bl true) m) (h18 : cl 18 [T] m = .ok own m) (h15 : cl 15 [own, c] m = .ok (.bl true) m) (h38 : cl 38 [M, c] m = .ok v m) : fnD 3 (body_holds_at cl) [T, M, c] m = .ok v m := by
  simp [fnD, body_holds_at, R.bind, R.stm, sExpr, h, h6, h18, h15, h38]
theorem ha_bad (h : cl 39 [T, M] m = .ok .non m) (h6 : cl 6 [c] m = .ok (.bl true) m) (h18 : cl 18 [T] m = .ok own m) (h15 : cl 15 [own, c] m = .ok (.bl false) m) : fnD 3 (body_holds_at cl) [T, M, c] m = .err exClaim m := by
  simp [fnD, body_holds_at, R.bind, R.stm, sExpr, h, h6, h18, h15, sRaise]
def badT (w : String) : D := .tup [.str "bad", .str (PySem.Str.ofString w)]
def refT : D := .tup [.str "refused", .str "model"]
theorem tv_ok (h : cl 40 [T, M, t] m = .ok v m) : fnD 4 (body__law_told_value cl) [T, M, t] m = .ok v m := by
  simp [fnD, body__law_told_value, sTry2, R.bind, h]
theorem tv_bad {w : String} (h : cl 40 [T, M, t] m = .err ⟨"BadPart", [("what", .str (PySem.Str.ofString w))]⟩ m) : fnD 4 (body__law_told_value cl) [T, M, t] m = .ok (badT w) m := by
  simp [fnD, body__law_told_value, sTry2, hRun, R.bind, h, eFld, badT]
theorem tv_ref (h : cl 40 [T, M, t] m = .err exModel m) : fnD 4 (body__law_told_value cl) [T, M, t] m = .ok refT m := by
  simp [fnD, body__law_told_value, sTry2, hRun, R.bind, h, eFld, refT]
theorem tt_ok (h : cl 41 [T, M, t] m = .ok v m) : fnD 4 (body__law_told_truth cl) [T, M, t] m = .ok v m := by
  simp [fnD, body__law_told_truth, sTry2, R.bind, h]
theorem tt_bad {w : String} (h : cl 41 [T, M, t] m = .err ⟨"BadPart", [("what", .str (PySem.Str.ofString w))]⟩ m) : fnD 4 (body__law_told_truth cl) [T, M, t] m = .ok (badT w) m := by
  simp [fnD, body__law_told_truth, sTry2, hRun, R.bind, h, eFld, badT]
theorem tt_ref (h : cl 41 [T, M, t] m = .err exModel m) : fnD 4 (body__law_told_truth cl) [T, M, t] m = .ok refT m := by
  simp [fnD, body__law_told_truth, sTry2, hRun, R.bind, h, eFld, refT]
theorem im_no (h1 : cl 21 [T] m = .ok (.bl true) m) (h2 : cl 28 [M, T] m = .ok (.bl false) m) : fnD 3 (body_is_model cl) [T, M] m = .ok (.bl false) m := by
  simp [fnD, body_is_model, R.bind, R.stm, h1, h2]
theorem im_all {cs : List D} {g : D → Bool} (h1 : cl 21 [T] m = .ok (.bl true) m) (h2 : cl 28 [M, T] m = .ok (.bl true) m) (h3 : ixSq T (.int 3) = some (.tup cs)) (hz : cs.length ≤ 1000) (h : ∀ c ∈ cs, cl 38 [M, c] m = .ok (.bl (g c)) m) : fnD 3 (body_is_model cl) [T, M] m = .ok (.bl (cs.all g)) m := by
  have lc := lc_map (g := fun c => .bl (g c)) (i := 2) (env := [some (.val T), some (.val M), none]) (fe := eFn (fun ds m => if ds.length = 2 then cl 38 ds m else .stuck) (aCons (eLoc 1) (aCons (eLoc 2) aNil))) (m := m) (by simp) rfl cs fun d hd => by
    simp [R.bind, h d hd]
  have a := all_map g cs
  have hz' : cs.length ≤ 16777216 := by omega
  simp [fnD, body_is_model, R.bind, R.stm, h1, h2, h3, lc, a, hz']
end
end K02
end

section
set_option Elab.async false
set_option linter.all false
set_option maxRecDepth 100000
set_option maxHeartbeats 4000000
namespace K02
open PySem PySem.Spec L2 PM
/-! ### what chooses no values -/
def law_wrong_1 (cl : Cl) : S → Rs :=
  (sSet 1 (eLst (aCons (eC .non) (aCons (eTup aNil) (aCons (eC (.int (5))) (aCons (eC (.str "model")) (aCons (eLst (aCons (eLoc 0) aNil)) (aCons (eFrz fDct0) (aCons (eFn (fun ds m => if ds.length = 3 then cl 60 ds m else .stuck) (aCons (eLoc 0) (aCons (eC (.str "zz")) (aCons (eC (.int (0))) aNil)))) (aCons (eFn (fun ds m => if ds.length = 3 then cl 60 ds m else .stuck) (aCons (eLoc 0) (aCons (eC (.str "x")) (aCons (eC (.bl true)) aNil)))) (aCons (eFn (fun ds m => if ds.length = 3 then cl 60 ds m else .stuck) (aCons (eLoc 0) (aCons (eC (.str "x")) (aCons (eOp subD (eC (.int (0))) (eC (.int (1)))) aNil)))) (aCons (eFn (fun ds m => if ds.length = 3 then cl 60 ds m else .stuck) (aCons (eLoc 0) (aCons (eC (.str "x")) (aCons (eC (.str "0")) aNil)))) aNil))))))))))))
def law_wrong_2 (cl : Cl) : S → Rs :=
  (sSet 1 (eOp addD (eLoc 1) (eLst (aCons (eFn (fun ds m => if ds.length = 3 then cl 60 ds m else .stuck) (aCons (eLoc 0) (aCons (eC (.str "x")) (aCons (eC .non) aNil)))) (aCons (eFn (fun ds m => if ds.length = 3 then cl 60 ds m else .stuck) (aCons (eLoc 0) (aCons (eC (.str "x")) (aCons (eTup (aCons (eC (.int (0))) aNil)) aNil)))) (aCons (eFrz (fDict (eFrz (eLc [2] (.nm 2) (iKeysD (eLoc 0)) (eBl (eOp neD (eLoc 2) (eC (.str "x")))) (eTup (aCons (eLoc 2) (aCons (eOp dgetD (eLoc 0) (eLoc 2)) aNil))))))) aNil))))))
def law_wrong_3 (cl : Cl) : S → Rs :=
  (sIf (eBl (eOp inD (eC (.str "s")) (eLoc 0)))
    (sSet 1 (eOp addD (eLoc 1) (eLst (aCons (eFn (fun ds m => if ds.length = 3 then cl 60 ds m else .stuck) (aCons (eLoc 0) (aCons (eC (.str "s")) (aCons (eTup (aCons (eC (.int (1))) (aCons (eC (.int (0))) aNil))) aNil)))) (aCons (eFn (fun ds m => if ds.length = 3 then cl 60 ds m else .stuck) (aCons (eLoc 0) (aCons (eC (.str "s")) (aCons (eTup (aCons (eC (.int (0))) (aCons (eC (.int (0))) aNil))) aNil)))) (aCons (eFn (fun ds m => if ds.length = 3 then cl 60 ds m else .stuck) (aCons (eLoc 0) (aCons (eC (.str "s")) (aCons (eLst (aCons (eC (.int (0))) aNil)) aNil)))) (aCons (eFn (fun ds m => if ds.length = 3 then cl 60 ds m else .stuck) (aCons (eLoc 0) (aCons (eC (.str "s")) (aCons (eTup (aCons (eC (.bl false)) aNil)) aNil)))) (aCons (eFn (fun ds m => if ds.length = 3 then cl 60 ds m else .stuck) (aCons (eLoc 0) (aCons (eC (.str "s")) (aCons (eC (.int (0))) aNil)))) aNil))))))))
    sNil)
def law_wrong_4 (cl : Cl) : S → Rs :=
  (sIf (eBl (eOp inD (eC (.str "l")) (eLoc 0)))
    (sSet 1 (eOp addD (eLoc 1) (eLst (aCons (eFn (fun ds m => if ds.length = 3 then cl 60 ds m else .stuck) (aCons (eLoc 0) (aCons (eC (.str "l")) (aCons (eTup (aCons (eTup (aCons (eC (.int (0))) aNil)) aNil)) aNil)))) (aCons (eFn (fun ds m => if ds.length = 3 then cl 60 ds m else .stuck) (aCons (eLoc 0) (aCons (eC (.str "l")) (aCons (eLst (aCons (eC (.int (0))) aNil)) aNil)))) (aCons (eFn (fun ds m => if ds.length = 3 then cl 60 ds m else .stuck) (aCons (eLoc 0) (aCons (eC (.str "l")) (aCons (eTup (aCons (eC (.int (0))) (aCons (eOp subD (eC (.int (0))) (eC (.int (1)))) aNil))) aNil)))) aNil))))))
    sNil)
def law_wrong_5 (cl : Cl) : S → Rs :=
  (sIf (eBl (eOp inD (eC (.str "f")) (eLoc 0)))
    (sSeq (sSet 1 (eOp addD (eLoc 1) (eLst (aCons (eFn (fun ds m => if ds.length = 3 then cl 60 ds m else .stuck) (aCons (eLoc 0) (aCons (eC (.str "f")) (aCons (eC (.int (0))) aNil)))) (aCons (eFn (fun ds m => if ds.length = 3 then cl 60 ds m else .stuck) (aCons (eLoc 0) (aCons (eC (.str "f")) (aCons (eTup (aCons (eTup (aCons (eTup (aCons (eTup (aCons (eC (.int (0))) aNil)) (aCons (eC (.int (1))) aNil))) (aCons (eTup (aCons (eTup (aCons (eC (.int (0))) aNil)) (aCons (eC (.int (1))) aNil))) aNil))) (aCons (eC (.int (0))) aNil))) aNil)))) (aCons (eFn (fun ds m => if ds.length = 3 then cl 60 ds m else .stuck) (aCons (eLoc 0) (aCons (eC (.str "f")) (aCons (eTup (aCons (eTup (aCons (eTup (aCons (eTup (aCons (eC (.int (1))) aNil)) (aCons (eC (.int (1))) aNil))) (aCons (eTup (aCons (eTup (aCons (eC (.int (0))) aNil)) (aCons (eC (.int (1))) aNil))) aNil))) (aCons (eC (.int (0))) aNil))) aNil)))) aNil))))))
    (sSet 1 (eOp addD (eLoc 1) (eLst (aCons (eFn (fun ds m => if ds.length = 3 then cl 60 ds m else .stuck) (aCons (eLoc 0) (aCons (eC (.str "f")) (aCons (eTup (aCons (eTup (aCons (eTup (aCons (eTup (aCons (eC (.int (0))) (aCons (eC (.int (0))) aNil))) (aCons (eC (.int (1))) aNil))) aNil)) (aCons (eC (.int (0))) aNil))) aNil)))) (aCons (eFn (fun ds m => if ds.length = 3 then cl 60 ds m else .stuck) (aCons (eLoc 0) (aCons (eC (.str "f")) (aCons (eTup (aCons (eTup (aCons (eTup (aCons (eC (.int (0))) (aCons (eC (.int (1))) aNil))) aNil)) (aCons (eC (.int (0))) aNil))) aNil)))) (aCons (eFn (fun ds m => if ds.length = 3 then cl 60 ds m else .stuck) (aCons (eLoc 0) (aCons (eC (.str "f")) (aCons (eTup (aCons (eTup (aCons (eTup (aCons (eTup (aCons (eC (.int (0))) aNil)) (aCons (eC .non) aNil))) aNil)) (aCons (eC (.int (0))) aNil))) aNil)))) (aCons (eFn (fun ds m => if ds.length = 3 then cl 60 ds m else .stuck) (aCons (eLoc 0) (aCons (eC (.str "f")) (aCons (eTup (aCons (eTup aNil) aNil)) aNil)))) aNil))))))))
    sNil)
def law_wrong_6 (cl : Cl) : S → Rs :=
  (sRet (eLoc 1))
theorem law_wrong_parts (cl : Cl) : body__law_wrong cl = sSeq (law_wrong_1 cl) (sSeq (law_wrong_2 cl) (sSeq (law_wrong_3 cl) (sSeq (law_wrong_4 cl) (sSeq (law_wrong_5 cl) (law_wrong_6 cl))))) := rfl
section
variable {ks : List Key} {vs : List D}
def Wf (ks : List Key) (vs : List D) (nm : String) (v : D) : D := .dct (putKs ks (.inr (PySem.Str.ofString nm))) (putVs ks vs (.inr (PySem.Str.ofString nm)) v)
theorem with_ok (nd : ks.Nodup) (hl : ks.length ≤ 1000) (nm : String) (v : D) (k : Nat) (m : List MO) : prog (k + 1) 60 [.dct ks vs, .str (PySem.Str.ofString nm), v] m = .ok (Wf ks vs nm v) m := by
  have hz : ks.length < 16777216 := by omega
  have n1 : nodupK ks = true := by unfold nodupK; simpa using nd
  show fnD 4 (body__law_with (prog k)) _ m = _
  simp [fnD, body__law_with, R.bind, R.stm, sOwn, fDict, PM.sDPut, PM.ownD, keyD, n1, sizeLine_eq, hz, Wf]
end
/-- the step of a test -/
theorem wr1 {k : Nat} {ks : List Key} {vs : List D} {m : List MO} (nd : ks.Nodup) (hl : ks.length ≤ 1000) : law_wrong_1 (prog (k + 1)) ⟨[some (.val (.dct ks vs)), none, none], m⟩ =
    .next ⟨[some (.val (.dct ks vs)), some (.val (.lst [.non, .tup [], .int 5, .str "model", .lst [.dct ks vs], .dct [] [], Wf ks vs "zz" (.int 0), Wf ks vs "x" (.bl true), Wf ks vs "x" (.int (-1)), Wf ks vs "x" (.str "0")])), none], m⟩ := by
  have h := fun nm v => with_ok (ks := ks) (vs := vs) nd hl nm v k m
  simp [law_wrong_1, R.bind, R.stm, h, subD, fDct0]
theorem add_lst {W V : List D} (h : W.length ≤ 1000) (g : V.length ≤ 1000) : addD (.lst W) (.lst V) = some (.lst (W ++ V)) := by
  unfold addD
  simp [sizeLine_eq]; omega
theorem wr3 {k : Nat} {ks : List Key} {vs W : List D} {m : List MO} {b : Bool} {x2 : Option Cell} (nd : ks.Nodup) (hl : ks.length ≤ 1000) (hw : W.length ≤ 500) (hb : inD (.str "s") (.dct ks vs) = some (.bl b)) : law_wrong_3 (prog (k + 1)) ⟨[some (.val (.dct ks vs)), some (.val (.lst W)), x2], m⟩ =
    .next ⟨[some (.val (.dct ks vs)), some (.val (.lst (W ++ if b then [Wf ks vs "s" (.tup [.int 1, .int 0]), Wf ks vs "s" (.tup [.int 0, .int 0]), Wf ks vs "s" (.lst [.int 0]), Wf ks vs "s" (.tup [.bl false]), Wf ks vs "s" (.int 0)] else []))), x2], m⟩ := by
  have h := fun nm v => with_ok (ks := ks) (vs := vs) nd hl nm v k m
  have a := fun V => add_lst (W := W) (V := V) (by omega)
  cases b <;> simp [law_wrong_3, R.bind, R.stm, h, hb, a]
theorem wr4 {k : Nat} {ks : List Key} {vs W : List D} {m : List MO} {b : Bool} {x2 : Option Cell} (nd : ks.Nodup) (hl : ks.length ≤ 1000) (hw : W.length ≤ 500) (hb : inD (.str "l") (.dct ks vs) = some (.bl b)) : law_wrong_4 (prog (k + 1)) ⟨[some (.val (.dct ks vs)), some (.val (.lst W)), x2], m⟩ =
    .next ⟨[some (.val (.dct ks vs)), some (.val (.lst (W ++ if b then [Wf ks vs "l" (.tup [.tup [.int 0]]), Wf ks vs "l" (.lst [.int 0]), Wf ks vs "l" (.tup [.int 0, .int (-1)])] else []))), x2], m⟩ := by
  have h := fun nm v => with_ok (ks := ks) (vs := vs) nd hl nm v k m
  have a := fun V => add_lst (W := W) (V := V) (by omega)
  cases b <;> simp [law_wrong_4, R.bind, R.stm, h, hb, a, subD]
theorem wr5 {k : Nat} {ks : List Key} {vs W : List D} {m : List MO} {b : Bool} {x2 : Option Cell} (nd : ks.Nodup) (hl : ks.length ≤ 1000) (hw : W.length ≤ 500) (hb : inD (.str "f") (.dct ks vs) = some (.bl b)) : law_wrong_5 (prog (k + 1)) ⟨[some (.val (.dct ks vs)), some (.val (.lst W)), x2], m⟩ =
    .next ⟨[some (.val (.dct ks vs)), some (.val (.lst (W ++ if b then [Wf ks vs "f" (.int 0), Wf ks vs "f" (.tup [.tup [.tup [.tup [.int 0], .int 1], .tup [.tup [.int 0], .int 1]], .int 0]), Wf ks vs "f" (.tup [.tup [.tup [.tup [.int 1], .int 1], .tup [.tup [.int 0], .int 1]], .int 0]),
      Wf ks vs "f" (.tup [.tup [.tup [.tup [.int 0, .int 0], .int 1]], .int 0]), Wf ks vs "f" (.tup [.tup [.tup [.int 0, .int 1]], .int 0]), Wf ks vs "f" (.tup [.tup [.tup [.tup [.int 0], .non]], .int 0]), Wf ks vs "f" (.tup [.tup []])] else []))), x2], m⟩ := by
  have h := fun nm v => with_ok (ks := ks) (vs := vs) nd hl nm v k m
  have a := fun V => add_lst (W := W) (V := V) (by omega)
  have a3 := fun X Y Z V => add_lst (W := W ++ [X, Y, Z]) (V := V) (by simp; omega)
  cases b <;> simp [law_wrong_5, R.bind, R.stm, h, hb, a, a3]
/-! the one without x -/
def pairT (q : Row × D) : D := .tup [.str (PySem.Str.ofString q.1.1), q.2]
def notX (q : Row × D) : Bool := decide (q.1.1 ≠ "x")
theorem lc_minus {M : D} {x1 : Option Cell} {m : List MO} (h1 : ∀ o, x1 ≠ some (.own o)) : ∀ (L : Md), (∀ q ∈ L, dgetD M (.str (PySem.Str.ofString q.1.1)) = some q.2) → lcItems [2] (.nm 2) (eBl (eOp neD (eLoc 2) (eC (.str "x")))) (eTup (aCons (eLoc 2) (aCons (eOp dgetD (eLoc 0) (eLoc 2)) aNil))) (L.map fun q => keyToD (rkey q.1)) ⟨[some (.val M), x1, none], m⟩ =
    .ok ((L.filter notX).map pairT) ⟨[some (.val M), x1, none], m⟩
  | [], _ => rfl
  | q :: L, h => by
    have ih := lc_minus (m := m) h1 L fun p hp => h p (List.mem_cons_of_mem _ hp)
    have hg := h q (List.mem_cons_self ..)
    have nown : noOwn [some (.val M), x1, none] [2] = true := rfl
    rw [List.map_cons, List.filter_cons]
    by_cases hx : q.1.1 = "x"
    · have e : notX q = false := by unfold notX; simp [hx]
      rw [e, if_neg Bool.false_ne_true, ← ih]
      conv => lhs; unfold lcItems
      simp [nown, tgD, wipeE, restE, keyToD, rkey, R.bind, hx]
    · have e : notX q = true := by unfold notX; simp [hx]
      rw [e, if_pos rfl, List.map_cons]
      simp only [keyToD, rkey] at ih
      unfold lcItems
      simp [nown, tgD, wipeE, restE, keyToD, rkey, R.bind, hx, hg, ih, pairT]
theorem kPairs_new : ∀ (L : Md) (ks : List Key) (vs : List D), ks.length = vs.length → (∀ q ∈ L, rkey q.1 ∉ ks) → ((L.map (·.1)).map (·.1)).Nodup → kPairs (L.map pairT) ks vs = some (ks ++ L.map (fun q => rkey q.1), vs ++ L.map (·.2))
  | [], ks, vs, _, _, _ => by simp [kPairs]
  | q :: L, ks, vs, hl, hn, nd => by
    simp only [List.map_cons, List.nodup_cons] at nd
    have h0 := hn q (List.mem_cons_self ..)
    have e : kPairs ((q :: L).map pairT) ks vs = kPairs (L.map pairT) (putKs ks (rkey q.1)) (putVs ks vs (rkey q.1) q.2) := rfl
    rw [e, putKs_new h0, putVs_new h0 hl, kPairs_new L _ _ (by simp [hl]) (fun p hp hm => ?_) nd.2]
    · simp
    · rcases List.mem_append.mp hm with hm | hm
      · exact hn p (List.mem_cons_of_mem _ hp) hm
      · rw [List.mem_singleton] at hm
        unfold rkey at hm
        simp only [Sum.inr.injEq, so_inj] at hm
        exact nd.1 (hm ▸ List.mem_map_of_mem (List.mem_map_of_mem hp))
theorem wr2 {k : Nat} {ms : Md} {W : List D} {m : List MO} (nd : ((ms.map (·.1)).map (·.1)).Nodup) (ndk : (ms.map fun q => rkey q.1).Nodup) (hl : ms.length ≤ 100) (hw : W.length ≤ 500) (hg : ∀ q ∈ ms, dgetD (mdD ms) (.str (PySem.Str.ofString q.1.1)) = some q.2) : law_wrong_2 (prog (k + 1)) ⟨[some (.val (mdD ms)), some (.val (.lst W)), none], m⟩ =
    .next ⟨[some (.val (mdD ms)), some (.val (.lst (W ++ [Wf (ms.map fun q => rkey q.1) (ms.map (·.2)) "x" .non, Wf (ms.map fun q => rkey q.1) (ms.map (·.2)) "x" (.tup [.int 0]), mdD (ms.filter notX)]))), none], m⟩ := by
  have h := fun nm v => with_ok (ks := ms.map fun q => rkey q.1) (vs := ms.map (·.2)) ndk (by rw [List.length_map]; omega) nm v k m
  have a := fun V => add_lst (W := W) (V := V) (by omega)
  have lc := lc_minus (M := mdD ms) (x1 := some (.val (.lst W))) (m := m) (fun o z => by cases z) ms hg
  have ndf : (((ms.filter notX).map (·.1)).map (·.1)).Nodup := by
    have : ((ms.filter notX).map (·.1)).map (·.1) = (ms.filter notX).map fun q => q.1.1 := by rw [List.map_map]; rfl
    rw [this]
    have e : (ms.map (·.1)).map (·.1) = ms.map fun q => q.1.1 := by rw [List.map_map]; rfl
    rw [e] at nd
    exact nd.sublist (List.Sublist.map _ (List.filter_sublist ..))
  have kp := kPairs_new (ms.filter notX) [] [] rfl (fun _ _ h => nomatch h) ndf
  rw [List.nil_append, List.nil_append] at kp
  have hz : ms.length ≤ 16777216 := by omega
  have ik : (iKeysD (eLoc 0)) ⟨[some (.val (mdD ms)), some (.val (.lst W)), none], m⟩ = .ok (ms.map fun q => keyToD (rkey q.1)) ⟨[some (.val (mdD ms)), some (.val (.lst W)), none], m⟩ := by
    simp [iKeysD, mdD, R.bind, Function.comp_def]
  have eM : D.dct (ms.map fun q => rkey q.1) (ms.map (·.2)) = mdD ms := rfl
  rw [eM] at h
  have hf : (fDict (eFrz (eLc [2] (.nm 2) (iKeysD (eLoc 0)) (eBl (eOp neD (eLoc 2) (eC (.str "x")))) (eTup (aCons (eLoc 2) (aCons (eOp dgetD (eLoc 0) (eLoc 2)) aNil)))))) ⟨[some (.val (mdD ms)), some (.val (.lst W)), none], m⟩ = .ok (.dct ((ms.filter notX).map fun q => rkey q.1) ((ms.filter notX).map (·.2))) ⟨[some (.val (mdD ms)), some (.val (.lst W)), none], m⟩ := by
    unfold fDict
    simp only [ev_frz, ev_lc, ik, R.bind]
    have fw : few (ms.map fun q => keyToD (rkey q.1)) = true := by simp; omega
    rw [if_pos fw]
    simp only [lc, R.bind, ev_toDl, kp]
  have eN : D.dct ((ms.filter notX).map fun q => rkey q.1) ((ms.filter notX).map (·.2)) = mdD (ms.filter notX) := rfl
  rw [← eN]
  generalize mdD ms = M at h lc ik hf ⊢
  simp [law_wrong_2, R.bind, R.stm, h, hf, a]
end K02
end

section
set_option Elab.async false
set_option linter.all false
set_option maxRecDepth 100000
set_option maxHeartbeats 4000000
namespace K02
open PySem PySem.Spec L2 PM
def repl (ms : Md) (nm : String) (v : D) : Md := ms.map fun q => if q.1.1 = nm then (q.1, v) else q
theorem repl_rows (ms : Md) (nm : String) (v : D) : (repl ms nm v).map (·.1) = ms.map (·.1) := by
  unfold repl
  rw [List.map_map]
  apply List.map_congr_left
  intro q _
  show (if q.1.1 = nm then (q.1, v) else q).1 = q.1
  split <;> rfl
theorem repl_out {nm : String} {v : D} : ∀ {ms : Md}, nm ∉ (ms.map (·.1)).map (·.1) → repl ms nm v = ms
  | [], _ => rfl
  | q :: ms, h => by
    simp only [List.map_cons, List.mem_cons, not_or] at h
    unfold repl
    rw [List.map_cons, if_neg (fun z => h.1 z.symm)]
    congr 1
    exact repl_out h.2
theorem rkey_eq {q : Row} {nm : String} : (rkey q = Sum.inr (PySem.Str.ofString nm)) ↔ q.1 = nm := by
  unfold rkey
  constructor
  · intro h; simpa using h
  · intro h; rw [h]
theorem putVs_repl {nm : String} {v : D} : ∀ {ms : Md}, ((ms.map (·.1)).map (·.1)).Nodup → nm ∈ (ms.map (·.1)).map (·.1) → putVs (ms.map fun q => rkey q.1) (ms.map (·.2)) (.inr (PySem.Str.ofString nm)) v = (repl ms nm v).map (·.2)
  | [], _, h => by cases h
  | q :: ms, nd, h => by
    simp only [List.map_cons, List.nodup_cons, List.mem_cons] at nd h
    by_cases hq : q.1.1 = nm
    · have e : putVs ((q :: ms).map fun q => rkey q.1) ((q :: ms).map (·.2)) (.inr (PySem.Str.ofString nm)) v = v :: ms.map (·.2) := by
        simp [putVs, rkey_eq.mpr hq]
      have e2 : repl (q :: ms) nm v = (q.1, v) :: ms := by
        unfold repl
        rw [List.map_cons, if_pos hq]
        congr 1
        exact repl_out (v := v) (by rw [← hq]; exact nd.1)
      rw [e, e2]; rfl
    · have hn : ¬ rkey q.1 = Sum.inr (PySem.Str.ofString nm) := fun z => hq (rkey_eq.mp z)
      have e : putVs ((q :: ms).map fun q => rkey q.1) ((q :: ms).map (·.2)) (.inr (PySem.Str.ofString nm)) v = q.2 :: putVs (ms.map fun q => rkey q.1) (ms.map (·.2)) (.inr (PySem.Str.ofString nm)) v := by
        simp [putVs, hn]
      have e2 : repl (q :: ms) nm v = q :: repl ms nm v := by
        unfold repl
        rw [List.map_cons, if_neg hq]
      rw [e, e2, putVs_repl nd.2 (h.resolve_left fun z => hq z.symm)]; rfl
theorem key_mem {ms : Md} {nm : String} : (Sum.inr (PySem.Str.ofString nm) : Key) ∈ (ms.map fun q => rkey q.1) ↔ nm ∈ (ms.map (·.1)).map (·.1) := by
  simp only [List.mem_map]
  constructor
  · rintro ⟨q, hq, e⟩; exact ⟨q.1, ⟨q, hq, rfl⟩, rkey_eq.mp e⟩
  · rintro ⟨r, ⟨q, hq, rfl⟩, e⟩; exact ⟨q, hq, rkey_eq.mpr e⟩
theorem putKs_old {ks : List Key} {k : Key} (h : k ∈ ks) : putKs ks k = ks := by
  unfold putKs
  rw [if_pos]
  simp [h]
theorem wf_in {ms : Md} {nm : String} {v : D} (nd : ((ms.map (·.1)).map (·.1)).Nodup) (h : nm ∈ (ms.map (·.1)).map (·.1)) : Wf (ms.map fun q => rkey q.1) (ms.map (·.2)) nm v = mdD (repl ms nm v) := by
  unfold Wf mdD
  rw [putKs_old (key_mem.mpr h), putVs_repl nd h]
  have : (repl ms nm v).map (fun q => rkey q.1) = ms.map fun q => rkey q.1 := by
    have := congrArg (fun l => l.map rkey) (repl_rows ms nm v)
    simp only [List.map_map] at this
    exact this
  rw [this]
/-- none of them chooses values for these unknowns -/
def Bad (rows : List Row) (d : D) : Prop := ∀ (j : Nat) (cs : List D) (m : List MO), 12 ≤ j → prog j 28 [d, textD rows cs] m = .ok (.bl false) m
theorem bad_nodict {rows : List Row} {d : D} (h : isiD .dict d = some false) : Bad rows d := fun j cs m hj => by
  obtain ⟨i, rfl⟩ : ∃ i, j = i + 1 := ⟨j - 1, by omega⟩
  exact choice_nodict h m
theorem bad_len {rows : List Row} {ks : List Key} {vs : List D} (h : ks.length ≠ rows.length) : Bad rows (.dct ks vs) := fun j cs m hj => by
  obtain ⟨i, rfl⟩ : ∃ i, j = i + 1 := ⟨j - 1, by omega⟩
  exact choice_len (n := ks.length) rfl rfl (by omega) m
theorem bad_repl {ms : Md} (hm : MdOk ms) {r : Row} (hr : r ∈ ms.map (·.1)) {v : D} (hc : ∀ k, ChkOk (k + 6) r v false) : Bad (ms.map (·.1)) (Wf (ms.map fun q => rkey q.1) (ms.map (·.2)) r.1 v) := fun j cs m hj => by
  have nd := names_nd hm.sub
  rw [wf_in nd (List.mem_map_of_mem hr)]
  obtain ⟨i, rfl⟩ : ∃ i, j = i + 7 := ⟨j - 7, by omega⟩
  have hz := hm.sub.length_le
  have h13 : allRows.length = 13 := rfl
  have nd' : (((repl ms r.1 v).map (·.1)).map (·.1)).Nodup := by rw [repl_rows]; exact nd
  have e := choice_gen (k := i + 6) (M := mdD (repl ms r.1 v)) (rows := ms.map (·.1)) (cs := cs) (g := fun q => decide (q.1 ≠ r.1)) rfl (by show some (D.int (((repl ms r.1 v).map fun q => rkey q.1).length)) = _; simp [repl]) (fun q hq => by
    have hq' : q ∈ (repl ms r.1 v).map (·.1) := by rw [repl_rows]; exact hq
    obtain ⟨p, hp, rfl⟩ := List.mem_map.mp hq'
    refine ⟨p.2, md_nin (List.mem_map_of_mem hp) nd', md_get nd' hp, ?_⟩
    unfold repl at hp
    obtain ⟨p0, hp0, e⟩ := List.mem_map.mp hp
    by_cases hn : p0.1.1 = r.1
    · rw [if_pos hn] at e
      subst e
      have : decide (p0.1.1 ≠ r.1) = false := by simp [hn]
      rw [this]
      have er : p0.1 = r := by
        have h1 : p0.1 ∈ ms.map (·.1) := List.mem_map_of_mem hp0
        have : ∀ {l : List Row} {a b : Row}, (l.map (·.1)).Nodup → a ∈ l → b ∈ l → a.1 = b.1 → a = b := by
          intro l a b nd ha hb e
          induction l with
          | nil => cases ha
          | cons c l ih =>
            simp only [List.map_cons, List.nodup_cons] at nd
            rcases List.mem_cons.mp ha with e1 | ha'
            · rcases List.mem_cons.mp hb with e2 | hb'
              · rw [e1, e2]
              · exact absurd (by rw [← e1, e]; exact List.mem_map_of_mem hb') nd.1
            · rcases List.mem_cons.mp hb with e2 | hb'
              · exact absurd (by rw [← e2, ← e]; exact List.mem_map_of_mem ha') nd.1
              · exact ih nd.2 ha' hb'
        exact this nd h1 hr hn
      rw [er]; exact hc i
    · rw [if_neg hn] at e
      subst e
      have : decide (p0.1.1 ≠ r.1) = true := by simp [hn]
      rw [this]
      exact chk_ok (hm.sub.subset (List.mem_map_of_mem hp0)) (hm.ok p0 hp0) (i + 1)) (by omega) m
  have hf : (ms.map (·.1)).all (fun q => decide (q.1 ≠ r.1)) = false := by
    rw [List.all_eq_false]
    exact ⟨r, hr, by simp⟩
  rw [hf] at e
  exact e
/-! the checks that fail -/
def rowS : Row := ("s", [], sS)
def rowL : Row := ("l", [], sL)
def rowF : Row := ("f", [sA], sA)
theorem chk_val {k : Nat} {r : Row} {v : D} (hp : r.2.1 = []) (h : ∀ m, prog k 25 [v, r.2.2] m = .ok (.bl false) m) : ChkOk k r v false := fun m => by rw [if_pos hp]; exact h m
theorem bad_x : ∀ v ∈ [D.bl true, .int (-1), .str "0", .non, .tup [.int 0]], ∀ k, ChkOk (k + 6) xRow v false := by
  intro v hv k
  simp only [List.mem_cons, List.not_mem_nil, or_false] at hv
  refine chk_val rfl fun m => ?_
  rcases hv with rfl | rfl | rfl | rfl | rfl <;> kernel_rfl
theorem bad_s : ∀ v ∈ [D.tup [.int 1, .int 0], .tup [.int 0, .int 0], .lst [.int 0], .tup [.bl false], .int 0], ∀ k, ChkOk (k + 6) rowS v false := by
  intro v hv k
  simp only [List.mem_cons, List.not_mem_nil, or_false] at hv
  refine chk_val rfl fun m => ?_
  rcases hv with rfl | rfl | rfl | rfl | rfl <;> kernel_rfl
theorem bad_l : ∀ v ∈ [D.tup [.tup [.int 0]], .lst [.int 0], .tup [.int 0, .int (-1)]], ∀ k, ChkOk (k + 6) rowL v false := by
  intro v hv k
  simp only [List.mem_cons, List.not_mem_nil, or_false] at hv
  refine chk_val rfl fun m => ?_
  rcases hv with rfl | rfl | rfl <;> kernel_rfl
theorem bad_f : ∀ v ∈ [D.int 0, .tup [.tup [.tup [.tup [.int 0], .int 1], .tup [.tup [.int 0], .int 1]], .int 0], .tup [.tup [.tup [.tup [.int 1], .int 1], .tup [.tup [.int 0], .int 1]], .int 0],
      .tup [.tup [.tup [.tup [.int 0, .int 0], .int 1]], .int 0], .tup [.tup [.tup [.int 0, .int 1]], .int 0], .tup [.tup [.tup [.tup [.int 0], .non]], .int 0], .tup [.tup []]], ∀ k, ChkOk (k + 6) rowF v false := by
  intro v hv k m
  simp only [List.mem_cons, List.not_mem_nil, or_false] at hv
  rw [if_neg (by simp [rowF])]
  rcases hv with rfl | rfl | rfl | rfl | rfl | rfl | rfl <;> kernel_rfl
theorem in_dct {ms : Md} (nm : String) (nd : ((ms.map (·.1)).map (·.1)).Nodup) : ∃ b, inD (.str (PySem.Str.ofString nm)) (mdD ms) = some (.bl b) ∧ (b = true → nm ∈ (ms.map (·.1)).map (·.1)) := by
  refine ⟨(getP (ms.map fun q => rkey q.1) (ms.map (·.2)) (.inr (PySem.Str.ofString nm))).isSome, rfl, fun h => ?_⟩
  by_cases hn : nm ∈ (ms.map (·.1)).map (·.1)
  · exact hn
  · exfalso
    have : ∀ {l : Md}, nm ∉ (l.map (·.1)).map (·.1) → getP (l.map fun q => rkey q.1) (l.map (·.2)) (.inr (PySem.Str.ofString nm)) = none := by
      intro l
      induction l with
      | nil => intro _; rfl
      | cons q l ih =>
        intro h
        simp only [List.map_cons, List.mem_cons, not_or] at h
        have ne : ¬ rkey q.1 = Sum.inr (PySem.Str.ofString nm) := fun z => h.1 (rkey_eq.mp z).symm
        have ih := ih h.2
        simp only [getP, List.map_cons, List.zip_cons_cons, List.find?_cons, decide_eq_false ne] at ih ⊢
        exact ih
    rw [this hn] at h
    cases h
theorem row_named {rows : List Row} (hsub : rows.Sublist allRows) {nm : String} {r : Row} (hr : r ∈ allRows) (hn : r.1 = nm) (h : nm ∈ rows.map (·.1)) : r ∈ rows := by
  obtain ⟨q, hq, e⟩ := List.mem_map.mp h
  have h1 := hsub.subset hq
  have : ∀ a ∈ allRows, ∀ b ∈ allRows, a.1 = b.1 → a = b := by
    intro a ha b hb e
    simp only [allRows, List.mem_cons, List.not_mem_nil, or_false] at ha hb
    rcases ha with rfl | rfl | rfl | rfl | rfl | rfl | rfl | rfl | rfl | rfl | rfl | rfl | rfl <;>
      rcases hb with rfl | rfl | rfl | rfl | rfl | rfl | rfl | rfl | rfl | rfl | rfl | rfl | rfl <;> first | rfl | (exact absurd e (by decide))
  rw [this r hr q h1 (hn.trans e.symm)]
  exact hq
theorem keys_nd {ms : Md} (nd : ((ms.map (·.1)).map (·.1)).Nodup) : (ms.map fun q => rkey q.1).Nodup := by
  have : (ms.map fun q => rkey q.1) = ((ms.map (·.1)).map (·.1)).map fun n => (Sum.inr (PySem.Str.ofString n) : Key) := by
    rw [List.map_map, List.map_map]; rfl
  rw [this]
  refine List.Pairwise.map _ (fun a b h => ?_) nd
  simpa using h
abbrev kM (ms : Md) : List Key := ms.map fun q => rkey q.1
abbrev vM (ms : Md) : List D := ms.map (·.2)
theorem wrong_ok {ms : Md} {e0 : D} {rest : Md} (hms : ms = (xRow, e0) :: rest) (hm : MdOk ms) (k : Nat) (m : List MO) : ∃ W, prog (k + 2) 61 [mdD ms] m = .ok (.lst W) m ∧ W ≠ [] ∧ ∀ d ∈ W, Bad (ms.map (·.1)) d := by
  have nd := names_nd hm.sub
  have ndk := keys_nd nd
  have hz := hm.sub.length_le
  have h13 : allRows.length = 13 := rfl
  rw [List.length_map] at hz
  have hkl : (ms.map fun q => rkey q.1).length ≤ 1000 := by rw [List.length_map]; omega
  obtain ⟨bs, es, hs⟩ := in_dct "s" nd
  obtain ⟨bl, el, hl⟩ := in_dct "l" nd
  obtain ⟨bf, ef, hf⟩ := in_dct "f" nd
  have hx : xRow ∈ ms.map (·.1) := by rw [hms]; simp
  -- the five steps
  have s1 := wr1 (k := k) (ks := kM ms) (vs := vM ms) (m := m) ndk hkl
  generalize hW1 : [D.non, .tup [], .int 5, .str "model", .lst [.dct (ms.map fun q => rkey q.1) (ms.map (·.2))], .dct [] [], Wf (ms.map fun q => rkey q.1) (ms.map (·.2)) "zz" (.int 0), Wf (ms.map fun q => rkey q.1) (ms.map (·.2)) "x" (.bl true), Wf (ms.map fun q => rkey q.1) (ms.map (·.2)) "x" (.int (-1)), Wf (ms.map fun q => rkey q.1) (ms.map (·.2)) "x" (.str "0")] = W1 at s1
  have l1 : W1.length = 10 := by rw [← hW1]; rfl
  have s2 := wr2 (k := k) (ms := ms) (W := W1) (m := m) nd ndk (by omega) (by omega) fun q hq => md_get nd hq
  generalize hW2 : W1 ++ [Wf (ms.map fun q => rkey q.1) (ms.map (·.2)) "x" .non, Wf (ms.map fun q => rkey q.1) (ms.map (·.2)) "x" (.tup [.int 0]), mdD (ms.filter notX)] = W2 at s2
  have l2 : W2.length = 13 := by rw [← hW2, List.length_append, l1]; rfl
  have s3 := wr3 (k := k) (ks := kM ms) (vs := vM ms) (W := W2) (m := m) (x2 := none) ndk hkl (by omega) es
  generalize hW3 : W2 ++ _ = W3 at s3
  have l3 : W3.length ≤ 18 := by rw [← hW3, List.length_append, l2]; split <;> simp
  have s4 := wr4 (k := k) (ks := kM ms) (vs := vM ms) (W := W3) (m := m) (x2 := none) ndk hkl (by omega) el
  generalize hW4 : W3 ++ _ = W4 at s4
  have l4 : W4.length ≤ 21 := by rw [← hW4, List.length_append]; split <;> simp <;> omega
  have s5 := wr5 (k := k) (ks := kM ms) (vs := vM ms) (W := W4) (m := m) (x2 := none) ndk hkl (by omega) ef
  generalize hW5 : W4 ++ _ = W5 at s5
  refine ⟨W5, ?_, ?_, fun d hd => ?_⟩
  · have eM : D.dct (ms.map fun q => rkey q.1) (ms.map (·.2)) = mdD ms := rfl
    rw [eM] at s1 s3 s4 s5
    show fnD 3 (body__law_wrong (prog (k + 1))) [mdD ms] m = _
    rw [law_wrong_parts]
    generalize mdD ms = M at s1 s2 s3 s4 s5 ⊢
    simp [fnD, s1, s2, s3, s4, s5, law_wrong_6, R.stm]
  · intro z
    have := congrArg List.length hW5
    rw [List.length_append, z, List.length_nil] at this
    have h4 := congrArg List.length hW4
    have h3 := congrArg List.length hW3
    rw [List.length_append] at h4 h3
    omega
  · have bx : ∀ v ∈ [D.bl true, .int (-1), .str "0", .non, .tup [.int 0]], Bad (ms.map (·.1)) (Wf (ms.map fun q => rkey q.1) (ms.map (·.2)) "x" v) := fun v hv => bad_repl hm (r := xRow) hx (bad_x v hv)
    have lenk : (ms.map fun q => rkey q.1).length = (ms.map (·.1)).length := by simp
    rw [← hW5] at hd
    rcases List.mem_append.mp hd with hd | hd
    · rw [← hW4] at hd
      rcases List.mem_append.mp hd with hd | hd
      · rw [← hW3] at hd
        rcases List.mem_append.mp hd with hd | hd
        · rw [← hW2] at hd
          rcases List.mem_append.mp hd with hd | hd
          · rw [← hW1] at hd
            simp only [List.mem_cons, List.not_mem_nil, or_false] at hd
            rcases hd with rfl | rfl | rfl | rfl | rfl | rfl | rfl | rfl | rfl | rfl
            · exact bad_nodict rfl
            · exact bad_nodict rfl
            · exact bad_nodict rfl
            · exact bad_nodict rfl
            · exact bad_nodict rfl
            · refine bad_len ?_
              rw [hms]; simp
            · have hzz : (Sum.inr (PySem.Str.ofString "zz") : Key) ∉ (ms.map fun q => rkey q.1) := fun z => by
                have := key_mem.mp z
                obtain ⟨r, hr, e⟩ := List.mem_map.mp this
                have ha := hm.sub.subset hr
                simp only [allRows, List.mem_cons, List.not_mem_nil, or_false] at ha
                rcases ha with rfl | rfl | rfl | rfl | rfl | rfl | rfl | rfl | rfl | rfl | rfl | rfl | rfl <;> exact absurd e (by decide)
              unfold Wf
              refine bad_len ?_
              rw [putKs_new hzz]
              simp
            · exact bx _ (by simp)
            · exact bx _ (by simp)
            · exact bx _ (by simp)
          · simp only [List.mem_cons, List.not_mem_nil, or_false] at hd
            rcases hd with rfl | rfl | rfl
            · exact bx _ (by simp)
            · exact bx _ (by simp)
            · refine bad_len ?_
              have : ms.filter notX = rest.filter notX := by
                rw [hms, List.filter_cons, if_neg]
                simp [notX, xRow]
              rw [this, List.length_map, List.length_map, hms]
              have := List.length_filter_le notX rest
              simp only [List.length_cons]
              omega
        · cases bs with
          | false => simp at hd
          | true =>
            have hr := row_named hm.sub (r := rowS) (by simp [allRows, rowS]) rfl (hs rfl)
            rw [if_pos rfl] at hd
            simp only [List.mem_cons, List.not_mem_nil, or_false] at hd
            rcases hd with rfl | rfl | rfl | rfl | rfl <;> exact bad_repl hm (r := rowS) hr (bad_s _ (by simp))
      · cases bl with
        | false => simp at hd
        | true =>
          have hr := row_named hm.sub (r := rowL) (by simp [allRows, rowL]) rfl (hl rfl)
          rw [if_pos rfl] at hd
          simp only [List.mem_cons, List.not_mem_nil, or_false] at hd
          rcases hd with rfl | rfl | rfl <;> exact bad_repl hm (r := rowL) hr (bad_l _ (by simp))
    · cases bf with
      | false => simp at hd
      | true =>
        have hr := row_named hm.sub (r := rowF) (by simp [allRows, rowF]) rfl (hf rfl)
        rw [if_pos rfl] at hd
        simp only [List.mem_cons, List.not_mem_nil, or_false] at hd
        rcases hd with rfl | rfl | rfl | rfl | rfl | rfl | rfl <;> exact bad_repl hm (r := rowF) hr (bad_f _ (by simp))
end K02
end

section
set_option Elab.async false
set_option linter.all false
set_option maxRecDepth 100000
set_option maxHeartbeats 4000000
namespace K02
open PySem PySem.Spec L2 PM
/-! ### drawn values -/
def ValueOk (dg : List Int) (F : Fd) : Prop := ∀ (b : Nat) (m : List MO) (s : D), S3 s → Bx dg b m → b < 2 ^ 57 → ∃ v m', F [.ref 0, s, .int 3] m = .ok v m' ∧ Val 2 s v ∧ Bx dg (b + 3) m'
def ThingOk (dg : List Int) (F : Fd) : Prop := ∀ (b : Nat) (m : List MO), Bx dg b m → b < 2 ^ 58 → ∃ (i : Int) (m' : List MO), F [.ref 0, sA, .int 3] m = .ok (.int i) m' ∧ 0 ≤ i ∧ i < 3 ∧ Bx dg (b + 1) m'
theorem thing_ok {dg : List Int} {cl : Cl} (hd : DrawOk dg (cl 45)) : ThingOk dg (fnD 6 (body__law_value cl)) := by
  intro b m B hb
  obtain ⟨v, m', e, h1, h2, B'⟩ := hd b m 3 B (by omega) (by decide)
  refine ⟨v, m', ?_, h1, h2, B'⟩
  simp [fnD, body__law_value, R.bind, R.stm, sA, e]
theorem lc_things {dg : List Int} {F : Fd} (ht : ThingOk dg F) {s e : D} (hs : ixSq s (.int 1) = some sA) {x3 x5 : Option Cell} : ∀ (ds : List D) (b : Nat) (m : List MO), Bx dg b m → b + ds.length < 2 ^ 58 →
    ∃ ys m', lcItems [4] (.nm 4) tYesD (eFn (fun ds m => if ds.length = 3 then F ds m else .stuck) (aCons (eLoc 0) (aCons (eOp ixSq (eLoc 1) (eC (.int (1)))) (aCons (eLoc 2) aNil)))) ds ⟨[some (.val (.ref 0)), some (.val s), some (.val (.int 3)), x3, none, x5], m⟩ = .ok (ys.map .int) ⟨[some (.val (.ref 0)), some (.val s), some (.val (.int 3)), x3, none, x5], m'⟩ ∧ In3 ys ∧ ys.length = ds.length ∧ Bx dg (b + ds.length) m'
  | [], b, m, B, _ => ⟨[], m, rfl, (fun _ h => nomatch h), rfl, B⟩
  | d :: ds, b, m, B, hb => by
    simp only [List.length_cons] at hb ⊢
    obtain ⟨i, m1, e1, h1, h2, B1⟩ := ht b m B (by omega)
    obtain ⟨ys, m2, e2, q1, q2, B2⟩ := lc_things (e := e) ht hs (x3 := x3) (x5 := x5) ds (b + 1) m1 B1 (by omega)
    have nown : noOwn [some (.val (.ref 0)), some (.val s), some (.val (.int 3)), x3, none, x5] [4] = true := rfl
    refine ⟨i :: ys, m2, ?_, fun x hx => ?_, by simp [q2], B2.mono (by omega)⟩
    · unfold lcItems
      simp [nown, tgD, wipeE, restE, R.bind, hs, e1, e2]
    · rcases List.mem_cons.mp hx with rfl | hx
      · exact ⟨h1, h2⟩
      · exact q1 x hx
def valRet : S → Rs := (sRet (eIf (eBl (eOp eqD (eOp ixSq (eLoc 1) (eC (.int (0)))) (eC (.str "list")))) (eCall tupleD (aCons (eLoc 3) aNil)) (eCall tupleD (aCons (eCall sorted2D (aCons (eFrz (fDict (eFrz (eLc [5] (.nm 5) (iAny (eLoc 3)) tYesD (eTup (aCons (eLoc 5) (aCons (eC (.int (1))) aNil))))))) aNil)) aNil))))
theorem ret_list {x0 x2 x4 x5 : Option Cell} {xs : List D} {m : List MO} : valRet ⟨[x0, some (.val sL), x2, some (.val (.lst xs)), x4, x5], m⟩ = .ret (.tup xs) ⟨[x0, some (.val sL), x2, some (.val (.lst xs)), x4, x5], m⟩ := by
  simp [valRet, sL, R.bind, R.stm, tupleD]
theorem ret_set {x0 x2 : Option Cell} {ys : List Int} (h3 : In3 ys) (hl : ys.length ≤ 2) {m : List MO} : ∃ n, n < 8 ∧ valRet ⟨[x0, some (.val sS), x2, some (.val (.lst (ys.map .int))), none, none], m⟩ = .ret (s8 n) ⟨[x0, some (.val sS), x2, some (.val (.lst (ys.map .int))), none, none], m⟩ := by
  match ys, h3, hl with
  | [], _, _ => exact ⟨0, by omega, by kernel_rfl⟩
  | [i], h, _ =>
    obtain ⟨a, b⟩ := h i (by simp)
    rcases three_int a b with rfl | rfl | rfl
    · exact ⟨1, by omega, by kernel_rfl⟩
    · exact ⟨2, by omega, by kernel_rfl⟩
    · exact ⟨4, by omega, by kernel_rfl⟩
  | [i, j], h, _ =>
    obtain ⟨a, b⟩ := h i (by simp)
    obtain ⟨c, d⟩ := h j (by simp)
    rcases three_int a b with rfl | rfl | rfl <;> rcases three_int c d with rfl | rfl | rfl
    · exact ⟨1, by omega, by kernel_rfl⟩
    · exact ⟨3, by omega, by kernel_rfl⟩
    · exact ⟨5, by omega, by kernel_rfl⟩
    · exact ⟨3, by omega, by kernel_rfl⟩
    · exact ⟨2, by omega, by kernel_rfl⟩
    · exact ⟨6, by omega, by kernel_rfl⟩
    · exact ⟨5, by omega, by kernel_rfl⟩
    · exact ⟨6, by omega, by kernel_rfl⟩
    · exact ⟨4, by omega, by kernel_rfl⟩
theorem value_ok {dg : List Int} {cl : Cl} (hd : DrawOk dg (cl 45)) (ht : ThingOk dg (cl 55)) : ValueOk dg (fnD 6 (body__law_value cl)) := by
  intro b m s hs B hb
  rcases hs with rfl | hs
  · obtain ⟨i, m', e, h1, h2, B'⟩ := thing_ok hd b m B (by omega)
    exact ⟨.int i, m', e, .th h1 h2, B'.mono (by omega)⟩
  · obtain ⟨v, m1, ev, h0, h1, B1⟩ := hd b m 3 B (by omega) (by decide)
    have hlr : (rangeD 0 v.toNat).length = v.toNat := by simp [rangeD]
    have hs1 : ixSq s (.int 1) = some sA := by rcases hs with rfl | rfl <;> simp [sL, sS]
    obtain ⟨ys, m2, e2, q1, q2, B2⟩ := lc_things (e := s) ht hs1 (x3 := none) (x5 := none) (rangeD 0 v.toNat) (b + 1) m1 B1 (by rw [hlr]; omega)
    have hyl : ys.length ≤ 2 := by rw [q2, hlr]; omega
    have sm : small62 v = true := by unfold small62; simp; omega
    have f1 : v ≤ 16777216 := by omega
    have f2 : v.toNat ≤ 16777216 := by omega
    have first : ∀ {d : D} {env : List (Option Cell)} , valRet ⟨[some (.val (.ref 0)), some (.val s), some (.val (.int 3)), some (.val (.lst (ys.map .int))), none, none], m2⟩ = .ret d ⟨env, m2⟩ → fnD 6 (body__law_value cl) [.ref 0, s, .int 3] m = .ok d m2 := by
      intro d env h
      unfold valRet at h
      rcases hs with rfl | rfl
      · simp only [sL] at h e2 ⊢
        simp [fnD, body__law_value, R.bind, R.stm, ev, iArgs, rng1, sm, hlr, f1, f2, e2] at h ⊢
        rw [h]
      · simp only [sS] at h e2 ⊢
        simp [fnD, body__law_value, R.bind, R.stm, ev, iArgs, rng1, sm, hlr, f1, f2, e2] at h ⊢
        rw [h]
    rcases hs with rfl | rfl
    · exact ⟨sd ys, m2, first ret_list, .li q1 hyl, B2.mono (by rw [hlr]; omega)⟩
    · obtain ⟨n, hn, e3⟩ := ret_set (x0 := some (.val (.ref 0))) (x2 := some (.val (.int 3))) q1 hyl (m := m2)
      exact ⟨s8 n, m2, first e3, .se hn, B2.mono (by rw [hlr]; omega)⟩
end K02
end

section
set_option Elab.async false
set_option linter.all false
set_option maxRecDepth 100000
set_option maxHeartbeats 4000000
namespace K02
open PySem PySem.Spec L2 PM
variable [PWc]
/-! ### drawn tables -/
def putP : List (D × D) → D → D → List (D × D)
  | [], a, v => [(a, v)]
  | p :: P, a, v => if keyOf p.1 = keyOf a then (p.1, v) :: P else p :: putP P a v
theorem putP_len (a v : D) : ∀ P : List (D × D), (putP P a v).length ≤ P.length + 1
  | [] => by simp [putP]
  | p :: P => by
    have := putP_len a v P
    unfold putP
    split <;> simp <;> omega
theorem putP_kd {a v : D} (ha : ItAt 2 a) : ∀ {P : List (D × D)}, (∀ p ∈ P, ItAt 2 p.1) → kdPutK (P.map (·.1)) a (keyOf a) = (putP P a v).map (·.1) ∧ kdPutV (P.map (·.1)) (P.map (·.2)) (keyOf a) v = (putP P a v).map (·.2)
  | [], _ => ⟨rfl, rfl⟩
  | p :: P, h => by
    obtain ⟨e1, e2⟩ := putP_kd (v := v) ha (P := P) fun q hq => h q (List.mem_cons_of_mem _ hq)
    have hk := (h p (List.mem_cons_self ..)).k
    unfold putP
    by_cases q : keyOf p.1 = keyOf a
    · rw [if_pos q]
      simp [kdPutK, kdPutV, hk, q]
    · rw [if_neg q]
      simp [kdPutK, kdPutV, hk, q, e1, e2]
theorem putP_ok {r : Row} {p0 : D × D} (h0 : PairOk r p0) : ∀ {P : List (D × D)}, (∀ p ∈ P, PairOk r p) → ∀ p ∈ putP P p0.1 p0.2, PairOk r p
  | [], _, p, hp => by
    simp [putP] at hp
    rw [hp]; exact h0
  | q :: P, h, p, hp => by
    unfold putP at hp
    split at hp
    · rcases List.mem_cons.mp hp with rfl | hp
      · exact ⟨(h q (List.mem_cons_self ..)).a, h0.v⟩
      · exact h p (List.mem_cons_of_mem _ hp)
    · rcases List.mem_cons.mp hp with rfl | hp
      · exact h p (List.mem_cons_self ..)
      · exact putP_ok h0 (fun q hq => h q (List.mem_cons_of_mem _ hq)) p hp
theorem putP_keys {a v : D} {k : NestedKey} : ∀ {P : List (D × D)} {p : D × D}, p ∈ putP P a v → keyOf p.1 = k → k = keyOf a ∨ ∃ q ∈ P, keyOf q.1 = k
  | [], p, h, e => by simp [putP] at h; rw [h] at e; exact .inl e.symm
  | q :: P, p, h, e => by
    unfold putP at h
    split at h
    · rcases List.mem_cons.mp h with rfl | h
      · exact .inr ⟨q, List.mem_cons_self .., e⟩
      · exact .inr ⟨p, List.mem_cons_of_mem _ h, e⟩
    · rcases List.mem_cons.mp h with rfl | h
      · exact .inr ⟨p, List.mem_cons_self .., e⟩
      · rcases putP_keys h e with h | ⟨q', hq, e'⟩
        · exact .inl h
        · exact .inr ⟨q', List.mem_cons_of_mem _ hq, e'⟩
abbrev Dis (P : List (D × D)) : Prop := P.Pairwise fun p q => keyOf p.1 ≠ keyOf q.1
theorem putP_dis {a v : D} : ∀ {P : List (D × D)}, Dis P → Dis (putP P a v)
  | [], _ => by simp [putP, Dis]
  | p :: P, h => by
    have h' := List.pairwise_cons.mp h
    unfold putP
    split
    · exact List.pairwise_cons.mpr ⟨h'.1, h'.2⟩
    · rename_i q
      refine List.pairwise_cons.mpr ⟨fun z hz e => ?_, putP_dis h'.2⟩
      rcases putP_keys hz rfl with hk | ⟨y, hy, hk⟩
      · exact q (e.trans hk)
      · exact h'.1 y hy (e.trans hk.symm)
/-! sorted -/
def leP (p q : D × D) : Bool := dLe (pr p) (pr q)
theorem ins_map {α β : Type} {f : α → β} {le : α → α → Bool} {le' : β → β → Bool} (h : ∀ a b, le a b = le' (f a) (f b)) (a : α) : ∀ l : List α, (ins le a l).map f = ins le' (f a) (l.map f)
  | [] => rfl
  | b :: l => by
    unfold ins
    rw [List.map_cons]
    by_cases q : le a b = true
    · rw [if_pos q]
      simp only [← h, q, if_true, List.map_cons]
    · rw [if_neg q]
      simp only [← h]
      rw [if_neg q, List.map_cons, ins_map h a l]
theorem isort_map {α β : Type} {f : α → β} {le : α → α → Bool} {le' : β → β → Bool} (h : ∀ a b, le a b = le' (f a) (f b)) : ∀ l : List α, (isort le l).map f = isort le' (l.map f)
  | [] => rfl
  | a :: l => by
    rw [isort, ins_map h, isort_map h l]; rfl
theorem isort_pair {α : Type} {le : α → α → Bool} (tr : ∀ a b c, le a b = true → le b c = true → le a c = true) (to : ∀ a b, (le a b || le b a) = true) (l : List α) : (isort le l).Pairwise fun a b => le a b = true := by
  rw [← isort_eq tr to]
  exact List.pairwise_mergeSort tr to l
theorem pairL_map (P : List (D × D)) : pairL (P.map (·.1)) (P.map (·.2)) = P.map pr := by
  induction P with
  | nil => rfl
  | cons p P ih => simp only [List.map_cons, pairL, ih]; rfl
theorem PairOk.py {r : Row} {p : D × D} (h : PairOk r p) : toPy (pr p) = some (.tuple [pyOf p.1, pyOf p.2]) ∧ pyOf (pr p) = .tuple [pyOf p.1, pyOf p.2] ∧ (pyOf p.1).depth ≤ 2 ∧ (pyOf p.2).depth ≤ 1 := by
  have a1 := h.it.1
  have a2 := it_at (h.v.it (n := 0))
  have e1 : toPy p.1 = some (pyOf p.1) := by rw [a1.py]; exact a1.p
  have e2 : toPy p.2 = some (pyOf p.2) := by rw [a2.py]; exact a2.p
  have e : toPy (pr p) = some (.tuple [pyOf p.1, pyOf p.2]) := by
    show (toPyL [p.1, p.2]).map PyData.tuple = _
    have : toPyL [p.1, p.2] = some ([p.1, p.2].map pyOf) := toPyL_of fun x hx => by
      simp only [List.mem_cons, List.not_mem_nil, or_false] at hx
      rcases hx with rfl | rfl
      · exact e1
      · exact e2
    rw [this]; rfl
  refine ⟨e, by unfold pyOf at e ⊢; rw [e]; rfl, by rw [a1.py]; exact a1.d, by rw [a2.py]; exact a2.d⟩
theorem PairOk.alk {r : Row} {p q : D × D} (h : PairOk r p) (g : PairOk r q) : PySem.W.alike (pyOf p.1) (pyOf q.1) = true ∧ PySem.W.alike (pyOf p.2) (pyOf q.2) = true := by
  obtain ⟨as, ea, ha⟩ := h.a
  obtain ⟨bs, eb, hb⟩ := g.a
  refine ⟨?_, h.v.alk g.v⟩
  rw [ea, eb]; exact ha.alk hb
theorem sort_ok {r : Row} {P : List (D × D)} (h : ∀ p ∈ P, PairOk r p) (hl : P.length ≤ 1000) : sortOk (P.map pr) = true := by
  unfold sortOk
  have e : toPyL (P.map pr) = some ((P.map pr).map pyOf) := toPyL_of fun x hx => by
    obtain ⟨p, hp, rfl⟩ := List.mem_map.mp hx
    obtain ⟨e1, e2, _⟩ := (h p hp).py
    rw [e2]; exact e1
  rw [e]
  dsimp only
  rw [Bool.and_eq_true, Bool.and_eq_true, Bool.or_eq_true]
  have mem : ∀ x ∈ (P.map pr).map pyOf, ∃ p ∈ P, x = .tuple [pyOf p.1, pyOf p.2] ∧ (pyOf p.1).depth ≤ 2 ∧ (pyOf p.2).depth ≤ 1 := fun x hx => by
    obtain ⟨y, hy, rfl⟩ := List.mem_map.mp hx
    obtain ⟨p, hp, rfl⟩ := List.mem_map.mp hy
    obtain ⟨_, e2, d1, d2⟩ := (h p hp).py
    exact ⟨p, hp, e2, d1, d2⟩
  refine ⟨?_, .inl ?_, ?_⟩
  · rw [List.all_eq_true]
    intro x hx
    rw [List.all_eq_true]
    intro y hy
    obtain ⟨p, hp, rfl, _⟩ := mem x hx
    obtain ⟨q, hq, rfl, _⟩ := mem y hy
    obtain ⟨a1, a2⟩ := (h p hp).alk (h q hq)
    simp [PySem.W.alike, PySem.W.alikeAll, a1, a2]
  · rw [List.all_eq_true]
    intro x hx
    obtain ⟨p, hp, rfl, _⟩ := mem x hx
    rfl
  · rw [List.all_eq_true]
    intro x hx
    obtain ⟨p, hp, rfl, d1, d2⟩ := mem x hx
    have hz : P.length ≤ sizeLine := by rw [sizeLine_eq]; omega
    have hd : (PyData.tuple [pyOf p.1, pyOf p.2]).depth ≤ 40 := by
      simp only [PyData.depth, PyData.depthAll]
      omega
    simp [hz, hd]
theorem tab_ok {r : Row} {P : List (D × D)} (h : ∀ p ∈ P, PairOk r p) (hd : Dis P) (hl : P.length ≤ 3) : TabOk r (isort leP P) ∧ isort dLe (P.map pr) = (isort leP P).map pr := by
  have pm := isort_perm leP P
  have hm : ∀ p ∈ isort leP P, PairOk r p := fun p hp => h p (pm.mem_iff.mp hp)
  refine ⟨⟨hm, ?_, by rw [pm.length_eq]; exact hl⟩, (isort_map (f := pr) (le := leP) (le' := dLe) (fun _ _ => rfl) P).symm⟩
  have s : (isort leP P).Pairwise fun a b => leP a b = true := isort_pair (fun a b c => dLe_tr (pr a) (pr b) (pr c)) (fun a b => dLe_to (pr a) (pr b)) P
  have d : Dis (isort leP P) := (pm.pairwise_iff (fun {a b} hab => fun z => hab z.symm)).mpr hd
  refine List.Pairwise.imp_of_mem (fun {p q} hp hq hh => ?_) (s.and d)
  obtain ⟨hs, hne⟩ := hh
  have hs : (!PySem.W.dataLt (pyOf (pr q)) (pyOf (pr p))) = true := hs
  obtain ⟨_, ep, _⟩ := (hm p hp).py
  obtain ⟨_, eq, _⟩ := (hm q hq).py
  obtain ⟨a1, a2⟩ := (hm q hq).alk (hm p hp)
  obtain ⟨a3, _⟩ := (hm p hp).alk (hm q hq)
  have i1 := (hm p hp).it.1
  have i2 := (hm q hq).it.1
  have nq : PyData.eqv (pyOf q.1) (pyOf p.1) = false := by
    rw [i1.py, i2.py, eqv_dec]
    exact decide_eq_false fun z => hne z.symm
  rw [ep, eq, PySem.W.dataLt_pair a1 a2, nq, if_neg Bool.false_ne_true] at hs
  have hs' : ltO q.1 p.1 = false := by
    unfold ltO
    cases e : PySem.W.dataLt (pyOf q.1) (pyOf p.1) with
    | false => rfl
    | true => rw [e] at hs; cases hs
  exact lt_total i1 i2 a3 hne hs'
end K02
end

section
set_option Elab.async false
set_option linter.all false
set_option maxRecDepth 100000
set_option maxHeartbeats 4000000
namespace K02
open PySem PySem.Spec L2 PM
variable [PWc]
/-! ### drawn choices of values -/
abbrev v (d : D) : Option Cell := some (.val d)
theorem lc_args {dg : List Int} {F : Fd} (hv : ValueOk dg F) {env : List (Option Cell)} (h0 : env[0]? = some (v (.ref 0))) (h2 : env[2]? = some (v (.int 3))) (hl : 9 < env.length) (hno : noOwn env [9] = true) : ∀ (ps : List D) (b : Nat) (m : List MO), (∀ p ∈ ps, S3 p) → Bx dg b m → b + 3 * ps.length < 2 ^ 57 →
    ∃ as m', lcItems [9] (.nm 9) tYesD (eFn (fun ds m => if ds.length = 3 then F ds m else .stuck) (aCons (eLoc 0) (aCons (eLoc 9) (aCons (eLoc 2) aNil)))) ps ⟨env, m⟩ = .ok as ⟨env, m'⟩ ∧ ArgsOk 2 ps as ∧ as.length = ps.length ∧ Bx dg (b + 3 * ps.length) m'
  | [], b, m, _, B, _ => ⟨[], m, rfl, .nil, rfl, B⟩
  | p :: ps, b, m, hs, B, hb => by
    simp only [List.length_cons] at hb ⊢
    obtain ⟨x, m1, e1, v1, B1⟩ := hv b m p (hs p (List.mem_cons_self ..)) B (by omega)
    obtain ⟨as, m2, e2, a2, l2, B2⟩ := lc_args hv h0 h2 hl hno ps (b + 3) m1 (fun q hq => hs q (List.mem_cons_of_mem _ hq)) B1 (by omega)
    have g0 : (env.set 9 (some (Cell.val p)))[0]? = some (v (.ref 0)) := by rw [List.getElem?_set_ne (by decide), h0]
    have g2 : (env.set 9 (some (Cell.val p)))[2]? = some (v (.int 3)) := by rw [List.getElem?_set_ne (by decide), h2]
    have g9 : (env.set 9 (some (Cell.val p)))[9]? = some (some (.val p)) := List.getElem?_set_self hl
    have rr := rest_set (c2 := some (Cell.val p)) hl
    refine ⟨x :: as, m2, ?_, .cons v1 a2, by simp [l2], B2.mono (by omega)⟩
    unfold lcItems
    simp [hno, tgD, wipeE, R.bind, g0, g2, g9, e1, rr, e2]
theorem tab_step {dg : List Int} {F : Fd} (hv : ValueOk dg F) {r : Row} (ha : r ∈ allRows) {x1 x4 x8 : Option Cell} {ks : List Key} {vs : List D} {P : List (D × D)} (hP : ∀ p ∈ P, PairOk r p) (hl : P.length ≤ 100) {b : Nat} {m : List MO} (B : Bx dg b m) (hb : b < 2 ^ 56) :
    ∃ p m', sKPut 7 (eCall tupleD (aCons (eFrz (eLc [9] (.nm 9) (iAny (eLoc 5)) tYesD (eFn (fun ds m => if ds.length = 3 then F ds m else .stuck) (aCons (eLoc 0) (aCons (eLoc 9) (aCons (eLoc 2) aNil)))))) aNil)) (eFn (fun ds m => if ds.length = 3 then F ds m else .stuck) (aCons (eLoc 0) (aCons (eLoc 6) (aCons (eLoc 2) aNil)))) ⟨[v (.ref 0), x1, v (.int 3), some (.own (.dct ks vs)), x4, v (.tup r.2.1), v r.2.2, some (.own (.kdt (P.map (·.1)) (P.map (·.2)))), x8, none], m⟩ =
      .next ⟨[v (.ref 0), x1, v (.int 3), some (.own (.dct ks vs)), x4, v (.tup r.2.1), v r.2.2, some (.own (.kdt ((putP P p.1 p.2).map (·.1)) ((putP P p.1 p.2).map (·.2)))), x8, none], m'⟩ ∧ PairOk r p ∧ Bx dg (b + 9) m' := by
  obtain ⟨x, m1, e1, v1, B1⟩ := hv b m r.2.2 (row_sort ha) B (by omega)
  have hps : (∀ p ∈ r.2.1, S3 p) ∧ r.2.1.length ≤ 2 := by
    rcases row_places ha with h | ⟨q, h, hq⟩ | h <;> rw [h]
    · exact ⟨(fun _ h => nomatch h), by simp⟩
    · exact ⟨fun p hp => by simp at hp; rw [hp]; exact hq, by simp⟩
    · exact ⟨fun p hp => by simp at hp; rw [hp]; exact .inl rfl, by simp⟩
  obtain ⟨as, m2, e2, a2, l2, B2⟩ := lc_args hv (env := [v (.ref 0), x1, v (.int 3), some (.own (.dct ks vs)), x4, v (.tup r.2.1), v r.2.2, some (.own (.kdt (P.map (·.1)) (P.map (·.2)))), x8, none]) rfl rfl (by simp) rfl r.2.1 (b + 3) m1 hps.1 B1 (by omega)
  have hpk : PairOk r (.tup as, x) := ⟨⟨as, rfl, a2⟩, v1⟩
  have ia := hpk.it.1
  obtain ⟨k1, k2⟩ := putP_kd (v := x) ia (P := P) fun p hp => (hP p hp).it.1
  have hz : r.2.1.length ≤ 16777216 := by omega
  have hdep : (keyOf (.tup as)).depth ≤ 8 := Nat.le_trans ia.e (by omega)
  have hks : kdSet (P.map (·.1)) (P.map (·.2)) (.tup as) x = some ((putP P (.tup as) x).map (·.1), (putP P (.tup as) x).map (·.2)) := by
    unfold kdSet
    rw [ia.k]
    dsimp only
    rw [if_pos ⟨rfl, hdep, by rw [List.length_map, sizeLine_eq]; omega⟩, k1, k2]
  refine ⟨(.tup as, x), m2, ?_, hpk, B2.mono (by omega)⟩
  generalize P.map (·.1) = K1 at e2 hks ⊢
  generalize P.map (·.2) = K2 at e2 hks ⊢
  unfold sKPut
  simp [R.bind, R.stm, e1, ownK, hz, e2, tupleD, hks]
theorem tab_loop {dg : List Int} {F : Fd} (hv : ValueOk dg F) {r : Row} (ha : r ∈ allRows) {x1 x4 : Option Cell} {ks : List Key} {vs : List D} : ∀ (ds : List D) (P : List (D × D)) (b : Nat) (m : List MO) (x8 : Option Cell), (∀ p ∈ P, PairOk r p) → Dis P → P.length + ds.length ≤ 50 → Bx dg b m → b + 9 * ds.length < 2 ^ 56 →
    ∃ P' m' x8', sLoop (gNm 8) (sKPut 7 (eCall tupleD (aCons (eFrz (eLc [9] (.nm 9) (iAny (eLoc 5)) tYesD (eFn (fun ds m => if ds.length = 3 then F ds m else .stuck) (aCons (eLoc 0) (aCons (eLoc 9) (aCons (eLoc 2) aNil)))))) aNil)) (eFn (fun ds m => if ds.length = 3 then F ds m else .stuck) (aCons (eLoc 0) (aCons (eLoc 6) (aCons (eLoc 2) aNil))))) ds ⟨[v (.ref 0), x1, v (.int 3), some (.own (.dct ks vs)), x4, v (.tup r.2.1), v r.2.2, some (.own (.kdt (P.map (·.1)) (P.map (·.2)))), x8, none], m⟩ =
      .next ⟨[v (.ref 0), x1, v (.int 3), some (.own (.dct ks vs)), x4, v (.tup r.2.1), v r.2.2, some (.own (.kdt (P'.map (·.1)) (P'.map (·.2)))), x8', none], m'⟩ ∧ (∀ p ∈ P', PairOk r p) ∧ Dis P' ∧ P'.length ≤ P.length + ds.length ∧ Bx dg (b + 9 * ds.length) m'
  | [], P, b, m, x8, hP, hd, _, B, _ => ⟨P, m, x8, rfl, hP, hd, Nat.le_refl _, B⟩
  | d :: ds, P, b, m, x8, hP, hd, hl, B, hb => by
    simp only [List.length_cons] at hl hb ⊢
    obtain ⟨p, m1, e1, hp, B1⟩ := tab_step hv ha (x1 := x1) (x4 := x4) (x8 := v d) (ks := ks) (vs := vs) hP (by omega) B (by omega)
    have hpl := putP_len p.1 p.2 P
    obtain ⟨P', m2, x8', e2, hP', hd', hl', B2⟩ := tab_loop hv ha (x1 := x1) (x4 := x4) (ks := ks) (vs := vs) ds (putP P p.1 p.2) (b + 9) m1 (v d) (putP_ok hp hP) (putP_dis hd) (by omega) B1 (by omega)
    refine ⟨P', m2, x8', ?_, hP', hd', by omega, B2.mono (by omega)⟩
    rw [sLoop]
    simp only [ev_gNm, List.set]
    rw [e1]
    exact e2
def law_model_1 (cl : Cl) : S → Rs :=
  (sOwn 3 fDct0)
def law_model_2 (cl : Cl) : S → Rs :=
  (sFor (iAny (eLoc 1)) (gTp 3 (gCons (gNm 4) (gCons (gNm 5) (gCons (gNm 6) gNil))))
    (sIf (eBl (eOp eqD (eLoc 5) (eTup aNil)))
    (sDPut 3 (eLoc 4) (eFn (fun ds m => if ds.length = 3 then cl 55 ds m else .stuck) (aCons (eLoc 0) (aCons (eLoc 6) (aCons (eLoc 2) aNil)))))
    (sSeq (sOwn 7 fKdt0)
    (sSeq (sFor (iArgs rng1 (aCons (eFn (fun ds m => if ds.length = 2 then cl 45 ds m else .stuck) (aCons (eLoc 0) (aCons (eC (.int (4))) aNil))) aNil)) (gNm 8)
    (sKPut 7 (eCall tupleD (aCons (eFrz (eLc [9] (.nm 9) (iAny (eLoc 5)) tYesD (eFn (fun ds m => if ds.length = 3 then cl 55 ds m else .stuck) (aCons (eLoc 0) (aCons (eLoc 9) (aCons (eLoc 2) aNil)))))) aNil)) (eFn (fun ds m => if ds.length = 3 then cl 55 ds m else .stuck) (aCons (eLoc 0) (aCons (eLoc 6) (aCons (eLoc 2) aNil))))))
    (sDPut 3 (eLoc 4) (eTup (aCons (eCall tuplePD (aCons (eSortIt (eLoc 7)) aNil)) (aCons (eFn (fun ds m => if ds.length = 3 then cl 55 ds m else .stuck) (aCons (eLoc 0) (aCons (eLoc 6) (aCons (eLoc 2) aNil)))) aNil))))))))
def law_model_3 (cl : Cl) : S → Rs :=
  (sRet (eLoc 3))
theorem law_model_parts (cl : Cl) : body__law_model cl = sSeq (law_model_1 cl) (sSeq (law_model_2 cl) (law_model_3 cl)) := rfl

def mdStep (cl : Cl) : S → Rs := (sIf (eBl (eOp eqD (eLoc 5) (eTup aNil)))
    (sDPut 3 (eLoc 4) (eFn (fun ds m => if ds.length = 3 then cl 55 ds m else .stuck) (aCons (eLoc 0) (aCons (eLoc 6) (aCons (eLoc 2) aNil)))))
    (sSeq (sOwn 7 fKdt0)
    (sSeq (sFor (iArgs rng1 (aCons (eFn (fun ds m => if ds.length = 2 then cl 45 ds m else .stuck) (aCons (eLoc 0) (aCons (eC (.int (4))) aNil))) aNil)) (gNm 8)
    (sKPut 7 (eCall tupleD (aCons (eFrz (eLc [9] (.nm 9) (iAny (eLoc 5)) tYesD (eFn (fun ds m => if ds.length = 3 then cl 55 ds m else .stuck) (aCons (eLoc 0) (aCons (eLoc 9) (aCons (eLoc 2) aNil)))))) aNil)) (eFn (fun ds m => if ds.length = 3 then cl 55 ds m else .stuck) (aCons (eLoc 0) (aCons (eLoc 6) (aCons (eLoc 2) aNil))))))
    (sDPut 3 (eLoc 4) (eTup (aCons (eCall tuplePD (aCons (eSortIt (eLoc 7)) aNil)) (aCons (eFn (fun ds m => if ds.length = 3 then cl 55 ds m else .stuck) (aCons (eLoc 0) (aCons (eLoc 6) (aCons (eLoc 2) aNil)))) aNil)))))))
theorem law_model_2_eq (cl : Cl) : law_model_2 cl = sFor (iAny (eLoc 1)) (gTp 3 (gCons (gNm 4) (gCons (gNm 5) (gCons (gNm 6) gNil)))) (mdStep cl) := rfl
/-- one unknown's value is drawn -/
theorem md_step {dg : List Int} {cl : Cl} (hd : DrawOk dg (cl 45)) (hv : ValueOk dg (cl 55)) {r : Row} (ha : r ∈ allRows) {x1 x7 x8 : Option Cell} {ms : Md} (hn : r.1 ∉ (ms.map (·.1)).map (·.1)) (nd : ((ms.map (·.1)).map (·.1)).Nodup) (hl : ms.length ≤ 100) {b : Nat} {m : List MO} (B : Bx dg b m) (hb : b < 2 ^ 55) :
    ∃ e x7' x8' m', mdStep cl ⟨[v (.ref 0), x1, v (.int 3), some (.own (.dct (kM ms) (vM ms))), v (.str (PySem.Str.ofString r.1)), v (.tup r.2.1), v r.2.2, x7, x8, none], m⟩ =
      .next ⟨[v (.ref 0), x1, v (.int 3), some (.own (.dct (kM (ms ++ [(r, e)])) (vM (ms ++ [(r, e)])))), v (.str (PySem.Str.ofString r.1)), v (.tup r.2.1), v r.2.2, x7', x8', none], m'⟩ ∧ EntOk r e ∧ Bx dg (b + 50) m' := by
  obtain ⟨bb, ep, hbb⟩ := eq_places ha
  have ndk : nodupK (kM ms) = true := by unfold nodupK; simpa using keys_nd nd
  have hkn : (Sum.inr (PySem.Str.ofString r.1) : Key) ∉ kM ms := fun z => hn (key_mem.mp z)
  have hlk : (kM ms).length = (vM ms).length := by simp
  have hzk : (kM ms).length < sizeLine := by rw [List.length_map, sizeLine_eq]; omega
  have ek : ∀ e, kM (ms ++ [(r, e)]) = putKs (kM ms) (.inr (PySem.Str.ofString r.1)) := fun e => by rw [putKs_new hkn]; simp [kM, rkey]
  have ev : ∀ e, vM (ms ++ [(r, e)]) = putVs (kM ms) (vM ms) (.inr (PySem.Str.ofString r.1)) e := fun e => by rw [putVs_new hkn hlk]; simp [vM]
  cases bb with
  | true =>
    have hp : r.2.1 = [] := hbb.mp rfl
    obtain ⟨e, m1, e1, v1, B1⟩ := hv b m r.2.2 (row_sort ha) B (by omega)
    refine ⟨e, x7, x8, m1, ?_, .val hp v1, B1.mono (by omega)⟩
    rw [ek, ev]
    generalize kM ms = K1 at ndk hzk ⊢
    generalize vM ms = K2
    unfold mdStep PM.sDPut
    simp [R.bind, R.stm, ep, e1, PM.ownD, keyD, ndk, hzk]
  | false =>
    have hp : r.2.1 ≠ [] := fun z => by have := hbb.mpr z; cases this
    obtain ⟨n, m1, en, h0, h1, B1⟩ := hd b m 4 B (by omega) (by decide)
    have hlr : (rangeD 0 n.toNat).length = n.toNat := by simp [rangeD]
    have sm : small62 n = true := by unfold small62; simp; omega
    have f1 : n ≤ 16777216 := by omega
    have f2 : n.toNat ≤ 16777216 := by omega
    obtain ⟨P, m2, x8', e2, hP, hD, hPl, B2⟩ := tab_loop hv ha (x1 := x1) (x4 := v (.str (PySem.Str.ofString r.1))) (ks := kM ms) (vs := vM ms) (rangeD 0 n.toNat) [] (b + 1) m1 x8 (fun _ h => nomatch h) .nil (by rw [hlr]; simp; omega) B1 (by rw [hlr]; omega)
    simp only [List.length_nil, Nat.zero_add] at hPl
    rw [hlr] at hPl B2
    have hP3 : P.length ≤ 3 := by omega
    obtain ⟨tb, es⟩ := tab_ok hP hD hP3
    have so := sort_ok hP (by omega)
    obtain ⟨e, m3, e3, v3, B3⟩ := hv _ m2 r.2.2 (row_sort ha) B2 (by omega)
    have pl := pairL_map P
    rw [← pl] at so es
    refine ⟨.tup [.ptp ((isort leP P).map pr), e], v (.kdt (P.map (·.1)) (P.map (·.2))), x8', m3, ?_, .tab hp tb v3, B3.mono (by omega)⟩
    rw [ek, ev]
    simp only [List.map_nil] at e2
    generalize kM ms = K1 at ndk hzk e2 ⊢
    generalize vM ms = K2 at e2 ⊢
    generalize P.map (·.1) = A1 at e2 so es ⊢
    generalize P.map (·.2) = A2 at e2 so es ⊢
    generalize (isort leP P).map pr = Q at es ⊢
    unfold mdStep
    simp [R.bind, R.stm, ep, sOwn, fKdt0, sFor, iArgs, rng1, en, sm, hlr, f1, f2, e2]
    unfold PM.sDPut
    simp [R.bind, R.stm, eSortIt, MO.toD, so, es, tuplePD, e3, PM.ownD, keyD, ndk, hzk]
theorem md_loop {dg : List Int} {cl : Cl} (hd : DrawOk dg (cl 45)) (hv : ValueOk dg (cl 55)) {x1 : Option Cell} : ∀ (rs : List Row) (ms : Md) (b : Nat) (m : List MO) (x4 x5 x6 x7 x8 : Option Cell), (∀ r ∈ rs, r ∈ allRows) → (((ms.map (·.1)) ++ rs).map (·.1)).Nodup → ms.length + rs.length ≤ 100 → (∀ q ∈ ms, EntOk q.1 q.2) → Bx dg b m → b + 50 * rs.length < 2 ^ 55 →
    ∃ ms' m' x4' x5' x6' x7' x8', sLoop (gTp 3 (gCons (gNm 4) (gCons (gNm 5) (gCons (gNm 6) gNil)))) (mdStep cl) (rs.map rowD) ⟨[v (.ref 0), x1, v (.int 3), some (.own (.dct (kM ms) (vM ms))), x4, x5, x6, x7, x8, none], m⟩ =
      .next ⟨[v (.ref 0), x1, v (.int 3), some (.own (.dct (kM ms') (vM ms'))), x4', x5', x6', x7', x8', none], m'⟩ ∧ ms'.map (·.1) = ms.map (·.1) ++ rs ∧ (∀ q ∈ ms', EntOk q.1 q.2) ∧ Bx dg (b + 50 * rs.length) m'
  | [], ms, b, m, x4, x5, x6, x7, x8, _, _, _, he, B, _ => ⟨ms, m, x4, x5, x6, x7, x8, rfl, by simp, he, B⟩
  | r :: rs, ms, b, m, x4, x5, x6, x7, x8, ha, nd, hl, he, B, hb => by
    simp only [List.length_cons] at hl hb ⊢
    have nd' := nd
    rw [List.map_append, List.nodup_append] at nd'
    have hn : r.1 ∉ (ms.map (·.1)).map (·.1) := fun z => nd'.2.2 _ z _ (by simp) rfl
    obtain ⟨e, x7', x8', m1, e1, en, B1⟩ := md_step hd hv (ha r (List.mem_cons_self ..)) (x1 := x1) (x7 := x7) (x8 := x8) hn nd'.1 (by omega) B (by omega)
    obtain ⟨ms', m2, y4, y5, y6, y7, y8, e2, hm, he', B2⟩ := md_loop hd hv (x1 := x1) rs (ms ++ [(r, e)]) (b + 50) m1 (v (.str (PySem.Str.ofString r.1))) (v (.tup r.2.1)) (v r.2.2) x7' x8' (fun q hq => ha q (List.mem_cons_of_mem _ hq)) (by simpa using nd) (by simp; omega) (fun q hq => by
      rcases List.mem_append.mp hq with hq | hq
      · exact he q hq
      · rw [List.mem_singleton] at hq; rw [hq]; exact en) B1 (by omega)
    refine ⟨ms', m2, y4, y5, y6, y7, y8, ?_, by rw [hm]; simp, he', B2.mono (by omega)⟩
    rw [List.map_cons, sLoop]
    have es : gTp 3 (gCons (gNm 4) (gCons (gNm 5) (gCons (gNm 6) gNil))) (rowD r) ⟨[v (.ref 0), x1, v (.int 3), some (.own (.dct (kM ms) (vM ms))), x4, x5, x6, x7, x8, none], m⟩ = some ⟨[v (.ref 0), x1, v (.int 3), some (.own (.dct (kM ms) (vM ms))), v (.str (PySem.Str.ofString r.1)), v (.tup r.2.1), v r.2.2, x7, x8, none], m⟩ := by
      simp [rowD]
    rw [es]
    dsimp only
    rw [e1]
    exact e2
theorem model_ok {dg : List Int} {cl : Cl} (hd : DrawOk dg (cl 45)) (hv : ValueOk dg (cl 55)) {rows : List Row} (hsub : (xRow :: rows).Sublist allRows) {b : Nat} {m : List MO} (B : Bx dg b m) (hb : b < 2 ^ 50) :
    ∃ ms m', fnD 10 (body__law_model cl) [.ref 0, .lst ((xRow :: rows).map rowD), .int 3] m = .ok (mdD ms) m' ∧ ms.map (·.1) = xRow :: rows ∧ MdOk ms ∧ Bx dg (b + 700) m' := by
  have hz := hsub.length_le
  have h13 : allRows.length = 13 := rfl
  obtain ⟨ms, m1, x4, x5, x6, x7, x8, e1, hm, he, B1⟩ := md_loop hd hv (x1 := v (.lst ((xRow :: rows).map rowD))) (xRow :: rows) [] b m none none none none none (fun r hr => hsub.subset hr) (by simpa using names_nd hsub) (by simp at hz ⊢; omega) (fun _ h => nomatch h) B (by simp at hz ⊢; omega)
  simp only [List.map_nil, List.nil_append] at hm e1
  refine ⟨ms, m1, ?_, hm, ⟨by rw [hm]; exact hsub, he⟩, B1.mono (by simp at hz ⊢; omega)⟩
  rw [law_model_parts, law_model_2_eq]
  have hmd : mdD ms = .dct (kM ms) (vM ms) := rfl
  rw [hmd]
  generalize (xRow :: rows).map rowD = R0 at e1 ⊢
  generalize kM ms = K1 at e1 ⊢
  generalize vM ms = K2 at e1 ⊢
  simp [fnD, law_model_1, law_model_3, R.bind, R.stm, sOwn, fDct0, sFor, e1]
end K02
end

section
set_option Elab.async false
set_option linter.all false
set_option maxRecDepth 100000
set_option maxHeartbeats 4000000
namespace K02
open PySem PySem.Spec L2 PM
variable [PWc]
/-! ### the law's likeness -/
theorem like_int (i : Int) (k : Nat) (m : List MO) : prog (k + 1) 57 [.int i, .int i] m = .ok (.bl true) m := by
  show fnD 3 (body__law_like (prog k)) [.int i, .int i] m = _
  simp [fnD, body__law_like, R.bind, R.stm, isiD, isBlD]
theorem like_bl (b : Bool) (k : Nat) (m : List MO) : prog (k + 1) 57 [.bl b, .bl b] m = .ok (.bl true) m := by cases b <;> kernel_rfl
theorem like_bl2 (a b : Bool) (k : Nat) (m : List MO) : prog (k + 2) 57 [.tup [.bl a, .bl b], .tup [.bl a, .bl b]] m = .ok (.bl true) m := by cases a <;> cases b <;> kernel_rfl
theorem lc_like {xs : List D} {k : Nat} {m : List MO} (h : ∀ x ∈ xs, prog k 57 [x, x] m = .ok (.bl true) m) : ∀ ks : List Nat, (∀ i ∈ ks, i < xs.length) →
    lcItems [2] (.nm 2) (tNotD (eTr (eFn (fun ds m => if ds.length = 2 then prog k 57 ds m else .stuck) (aCons (eOp ixSq (eLoc 0) (eLoc 2)) (aCons (eOp ixSq (eLoc 1) (eLoc 2)) aNil))))) (eC (.int (1))) (ks.map fun (i : Nat) => D.int i) ⟨[v (.tup xs), v (.tup xs), none], m⟩ = .ok [] ⟨[v (.tup xs), v (.tup xs), none], m⟩
  | [], _ => rfl
  | i :: ks, hk => by
    have ih := lc_like h ks fun j hj => hk j (List.mem_cons_of_mem _ hj)
    have hi := hk i List.mem_cons_self
    have hg : atI xs (i : Int) = some xs[i] := at_nat (by rw [List.getElem?_eq_getElem hi])
    have e := h xs[i] (List.getElem_mem hi)
    have nown : noOwn [v (.tup xs), v (.tup xs), none] [2] = true := rfl
    rw [List.map_cons]
    unfold lcItems
    simp [nown, tgD, wipeE, restE, R.bind, hg, e, ih]
theorem eq_nil : eqD (.lst []) (.lst []) = some (.bl true) := by kernel_rfl
theorem eq_self (i : Int) : eqD (.int i) (.int i) = some (.bl true) := by simp
def likeRet (cl : Cl) : S → Rs := (sRet (eAnd (eIsi .tuple (eLoc 0)) (eAnd (eOp eqD (eCall lenD (aCons (eLoc 0) aNil)) (eCall lenD (aCons (eLoc 1) aNil))) (eOp eqD (eFrz (eLc [2] (.nm 2) (iArgs rng1 (aCons (eCall lenD (aCons (eLoc 1) aNil)) aNil)) (tNotD (eTr (eFn (fun ds m => if ds.length = 2 then cl 57 ds m else .stuck) (aCons (eOp ixSq (eLoc 0) (eLoc 2)) (aCons (eOp ixSq (eLoc 1) (eLoc 2)) aNil))))) (eC (.int (1))))) (eLst aNil)))))
theorem like_parts (cl : Cl) : ∃ B, body__law_like cl = sSeq (sIf (eTr (eIsi .tuple (eLoc 1))) (likeRet cl) sNil) B := ⟨_, rfl⟩
theorem like_gen {T : D} {n : Nat} {z : Int} {k : Nat} {m : List MO} (h1 : isiD .tuple T = some true) (h2 : lenD [T] = some (.int z)) (hz : z.toNat = n) (sm : small62 z = true) (f1 : n ≤ 16777216) (hlr : (rangeD 0 n).length = n)
    (e : lcItems [2] (.nm 2) (tNotD (eTr (eFn (fun ds m => if ds.length = 2 then prog k 57 ds m else .stuck) (aCons (eOp ixSq (eLoc 0) (eLoc 2)) (aCons (eOp ixSq (eLoc 1) (eLoc 2)) aNil))))) (eC (.int (1))) (rangeD 0 n) ⟨[v T, v T, none], m⟩ = .ok [] ⟨[v T, v T, none], m⟩) : prog (k + 1) 57 [T, T] m = .ok (.bl true) m := by
  obtain ⟨B, hB⟩ := like_parts (prog k)
  have q := eq_nil
  have hn := eq_self z
  have r : likeRet (prog k) ⟨[v T, v T, none], m⟩ = .ret (.bl true) ⟨[v T, v T, none], m⟩ := by
    unfold likeRet
    simp [R.bind, R.stm, h1, h2, hn, iArgs, rng1, sm, hz, hlr, f1, e, q]
  show fnD 3 (body__law_like (prog k)) [T, T] m = _
  rw [hB]
  simp [fnD, R.bind, R.stm, h1, r]
theorem like_tup {xs : List D} {k : Nat} {m : List MO} (h : ∀ x ∈ xs, prog k 57 [x, x] m = .ok (.bl true) m) (hl : xs.length ≤ 1000) : prog (k + 1) 57 [.tup xs, .tup xs] m = .ok (.bl true) m := by
  have e := lc_like h (List.range xs.length) fun i hi => List.mem_range.mp hi
  have hr : ((List.range xs.length).map fun (i : Nat) => D.int i) = rangeD 0 xs.length := by
    rw [rangeD_int, List.map_map]
    exact List.map_congr_left fun i _ => rfl
  rw [hr] at e
  have sm : small62 (xs.length : Int) = true := by unfold small62; simp; omega
  have f1 : xs.length ≤ 16777216 := by omega
  have hlr : (rangeD 0 xs.length).length = xs.length := by simp [rangeD]
  exact like_gen rfl rfl (Int.toNat_natCast _) sm f1 hlr e
theorem like_sd {xs : List Int} (hl : xs.length ≤ 1000) (k : Nat) (m : List MO) : prog (k + 2) 57 [sd xs, sd xs] m = .ok (.bl true) m :=
  like_tup (fun x hx => by
    obtain ⟨i, _, rfl⟩ := List.mem_map.mp hx
    exact like_int i k m) (by simpa using hl)
theorem _root_.K02.Val.like {b : Nat} {s w : D} (h : Val b s w) (hb : b ≤ 1000) (k : Nat) (m : List MO) : prog (k + 2) 57 [w, w] m = .ok (.bl true) m := by
  cases h with
  | th h1 h2 => exact like_int _ (k + 1) m
  | li h1 h2 => exact like_sd (by omega) k m
  | se h =>
    rename_i n
    have : (s8x.getD n []).length ≤ 1000 := by rcases eight h with rfl | rfl | rfl | rfl | rfl | rfl | rfl | rfl <;> decide
    exact like_sd this k m
/-! ### the texts -/
theorem small_not {rows : List Row} (hsub : rows.Sublist allRows) {c : D} (C : Cm rows 1 2 c) (K : Nat) (m : List MO) : prog (K + 20) 20 [.tup [.str "not", c], ownD rows] m = .ok (.bl true) m := by
  have f := cm_fine (F := prog (K + 18) 16) ⟨prog (K + 17), rfl⟩ C
  have q1 : cn 2 1 = 166 := by decide
  have q2 : cp 2 1 = 31 := by decide
  have e1 : prog (K + 19) 6 [.tup [.str "not", c]] m = .ok (.bl true) m := shallow_ok (cl := prog (K + 18)) (by simp [clean, cleanL, f.cl]) (by have := f.nd; simp only [nodes, nodesL]; omega) m
  have e2 : prog (K + 19) 15 [ownD rows, .tup [.str "not", c]] m = .ok (.bl true) m := by
    have := claim_true hsub (Cm.not C) (K + 2) m
    rwa [show K + 2 + (1 + 1) + 3 * 2 + 9 = K + 19 by omega] at this
  obtain ⟨N, hN, p⟩ := f.pn
  have p' : Pn (prog (K + 18) 16) (.tup [.str "not", c]) (N + 0 + 1) := .mk (fun m => po_rest (cl := prog (K + 17)) (w := "not") (by decide) m) (by simp) (.cons p .nil)
  obtain ⟨ts, e3, l3⟩ := all_parts_ok (cl := prog (K + 18)) p' (by omega) m
  have e3 : prog (K + 19) 17 [.tup [.str "not", c]] m = .ok (.tup ts) m := e3
  have l : (ts.length : Int) ≤ 60 := by omega
  show fnD 2 (body_is_small_claim (prog (K + 19))) [.tup [.str "not", c], ownD rows] m = _
  simp [fnD, body_is_small_claim, R.bind, R.stm, e1, e2, e3, l]
/-- a claim as it stands, or denied -/
inductive Cn (rows : List Row) : D → Prop
  | pos {c} : Cm rows 1 2 c → Cn rows c
  | neg {c} : Cm rows 1 2 c → Cn rows (.tup [.str "not", c])
theorem text_at {rows : List Row} (hsub : (xRow :: rows).Sublist allRows) {cs : List D} (hl : cs.length ≤ 12) (h : ∀ c ∈ cs, Cn (xRow :: rows) c) {j : Nat} (hj : 41 ≤ j) (m : List MO) : prog j 21 [textD (xRow :: rows) cs] m = .ok (.bl true) m := by
  obtain ⟨K, rfl⟩ : ∃ K, j = K + 21 := ⟨j - 21, by omega⟩
  refine text_true hsub hl K (fun c hc m => ?_) m
  cases h c hc with
  | pos C => exact small_ok hsub (.inl C) K m
  | neg C => exact small_not hsub C K m
theorem cut_text (rows : List Row) (k : Nat) (m : List MO) : prog (k + 3) 21 [.tup [.str "text", .tup [.str "a"], .tup (rows.map rowD)]] m = .ok (.bl false) m := by
  kernel_rfl
def xT : D := .tup [.str "un", .str "x", .tup []]
theorem x_sort {rows : List Row} (hsub : (xRow :: rows).Sublist allRows) (K : Nat) (m : List MO) : prog (K + 9) 14 [ownD (xRow :: rows), xT] m = .ok sA m :=
  sort_all hsub (Tm.un0 (n := 0) (nm := "x") (s := sA) List.mem_cons_self) (K + 1) m
theorem w_cons {rows : List Row} (hsub : (xRow :: rows).Sublist allRows) (m : List MO) : prog 98 14 [ownD (xRow :: rows), .tup [.str "cons", xT, xT]] m = .ok .non m := by
  refine in_cons (cl := prog 97) (fun m => ?_) m
  have h1 : prog 96 14 [ownD (xRow :: rows), xT] m = .ok sA m := x_sort hsub 87 m
  have e : eqD sA (.tup [.str "list", sA]) = some (.bl false) := by kernel_rfl
  have n1 : isNonD sA = false := rfl
  show fnD 4 (body_sort_of_list (prog 96)) [ownD (xRow :: rows), .tup [.str "cons", xT, xT]] m = _
  simp [fnD, body_sort_of_list, isiD, h1, R.bind, R.stm, e, n1]
theorem w_in {rows : List Row} (hsub : (xRow :: rows).Sublist allRows) (m : List MO) : prog 98 15 [ownD (xRow :: rows), .tup [.str "in", xT, xT]] m = .ok (.bl false) m := by
  have h1 : prog 97 14 [ownD (xRow :: rows), xT] m = .ok sA m := x_sort hsub 88 m
  have n1 : isNonD sA = false := rfl
  have e : eqD sA (.tup [.str "set", sA]) = some (.bl false) := by kernel_rfl
  show fnD 5 (body_is_claim_in (prog 97)) [ownD (xRow :: rows), .tup [.str "in", xT, xT]] m = _
  simp [fnD, body_is_claim_in, isiD, R.bind, R.stm, inD, memD, flatD, eqF, h1, n1, e]
end K02
end

section
set_option Elab.async false
set_option linter.all false
set_option maxRecDepth 100000
set_option maxHeartbeats 4000000
namespace K02
open PySem PySem.Spec L2 PM
variable [PWc]
/-! ### the law, statement by statement -/
theorem at3 (rows : List Row) (cs : List D) : ixSq (textD rows cs) (.int 3) = some (.tup cs) := rfl
/-- what is sure before the told values -/
theorem sure_ok {ms : Md} {rest : List Row} (hr : ms.map (·.1) = xRow :: rest) (hm : MdOk ms) {cs : List D} (hl : cs.length ≤ 12) (hc : ∀ c ∈ cs, Cn (xRow :: rest) c) (m : List MO) : prog 98 39 [textD (xRow :: rest) cs, mdD ms] m = .ok .non m := by
  have hsub : (xRow :: rest).Sublist allRows := hr ▸ hm.sub
  have h1 : prog 97 22 [textD (xRow :: rest) cs] m = .ok .non m := sure_yes (cl := prog 96) (text_at hsub hl hc (by omega) m)
  have h2 : prog 97 28 [mdD ms, textD (xRow :: rest) cs] m = .ok (.bl true) m := by
    have := choice_right hm (cs := cs) 91 m
    rwa [hr] at this
  exact sc_yes (cl := prog 97) h1 h2
theorem told_tm {ms : Md} {rest : List Row} (hr : ms.map (·.1) = xRow :: rest) (hm : MdOk ms) {cs : List D} (hl : cs.length ≤ 12) (hc : ∀ c ∈ cs, Cn (xRow :: rest) c) {s t : D} (h : Tm (xRow :: rest) 2 s t) (hs : S3 s) (m : List MO) :
    ∃ w, prog 100 58 [textD (xRow :: rest) cs, mdD ms, t] m = .ok w m ∧ prog 100 53 [mdD ms, t] m = .ok w m ∧ prog 100 57 [w, w] m = .ok (.bl true) m := by
  have hsub : (xRow :: rest).Sublist allRows := hr ▸ hm.sub
  obtain ⟨w, hv, hw⟩ := worth_all hm (M := mdD ms) rfl (n := 2) (s := s) (t := t) (by rw [hr]; exact h) hs (by omega)
  have f := tm_fine (F := prog 97 16) ⟨prog 96, rfl⟩ h
  have n1 : nodes t ≤ 200 := by
    have := f.nd
    have e : tn 2 = 40 := by decide
    omega
  have h6 : prog 98 6 [t] m = .ok (.bl true) m := shallow_ok (cl := prog 97) f.cl n1 m
  have h18 : prog 98 18 [textD (xRow :: rest) cs] m = .ok (ownD (xRow :: rest)) m := own_ok (cl := prog 97) hsub cs m
  have h14 : prog 98 14 [ownD (xRow :: rest), t] m = .ok s m := sort_all hsub h 84 m
  have hn : isNonD s = false := by rcases hs with rfl | rfl | rfl <;> rfl
  have h39 := sure_ok hr hm hl hc m
  refine ⟨w, ?_, (hw.up m (j := 100) (by omega)).2, hv.like (by omega) 98 m⟩
  exact tv_ok (cl := prog 99) (va_yes (cl := prog 98) h39 h6 h18 h14 hn (hw.up m (j := 98) (by omega)).1)
theorem told_cm {ms : Md} {rest : List Row} (hr : ms.map (·.1) = xRow :: rest) (hm : MdOk ms) {cs : List D} (hl : cs.length ≤ 12) (hc : ∀ c ∈ cs, Cn (xRow :: rest) c) {c : D} (h : Cm (xRow :: rest) 1 2 c) {b : Bool} (hb : H2 (mdD ms) c 11 b) (m : List MO) :
    prog 100 59 [textD (xRow :: rest) cs, mdD ms, c] m = .ok (.bl b) m := by
  have hsub : (xRow :: rest).Sublist allRows := hr ▸ hm.sub
  have f := cm_fine (F := prog 97 16) ⟨prog 96, rfl⟩ h
  have n1 : nodes c ≤ 200 := by
    have := f.nd
    have e : cn 2 1 = 166 := by decide
    omega
  have h6 : prog 98 6 [c] m = .ok (.bl true) m := shallow_ok (cl := prog 97) f.cl n1 m
  have h18 : prog 98 18 [textD (xRow :: rest) cs] m = .ok (ownD (xRow :: rest)) m := own_ok (cl := prog 97) hsub cs m
  have h15 : prog 98 15 [ownD (xRow :: rest), c] m = .ok (.bl true) m := claim_true hsub h 82 m
  have h39 := sure_ok hr hm hl hc m
  exact tt_ok (cl := prog 99) (ha_yes (cl := prog 98) h39 h6 h18 h15 (hb 98 m (by omega)).1)
theorem st1 {ns : List Int} : ∃ dg : List Int, law_1 (prog 100) ⟨[v (.frz (ns.map .int)), none, none, none, none, none, none, none, none, none, none, none, none, none, none, none, none, none], []⟩ = .next ⟨[v (.frz (ns.map .int)), v (.ref 0), none, none, none, none, none, none, none, none, none, none, none, none, none, none, none, none], boxM dg 0⟩ := by
  obtain ⟨dg, e⟩ := digits_ok (cl := prog 99) (ns := ns) (fun k m h => cell_ok (cl := prog 98) h m) []
  have e' : prog 100 44 [.frz (ns.map .int), .int 0, .int 63] [] = .ok (.lst (dg.map .int)) [] := e
  refine ⟨dg, ?_⟩
  simp [law_1, R.bind, R.stm, eNew, fLst, e', boxM]
theorem st2 {dg : List Int} {b : Nat} {m : List MO} {x0 : Option Cell} (B : Bx dg b m) (hb : b < 2 ^ 30) : ∃ rest m', law_2 (prog 100) ⟨[x0, v (.ref 0), none, none, none, none, none, none, none, none, none, none, none, none, none, none, none, none], m⟩ = .next ⟨[x0, v (.ref 0), v (.lst ((xRow :: rest).map rowD)), none, none, none, none, none, none, none, none, none, none, none, none, none, none, none], m'⟩ ∧ (xRow :: rest).Sublist allRows ∧ Bx dg (b + 12) m' := by
  obtain ⟨rest, m', e, hs, B'⟩ := some_ok (cl := prog 99) (draw_ok dg 98) (unknowns_ok 98) b m B (by omega)
  have e' : prog 100 51 [.ref 0] m = .ok (.lst ((xRow :: rest).map rowD)) m' := e
  refine ⟨rest, m', ?_, hs, B'⟩
  generalize (xRow :: rest).map rowD = R0 at e' ⊢
  simp [law_2, R.bind, R.stm, e']
theorem st3 {dg : List Int} {b : Nat} {m : List MO} {x0 : Option Cell} {rest : List Row} (hs : (xRow :: rest).Sublist allRows) (B : Bx dg b m) (hb : b < 2 ^ 30) : ∃ ms m', law_3 (prog 100) ⟨[x0, v (.ref 0), v (.lst ((xRow :: rest).map rowD)), none, none, none, none, none, none, none, none, none, none, none, none, none, none, none], m⟩ =
    .next ⟨[x0, v (.ref 0), v (.lst ((xRow :: rest).map rowD)), v (mdD ms), v sA, none, none, none, none, none, none, none, none, none, none, none, none, none], m'⟩ ∧ ms.map (·.1) = xRow :: rest ∧ MdOk ms ∧ Bx dg (b + 700) m' := by
  obtain ⟨ms, m', e, hr, hm, B'⟩ := model_ok (cl := prog 99) (draw_ok dg 98) (value_ok (cl := prog 98) (draw_ok dg 97) (thing_ok (cl := prog 97) (draw_ok dg 96))) hs B (by omega)
  have e' : prog 100 56 [.ref 0, .lst ((xRow :: rest).map rowD), .int 3] m = .ok (mdD ms) m' := e
  refine ⟨ms, m', ?_, hr, hm, B'⟩
  generalize (xRow :: rest).map rowD = R0 at e' ⊢
  generalize mdD ms = M at e' ⊢
  simp [law_3, R.bind, R.stm, e', sA]
theorem st4 {dg : List Int} {b : Nat} {m : List MO} {x0 x3 x4 : Option Cell} {rest : List Row} (hs : (xRow :: rest).Sublist allRows) (B : Bx dg b m) (hb : b < 2 ^ 30) (hno : noOwn [x0, v (.ref 0), v (.lst ((xRow :: rest).map rowD)), x3, x4, none, none, none, none, none, none, none, none, none, none, none, none, none] [16] = true) :
    ∃ c1 c2 m', law_4 (prog 100) ⟨[x0, v (.ref 0), v (.lst ((xRow :: rest).map rowD)), x3, x4, none, none, none, none, none, none, none, none, none, none, none, none, none], m⟩ =
      .next ⟨[x0, v (.ref 0), v (.lst ((xRow :: rest).map rowD)), x3, x4, v (.tup [c1, c2]), none, none, none, none, none, none, none, none, none, none, none, none], m'⟩ ∧ Cm (xRow :: rest) 1 2 c1 ∧ Cm (xRow :: rest) 1 2 c2 ∧ Bx dg (b + 200) m' := by
  have hR := rows_at hs (RD := .lst ((xRow :: rest).map rowD)) rfl
  have q : cc 2 1 = 61 := by decide
  obtain ⟨c1, m1, e1, C1, B1⟩ := claim_all dg hR 91 2 (by decide) 1 b m B (by omega)
  obtain ⟨c2, m2, e2, C2, B2⟩ := claim_all dg hR 91 2 (by decide) 1 _ m1 B1 (by omega)
  have e1' : prog 100 50 [.ref 0, .lst ((xRow :: rest).map rowD), .int 2, .int 1] m = .ok c1 m1 := e1
  have e2' : prog 100 50 [.ref 0, .lst ((xRow :: rest).map rowD), .int 2, .int 1] m1 = .ok c2 m2 := e2
  refine ⟨c1, c2, m2, ?_, C1, C2, B2.mono (by omega)⟩
  have r2 : rangeD 0 2 = [.int 0, .int 1] := rfl
  have sm : small62 2 = true := by decide
  generalize (xRow :: rest).map rowD = R0 at e1' e2' hno ⊢
  have d : ∀ c, isiD .tuple (.tup c) = some true := fun _ => rfl
  simp [law_4, R.bind, R.stm, iArgs, rng1, sm, r2, lcItems, hno, tgD, wipeE, restE, e1', e2', tupleD]
theorem st5 {x0 x1 x3 x4 : Option Cell} {m : List MO} {rest : List Row} {c1 c2 : D} : law_5 (prog 100) ⟨[x0, x1, v (.lst ((xRow :: rest).map rowD)), x3, x4, v (.tup [c1, c2]), none, none, none, none, none, none, none, none, none, none, none, none], m⟩ =
      .next ⟨[x0, x1, v (.lst ((xRow :: rest).map rowD)), x3, x4, v (.tup [c1, c2]), v (textD (xRow :: rest) [c1, c2]), none, none, none, none, none, none, none, none, none, none, none], m⟩ := by
  unfold textD
  generalize (xRow :: rest).map rowD = R0
  simp [law_5, R.bind, R.stm, tupleD]
end K02
end

section
set_option Elab.async false
set_option linter.all false
set_option maxRecDepth 100000
set_option maxHeartbeats 4000000
namespace K02
open PySem PySem.Spec L2 PM
variable [PWc]
/-! ### numbers and bits -/
theorem numbers_ok (k : Nat) (m : List MO) : prog (k + 60) 62 [] m = .ok (.bl true) m := by kernel_rfl
end K02
end

section
set_option Elab.async false
set_option linter.all false
set_option maxRecDepth 100000
set_option maxHeartbeats 4000000
namespace K02
open PySem PySem.Spec L2 PM
variable [PWc]
def loop6 : S → Rs :=
    (sSeq (sSet 14 (eFn (fun ds m => if ds.length = 4 then prog 100 48 ds m else .stuck) (aCons (eLoc 1) (aCons (eLoc 2) (aCons (eLoc 7) (aCons (eC (.int (2))) aNil))))))
    (sIf (tNotD (eTr (eFn (fun ds m => if ds.length = 2 then prog 100 57 ds m else .stuck) (aCons (eFn (fun ds m => if ds.length = 3 then prog 100 58 ds m else .stuck) (aCons (eLoc 6) (aCons (eLoc 3) (aCons (eLoc 14) aNil)))) (aCons (eFn (fun ds m => if ds.length = 2 then prog 100 53 ds m else .stuck) (aCons (eLoc 3) (aCons (eLoc 14) aNil))) aNil)))))
    (sRet (eC (.bl false)))
    sNil))
theorem l6 {dg : List Int} {x0 x4 x5 x8 x9 x10 x11 x12 x13 x15 x16 x17 : Option Cell} {M T R0 : D} : ∀ (ss : List D) (b : Nat) (m : List MO) (x7 x14 : Option Cell), (∀ s ∈ ss, ∀ (b : Nat) (m : List MO), Bx dg b m → b < 2 ^ 40 → ∃ t w m', prog 100 48 [.ref 0, R0, s, .int 2] m = .ok t m' ∧ prog 100 58 [T, M, t] m' = .ok w m' ∧ prog 100 53 [M, t] m' = .ok w m' ∧ prog 100 57 [w, w] m' = .ok (.bl true) m' ∧ Bx dg (b + 100) m') → Bx dg b m → b + 100 * ss.length < 2 ^ 39 →
    ∃ m' x7' x14', sLoop (gNm 7) loop6 ss ⟨[x0, v (.ref 0), v R0, v M, x4, x5, v T, x7, x8, x9, x10, x11, x12, x13, x14, x15, x16, x17], m⟩ =
      .next ⟨[x0, v (.ref 0), v R0, v M, x4, x5, v T, x7', x8, x9, x10, x11, x12, x13, x14', x15, x16, x17], m'⟩ ∧ Bx dg (b + 100 * ss.length) m'
  | [], b, m, x7, x14, _, B, _ => ⟨m, x7, x14, rfl, B⟩
  | s :: ss, b, m, x7, x14, h, B, hb => by
    simp only [List.length_cons] at hb ⊢
    obtain ⟨t, w, m1, e1, e2, e3, e4, B1⟩ := h s List.mem_cons_self b m B (by omega)
    obtain ⟨m2, y7, y14, e5, B2⟩ := l6 (dg := dg) (x0 := x0) (x4 := x4) (x5 := x5) (x8 := x8) (x9 := x9) (x10 := x10) (x11 := x11) (x12 := x12) (x13 := x13) (x15 := x15) (x16 := x16) (x17 := x17) (M := M) (T := T) (R0 := R0) ss (b + 100) m1 (v s) (v t) (fun s hs => h s (List.mem_cons_of_mem _ hs)) B1 (by omega)
    refine ⟨m2, y7, y14, ?_, B2.mono (by omega)⟩
    have st : loop6 ⟨[x0, v (.ref 0), v R0, v M, x4, x5, v T, v s, x8, x9, x10, x11, x12, x13, x14, x15, x16, x17], m⟩ = .next ⟨[x0, v (.ref 0), v R0, v M, x4, x5, v T, v s, x8, x9, x10, x11, x12, x13, v t, x15, x16, x17], m1⟩ := by
      unfold loop6
      simp [R.bind, R.stm, e1, e2, e3, e4]
    unfold sLoop
    simp [st]
    exact e5
theorem s3_all : ∀ s ∈ [sA, .tup [.str "list", sA], .tup [.str "set", sA]], S3 s := by
  intro s hs
  simp only [List.mem_cons, List.not_mem_nil, or_false] at hs
  rcases hs with rfl | rfl | rfl
  · exact .inl rfl
  · exact .inr (.inl rfl)
  · exact .inr (.inr rfl)
section
variable {dg : List Int} {ms : Md} {rest : List Row} (hr : ms.map (·.1) = xRow :: rest) (hm : MdOk ms) {c1 c2 : D} (C1 : Cm (xRow :: rest) 1 2 c1) (C2 : Cm (xRow :: rest) 1 2 c2)
include hr hm C1 C2
theorem st6 {b : Nat} {m : List MO} {x0 x5 : Option Cell} (B : Bx dg b m) (hb : b < 2 ^ 30) :
    ∃ m' x7' x14', law_6 (prog 100) ⟨[x0, v (.ref 0), v (.lst ((xRow :: rest).map rowD)), v (mdD ms), v sA, x5, v (textD (xRow :: rest) [c1, c2]), none, none, none, none, none, none, none, none, none, none, none], m⟩ =
      .next ⟨[x0, v (.ref 0), v (.lst ((xRow :: rest).map rowD)), v (mdD ms), v sA, x5, v (textD (xRow :: rest) [c1, c2]), x7', none, none, none, none, none, none, x14', none, none, none], m'⟩ ∧ Bx dg (b + 300) m' := by
  have hs : (xRow :: rest).Sublist allRows := hr ▸ hm.sub
  have hR := rows_at hs (RD := .lst ((xRow :: rest).map rowD)) rfl
  have hc : ∀ c ∈ [c1, c2], Cn (xRow :: rest) c := by
    intro c h
    simp only [List.mem_cons, List.not_mem_nil, or_false] at h
    rcases h with rfl | rfl
    · exact .pos C1
    · exact .pos C2
  have q : tc 2 = 14 := by decide
  obtain ⟨m', x7', x14', e, B'⟩ := l6 (dg := dg) (x0 := x0) (x4 := v sA) (x5 := x5) (x8 := none) (x9 := none) (x10 := none) (x11 := none) (x12 := none) (x13 := none) (x15 := none) (x16 := none) (x17 := none) (M := mdD ms) (T := textD (xRow :: rest) [c1, c2]) (R0 := .lst ((xRow :: rest).map rowD)) [sA, .tup [.str "list", sA], .tup [.str "set", sA]] b m none none (fun s hs b m B hb => by
    obtain ⟨t, m1, e1, T1, B1⟩ := term_all dg hR 94 2 (by decide) b m s (s3_all s hs) B (by omega)
    obtain ⟨w, e2, e3, e4⟩ := told_tm hr hm (by simp) hc T1 (s3_all s hs) m1
    exact ⟨t, w, m1, e1, e2, e3, e4, B1.mono (by omega)⟩) B (by simp only [List.length_cons, List.length_nil]; omega)
  refine ⟨m', x7', x14', ?_, B'⟩
  generalize (D.lst ((xRow :: rest).map rowD)) = R0 at e ⊢
  generalize textD (xRow :: rest) [c1, c2] = T at e ⊢
  generalize mdD ms = M at e ⊢
  generalize sA = A at e ⊢
  have : law_6 (prog 100) = sFor (iAny (eTup (aCons (eLoc 4) (aCons (eTup (aCons (eC (.str "list")) (aCons (eLoc 4) aNil))) (aCons (eTup (aCons (eC (.str "set")) (aCons (eLoc 4) aNil))) aNil))))) (gNm 7) loop6 := rfl
  rw [this]
  simp [sFor, iAny, R.bind]
  exact e
end
theorem st7 {b1 b2 : Bool} {M c1 c2 : D} {x0 x1 x2 x4 x6 x7 x14 : Option Cell} {m : List MO} (e1 : prog 100 54 [M, c1] m = .ok (.bl b1) m) (e2 : prog 100 54 [M, c2] m = .ok (.bl b2) m) (hno : noOwn [x0, x1, x2, v M, x4, v (.tup [c1, c2]), x6, x7, none, none, none, none, none, none, x14, none, none, none] [17] = true) :
    law_7 (prog 100) ⟨[x0, x1, x2, v M, x4, v (.tup [c1, c2]), x6, x7, none, none, none, none, none, none, x14, none, none, none], m⟩ = .next ⟨[x0, x1, x2, v M, x4, v (.tup [c1, c2]), x6, x7, v (.tup [.bl b1, .bl b2]), none, none, none, none, none, x14, none, none, none], m⟩ := by
  simp [law_7, R.bind, R.stm, lcItems, hno, tgD, wipeE, restE, e1, e2, tupleD]
theorem nin_bls (a b : Bool) : ninD (.bl false) (.tup [.bl a, .bl b]) = some (.bl (a && b)) := by cases a <;> cases b <;> kernel_rfl
theorem st8 {b1 b2 : Bool} {M T c1 c2 : D} {x0 x1 x2 x4 x7 x14 : Option Cell} {m : List MO} (e1 : prog 100 59 [T, M, c1] m = .ok (.bl b1) m) (e2 : prog 100 59 [T, M, c2] m = .ok (.bl b2) m) (e3 : prog 100 42 [T, M] m = .ok (.bl (b1 && b2)) m)
    (hno : noOwn [x0, x1, x2, v M, x4, v (.tup [c1, c2]), v T, x7, v (.tup [.bl b1, .bl b2]), none, none, none, none, none, x14, none, none, none] [17] = true) :
    law_8 (prog 100) ⟨[x0, x1, x2, v M, x4, v (.tup [c1, c2]), v T, x7, v (.tup [.bl b1, .bl b2]), none, none, none, none, none, x14, none, none, none], m⟩ = .next ⟨[x0, x1, x2, v M, x4, v (.tup [c1, c2]), v T, x7, v (.tup [.bl b1, .bl b2]), none, none, none, none, none, x14, none, none, none], m⟩ := by
  have l1 : prog 100 57 [.tup [.bl b1, .bl b2], .tup [.bl b1, .bl b2]] m = .ok (.bl true) m := like_bl2 b1 b2 98 m
  have l2 : prog 100 57 [.bl (b1 && b2), .bl (b1 && b2)] m = .ok (.bl true) m := like_bl _ 99 m
  have n := nin_bls b1 b2
  simp [law_8, R.bind, R.stm, lcItems, hno, tgD, wipeE, restE, e1, e2, e3, tupleD, l1, l2, n]
def turned (b : Bool) (c : D) : D := if b = true then c else .tup [.str "not", c]
theorem st9 {b1 b2 : Bool} {M c1 c2 : D} {rest : List Row} {x0 x1 x2 x4 x7 x8 x14 : Option Cell} {m : List MO} (e1 : prog 100 54 [M, c1] m = .ok (.bl b1) m) (e2 : prog 100 54 [M, c2] m = .ok (.bl b2) m)
    (hno : noOwn [x0, x1, x2, v M, x4, v (.tup [c1, c2]), v (textD (xRow :: rest) [c1, c2]), x7, x8, none, none, none, none, none, x14, none, none, none] [17] = true) :
    law_9 (prog 100) ⟨[x0, x1, x2, v M, x4, v (.tup [c1, c2]), v (textD (xRow :: rest) [c1, c2]), x7, x8, none, none, none, none, none, x14, none, none, none], m⟩ =
      .next ⟨[x0, x1, x2, v M, x4, v (.tup [c1, c2]), v (textD (xRow :: rest) [c1, c2]), x7, x8, v (textD (xRow :: rest) [turned b1 c1, turned b2 c2]), none, none, none, none, x14, none, none, none], m⟩ := by
  have s1 : slD (textD (xRow :: rest) [c1, c2]) none (some 3) = some (.tup [.str "text", .tup [.str "a"], .tup ((xRow :: rest).map rowD)]) := rfl
  have a1 : ∀ d, addD (.tup [.str "text", .tup [.str "a"], .tup ((xRow :: rest).map rowD)]) (.tup [.tup d]) = some (textD (xRow :: rest) d) := fun d => by
    simp [addD, sizeLine_eq, textD]
  generalize textD (xRow :: rest) = TF at s1 a1 hno ⊢
  generalize TF [c1, c2] = T at s1 a1 hno ⊢
  generalize (D.tup [.str "text", .tup [.str "a"], .tup ((xRow :: rest).map rowD)]) = H at s1 a1
  cases b1 <;> cases b2 <;> simp [law_9, R.bind, R.stm, lcItems, hno, tgD, wipeE, restE, e1, e2, tupleD, s1, a1, turned]
theorem st10 {M RT : D} {x0 x1 x2 x4 x5 x6 x7 x8 x14 : Option Cell} {m : List MO} (e1 : prog 100 42 [RT, M] m = .ok (.bl true) m) (n : prog 100 62 [] m = .ok (.bl true) m) :
    law_10 (prog 100) ⟨[x0, x1, x2, v M, x4, x5, x6, x7, x8, v RT, none, none, none, none, x14, none, none, none], m⟩ = .next ⟨[x0, x1, x2, v M, x4, x5, x6, x7, x8, v RT, none, none, none, none, x14, none, none, none], m⟩ := by
  simp [law_10, R.bind, R.stm, e1, n, isBlD]
theorem st11 {rest : List Row} {c1 c2 : D} {x0 x1 x2 x3 x4 x5 x7 x8 x9 x14 : Option Cell} {m : List MO} :
    law_11 (prog 100) ⟨[x0, x1, x2, x3, x4, x5, v (textD (xRow :: rest) [c1, c2]), x7, x8, x9, none, none, none, none, x14, none, none, none], m⟩ =
      .next ⟨[x0, x1, x2, x3, x4, x5, v (textD (xRow :: rest) [c1, c2]), x7, x8, x9, v xT, v (textD (xRow :: rest) []), none, none, x14, none, none, none], m⟩ := by
  have s1 : slD (textD (xRow :: rest) [c1, c2]) none (some 3) = some (.tup [.str "text", .tup [.str "a"], .tup ((xRow :: rest).map rowD)]) := rfl
  have a1 : addD (.tup [.str "text", .tup [.str "a"], .tup ((xRow :: rest).map rowD)]) (.tup [.tup []]) = some (textD (xRow :: rest) []) := by
    simp [addD, sizeLine_eq, textD]
  generalize textD (xRow :: rest) = TF at s1 a1 ⊢
  generalize TF [c1, c2] = T at s1 a1 ⊢
  generalize (D.tup [.str "text", .tup [.str "a"], .tup ((xRow :: rest).map rowD)]) = H at s1 a1
  simp [law_11, R.bind, R.stm, s1, a1, xT]
end K02
end

section
set_option Elab.async false
set_option linter.all false
set_option maxRecDepth 100000
set_option maxHeartbeats 4000000
namespace K02
open PySem PySem.Spec L2 PM
variable [PWc]
def body12 : S → Rs :=
    (sSeq (sSet 15 (eFn (fun ds m => if ds.length = 2 then prog 100 46 ds m else .stuck) (aCons (eLoc 1) (aCons (eFn (fun ds m => if ds.length = 1 then prog 100 61 ds m else .stuck) (aCons (eLoc 3) aNil)) aNil))))
    (sIf (tOrD (eBl (eOp isnD (eFn (fun ds m => if ds.length = 2 then prog 100 42 ds m else .stuck) (aCons (eLoc 11) (aCons (eLoc 15) aNil))) (eC (.bl false)))) (tNotD (eTr (eFn (fun ds m => if ds.length = 2 then prog 100 57 ds m else .stuck) (aCons (eFn (fun ds m => if ds.length = 3 then prog 100 58 ds m else .stuck) (aCons (eLoc 11) (aCons (eLoc 15) (aCons (eLoc 10) aNil)))) (aCons (eTup (aCons (eC (.str "refused")) (aCons (eC (.str "model")) aNil))) aNil))))))
    (sRet (eC (.bl false)))
    sNil))
theorem like_ref (m : List MO) : prog 100 57 [refT, refT] m = .ok (.bl true) m := by kernel_rfl
theorem l12 {dg : List Int} {M PL X : D} (h : ∀ m, ∃ W, prog 100 61 [M] m = .ok (.lst W) m ∧ W ≠ [] ∧ ∀ d ∈ W, ∀ m, prog 100 42 [PL, d] m = .ok (.bl false) m ∧ prog 100 58 [PL, d, X] m = .ok refT m) {x0 x2 x4 x5 x6 x7 x8 x9 x13 x14 x16 x17 : Option Cell} : ∀ (ks : List D) (b : Nat) (m : List MO) (x12 x15 : Option Cell), Bx dg b m → b + ks.length < 2 ^ 39 →
    ∃ m' x12' x15', sLoop (gNm 12) body12 ks ⟨[x0, v (.ref 0), x2, v M, x4, x5, x6, x7, x8, x9, v X, v PL, x12, x13, x14, x15, x16, x17], m⟩ =
      .next ⟨[x0, v (.ref 0), x2, v M, x4, x5, x6, x7, x8, x9, v X, v PL, x12', x13, x14, x15', x16, x17], m'⟩ ∧ Bx dg (b + ks.length) m'
  | [], b, m, x12, x15, B, _ => ⟨m, x12, x15, rfl, B⟩
  | k :: ks, b, m, x12, x15, B, hb => by
    simp only [List.length_cons] at hb ⊢
    obtain ⟨W, w1, ne, w2⟩ := h m
    obtain ⟨d, m1, e1, hd, B1⟩ := pick_ok (cl := prog 99) (draw_ok dg 98) b m W B (by omega) ne
    have e1' : prog 100 46 [.ref 0, .lst W] m = .ok d m1 := e1
    obtain ⟨e2, e3⟩ := w2 d hd m1
    have l := like_ref m1
    obtain ⟨m2, y12, y15, e4, B2⟩ := l12 h (x0 := x0) (x2 := x2) (x4 := x4) (x5 := x5) (x6 := x6) (x7 := x7) (x8 := x8) (x9 := x9) (x13 := x13) (x14 := x14) (x16 := x16) (x17 := x17) ks (b + 1) m1 (v k) (v d) B1 (by omega)
    refine ⟨m2, y12, y15, ?_, B2.mono (by omega)⟩
    have st : body12 ⟨[x0, v (.ref 0), x2, v M, x4, x5, x6, x7, x8, x9, v X, v PL, v k, x13, x14, x15, x16, x17], m⟩ = .next ⟨[x0, v (.ref 0), x2, v M, x4, x5, x6, x7, x8, x9, v X, v PL, v k, x13, x14, v d, x16, x17], m1⟩ := by
      unfold body12
      unfold refT at e3 l
      simp [R.bind, R.stm, w1, e1', e2, e3, l, isBlD]
    unfold sLoop
    simp [st]
    exact e4
theorem md_cons {ms : Md} {rest : List Row} (hr : ms.map (·.1) = xRow :: rest) : ∃ e0 ms', ms = (xRow, e0) :: ms' := by
  cases ms with
  | nil => cases hr
  | cons q ms' =>
    simp only [List.map_cons, List.cons.injEq] at hr
    exact ⟨q.2, ms', by rw [← hr.1]⟩
theorem st12 {dg : List Int} {ms : Md} {rest : List Row} (hr : ms.map (·.1) = xRow :: rest) (hm : MdOk ms) {b : Nat} {m : List MO} {x0 x2 x4 x5 x6 x7 x8 x9 x14 : Option Cell} (B : Bx dg b m) (hb : b < 2 ^ 30) :
    ∃ m' x12' x15', law_12 (prog 100) ⟨[x0, v (.ref 0), x2, v (mdD ms), x4, x5, x6, x7, x8, x9, v xT, v (textD (xRow :: rest) []), none, none, x14, none, none, none], m⟩ =
      .next ⟨[x0, v (.ref 0), x2, v (mdD ms), x4, x5, x6, x7, x8, x9, v xT, v (textD (xRow :: rest) []), x12', none, x14, x15', none, none], m'⟩ ∧ Bx dg (b + 3) m' := by
  have hs : (xRow :: rest).Sublist allRows := hr ▸ hm.sub
  obtain ⟨e0, ms', hms⟩ := md_cons hr
  have hl3 : (rangeD 0 3).length = 3 := rfl
  have tx : ∀ (j : Nat), 41 ≤ j → ∀ m, prog j 21 [textD (xRow :: rest) []] m = .ok (.bl true) m := fun j hj m => text_at hs (by simp) (by simp) hj m
  obtain ⟨m', y12, y15, e, B'⟩ := l12 (dg := dg) (M := mdD ms) (PL := textD (xRow :: rest) []) (X := xT) (fun m => by
    obtain ⟨W, w1, ne, w2⟩ := wrong_ok hms hm 98 m
    refine ⟨W, w1, ne, fun d hd m => ?_⟩
    have bad := w2 d hd
    rw [hr] at bad
    have h1 := bad 99 [] m (by omega)
    have h2 := bad 97 [] m (by omega)
    refine ⟨im_no (cl := prog 99) (tx 99 (by omega) m) h1, ?_⟩
    exact tv_ref (cl := prog 99) (va_err (cl := prog 98) (sc_no (cl := prog 97) (sure_yes (cl := prog 96) (tx 96 (by omega) m)) h2))) (x0 := x0) (x2 := x2) (x4 := x4) (x5 := x5) (x6 := x6) (x7 := x7) (x8 := x8) (x9 := x9) (x13 := none) (x14 := x14) (x16 := none) (x17 := none) (rangeD 0 3) b m none none B (by rw [hl3]; omega)
  refine ⟨m', y12, y15, ?_, B'⟩
  have : law_12 (prog 100) = sFor (iArgs rng1 (aCons (eC (.int (3))) aNil)) (gNm 12) body12 := rfl
  rw [this]
  have sm : small62 3 = true := by decide
  generalize textD (xRow :: rest) [] = T at e ⊢
  generalize mdD ms = M at e ⊢
  simp [sFor, iArgs, rng1, sm, R.bind]
  exact e
theorem st13 {ms : Md} {rest : List Row} (hr : ms.map (·.1) = xRow :: rest) (hm : MdOk ms) {cs : List D} (hl : cs.length ≤ 12) (hc : ∀ c ∈ cs, Cn (xRow :: rest) c) {m : List MO} {x0 x1 x2 x4 x5 x7 x8 x9 x11 x12 x14 x15 : Option Cell} :
    law_13 (prog 100) ⟨[x0, x1, x2, v (mdD ms), x4, x5, v (textD (xRow :: rest) cs), x7, x8, x9, v xT, x11, x12, none, x14, x15, none, none], m⟩ =
      .next ⟨[x0, x1, x2, v (mdD ms), x4, x5, v (textD (xRow :: rest) cs), x7, x8, x9, v xT, x11, x12, none, x14, x15, none, none], m⟩ := by
  have hs : (xRow :: rest).Sublist allRows := hr ▸ hm.sub
  have h39 := sure_ok hr hm hl hc m
  have h18 : prog 98 18 [textD (xRow :: rest) cs] m = .ok (ownD (xRow :: rest)) m := own_ok (cl := prog 97) hs cs m
  have e1 : prog 100 58 [textD (xRow :: rest) cs, mdD ms, .tup [.str "cons", xT, xT]] m = .ok (badT "term") m :=
    tv_bad (cl := prog 99) (w := "term") (va_bad (cl := prog 98) h39 (by kernel_rfl) h18 (w_cons hs m))
  have e2 : prog 100 59 [textD (xRow :: rest) cs, mdD ms, .tup [.str "in", xT, xT]] m = .ok (badT "claim") m :=
    tt_bad (cl := prog 99) (w := "claim") (ha_bad (cl := prog 98) h39 (by kernel_rfl) h18 (w_in hs m))
  have l : prog 100 57 [.tup [badT "term", badT "claim"], .tup [badT "term", badT "claim"]] m = .ok (.bl true) m := by kernel_rfl
  unfold badT at e1 e2 l
  generalize textD (xRow :: rest) cs = T at e1 e2 ⊢
  generalize mdD ms = M at e1 e2 ⊢
  generalize xT = X at e1 e2 ⊢
  simp [law_13, R.bind, R.stm, e1, e2, l]
def toldT : D := .tup [badT "text", refT]
theorem st14 {ms : Md} {rest : List Row} (hr : ms.map (·.1) = xRow :: rest) (hm : MdOk ms) {cs : List D} {m : List MO} {x0 x1 x2 x4 x5 x7 x8 x9 x10 x12 x14 x15 : Option Cell} :
    law_14 (prog 100) ⟨[x0, x1, x2, v (mdD ms), x4, x5, v (textD (xRow :: rest) cs), x7, x8, x9, x10, v (textD (xRow :: rest) []), x12, none, x14, x15, none, none], m⟩ =
      .next ⟨[x0, x1, x2, v (mdD ms), x4, x5, v (textD (xRow :: rest) cs), x7, x8, x9, x10, v (textD (xRow :: rest) []), x12, v toldT, x14, x15, none, none], m⟩ := by
  have hs : (xRow :: rest).Sublist allRows := hr ▸ hm.sub
  have s1 : slD (textD (xRow :: rest) cs) none (some 3) = some (.tup [.str "text", .tup [.str "a"], .tup ((xRow :: rest).map rowD)]) := rfl
  have e1 : prog 100 59 [.tup [.str "text", .tup [.str "a"], .tup ((xRow :: rest).map rowD)], mdD ms, .tup [.str "true"]] m = .ok (badT "text") m :=
    tt_bad (cl := prog 99) (w := "text") (ha_err (cl := prog 98) (sc_text (cl := prog 97) (sure_no (cl := prog 96) (cut_text (xRow :: rest) 93 m))))
  have hch : prog 97 28 [.dct [] [], textD (xRow :: rest) []] m = .ok (.bl false) m := choice_len (k := 96) (n := 0) rfl rfl (by simp only [List.length_cons]; omega) m
  have e2 : prog 100 59 [textD (xRow :: rest) [], .dct [] [], .tup [.str "true"]] m = .ok refT m :=
    tt_ref (cl := prog 99) (ha_err (cl := prog 98) (sc_no (cl := prog 97) (sure_yes (cl := prog 96) (text_at hs (by simp) (by simp) (by omega) m)) hch))
  have t : toldT = .tup [badT "text", refT] := rfl
  rw [t]
  generalize badT "text" = Z1 at e1 ⊢
  generalize refT = Z2 at e2 ⊢
  generalize textD (xRow :: rest) cs = T at s1 ⊢
  generalize textD (xRow :: rest) [] = PL at e2 ⊢
  generalize (D.tup [.str "text", .tup [.str "a"], .tup ((xRow :: rest).map rowD)]) = H at s1 e1
  generalize mdD ms = M at e1 ⊢
  simp [law_14, R.bind, R.stm, s1, e1, e2, fDct0]
theorem st15 {m : List MO} {x0 x1 x2 x3 x4 x5 x6 x7 x8 x9 x10 x11 x12 x14 x15 : Option Cell} :
    ∃ s, law_15 (prog 100) ⟨[x0, x1, x2, x3, x4, x5, x6, x7, x8, x9, x10, x11, x12, v toldT, x14, x15, none, none], m⟩ = .ret (.bl true) s := by
  have l : prog 100 57 [toldT, toldT] m = .ok (.bl true) m := by kernel_rfl
  refine ⟨⟨[x0, x1, x2, x3, x4, x5, x6, x7, x8, x9, x10, x11, x12, v toldT, x14, x15, none, none], m⟩, ?_⟩
  have e : (eTup (aCons (eTup (aCons (eC (.str "bad")) (aCons (eC (.str "text")) aNil))) (aCons (eTup (aCons (eC (.str "refused")) (aCons (eC (.str "model")) aNil))) aNil))) ⟨[x0, x1, x2, x3, x4, x5, x6, x7, x8, x9, x10, x11, x12, v toldT, x14, x15, none, none], m⟩ = .ok toldT ⟨[x0, x1, x2, x3, x4, x5, x6, x7, x8, x9, x10, x11, x12, v toldT, x14, x15, none, none], m⟩ := rfl
  unfold law_15
  generalize (eTup (aCons (eTup (aCons (eC (.str "bad")) (aCons (eC (.str "text")) aNil))) (aCons (eTup (aCons (eC (.str "refused")) (aCons (eC (.str "model")) aNil))) aNil))) = E at e ⊢
  generalize toldT = Z at e l ⊢
  simp [R.bind, R.stm, e, l]
end K02
end

section
set_option Elab.async false
set_option linter.all false
set_option maxRecDepth 100000
set_option maxHeartbeats 4000000
namespace K02
open PySem PySem.Spec L2 PM
variable [PWc]
theorem sq {a b : S → Rs} {s s' : S} (h : a s = .next s') : sSeq a b s = b s' := by
  unfold sSeq
  rw [h]
/-- a claim turned about where it does not hold, holds -/
theorem turned_holds {M c : D} {b : Bool} {n : Nat} (h : H2 M c n b) {j : Nat} (hj : n + 1 ≤ j) (m : List MO) : prog j 38 [M, turned b c] m = .ok (.bl true) m := by
  cases b with
  | true => exact (h j m (by omega)).1
  | false =>
    obtain ⟨k, rfl⟩ : ∃ k, j = k + 1 := ⟨j - 1, by omega⟩
    have := (h_not (x := c) (b := false) (h k m (by omega))).1
    exact this
theorem turned_cn {rows : List Row} {c : D} {b : Bool} (h : Cm rows 1 2 c) : Cn rows (turned b c) := by
  cases b with
  | true => exact .pos h
  | false => exact .neg h
theorem model_told {ms : Md} {rest : List Row} (hr : ms.map (·.1) = xRow :: rest) (hm : MdOk ms) {a b : D} {p q : Bool} (ha : Cn (xRow :: rest) a) (hb : Cn (xRow :: rest) b) {m : List MO} (e1 : prog 99 38 [mdD ms, a] m = .ok (.bl p) m) (e2 : prog 99 38 [mdD ms, b] m = .ok (.bl q) m) :
    prog 100 42 [textD (xRow :: rest) [a, b], mdD ms] m = .ok (.bl (p && q)) m := by
  have hs : (xRow :: rest).Sublist allRows := hr ▸ hm.sub
  have hc : ∀ c ∈ [a, b], Cn (xRow :: rest) c := by
    intro c h
    simp only [List.mem_cons, List.not_mem_nil, or_false] at h
    rcases h with rfl | rfl
    · exact ha
    · exact hb
  have h2 : prog 99 28 [mdD ms, textD (xRow :: rest) [a, b]] m = .ok (.bl true) m := by
    have := choice_right hm (cs := [a, b]) 93 m
    rwa [hr] at this
  let g : D → Bool := fun c => match prog 99 38 [mdD ms, c] m with
    | .ok (.bl b) _ => b
    | _ => false
  have g1 : g a = p := by simp only [g, e1]
  have g2 : g b = q := by simp only [g, e2]
  have := im_all (cl := prog 99) (M := mdD ms) (m := m) (T := textD (xRow :: rest) [a, b]) (cs := [a, b]) (g := g) (text_at hs (by simp) hc (by omega) m) h2 (at3 _ _) (by simp) (fun c h => by
    simp only [List.mem_cons, List.not_mem_nil, or_false] at h
    rcases h with rfl | rfl
    · rw [g1]; exact e1
    · rw [g2]; exact e2)
  simp only [List.all_cons, List.all_nil, Bool.and_true, g1, g2] at this
  exact this
theorem plain : ∀ ns : List Int, ns.length ≤ 63 → ∃ m, PM.fnD 18 (body_law (prog KK)) [.frz (ns.map .int)] [] = .ok (.bl true) m := by
  intro ns _
  obtain ⟨dg, e1⟩ := st1 (ns := ns)
  have B0 : Bx dg 0 (boxM dg 0) := ⟨0, rfl, by omega, by omega⟩
  obtain ⟨rest, m2, e2, hs, B2⟩ := st2 (x0 := v (.frz (ns.map .int))) B0 (by decide)
  obtain ⟨ms, m3, e3, hr, hm, B3⟩ := st3 (x0 := v (.frz (ns.map .int))) hs B2 (by decide)
  obtain ⟨c1, c2, m4, e4, C1, C2, B4⟩ := st4 (x0 := v (.frz (ns.map .int))) (x3 := v (mdD ms)) (x4 := v sA) hs B3 (by decide) rfl
  have e5 := st5 (x0 := v (.frz (ns.map .int))) (x1 := v (.ref 0)) (x3 := v (mdD ms)) (x4 := v sA) (m := m4) (rest := rest) (c1 := c1) (c2 := c2)
  obtain ⟨m6, x7, x14, e6, B6⟩ := st6 hr hm C1 C2 (x0 := v (.frz (ns.map .int))) (x5 := v (.tup [c1, c2])) B4 (by decide)
  obtain ⟨b1, H1⟩ := holds_all hm (M := mdD ms) rfl (z := 1) (n := 2) (c := c1) (by rw [hr]; exact C1) (by omega)
  obtain ⟨b2, H2'⟩ := holds_all hm (M := mdD ms) rfl (z := 1) (n := 2) (c := c2) (by rw [hr]; exact C2) (by omega)
  have e7 := st7 (x0 := v (.frz (ns.map .int))) (x1 := v (.ref 0)) (x2 := v (.lst ((xRow :: rest).map rowD))) (x4 := v sA) (x6 := v (textD (xRow :: rest) [c1, c2])) (x7 := x7) (x14 := x14) (H1 100 m6 (by omega)).2 (H2' 100 m6 (by omega)).2 ?_
  have hc : ∀ c ∈ [c1, c2], Cn (xRow :: rest) c := by
    intro c h
    simp only [List.mem_cons, List.not_mem_nil, or_false] at h
    rcases h with rfl | rfl
    · exact .pos C1
    · exact .pos C2
  have e8 := st8 (x0 := v (.frz (ns.map .int))) (x1 := v (.ref 0)) (x2 := v (.lst ((xRow :: rest).map rowD))) (x4 := v sA) (x7 := x7) (x14 := x14) (told_cm hr hm (by simp) hc C1 H1 m6) (told_cm hr hm (by simp) hc C2 H2' m6) (model_told hr hm (.pos C1) (.pos C2) (H1 99 m6 (by omega)).1 (H2' 99 m6 (by omega)).1) ?_
  have e9 := st9 (rest := rest) (x0 := v (.frz (ns.map .int))) (x1 := v (.ref 0)) (x2 := v (.lst ((xRow :: rest).map rowD))) (x4 := v sA) (x7 := x7) (x8 := v (.tup [.bl b1, .bl b2])) (x14 := x14) (H1 100 m6 (by omega)).2 (H2' 100 m6 (by omega)).2 ?_
  have e10 := st10 (x0 := v (.frz (ns.map .int))) (x1 := v (.ref 0)) (x2 := v (.lst ((xRow :: rest).map rowD))) (x4 := v sA) (x5 := v (.tup [c1, c2])) (x6 := v (textD (xRow :: rest) [c1, c2])) (x7 := x7) (x8 := v (.tup [.bl b1, .bl b2])) (x14 := x14) (model_told hr hm (turned_cn C1) (turned_cn C2) (turned_holds H1 (j := 99) (by omega) m6) (turned_holds H2' (j := 99) (by omega) m6)) (numbers_ok 40 m6)
  have e11 := st11 (rest := rest) (c1 := c1) (c2 := c2) (x0 := v (.frz (ns.map .int))) (x1 := v (.ref 0)) (x2 := v (.lst ((xRow :: rest).map rowD))) (x3 := v (mdD ms)) (x4 := v sA) (x5 := v (.tup [c1, c2])) (x7 := x7) (x8 := v (.tup [.bl b1, .bl b2])) (x9 := v (textD (xRow :: rest) [turned b1 c1, turned b2 c2])) (x14 := x14) (m := m6)
  obtain ⟨m12, x12, x15, e12, B12⟩ := st12 hr hm (x0 := v (.frz (ns.map .int))) (x2 := v (.lst ((xRow :: rest).map rowD))) (x4 := v sA) (x5 := v (.tup [c1, c2])) (x6 := v (textD (xRow :: rest) [c1, c2])) (x7 := x7) (x8 := v (.tup [.bl b1, .bl b2])) (x9 := v (textD (xRow :: rest) [turned b1 c1, turned b2 c2])) (x14 := x14) B6 (by decide)
  have e13 := st13 hr hm (cs := [c1, c2]) (by simp) hc (m := m12) (x0 := v (.frz (ns.map .int))) (x1 := v (.ref 0)) (x2 := v (.lst ((xRow :: rest).map rowD))) (x4 := v sA) (x5 := v (.tup [c1, c2])) (x7 := x7) (x8 := v (.tup [.bl b1, .bl b2])) (x9 := v (textD (xRow :: rest) [turned b1 c1, turned b2 c2])) (x11 := v (textD (xRow :: rest) [])) (x12 := x12) (x14 := x14) (x15 := x15)
  have e14 := st14 hr hm (cs := [c1, c2]) (m := m12) (x0 := v (.frz (ns.map .int))) (x1 := v (.ref 0)) (x2 := v (.lst ((xRow :: rest).map rowD))) (x4 := v sA) (x5 := v (.tup [c1, c2])) (x7 := x7) (x8 := v (.tup [.bl b1, .bl b2])) (x9 := v (textD (xRow :: rest) [turned b1 c1, turned b2 c2])) (x10 := v xT) (x12 := x12) (x14 := x14) (x15 := x15)
  obtain ⟨s, e15⟩ := st15 (m := m12) (x0 := v (.frz (ns.map .int))) (x1 := v (.ref 0)) (x2 := v (.lst ((xRow :: rest).map rowD))) (x3 := v (mdD ms)) (x4 := v sA) (x5 := v (.tup [c1, c2])) (x6 := v (textD (xRow :: rest) [c1, c2])) (x7 := x7) (x8 := v (.tup [.bl b1, .bl b2])) (x9 := v (textD (xRow :: rest) [turned b1 c1, turned b2 c2])) (x10 := v xT) (x11 := v (textD (xRow :: rest) [])) (x12 := x12) (x14 := x14) (x15 := x15)
  · have h : body_law (prog 100) ⟨[v (.frz (ns.map .int)), none, none, none, none, none, none, none, none, none, none, none, none, none, none, none, none, none], []⟩ = .ret (.bl true) s := by
      unfold body_law
      rw [sq e1, sq e2, sq e3, sq e4, sq e5, sq e6, sq e7, sq e8, sq e9, sq e10, sq e11, sq e12, sq e13, sq e14, e15]
    refine ⟨s.mem, ?_⟩
    show fnD 18 (body_law (prog 100)) [.frz (ns.map .int)] [] = _
    unfold fnD
    have h' := h
    simp at h' ⊢
    rw [h']
  all_goals rfl
end K02
end

section
set_option Elab.async false
set_option linter.all false
open PySem PySem.W PyProof.Rows
set_option maxRecDepth 100000
set_option maxHeartbeats 0
theorem PM.apx_of {K : PM.KF} {mg : PySem.Str → Option PySem.Value} {h : PySem.Heap} {c1 c2 : PySem.Str} {C1 C2 : PySem.Addr} (X : K.In h) (G : h.Ns PySem.mainGlobals mg) (a1 : PySem.W.nsIn K PySem.mainGlobals c1 = some (some (.ref C1))) (a2 : PySem.W.nsIn K PySem.mainGlobals c2 = some (some (.ref C2))) (b : PySem.W.exmOne K (.ref C2) (.ref C1) = some false) : PM.ApX K mg c1 c2 :=
  ⟨⟨C1, C2, PySem.W.mg_of X G a1, PySem.W.mg_of X G a2, b⟩⟩
theorem PySem.Challenge.cw_joinsay_k02_values_hold_holds : PySem.Challenge.rw_joinsay_k02_values_hold.Holds := by
  w_on; o_law; k_head; (case hw => w_witness2)
  k_fill
  refine L2.walk_of (l := PySem.Challenge.rw_joinsay_k02_values_hold) (n := 63) (k := K02.KK + 1) (x := "script") (CX := fun w => L2.CX (PySem.Challenge.rw_joinsay_k02_values_hold).prog w) (sp := fun w => PM.spLaw (_)) rfl (by decide) rfl ⟨rfl, by decide, by decide⟩ (fun w h Y => PySem.W.kIn_of Y) ?F (fun _ _ a ns hl _ hS => ⟨a, ns, rfl, hS, hl, fun _ => rfl⟩) fun _ _ _ _ _ z => by
    obtain ⟨_, _, _, _, _, _, _, _, _, _, _, _, z⟩ := z
    exact z.elim
  case F =>
    intro w mg fa h KX G hmg
    letI : PM.PWc := ⟨(PySem.Challenge.rw_joinsay_k02_values_hold).prog, w⟩
    refine' K02.facts (P := (PySem.Challenge.rw_joinsay_k02_values_hold).prog) (w := w) rfl KX G hmg ?c ?k ?x0 ?x1 ?ap0 ?gc K02.plain
    (case c => show He.obsD _ _ _ = He.valD _; kernel_rfl)
    (case k => kernel_rfl)
    (case x0 =>
      refine' PM.clsX_of KX G ?aC ?iC ?lI ?lD ?vD ?lC ?b ?top ?hbd ?hev
      (case aC => k_is); (case iC => k_is); (case lI => k_is); (case lD => k_is); (case lC => k_is); (case vD => first | k_is | rfl); (case b => kernel_rfl); (case top => first | rfl | decide +kernel); (case hbd => exact fun _ _ => rfl)
      (case hev => exact fun env => ⟨_, rfl⟩))
    (case x1 =>
      refine' PM.clsX_of KX G ?aC ?iC ?lI ?lD ?vD ?lC ?b ?top ?hbd ?hev
      (case aC => k_is); (case iC => k_is); (case lI => k_is); (case lD => k_is); (case lC => k_is); (case vD => first | k_is | rfl); (case b => kernel_rfl); (case top => first | rfl | decide +kernel); (case hbd => exact fun _ _ => rfl)
      (case hev => exact fun env => ⟨_, rfl⟩))
    (case ap0 =>
      refine' PM.apx_of KX G ?a1 ?a2 ?b
      (case a1 => k_is); (case a2 => k_is); (case b => kernel_rfl))
    (case gc => k_is)
end
