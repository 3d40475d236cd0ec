import PyProof.Rows.All
import Wide.All
import OpenK.AllK
import Wide.FinOn
import PyProof.EqAt
import PyProof.EqKinds
import PyProof.TupleCall
import HandS.ForMost
import HandS.ForExc
import HandS.TupAny
import HandS.Lambda
import HandS.Wide
import HandS.Text
import HandS.Property
import HandS.Zip
import KE.GoesEnum
import KE.GoesZip
import KE.KFromBytes
import HandS.Base
import HandS.Call
import HandS.List
import HandS.Ends
import HandS.Exc
import HandS.ExcInit
import HandS.Defaults
import HandS.WordsExc
import HandS.IsInst
import HandS.ExcField
import HandS.ExcIs
import KE.KExcIs
import HandS.SetFor
import HandS.Star
import HandS.ClsMeth
import OpenK.KOps
import OpenK.KMeth
import HandS.Dict
import HandS.DictComp
import HandS.ListItems
import HandS.TupMul
import KE.KCallOwn
import KE.KTupSum
import KE.KOpsOwn
import KE.KUnpackStar
import HandS.Strs
import KE.KEqDict
import HandS.EndOwn
import HandS.NestedK
import KE.KSuper
import HandS.Nested
import PyProof.AttrMiss
import HandS.New0
import HandS.GenList
import KE.KDictList
import KE.KDflt
import HandS.Style
import HandS.TryMany
import KE.KRevSl
import HandS.Replace
import KE.GoesRaise
import PySem.Challenge.RW_barrelrow_k47_whole_daybooks
set_option Elab.async false
set_option linter.all false
set_option maxRecDepth 100000
/-! Ab: a second abstract layer over the hand layer. Tuples are values, lists and instances are cells of a store; each def becomes a plain Lean function (its mirror) and its promise says: hands back what the mirror computes. -/
namespace Ab
open PySem PySem.Spec L2

/-- the names of classes and attributes, by number -/
def nmT : List Str := (["RowError", "InvalidRow", "UnknownBarrel", "OtherRain", "InvalidNumber", "Contradiction", "InvalidWeather", "InvalidOperation"] : List Str) ++ (["InvalidText", "DaybookError", "DecodeError", "Stretch", "Flow", "Row", "RainObserver", "Weather"] : List Str) ++ (["SumWeather", "SteadyWeather", "SpellWeather", "StormWeather", "LiveRow", "Trial", "Daybook", "CodeReader"] : List Str) ++ (["part", "index", "name", "line", "offset", "weather", "parts", "begin"] : List Str) ++ (["count", "first_level", "step", "inflow", "capacity", "draws", "stretches", "settled"] : List Str) ++ (["row", "low", "high", "accepted", "amount", "wet", "dry", "first"] : List Str) ++ (["every", "one", "other", "plan", "water", "passed", "gone", "shut"] : List Str) ++ (["past", "future", "events", "code"] : List Str)
def nm (i : Nat) : Str := nmT.getD i ""
def nmN : Nat := nmT.length
theorem nmT_nodup : nmT.Nodup := by decide +kernel
theorem nm_inj {i j : Nat} (hi : i < nmN) (hj : j < nmN) (h : nm i = nm j) : i = j := by
  unfold nm at h
  rw [List.getD_eq_getElem?_getD, List.getD_eq_getElem?_getD, List.getElem?_eq_getElem hi, List.getElem?_eq_getElem hj] at h
  exact (List.getElem_inj nmT_nodup).mp h

inductive Val where
  | non | bl (b : Bool) | int (i : Int) | str (s : Str) | tup (xs : List Val) | ref (n : Nat) | gl (x : Nat) | adr (a : Addr)

/-- an exception of a class of the program: the class's global name, its own fields -/
structure Exc where
  cls : Nat
  fs : List (Nat × Val)

inductive Cell where
  | lst (xs : List Val)
  | frz (xs : List Val)
  | ins (C : Nat) (fs : List (Nat × Val))
  | dct (kvs : List (Key × Val))
  | fdc (kvs : List (Key × Val))
  | xfs (d : Addr) (fs : List (Nat × Val))

abbrev Store := List Cell
abbrev Slots := List (Option Val)

inductive R (α : Type) where
  | ok (a : α) (st : Store)
  | exc (x : Exc) (st : Store)
  | bad
inductive O where
  | nx (ρ : Slots) (st : Store)
  | ret (v : Val) (st : Store)
  | brk (ρ : Slots) (st : Store)
  | ct (ρ : Slots) (st : Store)
  | exc (x : Exc) (ρ : Slots) (st : Store)
  | bad

@[reducible] def R.bind {α β : Type} (r : R α) (f : α → Store → R β) : R β := match r with
  | .ok a st => f a st
  | .exc x st => .exc x st
  | .bad => .bad

abbrev ME := Slots → Store → R Val
abbrev MT := Slots → Store → R Bool
abbrev MA := Slots → Store → R (List Val)
abbrev MS := Slots → Store → O
abbrev MF := List Val → Store → R Val

/-! ### how values and cells lie in the abstract heap -/
section
variable (mg : Str → Option Value) (ι : List Addr) (H : Hp)
mutual
def Rep : Val → V → Prop
  | .non, v => v = .non
  | .bl b, v => v = .bl b
  | .int i, v => v = .int i
  | .str s, v => v = .str s
  | .tup xs, v => ∃ a vs, v = .ref a ∧ H a = some (.tup vs) ∧ Reps xs vs
  | .ref n, v => ∃ a, v = .ref a ∧ ι[n]? = some a
  | .gl x, v => ∃ a, v = .ref a ∧ mg (nm x) = some (.ref a)
  | .adr a, v => v = .ref a
def Reps : List Val → List V → Prop
  | [], vs => vs = []
  | x :: xs, vs => ∃ v r, vs = v :: r ∧ Rep x v ∧ Reps xs r
end
end

/-- fields, by name -/
def RepF (mg : Str → Option Value) (ι : List Addr) (H : Hp) : List (Nat × Val) → List (Str × V) → Prop := Paired fun p q => p.1 < nmN ∧ nm p.1 = q.1 ∧ Rep mg ι H p.2 q.2
def RepK (mg : Str → Option Value) (ι : List Addr) (H : Hp) : List (Key × Val) → List (Key × V) → Prop := Paired fun p q => p.1 = q.1 ∧ Rep mg ι H p.2 q.2

/-- a list of the written part -/
def KL (K : PySem.W.Frag) (a : Addr) (xs : List V) : Prop :=
  ∃ (o : Obj) (its : Array Value) (n : Nat), K.lookup a = some o ∧ o.cls = .type "list" ∧ o.dict = none ∧ o.data = .seq its n ∧ its.size ≤ sizeLine ∧ Vals xs its.toList
def CellOk (K : PySem.W.Frag) (mg : Str → Option Value) (ι : List Addr) (H : Hp) (a : Addr) : Cell → Prop
  | .lst xs => ∃ vs, H a = some (.lst vs) ∧ Reps mg ι H xs vs
  | .frz xs => ∃ vs, ((∃ o, H a = some (.frz o (.lst vs))) ∨ KL K a vs) ∧ Reps mg ι H xs vs
  | .ins C fs => ∃ Ca dx vs, mg (nm C) = some (.ref Ca) ∧ H a = some (.ins Ca dx vs) ∧ RepF mg ι H fs vs
  | .dct kvs => ∃ vs, H a = some (.dK vs) ∧ RepK mg ι H kvs vs
  | .fdc kvs => ∃ od vs, H a = some (.frz od (.dK vs)) ∧ RepK mg ι H kvs vs
  | .xfs d fs => a = d ∧ ∃ vs, H a = some (.xd vs) ∧ RepF mg ι H fs vs

def Cell.live : Cell → Bool
  | .frz _ => false
  | .xfs _ _ => false
  | _ => true

/-- the defs that make lambdas; the table of code objects of each -/
def lamNames : List Str := ["law", "_law_refused", "_law_changed"]
def tabOf (K : PySem.W.Frag) (mg : Str → Option Value) (x : Str) : Option (Addr × Str) := match mg x with
  | some (.ref f) => match K.lookup f with
    | some ⟨_, _, .func fd, _⟩ => match fd.code with
      | .ref c => match K.lookup c with
        | some ⟨_, _, .fields vs, _⟩ => match (vs[11]? : Option Value) with
          | some (Value.ref P) => some (P, x ++ ".<locals>." ++ "<lambda>")
          | _ => none
        | _ => none
      | _ => none
    | _ => none
  | _ => none
def tabsOf (K : PySem.W.Frag) (mg : Str → Option Value) : List (Addr × Str) := lamNames.filterMap (tabOf K mg)
structure Sim (K : PySem.W.Frag) (mg : Str → Option Value) (ι : List Addr) (st : Store) (H : Hp) : Prop where
  len : ι.length = st.length
  inj : ∀ (n m : Nat) (a : Addr) (c d : Cell), ι[n]? = some a → ι[m]? = some a → st[n]? = some c → st[m]? = some d → c.live = true → d.live = true → n = m
  cell : ∀ (n : Nat) (c : Cell) (a : Addr), st[n]? = some c → ι[n]? = some a → CellOk K mg ι H a c
  tabs : LamX.Tabs (tabsOf K mg) H

def SlotsOk (mg : Str → Option Value) (ι : List Addr) (H : Hp) (ρ : Slots) (σ : St) : Prop :=
  ρ.length = σ.length ∧ ∀ (i : Nat) (w : Val), ρ[i]? = some (some w) → ∃ v, σ[i]? = some (some v) ∧ Rep mg ι H w v

/-- what stays as it is: a frozen thing, a thing told by a fact of its own -/
def Stay : HO → Prop
  | .frz _ _ => True
  | .ext _ => True
  | _ => False
structure Later (ι : List Addr) (H : Hp) (ι' : List Addr) (H' : Hp) : Prop where
  pre : ∃ more, ι' = ι ++ more
  tups : ∀ b xs, H b = some (.tup xs) → H' b = some (.tup xs)
  frzs : ∀ b u, Stay u → H b = some u → H' b = some u

theorem Later.refl (ι : List Addr) (H : Hp) : Later ι H ι H := ⟨⟨[], by simp⟩, fun _ _ h => h, fun _ _ _ h => h⟩
theorem Later.trans {ι ι1 ι2 : List Addr} {H H1 H2 : Hp} (a : Later ι H ι1 H1) (b : Later ι1 H1 ι2 H2) : Later ι H ι2 H2 := by
  obtain ⟨m1, e1⟩ := a.pre
  obtain ⟨m2, e2⟩ := b.pre
  exact ⟨⟨m1 ++ m2, by rw [e2, e1, List.append_assoc]⟩, fun c xs h => b.tups c xs (a.tups c xs h), fun c o k h => b.frzs c o k (a.frzs c o k h)⟩
theorem Later.get {ι ι' : List Addr} {H H' : Hp} (l : Later ι H ι' H') {n : Nat} {a : Addr} (h : ι[n]? = some a) : ι'[n]? = some a := by
  obtain ⟨m, e⟩ := l.pre
  rw [e, List.getElem?_append_left (List.getElem?_eq_some_iff.mp h).1]
  exact h

section
variable {mg : Str → Option Value} {ι ι' : List Addr} {H H' : Hp}
mutual
theorem Rep.later (l : Later ι H ι' H') : ∀ {w : Val} {v : V}, Rep mg ι H w v → Rep mg ι' H' w v
  | .non, _, h => by simpa [Rep] using h
  | .bl _, _, h => by simpa [Rep] using h
  | .int _, _, h => by simpa [Rep] using h
  | .str _, _, h => by simpa [Rep] using h
  | .tup xs, v, h => by
    rw [Rep] at h ⊢
    obtain ⟨a, vs, e, ha, hr⟩ := h
    exact ⟨a, vs, e, l.tups _ _ ha, Reps.later l hr⟩
  | .ref n, v, h => by
    rw [Rep] at h ⊢
    obtain ⟨a, e, ha⟩ := h
    exact ⟨a, e, l.get ha⟩
  | .gl x, v, h => by simpa [Rep] using h
  | .adr _, _, h => by simpa [Rep] using h
theorem Reps.later (l : Later ι H ι' H') : ∀ {ws : List Val} {vs : List V}, Reps mg ι H ws vs → Reps mg ι' H' ws vs
  | [], _, h => by simpa [Reps] using h
  | w :: ws, vs, h => by
    rw [Reps] at h ⊢
    obtain ⟨v, r, e, h1, h2⟩ := h
    exact ⟨v, r, e, Rep.later l h1, Reps.later l h2⟩
end
theorem RepF.later (l : Later ι H ι' H') : ∀ {ws : List (Nat × Val)} {vs : List (Str × V)}, RepF mg ι H ws vs → RepF mg ι' H' ws vs
  | _, _, .nil => .nil
  | _, _, .cons h t => .cons ⟨h.1, h.2.1, h.2.2.later l⟩ (RepF.later l t)
theorem RepK.later (l : Later ι H ι' H') : ∀ {ws : List (Key × Val)} {vs : List (Key × V)}, RepK mg ι H ws vs → RepK mg ι' H' ws vs
  | _, _, .nil => .nil
  | _, _, .cons h t => .cons ⟨h.1, h.2.later l⟩ (RepK.later l t)
theorem SlotsOk.later (l : Later ι H ι' H') {ρ : Slots} {σ : St} (h : SlotsOk mg ι H ρ σ) : SlotsOk mg ι' H' ρ σ :=
  ⟨h.1, fun i w e => let ⟨v, e2, r⟩ := h.2 i w e; ⟨v, e2, r.later l⟩⟩
theorem SlotsOk.set {ρ : Slots} {σ : St} (h : SlotsOk mg ι H ρ σ) (i : Nat) {w : Val} {v : V} (r : Rep mg ι H w v) : SlotsOk mg ι H (ρ.set i (some w)) (σ.set i (some v)) := by
  refine ⟨by simp [h.1], fun j u e => ?_⟩
  by_cases hj : i = j
  · subst hj
    rw [List.getElem?_set] at e
    by_cases hl : i < ρ.length
    · simp [hl] at e
      subst e
      exact ⟨v, by rw [List.getElem?_set]; simp [← h.1, hl], r⟩
    · simp [hl] at e
  · rw [List.getElem?_set_ne hj] at e
    obtain ⟨v', e2, r'⟩ := h.2 j u e
    exact ⟨v', by rw [List.getElem?_set_ne hj]; exact e2, r'⟩
theorem Reps.length : ∀ {ws : List Val} {vs : List V}, Reps mg ι H ws vs → ws.length = vs.length
  | [], _, h => by rw [Reps] at h; subst h; rfl
  | w :: ws, vs, h => by
    rw [Reps] at h
    obtain ⟨v, r, e, _, h2⟩ := h
    subst e
    simp [Reps.length h2]
theorem Reps.nil : Reps mg ι H [] [] := by rw [Reps]
theorem Reps.cons {w : Val} {ws : List Val} {v : V} {vs : List V} (h : Rep mg ι H w v) (t : Reps mg ι H ws vs) : Reps mg ι H (w :: ws) (v :: vs) := by
  rw [Reps]; exact ⟨v, vs, rfl, h, t⟩
theorem Reps.of_cons {w : Val} {ws : List Val} {vs : List V} (h : Reps mg ι H (w :: ws) vs) : ∃ v r, vs = v :: r ∧ Rep mg ι H w v ∧ Reps mg ι H ws r := by
  rw [Reps] at h; exact h
theorem Reps.of_nil {vs : List V} (h : Reps mg ι H [] vs) : vs = [] := by rw [Reps] at h; exact h
theorem Reps.append : ∀ {ws ws' : List Val} {vs vs' : List V}, Reps mg ι H ws vs → Reps mg ι H ws' vs' → Reps mg ι H (ws ++ ws') (vs ++ vs')
  | [], _, _, _, h, h' => by rw [h.of_nil]; exact h'
  | w :: ws, _, _, _, h, h' => by
    obtain ⟨v, r, e, h1, h2⟩ := h.of_cons
    subst e
    exact .cons h1 (Reps.append h2 h')
theorem Reps.get : ∀ {ws : List Val} {vs : List V} {i : Nat} {w : Val}, Reps mg ι H ws vs → ws[i]? = some w → ∃ v, vs[i]? = some v ∧ Rep mg ι H w v
  | [], _, _, _, _, e => by simp at e
  | w :: ws, _, 0, _, h, e => by
    obtain ⟨v, r, e1, h1, h2⟩ := h.of_cons
    subst e1
    simp at e; subst e
    exact ⟨v, rfl, h1⟩
  | w :: ws, _, i + 1, u, h, e => by
    obtain ⟨v, r, e1, h1, h2⟩ := h.of_cons
    subst e1
    obtain ⟨v', e2, r2⟩ := Reps.get (i := i) h2 (by simpa using e)
    exact ⟨v', by simpa using e2, r2⟩
theorem Reps.get' {ws : List Val} {vs : List V} {i : Nat} {v : V} (h : Reps mg ι H ws vs) (e : vs[i]? = some v) : ∃ w, ws[i]? = some w ∧ Rep mg ι H w v := by
  have hl : i < ws.length := by rw [h.length]; exact (List.getElem?_eq_some_iff.mp e).1
  obtain ⟨v', e2, r⟩ := h.get (List.getElem?_eq_getElem hl)
  rw [e] at e2; cases e2
  exact ⟨_, List.getElem?_eq_getElem hl, r⟩
theorem Reps.set {w : Val} {v : V} (r : Rep mg ι H w v) : ∀ {ws : List Val} {vs : List V} (i : Nat), Reps mg ι H ws vs → Reps mg ι H (ws.set i w) (vs.set i v)
  | [], _, _, h => by rw [h.of_nil]; exact .nil
  | _ :: _, _, 0, h => by
    obtain ⟨_, _, e, _, h2⟩ := h.of_cons
    subst e
    exact .cons r h2
  | _ :: _, _, i + 1, h => by
    obtain ⟨_, _, e, h1, h2⟩ := h.of_cons
    subst e
    exact .cons h1 (Reps.set r i h2)
theorem Reps.drop : ∀ {ws : List Val} {vs : List V} (n : Nat), Reps mg ι H ws vs → Reps mg ι H (ws.drop n) (vs.drop n)
  | _, _, 0, h => by simpa using h
  | [], _, n + 1, h => by rw [h.of_nil]; exact .nil
  | _ :: _, _, n + 1, h => by
    obtain ⟨_, _, e, _, h2⟩ := h.of_cons
    subst e
    simpa using Reps.drop n h2
theorem Reps.take : ∀ {ws : List Val} {vs : List V} (n : Nat), Reps mg ι H ws vs → Reps mg ι H (ws.take n) (vs.take n)
  | _, _, 0, h => by simpa using Reps.nil
  | [], _, n + 1, h => by rw [h.of_nil]; exact .nil
  | _ :: _, _, n + 1, h => by
    obtain ⟨_, _, e, h1, h2⟩ := h.of_cons
    subst e
    simpa using Reps.cons h1 (Reps.take n h2)
theorem RepF.lookup {f : Nat} {w : Val} (hf : f < nmN) : ∀ {ws : List (Nat × Val)} {vs : List (Str × V)}, RepF mg ι H ws vs → ws.lookup f = some w → ∃ v, vs.lookup (nm f) = some v ∧ Rep mg ι H w v
  | _, _, .nil, e => by simp at e
  | (n, u) :: ws, _, .cons (b := (n', v)) h t, e => by
    obtain ⟨h0, h1, h2⟩ := h
    simp only at h0 h1 h2
    subst h1
    rw [List.lookup_cons] at e ⊢
    by_cases q : f = n
    · subst q
      simp only [beq_self_eq_true] at e ⊢
      cases e
      exact ⟨v, rfl, h2⟩
    · have q1 : (f == n) = false := beq_eq_false_iff_ne.mpr q
      have q2 : (nm f == nm n) = false := beq_eq_false_iff_ne.mpr fun z => q (nm_inj hf h0 z)
      rw [q1] at e
      rw [q2]
      exact RepF.lookup hf t e
/-- a name that no attribute of ours has -/
theorem RepF.lookup_other {m : Str} (hm : m ∉ nmT) : ∀ {ws : List (Nat × Val)} {vs : List (Str × V)}, RepF mg ι H ws vs → vs.lookup m = none
  | _, _, .nil => by simp
  | (n, u) :: ws, _, .cons (b := (n', v)) h t => by
    obtain ⟨h0, h1, h2⟩ := h
    simp only at h0 h1 h2
    subst h1
    rw [List.lookup_cons]
    have q2 : (m == nm n) = false := beq_eq_false_iff_ne.mpr fun z => hm (by
      rw [z]
      unfold nm
      rw [List.getD_eq_getElem?_getD, List.getElem?_eq_getElem h0]
      exact List.getElem_mem _)
    rw [q2]
    exact RepF.lookup_other hm t
def putM (f : Nat) (w : Val) : List (Nat × Val) → List (Nat × Val)
  | [] => [(f, w)]
  | (g, u) :: r => if g = f then (f, w) :: r else (g, u) :: putM f w r
theorem RepF.put {f : Nat} {w : Val} {v : V} (hf : f < nmN) (r : Rep mg ι H w v) : ∀ {ws : List (Nat × Val)} {vs : List (Str × V)}, RepF mg ι H ws vs → RepF mg ι H (putM f w ws) (putF (nm f) v vs)
  | _, _, .nil => .cons ⟨hf, rfl, r⟩ .nil
  | (n, u) :: ws, _, .cons (b := (n', v')) h t => by
    obtain ⟨h0, h1, h2⟩ := h
    simp only at h0 h1 h2
    subst h1
    unfold putM putF
    by_cases q : n = f
    · subst q
      rw [if_pos rfl, if_pos rfl]
      exact .cons ⟨hf, rfl, r⟩ t
    · rw [if_neg q, if_neg fun z => q (nm_inj h0 hf z)]
      exact .cons ⟨h0, rfl, h2⟩ (RepF.put hf r t)
theorem RepF.length : ∀ {ws : List (Nat × Val)} {vs : List (Str × V)}, RepF mg ι H ws vs → ws.length = vs.length
  | _, _, .nil => rfl
  | _, _, .cons _ t => by simp [RepF.length t]
end

/-! ### changes of the heap -/
section
variable {K : PySem.W.Frag} {mg : Str → Option Value} {ι : List Addr} {st : Store} {H : Hp}
theorem CellOk.keep {ι' : List Addr} {H' : Hp} {a : Addr} {c : Cell} (x : CellOk K mg ι H a c) (l : Later ι H ι' H') (h : ∀ o, H a = some o → H' a = some o) : CellOk K mg ι' H' a c := by
  cases c with
  | lst xs => obtain ⟨vs, e, r⟩ := x; exact ⟨vs, h _ e, r.later l⟩
  | frz xs =>
    obtain ⟨vs, e, r⟩ := x
    refine ⟨vs, ?_, r.later l⟩
    rcases e with ⟨o, e⟩ | e
    · exact .inl ⟨o, h _ e⟩
    · exact .inr e
  | ins C fs => obtain ⟨Ca, dx, vs, e1, e2, r⟩ := x; exact ⟨Ca, dx, vs, e1, h _ e2, r.later l⟩
  | dct kvs => obtain ⟨vs, e, r⟩ := x; exact ⟨vs, h _ e, r.later l⟩
  | fdc kvs => obtain ⟨od, vs, e, r⟩ := x; exact ⟨od, vs, h _ e, r.later l⟩
  | xfs d fs => obtain ⟨ed, vs, e, r⟩ := x; exact ⟨ed, vs, h _ e, r.later l⟩
theorem CellOk.later {ι' : List Addr} {a : Addr} {c : Cell} (x : CellOk K mg ι H a c) (l : Later ι H ι' H) : CellOk K mg ι' H a c := x.keep l fun _ e => e
/-- all that was tracked is kept -/
theorem Same.laterH {H' : Hp} (s : Same H H') : Later ι H ι H' := ⟨⟨[], by simp⟩, fun b xs e => s b _ e, fun b o ks e => s b _ e⟩
theorem Sim.same {H' : Hp} (S : Sim K mg ι st H) (s : Same H H') : Sim K mg ι st H' :=
  ⟨S.len, S.inj, fun n d a h1 h2 => (S.cell n d a h1 h2).keep (Same.laterH s) fun o => s a o, S.tabs.ext s⟩
theorem same_new {p : Addr} {o : HO} (hp : H p = none) : Same H (upd H p o) := fun b u e => by rw [upd_ne (ne_of_none e hp)]; exact e
theorem Rep.newTup {p : Addr} {xs : List Val} {vs : List V} (hp : H p = none) (r : Reps mg ι H xs vs) : Rep mg ι (upd H p (.tup vs)) (.tup xs) (.ref p) := by
  rw [Rep]
  exact ⟨p, vs, rfl, upd_same, r.later (Same.laterH (same_new hp))⟩
theorem live_tracked (S : Sim K mg ι st H) {n : Nat} {c : Cell} {a : Addr} (h1 : st[n]? = some c) (h2 : ι[n]? = some a) (hl : c.live = true) : ∃ o, H a = some o := by
  have z := S.cell n c a h1 h2
  cases c with
  | lst xs => obtain ⟨vs, e, _⟩ := z; exact ⟨_, e⟩
  | frz xs => cases hl
  | ins C fs => obtain ⟨_, _, _, _, e, _⟩ := z; exact ⟨_, e⟩
  | dct kvs => obtain ⟨vs, e, _⟩ := z; exact ⟨_, e⟩
  | fdc kvs => obtain ⟨od, vs, e, _⟩ := z; exact ⟨_, e⟩
  | xfs d fs => cases hl
/-- a new cell -/
theorem Sim.push {p : Addr} {c : Cell} (S : Sim K mg ι st H) (hp : H p = none) {H' : Hp} (hs : Same H H')
    (hc : CellOk K mg (ι ++ [p]) H' p c) : Sim K mg (ι ++ [p]) (st ++ [c]) H' ∧ Later ι H (ι ++ [p]) H' := by
  have L : Later ι H (ι ++ [p]) H' := ⟨⟨[p], rfl⟩, fun b xs e => hs b _ e, fun b o ks e => hs b _ e⟩
  have old : ∀ n a, (ι ++ [p])[n]? = some a → n < st.length → ι[n]? = some a := fun n a e hl => by
    rw [List.getElem?_append_left (by rw [S.len]; exact hl)] at e; exact e
  have last : ∀ n a, (ι ++ [p])[n]? = some a → n = st.length → a = p := fun n a e hl => by
    rw [hl, ← S.len, List.getElem?_append_right (Nat.le_refl _)] at e
    simpa using e.symm
  have split : ∀ n d, (st ++ [c])[n]? = some d → (st[n]? = some d ∧ n < st.length) ∨ (n = st.length ∧ d = c) := fun n d e => by
    by_cases hl : n < st.length
    · rw [List.getElem?_append_left hl] at e; exact .inl ⟨e, hl⟩
    · rw [List.getElem?_append_right (by omega)] at e
      have : n - st.length = 0 := by
        by_cases q : n - st.length = 0
        · exact q
        · rw [List.getElem?_eq_none (by simp; omega)] at e; cases e
      rw [this] at e
      simp at e
      exact .inr ⟨by omega, e.symm⟩
  refine ⟨⟨by simp [S.len], fun n m a d e h1 h2 h3 h4 l1 l2 => ?_, fun n d a h1 h2 => ?_, S.tabs.ext hs⟩, L⟩
  · rcases split n d h3 with ⟨q1, z1⟩ | ⟨q1, z1⟩ <;> rcases split m e h4 with ⟨q2, z2⟩ | ⟨q2, z2⟩
    · exact S.inj n m a d e (old n a h1 z1) (old m a h2 z2) q1 q2 l1 l2
    · exfalso
      obtain ⟨u, hu⟩ := live_tracked S q1 (old n a h1 z1) l1
      rw [last m a h2 q2, hp] at hu; cases hu
    · exfalso
      obtain ⟨u, hu⟩ := live_tracked S q2 (old m a h2 z2) l2
      rw [last n a h1 q1, hp] at hu; cases hu
    · omega
  · rcases split n d h1 with ⟨q1, z1⟩ | ⟨q1, z1⟩
    · exact (S.cell n d a q1 (old n a h2 z1)).keep L fun o e => hs a o e
    · rw [last n a h2 q1, z1]
      exact hc
/-- a cell is written -/
theorem Sim.write {n : Nat} {c c' : Cell} {a : Addr} {o o' : HO} (S : Sim K mg ι st H) (h1 : st[n]? = some c) (h2 : ι[n]? = some a) (hl : c.live = true) (hl' : c'.live = true) (ho : H a = some o) (hnt : ∀ xs, o ≠ .tup xs)
    (hnf : ∀ ob xs, o ≠ .frz ob (.lst xs)) (hc : CellOk K mg ι (upd H a o') a c') (hnd : ¬ Stay o := by exact fun z => z) : Sim K mg ι (st.set n c') (upd H a o') ∧ Later ι H ι (upd H a o') := by
  have L : Later ι H ι (upd H a o') := ⟨⟨[], by simp⟩, fun b xs e => by
    rw [upd_ne fun q => by subst q; rw [ho] at e; cases e; exact hnt _ rfl]
    exact e, fun b ob ks e => by
    rw [upd_ne fun q => by subst q; rw [ho] at e; cases e; exact hnd ks]
    exact e⟩
  have hlen : n < st.length := (List.getElem?_eq_some_iff.mp h1).1
  have at_ : ∀ m d, (st.set n c')[m]? = some d → (m = n ∧ d = c') ∨ (m ≠ n ∧ st[m]? = some d) := fun m d e => by
    by_cases q : m = n
    · subst q
      rw [List.getElem?_set_self hlen] at e
      exact .inl ⟨rfl, (Option.some.inj e).symm⟩
    · rw [List.getElem?_set_ne (Ne.symm q)] at e
      exact .inr ⟨q, e⟩
  refine ⟨⟨by simp [S.len], fun i j b d e q1 q2 q3 q4 l1 l2 => ?_, fun m d b q1 q2 => ?_, ?_⟩, L⟩
  · rcases at_ i d q3 with ⟨x1, y1⟩ | ⟨x1, y1⟩ <;> rcases at_ j e q4 with ⟨x2, y2⟩ | ⟨x2, y2⟩
    · omega
    · subst x1
      exact S.inj i j b c e q1 q2 h1 y2 hl l2
    · subst x2
      exact S.inj i j b d c q1 q2 y1 h1 l1 hl
    · exact S.inj i j b d e q1 q2 y1 y2 l1 l2
  · rcases at_ m d q1 with ⟨x1, y1⟩ | ⟨x1, y1⟩
    · subst x1 y1
      rw [h2] at q2; cases q2
      exact hc
    · have z := S.cell m d b y1 q2
      by_cases hb : b = a
      · subst hb
        cases hd : d.live with
        | true => exact absurd (S.inj m n b d c q2 h2 y1 h1 hd hl) x1
        | false =>
          cases d with
          | frz xs =>
            obtain ⟨vs, e, r⟩ := z
            rcases e with ⟨ob, e⟩ | e
            · rw [ho] at e; cases e; exact absurd rfl (hnf _ _)
            · exact ⟨vs, .inr e, r.later L⟩
          | xfs d' fs =>
            obtain ⟨_, vs, e, r⟩ := z
            have zz := S.cell n c b h1 h2
            cases c with
            | lst xs => obtain ⟨_, e', _⟩ := zz; rw [e] at e'; cases e'
            | frz xs => cases hl
            | ins C fs => obtain ⟨_, _, _, _, e', _⟩ := zz; rw [e] at e'; cases e'
            | dct kvs => obtain ⟨_, e', _⟩ := zz; rw [e] at e'; cases e'
            | fdc kvs => obtain ⟨_, _, e', _⟩ := zz; rw [e] at e'; cases e'
            | xfs d fs => cases hl
          | _ => cases hd
      · exact z.keep L fun u e => by rw [upd_ne hb]; exact e
  · have hno : ∀ u, u ≠ o → ∀ b, H b = some u → upd H a o' b = some u := fun u hu b e => by
      rw [upd_ne fun q => by subst q; rw [ho] at e; exact hu (Option.some.inj e).symm]
      exact e
    have kind : (∀ ps, HO.tbl ps ≠ o) ∧ ∀ c q, LamX.CodeO c q ≠ o := by
      have z := S.cell n c a h1 h2
      cases c with
      | lst xs => obtain ⟨vs, e, _⟩ := z; rw [ho] at e; cases e; exact ⟨(fun _ q => by cases q), (fun _ _ q => by unfold LamX.CodeO at q; cases q)⟩
      | frz xs => cases hl
      | xfs d fs => cases hl
      | ins C fs => obtain ⟨_, _, _, _, e, _⟩ := z; rw [ho] at e; cases e; exact ⟨(fun _ q => by cases q), (fun _ _ q => by unfold LamX.CodeO at q; cases q)⟩
      | dct kvs => obtain ⟨vs, e, _⟩ := z; rw [ho] at e; cases e; exact ⟨(fun _ q => by cases q), (fun _ _ q => by unfold LamX.CodeO at q; cases q)⟩
      | fdc kvs => obtain ⟨od, vs, e, _⟩ := z; rw [ho] at e; cases e; exact ⟨(fun _ q => by cases q), (fun _ _ q => by unfold LamX.CodeO at q; cases q)⟩
    intro p hp
    obtain ⟨ps, t1, t2, t3⟩ := S.tabs p hp
    refine ⟨ps, hno _ (kind.1 ps) _ t1, t2, fun pos cv hc => ?_⟩
    obtain ⟨c', e1, e2⟩ := t3 pos cv hc
    exact ⟨c', e1, hno _ (kind.2 _ _) _ e2⟩
end

/-! ### the judgements -/
def ExcRep (mg : Str → Option Value) (ι : List Addr) (H : Hp) (x : Exc) (c : Value) (d : Option Addr) : Prop :=
  ∃ a, mg (nm x.cls) = some (.ref a) ∧ c = .ref a ∧ ((x.fs = [] ∧ d = none) ∨ ∃ da vs, d = some da ∧ H da = some (.xd vs) ∧ RepF mg ι H x.fs vs)

/-- what a mirror's result asks -/
def Post {α β : Type} (K : PySem.W.Frag) (mg : Str → Option Value) (rel : List Addr → Hp → α → β → Prop) (ι : List Addr) (H : Hp) (Q : β → Hp → Prop) (E : Value → Option Addr → Hp → Prop) : R α → Prop
  | .ok a st' => ∀ ι' H' b, Later ι H ι' H' → Sim K mg ι' st' H' → rel ι' H' a b → Q b H'
  | .exc x st' => ∀ ι' H' c d, Later ι H ι' H' → Sim K mg ι' st' H' → ExcRep mg ι' H' x c d → E c d H'
  | .bad => False
theorem Post.later {α β : Type} {K : PySem.W.Frag} {mg : Str → Option Value} {rel : List Addr → Hp → α → β → Prop} {ι ι1 : List Addr} {H H1 : Hp} {Q : β → Hp → Prop} {E : Value → Option Addr → Hp → Prop} {r : R α}
    (p : Post K mg rel ι H Q E r) (l : Later ι H ι1 H1) : Post K mg rel ι1 H1 Q E r := by
  cases r with
  | ok a st' => exact fun ι' H' b l' S r => p ι' H' b (l.trans l') S r
  | exc x st' => exact fun ι' H' c d l' S r => p ι' H' c d (l.trans l') S r
  | bad => exact p
theorem Post.bind {α β α' β' : Type} {K : PySem.W.Frag} {mg : Str → Option Value} {rel : List Addr → Hp → α → β → Prop} {rel' : List Addr → Hp → α' → β' → Prop} {ι : List Addr} {H : Hp} {Q : β' → Hp → Prop} {Q1 : β → Hp → Prop} {E : Value → Option Addr → Hp → Prop} {r : R α}
    {f : α → Store → R α'} (p : Post K mg rel' ι H Q E (r.bind f))
    (k : ∀ a st1 ι1 H1 b, Later ι H ι1 H1 → Sim K mg ι1 st1 H1 → rel ι1 H1 a b → Post K mg rel' ι1 H1 Q E (f a st1) → Q1 b H1) : Post K mg rel ι H Q1 E r := by
  cases r with
  | ok a st1 => exact fun ι1 H1 b l S r => k a st1 ι1 H1 b l S r (Post.later p l)
  | exc x st1 => exact p
  | bad => exact p

def rdG {α β : Type} (K : PySem.W.Frag) (mg : Str → Option Value) (rel : List Addr → Hp → α → β → Prop) (W : WX) (m : Slots → Store → R α) : St → Hp → (β → Hp → Prop) → Prop := fun σ H Q =>
  ∃ ι ρ st, Sim K mg ι st H ∧ SlotsOk mg ι H ρ σ ∧ Post K mg rel ι H Q (fun c d H' => W c d σ H') (m ρ st)
abbrev rel1 (mg : Str → Option Value) : List Addr → Hp → Val → V → Prop := fun ι H => Rep mg ι H
abbrev relB : List Addr → Hp → Bool → Bool → Prop := fun _ _ a b => a = b
abbrev relL (mg : Str → Option Value) : List Addr → Hp → List Val → List V → Prop := fun ι H => Reps mg ι H

/-- what a statement's mirror asks -/
def PostO (K : PySem.W.Frag) (mg : Str → Option Value) (W : WX) (ι : List Addr) (H : Hp) (D : Ends) : O → Prop
  | .nx ρ st => ∀ ι' H' σ', Later ι H ι' H' → Sim K mg ι' st H' → SlotsOk mg ι' H' ρ σ' → D.nx σ' H'
  | .ret w st => ∀ ι' H' v, Later ι H ι' H' → Sim K mg ι' st H' → Rep mg ι' H' w v → D.rt v H'
  | .brk ρ st => ∀ ι' H' σ', Later ι H ι' H' → Sim K mg ι' st H' → SlotsOk mg ι' H' ρ σ' → D.bk σ' H'
  | .ct ρ st => ∀ ι' H' σ', Later ι H ι' H' → Sim K mg ι' st H' → SlotsOk mg ι' H' ρ σ' → D.ct σ' H'
  | .exc x ρ st => ∀ ι' H' σ' c d, Later ι H ι' H' → Sim K mg ι' st H' → SlotsOk mg ι' H' ρ σ' → ExcRep mg ι' H' x c d → W c d σ' H'
  | .bad => False
theorem PostO.later {K : PySem.W.Frag} {mg : Str → Option Value} {W : WX} {ι ι1 : List Addr} {H H1 : Hp} {D : Ends} {r : O} (p : PostO K mg W ι H D r) (l : Later ι H ι1 H1) : PostO K mg W ι1 H1 D r := by
  cases r with
  | nx ρ st => exact fun ι' H' σ' l' => p ι' H' σ' (l.trans l')
  | ret w st => exact fun ι' H' v l' => p ι' H' v (l.trans l')
  | brk ρ st => exact fun ι' H' σ' l' => p ι' H' σ' (l.trans l')
  | ct ρ st => exact fun ι' H' σ' l' => p ι' H' σ' (l.trans l')
  | exc x ρ st => exact fun ι' H' σ' c d l' => p ι' H' σ' c d (l.trans l')
  | bad => exact p
def rdS (K : PySem.W.Frag) (mg : Str → Option Value) (W : WX) (m : MS) : TS := fun D σ H =>
  ∃ ι ρ st, Sim K mg ι st H ∧ SlotsOk mg ι H ρ σ ∧ PostO K mg W ι H D (m ρ st)

def JE (X : Cx) (e : Expr) (m : ME) : Prop := ∀ W, Takes X W → PE X e (rdG X.K X.mg (rel1 X.mg) W m)
def JT (X : Cx) (e : Expr) (m : MT) : Prop := ∀ W, Takes X W → PT X e (rdG X.K X.mg relB W m)
def JA (X : Cx) (es : List Expr) (m : MA) : Prop := ∀ W, Takes X W → PA X es (rdG X.K X.mg (relL X.mg) W m)
def JS (X : Cx) (s : Stmt) (m : MS) : Prop := ∀ W, Takes X W → PS X s (rdS X.K X.mg W m)
def JSs (X : Cx) (s : List Stmt) (m : MS) : Prop := ∀ W, Takes X W → PSs X s (rdS X.K X.mg W m)

theorem PE.weak {X : Cx} {e : Expr} {t t' : TE} (h : PE X e t) (w : ∀ σ H Q, t' σ H Q → t σ H Q) : PE X e t' := ⟨fun pins s σ H Q I q => h.run pins s σ H Q I (w σ H Q q)⟩
theorem PT.weak {X : Cx} {e : Expr} {t t' : TT} (h : PT X e t) (w : ∀ σ H Q, t' σ H Q → t σ H Q) : PT X e t' := ⟨fun pins s σ H Q I q => h.run pins s σ H Q I (w σ H Q q)⟩
theorem PA.weak {X : Cx} {e : List Expr} {t t' : TA} (h : PA X e t) (w : ∀ σ H Q, t' σ H Q → t σ H Q) : PA X e t' := ⟨fun pos pins s σ H Q I q => h.run pos pins s σ H Q I (w σ H Q q)⟩
theorem PS.weak {X : Cx} {e : Stmt} {t t' : TS} (h : PS X e t) (w : ∀ D σ H, t' D σ H → t D σ H) : PS X e t' := ⟨fun pins s σ H D I q => h.run pins s σ H D I (w D σ H q)⟩
theorem PSs.weak {X : Cx} {e : List Stmt} {t t' : TS} (h : PSs X e t) (w : ∀ D σ H, t' D σ H → t D σ H) : PSs X e t' := ⟨fun pins s σ H D I q => h.run pins s σ H D I (w D σ H q)⟩
end Ab

set_option Elab.async false
set_option linter.all false
set_option maxRecDepth 100000
/-! Ab: expressions. -/
namespace Ab
open PySem PySem.Spec L2

/-! ### the end of a mirrored expression -/
section
variable {α β α' β' : Type} {K : PySem.W.Frag} {mg : Str → Option Value} {rel : List Addr → Hp → α → β → Prop} {rel' : List Addr → Hp → α' → β' → Prop} {ι : List Addr} {H : Hp} {W : WX} {σ : L2.St} {st : Store}
/-- where the next reading stands -/
theorem rdG.mk {m : Slots → Store → R α} {ρ : Slots} {Q : β → Hp → Prop} (S : Sim K mg ι st H) (sl : SlotsOk mg ι H ρ σ) (p : Post K mg rel ι H Q (fun c d H' => W c d σ H') (m ρ st)) : rdG K mg rel W m σ H Q := ⟨ι, ρ, st, S, sl, p⟩
theorem Post.okSame {a : α} {b : β} {Q : β → Hp → Prop} {E : Value → Option Addr → Hp → Prop} (p : Post K mg rel ι H Q E (.ok a st)) (S : Sim K mg ι st H) (r : rel ι H a b) : Q b H := p ι H b (Later.refl _ _) S r
/-- a new tuple -/
theorem Post.newTup {xs : List Val} {vs : List V} {Q : V → Hp → Prop} {E : Value → Option Addr → Hp → Prop} (p : Post K mg (rel1 mg) ι H Q E (.ok (.tup xs) st)) (S : Sim K mg ι st H) (r : Reps mg ι H xs vs) {q : Addr} (hq : H q = none) : Q (.ref q) (upd H q (.tup vs)) :=
  p ι _ _ (Same.laterH (same_new hq)) (S.same (same_new hq)) (Rep.newTup hq r)
/-- a new list -/
theorem Post.newLst {xs : List Val} {vs : List V} {Q : V → Hp → Prop} {E : Value → Option Addr → Hp → Prop} (p : Post K mg (rel1 mg) ι H Q E (.ok (.ref st.length) (st ++ [.lst xs]))) (S : Sim K mg ι st H) (r : Reps mg ι H xs vs) {q : Addr} (hq : H q = none) : Q (.ref q) (upd H q (.lst vs)) := by
  have hs := same_new (o := .lst vs) hq
  obtain ⟨S', L⟩ := S.push (p := q) (c := .lst xs) hq hs ⟨vs, upd_same, r.later ⟨⟨[q], rfl⟩, fun b ys e => hs b _ e, fun b o ks e => hs b _ e⟩⟩
  refine p _ _ _ L S' ?_
  show Rep mg _ _ (.ref st.length) (.ref q)
  rw [Rep]
  exact ⟨q, rfl, by rw [← S.len, List.getElem?_append_right (Nat.le_refl _)]; simp⟩
end

/-! ### names and constants -/
@[reducible] def mVar (i : Nat) : ME := fun ρ st => match ρ[i]? with
  | some (some w) => .ok w st
  | _ => .bad
@[reducible] def mC (w : Val) : ME := fun _ st => .ok w st
section
variable {X : Cx} {pos : Pos}
theorem je_var {i : Nat} {x : Str} (hN : X.N[i]? = some x := by rfl) (hv : Vis X.env.scope x := by first | exact Or.inl rfl | exact Or.inr (Or.inl rfl) | exact Or.inr (Or.inr rfl)) (hd : (x == ("__debug__" : Str)) = false := by decide)
    (hcd : (x == ("__classdict__" : Str)) = false := by decide) : JE X (.Name x pos) (mVar i) := fun W tk => by
  refine PE.weak (pe_var hN hv hd hcd) fun σ H Q ⟨ι, ρ, st, S, sl, p⟩ => ?_
  show ∃ v, σ[i]? = some (some v) ∧ Q v H
  dsimp only [mVar] at p
  split at p
  · rename_i w e
    obtain ⟨v, e2, r⟩ := sl.2 i w e
    exact ⟨v, e2, p.okSame S r⟩
  · exact p.elim
theorem je_int {i j} : JE X (.Constant (.int i) j pos) (mC (.int i)) := fun W tk => PE.weak pe_int fun σ H Q ⟨ι, ρ, st, S, sl, p⟩ => Post.okSame (b := V.int i) p S (by show Rep _ _ _ _ _; rw [Rep])
theorem je_bl {b j} : JE X (.Constant (.bool b) j pos) (mC (.bl b)) := fun W tk => PE.weak pe_bl fun σ H Q ⟨ι, ρ, st, S, sl, p⟩ => Post.okSame (b := V.bl b) p S (by show Rep _ _ _ _ _; rw [Rep])
theorem je_non {j} : JE X (.Constant .none j pos) (mC .non) := fun W tk => PE.weak pe_non fun σ H Q ⟨ι, ρ, st, S, sl, p⟩ => Post.okSame (b := V.non) p S (by show Rep _ _ _ _ _; rw [Rep])
theorem je_str {x j} : JE X (.Constant (.str x) j pos) (mC (.str x)) := fun W tk => PE.weak pe_str fun σ H Q ⟨ι, ρ, st, S, sl, p⟩ => Post.okSame (b := V.str x) p S (by show Rep _ _ _ _ _; rw [Rep])
/-- a constant of the module: an int, a text -/
theorem je_globI {x : Str} {i : Int} (hm : ∃ t, X.mg x = some (.int i t)) (hg : Gl X x := by rfl) (hd : (x == ("__debug__" : Str)) = false := by decide) : JE X (.Name x pos) (mC (.int i)) := fun W tk => by
  obtain ⟨t, hm⟩ := hm
  exact PE.weak (pe_glob (v := .int i) hg hm ⟨t, rfl⟩ hd) fun σ H Q ⟨ι, ρ, st, S, sl, p⟩ => Post.okSame (b := V.int i) p S (by show Rep _ _ _ _ _; rw [Rep])
theorem je_globS {x : Str} {z : Str} (hm : ∃ t, X.mg x = some (.str z t)) (hg : Gl X x := by rfl) (hd : (x == ("__debug__" : Str)) = false := by decide) : JE X (.Name x pos) (mC (.str z)) := fun W tk => by
  obtain ⟨t, hm⟩ := hm
  exact PE.weak (pe_glob (v := .str z) hg hm ⟨t, rfl⟩ hd) fun σ H Q ⟨ι, ρ, st, S, sl, p⟩ => Post.okSame (b := V.str z) p S (by show Rep _ _ _ _ _; rw [Rep])
end

/-! ### operators -/
/-- two values -/
def r2 (K : PySem.W.Frag) (mg : Str → Option Value) (g : Val → Val → Store → R Val) : R2 := fun x y H Q =>
  ∃ ι st w1 w2, Sim K mg ι st H ∧ Rep mg ι H w1 x ∧ Rep mg ι H w2 y ∧ Post K mg (rel1 mg) ι H Q (fun _ _ _ => False) (g w1 w2 st)
def M2 (X : Cx) (f : Value → Value → Sem Value) (g : Val → Val → Store → R Val) : Prop := OpR X f (r2 X.K X.mg g)
theorem noExc {α β : Type} {K : PySem.W.Frag} {mg : Str → Option Value} {rel : List Addr → Hp → α → β → Prop} {ι : List Addr} {H : Hp} {Q : β → Hp → Prop} {E : Value → Option Addr → Hp → Prop} {r : R α} (h : ∀ x st, r ≠ .exc x st)
    (p : Post K mg rel ι H Q E r) : Post K mg rel ι H Q (fun _ _ _ => False) r := by
  cases r with
  | ok a st => exact p
  | exc x st => exact absurd rfl (h x st)
  | bad => exact p
/-- an operation that raises nothing -/
def Quiet {α : Type} (r : R α) : Prop := ∀ x st, r ≠ .exc x st
@[reducible] def mBin (g : Val → Val → Store → R Val) (a b : ME) : ME := fun ρ st => (a ρ st).bind fun x st1 => (b ρ st1).bind fun y st2 => g x y st2
theorem JE.bin {X : Cx} {e a b : Expr} {g : Val → Val → Store → R Val} {ma mb : ME} (hq : ∀ x y st, Quiet (g x y st)) (ha : JE X a ma) (hb : JE X b mb)
    (h : ∀ ta tb, PE X a ta → PE X b tb → PE X e (tOp (r2 X.K X.mg g) ta tb)) : JE X e (mBin g ma mb) := fun W tk => by
  refine PE.weak (h _ _ (ha W tk) (hb W tk)) fun σ H Q ⟨ι, ρ, st, S, sl, p⟩ => ?_
  refine ⟨ι, ρ, st, S, sl, Post.bind p fun w1 st1 ι1 H1 x l1 S1 r1 p1 => ?_⟩
  refine ⟨ι1, ρ, st1, S1, sl.later l1, Post.bind p1 fun w2 st2 ι2 H2 y l2 S2 r2 p2 => ?_⟩
  exact ⟨ι2, st2, w1, w2, S2, Rep.later l2 r1, r2, noExc (hq _ _ _) p2⟩
theorem je_op {X : Cx} {a b : Expr} {op : Operator} {pos : Pos} {g : Val → Val → Store → R Val} {ma mb : ME} (ho : M2 X (binaryOp op) g) (hq : ∀ x y st, Quiet (g x y st)) (ha : JE X a ma) (hb : JE X b mb) : JE X (.BinOp a op b pos) (mBin g ma mb) :=
  JE.bin hq ha hb fun _ _ h1 h2 => pe_op ho h1 h2
theorem je_cmp {X : Cx} {a b : Expr} {op : CmpOp} {pos : Pos} {g : Val → Val → Store → R Val} {ma mb : ME} (ho : M2 X (compareOp op) g) (hq : ∀ x y st, Quiet (g x y st)) (ha : JE X a ma) (hb : JE X b mb) (hm : behindInMarks op b = false := by first | exact nomark _ | rfl) :
    JE X (.Compare a [op] [b] pos) (mBin g ma mb) :=
  JE.bin hq ha hb fun _ _ h1 h2 => pe_cmpR ho h1 h2 hm

/-- two ints -/
theorem Rep.int_inv {mg : Str → Option Value} {ι : List Addr} {H : Hp} {i : Int} {v : V} (h : Rep mg ι H (.int i) v) : v = .int i := by rw [Rep] at h; exact h
theorem Rep.str_inv {mg : Str → Option Value} {ι : List Addr} {H : Hp} {i : Str} {v : V} (h : Rep mg ι H (.str i) v) : v = .str i := by rw [Rep] at h; exact h
theorem Rep.bl_inv {mg : Str → Option Value} {ι : List Addr} {H : Hp} {i : Bool} {v : V} (h : Rep mg ι H (.bl i) v) : v = .bl i := by rw [Rep] at h; exact h
theorem Rep.non_inv {mg : Str → Option Value} {ι : List Addr} {H : Hp} {v : V} (h : Rep mg ι H .non v) : v = .non := by rw [Rep] at h; exact h
theorem Rep.tup_inv {mg : Str → Option Value} {ι : List Addr} {H : Hp} {xs : List Val} {v : V} (h : Rep mg ι H (.tup xs) v) : ∃ a vs, v = .ref a ∧ H a = some (.tup vs) ∧ Reps mg ι H xs vs := by rw [Rep] at h; exact h
theorem Rep.ref_inv {mg : Str → Option Value} {ι : List Addr} {H : Hp} {n : Nat} {v : V} (h : Rep mg ι H (.ref n) v) : ∃ a, v = .ref a ∧ ι[n]? = some a := by rw [Rep] at h; exact h
theorem Rep.gl_inv {mg : Str → Option Value} {ι : List Addr} {H : Hp} {x : Nat} {v : V} (h : Rep mg ι H (.gl x) v) : ∃ a, v = .ref a ∧ mg (nm x) = some (.ref a) := by rw [Rep] at h; exact h
theorem Rep.int {mg : Str → Option Value} {ι : List Addr} {H : Hp} {i : Int} : Rep mg ι H (.int i) (.int i) := by rw [Rep]
theorem Rep.str {mg : Str → Option Value} {ι : List Addr} {H : Hp} {i : Str} : Rep mg ι H (.str i) (.str i) := by rw [Rep]
theorem Rep.bl {mg : Str → Option Value} {ι : List Addr} {H : Hp} {i : Bool} : Rep mg ι H (.bl i) (.bl i) := by rw [Rep]
theorem Rep.non {mg : Str → Option Value} {ι : List Addr} {H : Hp} : Rep mg ι H .non .non := by rw [Rep]
theorem Rep.tup {mg : Str → Option Value} {ι : List Addr} {H : Hp} {xs : List Val} {a : Addr} {vs : List V} (h : H a = some (.tup vs)) (r : Reps mg ι H xs vs) : Rep mg ι H (.tup xs) (.ref a) := by rw [Rep]; exact ⟨a, vs, rfl, h, r⟩
theorem Rep.ref {mg : Str → Option Value} {ι : List Addr} {H : Hp} {n : Nat} {a : Addr} (h : ι[n]? = some a) : Rep mg ι H (.ref n) (.ref a) := by rw [Rep]; exact ⟨a, rfl, h⟩
theorem Rep.gl {mg : Str → Option Value} {ι : List Addr} {H : Hp} {x : Nat} {a : Addr} (h : mg (nm x) = some (.ref a)) : Rep mg ι H (.gl x) (.ref a) := by rw [Rep]; exact ⟨a, rfl, h⟩
/-- the cell behind a reference -/
theorem Sim.at {K : PySem.W.Frag} {mg : Str → Option Value} {ι : List Addr} {st : Store} {H : Hp} (S : Sim K mg ι st H) {n : Nat} {c : Cell} (h : st[n]? = some c) {a : Addr} (ha : ι[n]? = some a) : CellOk K mg ι H a c := S.cell n c a h ha
theorem CellOk.seq {K : PySem.W.Frag} {mg : Str → Option Value} {ι : List Addr} {H : Hp} {a : Addr} {xs : List Val} (h : CellOk K mg ι H a (.frz xs)) : ∃ vs, SqL K H a vs ∧ Reps mg ι H xs vs := by
  obtain ⟨vs, e, r⟩ := h
  exact ⟨vs, e.elim (fun ⟨o, e⟩ => .inl (.inr ⟨o, e⟩)) .inr, r⟩
theorem CellOk.lst {K : PySem.W.Frag} {mg : Str → Option Value} {ι : List Addr} {H : Hp} {a : Addr} {xs : List Val} (h : CellOk K mg ι H a (.lst xs)) : ∃ vs, H a = some (.lst vs) ∧ Reps mg ι H xs vs := h
/-- the items of a list that is read -/
@[reducible] def seqAt (st : Store) (n : Nat) : Option (List Val) := match st[n]? with
  | some (.lst xs) => some xs
  | some (.frz xs) => some xs
  | _ => none
theorem Sim.seqL {K : PySem.W.Frag} {mg : Str → Option Value} {ι : List Addr} {st : Store} {H : Hp} (S : Sim K mg ι st H) {n : Nat} {xs : List Val} (h : seqAt st n = some xs) {a : Addr} (ha : ι[n]? = some a) : ∃ vs, SqL K H a vs ∧ Reps mg ι H xs vs := by
  unfold seqAt at h
  split at h
  · rename_i ys e
    cases h
    obtain ⟨vs, e1, r⟩ := S.at e ha
    exact ⟨vs, SqL.of e1, r⟩
  · rename_i ys e
    cases h
    exact (S.at e ha).seq
  · cases h

@[reducible] def vAdd : Val → Val → Store → R Val
  | .int i, .int j, st => .ok (.int (i + j)) st
  | .str a, .str b, st => if a.length + b.length ≤ sizeLine then .ok (.str (a ++ b)) st else .bad
  | .tup xs, .tup ys, st => if xs.length + ys.length ≤ sizeLine then .ok (.tup (xs ++ ys)) st else .bad
  | .ref n, .ref m, st => match st[n]?, st[m]? with
    | some (.lst xs), some (.lst ys) => if xs.length + ys.length ≤ sizeLine then .ok (.ref st.length) (st ++ [.lst (xs ++ ys)]) else .bad
    | _, _ => .bad
  | _, _, _ => .bad
@[reducible] def vSub : Val → Val → Store → R Val
  | .int i, .int j, st => .ok (.int (i - j)) st
  | _, _, _ => .bad
def mulOk (i j : Int) : Bool := (decide (-(2 ^ 64) < i) && decide (i < 2 ^ 64)) || (decide (-(2 ^ 64) < j) && decide (j < 2 ^ 64))
theorem mulOk_iff {i j : Int} : mulOk i j = true ↔ CMul i j := by
  unfold mulOk CMul
  simp only [Bool.or_eq_true, Bool.and_eq_true, decide_eq_true_eq]
@[reducible] def vMul : Val → Val → Store → R Val
  | .int i, .int j, st => if mulOk i j = true then .ok (.int (i * j)) st else .bad
  | _, _, _ => .bad
@[reducible] def vDiv : Val → Val → Store → R Val
  | .int i, .int j, st => if 0 < j ∧ j < 2 ^ 100 then .ok (.int (i / j)) st else .bad
  | _, _, _ => .bad
@[reducible] def vMod : Val → Val → Store → R Val
  | .int i, .int j, st => if 0 < j then .ok (.int (i % j)) st else .bad
  | _, _, _ => .bad
@[reducible] def vPow : Val → Val → Store → R Val
  | .int i, .int j, st => if 0 ≤ j ∧ j ≤ 1000000 ∧ i.natAbs < 2 ^ 64 then .ok (.int (i ^ j.toNat)) st else .bad
  | _, _, _ => .bad
@[reducible] def vCmpI (p : Int → Int → Bool) : Val → Val → Store → R Val
  | .int i, .int j, st => .ok (.bl (p i j)) st
  | _, _, _ => .bad
@[reducible] def vLt : Val → Val → Store → R Val := vCmpI fun i j => decide (i < j)
@[reducible] def vGt : Val → Val → Store → R Val := vCmpI fun i j => decide (j < i)
@[reducible] def vGe : Val → Val → Store → R Val := vCmpI fun i j => decide (j ≤ i)
@[reducible] def vLe : Val → Val → Store → R Val
  | .int i, .int j, st => .ok (.bl (decide (i ≤ j))) st
  | .str a, .str b, st => .ok (.bl (!decide (b.cps.toList < a.cps.toList))) st
  | _, _, _ => .bad
@[reducible] def vIsN : Val → Val → Store → R Val
  | .ref _, .non, st => .ok (.bl false) st
  | .tup _, .non, st => .ok (.bl false) st
  | .non, .non, st => .ok (.bl true) st
  | .int _, .non, st => .ok (.bl false) st
  | .str _, .non, st => .ok (.bl false) st
  | .bl _, .non, st => .ok (.bl false) st
  | .gl _, .non, st => .ok (.bl false) st
  | _, _, _ => .bad
@[reducible] def vNotN : Val → Val → Store → R Val
  | .ref _, .non, st => .ok (.bl true) st
  | .tup _, .non, st => .ok (.bl true) st
  | .non, .non, st => .ok (.bl false) st
  | .int _, .non, st => .ok (.bl true) st
  | .str _, .non, st => .ok (.bl true) st
  | .bl _, .non, st => .ok (.bl true) st
  | .gl _, .non, st => .ok (.bl true) st
  | _, _, _ => .bad

section
variable {X : Cx}
theorem m2_int {f : Value → Value → Sem Value} {g : Int → Int → V} {C : Int → Int → Prop} (ho : OpR X f (rI C g)) {v : Val → Val → Store → R Val} {G : Int → Int → Val} (hG : ∀ mg ι H i j, Rep mg ι H (G i j) (g i j))
    (h1 : ∀ i j st, v (.int i) (.int j) st = .bad ∨ (C i j ∧ v (.int i) (.int j) st = .ok (G i j) st)) (h2 : ∀ a b st, (∀ i j, ¬ (a = .int i ∧ b = .int j)) → v a b st = .bad) : M2 X f v := by
  rintro pins s σ H x y u1 u2 Q I rx ry ⟨ι, st, w1, w2, S, r1, r2, p⟩
  by_cases hi : ∃ i j, w1 = .int i ∧ w2 = .int j
  · obtain ⟨i, j, e1, e2⟩ := hi
    subst e1 e2
    have e1 := r1.int_inv; have e2 := r2.int_inv
    subst e1 e2
    rcases h1 i j st with hb | ⟨hc, hb⟩
    · rw [hb] at p; exact p.elim
    · rw [hb] at p
      exact ho pins s σ H _ _ u1 u2 Q I rx ry ⟨i, j, rfl, rfl, hc, p.okSame S (hG _ _ _ _ _)⟩
  · rw [h2 w1 w2 st fun i j e => hi ⟨i, j, e.1, e.2⟩] at p
    exact p.elim
theorem rI0_rI {f : Value → Value → Sem Value} {g : Int → Int → V} (ho : OpR X f (rI0 g)) : OpR X f (rI (fun _ _ => True) g) := fun pins s σ H x y v u Q I rx ry ⟨i, j, e1, e2, _, q⟩ => ho pins s σ H x y v u Q I rx ry ⟨i, j, e1, e2, q⟩
theorem m2_sub : M2 X (binaryOp .Sub) vSub := m2_int (rI0_rI op_sub) (G := fun i j => .int (i - j)) (fun _ _ _ _ _ => Rep.int) (fun i j st => .inr ⟨trivial, rfl⟩) fun a b st h => by
  cases a <;> cases b <;> first | rfl | exact absurd ⟨rfl, rfl⟩ (h _ _)
theorem m2_mul : M2 X (binaryOp .Mult) vMul := m2_int op_mul (G := fun i j => .int (i * j)) (fun _ _ _ _ _ => Rep.int) (fun i j st => by
  by_cases h : mulOk i j = true
  · exact .inr ⟨mulOk_iff.mp h, if_pos h⟩
  · exact .inl (if_neg h)) fun a b st h => by
  cases a <;> cases b <;> first | rfl | exact absurd ⟨rfl, rfl⟩ (h _ _)
theorem m2_div : M2 X (binaryOp .FloorDiv) vDiv := m2_int op_fdivW (G := fun i j => .int (i / j)) (fun _ _ _ _ _ => Rep.int) (fun i j st => by
  by_cases h : 0 < j ∧ j < 2 ^ 100
  · refine .inr ⟨wide_div h.1 (b := 100) ?_ (by decide) (by decide), if_pos h⟩
    have h2 : ((j.natAbs : Nat) : Int) < ((2 ^ 100 : Nat) : Int) := by
      rw [Int.natAbs_of_nonneg (Int.le_of_lt h.1)]
      exact_mod_cast h.2
    exact_mod_cast h2
  · exact .inl (if_neg h)) fun a b st h => by
  cases a <;> cases b <;> first | rfl | exact absurd ⟨rfl, rfl⟩ (h _ _)
theorem m2_mod : M2 X (binaryOp .Mod) vMod := m2_int op_mod (G := fun i j => .int (i % j)) (fun _ _ _ _ _ => Rep.int) (fun i j st => by
  by_cases h : 0 < j
  · exact .inr ⟨h, if_pos h⟩
  · exact .inl (if_neg h)) fun a b st h => by
  cases a <;> cases b <;> first | rfl | exact absurd ⟨rfl, rfl⟩ (h _ _)
theorem m2_pow : M2 X (binaryOp .Pow) vPow := m2_int op_pow (G := fun i j => .int (i ^ j.toNat)) (fun _ _ _ _ _ => Rep.int) (fun i j st => by
  by_cases h : 0 ≤ j ∧ j ≤ 1000000 ∧ i.natAbs < 2 ^ 64
  · exact .inr ⟨h, if_pos h⟩
  · exact .inl (if_neg h)) fun a b st h => by
  cases a <;> cases b <;> first | rfl | exact absurd ⟨rfl, rfl⟩ (h _ _)
theorem m2_lt : M2 X (compareOp .Lt) vLt := m2_int (rI0_rI op_lt) (G := fun i j => .bl (decide (i < j))) (fun _ _ _ _ _ => Rep.bl) (fun i j st => .inr ⟨trivial, rfl⟩) fun a b st h => by
  cases a <;> cases b <;> first | rfl | exact absurd ⟨rfl, rfl⟩ (h _ _)
theorem m2_gt : M2 X (compareOp .Gt) vGt := m2_int (rI0_rI op_gt) (G := fun i j => .bl (decide (j < i))) (fun _ _ _ _ _ => Rep.bl) (fun i j st => .inr ⟨trivial, rfl⟩) fun a b st h => by
  cases a <;> cases b <;> first | rfl | exact absurd ⟨rfl, rfl⟩ (h _ _)
theorem m2_ge : M2 X (compareOp .GtE) vGe := m2_int (rI0_rI op_ge) (G := fun i j => .bl (decide (j ≤ i))) (fun _ _ _ _ _ => Rep.bl) (fun i j st => .inr ⟨trivial, rfl⟩) fun a b st h => by
  cases a <;> cases b <;> first | rfl | exact absurd ⟨rfl, rfl⟩ (h _ _)
theorem m2_le : M2 X (compareOp .LtE) vLe := by
  rintro pins s σ H x y u1 u2 Q I rx ry ⟨ι, st, w1, w2, S, r1, r2, p⟩
  cases w1 with
  | int i =>
    cases w2 with
    | int j =>
      have e1 := r1.int_inv; have e2 := r2.int_inv
      subst e1 e2
      exact op_le pins s σ H _ _ u1 u2 Q I rx ry ⟨i, j, rfl, rfl, p.okSame S Rep.bl⟩
    | _ => exact p.elim
  | str i =>
    cases w2 with
    | str j =>
      have e1 := r1.str_inv; have e2 := r2.str_inv
      subst e1 e2
      exact op_le_str pins s σ H _ _ u1 u2 Q I rx ry ⟨i, j, rfl, rfl, p.okSame S Rep.bl⟩
    | _ => exact p.elim
  | _ => exact p.elim
theorem m2_add : M2 X (binaryOp .Add) vAdd := by
  rintro pins s σ H x y u1 u2 Q I rx ry ⟨ι, st, w1, w2, S, r1, r2, p⟩
  cases w1 with
  | int i =>
    cases w2 with
    | int j =>
      have e1 := r1.int_inv; have e2 := r2.int_inv
      subst e1 e2
      exact op_add pins s σ H _ _ u1 u2 Q I rx ry ⟨i, j, rfl, rfl, p.okSame S Rep.int⟩
    | _ => exact p.elim
  | str i =>
    cases w2 with
    | str j =>
      have e1 := r1.str_inv; have e2 := r2.str_inv
      subst e1 e2
      dsimp only [vAdd] at p
      split at p
      · rename_i hl
        exact op_add_str pins s σ H _ _ u1 u2 Q I rx ry ⟨i, j, rfl, rfl, hl, p.okSame S Rep.str⟩
      · exact p.elim
    | _ => exact p.elim
  | tup xs =>
    cases w2 with
    | tup ys =>
      obtain ⟨a, vs, e1, ha, q1⟩ := r1.tup_inv
      obtain ⟨b, us, e2, hb, q2⟩ := r2.tup_inv
      subst e1 e2
      dsimp only [vAdd] at p
      split at p
      · rename_i hl
        refine op_catA pins s σ H _ _ u1 u2 Q I rx ry ⟨a, b, vs, us, rfl, rfl, SqT.of ha, SqT.of hb, by rw [← q1.length, ← q2.length]; exact hl, fun e => ?_, fun e1 e2 => ?_, fun e1 e2 p' hp => ?_⟩
        · have : xs = [] := by have := q1.length; rw [e] at this; simpa using this
          subst this
          exact p.okSame S (Rep.tup hb q2)
        · have : ys = [] := by have := q2.length; rw [e2] at this; simpa using this
          subst this
          rw [List.append_nil] at p
          exact p.okSame S (Rep.tup ha q1)
        · exact p.newTup S (q1.append q2) hp
      · exact p.elim
    | _ => exact p.elim
  | ref n =>
    cases w2 with
    | ref m =>
      obtain ⟨a, e1, ha⟩ := r1.ref_inv
      obtain ⟨b, e2, hb⟩ := r2.ref_inv
      subst e1 e2
      dsimp only [vAdd] at p
      split at p
      · rename_i xs ys g1 g2
        obtain ⟨vs, h1, q1⟩ := S.at g1 ha
        obtain ⟨us, h2, q2⟩ := S.at g2 hb
        split at p
        · rename_i hl
          exact op_cat pins s σ H _ _ u1 u2 Q I rx ry ⟨a, b, vs, us, rfl, rfl, h1, h2, by rw [← q1.length, ← q2.length]; exact hl, fun p' hp => p.newLst S (q1.append q2) hp⟩
        · exact p.elim
      · exact p.elim
    | _ => exact p.elim
  | _ => exact p.elim
theorem m2_isN : M2 X (compareOp .Is) vIsN := by
  rintro pins s σ H x y u1 u2 Q I rx ry ⟨ι, st, w1, w2, S, r1, r2, p⟩
  cases w2 with
  | non =>
    have e2 := r2.non_inv
    subst e2
    refine op_isN pins s σ H _ _ u1 u2 Q I rx ry ⟨rfl, ?_⟩
    cases w1 with
    | non => have e := r1.non_inv; subst e; exact p.okSame S Rep.bl
    | int i => have e := r1.int_inv; subst e; exact p.okSame S Rep.bl
    | bl i => have e := r1.bl_inv; subst e; exact p.okSame S Rep.bl
    | str i => have e := r1.str_inv; subst e; exact p.okSame S Rep.bl
    | tup i => obtain ⟨_, _, e, _⟩ := r1.tup_inv; subst e; exact p.okSame S Rep.bl
    | ref i => obtain ⟨_, e, _⟩ := r1.ref_inv; subst e; exact p.okSame S Rep.bl
    | gl i => obtain ⟨_, e, _⟩ := r1.gl_inv; subst e; exact p.okSame S Rep.bl
    | adr i => exact p.elim
  | _ => cases w1 <;> exact p.elim
theorem m2_notN : M2 X (compareOp .IsNot) vNotN := by
  rintro pins s σ H x y u1 u2 Q I rx ry ⟨ι, st, w1, w2, S, r1, r2, p⟩
  cases w2 with
  | non =>
    have e2 := r2.non_inv
    subst e2
    refine op_notN pins s σ H _ _ u1 u2 Q I rx ry ⟨rfl, ?_⟩
    cases w1 with
    | non => have e := r1.non_inv; subst e; exact p.okSame S Rep.bl
    | int i => have e := r1.int_inv; subst e; exact p.okSame S Rep.bl
    | bl i => have e := r1.bl_inv; subst e; exact p.okSame S Rep.bl
    | str i => have e := r1.str_inv; subst e; exact p.okSame S Rep.bl
    | tup i => obtain ⟨_, _, e, _⟩ := r1.tup_inv; subst e; exact p.okSame S Rep.bl
    | ref i => obtain ⟨_, e, _⟩ := r1.ref_inv; subst e; exact p.okSame S Rep.bl
    | gl i => obtain ⟨_, e, _⟩ := r1.gl_inv; subst e; exact p.okSame S Rep.bl
    | adr i => exact p.elim
  | _ => cases w1 <;> exact p.elim
end
end Ab

set_option Elab.async false
set_option linter.all false
set_option maxRecDepth 100000
/-! Ab: tests, displays, calls of built-ins, subscripts. -/
namespace Ab
open PySem PySem.Spec L2

/-! ### tests -/
@[reducible] def asB : Val → Store → R Bool
  | .bl b, st => .ok b st
  | _, _ => .bad
@[reducible] def mTest (m : ME) : MT := fun ρ st => (m ρ st).bind asB
section
variable {X : Cx} {e a b c : Expr} {m ma mb mc : ME} {pos : Pos}
theorem JE.test (h : JE X e m) (k : ∀ t, PE X e t → PT X e (tB t)) : JT X e (mTest m) := fun W tk => by
  refine PT.weak (k _ (h W tk)) fun σ H Q ⟨ι, ρ, st, S, sl, p⟩ => ?_
  refine ⟨ι, ρ, st, S, sl, Post.bind p fun w st1 ι1 H1 x l1 S1 r1 p1 => ?_⟩
  cases w with
  | bl k => exact ⟨k, r1.bl_inv, p1.okSame S1 rfl⟩
  | _ => exact p1.elim
/-- an expression whose value is a bool -/
theorem jt_val (h : JE X e m) (he : ∀ whole, isTrue e X.env whole = (do let v ← whole; standAt e.pos; holding [v] (truthy v)) := by intro _; rfl) : JT X e (mTest m) := h.test fun _ q => pt_val q he
theorem jt_cmp {op : CmpOp} {g : Val → Val → Store → R Val} (ho : M2 X (compareOp op) g) (hq : ∀ x y st, Quiet (g x y st)) (ha : JE X a ma) (hb : JE X b mb) (hm : behindInMarks op b = false := by first | exact nomark _ | rfl) :
    JT X (.Compare a [op] [b] pos) (mTest (mBin g ma mb)) := fun W tk => by
  refine PT.weak (pt_cmpR ho (ha W tk) (hb W tk) hm) fun σ H Q ⟨ι, ρ, st, S, sl, p⟩ => ?_
  dsimp only [mTest, mBin] at p
  refine ⟨ι, ρ, st, S, sl, Post.bind (rel := rel1 X.mg) (r := ma ρ st) (f := fun x st1 => ((mb ρ st1).bind fun y st2 => g x y st2).bind asB) (by cases h : ma ρ st <;> rw [h] at p <;> exact p) fun w1 st1 ι1 H1 x l1 S1 r1 p1 => ?_⟩
  refine ⟨ι1, ρ, st1, S1, sl.later l1, Post.bind (rel := rel1 X.mg) (r := mb ρ st1) (f := fun y st2 => (g w1 y st2).bind asB) (by cases h : mb ρ st1 <;> rw [h] at p1 <;> exact p1) fun w2 st2 ι2 H2 y l2 S2 r2 p2 => ?_⟩
  refine ⟨ι2, st2, w1, w2, S2, Rep.later l2 r1, r2, ?_⟩
  have p3 := Post.bind (rel := rel1 X.mg) p2 fun w st3 ι3 H3 z l3 S3 r3 p3 => (show ∃ k, z = V.bl k ∧ Q k H3 from by
    cases w with
    | bl k => exact ⟨k, r3.bl_inv, p3.okSame S3 rfl⟩
    | _ => exact p3.elim)
  exact noExc (hq _ _ _) p3
@[reducible] def mChain (g g' : Val → Val → Store → R Val) (a b c : ME) : ME := fun ρ st => (a ρ st).bind fun x st1 => (b ρ st1).bind fun y st2 => (g x y st2).bind fun z st3 => match z with
  | .bl true => (c ρ st3).bind fun w st4 => g' y w st4
  | .bl false => .ok (.bl false) st3
  | _ => .bad
theorem chain_read {W : WX} {g g' : Val → Val → Store → R Val} (hq : ∀ x y st, Quiet (g x y st)) (hq' : ∀ x y st, Quiet (g' x y st)) (ha : JE X a ma) (hb : JE X b mb) (hc : JE X c mc) {σ : L2.St} {H : Hp} {Q : VK}
    (h : rdG X.K X.mg (rel1 X.mg) W (mChain g g' ma mb mc) σ H Q) : tChain (r2 X.K X.mg g) (r2 X.K X.mg g') (rdG X.K X.mg (rel1 X.mg) W ma) (rdG X.K X.mg (rel1 X.mg) W mb) (rdG X.K X.mg (rel1 X.mg) W mc) σ H Q := by
  obtain ⟨ι, ρ, st, S, sl, p⟩ := h
  refine ⟨ι, ρ, st, S, sl, Post.bind p fun w1 st1 ι1 H1 x l1 S1 r1 p1 => ?_⟩
  have sl1 := sl.later l1
  refine ⟨ι1, ρ, st1, S1, sl1, Post.bind p1 fun w2 st2 ι2 H2 y l2 S2 r2 p2 => ?_⟩
  have sl2 := sl1.later l2
  refine ⟨ι2, st2, w1, w2, S2, Rep.later l2 r1, r2, ?_⟩
  refine noExc (hq _ _ _) (Post.bind p2 fun w3 st3 ι3 H3 z l3 S3 r3 p3 => ?_)
  have sl3 := sl2.later l3
  cases w3 with
  | bl k =>
    refine ⟨k, r3.bl_inv, ?_⟩
    cases k with
    | true =>
      refine iteT ⟨ι3, ρ, st3, S3, sl3, Post.bind p3 fun w4 st4 ι4 H4 u l4 S4 r4 p4 => ?_⟩
      exact ⟨ι4, st4, w2, w4, S4, Rep.later l4 (Rep.later l3 r2), r4, noExc (hq' _ _ _) p4⟩
    | false => exact iteF (p3.okSame S3 Rep.bl)
  | _ => exact p3.elim
theorem je_chain {op op' : CmpOp} {g g' : Val → Val → Store → R Val} (ho : M2 X (compareOp op) g) (hq : ∀ x y st, Quiet (g x y st)) (ho' : M2 X (compareOp op') g') (hq' : ∀ x y st, Quiet (g' x y st)) (ha : JE X a ma) (hb : JE X b mb) (hc : JE X c mc)
    (hm : lastMarks [op, op'] [b, c] = false := by with_unfolding_all rfl) : JE X (.Compare a [op, op'] [b, c] pos) (mChain g g' ma mb mc) := fun W tk =>
  PE.weak (pe_chain ho ho' (ha W tk) (hb W tk) (hc W tk) hm) fun σ H Q h => chain_read hq hq' ha hb hc h
theorem jt_chain {op op' : CmpOp} {g g' : Val → Val → Store → R Val} (ho : M2 X (compareOp op) g) (hq : ∀ x y st, Quiet (g x y st)) (ho' : M2 X (compareOp op') g') (hq' : ∀ x y st, Quiet (g' x y st)) (ha : JE X a ma) (hb : JE X b mb) (hc : JE X c mc)
    (hm : lastMarks [op, op'] [b, c] = false := by with_unfolding_all rfl) : JT X (.Compare a [op, op'] [b, c] pos) (mTest (mChain g g' ma mb mc)) := fun W tk => by
  refine PT.weak (pt_chain ho ho' (ha W tk) (hb W tk) (hc W tk) hm) fun σ H Q ⟨ι, ρ, st, S, sl, p⟩ => ?_
  refine chain_read (W := W) hq hq' ha hb hc ⟨ι, ρ, st, S, sl, ?_⟩
  refine Post.bind p fun w st1 ι1 H1 x l1 S1 r1 p1 => ?_
  cases w with
  | bl k => exact ⟨k, r1.bl_inv, p1.okSame S1 rfl⟩
  | _ => exact p1.elim

/-! ### and, or, not -/
@[reducible] def tAndM (t u : MT) : MT := fun ρ st => (t ρ st).bind fun k st1 => if k = true then u ρ st1 else .ok false st1
@[reducible] def tOrM (t u : MT) : MT := fun ρ st => (t ρ st).bind fun k st1 => if k = true then .ok true st1 else u ρ st1
@[reducible] def tNotM (t : MT) : MT := fun ρ st => (t ρ st).bind fun k st1 => .ok (!k) st1
/-- a test whatever its whole is -/
def JW (X : Cx) (e : Expr) (m : MT) : Prop := ∀ W, Takes X W → PW X e (rdG X.K X.mg relB W m)
theorem PW.weak {t t' : TT} (h : PW X e t) (w : ∀ σ H Q, t' σ H Q → t σ H Q) : PW X e t' := ⟨fun wh pins s σ H Q I q => h.run wh pins s σ H Q I (w σ H Q q)⟩
theorem JW.jt {m : MT} (h : JW X e m) : JT X e m := fun W tk => (h W tk).pt
variable {t u : MT} {rest : List Expr}
theorem jw_and1 (ha : JT X a t) : JW X (.BoolOp .And [a] pos) t := fun W tk => pw_and1 (ha W tk)
theorem jw_or1 (ha : JT X a t) : JW X (.BoolOp .Or [a] pos) t := fun W tk => pw_or1 (ha W tk)
theorem jw_and (ha : JT X a t) (hb : JW X (.BoolOp .And (b :: rest) pos) u) : JW X (.BoolOp .And (a :: b :: rest) pos) (tAndM t u) := fun W tk => by
  refine PW.weak (pw_and (ha W tk) (hb W tk)) fun σ H Q ⟨ι, ρ, st, S, sl, p⟩ => ?_
  refine ⟨ι, ρ, st, S, sl, Post.bind p fun k st1 ι1 H1 k' l1 S1 r1 p1 => ?_⟩
  have r1 : k = k' := r1
  subst r1
  cases k with
  | true => exact iteT ⟨ι1, ρ, st1, S1, sl.later l1, p1⟩
  | false => exact iteF (p1.okSame S1 rfl)
theorem jw_or (ha : JT X a t) (hb : JW X (.BoolOp .Or (b :: rest) pos) u) : JW X (.BoolOp .Or (a :: b :: rest) pos) (tOrM t u) := fun W tk => by
  refine PW.weak (pw_or (ha W tk) (hb W tk)) fun σ H Q ⟨ι, ρ, st, S, sl, p⟩ => ?_
  refine ⟨ι, ρ, st, S, sl, Post.bind p fun k st1 ι1 H1 k' l1 S1 r1 p1 => ?_⟩
  have r1 : k = k' := r1
  subst r1
  cases k with
  | true => exact iteT (p1.okSame S1 rfl)
  | false => exact iteF ⟨ι1, ρ, st1, S1, sl.later l1, p1⟩
theorem jt_not (ha : JT X a t) : JT X (.UnaryOp .Not a pos) (tNotM t) := fun W tk => by
  refine PT.weak (pt_not (ha W tk)) fun σ H Q ⟨ι, ρ, st, S, sl, p⟩ => ?_
  refine ⟨ι, ρ, st, S, sl, Post.bind p fun k st1 ι1 H1 k' l1 S1 r1 p1 => ?_⟩
  have r1 : k = k' := r1
  subst r1
  exact p1.okSame S1 rfl
/-- as values, of bools -/
@[reducible] def mAnd (a b : ME) : ME := fun ρ st => (a ρ st).bind fun x st1 => match x with
  | .bl true => b ρ st1
  | .bl false => .ok (.bl false) st1
  | _ => .bad
@[reducible] def mOr (a b : ME) : ME := fun ρ st => (a ρ st).bind fun x st1 => match x with
  | .bl true => .ok (.bl true) st1
  | .bl false => b ρ st1
  | _ => .bad
@[reducible] def mNot (a : ME) : ME := fun ρ st => (a ρ st).bind fun x st1 => match x with
  | .bl k => .ok (.bl (!k)) st1
  | _ => .bad
theorem je_one {op} (h : JE X a m) : JE X (.BoolOp op [a] pos) m := fun W tk => pe_one (h W tk)
theorem je_and (ha : JE X a ma) (hb : JE X (.BoolOp .And (b :: rest) pos) mb) : JE X (.BoolOp .And (a :: b :: rest) pos) (mAnd ma mb) := fun W tk => by
  refine PE.weak (pe_and (ha W tk) (hb W tk)) fun σ H Q ⟨ι, ρ, st, S, sl, p⟩ => ?_
  refine ⟨ι, ρ, st, S, sl, Post.bind p fun w st1 ι1 H1 x l1 S1 r1 p1 => ?_⟩
  cases w with
  | bl k =>
    refine ⟨k, r1.bl_inv, ?_⟩
    cases k with
    | true => exact iteT ⟨ι1, ρ, st1, S1, sl.later l1, p1⟩
    | false => exact iteF (p1.okSame S1 Rep.bl)
  | _ => exact p1.elim
theorem je_or (ha : JE X a ma) (hb : JE X (.BoolOp .Or (b :: rest) pos) mb) : JE X (.BoolOp .Or (a :: b :: rest) pos) (mOr ma mb) := fun W tk => by
  refine PE.weak (pe_or (ha W tk) (hb W tk)) fun σ H Q ⟨ι, ρ, st, S, sl, p⟩ => ?_
  refine ⟨ι, ρ, st, S, sl, Post.bind p fun w st1 ι1 H1 x l1 S1 r1 p1 => ?_⟩
  cases w with
  | bl k =>
    refine ⟨k, r1.bl_inv, ?_⟩
    cases k with
    | true => exact iteT (p1.okSame S1 Rep.bl)
    | false => exact iteF ⟨ι1, ρ, st1, S1, sl.later l1, p1⟩
  | _ => exact p1.elim
theorem je_not (ha : JE X a ma) : JE X (.UnaryOp .Not a pos) (mNot ma) := fun W tk => by
  refine PE.weak (pe_not (ha W tk)) fun σ H Q ⟨ι, ρ, st, S, sl, p⟩ => ?_
  refine ⟨ι, ρ, st, S, sl, Post.bind p fun w st1 ι1 H1 x l1 S1 r1 p1 => ?_⟩
  cases w with
  | bl k => exact ⟨k, r1.bl_inv, p1.okSame S1 Rep.bl⟩
  | _ => exact p1.elim
@[reducible] def mIf (t : MT) (a b : ME) : ME := fun ρ st => (t ρ st).bind fun k st1 => if k = true then a ρ st1 else b ρ st1
theorem je_if (hc : JT X c t) (ha : JE X a ma) (hb : JE X b mb) : JE X (.IfExp c a b pos) (mIf t ma mb) := fun W tk => by
  refine PE.weak (pe_ifExp (hc W tk) (ha W tk) (hb W tk)) fun σ H Q ⟨ι, ρ, st, S, sl, p⟩ => ?_
  refine ⟨ι, ρ, st, S, sl, Post.bind p fun k st1 ι1 H1 k' l1 S1 r1 p1 => ?_⟩
  have r1 : k = k' := r1
  subst r1
  cases k with
  | true => exact iteT ⟨ι1, ρ, st1, S1, sl.later l1, p1⟩
  | false => exact iteF ⟨ι1, ρ, st1, S1, sl.later l1, p1⟩
end

/-! ### arguments, displays -/
@[reducible] def aNil : MA := fun _ st => .ok [] st
@[reducible] def aCons (m : ME) (t : MA) : MA := fun ρ st => (m ρ st).bind fun x st1 => (t ρ st1).bind fun xs st2 => .ok (x :: xs) st2
@[reducible] def mTup (t : MA) : ME := fun ρ st => (t ρ st).bind fun xs st1 => if xs.length ≤ sizeLine then .ok (.tup xs) st1 else .bad
@[reducible] def mLst (t : MA) : ME := fun ρ st => (t ρ st).bind fun xs st1 => if xs.length ≤ sizeLine then .ok (.ref st1.length) (st1 ++ [.lst xs]) else .bad
section
variable {X : Cx} {e a b c : Expr} {m ma mb mc : ME} {t : MA} {es : List Expr} {pos : Pos}
theorem ja_nil : JA X [] aNil := fun W tk => PA.weak pa_nil fun σ H Q ⟨ι, ρ, st, S, sl, p⟩ => p.okSame S Reps.nil
theorem ja_cons (ha : JE X e m) (hr : JA X es t) (hs : starEach (e :: es) X.env = (false, eval e X.env) :: starEach es X.env := by rfl) : JA X (e :: es) (aCons m t) := fun W tk => by
  refine PA.weak (pa_cons (ha W tk) (hr W tk) hs) fun σ H Q ⟨ι, ρ, st, S, sl, p⟩ => ?_
  refine ⟨ι, ρ, st, S, sl, Post.bind p fun w st1 ι1 H1 x l1 S1 r1 p1 => ?_⟩
  refine ⟨ι1, ρ, st1, S1, sl.later l1, Post.bind p1 fun ws st2 ι2 H2 xs l2 S2 r2 p2 => ?_⟩
  exact p2.okSame S2 (Reps.cons (Rep.later l2 r1) r2)
theorem je_tup {x1} (h : JA X es t) : JE X (.Tuple es x1 pos) (mTup t) := fun W tk => by
  refine PE.weak (pe_tup (h W tk)) fun σ H Q ⟨ι, ρ, st, S, sl, p⟩ => ?_
  refine ⟨ι, ρ, st, S, sl, Post.bind p fun ws st1 ι1 H1 xs l1 S1 r1 p1 => ?_⟩
  split at p1
  · rename_i hl
    exact ⟨by rw [← r1.length]; exact hl, fun q hq => p1.newTup S1 r1 hq⟩
  · exact p1.elim
theorem je_lst (h : JA X es t) : JE X (.List es pos) (mLst t) := fun W tk => by
  refine PE.weak (pe_lst (h W tk)) fun σ H Q ⟨ι, ρ, st, S, sl, p⟩ => ?_
  refine ⟨ι, ρ, st, S, sl, Post.bind p fun ws st1 ι1 H1 xs l1 S1 r1 p1 => ?_⟩
  split at p1
  · rename_i hl
    exact ⟨by rw [← r1.length]; exact hl, fun q hq => p1.newLst S1 r1 hq⟩
  · exact p1.elim
end

/-! ### calls of built-ins -/
def rC (K : PySem.W.Frag) (mg : Str → Option Value) (g : List Val → Store → R Val) : List V → Hp → VK → Prop := fun vs H Q =>
  ∃ ι st ws, Sim K mg ι st H ∧ Reps mg ι H ws vs ∧ Post K mg (rel1 mg) ι H Q (fun _ _ _ => False) (g ws st)
def MC (X : Cx) (f : Value) (g : List Val → Store → R Val) : Prop := CallR X f (rC X.K X.mg g)
@[reducible] def mApp (g : List Val → Store → R Val) (t : MA) : ME := fun ρ st => (t ρ st).bind fun ws st1 => g ws st1
section
variable {X : Cx} {e a b c : Expr} {m ma mb mc : ME} {t : MA} {es : List Expr} {pos p : Pos} {x : Str} {id T : String} {g : List Val → Store → R Val}
theorem app_read {W : WX} (hq : ∀ xs st, Quiet (g xs st)) {σ : L2.St} {H : Hp} {Q : VK} (h : rdG X.K X.mg (rel1 X.mg) W (mApp g t) σ H Q) :
    tCB (rC X.K X.mg g) (rdG X.K X.mg (relL X.mg) W t) σ H Q := by
  obtain ⟨ι, ρ, st, S, sl, p⟩ := h
  exact ⟨ι, ρ, st, S, sl, Post.bind p fun ws st1 ι1 H1 xs l1 S1 r1 p1 => ⟨ι1, st1, ws, S1, r1, noExc (hq _ _) p1⟩⟩
theorem je_callB (hc : MC X (.builtin id) g) (hq : ∀ xs st, Quiet (g xs st)) (hm : X.mg x = none) (hv : bootBuiltins x = some (.builtin id)) (ha : JA X (e :: es) t) (hg : Gl X x := by rfl) (hn : x ≠ "__name__" := by decide) (hdb : (x == ("__debug__" : Str)) = false := by decide)
    (he : starEach (e :: es) X.env = (false, eval e X.env) :: starEach es X.env := by rfl) (hpl : (backTo pos (starEach es X.env)).any (·.1) = false := by rfl) : JE X (.Call (.Name x p) (e :: es) [] pos) (mApp g t) := fun W tk =>
  PE.weak (pe_callB hc hg hm hv (ha W tk) hn hdb he hpl) fun σ H Q h => app_read hq h
theorem je_callTy (hc : MC X (.type T) g) (hq : ∀ xs st, Quiet (g xs st)) (hm : X.mg x = none) (hv : bootBuiltins x = some (.type T)) (ha : JA X (e :: es) t) (hg : Gl X x := by rfl) (hn : x ≠ "__name__" := by decide) (hdb : (x == ("__debug__" : Str)) = false := by decide)
    (he : starEach (e :: es) X.env = (false, eval e X.env) :: starEach es X.env := by rfl) (hpl : (backTo pos (starEach es X.env)).any (·.1) = false := by rfl) : JE X (.Call (.Name x p) (e :: es) [] pos) (mApp g t) := fun W tk =>
  PE.weak (pe_callTy hc hg hm hv (ha W tk) hn hdb he hpl) fun σ H Q h => app_read hq h
end

/-! ### subscripts -/
@[reducible] def vIx : Val → Val → Store → R Val
  | .tup xs, .int i, st => match atI xs i with
    | some w => .ok w st
    | none => .bad
  | .ref n, .int i, st => match seqAt st n with
    | some xs => match atI xs i with
      | some w => .ok w st
      | none => .bad
    | none => .bad
  | .str z, .int i, st => if z.length ≤ sizeLine then match atI z.cps.toList i with
      | some c => .ok (.str ⟨#[c]⟩) st
      | none => .bad
    else .bad
  | _, _, _ => .bad
theorem Reps.atI {mg : Str → Option Value} {ι : List Addr} {H : Hp} {ws : List Val} {vs : List V} (r : Reps mg ι H ws vs) {i : Int} {w : Val} (h : L2.atI ws i = some w) : ∃ v, L2.atI vs i = some v ∧ Rep mg ι H w v := by
  unfold L2.atI at h ⊢
  rw [← r.length]
  cases e : ixN ws.length i with
  | none => rw [e] at h; cases h
  | some j =>
    rw [e] at h
    exact r.get h
section
variable {X : Cx} {e a b c : Expr} {m ma mb mc : ME} {pos p2 : Pos}
theorem ix_all : IxR X (r2 X.K X.mg vIx) := by
  intro value slice pins s σ H x y v u Q I rx ry ⟨ι, st, w1, w2, S, r1, r2, p⟩ hs
  cases w2 with
  | int i =>
    have e2 := r2.int_inv
    subst e2
    cases w1 with
    | tup xs =>
      obtain ⟨q, vs, e1, hq, rr⟩ := r1.tup_inv
      subst e1
      dsimp only [vIx] at p
      split at p
      · rename_i w ew
        obtain ⟨z, ez, rz⟩ := rr.atI ew
        exact ix_tup value slice pins s σ H _ _ v u Q I rx ry ⟨q, vs, i, z, rfl, rfl, SqT.of hq, ez, p.okSame S rz⟩ hs
      · exact p.elim
    | ref n =>
      obtain ⟨q, e1, hq⟩ := r1.ref_inv
      subst e1
      dsimp only [vIx] at p
      cases es : seqAt st n with
      | none => rw [es] at p; exact p.elim
      | some xs =>
        rw [es] at p
        dsimp only at p
        obtain ⟨vs, hl, rr⟩ := S.seqL es hq
        split at p
        · rename_i w ew
          obtain ⟨z, ez, rz⟩ := rr.atI ew
          exact ix_list value slice pins s σ H _ _ v u Q I rx ry ⟨q, vs, i, z, rfl, rfl, hl, ez, p.okSame S rz⟩ hs
        · exact p.elim
    | str z =>
      have e1 := r1.str_inv
      subst e1
      dsimp only [vIx] at p
      split at p
      · rename_i hz
        split at p
        · rename_i c ec
          exact ix_str value slice pins s σ H _ _ v u Q I rx ry ⟨z, i, c, rfl, rfl, hz, ec, p.okSame S Rep.str⟩ hs
        · exact p.elim
      · exact p.elim
    | _ => exact p.elim
  | _ => cases w1 <;> exact p.elim
theorem quiet_ix : ∀ x y st, Quiet (vIx x y st) := by
  intro x y st ex st' h
  unfold vIx at h
  repeat (first | (split at h) | cases h)
theorem je_ix (ha : JE X a ma) (hb : JE X b mb) (hs : PlainIx b := by exact fun _ _ => rfl) : JE X (.Subscript a b pos) (mBin vIx ma mb) := JE.bin quiet_ix ha hb fun _ _ h1 h2 => pe_ix ix_all h1 h2 hs

/-! ### slices -/
abbrev MO := Slots → Store → R (Option Int)
abbrev relO : List Addr → Hp → Option Int → Option Int → Prop := fun _ _ a b => a = b
def JO (X : Cx) (e : Option Expr) (m : MO) : Prop := ∀ W, Takes X W → PO X e (rdG X.K X.mg relO W m)
theorem PO.weak {e : Option Expr} {t t' : TO} (h : PO X e t) (w : ∀ σ H Q, t' σ H Q → t σ H Q) : PO X e t' := ⟨fun pins s σ H Q I q => h.run pins s σ H Q I (w σ H Q q)⟩
@[reducible] def oNone : MO := fun _ st => .ok none st
@[reducible] def asI : Val → Store → R (Option Int)
  | .int i, st => .ok (some i) st
  | _, _ => .bad
@[reducible] def oSome (m : ME) : MO := fun ρ st => (m ρ st).bind asI
theorem jo_none : JO X none oNone := fun W tk => PO.weak po_none fun σ H Q ⟨ι, ρ, st, S, sl, p⟩ => p.okSame S rfl
theorem jo_some (h : JE X e m) : JO X (some e) (oSome m) := fun W tk => by
  refine PO.weak (po_some (h W tk)) fun σ H Q ⟨ι, ρ, st, S, sl, p⟩ => ?_
  refine ⟨ι, ρ, st, S, sl, Post.bind p fun w st1 ι1 H1 x l1 S1 r1 p1 => ?_⟩
  cases w with
  | int i => exact ⟨i, r1.int_inv, p1.okSame S1 rfl⟩
  | _ => exact p1.elim
/-- xs[lo:hi] -/
def cut {α : Type} (xs : List α) (lo hi : Option Int) : List α := (xs.drop (HT.sIx xs.length 0 lo)).take (HT.sIx xs.length xs.length hi - HT.sIx xs.length 0 lo)
theorem Reps.cut {mg : Str → Option Value} {ι : List Addr} {H : Hp} {ws : List Val} {vs : List V} (r : Reps mg ι H ws vs) (lo hi : Option Int) : Reps mg ι H (Ab.cut ws lo hi) (cutV vs lo hi) := by
  unfold Ab.cut cutV
  rw [r.length]
  exact (r.drop _).take _
@[reducible] def vCut : Val → Option Int → Option Int → Store → R Val
  | .tup xs, lo, hi, st => .ok (.tup (cut xs lo hi)) st
  | .ref n, lo, hi, st => match seqAt st n with
    | some xs => .ok (.ref st.length) (st ++ [.lst (cut xs lo hi)])
    | none => .bad
  | .str z, lo, hi, st => if z.length ≤ sizeLine then .ok (.str (cutS z lo hi)) st else .bad
  | _, _, _, _ => .bad
theorem cut_whole {α : Type} {xs : List α} {lo hi : Option Int} (h : HT.sIx xs.length 0 lo = 0 ∧ HT.sIx xs.length xs.length hi = xs.length) : cut xs lo hi = xs := by
  unfold cut
  rw [h.1, h.2]
  simp
def rSl (K : PySem.W.Frag) (mg : Str → Option Value) : V → Option Int → Option Int → Hp → VK → Prop := fun x lo hi H Q =>
  ∃ ι st w, Sim K mg ι st H ∧ Rep mg ι H w x ∧ Post K mg (rel1 mg) ι H Q (fun _ _ _ => False) (vCut w lo hi st)
theorem sl_all : SlR X (rSl X.K X.mg) := by
  intro pins s σ H x v vl vu lo hi sl Q I rx hs pl pu ⟨ι, st, w, S, r, p⟩
  cases w with
  | tup xs =>
    obtain ⟨q, vs, e1, hq, rr⟩ := r.tup_inv
    subst e1
    refine sl_tupA pins s σ H _ v vl vu lo hi sl Q I rx hs pl pu ⟨q, vs, rfl, SqT.of hq, fun hw => ?_, fun _ z hz => p.newTup S (rr.cut lo hi) hz⟩
    rw [← rr.length] at hw
    dsimp only [vCut] at p
    rw [cut_whole hw] at p
    exact p.okSame S (Rep.tup hq rr)
  | ref n =>
    obtain ⟨q, e1, hq⟩ := r.ref_inv
    subst e1
    dsimp only [vCut] at p
    cases es : seqAt st n with
    | none => rw [es] at p; exact p.elim
    | some xs =>
      rw [es] at p
      obtain ⟨vs, hl, rr⟩ := S.seqL es hq
      exact sl_list pins s σ H _ v vl vu lo hi sl Q I rx hs pl pu ⟨q, vs, rfl, hl, fun z hz => p.newLst S (rr.cut lo hi) hz⟩
  | str z =>
    have e1 := r.str_inv
    subst e1
    dsimp only [vCut] at p
    split at p
    · rename_i hz
      exact sl_str pins s σ H _ v vl vu lo hi sl Q I rx hs pl pu ⟨z, rfl, hz, p.okSame S Rep.str⟩
    · exact p.elim
  | _ => exact p.elim
theorem quiet_cut : ∀ x lo hi st, Quiet (vCut x lo hi st) := by
  intro x lo hi st ex st' h
  unfold vCut at h
  repeat (first | (split at h) | cases h)
@[reducible] def mCut (a : ME) (lo hi : MO) : ME := fun ρ st => (a ρ st).bind fun x st1 => (lo ρ st1).bind fun l st2 => (hi ρ st2).bind fun h st3 => vCut x l h st3
theorem je_cut {lo hi : Option Expr} {mlo mhi : MO} (ha : JE X a ma) (hl : JO X lo mlo) (hh : JO X hi mhi) : JE X (.Subscript a (.Slice lo hi none p2) pos) (mCut ma mlo mhi) := fun W tk => by
  refine PE.weak (pe_slice sl_all (ha W tk) (hl W tk) (hh W tk)) fun σ H Q ⟨ι, ρ, st, S, sl, p⟩ => ?_
  refine ⟨ι, ρ, st, S, sl, Post.bind p fun w st1 ι1 H1 x l1 S1 r1 p1 => ?_⟩
  have sl1 := sl.later l1
  refine ⟨ι1, ρ, st1, S1, sl1, Post.bind p1 fun lo' st2 ι2 H2 lo'' l2 S2 r2 p2 => ?_⟩
  have sl2 := sl1.later l2
  have r2 : lo' = lo'' := r2
  subst r2
  refine ⟨ι2, ρ, st2, S2, sl2, Post.bind p2 fun hi' st3 ι3 H3 hi'' l3 S3 r3 p3 => ?_⟩
  have r3 : hi' = hi'' := r3
  subst r3
  exact ⟨ι3, st3, w, S3, Rep.later l3 (Rep.later l2 r1), noExc (quiet_cut _ _ _ _) p3⟩
end
end Ab

set_option Elab.async false
set_option linter.all false
set_option maxRecDepth 100000
/-! Ab: statements, targets, loops. -/
namespace Ab
open PySem PySem.Spec L2

@[reducible] def R.toO {α : Type} (r : R α) (ρ : Slots) (f : α → Store → O) : O := match r with
  | .ok a st => f a st
  | .exc x st => .exc x ρ st
  | .bad => .bad
@[reducible] def O.then (o : O) (f : Slots → Store → O) : O := match o with
  | .nx ρ st => f ρ st
  | .ret w st => .ret w st
  | .brk ρ st => .brk ρ st
  | .ct ρ st => .ct ρ st
  | .exc x ρ st => .exc x ρ st
  | .bad => .bad
section
variable {α β : Type} {K : PySem.W.Frag} {mg : Str → Option Value} {rel : List Addr → Hp → α → β → Prop} {ι : List Addr} {H : Hp} {W : WX} {D : Ends}
theorem PostO.bind {r : R α} {ρ : Slots} {σ : L2.St} {f : α → Store → O} {Q1 : β → Hp → Prop} (p : PostO K mg W ι H D (r.toO ρ f)) (sl : SlotsOk mg ι H ρ σ)
    (k : ∀ a st1 ι1 H1 b, Later ι H ι1 H1 → Sim K mg ι1 st1 H1 → rel ι1 H1 a b → PostO K mg W ι1 H1 D (f a st1) → Q1 b H1) : Post K mg rel ι H Q1 (fun c d H' => W c d σ H') r := by
  cases r with
  | ok a st1 => exact fun ι1 H1 b l S r => k a st1 ι1 H1 b l S r (PostO.later p l)
  | exc x st1 => exact fun ι1 H1 c d l S r => p ι1 H1 σ c d l S (sl.later l) r
  | bad => exact p
theorem PostO.nx_same {ρ : Slots} {σ : L2.St} {st : Store} (p : PostO K mg W ι H D (.nx ρ st)) (S : Sim K mg ι st H) (sl : SlotsOk mg ι H ρ σ) : D.nx σ H := p ι H σ (Later.refl _ _) S sl
theorem PostO.ret_same {w : Val} {v : V} {st : Store} (p : PostO K mg W ι H D (.ret w st)) (S : Sim K mg ι st H) (r : Rep mg ι H w v) : D.rt v H := p ι H v (Later.refl _ _) S r
end

/-! ### small statements -/
@[reducible] def sNext : MS := fun ρ st => .nx ρ st
@[reducible] def sSeq (a b : MS) : MS := fun ρ st => (a ρ st).then b
@[reducible] def sSet (i : Nat) (m : ME) : MS := fun ρ st => (m ρ st).toO ρ fun w st1 => .nx (ρ.set i (some w)) st1
@[reducible] def sRet (m : ME) : MS := fun ρ st => (m ρ st).toO ρ fun w st1 => .ret w st1
@[reducible] def sDrop (m : ME) : MS := fun ρ st => (m ρ st).toO ρ fun _ st1 => .nx ρ st1
@[reducible] def sIf (t : MT) (a b : MS) : MS := fun ρ st => (t ρ st).toO ρ fun k st1 => if k = true then a ρ st1 else b ρ st1
@[reducible] def sAug (i : Nat) (g : Val → Val → Store → R Val) (m : ME) : MS := fun ρ st => match ρ[i]? with
  | some (some x) => (m ρ st).toO ρ fun y st1 => (g x y st1).toO ρ fun z st2 => .nx (ρ.set i (some z)) st2
  | _ => .bad
@[reducible] def sBreak : MS := fun ρ st => .brk ρ st
@[reducible] def sCont : MS := fun ρ st => .ct ρ st
section
variable {X : Cx} {st : Stmt} {rest : List Stmt} {m1 m2 : MS} {e : Expr} {m : ME} {t : MT} {pos pos' : Pos}
theorem jss_nil : JSs X [] sNext := fun W tk => PSs.weak pss_nil fun D σ H ⟨ι, ρ, st, S, sl, p⟩ => p.nx_same S sl
theorem jss_cons (h1 : JS X st m1) (h2 : JSs X rest m2) : JSs X (st :: rest) (sSeq m1 m2) := fun W tk => by
  refine PSs.weak (pss_cons (h1 W tk) (h2 W tk)) fun D σ H ⟨ι, ρ, s, S, sl, p⟩ => ?_
  refine ⟨ι, ρ, s, S, sl, ?_⟩
  show PostO X.K X.mg W ι H { D with nx := rdS X.K X.mg W m2 D } (m1 ρ s)
  have p : PostO X.K X.mg W ι H D ((m1 ρ s).then m2) := p
  cases h : m1 ρ s with
  | nx ρ1 s1 =>
    rw [h] at p
    exact fun ι1 H1 σ1 l S1 sl1 => ⟨ι1, ρ1, s1, S1, sl1, PostO.later p l⟩
  | _ => rw [h] at p; exact p
theorem jss_one (h1 : JS X st m1) : JSs X [st] m1 := fun W tk => pss_one (h1 W tk)
theorem js_set {i : Nat} {x : Str} (hN : X.N.Nodup) (he : JE X e m) (hi : X.N[i]? = some x := by rfl) (hx : Loc X.env.scope x := by first | exact .inl rfl | exact .inr rfl) (hs : swapsWith e (some (.Name x pos')) pos.line X.env = pure false := by rfl)
    (hf : X.fn x = true ∨ X.env.scope.names.lookup x = some .local := by first | exact .inl rfl | exact .inr rfl | assumption) : JS X (.Assign [.Name x pos'] e pos) (sSet i m) := fun W tk => by
  refine PS.weak (ps_set hN hi hx (he W tk) hs hf) fun D σ H ⟨ι, ρ, st, S, sl, p⟩ => ?_
  refine ⟨ι, ρ, st, S, sl, PostO.bind p sl fun w st1 ι1 H1 v l1 S1 r1 p1 => ?_⟩
  exact p1.nx_same S1 ((sl.later l1).set i r1)
theorem js_ret (he : JE X e m) : JS X (.Return (some e) pos) (sRet m) := fun W tk => by
  refine PS.weak (ps_ret (he W tk)) fun D σ H ⟨ι, ρ, st, S, sl, p⟩ => ?_
  exact ⟨ι, ρ, st, S, sl, PostO.bind p sl fun w st1 ι1 H1 v l1 S1 r1 p1 => p1.ret_same S1 r1⟩
theorem js_expr (he : JE X e m) (hs : swapsWith e none pos.line X.env = pure false := by rfl) : JS X (.Expr e pos) (sDrop m) := fun W tk => by
  refine PS.weak (ps_expr (he W tk) hs) fun D σ H ⟨ι, ρ, st, S, sl, p⟩ => ?_
  exact ⟨ι, ρ, st, S, sl, PostO.bind p sl fun w st1 ι1 H1 v l1 S1 r1 p1 => p1.nx_same S1 (sl.later l1)⟩
theorem js_if {c : Expr} {a b : List Stmt} (hc : JT X c t) (ha : JSs X a m1) (hb : JSs X b m2) : JS X (.If c a b pos) (sIf t m1 m2) := fun W tk => by
  refine PS.weak (ps_if (hc W tk) (ha W tk) (hb W tk)) fun D σ H ⟨ι, ρ, st, S, sl, p⟩ => ?_
  refine ⟨ι, ρ, st, S, sl, PostO.bind p sl fun k st1 ι1 H1 k' l1 S1 r1 p1 => ?_⟩
  have r1 : k = k' := r1
  subst r1
  cases k with
  | true => exact iteT ⟨ι1, ρ, st1, S1, sl.later l1, p1⟩
  | false => exact iteF ⟨ι1, ρ, st1, S1, sl.later l1, p1⟩
/-- x op= e -/
theorem js_aug {i : Nat} {x : Str} {op : Operator} {g : Val → Val → Store → R Val} (hN : X.N.Nodup) (ho : M2 X (inplaceOp op) g) (hq : ∀ x y st, Quiet (g x y st)) (he : JE X e m) (hi : X.N[i]? = some x := by rfl) (hx : Loc X.env.scope x := by first | exact .inl rfl | exact .inr rfl)
    (hf : X.fn x = true ∨ X.env.scope.names.lookup x = some .local := by first | exact .inl rfl | exact .inr rfl | assumption) : JS X (.AugAssign (.Name x pos') op e pos) (sAug i g m) := fun W tk => by
  refine PS.weak (ps_aug hN hi hx (he W tk) (ti := r2 X.K X.mg g) ho hf) fun D σ H ⟨ι, ρ, st, S, sl, p⟩ => ?_
  dsimp only [sAug] at p
  split at p
  · rename_i w ew
    obtain ⟨v, ev, rv⟩ := sl.2 i w ew
    refine ⟨v, ev, ι, ρ, st, S, sl, PostO.bind p sl fun y st1 ι1 H1 yv l1 S1 r1 p1 => ?_⟩
    refine ⟨ι1, st1, w, y, S1, Rep.later l1 rv, r1, noExc (hq _ _ _) (PostO.bind (σ := σ) p1 (sl.later l1) fun z st2 ι2 H2 zv l2 S2 r2 p2 => ?_)⟩
    exact p2.nx_same S2 (((sl.later l1).later l2).set i r2)
  · exact p.elim
end

/-! ### targets -/
abbrev MG := Val → Slots → Store → Option (Slots × Store)
abbrev MGs := List Val → Slots → Store → Option (Slots × Store)
/-- all slots but those are as they were -/
def OutS (vs : List Nat) (σ σ' : L2.St) : Prop := σ'.length = σ.length ∧ ∀ i, i ∉ vs → σ'[i]? = σ[i]?
theorem OutS.refl (vs : List Nat) (σ : L2.St) : OutS vs σ σ := ⟨rfl, fun _ _ => rfl⟩
theorem OutS.mono {vs ws : List Nat} {σ σ' : L2.St} (h : OutS vs σ σ') (hs : ∀ i ∈ vs, i ∈ ws) : OutS ws σ σ' := ⟨h.1, fun i hi => h.2 i fun z => hi (hs i z)⟩
theorem OutS.trans {vs : List Nat} {σ σ1 σ2 : L2.St} (a : OutS vs σ σ1) (b : OutS vs σ1 σ2) : OutS vs σ σ2 := ⟨b.1.trans a.1, fun i hi => (b.2 i hi).trans (a.2 i hi)⟩
def PostG (K : PySem.W.Frag) (mg : Str → Option Value) (vs : List Nat) (ι : List Addr) (H : Hp) (σ : L2.St) (Q : L2.St → Hp → Prop) : Option (Slots × Store) → Prop
  | some (ρ, st) => ∀ ι' H' σ', Later ι H ι' H' → Sim K mg ι' st H' → SlotsOk mg ι' H' ρ σ' → OutS vs σ σ' → Q σ' H'
  | none => False
theorem PostG.later {K : PySem.W.Frag} {mg : Str → Option Value} {vs : List Nat} {σ : L2.St} {ι ι1 : List Addr} {H H1 : Hp} {Q : L2.St → Hp → Prop} {r : Option (Slots × Store)} (p : PostG K mg vs ι H σ Q r) (l : Later ι H ι1 H1) : PostG K mg vs ι1 H1 σ Q r := by
  cases r with
  | none => exact p
  | some x => exact fun ι' H' σ' l' => p ι' H' σ' (l.trans l')
theorem PostG.same {K : PySem.W.Frag} {mg : Str → Option Value} {vs : List Nat} {ι : List Addr} {H : Hp} {Q : L2.St → Hp → Prop} {ρ : Slots} {st : Store} {σ σ' : L2.St} (p : PostG K mg vs ι H σ Q (some (ρ, st))) (S : Sim K mg ι st H) (sl : SlotsOk mg ι H ρ σ') (o : OutS vs σ σ') : Q σ' H := p ι H σ' (Later.refl _ _) S sl o
def rdT (K : PySem.W.Frag) (mg : Str → Option Value) (vs : List Nat) (g : MG) : TG := fun v σ H Q => ∃ ι ρ st w, Sim K mg ι st H ∧ SlotsOk mg ι H ρ σ ∧ Rep mg ι H w v ∧ PostG K mg vs ι H σ Q (g w ρ st)
def rdTs (K : PySem.W.Frag) (mg : Str → Option Value) (is : List Nat) (g : MGs) : TGs := fun vs σ H Q => ∃ ι ρ st ws, Sim K mg ι st H ∧ SlotsOk mg ι H ρ σ ∧ Reps mg ι H ws vs ∧ PostG K mg is ι H σ Q (g ws ρ st)
def JG (X : Cx) (tg : Expr) (vs : List Nat) (g : MG) : Prop := PG X tg (rdT X.K X.mg vs g)
def JGs (X : Cx) (ts : List Expr) (vs : List Nat) (g : MGs) : Prop := PGs X ts (rdTs X.K X.mg vs g)
@[reducible] def gSet (i : Nat) : MG := fun w ρ st => some (ρ.set i (some w), st)
@[reducible] def gsNil : MGs := fun ws ρ st => match ws with
  | [] => some (ρ, st)
  | _ => none
@[reducible] def gsCons (g : MG) (h : MGs) : MGs := fun ws ρ st => match ws with
  | w :: ws => match g w ρ st with
    | some (ρ1, st1) => h ws ρ1 st1
    | none => none
  | [] => none
/-- a, b = a tuple -/
@[reducible] def gTupM (n : Nat) (h : MGs) : MG := fun w ρ st => match w with
  | .tup ws => if ws.length = n then h ws ρ st else none
  | _ => none
section
variable {X : Cx} {pos : Pos} {e : Expr} {es : List Expr} {g : MG} {h : MGs}
theorem PG.weak {tg : Expr} {t t' : TG} (h : PG X tg t) (w : ∀ v σ H Q, t' v σ H Q → t v σ H Q) : PG X tg t' := ⟨fun pins s σ H v u Q I r q => h.run pins s σ H v u Q I r (w v σ H Q q)⟩
theorem PGs.weak {tg : List Expr} {t t' : TGs} (h : PGs X tg t) (w : ∀ v σ H Q, t' v σ H Q → t v σ H Q) : PGs X tg t' := ⟨fun pins s σ H v u Q I r q => h.run pins s σ H v u Q I r (w v σ H Q q)⟩
theorem jg_name {i : Nat} {x : Str} (hN : X.N.Nodup) (hi : X.N[i]? = some x := by rfl) (hx : Loc X.env.scope x := by first | exact .inl rfl | exact .inr rfl) (hf : X.fn x = true ∨ X.env.scope.names.lookup x = some .local := by first | exact .inl rfl | exact .inr rfl | assumption) : JG X (.Name x pos) [i] (gSet i) :=
  PG.weak (pg_name hN hi hx hf) fun v σ H Q ⟨ι, ρ, st, w, S, sl, r, p⟩ => p.same S (sl.set i r) ⟨by simp, fun j hj => List.getElem?_set_ne (fun e => hj (by simp [e]))⟩
theorem jgs_nil : JGs X [] [] gsNil := PGs.weak pgs_nil fun vs σ H Q ⟨ι, ρ, st, ws, S, sl, r, p⟩ => by
  cases ws with
  | nil => exact ⟨r.of_nil, p.same S sl (OutS.refl _ _)⟩
  | cons w ws => exact p.elim
theorem jgs_cons {vs vs2 : List Nat} (h1 : JG X e vs g) (h2 : JGs X es vs2 h) (hs : (assignEach (e :: es) X.env).map (·.2) = assign e X.env :: (assignEach es X.env).map (·.2) := by rfl) : JGs X (e :: es) (vs ++ vs2) (gsCons g h) :=
  PGs.weak (pgs_cons h1 h2 hs) fun us σ H Q ⟨ι, ρ, st, ws, S, sl, r, p⟩ => by
    cases ws with
    | nil => exact p.elim
    | cons w ws =>
      obtain ⟨v, r', e1, r1, r2⟩ := r.of_cons
      refine ⟨v, r', e1, ι, ρ, st, w, S, sl, r1, ?_⟩
      dsimp only [gsCons] at p
      cases q : g w ρ st with
      | none => rw [q] at p; exact p.elim
      | some z =>
        rw [q] at p
        refine fun ι1 H1 σ1 l S1 sl1 o1 => ⟨ι1, z.1, z.2, ws, S1, sl1, r2.later l, ?_⟩
        have p := PostG.later p l
        dsimp only at p
        cases q2 : h ws z.1 z.2 with
        | none => rw [q2] at p; exact p.elim
        | some y =>
          rw [q2] at p
          exact fun ι2 H2 σ2 l2 S2 sl2 o2 => p ι2 H2 σ2 l2 S2 sl2 ((o1.mono fun i hi => List.mem_append_left _ hi).trans (o2.mono fun i hi => List.mem_append_right _ hi))
theorem jg_tup {k n : Nat} {vs : List Nat} (hc : X.calm = true) (hh : JGs X es vs h) (hn : (assignEach es X.env).length = n := by rfl) (hst : (assignEach es X.env).findIdx? (·.1) = none := by rfl) : JG X (.Tuple es k pos) vs (gTupM n h) :=
  PG.weak (pg_tup hc hh hn hst) fun v σ H Q ⟨ι, ρ, st, w, S, sl, r, p⟩ => by
    cases w with
    | tup ws =>
      obtain ⟨a, vs, e1, ha, rr⟩ := r.tup_inv
      dsimp only [gTupM] at p
      split at p
      · rename_i hl
        exact ⟨a, vs, e1, SqT.of ha, by rw [← rr.length]; exact hl, ι, ρ, st, ws, S, sl, rr, p⟩
      · exact p.elim
    | _ => exact p.elim
@[reducible] def sAsg (m : ME) (g : MG) : MS := fun ρ st => (m ρ st).toO ρ fun w st1 => match g w ρ st1 with
  | some (ρ1, st2) => .nx ρ1 st2
  | none => .bad
theorem js_asg {tg : Expr} {m : ME} {vs : List Nat} (he : JE X e m) (hg : JG X tg vs g) (hs : swapsWithSole [tg] e pos.line X.env = pure false := by rfl) (hw : swappedStores [tg] e X.env = pure none := by rfl)
    (h1 : (assignEach [tg] X.env).map (·.2) = [assign tg X.env] := by rfl) : JS X (.Assign [tg] e pos) (sAsg m g) := fun W tk => by
  refine PS.weak (ps_asg (he W tk) hg hs hw h1) fun D σ H ⟨ι, ρ, st, S, sl, p⟩ => ?_
  refine ⟨ι, ρ, st, S, sl, PostO.bind p sl fun w st1 ι1 H1 v l1 S1 r1 p1 => ?_⟩
  refine ⟨ι1, ρ, st1, w, S1, sl.later l1, r1, ?_⟩
  cases q : g w ρ st1 with
  | none => rw [q] at p1; exact p1.elim
  | some z => rw [q] at p1; exact fun ι2 H2 σ2 l2 S2 sl2 _ => p1 ι2 H2 σ2 l2 S2 sl2
/-- a, b = x, y, the names plain locals -/
@[reducible] def sPar (i j : Nat) (t : MA) : MS := fun ρ st => (t ρ st).toO ρ fun ws st1 => match ws with
  | [v, w] => .nx ((ρ.set i (some v)).set j (some w)) st1
  | _ => .bad
theorem js_par {i j : Nat} {x y : Str} {a b : Expr} {t : MA} {px py pt : Pos} {kt k2 pt2} (hc : X.calm = true) (hN : X.N.Nodup) (ha : JA X [a, b] t) (hi : X.N[i]? = some x := by rfl) (hj : X.N[j]? = some y := by rfl) (hij : i ≠ j := by decide)
    (hx : X.env.scope.names.lookup x = some .local := by rfl) (hy : X.env.scope.names.lookup y = some .local := by rfl)
    (hw : swappedStores [.Tuple [.Name x px, .Name y py] kt pt] (.Tuple [a, b] k2 pt2) X.env = pure (some [x, y]) := by rfl)
    (hs : swapsWithSole [.Tuple [.Name x px, .Name y py] kt pt] (.Tuple [a, b] k2 pt2) pos.line X.env = pure false := by rfl) :
    JS X (.Assign [.Tuple [.Name x px, .Name y py] kt pt] (.Tuple [a, b] k2 pt2) pos) (sPar i j t) := fun W tk => by
  refine PS.weak (ps_par hc hN hi hj hij hx hy (ha W tk) hw hs) fun D σ H ⟨ι, ρ, st, S, sl, p⟩ => ?_
  refine ⟨ι, ρ, st, S, sl, PostO.bind p sl fun ws st1 ι1 H1 vs l1 S1 r1 p1 => ?_⟩
  split at p1
  · rename_i v w
    obtain ⟨v', r', e1, q1, q2⟩ := Reps.of_cons r1
    obtain ⟨w', r'', e2, q3, q4⟩ := q2.of_cons
    have e3 := q4.of_nil
    subst e3; subst e2; subst e1
    exact ⟨v', w', rfl, p1.nx_same S1 (((sl.later l1).set i q1).set j q3)⟩
  · exact p1.elim
end

/-! ### what is walked -/
structure IsIt (K : PySem.W.Frag) (mg : Str → Option Value) (items : List Val) (okp : Store → Prop) (ι0 : List Addr) (H0 : Hp) (J : It) : Prop where
  go : ∀ (i : Nat) ι H st, Later ι0 H0 ι H → Sim K mg ι st H → okp st → i < items.length → J.go i H
  yld : ∀ (i : Nat) ι H st x H', Later ι0 H0 ι H → Sim K mg ι st H → okp st → i < items.length → J.yld i H x H' → Later ι H ι H' ∧ Sim K mg ι st H' ∧ ∃ w, items[i]? = some w ∧ Rep mg ι H' w x
  stop : ∀ (i : Nat) ι H st, Later ι0 H0 ι H → Sim K mg ι st H → okp st → i = items.length → J.stop i H
abbrev MI := Slots → Store → R (List Val × (Store → Prop))
abbrev relI (K : PySem.W.Frag) (mg : Str → Option Value) : List Addr → Hp → List Val × (Store → Prop) → It → Prop := fun ι H m J => IsIt K mg m.1 m.2 ι H J
def JI (X : Cx) (tg iter : Expr) (m : MI) : Prop := ∀ W, Takes X W → PI X tg iter (rdG X.K X.mg (relI X.K X.mg) W m)
open Classical in
noncomputable def forM (g : MG) (body : MS) (okp : Store → Prop) : List Val → Slots → Store → O
  | [], ρ, st => if okp st then .nx ρ st else .bad
  | w :: ws, ρ, st => if okp st then match g w ρ st with
      | none => .bad
      | some (ρ1, st1) => match body ρ1 st1 with
        | .nx ρ2 st2 => forM g body okp ws ρ2 st2
        | .ct ρ2 st2 => forM g body okp ws ρ2 st2
        | .brk ρ2 st2 => .nx ρ2 st2
        | o => o
    else .bad
@[reducible] noncomputable def sFor (mi : MI) (g : MG) (body : MS) : MS := fun ρ st => (mi ρ st).toO ρ fun it st1 => forM g body it.2 it.1 ρ st1
section
variable {X : Cx} {pos p : Pos} {iter tg e : Expr} {body : List Stmt} {mi : MI} {g : MG} {mb : MS} {m : ME} {t : MT}
theorem js_for {vs : List Nat} (hp : PassesOwn (model X.prog X.w) X.A X.env X.xe) (hc : X.calm = true) (hi : JI X tg iter mi) (hg : JG X tg vs g) (hb : JSs X body mb)
    (hs : ∀ x, foldedSetIterable iter X.env x = pure x := by intro _; rfl) : JS X (.For tg iter body [] pos) (sFor mi g mb) := fun W tk => by
  refine PS.weak (ps_for hp hc (hi W tk) hg (hb W tk) hs) fun D σ H ⟨ι, ρ, st, S, sl, p⟩ => ?_
  refine ⟨ι, ρ, st, S, sl, PostO.bind p sl fun it st1 ι1 H1 J l1 S1 r1 p1 => ?_⟩
  obtain ⟨items, okp⟩ := it
  have r1 : IsIt X.K X.mg items okp ι1 H1 J := r1
  refine ⟨fun i m σ' H' => ∃ ι' ρ' st', Later ι1 H1 ι' H' ∧ Sim X.K X.mg ι' st' H' ∧ SlotsOk X.mg ι' H' ρ' σ' ∧ m = items.length - i ∧ i ≤ items.length ∧ PostO X.K X.mg W ι' H' D (forM g mb okp (items.drop i) ρ' st'),
    ⟨items.length, ι1, ρ, st1, Later.refl _ _, S1, sl.later l1, by simp, Nat.zero_le _, by simpa using p1⟩, ?_⟩
  rintro i m σ2 H2 ⟨ι2, ρ2, st2, l2, S2, sl2, rfl, hi2, p2⟩
  by_cases hlt : i < items.length
  · rw [List.drop_eq_getElem_cons hlt] at p2
    unfold forM at p2
    split at p2
    · rename_i hok
      refine .inr ⟨r1.go i ι2 H2 st2 l2 S2 hok hlt, fun σ3 H3 => ∃ ι3 ρ3 st3, Later ι1 H1 ι3 H3 ∧ Sim X.K X.mg ι3 st3 H3 ∧ SlotsOk X.mg ι3 H3 ρ3 σ3 ∧ PostO X.K X.mg W ι3 H3 D (forM g mb okp (items.drop (i + 1)) ρ3 st3), ?_, ?_⟩
      · rintro σ3 H3 ⟨ι3, ρ3, st3, l3, S3, sl3, p3⟩
        exact ⟨items.length - (i + 1), by omega, ι3, ρ3, st3, l3, S3, sl3, rfl, hlt, p3⟩
      · intro x H3 hy
        obtain ⟨l3, S3, w, hw, rw_⟩ := r1.yld i ι2 H2 st2 x H3 l2 S2 hok hlt hy
        have hw' : items[i] = w := by rw [List.getElem?_eq_getElem hlt] at hw; exact Option.some.inj hw
        rw [hw'] at p2
        refine ⟨ι2, ρ2, st2, w, S3, sl2.later l3, rw_, ?_⟩
        cases q : g w ρ2 st2 with
        | none => rw [q] at p2; exact p2.elim
        | some z =>
          obtain ⟨ρ4, st4⟩ := z
          rw [q] at p2
          dsimp only at p2
          intro ι4 H4 σ4 l4 S4 sl4 _
          refine ⟨ι4, ρ4, st4, S4, sl4, ?_⟩
          have l14 := (l2.trans l3).trans l4
          have p2 := PostO.later (PostO.later p2 l3) l4
          cases qb : mb ρ4 st4 with
          | nx ρ5 st5 => rw [qb] at p2; exact fun ι5 H5 σ5 l5 S5 sl5 => ⟨ι5, ρ5, st5, l14.trans l5, S5, sl5, PostO.later p2 l5⟩
          | ct ρ5 st5 => rw [qb] at p2; exact fun ι5 H5 σ5 l5 S5 sl5 => ⟨ι5, ρ5, st5, l14.trans l5, S5, sl5, PostO.later p2 l5⟩
          | brk ρ5 st5 => rw [qb] at p2; exact p2
          | ret v5 st5 => rw [qb] at p2; exact p2
          | exc x5 ρ5 st5 => rw [qb] at p2; exact p2
          | bad => rw [qb] at p2; exact p2
    · exact p2.elim
  · have hle : items.length ≤ i := by omega
    rw [List.drop_eq_nil_of_le hle] at p2
    unfold forM at p2
    split at p2
    · rename_i hok
      exact .inl ⟨r1.stop i ι2 H2 st2 l2 S2 hok (by omega), p2.nx_same S2 sl2⟩
    · exact p2.elim

/-- over a list or a tuple -/
theorem isIt_list {K : PySem.W.Frag} {mg : Str → Option Value} {n : Nat} {xs : List Val} {ι : List Addr} {H : Hp} {a : Addr} (ha : ι[n]? = some a) : IsIt K mg xs (fun st => seqAt st n = some xs) ι H (Itl K a) := by
  have at_ : ∀ {ι1 : List Addr} {H1 : Hp} {st : Store}, Later ι H ι1 H1 → Sim K mg ι1 st H1 → seqAt st n = some xs → ∃ vs, SqL K H1 a vs ∧ Reps mg ι1 H1 xs vs := fun l S ok => S.seqL ok (l.get ha)
  refine ⟨fun i ι1 H1 st l S ok hi => ?_, fun i ι1 H1 st x H' l S ok hi hy => ?_, fun i ι1 H1 st l S ok hi => ?_⟩
  · obtain ⟨vs, h1, r⟩ := at_ l S ok
    have hl := r.length
    exact ⟨vs, vs[i], h1, by simp⟩
  · obtain ⟨vs, h1, r⟩ := at_ l S ok
    obtain ⟨e, f⟩ := hy
    subst e
    obtain ⟨w, hw, rr⟩ := r.get' (f vs h1)
    exact ⟨Later.refl _ _, S, w, hw, rr⟩
  · obtain ⟨vs, h1, r⟩ := at_ l S ok
    exact ⟨vs, h1, by rw [← r.length]; exact Nat.le_of_eq hi.symm⟩
theorem isIt_tup {K : PySem.W.Frag} {mg : Str → Option Value} {xs : List Val} {ι : List Addr} {H : Hp} {a : Addr} {vs : List V} (ha : H a = some (.tup vs)) (r : Reps mg ι H xs vs) : IsIt K mg xs (fun _ => True) ι H (Itt K a) := by
  refine ⟨fun i ι1 H1 st l S ok hi => ?_, fun i ι1 H1 st x H' l S ok hi hy => ?_, fun i ι1 H1 st l S ok hi => ?_⟩
  · have hl := r.length
    exact ⟨vs, vs[i], SqT.of (l.tups _ _ ha), by simp⟩
  · obtain ⟨e, f⟩ := hy
    subst e
    obtain ⟨w, hw, rr⟩ := (r.later l).get' (f vs (SqT.of (l.tups _ _ ha)))
    exact ⟨Later.refl _ _, S, w, hw, rr⟩
  · exact ⟨vs, SqT.of (l.tups _ _ ha), by rw [← r.length]; exact Nat.le_of_eq hi.symm⟩
theorem isIt_range {K : PySem.W.Frag} {mg : Str → Option Value} {lo : Int} {n : Nat} {ι : List Addr} {H : Hp} : IsIt K mg ((List.range n).map fun (i : Nat) => Val.int (lo + i)) (fun _ => True) ι H (Itr lo n) := by
  refine ⟨fun i ι1 H1 st l S ok hi => (show i < n by simpa using hi), fun i ι1 H1 st x H' l S ok hi hy => ?_, fun i ι1 H1 st l S ok hi => (show n ≤ i by simp at hi; omega)⟩
  obtain ⟨e1, e2⟩ := hy
  subst e1; subst e2
  have hi : i < n := by simpa using hi
  exact ⟨Later.refl _ _, S, .int (lo + i), by simp [hi], Rep.int⟩
@[reducible] def iRange1 (t : MA) : MI := fun ρ st => (t ρ st).bind fun ws st1 => match ws with
  | [.int j] => if -(2 ^ 62) ≤ j ∧ j < 2 ^ 62 then .ok ((List.range j.toNat).map fun (i : Nat) => Val.int (0 + i), fun _ => True) st1 else .bad
  | _ => .bad
theorem ji_range1 {a : Expr} {t : MA} (hm : X.mg "range" = none) (ha : JA X [a] t) (hg : Gl X "range" := by rfl) (hs : starEach [a] X.env = [(false, eval a X.env)] := by rfl) : JI X tg (.Call (.Name "range" p) [a] [] pos) (iRange1 t) := fun W tk => by
  refine ⟨fun pins s σ H R I hw => (pi_range1 hg hm (ha W tk) hs).run pins s σ H R I ?_⟩
  obtain ⟨ι, ρ, st, S, sl, p⟩ := hw
  refine ⟨ι, ρ, st, S, sl, Post.bind p fun ws st1 ι1 H1 vs l1 S1 r1 p1 => ?_⟩
  split at p1
  · rename_i j
    split at p1
    · rename_i hj
      obtain ⟨v, r, e1, q1, q2⟩ := Reps.of_cons r1
      have e2 := q1.int_inv
      have e3 := q2.of_nil
      subst e1; subst e2; subst e3
      exact ⟨j, rfl, hj.1, hj.2, p1.okSame S1 isIt_range⟩
    · exact p1.elim
  · exact p1.elim
@[reducible] def iRange2 (t : MA) : MI := fun ρ st => (t ρ st).bind fun ws st1 => match ws with
  | [.int i, .int j] => if -(2 ^ 62) ≤ i ∧ i < 2 ^ 62 ∧ -(2 ^ 62) ≤ j ∧ j < 2 ^ 62 then .ok ((List.range (j - i).toNat).map fun (k : Nat) => Val.int (i + k), fun _ => True) st1 else .bad
  | _ => .bad
/-! ### while -/
def whileN (t : MT) (body : MS) : Nat → Slots → Store → Option O
  | 0, _, _ => none
  | n + 1, ρ, st => match t ρ st with
    | .ok true st1 => match body ρ st1 with
      | .nx ρ2 st2 => whileN t body n ρ2 st2
      | .ct ρ2 st2 => whileN t body n ρ2 st2
      | .brk ρ2 st2 => some (.nx ρ2 st2)
      | o => some o
    | .ok false st1 => some (.nx ρ st1)
    | .exc x st1 => some (.exc x ρ st1)
    | .bad => some .bad
open Classical in
noncomputable def sWhile (t : MT) (body : MS) : MS := fun ρ st => if h : ∃ o n, whileN t body n ρ st = some o then Classical.choose h else .bad
theorem whileN_mono {t : MT} {body : MS} : ∀ {n : Nat} {ρ : Slots} {st : Store} {o : O}, whileN t body n ρ st = some o → whileN t body (n + 1) ρ st = some o
  | 0, _, _, _, h => by cases h
  | n + 1, ρ, st, o, h => by
    unfold whileN at h ⊢
    cases q : t ρ st with
    | exc x s => rw [q] at h; exact h
    | bad => rw [q] at h; exact h
    | ok k s =>
      rw [q] at h
      cases k with
      | false => exact h
      | true =>
        dsimp only at h ⊢
        cases qb : body ρ s with
        | nx ρ2 s2 => rw [qb] at h; exact whileN_mono h
        | ct ρ2 s2 => rw [qb] at h; exact whileN_mono h
        | brk ρ2 s2 => rw [qb] at h; exact h
        | ret v s2 => rw [qb] at h; exact h
        | exc x ρ2 s2 => rw [qb] at h; exact h
        | bad => rw [qb] at h; exact h
theorem whileN_le {t : MT} {body : MS} {n m : Nat} {ρ : Slots} {st : Store} {o : O} (h : whileN t body n ρ st = some o) (hl : n ≤ m) : whileN t body m ρ st = some o := by
  induction hl with
  | refl => exact h
  | step _ ih => exact whileN_mono ih
theorem sWhile_eq {t : MT} {body : MS} {n : Nat} {ρ : Slots} {st : Store} {o : O} (h : whileN t body n ρ st = some o) : sWhile t body ρ st = o := by
  have hx : ∃ o n, whileN t body n ρ st = some o := ⟨o, n, h⟩
  unfold sWhile
  rw [dif_pos hx]
  obtain ⟨m, hm⟩ := Classical.choose_spec hx
  have h1 := whileN_le h (Nat.le_max_left n m)
  have h2 := whileN_le hm (Nat.le_max_right n m)
  rw [h1] at h2
  exact (Option.some.inj h2).symm
theorem js_while {c : Expr} (hp : PassesOwn (model X.prog X.w) X.A X.env X.xe) (hc : JT X c t) (hb : JSs X body mb) : JS X (.While c body [] pos) (sWhile t mb) := fun W tk => by
  refine PS.weak (ps_while hp (hc W tk) (hb W tk)) fun D σ H ⟨ι, ρ, st, S, sl, p⟩ => ?_
  by_cases hx : ∃ o n, whileN t mb n ρ st = some o
  · obtain ⟨o, n, hn⟩ := hx
    rw [sWhile_eq hn] at p
    refine ⟨fun m σ1 H1 => ∃ ι1 ρ1 st1 o, Sim X.K X.mg ι1 st1 H1 ∧ SlotsOk X.mg ι1 H1 ρ1 σ1 ∧ whileN t mb m ρ1 st1 = some o ∧ PostO X.K X.mg W ι1 H1 D o, ⟨n, ι, ρ, st, o, S, sl, hn, p⟩, ?_⟩
    rintro m σ1 H1 ⟨ι1, ρ1, st1, o1, S1, sl1, h1, p1⟩
    refine ⟨ι1, ρ1, st1, S1, sl1, ?_⟩
    cases m with
    | zero => cases h1
    | succ m =>
      unfold whileN at h1
      cases q : t ρ1 st1 with
      | bad => rw [q] at h1; cases h1; exact p1
      | exc x s => rw [q] at h1; cases h1; exact fun ι2 H2 c d l S2 r => p1 ι2 H2 σ1 c d l S2 (sl1.later l) r
      | ok k s =>
        rw [q] at h1
        intro ι2 H2 k' l2 S2 e
        have e : k = k' := e
        subst e
        have sl2 := sl1.later l2
        have p2 := PostO.later p1 l2
        cases k with
        | false =>
          cases h1
          exact iteF (p2.nx_same S2 sl2)
        | true =>
          refine iteT ⟨fun σ3 H3 => ∃ ι3 ρ3 st3 o, Sim X.K X.mg ι3 st3 H3 ∧ SlotsOk X.mg ι3 H3 ρ3 σ3 ∧ whileN t mb m ρ3 st3 = some o ∧ PostO X.K X.mg W ι3 H3 D o, fun σ3 H3 h => ⟨m, Nat.lt_succ_self _, h⟩, ι2, ρ1, s, S2, sl2, ?_⟩
          dsimp only at h1
          cases qb : mb ρ1 s with
          | nx ρ3 s3 => rw [qb] at h1; exact fun ι3 H3 σ3 l3 S3 sl3 => ⟨ι3, ρ3, s3, o1, S3, sl3, h1, PostO.later p2 l3⟩
          | ct ρ3 s3 => rw [qb] at h1; exact fun ι3 H3 σ3 l3 S3 sl3 => ⟨ι3, ρ3, s3, o1, S3, sl3, h1, PostO.later p2 l3⟩
          | brk ρ3 s3 => rw [qb] at h1; cases h1; exact p2
          | ret v s3 => rw [qb] at h1; cases h1; exact p2
          | exc x ρ3 s3 => rw [qb] at h1; cases h1; exact p2
          | bad => rw [qb] at h1; cases h1; exact p2
  · unfold sWhile at p
    rw [dif_neg hx] at p
    exact p.elim
end
end Ab

set_option Elab.async false
set_option linter.all false
set_option maxRecDepth 100000
/-! Ab: attributes, calls of defs, methods, properties, instances. -/
namespace Ab
open PySem PySem.Spec L2

/-! ### attributes -/
/-- the class of that number: its attribute f is the instance's own -/
def FldOk (K : PySem.W.Frag) (mg : Str → Option Value) (C f : Nat) : Prop := f < nmN ∧ ∀ Ca, mg (nm C) = some (.ref Ca) → Cls K Ca ∧ NoAttr K Ca (nm f)
@[reducible] def vFld (cs : List Nat) (f : Nat) : Val → Store → R Val
  | .ref n, st => match st[n]? with
    | some (.ins C fs) => if C ∈ cs then match fs.lookup f with
        | some w => .ok w st
        | none => .bad
      else .bad
    | _ => .bad
  | _, _ => .bad
@[reducible] def mFld (cs : List Nat) (f : Nat) (m : ME) : ME := fun ρ st => (m ρ st).bind (vFld cs f)
@[reducible] def sFldM (cs : List Nat) (f : Nat) (mo mv : ME) : MS := fun ρ st => (mv ρ st).toO ρ fun w st1 => (mo ρ st1).toO ρ fun x st2 => match x with
  | .ref n => match st2[n]? with
    | some (.ins C fs) => if C ∈ cs ∧ fs.length < 1000 then .nx ρ (st2.set n (.ins C (putM f w fs))) else .bad
    | _ => .bad
  | _ => .bad
@[reducible] def sFldAugM (cs : List Nat) (f : Nat) (g : Val → Val → Store → R Val) (mo mv : ME) : MS := fun ρ st => (mo ρ st).toO ρ fun x st1 => match x with
  | .ref n => match st1[n]? with
    | some (.ins C fs) => if C ∈ cs then match fs.lookup f with
        | some w => (mv ρ st1).toO ρ fun y st2 => (g w y st2).toO ρ fun z st3 => match st3[n]? with
          | some (.ins C' fs') => if C' = C ∧ fs'.length < 1000 then .nx ρ (st3.set n (.ins C (putM f z fs'))) else .bad
          | _ => .bad
        | none => .bad
      else .bad
    | _ => .bad
  | _ => .bad
theorem Sim.putIns {K : PySem.W.Frag} {mg : Str → Option Value} {ι : List Addr} {st : Store} {H : Hp} (S : Sim K mg ι st H) {n C f : Nat} {fs : List (Nat × Val)} (h : st[n]? = some (.ins C fs)) {a Ca dx : Addr} (ha : ι[n]? = some a) {vs : List (Str × V)} (hH : H a = some (.ins Ca dx vs)) (hC : mg (nm C) = some (.ref Ca))
    (r : RepF mg ι H fs vs) (hf : f < nmN) {w : Val} {v : V} (rw_ : Rep mg ι H w v) : Sim K mg ι (st.set n (.ins C (putM f w fs))) (upd H a (.ins Ca dx (putF (nm f) v vs))) ∧ Later ι H ι (upd H a (.ins Ca dx (putF (nm f) v vs))) := by
  refine S.write h ha rfl rfl hH (fun _ e => by cases e) (fun _ _ e => by cases e) ⟨Ca, dx, _, hC, upd_same, ?_⟩
  refine (r.put hf rw_).later ⟨⟨[], by simp⟩, fun b xs e => ?_, fun b ob ks e => ?_⟩
  · rw [upd_ne fun q => by subst q; rw [hH] at e; cases e]
    exact e
  · rw [upd_ne fun q => by subst q; rw [hH] at e; cases e; exact ks]
    exact e
section
variable {X : Cx} {e o value : Expr} {m mo mv : ME} {pos pos' : Pos} {cs : List Nat} {f : Nat} {fN : Str}
theorem je_fld (hc : ∀ C ∈ cs, FldOk X.K X.mg C f) (he : JE X e m) (hn : fN = nm f := by decide +kernel) (hb : attributeBase e fN X.env (eval e X.env) = eval e X.env := by rfl) : JE X (.Attribute e fN pos) (mFld cs f m) := fun W tk => by
  subst hn
  refine PE.weak (pe_fld (he W tk) hb) fun σ H Q ⟨ι, ρ, st, S, sl, p⟩ => ?_
  refine ⟨ι, ρ, st, S, sl, Post.bind p fun w st1 ι1 H1 x l1 S1 r1 p1 => ?_⟩
  cases w with
  | ref n =>
    obtain ⟨a, e1, ha⟩ := r1.ref_inv
    dsimp only [vFld] at p1
    split at p1
    · rename_i C fs ec
      split at p1
      · rename_i hC
        obtain ⟨Ca, dx, vs, e2, e3, rf⟩ := S1.at ec ha
        obtain ⟨hf, hk⟩ := hc C hC
        obtain ⟨c1, c2⟩ := hk Ca e2
        cases q : fs.lookup f with
        | none => rw [q] at p1; exact p1.elim
        | some w =>
          rw [q] at p1
          obtain ⟨v, hv, rv⟩ := rf.lookup hf q
          exact ⟨a, Ca, dx, vs, v, e1, e3, c1, c2, hv, p1.okSame S1 rv⟩
      · exact p1.elim
    · exact p1.elim
  | _ => exact p1.elim
theorem js_fld (hc : ∀ C ∈ cs, FldOk X.K X.mg C f) (ho : JE X o mo) (hv : JE X value mv) (hn : fN = nm f := by decide +kernel) (hs : swapsWith value (some (.Attribute o fN pos')) pos.line X.env = pure false := by rfl) : JS X (.Assign [.Attribute o fN pos'] value pos) (sFldM cs f mo mv) := fun W tk => by
  subst hn
  refine PS.weak (ps_fld (ho W tk) (hv W tk) hs) fun D σ H ⟨ι, ρ, st, S, sl, p⟩ => ?_
  refine ⟨ι, ρ, st, S, sl, PostO.bind p sl fun w st1 ι1 H1 y l1 S1 r1 p1 => ?_⟩
  have sl1 := sl.later l1
  refine ⟨ι1, ρ, st1, S1, sl1, PostO.bind p1 sl1 fun x st2 ι2 H2 xv l2 S2 r2 p2 => ?_⟩
  cases x with
  | ref n =>
    obtain ⟨a, e1, ha⟩ := r2.ref_inv
    dsimp only at p2
    split at p2
    · rename_i C fs ec
      split at p2
      · rename_i hC
        obtain ⟨Ca, dx, vs, e2, e3, rf⟩ := S2.at ec ha
        obtain ⟨hf, hk⟩ := hc C hC.1
        obtain ⟨c1, c2⟩ := hk Ca e2
        obtain ⟨S3, l3⟩ := S2.putIns ec ha e3 e2 rf hf (Rep.later l2 r1)
        exact ⟨a, Ca, dx, vs, e1, e3, c1, c2, by rw [← rf.length]; exact hC.2, p2 ι2 _ σ l3 S3 ((sl1.later l2).later l3)⟩
      · exact p2.elim
    · exact p2.elim
  | _ => exact p2.elim
end

/-! ### defs -/
/-- the promise: what the mirror computes -/
def spM (K : PySem.W.Frag) (mg : Str → Option Value) (f : MF) : Sp := fun vs H Q E => ∃ ι ws st, Sim K mg ι st H ∧ Reps mg ι H ws vs ∧ Post K mg (rel1 mg) ι H Q E (f ws st)
/-- what a call asks: where one stands -/
structure Wh where
  P : Program
  w : World
  K : PySem.W.Frag
  mg : Str → Option Value
  base : Heap
@[reducible] def Cx.wh (X : Cx) : Wh := ⟨X.prog, X.w, X.K, X.mg, X.base⟩
/-- at f stands a def that keeps the mirror's promise -/
def FnM (T : Wh) (k n : Nat) (f : Addr) (mf : MF) : Prop := ∃ fd ps, ps.length = n ∧ PySem.W.keepIn T.K (.ref f) = true ∧ Binds T.K fd ps [] ∧ FnOk T.P T.w T.K T.mg T.base (L2.CX T.P T.w) k f fd ps (spM T.K T.mg mf)
def Has (T : Wh) (x : Str) (k n : Nat) (mf : MF) : Prop := ∃ f, T.mg x = some (.ref f) ∧ FnM T k n f mf
/-- the class of that number has the method -/
def HasM (T : Wh) (C : Nat) (m : Str) (k n : Nat) (mf : MF) : Prop := m ∉ nmT ∧ ∀ Ca, T.mg (nm C) = some (.ref Ca) → ∃ f, Cls T.K Ca ∧ Meth T.K Ca m f ∧ FnM T k n f mf
def HasP (T : Wh) (C : Nat) (m : Str) (k : Nat) (mf : MF) : Prop := ∀ Ca, T.mg (nm C) = some (.ref Ca) → ∃ p f, Cls T.K Ca ∧ PropOf T.K Ca m p f ∧ FnM T k 1 f mf
/-- the class can be made by an __init__ -/
def HasI (T : Wh) (C : Nat) (k n : Nat) (mf : MF) : Prop := ∃ Ca f, T.mg (nm C) = some (.ref Ca) ∧ Mk T.K Ca f ∧ FnM T k n f mf
section
variable {X : Cx} {k n : Nat} {f C : Addr} {fd : FuncData} {ps : List Str} {sp : Sp} {E : L2.St → XK} {x m : Str} {p pos apos : Pos} {e o : Expr} {es : List Expr} {ta : TE} {t : TA} {CX : CXT}
def tMethS (C : Addr) (m : Str) (sp : Sp) (E : L2.St → XK) (ta : TE) (t : TA) : TE := fun σ H Q => ta σ H fun x H1 => ∃ a dx fs, x = .ref a ∧ H1 a = some (.ins C dx fs) ∧ fs.lookup m = none ∧
  t σ H1 fun vs H2 => sp (x :: vs) H2 Q (E σ)
theorem pe_methS {pl : Sem Bool} (he : PE X o ta) (c : Cls X.K C) (hm : Meth X.K C m f) (F : FnOk X.prog X.w X.K X.mg X.base CX k f fd ps sp) (hr : Room k X.A) (hb : Binds X.K fd ps []) (hx : ∀ σ, PassesAt CX X σ (E σ)) (ha : PA X (e :: es) t)
    (hst : starEach (e :: es) X.env = (false, eval e X.env) :: starEach es X.env := by rfl) (hpl : (backTo pos (starEach es X.env)).any (·.1) = false := by rfl)
    (ht : eval (.Call (.Attribute o m apos) (e :: es) [] pos) X.env = (do
      let ov ← eval o X.env
      standAt apos.atName
      let (f, first) ← holding [ov] (getMethod ov m pl)
      callWith pos f first (backTo pos (starEach (e :: es) X.env)) (backToKw pos (keywordEach [] X.env))) := by rfl) :
    PE X (.Call (.Attribute o m apos) (e :: es) [] pos) (tMethS C m sp E ta t) := by
  refine ⟨fun pins s σ H Q I h => ?_⟩
  refine PySem.W.methodCall_KW (pl := pl) (thn (he.run pins s σ H _ I h) fun u s1 ⟨x, H1, I1, rx, a, dx, fs, ex, ea, l, q⟩ => ?_) ht
  subst ex
  obtain rfl : u = Value.ref a := rx
  refine getmeth_ok I1 ea c hm l ?_
  refine PySem.W.callWith_K (first := [.ref a]) (h₀ := X.base) I.ok.mod.kin hm.kp (thn (ha.run pos pins s1 σ H1 _ I1 q) fun us s2 ⟨vs, H2, I2, r, q2⟩ => ⟨I2.kIn, ?_⟩) hst hpl
  exact run_fnS (us := .ref a :: us) (vs := .ref a :: vs) F hr hb (hx σ) I2 (.cons rfl r) q2
theorem pe_meth0S {pl : Sem Bool} (he : PE X o ta) (c : Cls X.K C) (hm : Meth X.K C m f) (F : FnOk X.prog X.w X.K X.mg X.base CX k f fd ps sp) (hr : Room k X.A) (hb : Binds X.K fd ps []) (hx : ∀ σ, PassesAt CX X σ (E σ))
    (ht : eval (.Call (.Attribute o m apos) [] [] pos) X.env = (do
      let ov ← eval o X.env
      standAt apos.atName
      let (f, first) ← holding [ov] (getMethod ov m pl)
      callWith pos f first (backTo pos (starEach [] X.env)) (backToKw pos (keywordEach [] X.env))) := by rfl) :
    PE X (.Call (.Attribute o m apos) [] [] pos) (tMethS C m sp E ta tNil) := by
  refine ⟨fun pins s σ H Q I h => ?_⟩
  refine PySem.W.methodCall_KW (pl := pl) (thn (he.run pins s σ H _ I h) fun u s1 ⟨x, H1, I1, rx, a, dx, fs, ex, ea, l, q⟩ => ?_) ht
  subst ex
  obtain rfl : u = Value.ref a := rx
  refine getmeth_ok I1 ea c hm l ?_
  exact PySem.W.callWith_K0 (first := [.ref a]) I1.kIn hm.kp (run_fnS (us := [.ref a]) (vs := [.ref a]) F hr hb (hx σ) I1 (.cons rfl .nil) q)
def tMakeS (C : Addr) (sp : Sp) (E : L2.St → XK) (t : TA) : TE := fun σ H Q => t σ H fun vs H1 => ∀ x dx, H1 x = none → H1 dx = none → dx ≠ x →
  sp (.ref x :: vs) (upd (upd H1 dx (.own x)) x (.ins C dx [])) (fun v H2 => v = .non ∧ Q (.ref x) H2) (E σ)
theorem run_makeS {pins : List (Addr × Obj)} {σ : L2.St} {H : Hp} {s : Shared} {Q : VK} {us : List Value} {vs : List V} (M : Mk X.K C f) (F : FnOk X.prog X.w X.K X.mg X.base CX k f fd ps sp) (hr : Room (k + 1) X.A) (hb : Binds X.K fd ps [])
    (hx : PassesAt CX X σ (E σ)) (I : Inv X pins σ H s) (r : Vals vs us)
    (h : ∀ x dx, H x = none → H dx = none → dx ≠ x → sp (.ref x :: vs) (upd (upd H dx (.own x)) x (.ins C dx [])) (fun v H2 => v = .non ∧ Q (.ref x) H2) (E σ)) :
    wpAny (model X.prog X.w) X.A (call (.ref C) us) (EP X pins σ Q) X.xe s := by
  have hq := h (s.heap.objs.size + 1) s.heap.objs.size (I.hok.fresh (Nat.le_succ _)) (I.hok.fresh (Nat.le_refl _)) (Nat.ne_of_lt (Nat.lt_succ_self _))
  have I2 := Inv.made (C := C) I
  have r2 : Vals (V.ref (s.heap.objs.size + 1) :: vs) (Value.ref (s.heap.objs.size + 1) :: us) := .cons rfl r
  have hl : (Value.ref (s.heap.objs.size + 1) :: us).length = ps.length := by
    have e := r2.length
    rw [F.len _ _ _ _ hq] at e
    exact e.symm
  have b := hb { s with heap := (s.heap.push PySem.W.emptyDict).push (PySem.W.instObj C s.heap.objs.size) } (Value.ref (s.heap.objs.size + 1) :: us) I2.kIn (by rw [List.append_nil]; exact hl)
  rw [List.append_nil] at b
  refine wpAny_call (make_map (f := f) I.kIn M.makes M.init (beq_iff_eq.mp M.fn) (codeAny_mono (F.run _ X.stack _ _ ⟨Value.ref (s.heap.objs.size + 1) :: us, []⟩ (Value.ref (s.heap.objs.size + 1) :: us) _ _ (E σ) (hr.make C us [])
    (I2.env0.make C us []) b r2 hq) fun r s' hq' => ?_))
  cases r with
  | error e => exact hx pins _ _ e s' I2 hq'
  | ok fl =>
    cases fl with
    | ret u =>
      obtain ⟨v, H', I3, rv, ev, q3⟩ := I2.after hq'
      subst ev
      exact ⟨rv, ⟨V.ref (s.heap.objs.size + 1), H', I3, rfl, q3⟩⟩
    | next => exact False.elim hq'
    | brk => exact False.elim hq'
    | cont => exact False.elim hq'
theorem pe_makeS (M : Mk X.K C f) (F : FnOk X.prog X.w X.K X.mg X.base CX k f fd ps sp) (hr : Room (k + 1) X.A) (hg : Gl X x) (hm : X.mg x = some (.ref C)) (hb : Binds X.K fd ps []) (hx : ∀ σ, PassesAt CX X σ (E σ))
    (ha : PA X (e :: es) t) (hdb : (x == ("__debug__" : Str)) = false := by decide) (he : starEach (e :: es) X.env = (false, eval e X.env) :: starEach es X.env := by rfl) (hpl : (backTo pos (starEach es X.env)).any (·.1) = false := by rfl) :
    PE X (.Call (.Name x p) (e :: es) [] pos) (tMakeS C sp E t) := by
  refine ⟨fun pins s σ H Q I h => ?_⟩
  refine PySem.wpAny_Call_Name_kw (ld_glob I hg hm ?_ hdb)
  refine PySem.W.callWith_K (h₀ := X.base) I.ok.mod.kin M.kp (thn (ha.run pos pins s σ H _ I h) fun us s1 ⟨vs, H1, I1, r, q⟩ => ⟨I1.kIn, ?_⟩) he hpl
  exact run_makeS M F hr hb (hx σ) I1 r q
end
section
variable {X : Cx} {k n : Nat} {x m : Str} {p pos apos : Pos} {e o : Expr} {es : List Expr} {t : MA} {mf : MF} {mo : ME}
theorem call_read {W : WX} {σ : L2.St} {H : Hp} {Q : VK} (h : rdG X.K X.mg (rel1 X.mg) W (mApp mf t) σ H Q) : tCallS (spM X.K X.mg mf) (WE W) (rdG X.K X.mg (relL X.mg) W t) σ H Q := by
  obtain ⟨ι, ρ, st, S, sl, p⟩ := h
  exact ⟨ι, ρ, st, S, sl, Post.bind p fun ws st1 ι1 H1 vs l1 S1 r1 p1 => ⟨ι1, ws, st1, S1, r1, p1⟩⟩
/-- f(..) -/
theorem je_call (h : Has (Cx.wh X) x k n mf) (hr : Room k X.A) (ha : JA X (e :: es) t) (hg : Gl X x := by rfl) (hdb : (x == ("__debug__" : Str)) = false := by decide) (he : starEach (e :: es) X.env = (false, eval e X.env) :: starEach es X.env := by rfl)
    (hpl : (backTo pos (starEach es X.env)).any (·.1) = false := by rfl) : JE X (.Call (.Name x p) (e :: es) [] pos) (mApp mf t) := fun W tk => by
  obtain ⟨f, hm, fd, ps, hl, hk, hb, F⟩ := h
  exact PE.weak (pe_callS (E := WE W) F hr hg hm hk hb (passAt tk) (ha W tk) hdb he hpl) fun σ H Q h => call_read h
/-- o.m(..): by the class of the object -/
@[reducible] def clsAt (st : Store) : Val → Option Nat
  | .ref n => match st[n]? with
    | some (.ins C _) => some C
    | _ => none
  | _ => none
@[reducible] def mMeth (tbl : List (Nat × MF)) (mo : ME) (t : MA) : ME := fun ρ st => (mo ρ st).bind fun x st1 => match clsAt st1 x with
  | some C => match tbl.lookup C with
    | some mf => (t ρ st1).bind fun ws st2 => mf (x :: ws) st2
    | none => .bad
  | none => .bad
theorem clsAt_some {st : Store} {x : Val} {C : Nat} (h : clsAt st x = some C) : ∃ n fs, x = .ref n ∧ st[n]? = some (.ins C fs) := by
  unfold clsAt at h
  split at h
  · rename_i n
    split at h
    · rename_i C' fs e
      cases h
      exact ⟨n, fs, rfl, e⟩
    · cases h
  · cases h
theorem lookup_mem {β : Type} {tbl : List (Nat × β)} {C : Nat} {b : β} (h : tbl.lookup C = some b) : (C, b) ∈ tbl := by
  induction tbl with
  | nil => cases h
  | cons p r ih =>
    obtain ⟨i, u⟩ := p
    rw [List.lookup_cons] at h
    by_cases q : C = i
    · subst q
      simp only [beq_self_eq_true] at h
      cases h
      exact List.mem_cons_self
    · rw [show (C == i) = false from beq_eq_false_iff_ne.mpr q] at h
      exact List.mem_cons_of_mem _ (ih h)
theorem meth_read {W : WX} {σ : L2.St} {H : Hp} {Q : VK} {ι : List Addr} {ρ : Slots} {st st1 : Store} {x : Val} {C : Nat} {Ca : Addr} (S : Sim X.K X.mg ι st H) (sl : SlotsOk X.mg ι H ρ σ) (h1 : mo ρ st = .ok x st1) (h2 : clsAt st1 x = some C) (hC : X.mg (nm C) = some (.ref Ca)) (hm : m ∉ nmT)
    (p : Post X.K X.mg (rel1 X.mg) ι H Q (fun c d H' => W c d σ H') ((t ρ st1).bind fun ws st2 => mf (x :: ws) st2)) :
    tMethS Ca m (spM X.K X.mg mf) (WE W) (rdG X.K X.mg (rel1 X.mg) W mo) (rdG X.K X.mg (relL X.mg) W t) σ H Q := by
  refine ⟨ι, ρ, st, S, sl, ?_⟩
  rw [h1]
  intro ι1 H1 v l1 S1 r1
  obtain ⟨n, fs, e, ec⟩ := clsAt_some h2
  subst e
  obtain ⟨a, e1, ha⟩ := Rep.ref_inv r1
  obtain ⟨Ca', dx, vs, e2, e3, rf⟩ := S1.at ec ha
  rw [hC] at e2
  cases e2
  refine ⟨a, dx, vs, e1, e3, rf.lookup_other hm, ι1, ρ, st1, S1, sl.later l1, Post.bind (Post.later p l1) fun ws st2 ι2 H2 us l2 S2 r2 p2 => ?_⟩
  exact ⟨ι2, _, st2, S2, Reps.cons (Rep.later l2 r1) r2, p2⟩
theorem je_meth {tbl : List (Nat × MF)} {pl : Sem Bool} (h : ∀ C mf, (C, mf) ∈ tbl → (∃ Ca, X.mg (nm C) = some (.ref Ca)) ∧ HasM (Cx.wh X) C m k n mf) (hne : tbl ≠ []) (hr : Room k X.A) (ho : JE X o mo) (ha : JA X (e :: es) t)
    (hst : starEach (e :: es) X.env = (false, eval e X.env) :: starEach es X.env := by rfl) (hpl : (backTo pos (starEach es X.env)).any (·.1) = false := by rfl)
    (ht : eval (.Call (.Attribute o m apos) (e :: es) [] pos) X.env = (do
      let ov ← eval o X.env
      standAt apos.atName
      let (f, first) ← holding [ov] (getMethod ov m pl)
      callWith pos f first (backTo pos (starEach (e :: es) X.env)) (backToKw pos (keywordEach [] X.env))) := by rfl) :
    JE X (.Call (.Attribute o m apos) (e :: es) [] pos) (mMeth tbl mo t) := fun W tk => by
  refine ⟨fun pins s σ H Q I hw => ?_⟩
  obtain ⟨ι, ρ, st, S, sl, p⟩ := hw
  have use : ∀ C mf Ca, (C, mf) ∈ tbl → X.mg (nm C) = some (.ref Ca) → (∃ g, tMethS Ca m (spM X.K X.mg g) (WE W) (rdG X.K X.mg (rel1 X.mg) W mo) (rdG X.K X.mg (relL X.mg) W t) σ H Q ∧ g = mf) → wpAny (model X.prog X.w) X.A (eval (.Call (.Attribute o m apos) (e :: es) [] pos) X.env) (EP X pins σ Q) X.xe s := by
    rintro C mf Ca hmem hC ⟨g, hg, rfl⟩
    obtain ⟨_, _, hk⟩ := h C g hmem
    obtain ⟨f, c, hM, fd, ps, hl, hk, hb, F⟩ := hk Ca hC
    exact (pe_methS (E := WE W) (ho W tk) c hM F hr hb (passAt tk) (ha W tk) hst hpl ht).run pins s σ H Q I hg
  cases q : mo ρ st with
  | bad => dsimp only [mMeth] at p; rw [q] at p; exact p.elim
  | exc x st1 =>
    dsimp only [mMeth] at p; rw [q] at p
    cases tbl with
    | nil => exact absurd rfl hne
    | cons b r =>
      obtain ⟨C, mf⟩ := b
      obtain ⟨⟨Ca, hC⟩, _⟩ := h C mf List.mem_cons_self
      exact use C mf Ca List.mem_cons_self hC ⟨mf, ⟨ι, ρ, st, S, sl, by rw [q]; exact p⟩, rfl⟩
  | ok x st1 =>
    dsimp only [mMeth] at p; rw [q] at p
    dsimp only [R.bind] at p
    cases qc : clsAt st1 x with
    | none => rw [qc] at p; exact p.elim
    | some C =>
      rw [qc] at p
      dsimp only at p
      cases ql : tbl.lookup C with
      | none => rw [ql] at p; exact p.elim
      | some mf =>
        rw [ql] at p
        dsimp only at p
        have hmem := lookup_mem ql
        obtain ⟨⟨Ca, hC⟩, hm, _⟩ := h C mf hmem
        exact use C mf Ca hmem hC ⟨mf, meth_read S sl q qc hC hm p, rfl⟩
theorem je_meth0 {tbl : List (Nat × MF)} {pl : Sem Bool} (h : ∀ C mf, (C, mf) ∈ tbl → (∃ Ca, X.mg (nm C) = some (.ref Ca)) ∧ HasM (Cx.wh X) C m k n mf) (hne : tbl ≠ []) (hr : Room k X.A) (ho : JE X o mo)
    (ht : eval (.Call (.Attribute o m apos) [] [] pos) X.env = (do
      let ov ← eval o X.env
      standAt apos.atName
      let (f, first) ← holding [ov] (getMethod ov m pl)
      callWith pos f first (backTo pos (starEach [] X.env)) (backToKw pos (keywordEach [] X.env))) := by rfl) :
    JE X (.Call (.Attribute o m apos) [] [] pos) (mMeth tbl mo aNil) := fun W tk => by
  refine ⟨fun pins s σ H Q I hw => ?_⟩
  obtain ⟨ι, ρ, st, S, sl, p⟩ := hw
  have use : ∀ C mf Ca, (C, mf) ∈ tbl → X.mg (nm C) = some (.ref Ca) → tMethS Ca m (spM X.K X.mg mf) (WE W) (rdG X.K X.mg (rel1 X.mg) W mo) tNil σ H Q → wpAny (model X.prog X.w) X.A (eval (.Call (.Attribute o m apos) [] [] pos) X.env) (EP X pins σ Q) X.xe s := by
    intro C mf Ca hmem hC hg
    obtain ⟨_, _, hk⟩ := h C mf hmem
    obtain ⟨f, c, hM, fd, ps, hl, hk, hb, F⟩ := hk Ca hC
    exact (pe_meth0S (E := WE W) (ho W tk) c hM F hr hb (passAt tk) ht).run pins s σ H Q I hg
  cases q : mo ρ st with
  | bad => dsimp only [mMeth] at p; rw [q] at p; exact p.elim
  | exc x st1 =>
    dsimp only [mMeth] at p; rw [q] at p
    cases tbl with
    | nil => exact absurd rfl hne
    | cons b r =>
      obtain ⟨C, mf⟩ := b
      obtain ⟨⟨Ca, hC⟩, _⟩ := h C mf List.mem_cons_self
      exact use C mf Ca List.mem_cons_self hC ⟨ι, ρ, st, S, sl, by rw [q]; exact p⟩
  | ok x st1 =>
    dsimp only [mMeth] at p; rw [q] at p
    dsimp only [R.bind] at p
    cases qc : clsAt st1 x with
    | none => rw [qc] at p; exact p.elim
    | some C =>
      rw [qc] at p
      dsimp only at p
      cases ql : tbl.lookup C with
      | none => rw [ql] at p; exact p.elim
      | some mf =>
        rw [ql] at p
        dsimp only at p
        have hmem := lookup_mem ql
        obtain ⟨⟨Ca, hC⟩, hm, _⟩ := h C mf hmem
        refine use C mf Ca hmem hC ⟨ι, ρ, st, S, sl, ?_⟩
        rw [q]
        intro ι1 H1 v l1 S1 r1
        obtain ⟨n, fs, e, ec⟩ := clsAt_some qc
        subst e
        obtain ⟨a, e1, ha⟩ := Rep.ref_inv r1
        obtain ⟨Ca', dx, vs, e2, e3, rf⟩ := S1.at ec ha
        rw [hC] at e2
        cases e2
        exact ⟨a, dx, vs, e1, e3, rf.lookup_other hm, ι1, _, st1, S1, Reps.cons r1 Reps.nil, Post.later p l1⟩
/-- o.f, a property -/
@[reducible] def mProp (tbl : List (Nat × MF)) (mo : ME) : ME := fun ρ st => (mo ρ st).bind fun x st1 => match clsAt st1 x with
  | some C => match tbl.lookup C with
    | some mf => match mf [x] st1 with
      | .exc _ _ => .bad
      | r => r
    | none => .bad
  | none => .bad
theorem je_prop {tbl : List (Nat × MF)} (h : ∀ C mf, (C, mf) ∈ tbl → (∃ Ca, X.mg (nm C) = some (.ref Ca)) ∧ HasP (Cx.wh X) C m k mf) (hne : tbl ≠ []) (hr : Room (k + 1) X.A) (ho : JE X o mo)
    (hab : attributeBase o m X.env (eval o X.env) = eval o X.env := by rfl) : JE X (.Attribute o m pos) (mProp tbl mo) := fun W tk => by
  refine ⟨fun pins s σ H Q I hw => ?_⟩
  obtain ⟨ι, ρ, st, S, sl, p⟩ := hw
  have use : ∀ C mf Ca, (C, mf) ∈ tbl → X.mg (nm C) = some (.ref Ca) → tProp Ca (spM X.K X.mg mf) [] E0 (rdG X.K X.mg (rel1 X.mg) W mo) σ H Q → wpAny (model X.prog X.w) X.A (eval (.Attribute o m pos) X.env) (EP X pins σ Q) X.xe s := by
    intro C mf Ca hmem hC hg
    obtain ⟨_, hk⟩ := h C mf hmem
    obtain ⟨q, f, c, hP, fd, ps, hl, hk, hb, F⟩ := hk Ca hC
    exact (pe_prop (ho W tk) c hP F hr hb .nil passL hab).run pins s σ H Q I hg
  cases q : mo ρ st with
  | bad => dsimp only [mProp] at p; rw [q] at p; exact p.elim
  | exc x st1 =>
    dsimp only [mProp] at p; rw [q] at p
    cases tbl with
    | nil => exact absurd rfl hne
    | cons b r =>
      obtain ⟨C, mf⟩ := b
      obtain ⟨⟨Ca, hC⟩, _⟩ := h C mf List.mem_cons_self
      exact use C mf Ca List.mem_cons_self hC ⟨ι, ρ, st, S, sl, by rw [q]; exact p⟩
  | ok x st1 =>
    dsimp only [mProp] at p; rw [q] at p
    dsimp only [R.bind] at p
    cases qc : clsAt st1 x with
    | none => rw [qc] at p; exact p.elim
    | some C =>
      rw [qc] at p
      dsimp only at p
      cases ql : tbl.lookup C with
      | none => rw [ql] at p; exact p.elim
      | some mf =>
        rw [ql] at p
        dsimp only at p
        have hmem := lookup_mem ql
        obtain ⟨⟨Ca, hC⟩, _⟩ := h C mf hmem
        refine use C mf Ca hmem hC ⟨ι, ρ, st, S, sl, ?_⟩
        rw [q]
        intro ι1 H1 v l1 S1 r1
        obtain ⟨n, fs, e, ec⟩ := clsAt_some qc
        subst e
        obtain ⟨a, e1, ha⟩ := Rep.ref_inv r1
        obtain ⟨Ca', dx, vs, e2, e3, rf⟩ := S1.at ec ha
        rw [hC] at e2
        cases e2
        refine ⟨a, dx, vs, e1, e3, ι1, _, st1, S1, Reps.cons (by rw [← e1]; exact r1) Reps.nil, ?_⟩
        cases qm : mf [.ref n] st1 with
        | ok w s => rw [qm] at p; exact Post.later p l1
        | exc x s => rw [qm] at p; exact p.elim
        | bad => rw [qm] at p; exact p.elim
/-- C(..) -/
@[reducible] def vMake (C : Nat) (mf : MF) : MF := fun ws st => (mf (.ref st.length :: ws) (st ++ [.ins C []])).bind fun v st1 => match v with
  | .non => .ok (.ref st.length) st1
  | _ => .bad
theorem make_sim {K : PySem.W.Frag} {mg : Str → Option Value} {ι : List Addr} {st : Store} {H : Hp} (S : Sim K mg ι st H) {C : Nat} {Ca x dx : Addr} (hC : mg (nm C) = some (.ref Ca)) (hx : H x = none) (hd : H dx = none) (ne : dx ≠ x) :
    Sim K mg (ι ++ [x]) (st ++ [.ins C []]) (upd (upd H dx (.own x)) x (.ins Ca dx [])) ∧ Later ι H (ι ++ [x]) (upd (upd H dx (.own x)) x (.ins Ca dx [])) :=
  S.push hx ((same_new (o := .own x) hd).trans (same_new (by rw [upd_ne (Ne.symm ne)]; exact hx))) ⟨Ca, dx, [], hC, upd_same, .nil⟩
theorem je_make {C : Nat} (h : HasI (Cx.wh X) C k n mf) (hx : x = nm C) (hr : Room (k + 1) X.A) (ha : JA X (e :: es) t) (hg : Gl X x := by rfl) (hdb : (x == ("__debug__" : Str)) = false := by decide) (he : starEach (e :: es) X.env = (false, eval e X.env) :: starEach es X.env := by rfl)
    (hpl : (backTo pos (starEach es X.env)).any (·.1) = false := by rfl) : JE X (.Call (.Name x p) (e :: es) [] pos) (mApp (vMake C mf) t) := fun W tk => by
  obtain ⟨Ca, f, hC, M, fd, ps, hl, hk, hb, F⟩ := h
  refine PE.weak (pe_makeS (E := WE W) M F hr hg (by rw [hx]; exact hC) hb (passAt tk) (ha W tk) hdb he hpl) fun σ H Q ⟨ι, ρ, st, S, sl, p⟩ => ?_
  refine ⟨ι, ρ, st, S, sl, Post.bind p fun ws st1 ι1 H1 vs l1 S1 r1 p1 => fun q dx hq hdx ne => ?_⟩
  obtain ⟨S2, l2⟩ := make_sim S1 hC hq hdx ne
  refine ⟨_, _, _, S2, Reps.cons (Rep.ref (n := st1.length) (a := q) ?_) (Reps.later l2 r1), Post.bind (Post.later p1 l2) fun w st3 ι3 H3 v l3 S3 r3 p3 => ?_⟩
  · rw [← S1.len, List.getElem?_append_right (Nat.le_refl _)]; simp
  · cases w with
    | non =>
      refine ⟨r3.non_inv, p3.okSame S3 (Rep.ref ?_)⟩
      refine l3.get ?_
      rw [← S1.len, List.getElem?_append_right (Nat.le_refl _)]; simp
    | _ => exact p3.elim
end

/-! ### a def's body -/
@[reducible] def O.fin (o : O) : R Val := match o with
  | .nx _ st => .ok .non st
  | .ret w st => .ok w st
  | .exc x _ st => .exc x st
  | _ => .bad
/-- the def with n parameters and m further names -/
def defM (n m : Nat) (body : MS) : MF := fun ws st => if ws.length = n then (body (ws.map some ++ List.replicate m none) st).fin else .bad
theorem defM_eq {n m : Nat} {body : MS} {ws : List Val} {st : Store} (h : ws.length = n) : defM n m body ws st = (body (ws.map some ++ List.replicate m none) st).fin := if_pos h
theorem slots_start {mg : Str → Option Value} {ι : List Addr} {H : Hp} {ws : List Val} {vs : List V} (r : Reps mg ι H ws vs) {N : List Str} {m : Nat} (hN : N.length = ws.length + m) : SlotsOk mg ι H (ws.map some ++ List.replicate m none) (L2.start N vs) := by
  have hl := r.length
  refine ⟨by unfold L2.start; simp [hl]; omega, fun i w e => ?_⟩
  by_cases hi : i < ws.length
  · rw [List.getElem?_append_left (by simpa using hi), List.getElem?_map] at e
    cases q : ws[i]? with
    | none => rw [q] at e; cases e
    | some u =>
      rw [q] at e
      cases e
      obtain ⟨v, ev, rv⟩ := r.get q
      exact ⟨v, by unfold L2.start; rw [List.getElem?_append_left (by simp; omega), List.getElem?_map, ev]; rfl, rv⟩
  · rw [List.getElem?_append_right (by simpa using hi), List.getElem?_replicate] at e
    split at e <;> cases e
end Ab

set_option Elab.async false
set_option linter.all false
set_option maxRecDepth 100000
/-! Ab: list comprehensions; built-in functions and methods. -/
namespace Ab
open PySem PySem.Spec L2

/-- code that is never reached -/
@[reducible] def mBad : ME := fun _ _ => .bad
@[reducible] def sBad : MS := fun _ _ => .bad
theorem jss_never {X : Cx} {s : List Stmt} : JSs X s sBad := fun W tk => PSs.weak pss_never fun D σ H ⟨ι, ρ, st, S, sl, p⟩ => p

/-! ### list comprehensions -/
def wipeM (ρ : Slots) : List Nat → Slots
  | [] => ρ
  | v :: vs => (wipeM ρ vs).set v none
theorem wipeM_ok {mg : Str → Option Value} {ι : List Addr} {H : Hp} {ρ : Slots} {σ : L2.St} (h : SlotsOk mg ι H ρ σ) : ∀ vs : List Nat, SlotsOk mg ι H (wipeM ρ vs) (wipe σ vs)
  | [] => h
  | v :: vs => by
    have ih := wipeM_ok h vs
    refine ⟨by unfold wipeM wipe; simp [ih.1], fun i w e => ?_⟩
    unfold wipeM at e
    unfold wipe
    by_cases hv : v = i
    · subst hv
      exfalso
      by_cases hl : v < (wipeM ρ vs).length
      · rw [List.getElem?_set_self hl] at e
        cases e
      · rw [List.getElem?_eq_none (by rw [List.length_set]; omega)] at e
        cases e
    · rw [List.getElem?_set_ne hv] at e ⊢
      exact ih.2 i w e
theorem wipe_out {σ : L2.St} {i : Nat} : ∀ {vs : List Nat}, i ∉ vs → (wipe σ vs)[i]? = σ[i]?
  | [], _ => rfl
  | v :: vs, h => by
    unfold wipe
    rw [List.getElem?_set_ne fun e => h (by simp [e])]
    exact wipe_out fun z => h (List.mem_cons_of_mem _ z)
theorem wipe_in {σ : L2.St} {i : Nat} : ∀ {vs : List Nat}, i ∈ vs → i < σ.length → (wipe σ vs)[i]? = some none
  | v :: vs, h, hl => by
    unfold wipe
    by_cases q : v = i
    · subst q
      rw [List.getElem?_set_self (by rw [wipe_length]; exact hl)]
    · rw [List.getElem?_set_ne q]
      exact wipe_in ((List.mem_cons.mp h).resolve_left (Ne.symm q)) hl
theorem wipe_same {vs : List Nat} {σ σ2 : L2.St} (o : OutS vs (wipe σ vs) σ2) : wipe σ2 vs = wipe σ vs := by
  have hl : σ2.length = σ.length := by rw [o.1, wipe_length]
  apply List.ext_getElem?
  intro i
  by_cases hi : i < σ.length
  · by_cases hm : i ∈ vs
    · rw [wipe_in hm (by omega), wipe_in hm hi]
    · rw [wipe_out hm, o.2 i hm]
  · rw [List.getElem?_eq_none (by rw [wipe_length]; omega), List.getElem?_eq_none (by rw [wipe_length]; omega)]
abbrev ixs (own : List (Str × Nat)) : List Nat := own.map (·.2)
@[reducible] def R.noX {α : Type} (r : R α) : R α := match r with
  | .exc _ _ => .bad
  | r => r
@[reducible] def mYes : MT := fun _ st => .ok true st
open Classical in
noncomputable def lcM (g : MG) (t : MT) (elt : ME) (okp : Store → Prop) (D : Nat) (ρ : Slots) : List Val → Store → R Val
  | [], st => if okp st then .ok (.ref D) st else .bad
  | w :: ws, st => if okp st then match g w ρ st with
      | none => .bad
      | some (ρ1, st1) => ((t ρ1 st1).noX).bind fun k st2 =>
        if k = true then ((elt ρ1 st2).noX).bind fun y st3 => match st3[D]? with
          | some (.lst acc) => if acc.length < sizeLine then lcM g t elt okp D ρ ws (st3.set D (.lst (acc ++ [y]))) else .bad
          | _ => .bad
        else lcM g t elt okp D ρ ws st2
    else .bad
@[reducible] noncomputable def mLc (mi : MI) (g : MG) (t : MT) (elt : ME) (vs : List Nat) : ME := fun ρ st => (mi ρ st).bind fun it st1 => lcM g t elt it.2 st1.length (wipeM ρ vs) it.1 (st1 ++ [.lst []])
abbrev W0 : WX := fun _ _ _ _ => False
def JTs (X : Cx) (es : List Expr) (m : MT) : Prop := ∀ W, Takes X W → PTs X es (rdG X.K X.mg relB W m)
theorem PTs.weak {X : Cx} {e : List Expr} {t t' : TT} (h : PTs X e t) (w : ∀ σ H Q, t' σ H Q → t σ H Q) : PTs X e t' := ⟨fun pins s σ H Q I q => h.run pins s σ H Q I (w σ H Q q)⟩
theorem jts_nil {X : Cx} : JTs X [] mYes := fun W tk => PTs.weak pts_nil fun σ H Q ⟨ι, ρ, st, S, sl, p⟩ => p.okSame S rfl
theorem jts_one {X : Cx} {c : Expr} {t : MT} (h : JT X c t) : JTs X [c] t := fun W tk => pts_one (h W tk)
theorem Post.noX {α β : Type} {K : PySem.W.Frag} {mg : Str → Option Value} {rel : List Addr → Hp → α → β → Prop} {ι : List Addr} {H : Hp} {Q : β → Hp → Prop} {E : Value → Option Addr → Hp → Prop} {r : R α} (p : Post K mg rel ι H Q E r.noX) : Post K mg rel ι H Q (fun _ _ _ => False) r := by
  cases r with
  | ok a st => exact p
  | exc x st => exact p.elim
  | bad => exact p.elim
section
variable {X : Cx} {elt tg iter : Expr} {ifs : List Expr} {scope : Scope} {own : List (Str × Nat)} {pos : Pos} {mi : MI} {g : MG} {t : MT} {me : ME}
theorem lc_read {W : WX} {σ : L2.St} {H : Hp} {Q : VK} (h : rdG X.K X.mg (rel1 X.mg) W (mLc mi g t me (ixs own)) σ H Q) :
    tLc (rdG X.K X.mg (relI X.K X.mg) W mi) (rdT X.K X.mg (ixs own) g) (rdG X.K X.mg relB W0 t) (rdG X.K X.mg (rel1 X.mg) W0 me) (ixs own) σ H Q := by
  obtain ⟨ι, ρ, st, S, sl, p⟩ := h
  refine ⟨ι, ρ, st, S, sl, Post.bind p fun it st1 ι1 H1 J l1 S1 r1 p1 => fun D hD => ?_⟩
  obtain ⟨items, okp⟩ := it
  have r1 : IsIt X.K X.mg items okp ι1 H1 J := r1
  have sl1 := wipeM_ok (sl.later l1) (ixs own)
  have hs := same_new (o := .lst []) hD
  obtain ⟨S2, l2⟩ := S1.push (c := .lst []) hD hs ⟨[], upd_same, Reps.nil⟩
  have hDi : (ι1 ++ [D])[st1.length]? = some D := by rw [← S1.len, List.getElem?_append_right (Nat.le_refl _)]; simp
  refine ⟨fun i m H' => ∃ ι' st', Later (ι1 ++ [D]) (upd H1 D (.lst [])) ι' H' ∧ Sim X.K X.mg ι' st' H' ∧ m = items.length - i ∧ i ≤ items.length ∧ Post X.K X.mg (rel1 X.mg) ι' H' Q (fun c d H' => W c d σ H') (lcM g t me okp st1.length (wipeM ρ (ixs own)) (items.drop i) st'),
    ⟨items.length, ι1 ++ [D], st1 ++ [.lst []], Later.refl _ _, S2, by simp, Nat.zero_le _, by simpa using Post.later p1 l2⟩, ?_⟩
  rintro i m H3 ⟨ι3, st3, l3, S3, rfl, hi, p3⟩
  have l13 := l2.trans l3
  by_cases hlt : i < items.length
  · rw [List.drop_eq_getElem_cons hlt] at p3
    unfold lcM at p3
    split at p3
    · rename_i hok
      refine .inr ⟨r1.go i ι3 H3 st3 l13 S3 hok hlt, fun H4 => ∃ ι4 st4, Later (ι1 ++ [D]) (upd H1 D (.lst [])) ι4 H4 ∧ Sim X.K X.mg ι4 st4 H4 ∧ Post X.K X.mg (rel1 X.mg) ι4 H4 Q (fun c d H' => W c d σ H') (lcM g t me okp st1.length (wipeM ρ (ixs own)) (items.drop (i + 1)) st4), ?_, ?_⟩
      · rintro H4 ⟨ι4, st4, l4, S4, p4⟩
        exact ⟨items.length - (i + 1), by omega, ι4, st4, l4, S4, rfl, hlt, p4⟩
      · intro x H4 hy
        obtain ⟨l4, S4, w, hw, rw_⟩ := r1.yld i ι3 H3 st3 x H4 l13 S3 hok hlt hy
        have hw' : items[i] = w := by rw [List.getElem?_eq_getElem hlt] at hw; exact Option.some.inj hw
        rw [hw'] at p3
        refine ⟨ι3, wipeM ρ (ixs own), st3, w, S4, sl1.later (l13.trans l4), rw_, ?_⟩
        cases q : g w (wipeM ρ (ixs own)) st3 with
        | none => rw [q] at p3; exact p3.elim
        | some z =>
          obtain ⟨ρ5, st5⟩ := z
          rw [q] at p3
          dsimp only at p3
          intro ι5 H5 σ5 l5 S5 sl5 o5
          have l15 := (l3.trans l4).trans l5
          have p5 := Post.later (Post.later p3 l4) l5
          refine ⟨wipe_same o5, ι5, ρ5, st5, S5, sl5, ?_⟩
          refine Post.noX (E := fun c d H' => W c d σ H') (Post.bind p5 fun k st6 ι6 H6 k' l6 S6 r6 p6 => ?_)
          have r6 : k = k' := r6
          subst r6
          have sl6 := sl5.later l6
          have l16 := l15.trans l6
          cases k with
          | false =>
            rw [if_neg Bool.false_ne_true] at p6
            exact iteF ⟨ι6, st6, l16, S6, p6⟩
          | true =>
            rw [if_pos rfl] at p6
            refine iteT ⟨ι6, ρ5, st6, S6, sl6, ?_⟩
            refine Post.noX (E := fun c d H' => W c d σ H') (Post.bind p6 fun y st7 ι7 H7 yv l7 S7 r7 p7 => ?_)
            have l17 := l16.trans l7
            have hD7 := l17.get hDi
            split at p7
            · rename_i acc eacc
              obtain ⟨vs, hvs, rvs⟩ := S7.at eacc hD7
              split at p7
              · rename_i hz
                obtain ⟨S8, l8⟩ := S7.write (c' := .lst (acc ++ [y])) (o' := .lst (vs ++ [yv])) eacc hD7 rfl rfl hvs (fun _ e => by cases e) (fun _ _ e => by cases e)
                  ⟨_, upd_same, (rvs.append (Reps.cons r7 Reps.nil)).later ⟨⟨[], by simp⟩, fun b xs e => by rw [upd_ne fun q => by subst q; rw [hvs] at e; cases e]; exact e, fun b ob ks e => by rw [upd_ne fun q => by subst q; rw [hvs] at e; cases e; exact ks]; exact e⟩⟩
                exact ⟨vs, hvs, by rw [← rvs.length]; exact hz, ι7, _, l17.trans l8, S8, Post.later p7 l8⟩
              · exact p7.elim
            · exact p7.elim
    · exact p3.elim
  · have hle : items.length ≤ i := by omega
    rw [List.drop_eq_nil_of_le hle] at p3
    unfold lcM at p3
    split at p3
    · rename_i hok
      exact .inl ⟨r1.stop i ι3 H3 st3 l13 S3 hok (by omega), p3.okSame S3 (Rep.ref (l3.get hDi))⟩
    · exact p3.elim
theorem je_lc (hc : X.calm = true) (hN : X.N.Nodup) (own : List (Str × Nat)) (hi : JI X tg iter mi) (ok : blkC X.N X.env.scope scope own = true)
    (hg : ∀ (s : Shared) (H : Hp) (C : Addr) (cl : List (Str × Addr)) (fp : List Addr), JG (X.blk s H scope (compEnvC scope cl C X.env) fp) tg (ixs own) g) (ht : ∀ (s : Shared) (H : Hp) (C : Addr) (cl : List (Str × Addr)) (fp : List Addr), JTs (X.blk s H scope (compEnvC scope cl C X.env) fp) ifs t)
    (he : ∀ (s : Shared) (H : Hp) (C : Addr) (cl : List (Str × Addr)) (fp : List Addr), JE (X.blk s H scope (compEnvC scope cl C X.env) fp) elt me) (hs : ∀ x, foldedSetIterable iter X.env x = pure x := by intro _; rfl) :
    JE X (.ListComp elt [⟨tg, iter, ifs, 0⟩] scope pos) (mLc mi g t me (ixs own)) := fun W tk =>
  PE.weak (pe_lc (wi := rdG X.K X.mg (relI X.K X.mg) W mi) (g := rdT X.K X.mg (ixs own) g) (tt := rdG X.K X.mg relB W0 t) (te := rdG X.K X.mg (rel1 X.mg) W0 me) hc hN (hi W tk) (blkOk_by ok) (fun s H C cl fp => hg s H C cl fp) (fun s H C cl fp => ht s H C cl fp W0 takes0) (fun s H C cl fp => he s H C cl fp W0 takes0) hs) fun σ H Q h => lc_read h
/-- y = [..] on one line -/
theorem js_setLc {i : Nat} {y : Str} {py spos : Pos} (hc : X.calm = true) (hN : X.N.Nodup) (own : List (Str × Nat)) (hi : JI X tg iter mi) (ok : blkC X.N X.env.scope scope own = true)
    (hg : ∀ (s : Shared) (H : Hp) (C : Addr) (cl : List (Str × Addr)) (fp : List Addr), JG (X.blk s H scope (compEnvC scope cl C X.env) fp) tg (ixs own) g) (ht : ∀ (s : Shared) (H : Hp) (C : Addr) (cl : List (Str × Addr)) (fp : List Addr), JTs (X.blk s H scope (compEnvC scope cl C X.env) fp) ifs t)
    (he : ∀ (s : Shared) (H : Hp) (C : Addr) (cl : List (Str × Addr)) (fp : List Addr), JE (X.blk s H scope (compEnvC scope cl C X.env) fp) elt me)
    (hsw : swapsWith (.ListComp elt [⟨tg, iter, ifs, 0⟩] scope pos) (some (.Name y py)) spos.line X.env = pure true)
    (hy : X.N[i]? = some y := by rfl) (hyl : X.env.scope.names.lookup y = some .local := by rfl) (hs : ∀ x, foldedSetIterable iter X.env x = pure x := by intro _; rfl) :
    JS X (.Assign [.Name y py] (.ListComp elt [⟨tg, iter, ifs, 0⟩] scope pos) spos) (sSet i (mLc mi g t me (ixs own))) := fun W tk => by
  refine PS.weak (ps_setLc (wi := rdG X.K X.mg (relI X.K X.mg) W mi) (g := rdT X.K X.mg (ixs own) g) (tt := rdG X.K X.mg relB W0 t) (te := rdG X.K X.mg (rel1 X.mg) W0 me) hc hN hy hyl hsw (hi W tk) (blkOk_by ok) (fun s H C cl fp => hg s H C cl fp) (fun s H C cl fp => ht s H C cl fp W0 takes0) (fun s H C cl fp => he s H C cl fp W0 takes0) hs) fun D σ H ⟨ι, ρ, st, S, sl, p⟩ => ?_
  refine lc_read (W := W) ⟨ι, ρ, st, S, sl, PostO.bind p sl fun w st1 ι1 H1 v l1 S1 r1 p1 => ?_⟩
  exact p1.nx_same S1 ((sl.later l1).set i r1)
end
end Ab

set_option Elab.async false
set_option linter.all false
set_option maxRecDepth 100000
/-! Ab: built-in functions, methods of lists, equality, membership. -/
namespace Ab
open PySem PySem.Spec L2

def asInts : List Val → Option (List Int)
  | [] => some []
  | .int i :: r => (asInts r).map (i :: ·)
  | _ => none
def asBools : List Val → Option (List Bool)
  | [] => some []
  | .bl i :: r => (asBools r).map (i :: ·)
  | _ => none
theorem asInts_map : ∀ ns : List Int, asInts (ns.map .int) = some ns
  | [] => rfl
  | n :: ns => by show (asInts (ns.map .int)).map _ = _; rw [asInts_map ns]; rfl
theorem asBools_map : ∀ ns : List Bool, asBools (ns.map .bl) = some ns
  | [] => rfl
  | n :: ns => by show (asBools (ns.map .bl)).map _ = _; rw [asBools_map ns]; rfl
theorem asBools_some : ∀ {ws : List Val} {ns : List Bool}, asBools ws = some ns → ws = ns.map .bl
  | [], ns, h => by cases h; rfl
  | w :: ws, ns, h => by
    cases w with
    | bl i =>
      have h : (asBools ws).map (i :: ·) = some ns := h
      cases q : asBools ws with
      | none => rw [q] at h; cases h
      | some ms => rw [q] at h; cases h; rw [asBools_some q]; rfl
    | _ => cases h
section
variable {mg : Str → Option Value} {ι : List Addr} {H : Hp}
theorem Reps.bools : ∀ {ns : List Bool} {vs : List V}, Reps mg ι H (ns.map .bl) vs → vs = ns.map V.bl
  | [], vs, h => h.of_nil
  | n :: ns, vs, h => by
    obtain ⟨v, r, e, h1, h2⟩ := Reps.of_cons h
    rw [e, h1.bl_inv, Reps.bools h2]; rfl
theorem Reps.one {w : Val} {vs : List V} (h : Reps mg ι H [w] vs) : ∃ v, vs = [v] ∧ Rep mg ι H w v := by
  obtain ⟨v, r, e, h1, h2⟩ := h.of_cons
  rw [h2.of_nil] at e
  exact ⟨v, e, h1⟩
theorem Reps.two {w u : Val} {vs : List V} (h : Reps mg ι H [w, u] vs) : ∃ v z, vs = [v, z] ∧ Rep mg ι H w v ∧ Rep mg ι H u z := by
  obtain ⟨v, r, e, h1, h2⟩ := h.of_cons
  obtain ⟨z, e2, h3⟩ := Reps.one h2
  rw [e2] at e
  exact ⟨v, z, e, h1, h3⟩
end

/-! ### flat values: in, ==, index -/
@[reducible] def flatW : Val → Bool
  | .non => true
  | .bl _ => true
  | .int _ => true
  | .str _ => true
  | _ => false
def eqW : Val → Val → Bool
  | .non, .non => true
  | .bl a, .bl b => a == b
  | .bl a, .int b => (if a then 1 else 0) == b
  | .int a, .bl b => a == (if b then 1 else 0)
  | .int a, .int b => a == b
  | .str a, .str b => a == b
  | _, _ => false
def inW (x : Val) (xs : List Val) : Bool := xs.any fun y => eqW y x
section
variable {mg : Str → Option Value} {ι : List Addr} {H : Hp}
theorem flatW_rep {w : Val} {v : V} (r : Rep mg ι H w v) (f : flatW w = true) : flatV v = true ∧ ∀ {u : Val} {z : V}, Rep mg ι H u z → flatW u = true → eqV z v = eqW u w := by
  cases w with
  | non =>
    have e := r.non_inv; subst e
    refine ⟨rfl, fun {u z} r2 f2 => ?_⟩
    cases u with
    | non => have e := r2.non_inv; subst e; rfl
    | bl b => have e := r2.bl_inv; subst e; rfl
    | int b => have e := r2.int_inv; subst e; rfl
    | str b => have e := r2.str_inv; subst e; rfl
    | _ => cases f2
  | bl a =>
    have e := r.bl_inv; subst e
    refine ⟨rfl, fun {u z} r2 f2 => ?_⟩
    cases u with
    | non => have e := r2.non_inv; subst e; rfl
    | bl b => have e := r2.bl_inv; subst e; rfl
    | int b => have e := r2.int_inv; subst e; rfl
    | str b => have e := r2.str_inv; subst e; rfl
    | _ => cases f2
  | int a =>
    have e := r.int_inv; subst e
    refine ⟨rfl, fun {u z} r2 f2 => ?_⟩
    cases u with
    | non => have e := r2.non_inv; subst e; rfl
    | bl b => have e := r2.bl_inv; subst e; rfl
    | int b => have e := r2.int_inv; subst e; rfl
    | str b => have e := r2.str_inv; subst e; rfl
    | _ => cases f2
  | str a =>
    have e := r.str_inv; subst e
    refine ⟨rfl, fun {u z} r2 f2 => ?_⟩
    cases u with
    | non => have e := r2.non_inv; subst e; rfl
    | bl b => have e := r2.bl_inv; subst e; rfl
    | int b => have e := r2.int_inv; subst e; rfl
    | str b => have e := r2.str_inv; subst e; rfl
    | _ => cases f2
  | _ => cases f
theorem flats {w : Val} {v : V} (r : Rep mg ι H w v) (f : flatW w = true) : ∀ {ws : List Val} {vs : List V}, Reps mg ι H ws vs → ws.all flatW = true → vs.all flatV = true ∧ inV v vs = inW w ws
  | [], vs, h, _ => by rw [h.of_nil]; exact ⟨rfl, rfl⟩
  | x :: ws, vs, h, fa => by
    obtain ⟨y, r', e, h1, h2⟩ := h.of_cons
    subst e
    rw [List.all_cons, Bool.and_eq_true] at fa
    obtain ⟨i1, i2⟩ := flats r f h2 fa.2
    refine ⟨by rw [List.all_cons, (flatW_rep h1 fa.1).1, i1]; rfl, ?_⟩
    unfold inV inW at i2 ⊢
    rw [List.any_cons, List.any_cons, i2, (flatW_rep r f).2 h1 fa.1]
theorem flats' : ∀ {ws : List Val} {vs : List V}, Reps mg ι H ws vs → ws.all flatW = true → vs.all flatV = true
  | [], vs, h, _ => by rw [h.of_nil]; rfl
  | x :: ws, vs, h, fa => by
    obtain ⟨y, r', e, h1, h2⟩ := h.of_cons
    subst e
    rw [List.all_cons, Bool.and_eq_true] at fa
    rw [List.all_cons, (flatW_rep h1 fa.1).1, flats' h2 fa.2]; rfl
end
@[reducible] def vIn : Val → Val → Store → R Val
  | .str c, .str z, st => match c.cps.toList with
    | [k] => .ok (.bl (decide (k ∈ z.cps.toList))) st
    | _ => .bad
  | x, .tup ys, st => if flatW x && ys.all flatW then .ok (.bl (inW x ys)) st else .bad
  | x, .ref n, st => match seqAt st n with
    | some ys => if flatW x && ys.all flatW then .ok (.bl (inW x ys)) st else .bad
    | none => .bad
  | _, _, _ => .bad
@[reducible] def vNotIn : Val → Val → Store → R Val
  | .str c, .str z, st => match c.cps.toList with
    | [k] => .ok (.bl (!decide (k ∈ z.cps.toList))) st
    | _ => .bad
  | x, .tup ys, st => if flatW x && ys.all flatW then .ok (.bl (!inW x ys)) st else .bad
  | x, .ref n, st => match seqAt st n with
    | some ys => if flatW x && ys.all flatW then .ok (.bl (!inW x ys)) st else .bad
    | none => .bad
  | _, _, _ => .bad
theorem str_one {c : Str} {k : Nat} (h : c.cps.toList = [k]) : c = ⟨#[k]⟩ := by
  obtain ⟨a⟩ := c
  have : a = [k].toArray := by rw [← h]
  rw [this]
section
variable {X : Cx}
theorem m2_in : M2 X (compareOp .In) vIn := by
  rintro pins s σ H x y u1 u2 Q I rx ry ⟨ι, st, w1, w2, S, r1, r2, p⟩
  cases w2 with
  | str z =>
    cases w1 with
    | str c =>
      have e1 := r1.str_inv; have e2 := r2.str_inv
      subst e1 e2
      dsimp only [vIn] at p
      split at p
      · rename_i k ek
        exact op_in_sign pins s σ H _ _ u1 u2 Q I rx ry ⟨k, z, by rw [str_one ek], rfl, p.okSame S Rep.bl⟩
      · exact p.elim
    | _ => exact p.elim
  | tup ys =>
    obtain ⟨a, vs, e, ha, rr⟩ := r2.tup_inv
    subst e
    have p : Post X.K X.mg (rel1 X.mg) ι H Q (fun _ _ _ => False) (if flatW w1 && ys.all flatW then .ok (.bl (inW w1 ys)) st else .bad) := by cases w1 <;> exact p
    split at p
    · rename_i hf
      rw [Bool.and_eq_true] at hf
      obtain ⟨f1, f2⟩ := flats r1 hf.1 rr hf.2
      exact op_in_seq pins s σ H _ _ u1 u2 Q I rx ry ⟨a, vs, rfl, .inr (SqT.of ha), (flatW_rep r1 hf.1).1, f1, by rw [if_neg Bool.false_ne_true, f2]; exact p.okSame S Rep.bl⟩
    · exact p.elim
  | ref n =>
    obtain ⟨a, e, ha⟩ := r2.ref_inv
    subst e
    have p : Post X.K X.mg (rel1 X.mg) ι H Q (fun _ _ _ => False) (match seqAt st n with
      | some ys => if flatW w1 && ys.all flatW then .ok (.bl (inW w1 ys)) st else .bad
      | none => .bad) := by cases w1 <;> exact p
    cases es : seqAt st n with
    | none => rw [es] at p; exact p.elim
    | some ys =>
      rw [es] at p
      dsimp only at p
      obtain ⟨vs, hl, rr⟩ := S.seqL es ha
      split at p
      · rename_i hf
        rw [Bool.and_eq_true] at hf
        obtain ⟨f1, f2⟩ := flats r1 hf.1 rr hf.2
        exact op_in_seq pins s σ H _ _ u1 u2 Q I rx ry ⟨a, vs, rfl, .inl hl, (flatW_rep r1 hf.1).1, f1, by rw [if_neg Bool.false_ne_true, f2]; exact p.okSame S Rep.bl⟩
      · exact p.elim
  | _ => cases w1 <;> exact p.elim
theorem m2_notIn : M2 X (compareOp .NotIn) vNotIn := by
  rintro pins s σ H x y u1 u2 Q I rx ry ⟨ι, st, w1, w2, S, r1, r2, p⟩
  cases w2 with
  | str z =>
    cases w1 with
    | str c =>
      have e1 := r1.str_inv; have e2 := r2.str_inv
      subst e1 e2
      dsimp only [vNotIn] at p
      split at p
      · rename_i k ek
        exact op_notIn_sign pins s σ H _ _ u1 u2 Q I rx ry ⟨k, z, by rw [str_one ek], rfl, p.okSame S Rep.bl⟩
      · exact p.elim
    | _ => exact p.elim
  | tup ys =>
    obtain ⟨a, vs, e, ha, rr⟩ := r2.tup_inv
    subst e
    have p : Post X.K X.mg (rel1 X.mg) ι H Q (fun _ _ _ => False) (if flatW w1 && ys.all flatW then .ok (.bl (!inW w1 ys)) st else .bad) := by cases w1 <;> exact p
    split at p
    · rename_i hf
      rw [Bool.and_eq_true] at hf
      obtain ⟨f1, f2⟩ := flats r1 hf.1 rr hf.2
      exact op_notIn_seq pins s σ H _ _ u1 u2 Q I rx ry ⟨a, vs, rfl, .inr (SqT.of ha), (flatW_rep r1 hf.1).1, f1, by rw [if_pos rfl, f2]; exact p.okSame S Rep.bl⟩
    · exact p.elim
  | ref n =>
    obtain ⟨a, e, ha⟩ := r2.ref_inv
    subst e
    have p : Post X.K X.mg (rel1 X.mg) ι H Q (fun _ _ _ => False) (match seqAt st n with
      | some ys => if flatW w1 && ys.all flatW then .ok (.bl (!inW w1 ys)) st else .bad
      | none => .bad) := by cases w1 <;> exact p
    cases es : seqAt st n with
    | none => rw [es] at p; exact p.elim
    | some ys =>
      rw [es] at p
      dsimp only at p
      obtain ⟨vs, hl, rr⟩ := S.seqL es ha
      split at p
      · rename_i hf
        rw [Bool.and_eq_true] at hf
        obtain ⟨f1, f2⟩ := flats r1 hf.1 rr hf.2
        exact op_notIn_seq pins s σ H _ _ u1 u2 Q I rx ry ⟨a, vs, rfl, .inl hl, (flatW_rep r1 hf.1).1, f1, by rw [if_pos rfl, f2]; exact p.okSame S Rep.bl⟩
      · exact p.elim
  | _ => cases w1 <;> exact p.elim
theorem quiet_in : ∀ x y st, Quiet (vIn x y st) := by
  intro x y st ex st' h
  unfold vIn at h
  repeat (first | (split at h) | cases h)
theorem quiet_notIn : ∀ x y st, Quiet (vNotIn x y st) := by
  intro x y st ex st' h
  unfold vNotIn at h
  repeat (first | (split at h) | cases h)
theorem quiet_add : ∀ x y st, Quiet (vAdd x y st) := by
  intro x y st ex st' h
  unfold vAdd at h
  repeat (first | (split at h) | cases h)
theorem quiet_sub : ∀ x y st, Quiet (vSub x y st) := by
  intro x y st ex st' h
  unfold vSub at h
  repeat (first | (split at h) | cases h)
theorem quiet_mul : ∀ x y st, Quiet (vMul x y st) := by
  intro x y st ex st' h
  unfold vMul at h
  repeat (first | (split at h) | cases h)
theorem quiet_div : ∀ x y st, Quiet (vDiv x y st) := by
  intro x y st ex st' h
  unfold vDiv at h
  repeat (first | (split at h) | cases h)
theorem quiet_mod : ∀ x y st, Quiet (vMod x y st) := by
  intro x y st ex st' h
  unfold vMod at h
  repeat (first | (split at h) | cases h)
theorem quiet_pow : ∀ x y st, Quiet (vPow x y st) := by
  intro x y st ex st' h
  unfold vPow at h
  repeat (first | (split at h) | cases h)
theorem quiet_cmpI (q : Int → Int → Bool) : ∀ x y st, Quiet (vCmpI q x y st) := by
  intro x y st ex st' h
  unfold vCmpI at h
  repeat (first | (split at h) | cases h)
theorem quiet_le : ∀ x y st, Quiet (vLe x y st) := by
  intro x y st ex st' h
  unfold vLe at h
  repeat (first | (split at h) | cases h)
theorem quiet_isN : ∀ x y st, Quiet (vIsN x y st) := by
  intro x y st ex st' h
  unfold vIsN at h
  repeat (first | (split at h) | cases h)
theorem quiet_notN : ∀ x y st, Quiet (vNotN x y st) := by
  intro x y st ex st' h
  unfold vNotN at h
  repeat (first | (split at h) | cases h)
end

/-! ### == of any data -/
def mapO {α β : Type} (f : α → Option β) : List α → Option (List β)
  | [] => some []
  | x :: xs => match f x, mapO f xs with
    | some y, some ys => some (y :: ys)
    | _, _ => none
def deep (st : Store) : Nat → Val → Option PyData
  | 0, _ => none
  | _ + 1, .non => some .none
  | _ + 1, .bl b => some (.bool b)
  | _ + 1, .int i => some (.int i)
  | _ + 1, .str z => if PyData.canLay0 (.str z) = true then some (.str z) else none
  | n + 1, .tup xs => (mapO (deep st n) xs).map .tuple
  | n + 1, .ref k => match seqAt st k with
    | some xs => (mapO (deep st n) xs).map .list
    | none => none
  | _ + 1, .gl _ => none
  | _ + 1, .adr _ => none
theorem deepAll {K : PySem.W.Frag} {mg : Str → Option Value} {ι : List Addr} {H : Hp} {f : Val → Option PyData} {n : Nat}
    (hf : ∀ {w : Val} {d : PyData}, f w = some d → d.canLay0 = true ∧ d.depth ≤ n ∧ ∀ {v : V}, Rep mg ι H w v → Dp K H v d) : ∀ {ws : List Val} {ds : List PyData}, mapO f ws = some ds →
      PyData.canLayAll0 ds = true ∧ PyData.depthAll ds ≤ n ∧ ∀ {vs : List V}, Reps mg ι H ws vs → DpAll K H vs ds
  | [], ds, h => by
    cases h
    refine ⟨rfl, Nat.zero_le _, fun {vs} r => ?_⟩
    rw [r.of_nil]
    exact .nil
  | w :: ws, ds, h => by
    unfold mapO at h
    split at h
    · rename_i d ds' e1 e2
      cases h
      obtain ⟨c1, c2, c3⟩ := hf e1
      obtain ⟨i1, i2, i3⟩ := deepAll hf e2
      refine ⟨by rw [PyData.canLayAll0, c1, i1]; rfl, by rw [PyData.depthAll]; omega, fun {vs} r => ?_⟩
      obtain ⟨v, r', e, h1, h2⟩ := r.of_cons
      subst e
      exact .cons (c3 h1) (i3 h2)
    · cases h
theorem deep_ok {K : PySem.W.Frag} {mg : Str → Option Value} {ι : List Addr} {st : Store} {H : Hp} (S : Sim K mg ι st H) : ∀ {n : Nat} {w : Val} {d : PyData}, deep st n w = some d → d.canLay0 = true ∧ d.depth ≤ n ∧ ∀ {v : V}, Rep mg ι H w v → Dp K H v d
  | 0, _, _, h => by cases h
  | n + 1, w, d, h => by
    cases w with
    | non => cases h; exact ⟨rfl, by simp [PyData.depth], fun r => by rw [r.non_inv]; exact .non⟩
    | bl b => cases h; exact ⟨rfl, by simp [PyData.depth], fun r => by rw [r.bl_inv]; exact .bl b⟩
    | int b => cases h; exact ⟨rfl, by simp [PyData.depth], fun r => by rw [r.int_inv]; exact .int b⟩
    | str b =>
      unfold deep at h
      split at h
      · rename_i hc
        cases h
        exact ⟨hc, by simp [PyData.depth], fun r => by rw [r.str_inv]; exact .str b⟩
      · cases h
    | tup xs =>
      unfold deep at h
      cases q : mapO (deep st n) xs with
      | none => rw [q] at h; cases h
      | some ds =>
        rw [q] at h
        cases h
        obtain ⟨c1, c2, c3⟩ := deepAll (fun e => deep_ok S e) q
        refine ⟨by rw [PyData.canLay0]; exact c1, by rw [PyData.depth]; omega, fun {v} r => ?_⟩
        obtain ⟨a, vs, e, ha, rr⟩ := r.tup_inv
        subst e
        exact .tup (SqT.of ha) (c3 rr)
    | ref k =>
      unfold deep at h
      cases es : seqAt st k with
      | none => rw [es] at h; cases h
      | some xs =>
        rw [es] at h
        dsimp only at h
        cases q : mapO (deep st n) xs with
        | none => rw [q] at h; cases h
        | some ds =>
          rw [q] at h
          cases h
          obtain ⟨c1, c2, c3⟩ := deepAll (fun e => deep_ok S e) q
          refine ⟨by rw [PyData.canLay0]; exact c1, by rw [PyData.depth]; omega, fun {v} r => ?_⟩
          obtain ⟨a, e, ha⟩ := r.ref_inv
          subst e
          obtain ⟨vs, hl, rr⟩ := S.seqL es ha
          exact .lst hl (c3 rr)
    | gl x => cases h
    | adr x => cases h
theorem deep_shaped {K : PySem.W.Frag} {mg : Str → Option Value} {ι : List Addr} {st : Store} {H : Hp} (S : Sim K mg ι st H) {n : Nat} (hn : n ≤ 64) {w : Val} {d : PyData} (h : deep st n w = some d) : SeqAt.shaped d = true := by
  obtain ⟨c1, c2, _⟩ := deep_ok S h
  unfold SeqAt.shaped
  rw [c1, decide_eq_true (Nat.le_trans c2 hn)]
  rfl
@[reducible] def vEq : Val → Val → Store → R Val
  | .int i, .int j, st => .ok (.bl (decide (i = j))) st
  | .str i, .str j, st => .ok (.bl (decide (i = j))) st
  | .bl i, .bl j, st => .ok (.bl (decide (i = j))) st
  | x, y, st => match deep st 16 x, deep st 16 y with
    | some d, some e => .ok (.bl (PyData.eqv d e)) st
    | _, _ => .bad
@[reducible] def vNe : Val → Val → Store → R Val
  | .int i, .int j, st => .ok (.bl (!decide (i = j))) st
  | .str i, .str j, st => .ok (.bl (!decide (i = j))) st
  | .bl i, .bl j, st => .ok (.bl (!decide (i = j))) st
  | x, y, st => match deep st 16 x, deep st 16 y with
    | some d, some e => .ok (.bl (!PyData.eqv d e)) st
    | _, _ => .bad
section
variable {X : Cx}
theorem dec_V {α : Type} [DecidableEq α] {f : α → V} (hf : ∀ a b, f a = f b → a = b) (i j : α) : decide (f i = f j) = decide (i = j) := by
  by_cases h : i = j
  · rw [h, decide_eq_true rfl, decide_eq_true rfl]
  · rw [decide_eq_false h, decide_eq_false fun e => h (hf _ _ e)]
theorem eq_deep {W1 W2 : Val} (hu : X.A.units + 64 < cLine) {pins : List (Addr × Obj)} {s : Shared} {σ : L2.St} {H : Hp} {x y : V} {u1 u2 : Value} {Q : VK} (I : Inv X pins σ H s) (rx : RelV x u1) (ry : RelV y u2) {ι : List Addr} {st : Store} (S : Sim X.K X.mg ι st H)
    (r1 : Rep X.mg ι H W1 x) (r2 : Rep X.mg ι H W2 y) (p : Post X.K X.mg (rel1 X.mg) ι H Q (fun _ _ _ => False) (match deep st 16 W1, deep st 16 W2 with
    | some d, some e => .ok (.bl (PyData.eqv d e)) st
    | _, _ => .bad)) : wpAny (model X.prog X.w) X.A (compareOp .Eq u1 u2) (EP X pins σ Q) X.xe s := by
  cases q1 : deep st 16 W1 with
  | none => rw [q1] at p; exact p.elim
  | some d =>
    cases q2 : deep st 16 W2 with
    | none => rw [q1, q2] at p; exact p.elim
    | some e =>
      rw [q1, q2] at p
      exact op_eqD hu pins s σ H _ _ u1 u2 Q I rx ry ⟨d, e, (deep_ok S q1).2.2 r1, (deep_ok S q2).2.2 r2, deep_shaped S (by decide) q1, deep_shaped S (by decide) q2, p.okSame S Rep.bl⟩
theorem ne_deep {W1 W2 : Val} (hu : X.A.units + 64 < cLine) {pins : List (Addr × Obj)} {s : Shared} {σ : L2.St} {H : Hp} {x y : V} {u1 u2 : Value} {Q : VK} (I : Inv X pins σ H s) (rx : RelV x u1) (ry : RelV y u2) {ι : List Addr} {st : Store} (S : Sim X.K X.mg ι st H)
    (r1 : Rep X.mg ι H W1 x) (r2 : Rep X.mg ι H W2 y) (p : Post X.K X.mg (rel1 X.mg) ι H Q (fun _ _ _ => False) (match deep st 16 W1, deep st 16 W2 with
    | some d, some e => .ok (.bl (!PyData.eqv d e)) st
    | _, _ => .bad)) : wpAny (model X.prog X.w) X.A (compareOp .NotEq u1 u2) (EP X pins σ Q) X.xe s := by
  cases q1 : deep st 16 W1 with
  | none => rw [q1] at p; exact p.elim
  | some d =>
    cases q2 : deep st 16 W2 with
    | none => rw [q1, q2] at p; exact p.elim
    | some e =>
      rw [q1, q2] at p
      exact op_neD hu pins s σ H _ _ u1 u2 Q I rx ry ⟨d, e, (deep_ok S q1).2.2 r1, (deep_ok S q2).2.2 r2, deep_shaped S (by decide) q1, deep_shaped S (by decide) q2, p.okSame S Rep.bl⟩
theorem m2_eq (hu : X.A.units + 64 < cLine) : M2 X (compareOp .Eq) vEq := by
  rintro pins s σ H x y u1 u2 Q I rx ry ⟨ι, st, w1, w2, S, r1, r2, p⟩
  cases w1 with
  | int i =>
    cases w2 with
    | int j =>
      have e1 := r1.int_inv; have e2 := r2.int_inv
      subst e1 e2
      exact op_eq pins s σ H _ _ u1 u2 Q I rx ry ⟨rfl, by rw [dec_V (fun a b h => by cases h; rfl)]; exact p.okSame S Rep.bl⟩
    | _ => exact eq_deep hu I rx ry S r1 r2 p
  | str i =>
    cases w2 with
    | str j =>
      have e1 := r1.str_inv; have e2 := r2.str_inv
      subst e1 e2
      exact op_eq pins s σ H _ _ u1 u2 Q I rx ry ⟨rfl, by rw [dec_V (fun a b h => by cases h; rfl)]; exact p.okSame S Rep.bl⟩
    | _ => exact eq_deep hu I rx ry S r1 r2 p
  | bl i =>
    cases w2 with
    | bl j =>
      have e1 := r1.bl_inv; have e2 := r2.bl_inv
      subst e1 e2
      exact op_eq pins s σ H _ _ u1 u2 Q I rx ry ⟨rfl, by rw [dec_V (fun a b h => by cases h; rfl)]; exact p.okSame S Rep.bl⟩
    | _ => exact eq_deep hu I rx ry S r1 r2 p
  | _ => exact eq_deep hu I rx ry S r1 r2 (by cases w2 <;> exact p)
theorem m2_ne (hu : X.A.units + 64 < cLine) : M2 X (compareOp .NotEq) vNe := by
  rintro pins s σ H x y u1 u2 Q I rx ry ⟨ι, st, w1, w2, S, r1, r2, p⟩
  cases w1 with
  | int i =>
    cases w2 with
    | int j =>
      have e1 := r1.int_inv; have e2 := r2.int_inv
      subst e1 e2
      exact op_ne pins s σ H _ _ u1 u2 Q I rx ry ⟨rfl, by rw [dec_V (fun a b h => by cases h; rfl)]; exact p.okSame S Rep.bl⟩
    | _ => exact ne_deep hu I rx ry S r1 r2 p
  | str i =>
    cases w2 with
    | str j =>
      have e1 := r1.str_inv; have e2 := r2.str_inv
      subst e1 e2
      exact op_ne pins s σ H _ _ u1 u2 Q I rx ry ⟨rfl, by rw [dec_V (fun a b h => by cases h; rfl)]; exact p.okSame S Rep.bl⟩
    | _ => exact ne_deep hu I rx ry S r1 r2 p
  | bl i =>
    cases w2 with
    | bl j =>
      have e1 := r1.bl_inv; have e2 := r2.bl_inv
      subst e1 e2
      exact op_ne pins s σ H _ _ u1 u2 Q I rx ry ⟨rfl, by rw [dec_V (fun a b h => by cases h; rfl)]; exact p.okSame S Rep.bl⟩
    | _ => exact ne_deep hu I rx ry S r1 r2 p
  | _ => exact ne_deep hu I rx ry S r1 r2 (by cases w2 <;> exact p)
theorem quiet_eq : ∀ x y st, Quiet (vEq x y st) := by
  intro x y st ex st' h
  unfold vEq at h
  repeat (first | (split at h) | cases h)
theorem quiet_ne : ∀ x y st, Quiet (vNe x y st) := by
  intro x y st ex st' h
  unfold vNe at h
  repeat (first | (split at h) | cases h)
end

/-! ### functions -/
@[reducible] def bLen : List Val → Store → R Val
  | [.tup xs], st => .ok (.int xs.length) st
  | [.str z], st => if z.length ≤ sizeLine then .ok (.int z.length) st else .bad
  | [.ref n], st => match seqAt st n with
    | some xs => .ok (.int xs.length) st
    | none => .bad
  | _, _ => .bad
@[reducible] def bMax2 : List Val → Store → R Val
  | [.int i, .int j], st => .ok (.int (max i j)) st
  | _, _ => .bad
@[reducible] def bMin2 : List Val → Store → R Val
  | [.int i, .int j], st => .ok (.int (min i j)) st
  | _, _ => .bad
@[reducible] def bIntB : List Val → Store → R Val
  | [.int i], st => .ok (.int i) st
  | [.bl k], st => .ok (.int (if k then 1 else 0)) st
  | _, _ => .bad
@[reducible] def ofBools (f : List Bool → Store → R Val) : List Val → Store → R Val
  | [.ref n], st => match seqAt st n with
    | some xs => match asBools xs with
      | some ns => f ns st
      | none => .bad
    | none => .bad
  | _, _ => .bad
@[reducible] def bAll : List Val → Store → R Val := ofBools fun ns st => .ok (.bl (ns.all id)) st
@[reducible] def bList : List Val → Store → R Val
  | [.tup xs], st => .ok (.ref st.length) (st ++ [.lst xs])
  | [.ref n], st => match seqAt st n with
    | some xs => .ok (.ref st.length) (st ++ [.lst xs])
    | none => .bad
  | _, _ => .bad
@[reducible] def bTuple : List Val → Store → R Val
  | [.tup xs], st => .ok (.tup xs) st
  | [.ref n], st => match seqAt st n with
    | some xs => .ok (.tup xs) st
    | none => .bad
  | _, _ => .bad
section
variable {X : Cx}
theorem mc_len : MC X (.builtin "len") bLen := by
  rintro pins s σ H xs us Q I rs ⟨ι, st, ws, S, rr, p⟩
  unfold bLen at p
  split at p
  · rename_i ys
    obtain ⟨v, e, r⟩ := rr.one
    obtain ⟨a, vs, e2, ha, r2⟩ := r.tup_inv
    subst e e2
    exact call_len pins s σ H _ us Q I rs ⟨_, vs.length, rfl, .inr ⟨vs, SqT.of ha, rfl⟩, by rw [← r2.length]; exact p.okSame S Rep.int⟩
  · rename_i z
    obtain ⟨v, e, r⟩ := rr.one
    have e2 := r.str_inv
    subst e e2
    split at p
    · rename_i hz
      exact call_len pins s σ H _ us Q I rs ⟨_, z.length, rfl, ⟨hz, rfl⟩, p.okSame S Rep.int⟩
    · exact p.elim
  · rename_i n
    obtain ⟨v, e, r⟩ := rr.one
    obtain ⟨a, e2, ha⟩ := r.ref_inv
    subst e e2
    cases es : seqAt st n with
    | none => rw [es] at p; exact p.elim
    | some ys =>
      rw [es] at p
      obtain ⟨vs, hl, r2⟩ := S.seqL es ha
      exact call_len pins s σ H _ us Q I rs ⟨_, vs.length, rfl, .inl ⟨vs, hl, rfl⟩, by rw [← r2.length]; exact p.okSame S Rep.int⟩
  · exact p.elim
theorem mc_max2 (hc : X.calm = true) : MC X (.builtin "max") bMax2 := by
  rintro pins s σ H xs us Q I rs ⟨ι, st, ws, S, rr, p⟩
  unfold bMax2 at p
  split at p
  · rename_i i j
    obtain ⟨v, z, e, r1, r2⟩ := rr.two
    have e1 := r1.int_inv; have e2 := r2.int_inv
    subst e e1 e2
    refine call_max2 hc pins s σ H _ us Q I rs ⟨i, j, rfl, ?_⟩
    have : (if j > i then j else i) = max i j := by
      by_cases h : j > i
      · rw [if_pos h, Int.max_eq_right (by omega)]
      · rw [if_neg h, Int.max_eq_left (by omega)]
    rw [this]
    exact p.okSame S Rep.int
  · exact p.elim
theorem mc_min2 (hc : X.calm = true) : MC X (.builtin "min") bMin2 := by
  rintro pins s σ H xs us Q I rs ⟨ι, st, ws, S, rr, p⟩
  unfold bMin2 at p
  split at p
  · rename_i i j
    obtain ⟨v, z, e, r1, r2⟩ := rr.two
    have e1 := r1.int_inv; have e2 := r2.int_inv
    subst e e1 e2
    refine call_min2 hc pins s σ H _ us Q I rs ⟨i, j, rfl, ?_⟩
    have : (if j < i then j else i) = min i j := by
      by_cases h : j < i
      · rw [if_pos h, Int.min_eq_right (by omega)]
      · rw [if_neg h, Int.min_eq_left (by omega)]
    rw [this]
    exact p.okSame S Rep.int
  · exact p.elim
theorem mc_intB : MC X (.type "int") bIntB := by
  rintro pins s σ H xs us Q I rs ⟨ι, st, ws, S, rr, p⟩
  unfold bIntB at p
  split at p
  · rename_i i
    obtain ⟨v, e, r⟩ := rr.one
    have e2 := r.int_inv
    subst e e2
    exact call_int1 pins s σ H _ us Q I rs (.inl ⟨i, rfl, p.okSame S Rep.int⟩)
  · rename_i i
    obtain ⟨v, e, r⟩ := rr.one
    have e2 := r.bl_inv
    subst e e2
    exact call_int1 pins s σ H _ us Q I rs (.inr ⟨i, rfl, p.okSame S Rep.int⟩)
  · exact p.elim
theorem ofBools_inv {f : List Bool → Store → R Val} {K : PySem.W.Frag} {mg : Str → Option Value} {ι : List Addr} {st : Store} {H : Hp} {Q : VK} {E : Value → Option Addr → Hp → Prop} {ws : List Val} {vs : List V} (S : Sim K mg ι st H) (rr : Reps mg ι H ws vs) (p : Post K mg (rel1 mg) ι H Q E (ofBools f ws st)) :
    ∃ a ns, vs = [.ref a] ∧ SqL K H a (ns.map V.bl) ∧ Post K mg (rel1 mg) ι H Q E (f ns st) := by
  unfold ofBools at p
  split at p
  · rename_i n
    obtain ⟨v, e, r⟩ := rr.one
    obtain ⟨a, e2, ha⟩ := r.ref_inv
    subst e e2
    cases es : seqAt st n with
    | none => rw [es] at p; exact p.elim
    | some ys =>
      rw [es] at p
      dsimp only at p
      cases ei : asBools ys with
      | none => rw [ei] at p; exact p.elim
      | some ns =>
        rw [ei] at p
        obtain ⟨us, hl, r2⟩ := S.seqL es ha
        rw [asBools_some ei] at r2
        rw [r2.bools] at hl
        exact ⟨a, ns, rfl, hl, p⟩
  · exact p.elim
theorem mc_all (hc : X.calm = true) : MC X (.builtin "all") bAll := by
  rintro pins s σ H xs us Q I rs ⟨ι, st, ws, S, rr, p⟩
  obtain ⟨a, ns, e, hl, p⟩ := ofBools_inv S rr p
  exact cr_all hc pins s σ H _ us Q I rs ⟨a, ns, e, hl, p.okSame S Rep.bl⟩
theorem mc_list : MC X (.type "list") bList := by
  rintro pins s σ H xs us Q I rs ⟨ι, st, ws, S, rr, p⟩
  unfold bList at p
  split at p
  · rename_i ys
    obtain ⟨v, e, r⟩ := rr.one
    obtain ⟨a, vs, e2, ha, r2⟩ := r.tup_inv
    subst e e2
    exact call_list_of pins s σ H _ us Q I rs ⟨a, vs, rfl, .inr (SqT.of ha), fun l hl => p.newLst S r2 hl⟩
  · rename_i n
    obtain ⟨v, e, r⟩ := rr.one
    obtain ⟨a, e2, ha⟩ := r.ref_inv
    subst e e2
    cases es : seqAt st n with
    | none => rw [es] at p; exact p.elim
    | some ys =>
      rw [es] at p
      obtain ⟨vs, hl, r2⟩ := S.seqL es ha
      exact call_list_of pins s σ H _ us Q I rs ⟨a, vs, rfl, .inl hl, fun l hl => p.newLst S r2 hl⟩
  · exact p.elim
theorem mc_tuple : MC X (.type "tuple") bTuple := by
  rintro pins s σ H xs us Q I rs ⟨ι, st, ws, S, rr, p⟩
  unfold bTuple at p
  split at p
  · rename_i ys
    obtain ⟨v, e, r⟩ := rr.one
    obtain ⟨a, vs, e2, ha, r2⟩ := r.tup_inv
    subst e e2
    exact call_tuple_of pins s σ H _ us Q I rs ⟨a, vs, rfl, .inr ⟨SqT.of ha, p.okSame S (Rep.tup ha r2)⟩⟩
  · rename_i n
    obtain ⟨v, e, r⟩ := rr.one
    obtain ⟨a, e2, ha⟩ := r.ref_inv
    subst e e2
    cases es : seqAt st n with
    | none => rw [es] at p; exact p.elim
    | some ys =>
      rw [es] at p
      obtain ⟨vs, hl, r2⟩ := S.seqL es ha
      exact call_tuple_of pins s σ H _ us Q I rs ⟨a, vs, rfl, .inl ⟨hl, fun l hl => p.newTup S r2 hl⟩⟩
  · exact p.elim
theorem quiet_len : ∀ xs st, Quiet (bLen xs st) := by
  intro x st ex st' h
  unfold bLen at h
  repeat (first | (split at h) | cases h)
theorem quiet_max2 : ∀ xs st, Quiet (bMax2 xs st) := by
  intro x st ex st' h
  unfold bMax2 at h
  repeat (first | (split at h) | cases h)
theorem quiet_min2 : ∀ xs st, Quiet (bMin2 xs st) := by
  intro x st ex st' h
  unfold bMin2 at h
  repeat (first | (split at h) | cases h)
theorem quiet_intB : ∀ xs st, Quiet (bIntB xs st) := by
  intro x st ex st' h
  unfold bIntB at h
  repeat (first | (split at h) | cases h)
theorem quiet_ofBools {f : List Bool → Store → R Val} (hf : ∀ ns st, Quiet (f ns st)) : ∀ xs st, Quiet (ofBools f xs st) := by
  intro x st ex st' h
  unfold ofBools at h
  repeat (first | exact hf _ _ _ _ h | (split at h) | cases h)
theorem quiet_all : ∀ xs st, Quiet (bAll xs st) := quiet_ofBools fun ns st x s h => by cases h
theorem quiet_list : ∀ xs st, Quiet (bList xs st) := by
  intro x st ex st' h
  unfold bList at h
  repeat (first | (split at h) | cases h)
theorem quiet_tuple : ∀ xs st, Quiet (bTuple xs st) := by
  intro x st ex st' h
  unfold bTuple at h
  repeat (first | (split at h) | cases h)
end
end Ab

set_option Elab.async false
set_option linter.all false
set_option maxRecDepth 100000
/-! Ab: methods of built-in types, stores by place, what else is walked. -/
namespace Ab
open PySem PySem.Spec L2

/-! ### methods of built-in types -/
def rM (K : PySem.W.Frag) (mg : Str → Option Value) (g : Val → List Val → Store → R Val) : V → List V → Hp → VK → Prop := fun x vs H Q =>
  ∃ ι st w ws, Sim K mg ι st H ∧ Rep mg ι H w x ∧ Reps mg ι H ws vs ∧ Post K mg (rel1 mg) ι H Q (fun _ _ _ => False) (g w ws st)
@[reducible] def tyOk (T : String) : Val → Store → Bool
  | .str _, _ => decide (T = "str")
  | .ref n, st => match st[n]? with
    | some (.lst _) => decide (T = "list")
    | some (.frz _) => decide (T = "list")
    | some (.dct _) => decide (T = "dict")
    | _ => false
  | _, _ => false
theorem tyOk_tyV {K : PySem.W.Frag} {mg : Str → Option Value} {ι : List Addr} {st : Store} {H : Hp} (S : Sim K mg ι st H) {T : String} {w : Val} {v : V} (r : Rep mg ι H w v) (h : tyOk T w st = true) : tyV K T v H := by
  cases w with
  | str z =>
    have e := r.str_inv
    subst e
    show T = "str"
    exact of_decide_eq_true h
  | ref n =>
    obtain ⟨a, e, ha⟩ := r.ref_inv
    subst e
    dsimp only [tyOk] at h
    split at h
    · rename_i xs ec
      obtain ⟨vs, h1, _⟩ := S.at ec ha
      exact .inl ⟨of_decide_eq_true h, vs, SqL.of h1⟩
    · rename_i xs ec
      obtain ⟨vs, h1, _⟩ := (S.at ec ha).seq
      exact .inl ⟨of_decide_eq_true h, vs, h1⟩
    · rename_i xs ec
      obtain ⟨vs, h1, _⟩ := S.at ec ha
      exact .inr (.inr (.inl ⟨of_decide_eq_true h, .inl ⟨vs, h1⟩⟩))
    · cases h
  | _ => cases h
@[reducible] def mBM (T : String) (g : Val → List Val → Store → R Val) (mo : ME) (t : MA) : ME := fun ρ st => (mo ρ st).bind fun x st1 => if tyOk T x st1 = true then (t ρ st1).bind fun ws st2 => g x ws st2 else .bad
section
variable {X : Cx} {o e : Expr} {es : List Expr} {mo : ME} {t : MA} {name : Str} {apos cpos : Pos} {T id : String} {g : Val → List Val → Store → R Val}
theorem je_bm (pa : PlainAttrs T) (slot : Slot T name id) (hty : typeOf (.builtin id) = pure (.type "method_descriptor")) (hm : MtR X id (rM X.K X.mg g)) (hq : ∀ x ws st, Quiet (g x ws st)) (ho : JE X o mo) (ha : JA X (e :: es) t)
    (hbase : attributeBase o name X.env (eval o X.env) = eval o X.env := by rfl)
    (hfew : ((backTo cpos (starEach (e :: es) X.env)).all (fun x => !x.1) && (backToKw cpos (keywordEach [] X.env)).all (fun x => x.1.isSome)
      && decide ((e :: es).length + ([] : List Keyword).length + (if ([] : List Keyword).isEmpty then 0 else 1) < 30)) = true := by rfl)
    (hline : (apos.endLine == cpos.line) = true := by rfl) (hs : starEach (e :: es) X.env = (false, eval e X.env) :: starEach es X.env := by rfl) (hplain : (backTo cpos (starEach es X.env)).any (·.1) = false := by rfl) :
    JE X (.Call (.Attribute o name apos) (e :: es) [] cpos) (mBM T g mo t) := fun W tk => by
  refine PE.weak (pe_bm pa slot hty hm (ho W tk) (ha W tk) hbase hfew hline hs hplain) fun σ H Q ⟨ι, ρ, st, S, sl, p⟩ => ?_
  refine ⟨ι, ρ, st, S, sl, Post.bind p fun w st1 ι1 H1 x l1 S1 r1 p1 => ?_⟩
  split at p1
  · rename_i hT
    refine ⟨tyOk_tyV S1 r1 hT, ι1, ρ, st1, S1, sl.later l1, Post.bind p1 fun ws st2 ι2 H2 vs l2 S2 r2 p2 => ?_⟩
    exact ⟨ι2, st2, w, ws, S2, Rep.later l2 r1, r2, noExc (hq _ _ _) p2⟩
  · exact p1.elim
end
/-- a list is written -/
theorem Post.setLst {K : PySem.W.Frag} {mg : Str → Option Value} {ι : List Addr} {st : Store} {H : Hp} (S : Sim K mg ι st H) {n : Nat} {xs ys : List Val} {vs us : List V} {a : Addr} (h : st[n]? = some (.lst xs)) (ha : ι[n]? = some a) (hH : H a = some (.lst vs)) (r : Reps mg ι H ys us)
    {Q : V → Hp → Prop} {E : Value → Option Addr → Hp → Prop} {w : Val} {v : V} (rw_ : Rep mg ι H w v) (p : Post K mg (rel1 mg) ι H Q E (.ok w (st.set n (.lst ys)))) : Q v (upd H a (.lst us)) := by
  have l : Later ι H ι (upd H a (.lst us)) := ⟨⟨[], by simp⟩, fun b xs e => by rw [upd_ne fun q => by subst q; rw [hH] at e; cases e]; exact e, fun b ob ks e => by rw [upd_ne fun q => by subst q; rw [hH] at e; cases e; exact ks]; exact e⟩
  obtain ⟨S', l'⟩ := S.write (c' := .lst ys) (o' := .lst us) h ha rfl rfl hH (fun _ e => by cases e) (fun _ _ e => by cases e) ⟨us, upd_same, r.later l⟩
  exact p ι _ v l' S' (Rep.later l' rw_)
@[reducible] def vAppend : Val → List Val → Store → R Val
  | .ref n, [y], st => match st[n]? with
    | some (.lst xs) => if xs.length < sizeLine then .ok .non (st.set n (.lst (xs ++ [y]))) else .bad
    | _ => .bad
  | _, _, _ => .bad
@[reducible] def vExtend : Val → List Val → Store → R Val
  | .ref n, [.ref m], st => match st[n]?, st[m]? with
    | some (.lst xs), some (.lst ys) => if xs.length + ys.length ≤ sizeLine then .ok .non (st.set n (.lst (xs ++ ys))) else .bad
    | _, _ => .bad
  | _, _, _ => .bad
/-- the first place -/
def placeW (y : Val) : List Val → Option Nat
  | [] => none
  | x :: r => if eqW x y then some 0 else (placeW y r).map (· + 1)
@[reducible] def vIndex : Val → List Val → Store → R Val
  | .ref n, [y], st => match seqAt st n with
    | some xs => if flatW y && xs.all flatW then match placeW y xs with
        | some j => .ok (.int j) st
        | none => .bad
      else .bad
    | none => .bad
  | _, _, _ => .bad
section
variable {X : Cx}
theorem placeW_spec {y : Val} : ∀ {xs : List Val} {j : Nat}, placeW y xs = some j → (∃ z, xs[j]? = some z ∧ eqW z y = true) ∧ ∀ (m : Nat) z, m < j → xs[m]? = some z → eqW z y = false
  | x :: r, j, h => by
    unfold placeW at h
    split at h
    · rename_i hx
      cases h
      exact ⟨⟨x, rfl, hx⟩, fun m z hm => by omega⟩
    · rename_i hx
      cases q : placeW y r with
      | none => rw [q] at h; cases h
      | some k =>
        rw [q] at h
        cases h
        obtain ⟨⟨z, h1, h2⟩, h3⟩ := placeW_spec q
        refine ⟨⟨z, by simpa using h1, h2⟩, fun m z hm hz => ?_⟩
        cases m with
        | zero =>
          simp at hz
          subst hz
          cases q : eqW x y with
          | true => exact absurd q hx
          | false => rfl
        | succ m =>
          have hm : m + 1 < k + 1 := hm
          exact h3 m z (by omega) (by simpa using hz)
theorem mt_append' : MtR X "list.append" (rM X.K X.mg vAppend) := by
  rintro pins s σ H x xs v us Q I rx rs ⟨ι, st, w, ws, S, r1, r2, p⟩
  unfold vAppend at p
  split at p
  · rename_i n y
    obtain ⟨a, e, ha⟩ := r1.ref_inv
    obtain ⟨z, e2, hz⟩ := r2.one
    subst e e2
    split at p
    · rename_i ys ec
      obtain ⟨vs, h1, rr⟩ := S.at ec ha
      split at p
      · rename_i hl
        exact mt_append pins s σ H _ _ v us Q I rx rs ⟨a, vs, z, rfl, rfl, h1, by rw [← rr.length]; exact hl, Post.setLst S ec ha h1 (rr.append (Reps.cons hz Reps.nil)) Rep.non p⟩
      · exact p.elim
    · exact p.elim
  · exact p.elim
theorem mt_extend' : MtR X "list.extend" (rM X.K X.mg vExtend) := by
  rintro pins s σ H x xs v us Q I rx rs ⟨ι, st, w, ws, S, r1, r2, p⟩
  unfold vExtend at p
  split at p
  · rename_i n m
    obtain ⟨a, e, ha⟩ := r1.ref_inv
    obtain ⟨z, e2, hz⟩ := r2.one
    obtain ⟨b, e3, hb⟩ := hz.ref_inv
    subst e e2 e3
    split at p
    · rename_i xs ys ec ec2
      obtain ⟨vs, h1, rr⟩ := S.at ec ha
      obtain ⟨vs2, h2, rr2⟩ := S.at ec2 hb
      split at p
      · rename_i hl
        exact mt_extend pins s σ H _ _ v us Q I rx rs ⟨a, b, vs, vs2, rfl, rfl, h1, h2, by rw [← rr.length, ← rr2.length]; exact hl, Post.setLst S ec ha h1 (rr.append rr2) Rep.non p⟩
      · exact p.elim
    · exact p.elim
  · exact p.elim
theorem mt_index' : MtR X "list.index" (rM X.K X.mg vIndex) := by
  rintro pins s σ H x xs v us Q I rx rs ⟨ι, st, w, ws, S, r1, r2, p⟩
  unfold vIndex at p
  split at p
  · rename_i n y
    obtain ⟨a, e, ha⟩ := r1.ref_inv
    obtain ⟨z, e2, hz⟩ := r2.one
    subst e e2
    split at p
    · rename_i ys es
      obtain ⟨vs, hl, rr⟩ := S.seqL es ha
      split at p
      · rename_i hf
        rw [Bool.and_eq_true] at hf
        split at p
        · rename_i j ej
          obtain ⟨⟨u, h1, h2⟩, h3⟩ := placeW_spec ej
          obtain ⟨uv, g1, g2⟩ := rr.get h1
          have fl : ∀ {m : Nat} {q : Val}, ys[m]? = some q → flatW q = true := fun {m q} hq => List.all_eq_true.mp hf.2 q (List.mem_of_getElem? hq)
          refine mt_index pins s σ H _ _ v us Q I rx rs ⟨a, vs, z, j, uv, rfl, rfl, hl, (flatW_rep hz hf.1).1, flats' rr hf.2, g1, ?_, fun m z' hm hz' => ?_, p.okSame S Rep.int⟩
          · rw [(flatW_rep hz hf.1).2 g2 (fl h1)]; exact h2
          · obtain ⟨q, hq, rq⟩ := rr.get' hz'
            rw [(flatW_rep hz hf.1).2 rq (fl hq)]
            exact h3 m q hm hq
        · exact p.elim
      · exact p.elim
    · exact p.elim
  · exact p.elim
theorem quiet_append : ∀ x ws st, Quiet (vAppend x ws st) := by
  intro x y st ex st' h
  unfold vAppend at h
  repeat (first | (split at h) | cases h)
theorem quiet_extend : ∀ x ws st, Quiet (vExtend x ws st) := by
  intro x y st ex st' h
  unfold vExtend at h
  repeat (first | (split at h) | cases h)
theorem quiet_index : ∀ x ws st, Quiet (vIndex x ws st) := by
  intro x y st ex st' h
  unfold vIndex at h
  repeat (first | (split at h) | cases h)
variable {o e : Expr} {mo : ME} {t : MA} {apos cpos : Pos} {me : ME}
theorem je_append (ho : JE X o mo) (he : JE X e me) (hbase : attributeBase o "append" X.env (eval o X.env) = eval o X.env := by rfl)
    (hfew : ((backTo cpos (starEach [e] X.env)).all (fun x => !x.1) && (backToKw cpos (keywordEach [] X.env)).all (fun x => x.1.isSome)
      && decide ([e].length + ([] : List Keyword).length + (if ([] : List Keyword).isEmpty then 0 else 1) < 30)) = true := by rfl)
    (hline : (apos.endLine == cpos.line) = true := by rfl) (hs : starEach [e] X.env = (false, eval e X.env) :: starEach [] X.env := by rfl) : JE X (.Call (.Attribute o "append" apos) [e] [] cpos) (mBM "list" vAppend mo (aCons me aNil)) :=
  je_bm PySem.F.plainAttrs_list PySem.F.slot_list_append PySem.F.type_list_append mt_append' quiet_append ho (ja_cons he ja_nil hs) hbase hfew hline hs rfl
theorem je_extend (ho : JE X o mo) (he : JE X e me) (hbase : attributeBase o "extend" X.env (eval o X.env) = eval o X.env := by rfl)
    (hfew : ((backTo cpos (starEach [e] X.env)).all (fun x => !x.1) && (backToKw cpos (keywordEach [] X.env)).all (fun x => x.1.isSome)
      && decide ([e].length + ([] : List Keyword).length + (if ([] : List Keyword).isEmpty then 0 else 1) < 30)) = true := by rfl)
    (hline : (apos.endLine == cpos.line) = true := by rfl) (hs : starEach [e] X.env = (false, eval e X.env) :: starEach [] X.env := by rfl) : JE X (.Call (.Attribute o "extend" apos) [e] [] cpos) (mBM "list" vExtend mo (aCons me aNil)) :=
  je_bm PySem.F.plainAttrs_list PySem.F.slot_list_extend PySem.F.type_list_extend mt_extend' quiet_extend ho (ja_cons he ja_nil hs) hbase hfew hline hs rfl
theorem je_index (ho : JE X o mo) (he : JE X e me) (hbase : attributeBase o "index" X.env (eval o X.env) = eval o X.env := by rfl)
    (hfew : ((backTo cpos (starEach [e] X.env)).all (fun x => !x.1) && (backToKw cpos (keywordEach [] X.env)).all (fun x => x.1.isSome)
      && decide ([e].length + ([] : List Keyword).length + (if ([] : List Keyword).isEmpty then 0 else 1) < 30)) = true := by rfl)
    (hline : (apos.endLine == cpos.line) = true := by rfl) (hs : starEach [e] X.env = (false, eval e X.env) :: starEach [] X.env := by rfl) : JE X (.Call (.Attribute o "index" apos) [e] [] cpos) (mBM "list" vIndex mo (aCons me aNil)) :=
  je_bm PySem.F.plainAttrs_list PySem.F.slot_list_index PySem.F.type_list_index mt_index' quiet_index ho (ja_cons he ja_nil hs) hbase hfew hline hs rfl
end

/-! ### xs[i] = e, as a target -/
@[reducible] def gSubL (mo mi : ME) : MG := fun w ρ st => match mo ρ st with
  | .ok x st1 => match mi ρ st1 with
    | .ok i st2 => match x, i with
      | .ref n, .int k => match st2[n]? with
        | some (.lst xs) => match ixN xs.length k with
          | some j => some (ρ, st2.set n (.lst (xs.set j w)))
          | none => none
        | _ => none
      | _, _ => none
    | _ => none
  | _ => none
theorem jg_sub {X : Cx} {o i : Expr} {mo mi : ME} {pos : Pos} (ho : JE X o mo) (hi : JE X i mi)
    (ha : ∀ v, assign (.Subscript o i pos) X.env v = (do
      let ov ← holding [v] (eval o X.env)
      let iv ← holding [v, ov] (eval i X.env)
      standAt pos
      holding [v, ov, iv] (setItem ov iv v)
      release [v, ov, iv] []) := by intro _; rfl) (tk : Takes X W0 := takes0) : JG X (.Subscript o i pos) [] (gSubL mo mi) :=
  PG.weak (pg_sub (ho W0 tk) (hi W0 tk) set_list ha) fun v σ H Q ⟨ι, ρ, st, w, S, sl, r, p⟩ => by
    dsimp only [gSubL] at p
    refine ⟨ι, ρ, st, S, sl, ?_⟩
    cases q1 : mo ρ st with
    | bad => rw [q1] at p; exact p.elim
    | exc x s => rw [q1] at p; exact p.elim
    | ok x st1 =>
      rw [q1] at p
      intro ι1 H1 xv l1 S1 r1
      have sl1 := sl.later l1
      refine ⟨ι1, ρ, st1, S1, sl1, ?_⟩
      dsimp only at p
      cases q2 : mi ρ st1 with
      | bad => rw [q2] at p; exact p.elim
      | exc x s => rw [q2] at p; exact p.elim
      | ok i st2 =>
        rw [q2] at p
        intro ι2 H2 iv l2 S2 r2
        have sl2 := sl1.later l2
        dsimp only at p
        split at p
        · rename_i n k
          obtain ⟨a, e, hA⟩ := r1.ref_inv
          have e2 := r2.int_inv
          subst e e2
          have hA2 := l2.get hA
          split at p
          · rename_i xs ec
            obtain ⟨vs, h1, rr⟩ := S2.at ec hA2
            split at p
            · rename_i j ej
              refine ⟨a, vs, k, j, rfl, rfl, h1, by rw [← rr.length]; exact ej, ?_⟩
              have l3 : Later ι2 H2 ι2 (upd H2 a (.lst (vs.set j v))) := ⟨⟨[], by simp⟩, fun b xs e => by rw [upd_ne fun q => by subst q; rw [h1] at e; cases e]; exact e, fun b ob ks e => by rw [upd_ne fun q => by subst q; rw [h1] at e; cases e; exact ks]; exact e⟩
              obtain ⟨S3, l3'⟩ := S2.write (c' := .lst (xs.set j w)) (o' := .lst (vs.set j v)) ec hA2 rfl rfl h1 (fun _ e => by cases e) (fun _ _ e => by cases e) ⟨_, upd_same, (Reps.set (Rep.later (l1.trans l2) r) j rr).later l3⟩
              exact p ι2 _ σ ((l1.trans l2).trans l3') S3 (sl2.later l3') (OutS.refl _ _)
            · exact p.elim
          · exact p.elim
        · exact p.elim
@[reducible] def vNeg : Val → Store → R Val
  | .int i, st => .ok (.int (-i)) st
  | _, _ => .bad
theorem je_neg {X : Cx} {e : Expr} {m : ME} {pos : Pos} (h : JE X e m) : JE X (.UnaryOp .USub e pos) (fun ρ st => (m ρ st).bind vNeg) := fun W tk => by
  refine PE.weak (pe_un un_neg (h W tk)) fun σ H Q ⟨ι, ρ, st, S, sl, p⟩ => ?_
  refine ⟨ι, ρ, st, S, sl, Post.bind p fun w st1 ι1 H1 x l1 S1 r1 p1 => ?_⟩
  cases w with
  | int i => exact ⟨i, r1.int_inv, p1.okSame S1 Rep.int⟩
  | _ => exact p1.elim
end Ab

set_option Elab.async false
set_option linter.all false
set_option maxRecDepth 100000
/-! Ab: enumerate and zip over lists and tuples, in any mix. -/
namespace Ab
open PySem PySem.Spec L2

/-- a walk that hands out new tuples, as a turn of the hand layer -/
theorem turn_gen {P : Program} {w : World} {K : PySem.W.Frag} {elts : List Expr} {kk : Nat} {tpos : Pos} {I : Addr} {J : It} (own : List Addr) (Own : Nat → Heap → Prop) (mem : I ∈ own)
    (obj : ∀ i h, Own i h → ∀ b ∈ own, ∃ o, h.get? b = some o ∧ ∀ v, o.data ≠ .cell v)
    (keep : ∀ i h h', Own i h → (∀ b ∈ own, ∀ o, h.get? b = some o → h'.get? b = some o) → Own i h')
    (self : ∀ (A : Around) (i : Nat) (s : Shared) (Q : Value → Shared → Prop) (E : Value → Shared → Prop), Own i s.heap → Q (.ref I) s → wpAny (model P w) A (pyIter (.ref I)) Q E s)
    (item : ∀ (X : Cx), X.prog = P → X.w = w → X.K = K → X.calm = true → ∀ (i : Nat) (pins : List (Addr × Obj)) (s : Shared) (σ : L2.St) (H : Hp), Inv X pins σ H s → Own i s.heap → J.go i H →
      ∃ fp wr n Pt St Mid, WalksT P w X.A I fp wr n Pt St Mid ∧ i < n ∧ St i s.heap ∧ (∀ b ∈ wr, b ∈ own) ∧ (∀ h, St (i + 1) h → Own (i + 1) h) ∧
        ∀ vals, Pt i vals → ∃ xs, Vals xs vals.toList ∧ xs.length ≤ 2 ∧ ∀ T, H T = none → J.yld i H (.ref T) (upd H T (.tup xs)))
    (done : ∀ (X : Cx), X.prog = P → X.w = w → X.K = K → X.calm = true → ∀ (i : Nat) (pins : List (Addr × Obj)) (s : Shared) (σ : L2.St) (H : Hp), Inv X pins σ H s → Own i s.heap → J.stop i H →
      ∀ (E : Value → Shared → Prop) (Q : Option Value → Shared → Prop), (∀ h' tk, (∀ b o, b ∉ own → s.heap.get? b = some o → h'.get? b = some o) → Q none { s with heap := h', toks := tk }) → wpAny (model P w) X.A (pyNext (.ref I)) Q E s) :
    Turn P w K (.Tuple elts kk tpos) J own I Own where
  mem := mem
  obj := obj
  keep := keep
  item := by
    intro X hP hw hK hc i pins s σ H E I hf st hg
    obtain ⟨fp, wr, n, Pt, St, Mid, W, hi, hSt, hwr, hown, hv⟩ := item X hP hw hK hc i pins s σ H I st hg
    subst hP hw hK
    refine W.item i s _ E hi hSt fun T vals h' tk hPt hT hTup hM hk => ?_
    obtain ⟨xs, rv, hl2, hy⟩ := hv vals hPt
    have hap := W.apart i T h' hM
    refine ⟨.ref T, rfl, W.go elts kk tpos i T { s with heap := h', toks := tk } _ E hM fun h'' hSt' hk' => ?_⟩
    have hTn : H T = none := I.hok.fresh hT
    obtain ⟨oT, e1, e2, n', e3⟩ := hTup
    have eT := hk' T oT hap e1
    have new : ObjOk X.prog X.w (upd H T (.tup xs)) h'' T (.tup xs) :=
      ⟨Nat.le_trans hl2 (by decide), vals.toList, rv, ⟨oT, eT, e2, n', by simpa using e3⟩⟩
    have I1 : Inv X pins σ (upd H T (.tup xs)) { s with heap := h'', toks := tk } :=
      I.turnedNew (ch := own) (fun b ob hb q => hk' b ob (fun z => hb (hwr b z)) (hk b ob (fun z => hb (hwr b z)) q)) hf hT new
    refine ⟨.ref T, _, I1, rfl, hy T hTn, hown h'' hSt', fun b hb => ?_⟩
    obtain ⟨o, ho, _⟩ := obj i s.heap st b hb
    rw [upd_ne fun e => by
      have h1 := Heap.lt_size ho
      rw [e] at h1
      exact absurd (Nat.lt_of_lt_of_le h1 hT) (Nat.lt_irrefl _)]
    exact (hf b hb).1
  done := by
    intro X hP hw hK hc i pins s σ H E I hf st hg
    refine done X hP hw hK hc i pins s σ H I st hg E _ fun h' tk hk => ⟨rfl, I.turnedL (ch := own) (fun b o hb q => hk b o hb q) hf⟩
  self := self

/-! ### a source: a list or a tuple -/
def SqB (isT : Bool) (K : PySem.W.Frag) (H : Hp) (a : Addr) (xs : List V) : Prop := if isT = true then SqT K H a xs else SqL K H a xs
def IterB (isT : Bool) (h : Heap) (it a : Addr) (i : Nat) : Prop := if isT = true then h.IsTupleIter it a i else h.IsListIter it a i
def IsB (isT : Bool) (h : Heap) (a : Addr) (its : Array Value) : Prop := if isT = true then h.IsTuple a its else h.IsList a its
def objB (isT : Bool) (a : Addr) : Obj := if isT = true then { cls := .type "tuple_iterator", data := .fields #[.ref a, .int 0 0] } else { cls := .type "list_iterator", data := .fields #[.ref a, .int 0 0] }
theorem drawsB (isT : Bool) {P : Program} {w : World} {A : Around} (hh : A.handled = none) (it a : Addr) (hne : a ≠ it) (its : Array Value) : Draws P w A it [it, a] its.size (fun i v => its[i]? = some v) (fun i h => IterB isT h it a i ∧ IsB isT h a its) := by
  cases isT with
  | true => exact .tuple hh it a hne its
  | false => exact .list hh it a hne its
theorem beginsB (isT : Bool) (a : Addr) (its : Array Value) : Begins (.ref a) (objB isT a) fun h => IsB isT h a its := by
  cases isT with
  | true => exact begins_tuple a its
  | false => exact begins_list a its
theorem IterB.new {isT : Bool} {h : Heap} {it a : Addr} (e : h.get? it = some (objB isT a)) : IterB isT h it a 0 := by
  cases isT with
  | true => exact ⟨_, e, rfl, rfl⟩
  | false => exact ⟨_, e, rfl, rfl⟩
theorem IterB.at {isT : Bool} {h h' : Heap} {it a : Addr} {i : Nat} (x : IterB isT h it a i) (k : ∀ o, h.get? it = some o → h'.get? it = some o) : IterB isT h' it a i := by
  cases isT with
  | true => exact Heap.IsTupleIter.at (show h.IsTupleIter it a i from x) k
  | false => exact Heap.IsListIter.at (show h.IsListIter it a i from x) k
theorem IterB.obj {isT : Bool} {h : Heap} {it a : Addr} {i : Nat} (x : IterB isT h it a i) : ∃ o, h.get? it = some o ∧ ∀ v, o.data ≠ .cell v := by
  cases isT with
  | true =>
    obtain ⟨o, e, c, d⟩ := (show h.IsTupleIter it a i from x)
    exact ⟨o, e, fun v z => by rw [d] at z; cases z⟩
  | false =>
    obtain ⟨o, e, c, d⟩ := (show h.IsListIter it a i from x)
    exact ⟨o, e, fun v z => by rw [d] at z; cases z⟩
theorem Inv.seqB {X : Cx} {pins : List (Addr × Obj)} {σ : L2.St} {H : Hp} {s : Shared} {isT : Bool} {a : Addr} {xs : List V} (I : Inv X pins σ H s) (h : SqB isT X.K H a xs) : ∃ its : List Value, Vals xs its ∧ IsB isT s.heap a its.toArray ∧ a < s.heap.objs.size := by
  cases isT with
  | true =>
    obtain ⟨its, rv, p, _⟩ := I.tuple (show SqT X.K H a xs from h)
    obtain ⟨o, ho, _⟩ := id p
    exact ⟨its, rv, p, Heap.lt_size ho⟩
  | false =>
    obtain ⟨its, rv, p, _⟩ := I.list (show SqL X.K H a xs from h)
    exact ⟨its, rv, p.isList, p.lt⟩
theorem Inv.seqB_inj {X : Cx} {pins : List (Addr × Obj)} {σ : L2.St} {H : Hp} {s : Shared} {isT : Bool} {a : Addr} {xs ys : List V} (I : Inv X pins σ H s) (h : SqB isT X.K H a xs) (h' : SqB isT X.K H a ys) : xs = ys := by
  cases isT with
  | true => exact I.tuple_inj (show SqT X.K H a xs from h) h'
  | false => exact I.list_inj (show SqL X.K H a xs from h) h'

/-! ### enumerate -/
def IteB (isT : Bool) (K : PySem.W.Frag) (a : Addr) : It :=
  ⟨fun i H => ∃ (xs : List V) (x : V), SqB isT K H a xs ∧ xs[i]? = some x, fun i H v H' => ∃ T x, v = .ref T ∧ H T = none ∧ H' = upd H T (.tup [.int (i : Nat), x]) ∧ ∀ xs, SqB isT K H a xs → xs[i]? = some x, fun i H => ∃ xs : List V, SqB isT K H a xs ∧ i = xs.length⟩
theorem turn_enumB (isT : Bool) {P : Program} {w : World} {K : PySem.W.Frag} {elts : List Expr} {kk : Nat} {tpos : Pos} (a e it : Addr) :
    Turn P w K (.Tuple elts kk tpos) (IteB isT K a) [e, it] e (fun i h => (∃ old, IsEnum h e it ((i : Nat) : Int) old) ∧ IterB isT h it a i ∧ e ≠ it ∧ a ≠ it ∧ a ≠ e) := by
  refine turn_gen [e, it] _ (by simp) (fun i h st b hb => ?_) (fun i h h' st k => ?_) (fun A i s Q E st h => let ⟨⟨_, he⟩, _⟩ := st; wpAny_pyIter_enum he h) ?_ ?_
  · obtain ⟨⟨old, he⟩, hit, _⟩ := st
    have e' : b = e ∨ b = it := by simpa using hb
    rcases e' with z | z
    · rw [z]; exact ⟨_, he, fun v q => nomatch q⟩
    · rw [z]; exact hit.obj
  · obtain ⟨⟨old, he⟩, hi, hne⟩ := st
    exact ⟨⟨old, k e (by simp) _ he⟩, hi.at fun o q => k it (by simp) o q, hne⟩
  · intro X hP hw hK hc i pins s σ H I st hg
    subst hP hw hK
    obtain ⟨⟨old, he⟩, hit, hne, hai, hae⟩ := st
    obtain ⟨xs, x, hq, hx⟩ := hg
    obtain ⟨its, rv, p, hlt⟩ := Inv.seqB I hq
    have D := drawsB isT (P := X.prog) (w := X.w) (A := X.A.in1) (I.ok.hd hc) it a hai its.toArray
    refine ⟨_, _, _, _, _, _, WalksT.enumerateD D e hne (by simp [hne, Ne.symm hae]) (by simp), ?_, ⟨⟨old, he⟩, hit, p⟩, fun b hb => hb, fun h z => ⟨z.1, z.2.1, hne, hai, hae⟩, ?_⟩
    · rw [List.size_toArray, ← rv.length]; exact (List.getElem?_eq_some_iff.mp hx).1
    · rintro vals ⟨t, u, hu, rfl⟩
      obtain ⟨u', hu', ru⟩ := rv.get hx
      have : u = u' := by simpa [hu'] using hu.symm
      subst this
      exact ⟨[.int i, x], .cons ⟨_, rfl⟩ (.cons ru .nil), by simp, fun T hT => ⟨T, x, rfl, hT, rfl, fun ys hy => by rw [Inv.seqB_inj I hy hq]; exact hx⟩⟩
  · intro X hP hw hK hc i pins s σ H I st hg E Q hQ
    subst hP hw hK
    obtain ⟨⟨old, he⟩, hit, hne, hai, hae⟩ := st
    obtain ⟨xs, hq, hx⟩ := hg
    obtain ⟨its, rv, p, hlt⟩ := Inv.seqB I hq
    have D := drawsB isT (P := X.prog) (w := X.w) (A := X.A.in1) (I.ok.hd hc) it a hai its.toArray
    have hl : its.toArray.size = i := by rw [List.size_toArray, ← rv.length, hx]
    have W := WalksT.enumerateD D e hne (by simp [hne, Ne.symm hae]) (by simp)
    refine W.done s Q E (by rw [hl]; exact ⟨⟨old, he⟩, hit, p⟩) fun h' tk hk => hQ h' tk hk
open Sem (wp) in
set_option maxHeartbeats 1000000 in
theorem meets_enumerate_new1 {v : Value} {o : Obj} {H : Heap → Prop} (B : Begins v o H) :
    Meets (Builtin.«enumerate.__new__» ⟨[.type "enumerate", v], []⟩) (fun _ R s => H s.heap ∧
      R (.ok (.ret (.ref (s.heap.push o).objs.size))) { s with heap := (s.heap.push o).push { cls := .type "enumerate", data := .fields #[.none, .bool false, .ref s.heap.objs.size, rawInt 0, .none, .none] } }) :=
  .of_wp fun prog w A R s h => by
    obtain ⟨hp, g, d, tk, os⟩ := s; obtain ⟨h1, h⟩ := h
    have hsub := sub_enumerate
    have q1 : ∀ {A' : Around} {E : Value → Shared → Prop} {Q : Value → Shared → Prop}, Q (.ref hp.objs.size) ⟨hp.push o, g, d, tk, os⟩ → wpAny (model prog w) A' (pyIter v) Q E ⟨hp, g, d, tk, os⟩ :=
      fun q => B.iter prog w _ _ ⟨hp, g, d, tk, os⟩ _ h1 q
    wp_walk using q1
    refine wpAny_stack_any fun st => wpAny_pure ?_
    split
    · rename_i c _ _ _ _ _
      cases (c == Value.type "enumerate")
      · wp_walk using q1
        exact ⟨_, rfl, h⟩
      · wp_walk using q1
        exact ⟨_, rfl, h⟩
    · wp_walk using q1
      exact ⟨_, rfl, h⟩
theorem call_enum1 {P : Program} {w : World} {A : Around} {E : Value → Shared → Prop} {s : Shared} {v : Value} {o : Obj} {H : Heap → Prop} {Q : Value → Shared → Prop} (B : Begins v o H) (h1 : H s.heap)
    (h : ∀ h', IsEnum h' (s.heap.objs.size + 1) s.heap.objs.size 0 .none → h'.get? s.heap.objs.size = some o → (∀ b o, s.heap.get? b = some o → h'.get? b = some o) → Q (.ref (s.heap.objs.size + 1)) { s with heap := h' }) :
    wpAny (model P w) A (call (.type "enumerate") [v]) Q E s := by
  refine callType_new F.called_enumerate (by decide) (F.typeCall_enumerate_1 _) (F.newCall_enumerate_1 _) (fun obj => F.args_object_init_2 obj _) F.entry_enumerate_new
    (meets_enumerate_new1 B) ⟨h1, ?_⟩
  have hz : (s.heap.push o).objs.size = s.heap.objs.size + 1 := Heap.size_push ..
  show _ ∧ _
  rw [hz]
  have he : IsEnum ((s.heap.push o).push { cls := .type "enumerate", data := .fields #[.none, .bool false, .ref s.heap.objs.size, rawInt 0, .none, .none] }) (s.heap.objs.size + 1) s.heap.objs.size 0 .none := by
    have := Heap.get?_push_size (s.heap.push o) (o := { cls := .type "enumerate", data := .fields #[.none, .bool false, .ref s.heap.objs.size, rawInt 0, .none, .none] }) rfl
    rw [hz] at this; exact this
  exact ⟨⟨_, he, rfl⟩, h _ he (Heap.get?_push_of_some _ (Heap.get?_push_size _ B.free)) fun b o x => Heap.get?_push_of_some _ (Heap.get?_push_of_some _ x)⟩
theorem boot_enumerate' : bootBuiltins "enumerate" = some (.type "enumerate") := by decide +kernel
def iEnumB (K : PySem.W.Frag) (ta : TA) : TI := fun σ H R => ta σ H fun vs H1 => ∃ isT a xs, vs = [.ref a] ∧ SqB isT K H1 a xs ∧ R (IteB isT K a) H1
theorem pi_enumB {X : Cx} {e : Expr} {ta : TA} {p pos tpos : Pos} {elts : List Expr} {kk : Nat} (hg : Gl X "enumerate") (hm : X.mg "enumerate" = none) (ha : PA X [e] ta) (hs : starEach [e] X.env = [(false, eval e X.env)] := by rfl) :
    PI X (.Tuple elts kk tpos) (.Call (.Name "enumerate" p) [e] [] pos) (iEnumB X.K ta) := by
  refine ⟨fun pins s σ H R I h => ?_⟩
  refine PyProof.Rows.Call_ (ld_blt I hg hm boot_enumerate' (PyProof.Rows.callWith_type1 (thn (ha.run pos pins s σ H _ I h) fun us s1 ⟨vs, H1, I1, r1, q1⟩ => ?_) hs rfl))
  obtain ⟨isT, a, xs, ex, hq, q⟩ := q1
  subst ex
  cases r1 with
  | cons r rr =>
    cases rr
    cases r
    obtain ⟨its, rv, p', hz⟩ := Inv.seqB I1 hq
    refine call_enum1 (beginsB isT a its.toArray) p' fun h' he hit hk => wpAny_pyIter_enum he ?_
    have I2 : Inv X pins σ H1 { s1 with heap := h' } := I1.kept (t' := s1.toks) hk
    refine ⟨s1.heap.objs.size + 1, [s1.heap.objs.size + 1, s1.heap.objs.size], _, _, H1, rfl, I2, turn_enumB isT a (s1.heap.objs.size + 1) s1.heap.objs.size, ⟨⟨.none, he⟩, .new hit, Nat.succ_ne_self _, Nat.ne_of_lt hz, Nat.ne_of_lt (Nat.lt_succ_of_lt hz)⟩, fun b hb => ?_, q⟩
    have e' : b = s1.heap.objs.size + 1 ∨ b = s1.heap.objs.size := by simpa using hb
    have hle : s1.heap.objs.size ≤ b := by
      rcases e' with z | z
      · rw [z]; exact Nat.le_add_right _ _
      · rw [z]; exact Nat.le_refl _
    exact I1.fpOk hle (I1.hok.fresh hle)

/-! ### zip -/
def ItzB (i1T i2T : Bool) (K : PySem.W.Frag) (a b : Addr) : It :=
  ⟨fun i H => ∃ (xs ys : List V) (x y : V), SqB i1T K H a xs ∧ SqB i2T K H b ys ∧ xs[i]? = some x ∧ ys[i]? = some y,
    fun i H v H' => ∃ T x y, v = .ref T ∧ H T = none ∧ H' = upd H T (.tup [x, y]) ∧ (∀ xs, SqB i1T K H a xs → xs[i]? = some x) ∧ ∀ ys, SqB i2T K H b ys → ys[i]? = some y,
    fun i H => ∃ xs ys : List V, SqB i1T K H a xs ∧ SqB i2T K H b ys ∧ i = min xs.length ys.length⟩
theorem turn_zipB (i1T i2T : Bool) {P : Program} {w : World} {K : PySem.W.Frag} {elts : List Expr} {kk : Nat} {tpos : Pos} {a b z TI TO i1 i2 : Addr} (D : ZipSep2 z TI TO i1 i2 [i1, a] [i2, b]) (hab : a ≠ i1 ∧ b ≠ i2) :
    Turn P w K (.Tuple elts kk tpos) (ItzB i1T i2T K a b) [z, TI, TO, i1, i2] z (fun i h => IsZip h z TI TO .none ∧ IsTupOf2 h TI (.ref i1) (.ref i2) ∧ (∃ x y, IsTupOf2 h TO x y) ∧ IterB i1T h i1 a i ∧ IterB i2T h i2 b i) := by
  have mk : ∀ (X : Cx), X.prog = P → X.w = w → X.calm = true → ∀ {pins : List (Addr × Obj)} {σ : L2.St} {H : Hp} {s : Shared}, Inv X pins σ H s → ∀ (its its2 : Array Value), WalksT P w X.A z (z :: TI :: TO :: ([i1, a] ++ [i2, b])) [z, TO, i1, i2] (min its.size its2.size)
      (fun i vals => ∃ x1 x2, its[i]? = some x1 ∧ its2[i]? = some x2 ∧ vals = #[x1, x2])
      (fun i h => IsZip h z TI TO .none ∧ IsTupOf2 h TI (.ref i1) (.ref i2) ∧ (∃ a1 a2, IsTupOf2 h TO a1 a2) ∧ (IterB i1T h i1 a i ∧ IsB i1T h a its) ∧ (IterB i2T h i2 b i ∧ IsB i2T h b its2))
      (fun i T h => IsZip h z TI TO (rawInt T) ∧ IsTupOf2 h TI (.ref i1) (.ref i2) ∧ (∃ a1 a2, IsTupOf2 h TO a1 a2) ∧ (IterB i1T h i1 a (i + 1) ∧ IsB i1T h a its) ∧ (IterB i2T h i2 b (i + 1) ∧ IsB i2T h b its2) ∧ T ≠ z ∧ T ≠ TO ∧ T ≠ i1 ∧ T ≠ i2) := by
    intro X hP hw hc pins σ H s I its its2
    subst hP hw
    exact WalksT.zipD2 D (drawsB i1T (A := X.A.in1) (I.ok.hd hc) i1 a hab.1 its) (drawsB i2T (A := X.A.in1) (I.ok.hd hc) i2 b hab.2 its2)
  refine turn_gen [z, TI, TO, i1, i2] _ (by simp) (fun i h st c hc => ?_) (fun i h h' st k => ?_) (fun A i s Q E st h => wpAny_pyIter_zip st.1 h) ?_ ?_
  · obtain ⟨hz, hTI, ⟨x, y, hTO⟩, h1, h2⟩ := st
    have e' : c = z ∨ c = TI ∨ c = TO ∨ c = i1 ∨ c = i2 := by simpa using hc
    rcases e' with q | q | q | q | q
    · rw [q]; exact ⟨_, hz, fun v q => nomatch q⟩
    · rw [q]; exact ⟨_, hTI, fun v q => nomatch q⟩
    · rw [q]; exact ⟨_, hTO, fun v q => nomatch q⟩
    · rw [q]; exact h1.obj
    · rw [q]; exact h2.obj
  · obtain ⟨hz, hTI, ⟨x, y, hTO⟩, h1, h2⟩ := st
    exact ⟨k z (by simp) _ hz, k TI (by simp) _ hTI, ⟨x, y, k TO (by simp) _ hTO⟩, h1.at fun o q => k i1 (by simp) o q, h2.at fun o q => k i2 (by simp) o q⟩
  · intro X hP hw hK hc i pins s σ H I st hg
    obtain ⟨hz, hTI, hTO, h1, h2⟩ := st
    obtain ⟨xs, ys, x, y, hqx, hqy, hx, hy⟩ := hg
    subst hK
    obtain ⟨its, rv, p, _⟩ := Inv.seqB I hqx
    obtain ⟨its2, rv2, p2, _⟩ := Inv.seqB I hqy
    refine ⟨_, _, _, _, _, _, mk X hP hw hc I its.toArray its2.toArray, ?_, ⟨hz, hTI, hTO, ⟨h1, p⟩, ⟨h2, p2⟩⟩, fun c hc => ?_, fun h z => ⟨z.1, z.2.1, z.2.2.1, z.2.2.2.1.1, z.2.2.2.2.1⟩, ?_⟩
    · have a1 := (List.getElem?_eq_some_iff.mp hx).1
      have a2 := (List.getElem?_eq_some_iff.mp hy).1
      have b1 := rv.length
      have b2 := rv2.length
      simp only [List.size_toArray]
      omega
    · have e' : c = z ∨ c = TO ∨ c = i1 ∨ c = i2 := by simpa using hc
      rcases e' with q | q | q | q <;> simp [q]
    · rintro vals ⟨u1, u2, hu1, hu2, rfl⟩
      obtain ⟨v1, hv1, r1⟩ := rv.get hx
      obtain ⟨v2, hv2, r2⟩ := rv2.get hy
      have e1 : u1 = v1 := by simpa [hv1] using hu1.symm
      have e2 : u2 = v2 := by simpa [hv2] using hu2.symm
      subst e1 e2
      exact ⟨[x, y], .cons r1 (.cons r2 .nil), by simp, fun T hT => ⟨T, x, y, rfl, hT, rfl, fun l hl => by rw [Inv.seqB_inj I hl hqx]; exact hx, fun l hl => by rw [Inv.seqB_inj I hl hqy]; exact hy⟩⟩
  · intro X hP hw hK hc i pins s σ H I st hg E Q hQ
    obtain ⟨hz, hTI, hTO, h1, h2⟩ := st
    obtain ⟨xs, ys, hqx, hqy, hend⟩ := hg
    subst hK
    obtain ⟨its, rv, p, _⟩ := Inv.seqB I hqx
    obtain ⟨its2, rv2, p2, _⟩ := Inv.seqB I hqy
    have W := mk X hP hw hc I its.toArray its2.toArray
    have hn : min its.toArray.size its2.toArray.size = i := by
      have b1 := rv.length
      have b2 := rv2.length
      simp only [List.size_toArray]
      omega
    refine W.done s Q E (by rw [hn]; exact ⟨hz, hTI, hTO, ⟨h1, p⟩, ⟨h2, p2⟩⟩) fun h' tk hk => hQ h' tk fun c o hc => hk c o fun hm => hc ?_
    have e' : c = z ∨ c = TO ∨ c = i1 ∨ c = i2 := by simpa using hm
    rcases e' with q | q | q | q <;> simp [q]
def iZipB (K : PySem.W.Frag) (ta : TA) : TI := fun σ H R => ta σ H fun vs H1 => ∃ b1 b2 a b xs ys, vs = [.ref a, .ref b] ∧ SqB b1 K H1 a xs ∧ SqB b2 K H1 b ys ∧ R (ItzB b1 b2 K a b) H1
theorem pi_zipB {X : Cx} {e e2 : Expr} {ta : TA} {p pos tpos : Pos} {elts : List Expr} {kk : Nat} (hg : Gl X "zip") (hm : X.mg "zip" = none) (ha : PA X [e, e2] ta)
    (hs : starEach [e, e2] X.env = (false, eval e X.env) :: starEach [e2] X.env := by rfl) (hpl : (backTo pos (starEach [e2] X.env)).any (·.1) = false := by rfl) :
    PI X (.Tuple elts kk tpos) (.Call (.Name "zip" p) [e, e2] [] pos) (iZipB X.K ta) := by
  refine ⟨fun pins s σ H R I h => ?_⟩
  refine PyProof.Rows.Call_ (ld_blt I hg hm PyProof.Rows.boot_zip (PyProof.Rows.callWith_type1 (thn (ha.run pos pins s σ H _ I h) fun us s1 ⟨vs, H1, I1, r1, q1⟩ => ?_) hs hpl))
  obtain ⟨b1, b2, a, b, xs, ys, ex, hqx, hqy, q⟩ := q1
  subst ex
  cases r1 with
  | cons r rr =>
    cases rr with
    | cons r' rr =>
      cases rr
      cases r
      cases r'
      obtain ⟨its, rv, p1, l1⟩ := Inv.seqB I1 hqx
      obtain ⟨its2, rv2, p2, l2⟩ := Inv.seqB I1 hqy
      refine zip_begins2 (beginsB b1 a its.toArray) (beginsB b2 b its2.toArray) p1 p2 fun h' hz hTI hTO h1 h2 hsz hk => wpAny_pyIter_zip hz ?_
      have I2 : Inv X pins σ H1 { s1 with heap := h' } := I1.kept (t' := s1.toks) hk
      refine ⟨s1.heap.objs.size + 4, [s1.heap.objs.size + 4, s1.heap.objs.size + 2, s1.heap.objs.size + 3, s1.heap.objs.size, s1.heap.objs.size + 1], _, _, H1, rfl, I2,
        turn_zipB b1 b2 (zip_sep2 (N := s1.heap.objs.size) (fp1 := [a]) (fp2 := [b]) (fun c hc => by simp at hc; subst hc; exact l1) (fun c hc => by simp at hc; subst hc; exact l2)) ⟨Nat.ne_of_lt l1, Nat.ne_of_lt (Nat.lt_succ_of_lt l2)⟩,
        ⟨hz, hTI, ⟨_, _, hTO⟩, .new h1, .new h2⟩, fun c hcm => ?_, q⟩
      have e' : c = s1.heap.objs.size + 4 ∨ c = s1.heap.objs.size + 2 ∨ c = s1.heap.objs.size + 3 ∨ c = s1.heap.objs.size ∨ c = s1.heap.objs.size + 1 := by simpa using hcm
      have hle : s1.heap.objs.size ≤ c := by
        rcases e' with z | z | z | z | z
        · rw [z]; exact Nat.le_add_right _ _
        · rw [z]; exact Nat.le_add_right _ _
        · rw [z]; exact Nat.le_add_right _ _
        · rw [z]; exact Nat.le_refl _
        · rw [z]; exact Nat.le_add_right _ _
      exact I1.fpOk hle (I1.hok.fresh hle)

/-! ### their mirrors -/
/-- a list or a tuple: its items, and that they stay -/
@[reducible] def itemsOf (st : Store) : Val → Option (List Val × (Store → Prop))
  | .tup xs => some (xs, fun _ => True)
  | .ref n => match seqAt st n with
    | some xs => some (xs, fun st' => seqAt st' n = some xs)
    | none => none
  | _ => none
theorem itemsOf_src {K : PySem.W.Frag} {mg : Str → Option Value} {ι : List Addr} {st : Store} {H : Hp} (S : Sim K mg ι st H) {w : Val} {v : V} (r : Rep mg ι H w v) {xs : List Val} {okp : Store → Prop} (h : itemsOf st w = some (xs, okp)) :
    ∃ isT a, v = .ref a ∧ ∀ ι1 H1 st1, Later ι H ι1 H1 → Sim K mg ι1 st1 H1 → okp st1 → ∃ vs, SqB isT K H1 a vs ∧ Reps mg ι1 H1 xs vs := by
  cases w with
  | tup ys =>
    cases h
    obtain ⟨a, vs, e, ha, rr⟩ := r.tup_inv
    exact ⟨true, a, e, fun ι1 H1 st1 l S1 _ => ⟨vs, SqT.of (l.tups _ _ ha), rr.later l⟩⟩
  | ref n =>
    obtain ⟨a, e, ha⟩ := r.ref_inv
    dsimp only [itemsOf] at h
    cases q : seqAt st n with
    | none => rw [q] at h; cases h
    | some ys =>
      rw [q] at h
      cases h
      exact ⟨false, a, e, fun ι1 H1 st1 l S1 ok => S1.seqL ok (l.get ha)⟩
  | _ => cases h
/-- its own first state is right -/
theorem itemsOf_ok {st : Store} {w : Val} {xs : List Val} {okp : Store → Prop} (h : itemsOf st w = some (xs, okp)) : okp st := by
  cases w with
  | tup ys => cases h; trivial
  | ref n =>
    dsimp only [itemsOf] at h
    cases q : seqAt st n with
    | none => rw [q] at h; cases h
    | some ys => rw [q] at h; cases h; exact q
  | _ => cases h
def enumFrom (k : Nat) : List Val → List Val
  | [] => []
  | x :: r => .tup [.int k, x] :: enumFrom (k + 1) r
theorem enumFrom_length : ∀ (k : Nat) (xs : List Val), (enumFrom k xs).length = xs.length
  | _, [] => rfl
  | k, x :: r => by simp [enumFrom, enumFrom_length (k + 1) r]
theorem enumFrom_get : ∀ (k : Nat) (xs : List Val) (i : Nat) (x : Val), xs[i]? = some x → (enumFrom k xs)[i]? = some (.tup [.int ((k + i : Nat) : Int), x])
  | _, [], i, x, h => by simp at h
  | k, y :: r, 0, x, h => by simp at h; subst h; rfl
  | k, y :: r, i + 1, x, h => by
    have := enumFrom_get (k + 1) r i x (by simpa using h)
    show (enumFrom (k + 1) r)[i]? = _
    rw [this, show k + 1 + i = k + (i + 1) by omega]
def zipW : List Val → List Val → List Val
  | x :: r, y :: q => .tup [x, y] :: zipW r q
  | _, _ => []
theorem zipW_length : ∀ (xs ys : List Val), (zipW xs ys).length = min xs.length ys.length
  | [], ys => by simp [zipW]
  | x :: r, [] => by simp [zipW]
  | x :: r, y :: q => by simp [zipW, zipW_length r q]
theorem zipW_get : ∀ (xs ys : List Val) (i : Nat) (x y : Val), xs[i]? = some x → ys[i]? = some y → (zipW xs ys)[i]? = some (.tup [x, y])
  | [], _, i, x, y, h, _ => by simp at h
  | _ :: _, [], i, x, y, _, h => by simp at h
  | a :: r, b :: q, 0, x, y, h, h2 => by simp at h h2; subst h h2; rfl
  | a :: r, b :: q, i + 1, x, y, h, h2 => by
    have := zipW_get r q i x y (by simpa using h) (by simpa using h2)
    show (zipW r q)[i]? = _
    exact this
theorem isIt_enum {K : PySem.W.Frag} {mg : Str → Option Value} {ι : List Addr} {H : Hp} {isT : Bool} {a : Addr} {xs : List Val} {okp : Store → Prop}
    (src : ∀ ι1 H1 st1, Later ι H ι1 H1 → Sim K mg ι1 st1 H1 → okp st1 → ∃ vs, SqB isT K H1 a vs ∧ Reps mg ι1 H1 xs vs) : IsIt K mg (enumFrom 0 xs) okp ι H (IteB isT K a) := by
  refine ⟨fun i ι1 H1 st l S ok hi => ?_, fun i ι1 H1 st x H' l S ok hi hy => ?_, fun i ι1 H1 st l S ok hi => ?_⟩
  · obtain ⟨vs, h1, r⟩ := src ι1 H1 st l S ok
    rw [enumFrom_length] at hi
    exact ⟨vs, vs[i]'(by rw [← r.length]; exact hi), h1, by simp⟩
  · obtain ⟨vs, h1, r⟩ := src ι1 H1 st l S ok
    obtain ⟨T, y, e1, hT, e2, f⟩ := hy
    subst e1 e2
    obtain ⟨w, hw, rw_⟩ := r.get' (f vs h1)
    have hs := same_new (o := .tup [.int (i : Nat), y]) hT
    refine ⟨Same.laterH hs, S.same hs, _, enumFrom_get 0 xs i w hw, ?_⟩
    rw [Nat.zero_add]
    exact Rep.newTup hT (Reps.cons Rep.int (Reps.cons rw_ Reps.nil))
  · obtain ⟨vs, h1, r⟩ := src ι1 H1 st l S ok
    rw [enumFrom_length] at hi
    exact ⟨vs, h1, by rw [← r.length]; exact hi⟩
theorem isIt_zip {K : PySem.W.Frag} {mg : Str → Option Value} {ι : List Addr} {H : Hp} {b1 b2 : Bool} {a b : Addr} {xs ys : List Val} {okp okq : Store → Prop}
    (src : ∀ ι1 H1 st1, Later ι H ι1 H1 → Sim K mg ι1 st1 H1 → okp st1 → ∃ vs, SqB b1 K H1 a vs ∧ Reps mg ι1 H1 xs vs)
    (src2 : ∀ ι1 H1 st1, Later ι H ι1 H1 → Sim K mg ι1 st1 H1 → okq st1 → ∃ vs, SqB b2 K H1 b vs ∧ Reps mg ι1 H1 ys vs) : IsIt K mg (zipW xs ys) (fun st => okp st ∧ okq st) ι H (ItzB b1 b2 K a b) := by
  refine ⟨fun i ι1 H1 st l S ok hi => ?_, fun i ι1 H1 st x H' l S ok hi hy => ?_, fun i ι1 H1 st l S ok hi => ?_⟩
  · obtain ⟨vs, h1, r⟩ := src ι1 H1 st l S ok.1
    obtain ⟨us, h2, r2⟩ := src2 ι1 H1 st l S ok.2
    rw [zipW_length] at hi
    exact ⟨vs, us, vs[i]'(by rw [← r.length]; omega), us[i]'(by rw [← r2.length]; omega), h1, h2, by simp, by simp⟩
  · obtain ⟨vs, h1, r⟩ := src ι1 H1 st l S ok.1
    obtain ⟨us, h2, r2⟩ := src2 ι1 H1 st l S ok.2
    obtain ⟨T, y, z, e1, hT, e2, f, f2⟩ := hy
    subst e1 e2
    obtain ⟨w, hw, rw_⟩ := r.get' (f vs h1)
    obtain ⟨w2, hw2, rw2⟩ := r2.get' (f2 us h2)
    have hs := same_new (o := .tup [y, z]) hT
    exact ⟨Same.laterH hs, S.same hs, _, zipW_get xs ys i w w2 hw hw2, Rep.newTup hT (Reps.cons rw_ (Reps.cons rw2 Reps.nil))⟩
  · obtain ⟨vs, h1, r⟩ := src ι1 H1 st l S ok.1
    obtain ⟨us, h2, r2⟩ := src2 ι1 H1 st l S ok.2
    rw [zipW_length] at hi
    exact ⟨vs, us, h1, h2, by rw [← r.length, ← r2.length]; exact hi⟩
@[reducible] def iEnumM (m : ME) : MI := fun ρ st => (m ρ st).bind fun w st1 => match itemsOf st1 w with
  | some (xs, okp) => .ok (enumFrom 0 xs, okp) st1
  | none => .bad
@[reducible] def iZipM (m1 m2 : ME) : MI := fun ρ st => (m1 ρ st).bind fun w st1 => (m2 ρ st1).bind fun u st2 => match itemsOf st2 w, itemsOf st2 u with
  | some (xs, okp), some (ys, okq) => .ok (zipW xs ys, fun st => okp st ∧ okq st) st2
  | _, _ => .bad
@[reducible] def iSeqM (m : ME) : MI := fun ρ st => (m ρ st).bind fun w st1 => match itemsOf st1 w with
  | some p => .ok p st1
  | none => .bad
section
variable {X : Cx} {e e2 : Expr} {m m2 : ME} {p pos tpos : Pos} {elts : List Expr} {kk : Nat}
theorem ji_enum (hm : X.mg "enumerate" = none) (he : JE X e m) (hg : Gl X "enumerate" := by rfl) (hs : starEach [e] X.env = [(false, eval e X.env)] := by rfl) : JI X (.Tuple elts kk tpos) (.Call (.Name "enumerate" p) [e] [] pos) (iEnumM m) := fun W tk => by
  refine ⟨fun pins s σ H R I hw => (pi_enumB hg hm (pa_cons (he W tk) pa_nil hs) hs).run pins s σ H R I ?_⟩
  obtain ⟨ι, ρ, st, S, sl, p⟩ := hw
  refine ⟨ι, ρ, st, S, sl, Post.bind p fun w st1 ι1 H1 x l1 S1 r1 p1 => ?_⟩
  cases q : itemsOf st1 w with
  | none => rw [q] at p1; exact p1.elim
  | some z =>
    obtain ⟨xs, okp⟩ := z
    rw [q] at p1
    obtain ⟨isT, a, ea, src⟩ := itemsOf_src S1 r1 q
    obtain ⟨vs, h1, _⟩ := src ι1 H1 st1 (Later.refl _ _) S1 (itemsOf_ok q)
    subst ea
    exact ⟨isT, a, vs, rfl, h1, p1.okSame S1 (isIt_enum src)⟩
theorem ji_zip (hm : X.mg "zip" = none) (he : JE X e m) (he2 : JE X e2 m2) (hg : Gl X "zip" := by rfl) (hs : starEach [e, e2] X.env = (false, eval e X.env) :: starEach [e2] X.env := by rfl) (hs2 : starEach [e2] X.env = (false, eval e2 X.env) :: starEach [] X.env := by rfl)
    (hpl : (backTo pos (starEach [e2] X.env)).any (·.1) = false := by rfl) : JI X (.Tuple elts kk tpos) (.Call (.Name "zip" p) [e, e2] [] pos) (iZipM m m2) := fun W tk => by
  refine ⟨fun pins s σ H R I hw => (pi_zipB hg hm (pa_cons (he W tk) (pa_cons (he2 W tk) pa_nil hs2) hs) hs hpl).run pins s σ H R I ?_⟩
  obtain ⟨ι, ρ, st, S, sl, p⟩ := hw
  refine ⟨ι, ρ, st, S, sl, Post.bind p fun w st1 ι1 H1 x l1 S1 r1 p1 => ?_⟩
  refine ⟨ι1, ρ, st1, S1, sl.later l1, Post.bind p1 fun u st2 ι2 H2 y l2 S2 r2 p2 => ?_⟩
  cases q : itemsOf st2 w with
  | none => rw [q] at p2; exact p2.elim
  | some z =>
    cases q2 : itemsOf st2 u with
    | none => rw [q, q2] at p2; exact p2.elim
    | some z2 =>
      obtain ⟨xs, okp⟩ := z
      obtain ⟨ys, okq⟩ := z2
      rw [q, q2] at p2
      obtain ⟨b1, a, ea, src⟩ := itemsOf_src S2 (Rep.later l2 r1) q
      obtain ⟨b2, b, eb, src2⟩ := itemsOf_src S2 r2 q2
      obtain ⟨vs, h1, _⟩ := src ι2 H2 st2 (Later.refl _ _) S2 (itemsOf_ok q)
      obtain ⟨us, h2, _⟩ := src2 ι2 H2 st2 (Later.refl _ _) S2 (itemsOf_ok q2)
      subst ea eb
      exact ⟨b1, b2, a, b, vs, us, rfl, h1, h2, p2.okSame S2 (isIt_zip src src2)⟩
/-- a list or a tuple itself -/
theorem ji_seq {tg : Expr} (he : JE X e m) : JI X tg e (iSeqM m) := fun W tk => by
  refine ⟨fun pins s σ H R' I hw => ?_⟩
  obtain ⟨ι, ρ, st, S, sl, p⟩ := hw
  cases q : m ρ st with
  | bad => dsimp only [iSeqM] at p; rw [q] at p; exact p.elim
  | exc x s' =>
    dsimp only [iSeqM] at p; rw [q] at p
    exact (pi_tup (he W tk)).run pins s σ H R' I ⟨ι, ρ, st, S, sl, by rw [q]; exact p⟩
  | ok w st1 =>
    dsimp only [iSeqM] at p; rw [q] at p
    dsimp only [Ab.R.bind] at p
    cases w with
    | tup xs =>
      refine (pi_tup (he W tk)).run pins s σ H R' I ⟨ι, ρ, st, S, sl, ?_⟩
      rw [q]
      intro ι1 H1 v l1 S1 r1
      obtain ⟨a, vs, e1, ha, rr⟩ := Rep.tup_inv r1
      exact ⟨a, e1, ⟨vs, SqT.of ha⟩, (Post.later p l1).okSame S1 (isIt_tup ha rr)⟩
    | ref n =>
      refine (pi_list (he W tk)).run pins s σ H R' I ⟨ι, ρ, st, S, sl, ?_⟩
      rw [q]
      intro ι1 H1 v l1 S1 r1
      obtain ⟨a, e1, ha⟩ := Rep.ref_inv r1
      have p1 := Post.later p l1
      dsimp only [itemsOf] at p1
      cases qs : seqAt st1 n with
      | none => rw [qs] at p1; exact p1.elim
      | some xs =>
        rw [qs] at p1
        obtain ⟨vs, h1, _⟩ := S1.seqL qs ha
        exact ⟨a, e1, ⟨vs, h1⟩, p1.okSame S1 (isIt_list ha)⟩
    | _ => exact p.elim
end
/-! ### a text, sign by sign -/
def signsW (x : Str) : List Val := x.cps.toList.map fun c => .str ⟨#[c]⟩
theorem isIt_str {K : PySem.W.Frag} {mg : Str → Option Value} {x : Str} {ι : List Addr} {H : Hp} : IsIt K mg (signsW x) (fun _ => True) ι H (Its x) := by
  have hl : (signsW x).length = x.cps.size := by unfold signsW; simp
  refine ⟨fun i ι1 H1 st l S ok hi => (show i < x.cps.size by omega), fun i ι1 H1 st v H' l S ok hi hy => ?_, fun i ι1 H1 st l S ok hi => (show x.cps.size ≤ i by omega)⟩
  obtain ⟨e1, c, hc, e2⟩ := hy
  subst e1 e2
  refine ⟨Later.refl _ _, S, .str ⟨#[c]⟩, ?_, Rep.str⟩
  unfold signsW
  rw [List.getElem?_map, Array.getElem?_toList, hc]
  rfl
@[reducible] def iStrM (m : ME) : MI := fun ρ st => (m ρ st).bind fun w st1 => match w with
  | .str x => .ok (signsW x, fun _ => True) st1
  | _ => .bad
theorem ji_str {X : Cx} {tg e : Expr} {m : ME} (he : JE X e m) : JI X tg e (iStrM m) := fun W tk => by
  refine ⟨fun pins s σ H R I hw => (pi_str (he W tk)).run pins s σ H R I ?_⟩
  obtain ⟨ι, ρ, st, S, sl, p⟩ := hw
  refine ⟨ι, ρ, st, S, sl, Post.bind p fun w st1 ι1 H1 v l1 S1 r1 p1 => ?_⟩
  cases w with
  | str x => exact ⟨x, r1.str_inv, p1.okSame S1 isIt_str⟩
  | _ => exact p1.elim
end Ab

set_option Elab.async false
set_option linter.all false
set_option maxRecDepth 100000
set_option maxHeartbeats 4000000
/-! Ab: an own exception class made with keywords. -/
namespace PySem
namespace AbX
open PySem PySem.Spec PyProof.Rows PySem.HandSPX PySem.W PySem.Calls
section
variable {M : Model} {A : Around} {E : Value → Shared → Prop} {h : Heap} {g : Array GenState} {d : Drawn} {t : Nat} {os : OsState}
variable {nm q : Str} {C N : Addr} {bs bm bmB : List Value} {hdct : Bool} {sn : List Str} {sub : List Value} {ab : Bool} {col : Option Bool} {dd : Option Addr} {k0 k1 k2 k3 k5 : Option Value} {B newId initId : String}
theorem check_new_ownK (F : ExcBaseFacts B newId initId bmB) (hT : ∀ X : String, bm.contains (.type X) = bmB.contains (.type X)) {kw : List (Str × Value)} {Q : Unit → Shared → Prop}
    (hC : h.get? C = some (excClassObj nm q C N bs bm hdct sn sub ab col dd k0 k1 k2 k3 k5 newId)) (hq : Q () ⟨h, g, d, t, os⟩) : wpAny M A (checkBuiltinCall newId ⟨[.ref C], kw⟩) Q E ⟨h, g, d, t, os⟩ := by
  have hcont : (Value.ref C :: bm).contains (.type B) = true := by rw [List.contains_cons, hT, F.hasB, Bool.or_true]
  have hstar := F.noStar
  simp only [checkBuiltinCall, F.newKind, F.newSplit, F.newRow]
  repeat (first | refine wpAny_loadPart_at hC ?_ | (refine wpAny_isSubtype_exc hC ?_; rw [hcont]) | refine wpAny_staticBase_exc hC ?_ | refine wpAny_madeBy_exc hC ?_ | simp only [bne_self_eq_false, Bool.false_eq_true, if_false] | wp_step)
  exact hq
end
section
variable {prog : Program} {w : World} {A : Around} {E : Value → Shared → Prop} {R : Result → Shared → Prop} {h : Heap} {g : Array GenState} {d : Drawn} {t : Nat} {os : OsState}
variable {nm q : Str} {C N : Addr} {bs bm bmB : List Value} {hdct : Bool} {sn : List Str} {sub : List Value} {ab : Bool} {col : Option Bool} {dd : Option Addr} {k0 k1 k2 k3 k5 : Option Value} {B newId initId : String}
theorem new_ownK (F : ExcBaseFacts B newId initId bmB) (hT : ∀ X : String, bm.contains (.type X) = bmB.contains (.type X)) {kw : List (Str × Value)}
    (hC : h.get? C = some (excClassObj nm q C N bs bm hdct sn sub ab col dd k0 k1 k2 k3 k5 newId))
    (hq : R (.ok (.ret (.ref (h.objs.size + 1)))) ⟨(h.push { cls := .type "tuple", data := .seq ([] : List Value).toArray }).push
      { cls := .ref C, data := .fields #[.ref h.objs.size, .none, .none, .none, .bool false, .none] }, g, d, t, os⟩) :
    codeAny (model prog w) A (.builtin newId ⟨[.ref C], kw⟩) R ⟨h, g, d, t, os⟩ := by
  have hrest : ([] : List Value).length ≤ sizeLine := by simp
  have hends := F.ends
  have hcB : (Value.ref C :: bm).contains (.type B) = true := by rw [List.contains_cons, hT, F.hasB, Bool.or_true]
  have hcA : (Value.ref C :: bm).contains (.type "AttributeError") = false := by rw [List.contains_cons, hT, F.noAttr]; rfl
  have hcN : (Value.ref C :: bm).contains (.type "NameError") = false := by rw [List.contains_cons, hT, F.noName]; rfl
  refine codeAny_builtinAt F.entry ?_
  unfold Builtin.«BaseException.__new__»
  refine wpAt_bind ?_
  show wpAt _ _ _ (stack >>= _) _ _ _
  refine wpAt_bind (wpAt_stack fun p below => wpAt_of_wpAny ?_)
  wp_walk
  refine wpAt_of_wpAny ?_
  rw [F.owner]
  repeat (first | with_reducible refine wpAny_madeHere_exc F.canon hC ?_ | with_reducible refine wpAny_loadPart_at hC ?_ | (with_reducible refine wpAny_isSubtype_exc hC ?_; first | rw [hcB] | rw [hcA] | rw [hcN]) | wp_step)
  show R _ _
  rw [Heap.size_push]
  exact hq
theorem type_call_ownK (F : ExcBaseFacts B newId initId bmB) (hT : ∀ X : String, bm.contains (.type X) = bmB.contains (.type X)) {kw : List (Str × Value)} {fI : Addr} {Q : Fin → Shared → Prop}
    (hC : h.get? C = some (excClassObj nm q C N bs bm hdct sn sub ab col dd k0 k1 k2 k3 k5 newId))
    (hi : W.Looks (model prog w) h (typeLookup (.ref C) "__init__") (some (.ref fI))) (hb : ∀ self, W.Looks (model prog w) h (bindSpecial (.ref fI) self) (.ref fI, [self]))
    (hq : codeAny (model prog w) A (.call (.ref fI) ⟨[.ref (h.objs.size + 1)], kw⟩)
      (fun r s' => match r with | .ok (.ret v) => v = .none ∧ Q (.done (.ret (.ref (h.objs.size + 1)))) s' | .ok _ => False | .error e => E e s')
      ⟨(h.push (W.kdv_tup [])).push (excO C h.objs.size), g, d, t, os⟩) :
    wpAny (model prog w) A (Builtin.«type.__call__» ⟨[.ref C], kw⟩) Q E ⟨h, g, d, t, os⟩ := by
  repeat (first | with_reducible refine wpAny_loadPart_at hC ?_ | with_reducible refine wpAny_madeBy_exc hC ?_ | wp_step)
  refine codeAny_call_builtin_code (Code.quiet_builtin _ F.quiet) (check_new_ownK F hT hC ?_)
  refine new_ownK F hT hC ?_
  show wpAny _ _ _ _ _ _
  have k : ∀ b o, h.get? b = some o → ((h.push (W.kdv_tup [])).push (excO C h.objs.size)).get? b = some o := fun b o e => Heap.get?_push_of_some _ (Heap.get?_push_of_some _ e)
  have hC₁ := k _ _ hC
  have hget : ((h.push (W.kdv_tup [])).push (excO C h.objs.size)).get? (h.objs.size + 1) = some (excO C h.objs.size) := by heap_get
  have hcC : (Value.ref C :: bm).contains (.ref C) = true := by simp
  have i1 := hi.keeps k
  have b1 := (hb (.ref (h.objs.size + 1))).keeps k
  unfold isInstance
  repeat (first | with_reducible refine wpAny_loadPart_at hget ?_ | (with_reducible refine wpAny_isSubtype_exc hC₁ ?_; rw [hcC]) | wp_step)
  show wpAny _ _ (typeLookup (.ref C) _) _ _ _
  refine i1.at ?_
  refine wpAny_holding (wpAny_bind (b1.at ?_))
  refine wpAny_bind (wpAny_call (codeAny_mono hq fun r s' z => ?_))
  rcases r with e | (v | _ | _ | _) <;> first | exact z | exact z.elim | skip
  obtain ⟨rfl, z⟩ := z
  first
    | exact wpAny_pure (wpAny_pure z)
    | (wp_walk; exact z)
theorem call_ownK (F : ExcBaseFacts B newId initId bmB) (hT : ∀ X : String, bm.contains (.type X) = bmB.contains (.type X)) {kw : List (Str × Value)} {fI : Addr}
    (hC : h.get? C = some (excClassObj nm q C N bs bm hdct sn sub ab col dd k0 k1 k2 k3 k5 newId))
    (hi : W.Looks (model prog w) h (typeLookup (.ref C) "__init__") (some (.ref fI))) (hb : ∀ self, W.Looks (model prog w) h (bindSpecial (.ref fI) self) (.ref fI, [self]))
    (hq : codeAny (model prog w) (A.under (.builtin "type.__call__" ⟨[.ref C], kw⟩)) (.call (.ref fI) ⟨[.ref (h.objs.size + 1)], kw⟩) (W.InitBack (h.objs.size + 1) R)
      ⟨(h.push (W.kdv_tup [])).push (excO C h.objs.size), g, d, t, os⟩) :
    codeAny (model prog w) A (.call (.ref C) ⟨[], kw⟩) R ⟨h, g, d, t, os⟩ := by
  have f1 := tc_lookup
  have f2 := tc_bind (.ref C)
  have hTy : (⟨h, g, d, t, os⟩ : Shared).TypeIs (.ref C) "type" := ⟨_, hC, rfl⟩
  refine codeAny_of_tree ?_
  show wpAny _ _ (callAny (.ref C) _) _ _ _
  repeat (any_goals (first | assumption | with_reducible refine wpAny_loadPart_at hC ?_ | wp_step))
  refine ⟨rfl, ?_⟩
  refine codeAny_call_builtin_at (Code.quiet_builtin _ (by decide +kernel)) entry_typeCall (wpAny_check_type_call_sub hC (type_call_ownK F hT hC hi hb ?_))
  refine codeAny_mono hq fun r s' z => ?_
  rcases r with e | (v | _ | _ | _) <;> exact z
/-! the same road, whatever the __init__ is that the class finds (here the base's own) -/
theorem type_call_ownV (F : ExcBaseFacts B newId initId bmB) (hT : ∀ X : String, bm.contains (.type X) = bmB.contains (.type X)) {rest : List Value} {fI : Value} {Q : Fin → Shared → Prop}
    (hC : h.get? C = some (excClassObj nm q C N bs bm hdct sn sub ab col dd k0 k1 k2 k3 k5 newId))
    (hi : W.Looks (model prog w) h (typeLookup (.ref C) "__init__") (some fI)) (hb : ∀ self, W.Looks (model prog w) h (bindSpecial fI self) (fI, [self])) (hrest : rest.length ≤ sizeLine)
    (hq : codeAny (model prog w) A (.call fI ⟨.ref (h.objs.size + 1) :: rest, []⟩)
      (fun r s' => match r with | .ok (.ret v) => v = .none ∧ Q (.done (.ret (.ref (h.objs.size + 1)))) s' | .ok _ => False | .error e => E e s')
      ⟨(h.push (W.kdv_tup rest)).push (excO C h.objs.size), g, d, t, os⟩) :
    wpAny (model prog w) A (Builtin.«type.__call__» ⟨.ref C :: rest, []⟩) Q E ⟨h, g, d, t, os⟩ := by
  repeat (first | with_reducible refine wpAny_loadPart_at hC ?_ | with_reducible refine wpAny_madeBy_exc hC ?_ | wp_step)
  refine codeAny_call_builtin_code (Code.quiet_builtin _ F.quiet) (check_new_own F hT hC ?_)
  refine new_own F hT hC ?_ hrest
  show wpAny _ _ _ _ _ _
  have k : ∀ b o, h.get? b = some o → ((h.push (W.kdv_tup rest)).push (excO C h.objs.size)).get? b = some o := fun b o e => Heap.get?_push_of_some _ (Heap.get?_push_of_some _ e)
  have hC₁ := k _ _ hC
  have hget : ((h.push (W.kdv_tup rest)).push (excO C h.objs.size)).get? (h.objs.size + 1) = some (excO C h.objs.size) := by heap_get
  have hcC : (Value.ref C :: bm).contains (.ref C) = true := by simp
  have i1 := hi.keeps k
  have b1 := (hb (.ref (h.objs.size + 1))).keeps k
  unfold isInstance
  repeat (first | with_reducible refine wpAny_loadPart_at hget ?_ | (with_reducible refine wpAny_isSubtype_exc hC₁ ?_; rw [hcC]) | wp_step)
  show wpAny _ _ (typeLookup (.ref C) _) _ _ _
  refine i1.at ?_
  refine wpAny_holding (wpAny_bind (b1.at ?_))
  refine wpAny_bind (wpAny_call (codeAny_mono hq fun r s' z => ?_))
  rcases r with e | (v | _ | _ | _) <;> first | exact z | exact z.elim | skip
  obtain ⟨rfl, z⟩ := z
  first
    | exact wpAny_pure (wpAny_pure z)
    | (wp_walk; exact z)

theorem call_ownV (F : ExcBaseFacts B newId initId bmB) (hT : ∀ X : String, bm.contains (.type X) = bmB.contains (.type X)) {rest : List Value} {fI : Value}
    (hC : h.get? C = some (excClassObj nm q C N bs bm hdct sn sub ab col dd k0 k1 k2 k3 k5 newId))
    (hi : W.Looks (model prog w) h (typeLookup (.ref C) "__init__") (some fI)) (hb : ∀ self, W.Looks (model prog w) h (bindSpecial fI self) (fI, [self])) (hrest : rest.length ≤ sizeLine)
    (hq : codeAny (model prog w) (A.under (.builtin "type.__call__" ⟨.ref C :: rest, []⟩)) (.call fI ⟨.ref (h.objs.size + 1) :: rest, []⟩) (W.InitBack (h.objs.size + 1) R)
      ⟨(h.push (W.kdv_tup rest)).push (excO C h.objs.size), g, d, t, os⟩) :
    codeAny (model prog w) A (.call (.ref C) ⟨rest, []⟩) R ⟨h, g, d, t, os⟩ := by
  have f1 := tc_lookup
  have f2 := tc_bind (.ref C)
  have hTy : (⟨h, g, d, t, os⟩ : Shared).TypeIs (.ref C) "type" := ⟨_, hC, rfl⟩
  refine codeAny_of_tree ?_
  show wpAny _ _ (callAny (.ref C) _) _ _ _
  repeat (any_goals (first | assumption | with_reducible refine wpAny_loadPart_at hC ?_ | wp_step))
  refine ⟨rfl, ?_⟩
  refine codeAny_call_builtin_at (Code.quiet_builtin _ (by decide +kernel)) entry_typeCall (wpAny_check_type_call_sub hC (type_call_ownV F hT hC hi hb hrest ?_))
  refine codeAny_mono hq fun r s' z => ?_
  rcases r with e | (v | _ | _ | _) <;> exact z
end
end AbX
end PySem

set_option Elab.async false
set_option linter.all false
set_option maxRecDepth 100000
set_option maxHeartbeats 1000000
/-! Ab: own exceptions raised: C("..") and C(k = v, ..). -/
namespace Ab
open PySem PySem.Spec L2
/-! ### the __init__ of such a class -/
/-- what it promises: the fields lie behind one another -/
def spEx (C : Addr) (fs : List Nat) : Sp := fun vs H Q E => ∃ a ws, vs = .ref a :: ws ∧ ws.length = fs.length ∧ H a = some (exo a C none) ∧
  ∀ d H', H d = none → d ≠ a → H' a = some (exo a C (some d)) → H' d = some (exd d ((fs.map nm).zip ws).reverse) → (∀ b, b ≠ a → b ≠ d → H' b = H b) → Q .non H'
/-- the class of that number can be raised by C(k = v, ..) -/
def ExK (T : Wh) (C k : Nat) (fs : List Nat) : Prop := (∀ f ∈ fs, f < nmN) ∧ ∃ Ca fI fd ps, T.mg (nm C) = some (.ref Ca) ∧ OexC T.K Ca ∧ PySem.W.findIn T.K (.ref Ca) "__init__" = some (some (.ref fI)) ∧ PySem.W.typeIn T.K (.ref fI) = some (.type "function") ∧
  KBn T.K fd ps 1 (fs.map nm) (fun us ws => us ++ ws) (fun us ws => us ++ ws) ∧ FnOk T.P T.w T.K T.mg T.base (L2.CX T.P T.w) k fI fd ps (spEx Ca fs)
/-- .. by C("..") -/
def Ex0 (T : Wh) (C : Nat) : Prop := ∃ Ca, T.mg (nm C) = some (.ref Ca) ∧ OexC T.K Ca ∧ PySem.W.findIn T.K (.ref Ca) "__init__" = some (some (.builtin "ValueError.__init__"))
/-- RowError.__init__, read off the class -/
structure SupI (K : PySem.W.Frag) (mg : Str → Option Value) (R : Addr) : Prop where
  at_ : mg "RowError" = some (.ref R)
  rd : PySem.W.readsIn K R (.type "type") = true
  ga : PySem.W.specialIn K (.ref R) "__getattribute__" = some (some (.builtin "type.__getattribute__"))
  fd : PySem.W.findCls K (.ref R) (.type "type") "__init__" = some (.val (.builtin "ValueError.__init__"))
section
variable {X : Cx} {o e : Expr} {es : List Expr} {ta : TA} {p p1 p2 pos : Pos} {R : Addr}
theorem pe_rowinit {pl : Sem Bool} (hS : SupI X.K X.mg R) (ha : PA X (e :: es) ta) (hg : Gl X "RowError" := by rfl)
    (hc : eval (.Call (.Attribute (.Name "RowError" p1) "__init__" p2) (e :: es) [] pos) X.env = (do
      let ov ← eval (.Name "RowError" p1) X.env
      standAt p2.atName
      let (f, first) ← holding [ov] (getMethod ov "__init__" pl)
      callWith pos f first (backTo pos (starEach (e :: es) X.env)) (backToKw pos (keywordEach [] X.env))) := by rfl)
    (he : starEach (e :: es) X.env = (false, eval e X.env) :: starEach es X.env := by rfl) (hpl : (backTo pos (starEach es X.env)).any (·.1) = false := by rfl) :
    PE X (.Call (.Attribute (.Name "RowError" p1) "__init__" p2) (e :: es) [] pos) (tVeI X.K ta) := by
  refine ⟨fun pins s σ H Q I h => ?_⟩
  refine PySem.W.methodCall_KW (ld_glob I hg hS.at_ ?_ (by decide)) hc
  refine PySem.W.method_cls I.kIn hS.ga (PySem.W.cls_value I.kIn hS.rd hS.fd (by decide +kernel) ?_)
  show wpAny _ _ (callWith pos (Value.builtin "ValueError.__init__") [] (backTo pos (starEach (e :: es) X.env)) []) _ _ _
  refine PyProof.Rows.callWith_method1 (thn (ha.run pos pins _ σ H _ (I.tok _) h) fun us s1 ⟨vs, H1, I1, r1, a, C, ws, ev, hl, T, ea, q⟩ => ?_) he hpl
  subst ev
  cases r1 with
  | @cons _ u0 _ ur ra rw' =>
    obtain rfl : u0 = Value.ref a := ra
    have hlen : ur.length ≤ sizeLine := by
      rw [← Paired.length rw', sizeLine_eq]
      omega
    exact oinit_ok T I1 ea hlen fun s' J => ⟨.non, H1, J, rfl, q⟩
end
/-- the body of an __init__ with one field -/
theorem exinit1 {T : Wh} {qn : Str} {st : Stmt} {f1 : Nat} {fI : Addr} {fd : FuncData} {Ca R : Addr} {t : Str} {j : Nat} {p1 p2 p3 p4 p5 p6 p7 p8 p9 p10 : Pos} (F : Fun T.K "__init__" qn st fI fd) (S : FnScope ["self", nm f1] ["self", nm f1] (defScope st))
    (hS : SupI T.K T.mg R) (hO : OexC T.K Ca) (hno : PySem.W.findIn T.K (.ref Ca) (nm f1) = some none) (hgl : (defScope st).names.lookup ("RowError" : Str) = some NameKind.globalImplicit) (hne : (nm f1 == ("__debug__" : Str)) = false) (hcd : (nm f1 == ("__classdict__" : Str)) = false)
    (hb : defBody st = [.Expr (.Call (.Attribute (.Name "RowError" p1) "__init__" p2) [.Name "self" p3, .Constant (.str t) j p4] [] p5) p6, .Assign [.Attribute (.Name "self" p7) (nm f1) p8] (.Name (nm f1) p9) p10])
    (hc : ∀ env : Env, ∃ pl : Sem Bool, eval (.Call (.Attribute (.Name "RowError" p1) "__init__" p2) [.Name "self" p3, .Constant (.str t) j p4] [] p5) env = (do
      let ov ← eval (.Name "RowError" p1) env
      standAt p2.atName
      let (f, first) ← holding [ov] (getMethod ov "__init__" pl)
      callWith p5 f first (backTo p5 (starEach [.Name "self" p3, .Constant (.str t) j p4] env)) (backToKw p5 (keywordEach [] env)))) :
    FnOk T.P T.w T.K T.mg T.base (L2.CX T.P T.w) 1 fI fd ["self", nm f1] (spEx Ca [f1]) := by
  refine F.okX S (fun vs H Q E ⟨a, ws, e, hl, _⟩ => ?_) (fun cdv A outer s H vs Q E hr hsp => ?_)
  · subst e
    simp only [List.length_cons, hl, List.length_nil]
  · obtain ⟨a, ws, e, hl, ha, q⟩ := hsp
    subst e
    obtain ⟨w1, rfl⟩ : ∃ w, ws = [w] := by
      match ws, hl with
      | [w], _ => exact ⟨w, rfl⟩
    rw [hb]
    obtain ⟨pl, hpl⟩ := hc (cxOf (L2.CX T.P T.w) T.P T.w T.K T.mg T.base _ qn (defScope st) fI cdv A outer s H E).env
    have vis : ∀ x ∈ (["self", nm f1] : List Str), Vis (defScope st) x := fun x hx => (S.par x hx).elim .inl fun z => .inr (.inl z)
    refine ⟨_, pss_cons (ps_expr (pe_rowinit (R := R) hS (pa_cons (pe_var (i := 0) (x := "self") rfl (vis "self" List.mem_cons_self)) (pa_cons pe_str pa_nil)) hgl hpl)) (pss_one (ps_ost (pe_var (i := 0) (x := "self") rfl (vis "self" List.mem_cons_self)) (pe_var (i := 1) rfl (vis (nm f1) (List.mem_cons_of_mem _ List.mem_cons_self)) hne hcd))), ?_⟩
    refine ⟨_, rfl, a, Ca, [V.str t], rfl, by simp, hO, ha, ?_⟩
    refine ⟨w1, rfl, .ref a, rfl, a, Ca, rfl, hO, hno, .inl ⟨ha, fun dx hd hda => ?_⟩⟩
    exact q dx _ hd hda upd_same (by rw [upd_ne hda, upd_same]; rfl) fun b h1 h2 => by rw [upd_ne h1, upd_ne h2]
/-- .. with two fields -/
theorem exinit2 {T : Wh} {qn : Str} {st : Stmt} {f1 f2 : Nat} {fI : Addr} {fd : FuncData} {Ca R : Addr} {t : Str} {j : Nat} {p1 p2 p3 p4 p5 p6 p7 p8 p9 p10 q7 q8 q9 q10 : Pos} (F : Fun T.K "__init__" qn st fI fd) (S : FnScope ["self", nm f1, nm f2] ["self", nm f1, nm f2] (defScope st))
    (hS : SupI T.K T.mg R) (hO : OexC T.K Ca) (hno : PySem.W.findIn T.K (.ref Ca) (nm f1) = some none) (hno2 : PySem.W.findIn T.K (.ref Ca) (nm f2) = some none) (hgl : (defScope st).names.lookup ("RowError" : Str) = some NameKind.globalImplicit) (hne : (nm f1 == ("__debug__" : Str)) = false) (hcd : (nm f1 == ("__classdict__" : Str)) = false)
    (hne2 : (nm f2 == ("__debug__" : Str)) = false) (hcd2 : (nm f2 == ("__classdict__" : Str)) = false)
    (hb : defBody st = [.Expr (.Call (.Attribute (.Name "RowError" p1) "__init__" p2) [.Name "self" p3, .Constant (.str t) j p4] [] p5) p6, .Assign [.Attribute (.Name "self" p7) (nm f1) p8] (.Name (nm f1) p9) p10, .Assign [.Attribute (.Name "self" q7) (nm f2) q8] (.Name (nm f2) q9) q10])
    (hc : ∀ env : Env, ∃ pl : Sem Bool, eval (.Call (.Attribute (.Name "RowError" p1) "__init__" p2) [.Name "self" p3, .Constant (.str t) j p4] [] p5) env = (do
      let ov ← eval (.Name "RowError" p1) env
      standAt p2.atName
      let (f, first) ← holding [ov] (getMethod ov "__init__" pl)
      callWith p5 f first (backTo p5 (starEach [.Name "self" p3, .Constant (.str t) j p4] env)) (backToKw p5 (keywordEach [] env)))) :
    FnOk T.P T.w T.K T.mg T.base (L2.CX T.P T.w) 1 fI fd ["self", nm f1, nm f2] (spEx Ca [f1, f2]) := by
  refine F.okX S (fun vs H Q E ⟨a, ws, e, hl, _⟩ => ?_) (fun cdv A outer s H vs Q E hr hsp => ?_)
  · subst e
    simp only [List.length_cons, hl, List.length_nil]
  · obtain ⟨a, ws, e, hl, ha, q⟩ := hsp
    subst e
    obtain ⟨w1, w2, rfl⟩ : ∃ w1 w2, ws = [w1, w2] := by
      match ws, hl with
      | [w1, w2], _ => exact ⟨w1, w2, rfl⟩
    rw [hb]
    obtain ⟨pl, hpl⟩ := hc (cxOf (L2.CX T.P T.w) T.P T.w T.K T.mg T.base _ qn (defScope st) fI cdv A outer s H E).env
    have vis : ∀ x ∈ (["self", nm f1, nm f2] : List Str), Vis (defScope st) x := fun x hx => (S.par x hx).elim .inl fun z => .inr (.inl z)
    refine ⟨_, pss_cons (ps_expr (pe_rowinit (R := R) hS (pa_cons (pe_var (i := 0) (x := "self") rfl (vis "self" List.mem_cons_self)) (pa_cons pe_str pa_nil)) hgl hpl)) (pss_cons (ps_ost (pe_var (i := 0) (x := "self") rfl (vis "self" List.mem_cons_self)) (pe_var (i := 1) rfl (vis (nm f1) (List.mem_cons_of_mem _ List.mem_cons_self)) hne hcd))
      (pss_one (ps_ost (pe_var (i := 0) (x := "self") rfl (vis "self" List.mem_cons_self)) (pe_var (i := 2) rfl (vis (nm f2) (List.mem_cons_of_mem _ (List.mem_cons_of_mem _ List.mem_cons_self))) hne2 hcd2)))), ?_⟩
    refine ⟨_, rfl, a, Ca, [V.str t], rfl, by simp, hO, ha, ?_⟩
    refine ⟨w1, rfl, .ref a, rfl, a, Ca, rfl, hO, hno, .inl ⟨ha, fun dx hd hda => ?_⟩⟩
    refine ⟨w2, rfl, .ref a, rfl, a, Ca, rfl, hO, hno2, .inr ⟨dx, [(nm f1, w1)], upd_same, (by rw [upd_ne hda, upd_same]), by simp, ?_⟩⟩
    exact q dx _ hd hda (by rw [upd_ne (Ne.symm hda), upd_same]) (by rw [upd_same]; rfl) fun b h1 h2 => by rw [upd_ne h2, upd_ne h1, upd_ne h2]

/-! ### the raise -/
/-- keywords -/
def JK (X : Cx) (ks : List Keyword) (m : MA) : Prop := ∀ W, Takes X W → PK X ks (rdG X.K X.mg (relL X.mg) W m)
section
variable {X : Cx} {e : Expr} {kws : List Keyword} {me : ME} {mk : MA} {nmk : Option Str} {kpos p pos pos' : Pos} {C k : Nat} {fs : List Nat} {x : Str}
theorem PK.weak {t t' : TA} (h : PK X kws t) (w : ∀ σ H Q, t' σ H Q → t σ H Q) : PK X kws t' := ⟨fun pos pins s σ H Q I q => h.run pos pins s σ H Q I (w σ H Q q)⟩
theorem jk_nil : JK X [] aNil := fun W tk => PK.weak pk_nil fun σ H Q ⟨ι, ρ, st, S, sl, p⟩ => p.okSame S .nil
theorem jk_cons (ha : JE X e me) (hr : JK X kws mk) : JK X (⟨nmk, e, kpos⟩ :: kws) (aCons me mk) := fun W tk => by
  refine PK.weak (pk_cons (ha W tk) (hr W tk)) fun σ H Q ⟨ι, ρ, st, S, sl, p⟩ => ?_
  refine ⟨ι, ρ, st, S, sl, Post.bind p fun w st1 ι1 H1 x l1 S1 r1 p1 => ?_⟩
  refine ⟨ι1, ρ, st1, S1, sl.later l1, Post.bind p1 fun ws st2 ι2 H2 xs l2 S2 r2 p2 => ?_⟩
  exact p2.okSame S2 (.cons (r1.later l2) r2)
/-- raise C(k = v, ..) -/
@[reducible] def sRaise (C : Nat) (fs : List Nat) (m : MA) : MS := fun ρ st => (m ρ st).toO ρ fun ws st1 => if ws.length = fs.length then .exc ⟨C, (fs.zip ws).reverse⟩ ρ st1 else .bad
/-- the keywords' values, then the exception (raising is the only way on) -/
def tMkK (C : Addr) (fs : List Nat) (ta : TA) : L2.St → Hp → XK → Prop := fun σ H Q => ta σ H fun vs H1 => vs.length = fs.length ∧ ∀ d, H1 d = none → Q (.ref C) (some d) (upd H1 d (.xd ((fs.map nm).zip vs).reverse))
theorem repF_zip {mg : Str → Option Value} {ι : List Addr} {H : Hp} : ∀ {fs : List Nat} {ws : List Val} {vs : List V}, (∀ f ∈ fs, f < nmN) → Reps mg ι H ws vs → RepF mg ι H (fs.zip ws) ((fs.map nm).zip vs)
  | [], _, _, _, _ => by rw [List.zip_nil_left, List.map_nil, List.zip_nil_left]; exact .nil
  | f :: fs, [], _, _, r => by rw [r.of_nil, List.zip_nil_right, List.zip_nil_right]; exact .nil
  | f :: fs, w :: ws, _, hf, r => by
    obtain ⟨v, r', e, h1, h2⟩ := r.of_cons
    subst e
    exact .cons ⟨hf f List.mem_cons_self, rfl, h1⟩ (repF_zip (fun g hg => hf g (List.mem_cons_of_mem _ hg)) h2)
theorem paired_snoc {α β : Type} {R : α → β → Prop} {a : α} {b : β} (h : R a b) : ∀ {xs : List α} {ys : List β}, Paired R xs ys → Paired R (xs ++ [a]) (ys ++ [b])
  | _, _, .nil => .cons h .nil
  | _, _, .cons q t => .cons q (paired_snoc h t)
theorem paired_rev {α β : Type} {R : α → β → Prop} : ∀ {xs : List α} {ys : List β}, Paired R xs ys → Paired R xs.reverse ys.reverse
  | _, _, .nil => .nil
  | _, _, .cons q t => by
    rw [List.reverse_cons, List.reverse_cons]
    exact paired_snoc q (paired_rev t)
theorem pmk_kw {t : TA} (h : ExK (Cx.wh X) C k fs) (hx : x = nm C) (hr : Room (k + 1) X.A) (ha : PK X kws t) (hg : Gl X x)
    (hall : (backToKw pos (keywordEach kws X.env)).all (·.1.isSome) = true) (hks : (backToKw pos (keywordEach kws X.env)).filterMap (·.1) = fs.map nm) (hdb : (x == ("__debug__" : Str)) = false)
    (hpl : ((backTo pos (starEach [] X.env)).any (·.1) || (backToKw pos (keywordEach kws X.env)).any (·.1.isNone)) = false) :
    ∃ Ca, X.mg (nm C) = some (.ref Ca) ∧ PMk X (.Call (.Name x p) [] kws pos) (tMkK Ca fs t) := by
  obtain ⟨_, Ca, fI, fd, ps, hC, T, iC, tI, hb, F1⟩ := h
  refine ⟨Ca, hC, ?_⟩
  intro pins s σ H Q I h
  obtain ⟨nm', q, N, bs, bm, sn, sub, ab, col, dd, k0, k1, k2, k3, k5, hCo, hbm⟩ := T.cls
  refine wpAny_Call_Name_kw (ld_glob I hg (by rw [hx]; exact hC) ?_ hdb)
  refine PySem.W.callWith_KW0 (h₀ := X.base) I.ok.mod.kin T.kC hall (thn (ha.run pos pins s σ H _ I h) fun us s1 ⟨vs, H1, I1, r1, hz, q1⟩ => ⟨I1.kIn, ?_⟩) hpl
  rw [hks]
  show wpAny _ _ (call (.ref Ca) [] ((fs.map nm).zip us)) _ _ _
  obtain ⟨hp, g, dr, tk, os⟩ := s1
  have hsz : hp.objs.size ≤ hp.objs.size + 1 := Nat.le_succ _
  have hn : H1 (hp.objs.size + 1) = none := I1.hok.fresh hsz
  have kk : ∀ b o, hp.get? b = some o → ((hp.push (PySem.W.kdv_tup [])).push (PySem.HandSPX.excO Ca hp.objs.size)).get? b = some o := fun b o e => Heap.get?_push_of_some _ (Heap.get?_push_of_some _ e)
  have hget : ((hp.push (PySem.W.kdv_tup [])).push (PySem.HandSPX.excO Ca hp.objs.size)).get? (hp.objs.size + 1) = some (PySem.HandSPX.excO Ca hp.objs.size) := by heap_get
  have I2 : Inv X pins σ (upd H1 (hp.objs.size + 1) (exo (hp.objs.size + 1) Ca none)) ⟨(hp.push (PySem.W.kdv_tup [])).push (PySem.HandSPX.excO Ca hp.objs.size), g, dr, tk, os⟩ :=
    I1.laid (t' := tk) (a := hp.objs.size + 1) (o := exo (hp.objs.size + 1) Ca none) (h' := (hp.push (PySem.W.kdv_tup [])).push (PySem.HandSPX.excO Ca hp.objs.size)) kk hsz (exo_ok hget)
  have r2 : Vals (V.ref (hp.objs.size + 1) :: vs) (Value.ref (hp.objs.size + 1) :: us) := .cons rfl r1
  have hspx : spEx Ca fs (V.ref (hp.objs.size + 1) :: vs) (upd H1 (hp.objs.size + 1) (exo (hp.objs.size + 1) Ca none))
      (fun v H2 => v = .non ∧ ∃ (d : Addr), H2 (hp.objs.size + 1) = some (exo (hp.objs.size + 1) Ca (some d)) ∧ H2 d = some (exd d ((fs.map nm).zip vs).reverse) ∧ H1 d = none ∧ Q (.ref Ca) (some d) (upd (del H2 (hp.objs.size + 1)) d (.xd ((fs.map nm).zip vs).reverse))) (fun _ _ _ => False) := by
    refine ⟨hp.objs.size + 1, vs, rfl, hz, upd_same, fun d H' hd hda e1 e2 e3 => ⟨rfl, d, e1, e2, ?_, ?_⟩⟩
    · rw [upd_ne hda] at hd
      exact hd
    · rw [upd_ne hda] at hd
      have eq : upd (del H' (hp.objs.size + 1)) d (.xd ((fs.map nm).zip vs).reverse) = upd H1 d (.xd ((fs.map nm).zip vs).reverse) := by
        funext b
        by_cases h1 : b = d
        · rw [h1, upd_same, upd_same]
        · rw [upd_ne h1, upd_ne h1]
          by_cases h2 : b = hp.objs.size + 1
          · rw [h2, del_same, hn]
          · rw [del_ne h2, e3 b h2 h1, upd_ne h2]
      rw [eq]
      exact q1 d hd
  have hbt := hb.to ⟨(hp.push (PySem.W.kdv_tup [])).push (PySem.HandSPX.excO Ca hp.objs.size), g, dr, tk, os⟩ [Value.ref (hp.objs.size + 1)] us I2.kIn rfl (by rw [List.length_map, ← hz, r1.length])
  refine wpAny_call (PySem.AbX.call_ownK F.excBase_ValueError (fun Y => PySem.HandSPX.refsVE_contains Y bm hbm) (I1.kIn _ _ hCo) (PySem.W.looks_findIn I1.kIn iC) (fun self => PySem.W.bind_fn I1.kIn self tI)
    (codeAny_mono (F1.run _ X.stack _ _ ⟨[Value.ref (hp.objs.size + 1)], (fs.map nm).zip us⟩ (Value.ref (hp.objs.size + 1) :: us) _ _ (fun _ _ _ => False) (hr.make Ca [] ((fs.map nm).zip us)) (I2.env0.make Ca [] ((fs.map nm).zip us)) hbt r2 hspx) fun r s' hq' => ?_))
  cases r with
  | error er => exact passL pins σ _ _ er s' I2 hq'
  | ok fl =>
    cases fl with
    | ret u =>
      obtain ⟨v, H2, os2, bare2, un2, hok2, rv, ev, d, ea, ed, hd1, q2⟩ := hq'
      subst ev
      obtain ⟨h2, g2, d2, t2, os'⟩ := s'
      exact ⟨rv, mk_end (raises_own T.exC T.tyC) I1 hsz kk un2 hok2 os2 bare2 ea ed hd1 q2⟩
    | next => exact False.elim hq'
    | brk => exact False.elim hq'
    | cont => exact False.elim hq'
theorem js_raise (h : ExK (Cx.wh X) C k fs) (hc : X.calm = true) (hr : Room (k + 1) X.A) (ha : JK X kws mk) (hx : x = nm C := by decide +kernel) (hg : Gl X x := by rfl)
    (hall : (backToKw pos (keywordEach kws X.env)).all (·.1.isSome) = true := by rfl) (hks : (backToKw pos (keywordEach kws X.env)).filterMap (·.1) = fs.map nm := by rfl) (hdb : (x == ("__debug__" : Str)) = false := by decide)
    (hpl : ((backTo pos (starEach [] X.env)).any (·.1) || (backToKw pos (keywordEach kws X.env)).any (·.1.isNone)) = false := by rfl) :
    JS X (.Raise (some (.Call (.Name x p) [] kws pos)) none pos') (sRaise C fs mk) := fun W tk => by
  obtain ⟨Ca, hC, pm⟩ := pmk_kw (p := p) h hx hr (ha W tk) hg hall hks hdb hpl
  refine PS.weak (ps_raise hc tk pm) fun D σ H ⟨ι, ρ, st, S, sl, p⟩ => ?_
  refine ⟨ι, ρ, st, S, sl, PostO.bind p sl fun ws st1 ι1 H1 vs l1 S1 r1 p1 => ?_⟩
  split at p1
  · rename_i hl
    refine ⟨by rw [← r1.length, hl], fun d hd => ?_⟩
    have hs := same_new (o := .xd ((fs.map nm).zip vs).reverse) hd
    refine p1 ι1 _ σ _ _ (Same.laterH hs) (S1.same hs) ((sl.later l1).later (Same.laterH hs)) ⟨Ca, hC, rfl, .inr ⟨d, _, rfl, upd_same, ?_⟩⟩
    exact paired_rev (repF_zip h.1 (r1.later (Same.laterH hs)))
  · exact p1.elim
/-- raise C("..") -/
@[reducible] def sRaise0 (C : Nat) : MS := fun ρ st => .exc ⟨C, []⟩ ρ st
theorem pmk_one {m : Str} {j : Nat} {p2 : Pos} {Ca : Addr} (T : OexC X.K Ca) (iC : PySem.W.findIn X.K (.ref Ca) "__init__" = some (some (.builtin "ValueError.__init__"))) (hg : Gl X x) (hm : X.mg x = some (.ref Ca)) (hdb : (x == ("__debug__" : Str)) = false) :
    PMk X (.Call (.Name x p) [.Constant (.str m) j p2] [] pos) (fun _ H Q => Q (.ref Ca) none H) := by
  intro pins s σ H Q I h
  obtain ⟨nm', q, N, bs, bm, sn, sub, ab, col, dd, k0, k1, k2, k3, k5, hCo, hbm⟩ := T.cls
  refine wpAny_Call_Name_kw (ld_glob I hg hm ?_ hdb)
  have ha : PA X [.Constant (.str m) j p2] (tCons (tC (.str m)) tNil) := pa_cons pe_str pa_nil
  refine PySem.W.callWith_K (h₀ := X.base) I.ok.mod.kin T.kC (thn (ha.run pos pins s σ H (fun vs H1 => vs = [V.str m] ∧ H = H1) I ⟨rfl, rfl⟩) fun us s1 hh => ?_) (by rfl) (by rfl)
  obtain ⟨vs, H1, I1, r1, ev, eH⟩ := hh
  subst ev
  subst eH
  refine ⟨I1.kIn, ?_⟩
  show wpAny _ _ (call (.ref Ca) us) _ _ _
  obtain ⟨hp, g, dr, tk, os⟩ := s1
  have kk : ∀ b o, hp.get? b = some o → ((hp.push (PySem.W.kdv_tup us)).push (PySem.HandSPX.excO Ca hp.objs.size)).get? b = some o := fun b o e => Heap.get?_push_of_some _ (Heap.get?_push_of_some _ e)
  have hget : ((hp.push (PySem.W.kdv_tup us)).push (PySem.HandSPX.excO Ca hp.objs.size)).get? (hp.objs.size + 1) = some (PySem.HandSPX.excO Ca hp.objs.size) := by heap_get
  have hus : us.length ≤ sizeLine := by
    rw [← Paired.length r1, sizeLine_eq]
    simp
  refine wpAny_call (PySem.AbX.call_ownV F.excBase_ValueError (fun Y => PySem.HandSPX.refsVE_contains Y bm hbm) (I1.kIn _ _ hCo) (PySem.W.looks_findIn I1.kIn iC) (fun self => PySem.W.Looks.of_pure (F.excBase_ValueError.init.bind self)) hus
    (PySem.HandSPX.init_base F.excBase_ValueError (fun Y => PySem.HandSPX.refsVE_contains Y bm hbm) (kk _ _ (I1.kIn _ _ hCo)) hget hus fun h' t1 k hx => ?_))
  refine ⟨rfl, ?_⟩
  refine ⟨hp.objs.size + 1, _, _, ⟨hp, g, dr, tk, os⟩, H, .ref Ca, none, rfl, I1, fun b o e => k b o (Nat.ne_of_lt (Nat.lt_succ_of_lt (Heap.lt_size e))) (kk b o e), ?_, hx, ⟨rfl, rfl⟩, rfl, rfl, I1.hok.fresh (Nat.le_succ _), rfl, I1.bare, raises_own T.exC T.tyC, h⟩
  cases e : hp.get? (hp.objs.size + 1) with
  | none => rfl
  | some o => exact absurd (Heap.lt_size e) (Nat.not_lt.mpr (Nat.le_succ _))
theorem js_raise0 {m : Str} {j : Nat} {p2 : Pos} (h : Ex0 (Cx.wh X) C) (hc : X.calm = true) (hx : x = nm C := by decide +kernel) (hg : Gl X x := by rfl) (hdb : (x == ("__debug__" : Str)) = false := by decide) :
    JS X (.Raise (some (.Call (.Name x p) [.Constant (.str m) j p2] [] pos)) none pos') (sRaise0 C) := fun W tk => by
  obtain ⟨Ca, hC, T, iC⟩ := h
  refine PS.weak (ps_raise hc tk (pmk_one T iC hg (by rw [hx]; exact hC) hdb)) fun D σ H ⟨ι, ρ, st, S, sl, p⟩ => ?_
  exact p ι H σ _ _ (Later.refl _ _) S sl ⟨Ca, hC, rfl, .inl ⟨rfl, rfl⟩⟩
end
end Ab

set_option Elab.async false
set_option linter.all false
set_option maxRecDepth 100000
set_option maxHeartbeats 1000000
/-! Ab: list.count, isinstance, what an except suite reads of its exception. -/
namespace Ab
open PySem PySem.Spec PyProof.Rows L2
/-! ### list.count -/
def countW (y : Val) : List Val → Nat
  | [] => 0
  | x :: r => countW y r + (if eqW x y then 1 else 0)
@[reducible] def vCount : Val → List Val → Store → R Val
  | .ref n, [y], st => match seqAt st n with
    | some xs => if flatW y && xs.all flatW then .ok (.int (countW y xs : Nat)) st else .bad
    | none => .bad
  | _, _, _ => .bad
section
variable {X : Cx}
theorem countW_U {mg : Str → Option Value} {ι : List Addr} {H : Hp} {y : Val} {yv : V} (ry : Rep mg ι H y yv) (hy : flatW y = true) : ∀ {ws : List Val} {vs : List V} {us : List Value}, Reps mg ι H ws vs → Vals vs us → ws.all flatW = true → us.countP (eqU yv) = countW y ws
  | [], _, us, r, rv, _ => by rw [r.of_nil] at rv; cases rv; rfl
  | w :: ws, _, us, r, rv, hf => by
    obtain ⟨v, r', e, h1, h2⟩ := r.of_cons
    subst e
    cases rv with
    | cons q t =>
      rw [List.all_cons, Bool.and_eq_true] at hf
      rw [List.countP_cons, countW_U ry hy h2 t hf.2]
      rw [eqU_of q (flatW_rep h1 hf.1).1, (flatW_rep ry hy).2 h1 hf.1]
      rfl
theorem mt_count' : MtR X "list.count" (rM X.K X.mg vCount) := by
  rintro pins s σ H x xs v us Q I rx rs ⟨ι, st, w, ws, S, r1, r2, p⟩
  unfold vCount at p
  split at p
  · rename_i n y
    obtain ⟨a, e, ha⟩ := r1.ref_inv
    obtain ⟨z, e2, hz⟩ := r2.one
    subst e e2
    split at p
    · rename_i ys es
      obtain ⟨vs, hl, rr⟩ := S.seqL es ha
      split at p
      · rename_i hf
        rw [Bool.and_eq_true] at hf
        cases rx
        obtain ⟨u, rfl, ru⟩ := rs.one
        obtain ⟨its, rv, ⟨⟨cls, dd, data, sl⟩, m, ho, hc, hdn, hd⟩, hlen⟩ := I.list hl
        simp only at hc hd
        subst hc hd
        refine call_meets PySem.F.slot_list_count ⟨_, ho, rfl⟩ PySem.F.entry_list_count (PySem.F.args_list_count_2 _ _)
          (SeqAt.list_countAt a its.toArray m dd sl u (eqU z)) ⟨ho, fun u' hu' => mem_eqAt ru (flatW_rep hz hf.1).1 rv (flats' rr hf.2) u' (by simpa using hu'), ?_⟩
        have ec : its.toArray.toList.countP (eqU z) = countW y ys := countW_U hz hf.1 rr rv hf.2
        refine ⟨.int (countW y ys : Nat), H, I.tok _, ⟨s.toks, ?_⟩, p.okSame S Rep.int⟩
        show Value.int ((its.toArray.toList.countP (eqU z) : Nat) : Int) s.toks = Value.int ((countW y ys : Nat) : Int) s.toks
        rw [ec]
      · exact p.elim
    · exact p.elim
  · exact p.elim
theorem quiet_count (x : Val) (xs : List Val) (st : Store) : Quiet (vCount x xs st) := by
  intro e s' h
  unfold vCount at h
  split at h
  · split at h
    · split at h <;> cases h
    · cases h
  · cases h
theorem je_count {o e : Expr} {mo me : ME} {apos cpos : Pos} (ho : JE X o mo) (he : JE X e me) (hs : starEach [e] X.env = (false, eval e X.env) :: starEach [] X.env := by rfl) (hbase : attributeBase o "count" X.env (eval o X.env) = eval o X.env := by rfl)
    (hfew : ((backTo cpos (starEach [e] X.env)).all (fun x => !x.1) && (backToKw cpos (keywordEach [] X.env)).all (fun x => x.1.isSome)
      && decide ([e].length + ([] : List Keyword).length + (if ([] : List Keyword).isEmpty then 0 else 1) < 30)) = true := by rfl) (hline : (apos.endLine == cpos.line) = true := by rfl) : JE X (.Call (.Attribute o "count" apos) [e] [] cpos) (mBM "list" vCount mo (aCons me aNil)) :=
  je_bm PySem.F.plainAttrs_list PySem.F.slot_list_count PySem.F.type_list_count mt_count' quiet_count ho (ja_cons he ja_nil hs) hbase hfew hline hs rfl
end
/-! ### isinstance of a value: built-in types -/
inductive Ty6 where
  | int | bool | str | list | tuple | dict
  deriving DecidableEq
@[reducible] def Ty6.nm : Ty6 → String
  | .int => "int" | .bool => "bool" | .str => "str" | .list => "list" | .tuple => "tuple" | .dict => "dict"
inductive Kd where
  | non | t (x : Ty6)
@[reducible] def Kd.nm : Kd → String
  | .non => "NoneType" | .t x => x.nm
@[reducible] def kindW (st : Store) : Val → Option Kd
  | .non => some .non
  | .bl _ => some (.t .bool)
  | .int _ => some (.t .int)
  | .str _ => some (.t .str)
  | .tup _ => some (.t .tuple)
  | .ref n => match st[n]? with
    | some (.lst _) => some (.t .list)
    | some (.frz _) => some (.t .list)
    | some (.dct _) => some (.t .dict)
    | _ => none
  | _ => none
@[reducible] def isT : Kd → Ty6 → Bool
  | .non, _ => false
  | .t .bool, .int => true
  | .t x, y => decide (x = y)
theorem kit6 {K : PySem.W.Frag} (k : Kd) (y : Ty6) : PySem.W.kitOne K (.type k.nm) (.type y.nm) = some (isT k y) := by
  refine kit_ty ?_
  cases k with
  | non => cases y <;> decide +kernel
  | t x => cases x <;> cases y <;> decide +kernel
theorem kindW_ty {K : PySem.W.Frag} {mg : Str → Option Value} {ι : List Addr} {st : Store} {H : Hp} (S : Sim K mg ι st H) {w : Val} {v : V} {k : Kd} (h : kindW st w = some k) (r : Rep mg ι H w v) : TyX K H v (.type k.nm) := by
  cases w with
  | non => cases h; rw [r.non_inv]; exact .base .non
  | bl b => cases h; rw [r.bl_inv]; exact .base (.bl b)
  | int i => cases h; rw [r.int_inv]; exact .base (.int i)
  | str i => cases h; rw [r.str_inv]; exact .base (.str i)
  | tup xs => cases h; obtain ⟨a, vs, e, ha, _⟩ := r.tup_inv; rw [e]; exact .base (.tup ha)
  | ref n =>
    obtain ⟨a, e, ha⟩ := r.ref_inv
    rw [e]
    dsimp only [kindW] at h
    split at h
    · rename_i xs q; cases h; obtain ⟨vs, e1, _⟩ := S.at q ha; exact .base (.lst e1)
    · rename_i xs q
      cases h
      obtain ⟨vs, e1, _⟩ := S.at q ha
      rcases e1 with ⟨o, e1⟩ | ⟨o, its, m, e1, e2, _⟩
      · exact .base (.frz e1)
      · exact .kList e1 e2
    · rename_i xs q; cases h; obtain ⟨vs, e1, _⟩ := S.at q ha; exact .base (.dK e1)
    · cases h
  | _ => cases h
/-- isinstance(e, ..) -/
@[reducible] def mIsi (ts : List Ty6) (m : ME) : ME := fun ρ st => (m ρ st).bind fun w st1 => match kindW st1 w with
  | some k => .ok (.bl (ts.any (isT k))) st1
  | none => .bad
section
variable {X : Cx} {e : Expr} {m : ME} {p p2 p3 p4 pos : Pos} {t1 t2 : Ty6} {x1 x2 : Str}
theorem je_isi (h0 : X.mg "isinstance" = none) (h1 : X.mg x1 = none) (he : JE X e m) (t1 : Ty6) (hv1 : bootBuiltins x1 = some (.type t1.nm)) (g0 : Gl X "isinstance" := by rfl) (g1 : Gl X x1 := by rfl) (hn : x1 ≠ "__name__" := by decide) (hd : (x1 == ("__debug__" : Str)) = false := by decide)
    (hs : starEach [e, .Name x1 p2] X.env = (false, eval e X.env) :: starEach [.Name x1 p2] X.env := by rfl) (hpl : (backTo pos (starEach [.Name x1 p2] X.env)).any (·.1) = false := by rfl) :
    JE X (.Call (.Name "isinstance" p) [e, .Name x1 p2] [] pos) (mIsi [t1] m) := fun W tk => by
  refine PE.weak (pe_callB call_isi g0 h0 Boot.isinstance (pa_cons (he W tk) (pa_cons (pe_bltn (v := .ty t1.nm) g1 h1 hv1 rfl hn hd) pa_nil) hs) (by decide) (by decide) hs hpl) fun σ H Q ⟨ι, ρ, st, S, sl, q⟩ => ?_
  refine ⟨ι, ρ, st, S, sl, Post.bind q fun w st1 ι1 H1 v l1 S1 r1 q1 => ?_⟩
  split at q1
  · rename_i k hk
    refine ⟨v, .ty t1.nm, .type k.nm, .type t1.nm, isT k t1, rfl, .ty _, kindW_ty S1 hk r1, kit6 k t1, ?_⟩
    have e1 : [t1].any (isT k) = isT k t1 := by simp
    rw [e1] at q1
    exact q1.okSame S1 Rep.bl
  · exact q1.elim
theorem je_isi2 {j : Nat} (h0 : X.mg "isinstance" = none) (h1 : X.mg x1 = none) (h2 : X.mg x2 = none) (he : JE X e m) (t1 t2 : Ty6) (hv1 : bootBuiltins x1 = some (.type t1.nm)) (hv2 : bootBuiltins x2 = some (.type t2.nm)) (g0 : Gl X "isinstance" := by rfl) (g1 : Gl X x1 := by rfl) (g2 : Gl X x2 := by rfl)
    (hn : x1 ≠ "__name__" := by decide) (hd : (x1 == ("__debug__" : Str)) = false := by decide) (hn2 : x2 ≠ "__name__" := by decide) (hd2 : (x2 == ("__debug__" : Str)) = false := by decide)
    (hs : starEach [e, .Tuple [.Name x1 p2, .Name x2 p3] j p4] X.env = (false, eval e X.env) :: starEach [.Tuple [.Name x1 p2, .Name x2 p3] j p4] X.env := by rfl) (hpl : (backTo pos (starEach [.Tuple [.Name x1 p2, .Name x2 p3] j p4] X.env)).any (·.1) = false := by rfl) :
    JE X (.Call (.Name "isinstance" p) [e, .Tuple [.Name x1 p2, .Name x2 p3] j p4] [] pos) (mIsi [t1, t2] m) := fun W tk => by
  refine PE.weak (pe_callB call_isiT g0 h0 Boot.isinstance (pa_cons (he W tk) (pa_cons (pe_tup (pa_cons (pe_bltn (v := .ty t1.nm) g1 h1 hv1 rfl hn hd) (pa_cons (pe_bltn (v := .ty t2.nm) g2 h2 hv2 rfl hn2 hd2) pa_nil))) pa_nil) hs) (by decide) (by decide) hs hpl) fun σ H Q ⟨ι, ρ, st, S, sl, q⟩ => ?_
  refine ⟨ι, ρ, st, S, sl, Post.bind q fun w st1 ι1 H1 v l1 S1 r1 q1 => ?_⟩
  split at q1
  · rename_i k hk
    refine ⟨by show 2 ≤ sizeLine; rw [sizeLine_eq]; omega, fun tp htp => ?_⟩
    have hsm := same_new (o := .tup [V.ty t1.nm, V.ty t2.nm]) htp
    refine ⟨v, tp, [.ty t1.nm, .ty t2.nm], .type k.nm, [.type t1.nm, .type t2.nm], [t1, t2].any (isT k), rfl, upd_same, .cons (.ty _) (.cons (.ty _) .nil), kindW_ty (S1.same hsm) hk (r1.later (Same.laterH hsm)), ?_, ?_⟩
    · refine kitAny_cons (kit6 k t1) (fun h => kitAny_cons (kit6 k t2) (fun h2 => ?_) fun h2 => ?_) fun h => ?_
      · rw [kitAny_nil]; simp [h, h2]
      · simp [h2]
      · simp [h]
    · exact q1 ι1 _ _ (Same.laterH hsm) (S1.same hsm) Rep.bl
  · exact q1.elim
end
end Ab

set_option Elab.async false
set_option linter.all false
set_option maxRecDepth 100000
set_option maxHeartbeats 1000000
/-! Ab: an except suite's look at its exception; f(lambda: e) where f tries what it got. -/
namespace Ab
open PySem PySem.Spec PyProof.Rows L2
/-! ### in the suite -/
def xOf (d : Addr) : Cell → Option (List (Nat × Val))
  | .xfs d' fs => if d' = d then some fs else none
  | _ => none
def findX (d : Addr) (st : Store) : Option (List (Nat × Val)) := st.reverse.findSome? (xOf d)
theorem findX_at {d : Addr} {st : Store} {fs : List (Nat × Val)} (h : findX d st = some fs) : ∃ n : Nat, st[n]? = some (.xfs d fs) := by
  unfold findX at h
  obtain ⟨c, hc, e⟩ := List.exists_of_findSome?_eq_some h
  obtain ⟨n, hn⟩ := List.mem_iff_getElem?.mp (List.mem_reverse.mp hc)
  cases c with
  | xfs d' fs' =>
    dsimp only [xOf] at e
    split at e
    · rename_i q
      cases e
      subst q
      exact ⟨n, hn⟩
    · cases e
  | _ => cases e
theorem findX_ok {K : PySem.W.Frag} {mg : Str → Option Value} {ι : List Addr} {st : Store} {H : Hp} (S : Sim K mg ι st H) {d : Addr} {fs : List (Nat × Val)} (h : findX d st = some fs) : ∃ vs, H d = some (.xd vs) ∧ RepF mg ι H fs vs := by
  obtain ⟨n, hn⟩ := findX_at h
  have hl : n < ι.length := by rw [S.len]; exact (List.getElem?_eq_some_iff.mp hn).1
  obtain ⟨e, vs, h1, h2⟩ := S.cell n _ _ hn (List.getElem?_eq_getElem hl)
  rw [e] at h1
  exact ⟨vs, h1, h2⟩
def okX (d : Option Addr) (st : Store) : Bool := match d with
  | none => true
  | some dd => (findX dd st).isSome
/-- isinstance(e, c), e at slot i the exception at a -/
@[reducible] def mIsE (i : Nat) (a : Addr) (d : Option Addr) (b : Bool) : ME := fun ρ st => match ρ[i]? with
  | some (some (.adr a')) => if a' = a ∧ okX d st = true then .ok (.bl b) st else .bad
  | _ => .bad
/-- e.f -/
@[reducible] def mXf (i : Nat) (a : Addr) (d : Option Addr) (f : Nat) : ME := fun ρ st => match ρ[i]?, d with
  | some (some (.adr a')), some dd => if a' = a then match findX dd st with
      | some fs => match fs.lookup f with
        | some w => .ok w st
        | none => .bad
      | none => .bad
    else .bad
  | _, _ => .bad
section
variable {X : Cx} {a Da : Addr} {oe : Obj} {d : Option Addr} {pn : List (Addr × Obj)}
def rIsE' (K : PySem.W.Frag) (Da a : Addr) (d : Option Addr) : List V → Hp → VK → Prop := fun xs H Q => ∃ (c : V) (cv : Value) (b : Bool), xs = [.ref a, c] ∧ (∀ dd, d = some dd → ∃ fs, H dd = some (.xd fs)) ∧ (∀ u, RelV c u → u = cv) ∧ PySem.W.kitOne K (.ref Da) cv = some b ∧ Q (.bl b) H
theorem call_isE' (C : ExcC X.K Da) (hz : Zc (.ref Da) d oe) (hf : ∃ vs, oe.data = .fields vs) : CallR (X.suite a ((a, oe) :: pn)) (.builtin "isinstance") (rIsE' X.K Da a d) := by
  intro pins s σ H xs us Q I r h
  obtain ⟨c, cv, b, rfl, hdd, hcv, e, q⟩ := h
  cases r with
  | cons rx rr =>
    cases rr with
    | cons rt rr =>
      cases rr
      cases rx
      have ec := hcv _ rt
      subst ec
      obtain ⟨hget, _⟩ := I.pin (a, oe) (List.mem_append.mpr (.inl List.mem_cons_self))
      obtain ⟨vs, hv⟩ := hf
      have J : ∃ od, PySem.W.InstAt s.heap a oe Da od := by
        cases d with
        | none => exact ⟨none, hget, hz.1, by unfold PySem.W.notCls; rw [hv] <;> rfl, by rw [hz.2]; trivial⟩
        | some dd =>
          obtain ⟨fs, ed⟩ := hdd dd rfl
          have hx : ObjOk X.prog X.w H s.heap dd (.xd fs) := I.hok dd _ ed
          obtain ⟨mA, hns, hr⟩ := hx
          obtain ⟨od, ho, hl⟩ := lookIn_ns hns
          exact ⟨some od, hget, hz.1, by unfold PySem.W.notCls; rw [hv] <;> rfl, by rw [hz.2]; exact ho⟩
      obtain ⟨od, J⟩ := J
      have hcl : (PySem.W.clsIn X.K Da).isSome = true := by
        have := C.hd
        obtain ⟨cd, hc, _⟩ := PySem.W.any_some this
        rw [hc]; rfl
      exact PySem.W.kia_one (PySem.W.kitx_exc hcl C.hg C.hk C.hs C.ha C.hn C.ht C.hm) I.kIn J e (fun z => nomatch z) fun tk => ⟨.bl b, H, I.kept (t' := tk) fun _ _ z => z, rfl, q⟩
theorem je_isE {i : Nat} {x cn : Str} {cv : Value} {b : Bool} {p p2 p3 pos : Pos} (C : ExcC X.K Da) (hz : Zc (.ref Da) d oe) (hf : ∃ vs, oe.data = .fields vs) (h0 : X.mg "isinstance" = none) (hN : X.N[i]? = some x) (hv : Vis X.env.scope x)
    (hc : ∃ v, RelV v cv ∧ (∀ u, RelV v u → u = cv) ∧ PE (X.suite a ((a, oe) :: pn)) (.Name cn p3) (tC v)) (hk : PySem.W.kitOne X.K (.ref Da) cv = some b) (g0 : Gl X "isinstance" := by rfl) (hd : (x == ("__debug__" : Str)) = false := by decide) (hcd : (x == ("__classdict__" : Str)) = false := by decide)
    (hs : starEach [.Name x p2, .Name cn p3] X.env = (false, eval (.Name x p2) X.env) :: starEach [.Name cn p3] X.env := by rfl) (hpl : (backTo pos (starEach [.Name cn p3] X.env)).any (·.1) = false := by rfl) :
    JE (X.suite a ((a, oe) :: pn)) (.Call (.Name "isinstance" p) [.Name x p2, .Name cn p3] [] pos) (mIsE i a d b) := fun W tk => by
  obtain ⟨v, hv1, hv2, he⟩ := hc
  refine PE.weak (pe_callB (X := X.suite a ((a, oe) :: pn)) (call_isE' C hz hf) g0 h0 Boot.isinstance (pa_cons (pe_var (i := i) hN hv hd hcd) (pa_cons he pa_nil) hs) (by decide) (by decide) hs hpl) fun σ H Q ⟨ι, ρ, st, S, sl, q⟩ => ?_
  dsimp only [mIsE] at q
  split at q
  · rename_i a' ea
    split at q
    · rename_i hh
      obtain ⟨e1, e2⟩ := hh
      subst e1
      obtain ⟨v', h1, h2⟩ := sl.2 i _ ea
      rw [Rep] at h2
      subst h2
      refine ⟨_, h1, v, cv, b, rfl, fun dd ed => ?_, hv2, hk, q.okSame S Rep.bl⟩
      subst ed
      unfold okX at e2
      obtain ⟨fs, hfs⟩ := Option.isSome_iff_exists.mp e2
      obtain ⟨vs, h3, _⟩ := findX_ok S hfs
      exact ⟨vs, h3⟩
    · exact q.elim
  · exact q.elim
theorem je_xf {i f : Nat} {x fN : Str} {p pos : Pos} (T : XfC X.K Da) (hno : PySem.W.findIn X.K (.ref Da) (nm f) = some none) (hz : Zc (.ref Da) d oe) (hf : ∃ vs, oe.data = .fields vs) (hN : X.N[i]? = some x) (hv : Vis X.env.scope x) (hfn : f < nmN)
    (hn : fN = nm f := by decide +kernel) (hd : (x == ("__debug__" : Str)) = false := by decide) (hcd : (x == ("__classdict__" : Str)) = false := by decide) (hb : attributeBase (.Name x p) fN X.env (eval (.Name x p) X.env) = eval (.Name x p) X.env := by rfl) :
    JE (X.suite a ((a, oe) :: pn)) (.Attribute (.Name x p) fN pos) (mXf i a d f) := fun W tk => by
  subst hn
  refine PE.weak (pe_xf T hno hz hf (pe_var (i := i) hN hv hd hcd) hb) fun σ H Q ⟨ι, ρ, st, S, sl, q⟩ => ?_
  dsimp only [mXf] at q
  split at q
  · rename_i a' dd ea _
    split at q
    · rename_i e1
      subst e1
      split at q
      · rename_i fs hfs
        split at q
        · rename_i w hw
          obtain ⟨v', h1, h2⟩ := sl.2 i _ ea
          rw [Rep] at h2
          subst h2
          obtain ⟨vs, h3, h4⟩ := findX_ok S hfs
          obtain ⟨v, h5, h6⟩ := h4.lookup hfn hw
          exact ⟨_, h1, rfl, rfl, dd, vs, v, rfl, h3, h5, q.okSame S h6⟩
        · exact q.elim
      · exact q.elim
    · exact q.elim
  · exact q.elim
end
/-! ### f(lambda: e) -/
def outV (x : Exc) : Option (List Val) := match x.cls with
  | 1 => match x.fs.lookup 24, x.fs.lookup 25 with
    | some w, some u => some [.str "row", w, u]
    | _, _ => none
  | 2 => (x.fs.lookup 26).map fun w => [.str "barrel", w]
  | 3 => some [.str "other"]
  | 4 => some [.str "number"]
  | 5 => some [.str "other"]
  | 6 => (x.fs.lookup 24).map fun w => [.str "weather", w]
  | 7 => (x.fs.lookup 25).map fun w => [.str "operation", w]
  | 8 => (x.fs.lookup 27).map fun w => [.str "text", w]
  | 9 => (x.fs.lookup 27).map fun w => [.str "daybook", w]
  | 10 => (x.fs.lookup 28).map fun w => [.str "code", w]
  | _ => none
@[reducible] def mOutcome (mb : ME) : ME := fun ρ st => match mb ρ st with
  | .ok v st1 => .ok (.tup [.str "value", v]) st1
  | .exc x st1 => match outV x with
    | some ws => if ws.all flatW = true then .ok (.tup ws) st1 else .bad
    | none => .bad
  | .bad => .bad
section
variable {mg : Str → Option Value} {ι more : List Addr} {H H' : Hp} {K : PySem.W.Frag}
mutual
theorem Rep.shrink : ∀ {w : Val} {v v' : V}, Rep mg ι H w v → Rep mg (ι ++ more) H' w v' → Rep mg ι H' w v'
  | .non, _, _, _, h => by simpa [Rep] using h
  | .bl _, _, _, _, h => by simpa [Rep] using h
  | .int _, _, _, _, h => by simpa [Rep] using h
  | .str _, _, _, _, h => by simpa [Rep] using h
  | .tup xs, v, v', g, h => by
    rw [Rep] at g h ⊢
    obtain ⟨a, vs, e, ha, hr⟩ := h
    obtain ⟨_, us, _, _, gr⟩ := g
    exact ⟨a, vs, e, ha, Reps.shrink gr hr⟩
  | .ref n, v, v', g, h => by
    rw [Rep] at g h ⊢
    obtain ⟨a, e, ha⟩ := h
    obtain ⟨b, _, hb⟩ := g
    rw [List.getElem?_append_left (List.getElem?_eq_some_iff.mp hb).1] at ha
    exact ⟨a, e, ha⟩
  | .gl x, _, _, _, h => by simpa [Rep] using h
  | .adr x, _, _, _, h => by simpa [Rep] using h
theorem Reps.shrink : ∀ {ws : List Val} {vs vs' : List V}, Reps mg ι H ws vs → Reps mg (ι ++ more) H' ws vs' → Reps mg ι H' ws vs'
  | [], _, _, _, h => by simpa [Reps] using h
  | w :: ws, _, _, g, h => by
    rw [Reps] at g h ⊢
    obtain ⟨v, r, e, h1, h2⟩ := h
    obtain ⟨_, _, _, g1, g2⟩ := g
    exact ⟨v, r, e, Rep.shrink g1 h1, Reps.shrink g2 h2⟩
end
theorem RepF.shrink : ∀ {ws : List (Nat × Val)} {vs vs' : List (Str × V)}, RepF mg ι H ws vs → RepF mg (ι ++ more) H' ws vs' → RepF mg ι H' ws vs'
  | _, _, _, .nil, .nil => .nil
  | _, _, _, .cons g gs, .cons h hs => .cons ⟨h.1, h.2.1, Rep.shrink g.2.2 h.2.2⟩ (RepF.shrink gs hs)
theorem RepK.shrink : ∀ {ws : List (Key × Val)} {vs vs' : List (Key × V)}, RepK mg ι H ws vs → RepK mg (ι ++ more) H' ws vs' → RepK mg ι H' ws vs'
  | _, _, _, .nil, .nil => .nil
  | _, _, _, .cons g gs, .cons h hs => .cons ⟨h.1, Rep.shrink g.2 h.2⟩ (RepK.shrink gs hs)
theorem CellOk.shrink {a : Addr} {c : Cell} (g : CellOk K mg ι H a c) (h : CellOk K mg (ι ++ more) H' a c) : CellOk K mg ι H' a c := by
  cases c with
  | lst xs => obtain ⟨vs, e, r⟩ := h; obtain ⟨_, _, r'⟩ := g; exact ⟨vs, e, r'.shrink r⟩
  | frz xs => obtain ⟨vs, e, r⟩ := h; obtain ⟨_, _, r'⟩ := g; exact ⟨vs, e, r'.shrink r⟩
  | ins C fs => obtain ⟨Ca, dx, vs, e, e2, r⟩ := h; obtain ⟨_, _, _, _, _, r'⟩ := g; exact ⟨Ca, dx, vs, e, e2, RepF.shrink r' r⟩
  | dct kvs => obtain ⟨vs, e, r⟩ := h; obtain ⟨_, _, r'⟩ := g; exact ⟨vs, e, RepK.shrink r' r⟩
  | fdc kvs => obtain ⟨od, vs, e, r⟩ := h; obtain ⟨_, _, _, r'⟩ := g; exact ⟨od, vs, e, RepK.shrink r' r⟩
  | xfs d fs => obtain ⟨ed, vs, e, r⟩ := h; obtain ⟨_, _, _, r'⟩ := g; exact ⟨ed, vs, e, RepF.shrink r' r⟩
theorem Sim.shrink {st junk : Store} (S0 : Sim K mg ι st H) (S : Sim K mg (ι ++ more) (st ++ junk) H') : Sim K mg ι st H' := by
  have get1 : ∀ (n : Nat) (a : Addr), ι[n]? = some a → (ι ++ more)[n]? = some a := fun n a h => by rw [List.getElem?_append_left (List.getElem?_eq_some_iff.mp h).1]; exact h
  have get2 : ∀ (n : Nat) (c : Cell), st[n]? = some c → (st ++ junk)[n]? = some c := fun n a h => by rw [List.getElem?_append_left (List.getElem?_eq_some_iff.mp h).1]; exact h
  exact ⟨S0.len, fun n m a c d h1 h2 h3 h4 => S.inj n m a c d (get1 _ _ h1) (get1 _ _ h2) (get2 _ _ h3) (get2 _ _ h4), fun n c a h1 h2 => (S0.cell n c a h1 h2).shrink (S.cell n c a (get2 _ _ h1) (get1 _ _ h2)), S.tabs⟩
theorem Rep.flat {w : Val} {v : V} (hf : flatW w = true) {ι1 ι2 : List Addr} {H1 H2 : Hp} (h : Rep mg ι1 H1 w v) : Rep mg ι2 H2 w v := by
  cases w with
  | non => simpa [Rep] using h
  | bl _ => simpa [Rep] using h
  | int _ => simpa [Rep] using h
  | str _ => simpa [Rep] using h
  | _ => cases hf
theorem Reps.flat {ι1 ι2 : List Addr} {H1 H2 : Hp} : ∀ {ws : List Val} {vs : List V}, ws.all flatW = true → Reps mg ι1 H1 ws vs → Reps mg ι2 H2 ws vs
  | [], _, _, h => by simpa [Reps] using h
  | w :: ws, _, hf, h => by
    rw [List.all_cons, Bool.and_eq_true] at hf
    obtain ⟨v, r, e, h1, h2⟩ := h.of_cons
    subst e
    exact .cons (h1.flat hf.1) (Reps.flat hf.2 h2)
theorem Sim.addX {st : Store} {dd : Addr} {fs : List (Nat × Val)} {vs : List (Str × V)} (S : Sim K mg ι st H) (hH : H dd = some (.xd vs)) (r : RepF mg ι H fs vs) : Sim K mg (ι ++ [dd]) (st ++ [.xfs dd fs]) H := by
  have L : Later ι H (ι ++ [dd]) H := ⟨⟨[dd], rfl⟩, fun b xs e => e, fun _ _ _ e => e⟩
  have old : ∀ (n : Nat) (a : Addr), (ι ++ [dd])[n]? = some a → n < st.length → ι[n]? = some a := fun n a e hl => by
    rw [List.getElem?_append_left (by rw [S.len]; exact hl)] at e; exact e
  have last : ∀ (n : Nat) (a : Addr), (ι ++ [dd])[n]? = some a → n = st.length → a = dd := fun n a e hl => by
    rw [hl, ← S.len, List.getElem?_append_right (Nat.le_refl _)] at e
    simpa using e.symm
  have split : ∀ (n : Nat) (d : Cell), (st ++ [Cell.xfs dd fs])[n]? = some d → (st[n]? = some d ∧ n < st.length) ∨ (n = st.length ∧ d = .xfs dd fs) := fun n d e => by
    by_cases hl : n < st.length
    · rw [List.getElem?_append_left hl] at e; exact .inl ⟨e, hl⟩
    · rw [List.getElem?_append_right (by omega)] at e
      have : n - st.length = 0 := by
        by_cases q : n - st.length = 0
        · exact q
        · rw [List.getElem?_eq_none (by simp; omega)] at e; cases e
      rw [this] at e
      simp at e
      exact .inr ⟨by omega, e.symm⟩
  refine ⟨by simp [S.len], fun n m a d e h1 h2 h3 h4 l1 l2 => ?_, fun n d a h1 h2 => ?_, S.tabs⟩
  · rcases split n d h3 with ⟨q1, z1⟩ | ⟨q1, z1⟩ <;> rcases split m e h4 with ⟨q2, z2⟩ | ⟨q2, z2⟩
    · exact S.inj n m a d e (old n a h1 z1) (old m a h2 z2) q1 q2 l1 l2
    · subst z2; cases l2
    · subst z1; cases l1
    · omega
  · rcases split n d h1 with ⟨q1, z1⟩ | ⟨q1, z1⟩
    · exact (S.cell n d a q1 (old n a h2 z1)).keep L fun o e => e
    · rw [last n a h2 q1, z1]
      exact ⟨rfl, vs, hH, r.later L⟩
/-- what the try makes of the lambda's reading -/
def TTout (K : PySem.W.Frag) (mg : Str → Option Value) : (XK → Hp → VK → Prop) → Hp → VK → Prop := fun tl H Q =>
  tl (fun cls d H' => ∃ ι st x ws, Sim K mg ι st H' ∧ ExcRep mg ι H' x cls d ∧ outV x = some ws ∧ ws.all flatW = true ∧ ∀ ι' H'' v, Later ι H' ι' H'' → Sim K mg ι' st H'' → Rep mg ι' H'' (.tup ws) v → Q v H'') H
    (fun v H' => ([.str "value", v] : List V).length ≤ sizeLine ∧ ∀ p, H' p = none → Q (.ref p) (upd H' p (.tup [.str "value", v])))
/-- the classes that may come -/
def excs : List Nat := [1, 2, 3, 4, 5, 6, 7, 8, 9, 10]
theorem outV_cls {x : Exc} {ws : List Val} (h : outV x = some ws) : x.cls ∈ excs := by
  unfold outV at h
  split at h <;> first | (rename_i e; rw [e]; decide) | cases h
@[reducible] def xst (x : Exc) : Option Addr → Store
  | none => []
  | some dd => [.xfs dd x.fs]
end
theorem takes_len {X : Cx} {W : WX} (t : Takes X W) : Takes X (fun c d σ H => σ.length = X.N.length → W c d σ H) := fun u s' ⟨a, B, sI, pins, σ, H, cls, d, e, I, nb, up, sky, na, os, ag, w⟩ =>
  t u s' ⟨a, B, sI, pins, σ, H, cls, d, e, I, nb, up, sky, na, os, ag, w I.len⟩
section
variable {X : Cx} {x a e n3 n4 : Str} {st : Stmt} {g RA : Addr} {b₀ : Stmt} {suite : List Stmt} {mS : Addr → Option Addr → Nat → MS} {j jj : Nat} {p1 p2 p3 p4 p5 p6 p7 p8 : Pos} {cdg : Value} {q : Str} {k : Nat}
theorem out_gives (S : FnScope [a, e, n3, n4] [a] (defScope st)) (hb : defBody st = [.Try [.Return (some (.Tuple [.Constant (.str "value") j p1, .Call (.Name a p2) [] [] p3] jj p4)) p5] [.ExceptHandler (some (.Name "RowError" p6)) (some e) (b₀ :: suite) p7] [] [] p8])
    (hln : (defScope st).names.lookup e = some .local) (hge : (defScope st).names.lookup ("RowError" : Str) = some NameKind.globalImplicit) (hme : X.mg "RowError" = some (.ref RA)) (hroom : ∀ s : Shared, Room k (X.A.deeper (envOfC x (defScope st) s.heap.objs.size g cdg)))
    (hsuite : ∀ (A : Around) (outer : List Env) (s : Shared) (H : Hp), Room k (A.deeper (envOfC x (defScope st) s.heap.objs.size g cdg)) → ∀ (aa : Addr) (oe : Obj) (Dn : Nat) (Da : Addr) (d : Option Addr) (pn : List (Addr × Obj)), Dn ∈ excs → X.mg (nm Dn) = some (.ref Da) → Zc (.ref Da) d oe → (∃ vs, oe.data = .fields vs) →
      JSs ((cxOf C8.CX0 X.prog X.w X.K X.mg X.base [a, e, n3, n4] x (defScope st) g cdg A outer s H C8.E0).nox.suite aa ((aa, oe) :: pn)) (b₀ :: suite) (mS aa d Dn))
    (hex : ∀ Dn ∈ excs, ∀ Da, X.mg (nm Dn) = some (.ref Da) → PySem.W.exmOne X.K (.ref Da) (.ref RA) = some true)
    (hrun : ∀ (y : Exc) (ws : List Val), outV y = some ws → ws.all flatW = true → ∀ (aa : Addr) (d : Option Addr) (st1 : Store), (y.fs = [] ∧ d = none ∨ ∃ dd, d = some dd) → ∃ junk, mS aa d y.cls [none, some (.adr aa), none, none] (st1 ++ xst y d) = .ret (.tup ws) (st1 ++ junk)) :
    LamX.GivesTo X [a, e, n3, n4] x (defScope st) g cdg (defBody st) a q (TTout X.K X.mg) := by
  intro f c' s H Q tl act hc h
  rw [hb]
  have hgl : Gl (cxOf C8.CX0 X.prog X.w X.K X.mg X.base [a, e, n3, n4] x (defScope st) g cdg X.A X.stack s H C8.E0).nox "RowError" := hge
  refine ⟨_, pss_one (ps_try_as (X := (cxOf C8.CX0 X.prog X.w X.K X.mg X.base [a, e, n3, n4] x (defScope st) g cdg X.A X.stack s H C8.E0).nox) (i := 1) (c := .ref RA)
      (tb := fun W D σ H => ∃ Ech : XK, (∀ cls d σ' H', Ech cls d H' → (σ'.length = ([a, e, n3, n4] : List Str).length → W cls d σ' H')) ∧ σ[0]? = some (some (.ref f)) ∧ H c' = some (LamX.CodeO c' q) ∧ tl Ech H (fun v H' => ([.str "value", v] : List V).length ≤ sizeLine ∧ ∀ p, H' p = none → D.rt (.ref p) (upd H' p (.tup [.str "value", v]))))
      (ts := fun aa cls d D σ H => ∃ Dn Da, Dn ∈ excs ∧ X.mg (nm Dn) = some (.ref Da) ∧ cls = .ref Da ∧ rdS X.K X.mg (fun _ _ _ _ => False) (mS aa d Dn) D σ H)
      (Wout := fun _ _ _ _ => False)
      rfl rfl S.nd rfl hln ⟨hgl, by decide, .inl hme⟩ LamX.takes0 (fun W pn xe tk _ => ?_) (fun aa oe cls d pn hz hf => ?_)), ?_⟩
  · refine ⟨fun pins s' σ H' D I h' => ?_⟩
    obtain ⟨Ech, hW, h1, h2, h3⟩ := h'
    have hp := act _ pn xe Ech p2 p3 (takes_len tk) hW
    have hq := pss_one (ps_ret (pos := p5) (pe_tup (x1 := jj) (pos := p4) (pa_cons (pe_str (x := "value") (j := j) (pos := p1)) (pa_cons hp pa_nil))))
    exact hq.run pins s' σ H' D I ⟨h1, h2, h3⟩
  · refine ⟨fun pins s' σ H' D I h' => ?_⟩
    obtain ⟨Dn, Da, m1, m2, rfl, h3⟩ := h'
    exact (hsuite X.A X.stack s H (hroom s) aa oe Dn Da d pn m1 m2 hz hf (fun _ _ _ _ => False) LamX.takes0).run pins s' σ H' D I h3
  · refine ⟨_, ?_, rfl, hc, h⟩
    rintro cls d σ' H' ⟨ι, st1, y, ws, S1, er, hout, hfl, fin⟩ hlen
    have hcls := outV_cls hout
    obtain ⟨Da, hD, rfl, hfd⟩ := er
    refine ⟨true, hex _ hcls Da hD, fun _ aa na => ⟨y.cls, Da, hcls, hD, rfl, ?_⟩, fun z => nomatch z⟩
    have hcase : y.fs = [] ∧ d = none ∨ ∃ dd, d = some dd := hfd.elim .inl fun ⟨dd, vs, e1, _⟩ => .inr ⟨dd, e1⟩
    obtain ⟨junk, hjunk⟩ := hrun y ws hout hfl aa d st1 hcase
    have start : ∃ more, Sim X.K X.mg (ι ++ more) (st1 ++ xst y d) H' := by
      rcases hfd with ⟨e1, e2⟩ | ⟨dd, vs, e1, e2, e3⟩
      · subst e2
        exact ⟨[], by simpa [xst] using S1⟩
      · subst e1
        exact ⟨[dd], S1.addX e2 e3⟩
    obtain ⟨more, S2⟩ := start
    refine ⟨ι ++ more, [none, some (.adr aa), none, none], st1 ++ xst y d, S2, ⟨by simp [hlen], fun i w ei => ?_⟩, ?_⟩
    · match i, ei with
      | 0, ei => simp at ei
      | 1, ei =>
        simp at ei
        subst ei
        refine ⟨.ref aa, ?_, by rw [Rep]⟩
        rw [List.getElem?_set]
        simp
        have : ([a, e, n3, n4] : List Str).length = 4 := rfl
        omega
      | 2, ei => simp at ei
      | 3, ei => simp at ei
      | n + 4, ei => simp at ei
    · rw [hjunk]
      intro ι' H'' v l S3 r
      obtain ⟨m2, e2⟩ := l.pre
      rw [e2, List.append_assoc] at S3
      have S4 := Sim.shrink S1 S3
      refine fin ι H'' v ⟨⟨[], by simp⟩, l.tups, l.frzs⟩ S4 ?_
      obtain ⟨b, vs, e3, h3, h4⟩ := r.tup_inv
      subst e3
      rw [Rep]
      exact ⟨b, vs, rfl, h3, h4.flat hfl⟩
/-- x(lambda: body) -/
theorem je_outcome {T : Wh} {c P : Addr} {params : Arguments} {body : Expr} {scope : Scope} {mb : ME} {fd : FuncData} {p lpos pos : Pos} (hT : Cx.wh X = T) (F : Fun T.K x x st g fd) (S : FnScope [a, e, n3, n4] [a] (defScope st))
    (hb0 : ∀ (kV doc pm : Value) (an : Option Addr) (cdv ct : Value) (us : List Value), us.length = 1 → bindArgs (PySem.W.fnOf x x (defArgs st) (defBody st) (defScope st) .none kV doc pm an cdv ct) ⟨us, []⟩ = pure (([a] : List Str).zip us))
    (hG : ∀ cdg, (∀ s : Shared, Room k (X.A.deeper (envOfC x (defScope st) s.heap.objs.size g cdg))) → LamX.GivesTo X [a, e, n3, n4] x (defScope st) g cdg (defBody st) a (X.env.qual ++ "<lambda>") (TTout X.K X.mg))
    (hm : X.mg x = some (.ref g)) (hg : Gl X x) (TB : LamX.TabB X.base X.mg c P) (hcode : X.env.code = .ref c) (hmT : (P, X.env.qual ++ "<lambda>") ∈ tabsOf X.K X.mg) (hu : ∀ p ∈ tabsOf X.K X.mg, p.1 = P → p.2 = X.env.qual ++ "<lambda>")
    (hr : Room (k + 2) X.A) (L : LamX.LamS X.env.scope scope) (hdef : defaultsOf params X.env = ([], []))
    (hbind : ∀ (q : Str) (cl : List (Str × Addr)) (pm cv ctv : Value), bindArgs (PySem.W.kla_fn "<lambda>" q params body scope cl pm cv ctv) ⟨[], []⟩ = pure [])
    (hbody : ∀ (A : Around) (outer : List Env) (s : Shared) (H : Hp) (E : XK) (f c' : Addr), Room k (A.deeper (LamX.lamEnv X scope s.heap.objs.size f c')) → JE (LamX.lamCx X A outer s H E scope f c') body mb)
    (hdb : (x == ("__debug__" : Str)) = false := by decide) (hd : (a == ("__debug__" : Str)) = false := by decide) (hcd : (a == ("__classdict__" : Str)) = false := by decide) :
    JE X (.Call (.Name x p) [.Lambda params body scope lpos] [] pos) (mOutcome mb) := fun W tk => by
  subst hT
  obtain ⟨oc, od, kV, doc, pm, an, cdv, ct, osl, rfl, lk, hcd'⟩ := F.ex
  have vis : Vis (defScope st) a := (S.par a List.mem_cons_self).elim .inl fun z => .inr (.inl z)
  refine PE.weak (LamX.pe_lamcall (T := tabsOf X.K X.mg) (TT := TTout X.K X.mg) (t := fun E => rdG X.K X.mg (rel1 X.mg) (fun cls d _ H => E cls d H) mb) (k := k) hg hm F.kp lk hcd' (F.binds (ps := [a]) fun kV doc pm an cdv ct us hl => hb0 kV doc pm an cdv ct us hl) S rfl vis
      (hG cdv fun s => (hr.mono (by omega)).deeper _) TB hcode hmT hu hr L hdef hbind (fun A outer s H E f c' hr2 => ?_) hdb hd hcd) fun σ H Q ⟨ι, ρ, st0, S0, sl, q⟩ => ?_
  · exact hbody A outer s H E f c' hr2 (fun cls d _ H => E cls d H) (takes_of rfl rfl rfl rfl)
  · refine ⟨S0.tabs, fun H1 eN T1 => ?_⟩
    have L1 : Later ι H ι H1 := ⟨⟨[], by simp⟩, fun b xs e => eN b _ e (fun ps z => by cases z), fun b ob ks e => eN b _ e fun ps z => by subst z; exact ks⟩
    have S1 : Sim X.K X.mg ι st0 H1 := by
      refine ⟨S0.len, S0.inj, fun n c a h1 h2 => ?_, T1⟩
      have z := S0.cell n c a h1 h2
      cases c with
      | lst xs => obtain ⟨vs, e, r⟩ := z; exact ⟨vs, eN _ _ e (fun ps z => by cases z), r.later L1⟩
      | frz xs =>
        obtain ⟨vs, e, r⟩ := z
        refine ⟨vs, ?_, r.later L1⟩
        rcases e with ⟨o, e⟩ | e
        · exact .inl ⟨o, eN _ _ e (fun ps z => by cases z)⟩
        · exact .inr e
      | ins C fs => obtain ⟨Ca, dx, vs, e1, e2, r⟩ := z; exact ⟨Ca, dx, vs, e1, eN _ _ e2 (fun ps z => by cases z), r.later L1⟩
      | dct kvs => obtain ⟨vs, e, r⟩ := z; exact ⟨vs, eN _ _ e (fun ps z => by cases z), r.later L1⟩
      | fdc kvs => obtain ⟨od, vs, e, r⟩ := z; exact ⟨od, vs, eN _ _ e (fun ps z => by cases z), r.later L1⟩
      | xfs d fs => obtain ⟨e0, vs, e, r⟩ := z; exact ⟨e0, vs, eN _ _ e (fun ps z => by cases z), r.later L1⟩
    refine ⟨ι, ρ, st0, S1, sl.later L1, ?_⟩
    have q := Post.later q L1
    dsimp only [mOutcome] at q
    cases h : mb ρ st0 with
    | ok v st1 =>
      rw [h] at q
      intro ι' H' b l S2 r
      refine ⟨by show 2 ≤ sizeLine; rw [sizeLine_eq]; omega, fun p hp => ?_⟩
      exact (Post.later q l).newTup S2 (.cons Rep.str (.cons r .nil)) hp
    | exc y st1 =>
      rw [h] at q
      dsimp only at q
      intro ι' H' c d l S2 er
      split at q
      · rename_i ws hws
        split at q
        · rename_i hfl
          exact ⟨ι', st1, y, ws, S2, er, hws, hfl, fun ι'' H'' v l2 S3 r => q ι'' H'' v (l.trans l2) S3 r⟩
        · exact q.elim
      · exact q.elim
    | bad => rw [h] at q; exact q.elim
end
end Ab

set_option Elab.async false
set_option linter.all false
set_option maxRecDepth 100000
set_option maxHeartbeats 1000000
/-! Ab: *args, starred arguments, own + and len, class constants. -/
namespace Ab
open PySem PySem.Spec PyProof.Rows L2
/-! ### a def by positional values (perhaps *rest) -/
def FnMR (T : Wh) (k : Nat) (f : Addr) (mf : MF) : Prop := PySem.W.keepIn T.K (.ref f) = true ∧ FnR T.P T.w T.K T.mg T.base (L2.CX T.P T.w) k f (spM T.K T.mg mf)
def HasIR (T : Wh) (C : Nat) (k : Nat) (mf : MF) : Prop := ∃ Ca f, T.mg (nm C) = some (.ref Ca) ∧ Mk T.K Ca f ∧ FnMR T k f mf
/-- the def with n parameters, *rest and m further names -/
def defStarM (n m : Nat) (body : MS) : MF := fun ws st => if n ≤ ws.length ∧ ws.length ≤ 1000 then (body ((ws.take n ++ [Val.tup (ws.drop n)]).map some ++ List.replicate m none) st).fin else .bad
/-! ### starred arguments -/
def itemsW (st : Store) : Val → Option (List Val)
  | .tup xs => some xs
  | .ref n => seqAt st n
  | _ => none
@[reducible] def aStar (m : ME) (t : MA) : MA := fun ρ st => (m ρ st).bind fun w st1 => match itemsW st1 w with
  | some xs => (t ρ st1).bind fun ys st2 => .ok (xs ++ ys) st2
  | none => .bad
section
variable {X : Cx} {k : Nat} {x : Str} {e : Expr} {es : List Expr} {m : ME} {t : MA} {p pos : Pos} {mf : MF} {C : Nat}
theorem ja_star (he : JE X e m) (hr : JA X es t) (hs : starEach (.Starred e p :: es) X.env = (true, eval e X.env) :: starEach es X.env := by rfl) : JA X (.Starred e p :: es) (aStar m t) := fun W tk => by
  refine PA.weak (StX.pa_star (he W tk) (hr W tk) hs) fun σ H Q ⟨ι, ρ, st, S, sl, q⟩ => ?_
  refine ⟨ι, ρ, st, S, sl, Post.bind q fun w st1 ι1 H1 v l1 S1 r1 q1 => ?_⟩
  have sl1 := sl.later l1
  split at q1
  · rename_i xs hxs
    have fin : ∀ vs, Reps X.mg ι1 H1 xs vs → rdG X.K X.mg (relL X.mg) W t σ H1 (fun ys H2 => Q (vs ++ ys) H2) := fun vs rv =>
      ⟨ι1, ρ, st1, S1, sl1, Post.bind q1 fun ys st2 ι2 H2 us l2 S2 r2 q2 => q2.okSame S2 ((rv.later l2).append r2)⟩
    cases w with
    | tup zs =>
      cases hxs
      obtain ⟨a, vs, e1, ha, rv⟩ := Rep.tup_inv r1
      exact ⟨a, vs, e1, .inl (SqT.of ha), fin vs rv⟩
    | ref n =>
      obtain ⟨a, e1, ha⟩ := Rep.ref_inv r1
      obtain ⟨vs, hl, rr⟩ := S1.seqL hxs ha
      exact ⟨a, vs, e1, .inr hl, fin vs rr⟩
    | _ => cases hxs
  · exact q1.elim
theorem run_makeRS {CX : CXT} {pins : List (Addr × Obj)} {σ : L2.St} {H : Hp} {s : Shared} {Q : VK} {us : List Value} {vs : List V} {Ca f : Addr} {sp : Sp} {E : XK} (M : Mk X.K Ca f) (F : FnR X.prog X.w X.K X.mg X.base CX k f sp) (hr : Room (k + 1) X.A) (hx : PassesAt CX X σ E) (I : Inv X pins σ H s) (r : Vals vs us)
    (h : ∀ x dx, H x = Option.none → H dx = Option.none → dx ≠ x → sp (V.ref x :: vs) (upd (upd H dx (.own x)) x (.ins Ca dx [])) (fun v H2 => v = .non ∧ Q (.ref x) H2) E) :
    wpAny (model X.prog X.w) X.A (call (.ref Ca) us) (EP X pins σ Q) X.xe s := by
  have hq := h (s.heap.objs.size + 1) s.heap.objs.size (I.hok.fresh (Nat.le_succ _)) (I.hok.fresh (Nat.le_refl _)) (Nat.ne_of_lt (Nat.lt_succ_self _))
  have I2 := Inv.made (C := Ca) I
  have r2 : Vals (V.ref (s.heap.objs.size + 1) :: vs) (Value.ref (s.heap.objs.size + 1) :: us) := .cons rfl r
  refine wpAny_call (make_map (f := f) I.kIn M.makes M.init (beq_iff_eq.mp M.fn) (codeAny_mono (F _ X.stack _ _ (Value.ref (s.heap.objs.size + 1) :: us) _ _ E (hr.make Ca us []) (I2.env0.make Ca us []) r2 hq) fun r s' hq' => ?_))
  cases r with
  | error e => exact hx pins _ _ e s' I2 hq'
  | ok fl =>
    cases fl with
    | ret u =>
      obtain ⟨v, H', I3, rv, ev, q3⟩ := I2.after hq'
      subst ev
      exact ⟨rv, ⟨V.ref (s.heap.objs.size + 1), H', I3, rfl, q3⟩⟩
    | next => exact False.elim hq'
    | brk => exact False.elim hq'
    | cont => exact False.elim hq'
theorem make_read {W : WX} {σ : L2.St} {Q : VK} {ι1 : List Addr} {H1 : Hp} {st1 : Store} {ws : List Val} {vs : List V} {Ca : Addr} (hC : X.mg (nm C) = some (.ref Ca)) (S1 : Sim X.K X.mg ι1 st1 H1) (r1 : Reps X.mg ι1 H1 ws vs)
    (p1 : Post X.K X.mg (rel1 X.mg) ι1 H1 Q (fun c d H' => W c d σ H') (vMake C mf ws st1)) : ∀ x dx, H1 x = Option.none → H1 dx = Option.none → dx ≠ x → spM X.K X.mg mf (V.ref x :: vs) (upd (upd H1 dx (.own x)) x (.ins Ca dx [])) (fun v H2 => v = .non ∧ Q (.ref x) H2) (WE W σ) := by
  intro q dx hq hdx ne
  obtain ⟨S2, l2⟩ := make_sim S1 hC hq hdx ne
  refine ⟨_, _, _, S2, Reps.cons (Rep.ref (n := st1.length) (a := q) ?_) (Reps.later l2 r1), Post.bind (Post.later p1 l2) fun w st3 ι3 H3 v l3 S3 r3 p3 => ?_⟩
  · rw [← S1.len, List.getElem?_append_right (Nat.le_refl _)]; simp
  · cases w with
    | non =>
      refine ⟨Rep.non_inv r3, p3.okSame S3 (Rep.ref ?_)⟩
      refine l3.get ?_
      rw [← S1.len, List.getElem?_append_right (Nat.le_refl _)]; simp
    | _ => exact p3.elim
/-- C(e, ..), C's __init__ with *rest -/
theorem je_makeR (h : HasIR (Cx.wh X) C k mf) (hx : x = nm C) (hr : Room (k + 1) X.A) (ha : JA X (e :: es) t) (hg : Gl X x := by rfl) (hdb : (x == ("__debug__" : Str)) = false := by decide) (he : starEach (e :: es) X.env = (false, eval e X.env) :: starEach es X.env := by rfl)
    (hpl : (backTo pos (starEach es X.env)).any (·.1) = false := by rfl) : JE X (.Call (.Name x p) (e :: es) [] pos) (mApp (vMake C mf) t) := fun W tk => by
  obtain ⟨Ca, f, hC, M, hk, F⟩ := h
  refine ⟨fun pins s σ H Q I ⟨ι, ρ, st, S, sl, q⟩ => ?_⟩
  refine wpAny_Call_Name_kw (ld_glob I hg (by rw [hx]; exact hC) ?_ hdb)
  refine PySem.W.callWith_K (h₀ := X.base) I.ok.mod.kin M.kp (thn ((ha W tk).run pos pins s σ H (fun vs H1 => ∀ y dx, H1 y = Option.none → H1 dx = Option.none → dx ≠ y → spM X.K X.mg mf (V.ref y :: vs) (upd (upd H1 dx (.own y)) y (.ins Ca dx [])) (fun v H2 => v = .non ∧ Q (.ref y) H2) (WE W σ)) I ?_) fun us s1 ⟨vs, H1, I1, r, q⟩ => ⟨I1.kIn, ?_⟩) he hpl
  · exact ⟨ι, ρ, st, S, sl, Post.bind q fun ws st1 ι1 H1 vs l1 S1 r1 p1 => make_read hC S1 r1 p1⟩
  · exact run_makeRS M F hr (passAt tk σ) I1 r q
/-- C(e, .., *y) -/
theorem je_makeS (h : HasIR (Cx.wh X) C k mf) (hx : x = nm C) (hr : Room (k + 1) X.A) (ha : JA X (e :: es) t) (hg : Gl X x := by rfl) (hdb : (x == ("__debug__" : Str)) = false := by decide) (he : starEach (e :: es) X.env = (false, eval e X.env) :: starEach es X.env := by rfl)
    (hst : (backTo pos (starEach es X.env)).any (·.1) = true := by rfl) : JE X (.Call (.Name x p) (e :: es) [] pos) (mApp (vMake C mf) t) := fun W tk => by
  obtain ⟨Ca, f, hC, M, hk, F⟩ := h
  refine ⟨fun pins s σ H Q I ⟨ι, ρ, st, S, sl, q⟩ => ?_⟩
  refine wpAny_Call_Name_kw (ld_glob I hg (by rw [hx]; exact hC) ?_ hdb)
  refine PySem.W.callWith_S2 (h₀ := X.base) I.ok.mod.kin M.kp (thn ((ha W tk).run pos pins s σ H (fun vs H1 => ∀ y dx, H1 y = Option.none → H1 dx = Option.none → dx ≠ y → spM X.K X.mg mf (V.ref y :: vs) (upd (upd H1 dx (.own y)) y (.ins Ca dx [])) (fun v H2 => v = .non ∧ Q (.ref y) H2) (WE W σ)) I ?_) fun us s1 ⟨vs, H1, I1, r, q⟩ => ⟨I1.kIn, ?_⟩) he hst
  · exact ⟨ι, ρ, st, S, sl, Post.bind q fun ws st1 ι1 H1 vs l1 S1 r1 p1 => make_read hC S1 r1 p1⟩
  · exact run_makeRS M F hr (passAt tk σ) I1 r q
end

/-! ### own + and len -/
/-- a operator of the class of that number, both sides of it -/
def HasOp (T : Wh) (C : Nat) (op : Operator) (k : Nat) (mf : MF) : Prop := ∃ Ca f, T.mg (nm C) = some (.ref Ca) ∧ Cls T.K Ca ∧ PySem.W.selfFirst T.K Ca = true ∧ PySem.W.findIn T.K (.ref Ca) (PySem.dunder op.info.2) = some (some (.ref f)) ∧ PySem.W.isFn T.K (.ref f) = true ∧ FnM T k 2 f mf
def isIns (C : Nat) (st : Store) : Val → Bool
  | .ref n => match st[n]? with
    | some (.ins C' _) => decide (C' = C)
    | _ => false
  | _ => false
theorem isIns_at {C : Nat} {st : Store} {w : Val} (h : isIns C st w = true) : ∃ n fs, w = .ref n ∧ st[n]? = some (.ins C fs) := by
  unfold isIns at h
  split at h
  · rename_i n
    split at h
    · rename_i C' fs e
      have := of_decide_eq_true h
      subst this
      exact ⟨n, fs, rfl, e⟩
    · cases h
  · cases h
/-- what own + gives back must be an object (no mark that it is not implemented) -/
@[reducible] def mOp (C : Nat) (mf : MF) (ma mb : ME) : ME := fun ρ st => (ma ρ st).bind fun x st1 => (mb ρ st1).bind fun y st2 => if isIns C st2 x = true ∧ isIns C st2 y = true then mf [x, y] st2 else .bad
section
variable {X : Cx} {k : Nat} {a b e : Expr} {ma mb m : ME} {p pos : Pos} {mf : MF} {C : Nat} {op : Operator}
theorem je_own (h : HasOp (Cx.wh X) C op k mf) (hr : Room k X.A) (ha : JE X a ma) (hb : JE X b mb) : JE X (.BinOp a op b pos) (mOp C mf ma mb) := fun W tk => by
  obtain ⟨Ca, f, hC, cl, hsf, hs, hfn, fd, ps, hl, hkp, hbd, F⟩ := h
  have hC : X.mg (nm C) = some (.ref Ca) := hC
  refine ⟨fun pins s σ H Q I ⟨ι, ρ, st, S, sl, q⟩ => ?_⟩
  refine wpAny_BinOp (binT (R := fun x y H2 => ∃ xa ya dx dy fx fy, x = .ref xa ∧ y = .ref ya ∧ H2 xa = some (.ins Ca dx fx) ∧ H2 ya = some (.ins Ca dy fy) ∧ spM X.K X.mg mf [.ref xa, .ref ya] H2 Q (WE W σ)) (ha W tk) (hb W tk) I ?_ fun v u s2 x y H2 I2 rx ry hq => ?_)
  · refine ⟨ι, ρ, st, S, sl, Post.bind q fun x st1 ι1 H1 xv l1 S1 r1 p1 => ?_⟩
    refine ⟨ι1, ρ, st1, S1, sl.later l1, Post.bind p1 fun y st2 ι2 H2 yv l2 S2 r2 p2 => ?_⟩
    split at p2
    · rename_i hh
      obtain ⟨n, fs, e1, c1⟩ := isIns_at hh.1
      obtain ⟨n2, fs2, e2, c2⟩ := isIns_at hh.2
      have r1' := Rep.later l2 r1
      subst e1 e2
      obtain ⟨xa, f1, g1⟩ := Rep.ref_inv r1'
      obtain ⟨ya, f2, g2⟩ := Rep.ref_inv r2
      obtain ⟨Ca1, dx, vs, i1, i2, i3⟩ := S2.at c1 g1
      obtain ⟨Ca2, dy, us, j1, j2, j3⟩ := S2.at c2 g2
      rw [hC] at i1 j1
      cases i1
      cases j1
      subst f1 f2
      exact ⟨xa, ya, dx, dy, vs, us, rfl, rfl, i2, j2, ι2, _, st2, S2, .cons (Rep.ref g1) (.cons (Rep.ref g2) .nil), p2⟩
    · exact p2.elim
  · obtain ⟨xa, ya, dx, dy, fx, fy, e1, e2, i1, i2, hsp⟩ := hq
    subst e1 e2
    cases rx
    cases ry
    obtain ⟨mA, O, _⟩ := ins_get I2.hok i1
    obtain ⟨od, J, _⟩ := O.look
    obtain ⟨mB, O2, _⟩ := ins_get I2.hok i2
    obtain ⟨od2, J2, _⟩ := O2.look
    obtain ⟨m0, fr⟩ := I2.fr
    refine PySem.W.binop_K fr I2.ok.mod.kin J J2.type hsf hs hfn ?_
    refine thn (run_fnS (us := [.ref xa, .ref ya]) (vs := [.ref xa, .ref ya]) F hr hbd (passAt tk σ) I2 (.cons rfl (.cons rfl .nil)) hsp) fun u s3 hh => ?_
    obtain ⟨v3, H3, I3, r3, q3⟩ := hh
    have z : EP X pins σ Q u s3 := ⟨v3, H3, I3, r3, q3⟩
    cases v3 with
    | non => cases (show u = Value.none from r3); exact z
    | bl y => cases (show u = Value.bool y from r3); exact z
    | int i => obtain ⟨t, e⟩ := (show ∃ t, u = Value.int i t from r3); subst e; exact z
    | str y => obtain ⟨t, e⟩ := (show ∃ t, u = Value.str y t from r3); subst e; exact z
    | byt y => obtain ⟨t, e⟩ := (show ∃ t, u = Value.bytes y t from r3); subst e; exact z
    | flt y => obtain ⟨t, e⟩ := (show ∃ t, u = Value.float y t from r3); subst e; exact z
    | ref y => cases (show u = Value.ref y from r3); exact z
    | ty y => cases (show u = Value.type y from r3); exact z
/-- len(e) by an own __len__ -/
def HasLen (T : Wh) (C : Nat) (k : Nat) (mf : MF) : Prop := ∃ Ca f, T.mg (nm C) = some (.ref Ca) ∧ Cls T.K Ca ∧ PySem.W.findIn T.K (.ref Ca) "__len__" = some (some (.ref f)) ∧ PySem.W.isFn T.K (.ref f) = true ∧ FnM T k 1 f mf
@[reducible] def mLen (C : Nat) (mf : MF) (m : ME) : ME := fun ρ st => (m ρ st).bind fun x st1 => if isIns C st1 x = true then match mf [x] st1 with
    | .ok (.int i) st2 => if 0 ≤ i ∧ i < 1000000 then .ok (.int i) st2 else .bad
    | _ => .bad
  else .bad
theorem je_lenO (h : HasLen (Cx.wh X) C k mf) (hr : Room (k + 1) X.A) (he : JE X e m) (h0 : X.mg "len" = none) (g0 : Gl X "len" := by rfl) (hs : starEach [e] X.env = (false, eval e X.env) :: starEach [] X.env := by rfl) : JE X (.Call (.Name "len" p) [e] [] pos) (mLen C mf m) := fun W tk => by
  obtain ⟨Ca, f, hC, cl, hls, hfn, fd, ps, hl, hkp, hbd, F⟩ := h
  have hC : X.mg (nm C) = some (.ref Ca) := hC
  have hc : CallR X (.builtin "len") (fun xs H Q => ∃ a dx fs, xs = [.ref a] ∧ H a = some (.ins Ca dx fs) ∧ spM X.K X.mg mf [.ref a] H (fun v H' => ∃ i : Int, v = .int i ∧ (0 ≤ i ∧ i < 1000000) ∧ Q v H') (fun _ _ _ => False)) := by
    intro pins s σ H xs us Q I r h
    obtain ⟨a, dx, fs, rfl, ea, hsp⟩ := h
    obtain rfl : us = [.ref a] := by
      cases r with
      | cons r1 r2 => cases r2; cases r1; rfl
    obtain ⟨mA, O, _⟩ := ins_get I.hok ea
    obtain ⟨od, J, _⟩ := O.look
    obtain ⟨m0, fr⟩ := I.fr
    refine PySem.W.len_K fr I.ok.mod.kin J hls hfn (wpAny_call ?_)
    have hlen : ([Value.ref a] : List Value).length = ps.length := by rw [hl]; rfl
    have b := hbd s [.ref a] I.kIn (by rw [List.append_nil]; exact hlen)
    rw [List.append_nil] at b
    refine codeAny_mono (F.run X.A.in1 X.stack s H ⟨[.ref a], []⟩ [.ref a] [.ref a] _ _ hr.in1 I.env0.in1 b (.cons rfl .nil) hsp) fun r s' hq => ?_
    cases r with
    | error er => exact False.elim (passL (X := X.nox) pins σ H s er s' (I.wish _) hq)
    | ok fl =>
      cases fl with
      | ret u =>
        obtain ⟨v, H', I3, rv, i, ev, hi, q3⟩ := I.after hq
        subst ev
        obtain ⟨t, eu⟩ := (show ∃ t, u = Value.int i t from rv)
        subst eu
        exact ⟨⟨hi.1, by omega⟩, .int i, H', I3.tok _, ⟨_, rfl⟩, q3⟩
      | next => exact False.elim hq
      | brk => exact False.elim hq
      | cont => exact False.elim hq
  refine PE.weak (pe_callB hc g0 h0 Boot.len (pa_cons (he W tk) pa_nil hs) (by decide) (by decide) hs rfl) fun σ H Q ⟨ι, ρ, st, S, sl, q⟩ => ?_
  refine ⟨ι, ρ, st, S, sl, Post.bind q fun w st1 ι1 H1 v l1 S1 r1 q1 => ?_⟩
  split at q1
  · rename_i hh
    obtain ⟨n, fs, e1, c1⟩ := isIns_at hh
    subst e1
    obtain ⟨xa, f1, g1⟩ := Rep.ref_inv r1
    obtain ⟨Ca1, dx, vs, i1, i2, i3⟩ := S1.at c1 g1
    rw [hC] at i1
    cases i1
    subst f1
    refine ⟨xa, dx, vs, rfl, i2, ι1, _, st1, S1, .cons (Rep.ref g1) .nil, ?_⟩
    cases hm : mf [.ref n] st1 with
    | ok w st2 =>
      rw [hm] at q1
      intro ι' H' b l S2 r
      cases w with
      | int i =>
        dsimp only at q1
        split at q1
        · rename_i hi
          rw [Rep.int_inv r]
          exact ⟨i, rfl, hi, q1 ι' H' _ l S2 Rep.int⟩
        · exact q1.elim
      | _ => exact q1.elim
    | exc x st2 => rw [hm] at q1; exact q1.elim
    | bad => rw [hm] at q1; exact q1.elim
  · exact q1.elim
/-- C.F, a constant of the class -/
theorem je_ccon {x f : Str} {Ca : Addr} {mc u : Value} {i : Int} {p2 : Pos} (hm : X.mg x = some (.ref Ca)) (r : ClX.CRead X.K Ca mc) (hv : ClX.CVal X.K Ca mc f (.int i) u) (hg : Gl X x := by rfl) (hd : (x == ("__debug__" : Str)) = false := by decide)
    (hb : attributeBase (.Name x p) f X.env (eval (.Name x p) X.env) = eval (.Name x p) X.env := by rfl) : JE X (.Attribute (.Name x p) f p2) (mC (.int i)) := fun W tk => by
  refine PE.weak (ClX.pe_cval (pe_glob (v := .ref Ca) hg hm rfl hd) hb) fun σ H Q ⟨ι, ρ, st, S, sl, q⟩ => ?_
  exact ⟨Ca, mc, .int i, u, rfl, r, hv, q.okSame S Rep.int⟩
end
end Ab

set_option Elab.async false
set_option linter.all false
set_option maxRecDepth 100000
set_option maxHeartbeats 1000000
/-! Ab: dicts with keys that are ints or texts. -/
namespace Ab
open PySem PySem.Spec PyProof.Rows L2
def keyW : Val → Option Key
  | .int i => some (.inl i)
  | .str s => some (.inr s)
  | _ => none
def valW : List (Key × Val) → Key → Option Val
  | [], _ => none
  | (q, w) :: r, k => if q = k then some w else valW r k
def repW (k : Key) (w : Val) : List (Key × Val) → List (Key × Val)
  | [] => []
  | (q, u) :: r => (if q = k then (q, w) else (q, u)) :: repW k w r
def putW (kvs : List (Key × Val)) (k : Key) (w : Val) : List (Key × Val) := if (kvs.any fun kv => decide (kv.1 = k)) = true then repW k w kvs else kvs ++ [(k, w)]
def mergeW (kvs more : List (Key × Val)) : List (Key × Val) := more.foldl (fun acc kv => putW acc kv.1 kv.2) kvs
def unkey : Key → Val
  | .inl i => .int i
  | .inr s => .str s
section
variable {mg : Str → Option Value} {ι : List Addr} {H : Hp} {K : PySem.W.Frag}
theorem keyW_rep {w : Val} {k : Key} {v : V} (h : keyW w = some k) (r : Rep mg ι H w v) : v = kV k := by
  cases w with
  | int i => cases h; exact Rep.int_inv r
  | str s => cases h; exact Rep.str_inv r
  | _ => cases h
theorem unkey_rep {k : Key} : Rep mg ι H (unkey k) (kV k) := by
  cases k with
  | inl i => exact Rep.int
  | inr s => exact Rep.str
theorem RepK.val {k : Key} {w : Val} : ∀ {ws : List (Key × Val)} {vs : List (Key × V)}, RepK mg ι H ws vs → valW ws k = some w → ∃ v, valV vs k = some v ∧ Rep mg ι H w v
  | _, _, .nil, h => by cases h
  | (q, u) :: ws, (q', v) :: vs, .cons h t, e => by
    obtain ⟨h1, h2⟩ := h
    simp only at h1 h2
    subst h1
    unfold valW at e
    by_cases c : q = k
    · rw [if_pos c] at e
      cases e
      exact ⟨v, valV_pos c, h2⟩
    · rw [if_neg c] at e
      rw [valV_neg c]
      exact RepK.val t e
theorem RepK.any {k : Key} : ∀ {ws : List (Key × Val)} {vs : List (Key × V)}, RepK mg ι H ws vs → (ws.any fun kv => decide (kv.1 = k)) = (vs.any fun kv => decide (kv.1 = k))
  | _, _, .nil => rfl
  | (q, u) :: ws, (q', v) :: vs, .cons h t => by
    obtain ⟨h1, h2⟩ := h
    simp only at h1
    subst h1
    rw [List.any_cons, List.any_cons, RepK.any t]
theorem RepK.rep {k : Key} {w : Val} {v : V} (r : Rep mg ι H w v) : ∀ {ws : List (Key × Val)} {vs : List (Key × V)}, RepK mg ι H ws vs → RepK mg ι H (repW k w ws) (vs.map fun kv => if kv.1 = k then (kv.1, v) else kv)
  | _, _, .nil => .nil
  | (q, u) :: ws, (q', z) :: vs, .cons h t => by
    obtain ⟨h1, h2⟩ := h
    simp only at h1 h2
    subst h1
    unfold repW
    rw [List.map_cons]
    refine .cons ?_ (RepK.rep r t)
    by_cases c : q = k
    · rw [if_pos c, if_pos c]; exact ⟨rfl, r⟩
    · rw [if_neg c, if_neg c]; exact ⟨rfl, h2⟩
theorem RepK.append : ∀ {ws ws' : List (Key × Val)} {vs vs' : List (Key × V)}, RepK mg ι H ws vs → RepK mg ι H ws' vs' → RepK mg ι H (ws ++ ws') (vs ++ vs')
  | _, _, _, _, .nil, h => h
  | _, _, _, _, .cons a t, h => .cons a (RepK.append t h)
theorem RepK.put {k : Key} {w : Val} {v : V} {ws : List (Key × Val)} {vs : List (Key × V)} (h : RepK mg ι H ws vs) (r : Rep mg ι H w v) : RepK mg ι H (putW ws k w) (putK vs k v) := by
  unfold putW putK
  rw [h.any]
  split
  · exact h.rep r
  · exact h.append (.cons ⟨rfl, r⟩ .nil)
theorem RepK.length {ws : List (Key × Val)} {vs : List (Key × V)} (h : RepK mg ι H ws vs) : ws.length = vs.length := Paired.length h
theorem Sim.atD {st : Store} {n : Nat} {a : Addr} {kvs : List (Key × Val)} (S : Sim K mg ι st H) (h : st[n]? = some (.dct kvs)) (ha : ι[n]? = some a) : ∃ vs, H a = some (.dK vs) ∧ RepK mg ι H kvs vs := S.cell n _ a h ha
theorem Sim.putD {st : Store} {n : Nat} {a : Addr} {kvs : List (Key × Val)} {kvs' : List (Key × Val)} {vs vs' : List (Key × V)} (S : Sim K mg ι st H) (h : st[n]? = some (.dct kvs)) (ha : ι[n]? = some a) (hH : H a = some (.dK vs)) (r : RepK mg ι H kvs' vs') :
    Sim K mg ι (st.set n (.dct kvs')) (upd H a (.dK vs')) ∧ Later ι H ι (upd H a (.dK vs')) := by
  have l : Later ι H ι (upd H a (.dK vs')) := ⟨⟨[], by simp⟩, fun b xs e => by rw [upd_ne fun q => by subst q; rw [hH] at e; cases e]; exact e, fun b ob ks e => by rw [upd_ne fun q => by subst q; rw [hH] at e; cases e; exact ks]; exact e⟩
  exact S.write (c' := .dct kvs') (o' := .dK vs') h ha rfl rfl hH (fun _ e => by cases e) (fun _ _ e => by cases e) ⟨vs', upd_same, r.later l⟩
end
/-! ### d[k] -/
/-- the items of a dict that is read -/
@[reducible] def dctAt (st : Store) (n : Nat) : Option (List (Key × Val)) := match st[n]? with
  | some (.dct kvs) => some kvs
  | some (.fdc kvs) => some kvs
  | _ => none
@[reducible] def vDget (x y : Val) (st : Store) : R Val := match x, keyW y with
  | .ref n, some k => match dctAt st n with
    | some kvs => match valW kvs k with
      | some w => .ok w st
      | none => .bad
    | _ => .bad
  | _, _ => .bad
@[reducible] def mDget (mo mi : ME) : ME := fun ρ st => (mo ρ st).bind fun x st1 => (mi ρ st1).bind fun y st2 => vDget x y st2
section
variable {X : Cx} {o i : Expr} {mo mi : ME} {pos : Pos}
/-! ### d[k] = v, as a target -/
@[reducible] def gSubD (mo mi : ME) : MG := fun w ρ st => match mo ρ st with
  | .ok x st1 => match mi ρ st1 with
    | .ok y st2 => match x, keyW y with
      | .ref n, some k => match st2[n]? with
        | some (.dct kvs) => if kvs.length < 1000 then some (ρ, st2.set n (.dct (putW kvs k w))) else none
        | _ => none
      | _, _ => none
    | _ => none
  | _ => none
end
/-! ### {k: v, ..} -/
def pairsM : List (ME × ME) → Slots → Store → R (List (Key × Val))
  | [], _, st => .ok [] st
  | (mk, mv) :: r, ρ, st => (mk ρ st).bind fun x st1 => match keyW x with
    | some k => (mv ρ st1).bind fun y st2 => (pairsM r ρ st2).bind fun ps st3 => .ok ((k, y) :: ps) st3
    | none => .bad
@[reducible] def mDisp (prs : List (ME × ME)) : ME := fun ρ st => (pairsM prs ρ (st ++ [.dct []])).bind fun kvs st2 => match st2[st.length]? with
  | some (.dct []) => if kvs.length ≤ 15 then .ok (.ref st.length) (st2.set st.length (.dct (mergeW [] kvs))) else .bad
  | _ => .bad
section
variable {X : Cx} {k v : Expr} {ks : List (Option Expr)} {vs : List Expr} {mk mv : ME} {prs : List (ME × ME)} {pos : Pos}
end
/-! ### list(d.items()) -/
@[reducible] def mItems (m : ME) : ME := fun ρ st => (m ρ st).bind fun x st1 => match x with
  | .ref n => match st1[n]? with
    | some (.dct kvs) => .ok (.ref st1.length) (st1 ++ [.lst (kvs.map fun kv => .tup [unkey kv.1, kv.2])])
    | _ => .bad
  | _ => .bad

theorem items_rep {mg : Str → Option Value} {ι : List Addr} {H : Hp} : ∀ {kvs : List (Key × Val)} {vs : List (Key × V)} {ts : List Addr}, RepK mg ι H kvs vs → Paired (fun (t : Addr) (q : Key × V) => H t = some (.tup [kV q.1, q.2])) ts vs → Reps mg ι H (kvs.map fun kv => .tup [unkey kv.1, kv.2]) (ts.map V.ref)
  | _, _, _, .nil, .nil => .nil
  | (kk, ww) :: _, _, _, .cons a b, .cons h tl => by
    obtain ⟨a1, a2⟩ := a
    simp only at a1 a2
    refine .cons ?_ (items_rep b tl)
    rw [Rep]
    refine ⟨_, _, rfl, h, .cons ?_ (.cons a2 .nil)⟩
    rw [← a1]
    exact unkey_rep
section
variable {X : Cx} {e : Expr} {m : ME} {p apos cpos pos : Pos}
theorem je_listItems (hc : X.calm = true) (hm : X.mg "list" = none) (he : JE X e m) (hg : Gl X "list" := by rfl) (hbase : attributeBase e "items" X.env (eval e X.env) = eval e X.env := by rfl) (hline : (apos.endLine == cpos.line) = true := by rfl)
    (hs : starEach [.Call (.Attribute e "items" apos) [] [] cpos] X.env = (false, eval (.Call (.Attribute e "items" apos) [] [] cpos) X.env) :: starEach [] X.env := by rfl) :
    JE X (.Call (.Name "list" p) [.Call (.Attribute e "items" apos) [] [] cpos] [] pos) (mItems m) := fun W tk => by
  refine PE.weak (LiI.pe_listItems hc (he W tk) hg hm Boot.list hbase hline hs) fun σ H Q ⟨ι, ρ, st, S, sl, q⟩ => ?_
  refine ⟨ι, ρ, st, S, sl, Post.bind q fun x st1 ι1 H1 xv l1 S1 r1 p1 => ?_⟩
  split at p1
  · rename_i n
    obtain ⟨a, e1, ha⟩ := Rep.ref_inv r1
    split at p1
    · rename_i kvs ec
      obtain ⟨vs, h1, h2⟩ := S1.atD ec ha
      refine ⟨a, vs, e1, h1, fun H' q ts hsm hq hts hqt hl hp => ?_⟩
      have r := items_rep (h2.later (Same.laterH (ι := ι1) hsm)) hp
      obtain ⟨S2, l2⟩ := S1.push (c := .lst (kvs.map fun kv => .tup [unkey kv.1, kv.2])) hq hsm ⟨ts.map V.ref, hl, r.later ⟨⟨[q], rfl⟩, fun b xs e => e, fun _ _ _ e => e⟩⟩
      exact p1 _ H' _ l2 S2 (Rep.ref (by rw [← S1.len, List.getElem?_append_right (Nat.le_refl _)]; simp))
    · exact p1.elim
  · exact p1.elim
end
/-! ### {k: v for ..} -/
open Classical in
noncomputable def dcM (g : MG) (t : MT) (mk mv : ME) (okp : Store → Prop) (D : Nat) (ρ : Slots) : List Val → Store → R Val
  | [], st => if okp st then .ok (.ref D) st else .bad
  | w :: ws, st => if okp st then match g w ρ st with
      | none => .bad
      | some (ρ1, st1) => ((t ρ1 st1).noX).bind fun k st2 =>
        if k = true then ((mk ρ1 st2).noX).bind fun x st3 => ((mv ρ1 st3).noX).bind fun y st4 => match st4[D]?, keyW x with
          | some (.dct acc), some kk => if acc.length < 1000 then dcM g t mk mv okp D ρ ws (st4.set D (.dct (putW acc kk y))) else .bad
          | _, _ => .bad
        else dcM g t mk mv okp D ρ ws st2
    else .bad
@[reducible] noncomputable def mDc (mi : MI) (g : MG) (t : MT) (mk mv : ME) (vs : List Nat) : ME := fun ρ st => (mi ρ st).bind fun it st1 => dcM g t mk mv it.2 st1.length (wipeM ρ vs) it.1 (st1 ++ [.dct []])
section
variable {X : Cx} {kx vx tg iter : Expr} {ifs : List Expr} {scope : Scope} {own : List (Str × Nat)} {pos : Pos} {mi : MI} {g : MG} {t : MT} {mk mv : ME}
theorem dc_read {W : WX} {σ : L2.St} {H : Hp} {Q : VK} (h : rdG X.K X.mg (rel1 X.mg) W (mDc mi g t mk mv (ixs own)) σ H Q) :
    tDc (rdG X.K X.mg (relI X.K X.mg) W mi) (rdT X.K X.mg (ixs own) g) (rdG X.K X.mg relB W0 t) (rdG X.K X.mg (rel1 X.mg) W0 mk) (rdG X.K X.mg (rel1 X.mg) W0 mv) (ixs own) σ H Q := by
  obtain ⟨ι, ρ, st, S, sl, p⟩ := h
  refine ⟨ι, ρ, st, S, sl, Post.bind p fun it st1 ι1 H1 J l1 S1 r1 p1 => fun D hD => ?_⟩
  obtain ⟨items, okp⟩ := it
  have r1 : IsIt X.K X.mg items okp ι1 H1 J := r1
  have sl1 := wipeM_ok (sl.later l1) (ixs own)
  have hs := same_new (o := .dK []) hD
  obtain ⟨S2, l2⟩ := S1.push (c := .dct []) hD hs ⟨[], upd_same, .nil⟩
  have hDi : (ι1 ++ [D])[st1.length]? = some D := by rw [← S1.len, List.getElem?_append_right (Nat.le_refl _)]; simp
  refine ⟨fun i m H' => ∃ ι' st', Later (ι1 ++ [D]) (upd H1 D (.dK [])) ι' H' ∧ Sim X.K X.mg ι' st' H' ∧ m = items.length - i ∧ i ≤ items.length ∧ Post X.K X.mg (rel1 X.mg) ι' H' Q (fun c d H' => W c d σ H') (dcM g t mk mv okp st1.length (wipeM ρ (ixs own)) (items.drop i) st'),
    ⟨items.length, ι1 ++ [D], st1 ++ [.dct []], Later.refl _ _, S2, by simp, Nat.zero_le _, by simpa using Post.later p1 l2⟩, ?_⟩
  rintro i m H3 ⟨ι3, st3, l3, S3, rfl, hi, p3⟩
  have l13 := l2.trans l3
  by_cases hlt : i < items.length
  · rw [List.drop_eq_getElem_cons hlt] at p3
    unfold dcM at p3
    split at p3
    · rename_i hok
      refine .inr ⟨r1.go i ι3 H3 st3 l13 S3 hok hlt, fun H4 => ∃ ι4 st4, Later (ι1 ++ [D]) (upd H1 D (.dK [])) ι4 H4 ∧ Sim X.K X.mg ι4 st4 H4 ∧ Post X.K X.mg (rel1 X.mg) ι4 H4 Q (fun c d H' => W c d σ H') (dcM g t mk mv okp st1.length (wipeM ρ (ixs own)) (items.drop (i + 1)) st4), ?_, ?_⟩
      · rintro H4 ⟨ι4, st4, l4, S4, p4⟩
        exact ⟨items.length - (i + 1), by omega, ι4, st4, l4, S4, rfl, hlt, p4⟩
      · intro x H4 hy
        obtain ⟨l4, S4, w, hw, rw_⟩ := r1.yld i ι3 H3 st3 x H4 l13 S3 hok hlt hy
        have hw' : items[i] = w := by rw [List.getElem?_eq_getElem hlt] at hw; exact Option.some.inj hw
        rw [hw'] at p3
        refine ⟨ι3, wipeM ρ (ixs own), st3, w, S4, sl1.later (l13.trans l4), rw_, ?_⟩
        cases q : g w (wipeM ρ (ixs own)) st3 with
        | none => rw [q] at p3; exact p3.elim
        | some z =>
          obtain ⟨ρ5, st5⟩ := z
          rw [q] at p3
          dsimp only at p3
          intro ι5 H5 σ5 l5 S5 sl5 o5
          have l15 := (l3.trans l4).trans l5
          have p5 := Post.later (Post.later p3 l4) l5
          refine ⟨wipe_same o5, ι5, ρ5, st5, S5, sl5, ?_⟩
          refine Post.noX (E := fun c d H' => W c d σ H') (Post.bind p5 fun k st6 ι6 H6 k' l6 S6 r6 p6 => ?_)
          have r6 : k = k' := r6
          subst r6
          have sl6 := sl5.later l6
          have l16 := l15.trans l6
          cases k with
          | false =>
            rw [if_neg Bool.false_ne_true] at p6
            exact iteF ⟨ι6, st6, l16, S6, p6⟩
          | true =>
            rw [if_pos rfl] at p6
            refine iteT ⟨ι6, ρ5, st6, S6, sl6, ?_⟩
            refine Post.noX (E := fun c d H' => W c d σ H') (Post.bind p6 fun x7 st7 ι7 H7 xv l7 S7 r7 p7 => ?_)
            refine ⟨ι7, ρ5, st7, S7, sl6.later l7, ?_⟩
            refine Post.noX (E := fun c d H' => W c d σ H') (Post.bind p7 fun y st8 ι8 H8 yv l8 S8 r8 p8 => ?_)
            have l18 := (l16.trans l7).trans l8
            have hD8 := l18.get hDi
            split at p8
            · rename_i acc kk eacc ekk
              obtain ⟨vs, hvs, rvs⟩ := S8.atD eacc hD8
              split at p8
              · rename_i hz
                obtain ⟨S9, l9⟩ := S8.putD eacc hD8 hvs (rvs.put (k := kk) r8)
                exact ⟨vs, kk, keyW_rep ekk r7, hvs, by rw [← rvs.length, sizeLine_eq]; omega, ι8, _, l18.trans l9, S9, Post.later p8 l9⟩
              · exact p8.elim
            · exact p8.elim
    · exact p3.elim
  · have hle : items.length ≤ i := by omega
    rw [List.drop_eq_nil_of_le hle] at p3
    unfold dcM at p3
    split at p3
    · rename_i hok
      exact .inl ⟨r1.stop i ι3 H3 st3 l13 S3 hok (by omega), p3.okSame S3 (Rep.ref (l3.get hDi))⟩
    · exact p3.elim
theorem je_dc (hc : X.calm = true) (hN : X.N.Nodup) (own : List (Str × Nat)) (hi : JI X tg iter mi) (ok : blkC X.N X.env.scope scope own = true)
    (hg : ∀ (s : Shared) (H : Hp) (C : Addr) (cl : List (Str × Addr)) (fp : List Addr), JG (X.blk s H scope (compEnvC scope cl C X.env) fp) tg (ixs own) g) (ht : ∀ (s : Shared) (H : Hp) (C : Addr) (cl : List (Str × Addr)) (fp : List Addr), JTs (X.blk s H scope (compEnvC scope cl C X.env) fp) ifs t)
    (hk : ∀ (s : Shared) (H : Hp) (C : Addr) (cl : List (Str × Addr)) (fp : List Addr), JE (X.blk s H scope (compEnvC scope cl C X.env) fp) kx mk)
    (he : ∀ (s : Shared) (H : Hp) (C : Addr) (cl : List (Str × Addr)) (fp : List Addr), JE (X.blk s H scope (compEnvC scope cl C X.env) fp) vx mv) (hs : ∀ x, foldedSetIterable iter X.env x = pure x := by intro _; rfl) :
    JE X (.DictComp kx vx [⟨tg, iter, ifs, 0⟩] scope pos) (mDc mi g t mk mv (ixs own)) := fun W tk =>
  PE.weak (pe_dc (wi := rdG X.K X.mg (relI X.K X.mg) W mi) (g := rdT X.K X.mg (ixs own) g) (tt := rdG X.K X.mg relB W0 t) (tk := rdG X.K X.mg (rel1 X.mg) W0 mk) (tv := rdG X.K X.mg (rel1 X.mg) W0 mv) hc hN (hi W tk) (blkOk_by ok) (fun s H C cl fp => hg s H C cl fp) (fun s H C cl fp => ht s H C cl fp W0 takes0) (fun s H C cl fp => hk s H C cl fp W0 takes0)
    (fun s H C cl fp => he s H C cl fp W0 takes0) hs) fun σ H Q h => dc_read h
end
end Ab

set_option Elab.async false
set_option linter.all false
set_option maxRecDepth 100000
set_option maxHeartbeats 1000000
/-! Ab: a tuple or a list times an int. -/
namespace L2
open PySem PySem.Spec PyProof.Rows
theorem tuple_mul1 (l : Addr) (items : Array Value) (n : Nat) (dd : Option Addr) (sl : Array (Option Value)) (u : Tok) :
    Meets (Builtin.«tuple.__mul__» ⟨[.ref l, .int 1 u], []⟩) (fun _ R s => s.heap.get? l = some { cls := .type "tuple", dict := dd, data := .seq items n, slots := sl } ∧ R (.ok (.ret (Value.ref l))) s) :=
  .of_wp fun prog w A R s h => by
    obtain ⟨hp, g, d, tk, os⟩ := s
    obtain ⟨hl, h⟩ := h
    have f1 := AutoSeq1.idx_int
    have c0 : (decide ((1 : Int) < -(2 ^ 63)) || decide ((1 : Int) ≥ 2 ^ 63)) = false := by decide
    have c1 : (items.isEmpty || (1 : Int) == 1) = true := by simp
    wp_walk using wpAny_loadPart' hl
    repeat (first
      | (refine wpAny_ite_false (decide_eq_false (by rw [c0]; exact Bool.false_ne_true)) ?_; wp_walk using wpAny_loadPart' hl)
      | (refine wpAny_ite_true (decide_eq_true (by rw [c1])) ?_; wp_walk using wpAny_loadPart' hl))
    exact ⟨_, rfl, h⟩

theorem op_repT1 {X : Cx} : OpR X (binaryOp .Mult) (fun x y H Q => ∃ l xs, x = .ref l ∧ y = .int 1 ∧ SqT X.K H l xs ∧ Q (.ref l) H) := by
  intro pins s σ H x y v u Q I rx ry h
  obtain ⟨l, xs, rfl, rfl, hT, q⟩ := h
  cases rx
  obtain ⟨t, rfl⟩ := ry
  obtain ⟨its, r, ⟨⟨cls, dd, data, sl⟩, ho, hc, n, hd⟩, hs⟩ := I.tuple hT
  simp only at hc hd
  subst hc hd
  refine wpAny_binaryOp_repeat_ref (T := "tuple") (U := "int") (by decide) ⟨_, ho, rfl⟩ (fun s' => typeIs_int s' 1 t) noFill_tuple_mul F.fills_int_mul F.slot_int_rmul repeat_tuple F.slot_int_index.lookup
    (call_meets F.slot_int_rmul (typeIs_int s 1 t) F.entry_int_rmul (F.args_int_rmul_2 _ _) (int_rmul_tuple 1 t l its.toArray n dd sl)
      ⟨ho, rfl, ⟨_, ho, rfl⟩, call_meets F.slot_tuple_mul ⟨_, ho, rfl⟩ F.entry_tuple_mul (F.args_tuple_mul_2 _ _) (tuple_mul1 l its.toArray n dd sl t) ⟨ho, ?_⟩⟩)
  exact ⟨.ref l, H, I, rfl, q⟩
end L2
namespace Ab
open PySem PySem.Spec PyProof.Rows L2
def repW' (k : Nat) (xs : List Val) : List Val := (List.replicate k xs).flatten
theorem Reps.rep {mg : Str → Option Value} {ι : List Addr} {H : Hp} {xs : List Val} {vs : List V} (r : Reps mg ι H xs vs) : ∀ k : Nat, Reps mg ι H (repW' k xs) (List.replicate k vs).flatten
  | 0 => .nil
  | k + 1 => by
    unfold repW'
    rw [List.replicate_succ, List.replicate_succ, List.flatten_cons, List.flatten_cons]
    exact r.append (Reps.rep r k)
/-- t * k, t a tuple that is not empty -/
@[reducible] def vRepT : Val → Val → Store → R Val
  | .tup xs, .int k, st => if xs ≠ [] ∧ 1 ≤ k ∧ k ≤ 1000 ∧ xs.length ≤ 1000 then .ok (.tup (repW' k.toNat xs)) st else .bad
  | _, _, _ => .bad
/-- xs * k, xs a list of our own -/
@[reducible] def vRepL : Val → Val → Store → R Val
  | .ref n, .int k, st => match st[n]? with
    | some (.lst xs) => if -1000 ≤ k ∧ k ≤ 1000 ∧ xs.length ≤ 1000 then .ok (.ref st.length) (st ++ [.lst (repW' k.toNat xs)]) else .bad
    | _ => .bad
  | _, _, _ => .bad
theorem quiet_repT (x y : Val) (st : Store) : Quiet (vRepT x y st) := by
  intro e s h
  unfold vRepT at h
  split at h
  · split at h <;> cases h
  · cases h
theorem quiet_repL (x y : Val) (st : Store) : Quiet (vRepL x y st) := by
  intro e s h
  unfold vRepL at h
  split at h
  · split at h
    · split at h <;> cases h
    · cases h
  · cases h
section
variable {X : Cx}
theorem m2_repT : M2 X (binaryOp .Mult) vRepT := by
  rintro pins s σ H x y u1 u2 Q I rx ry ⟨ι, st, w1, w2, S, r1, r2, p⟩
  unfold vRepT at p
  split at p
  · rename_i xs k
    obtain ⟨a, vs, e1, ha, r⟩ := Rep.tup_inv r1
    have e2 := Rep.int_inv r2
    subst e1 e2
    split at p
    · rename_i hh
      obtain ⟨h0, h1, h2, h3⟩ := hh
      by_cases hk : k = 1
      · subst hk
        refine op_repT1 pins s σ H _ _ u1 u2 Q I rx ry ⟨a, vs, rfl, rfl, SqT.of ha, ?_⟩
        have e : repW' (1 : Int).toNat xs = xs := by simp [repW']
        rw [e] at p
        exact p.okSame S r1
      · refine op_repT pins s σ H _ _ u1 u2 Q I rx ry ⟨a, k, vs, rfl, rfl, SqT.of ha, ?_, by omega, h2, by rw [← r.length]; exact h3, fun q hq => ?_⟩
        · intro e
          have := r.length
          rw [e] at this
          exact h0 (List.eq_nil_of_length_eq_zero this)
        · exact p.newTup S (r.rep _) hq
    · exact p.elim
  · exact p.elim
theorem m2_repL : M2 X (binaryOp .Mult) vRepL := by
  rintro pins s σ H x y u1 u2 Q I rx ry ⟨ι, st, w1, w2, S, r1, r2, p⟩
  unfold vRepL at p
  split at p
  · rename_i n k
    obtain ⟨a, e1, ha⟩ := Rep.ref_inv r1
    have e2 := Rep.int_inv r2
    subst e1 e2
    split at p
    · rename_i xs ec
      obtain ⟨vs, h1, rr⟩ := S.at ec ha
      split at p
      · rename_i hh
        obtain ⟨h2, h3, h4⟩ := hh
        refine op_rep pins s σ H _ _ u1 u2 Q I rx ry ⟨a, k, vs, rfl, rfl, h1, by omega, by omega, ?_, fun q hq => ?_⟩
        · rw [← rr.length, sizeLine_eq]
          have a1 : xs.length * k.toNat ≤ 1000 * 1000 := Nat.mul_le_mul h4 (by omega)
          omega
        · exact p.newLst S (rr.rep _) hq
      · exact p.elim
    · exact p.elim
  · exact p.elim
end
end Ab

set_option Elab.async false
set_option linter.all false
set_option maxRecDepth 100000
set_option maxHeartbeats 1000000
/-! Ab: += and -= of ints; an attribute as a target. -/
namespace Ab
open PySem PySem.Spec PyProof.Rows L2
@[reducible] def vIAdd : Val → Val → Store → R Val
  | .int i, .int j, st => .ok (.int (i + j)) st
  | _, _, _ => .bad
theorem quiet_iadd (x y : Val) (st : Store) : Quiet (vIAdd x y st) := by
  intro e s h; unfold vIAdd at h; split at h <;> cases h
section
variable {X : Cx}
theorem m2_iadd : M2 X (inplaceOp .Add) vIAdd := by
  rintro pins s σ H x y u1 u2 Q I rx ry ⟨ι, st, w1, w2, S, r1, r2, p⟩
  unfold vIAdd at p
  split at p
  · have e1 := Rep.int_inv r1; have e2 := Rep.int_inv r2
    subst e1 e2
    exact iop_add pins s σ H _ _ u1 u2 Q I rx ry ⟨_, _, rfl, rfl, p.okSame S Rep.int⟩
  · exact p.elim
end
/-- o.f as a target -/
@[reducible] def gFld (cs : List Nat) (f : Nat) (mo : ME) : MG := fun w ρ st => match mo ρ st with
  | .ok x st1 => match x with
    | .ref n => match st1[n]? with
      | some (.ins C fs) => if C ∈ cs ∧ fs.length < 1000 then some (ρ, st1.set n (.ins C (putM f w fs))) else none
      | _ => none
    | _ => none
  | _ => none
end Ab
namespace Ab
open PySem PySem.Spec L2
/-- the context of a def's body at its entry -/
abbrev cx1 (T : Wh) (N : List Str) (qual : Str) (st : Stmt) (f : Addr) (cdv : Value) (A : Around) (outer : List Env) (s : Shared) (H : Hp) (E : XK) : Cx := cxOf (L2.CX T.P T.w) T.P T.w T.K T.mg T.base N qual (defScope st) f cdv A outer s H E
theorem cx1_pass {T : Wh} {N : List Str} {qual : Str} {st : Stmt} {f : Addr} {cdv : Value} {A : Around} {outer : List Env} {s : Shared} {H : Hp} {E : XK} : PassesOwn (model (cx1 T N qual st f cdv A outer s H E).prog (cx1 T N qual st f cdv A outer s H E).w) (cx1 T N qual st f cdv A outer s H E).A (cx1 T N qual st f cdv A outer s H E).env (cx1 T N qual st f cdv A outer s H E).xe := passes_of rfl
/-- THE RULE for a def, the context told -/
theorem fnM_of1 {T : Wh} {x qual : Str} {st : Stmt} {f : Addr} {fd : FuncData} {N ps : List Str} {k n m : Nat} {body : MS} (F : Fun T.K x qual st f fd) (hb : Binds T.K fd ps []) (S : FnScope N ps (defScope st)) (hn : ps.length = n) (hm : N.length = n + m)
    (h : ∀ (cdv : Value) (A : Around) (outer : List Env) (s : Shared) (H : Hp) (E : XK), Room k (cx1 T N qual st f cdv A outer s H E).A → JSs (cx1 T N qual st f cdv A outer s H E) (defBody st) body) :
    FnM T (k + 1) n f (defM n m body) := by
  refine ⟨fd, ps, hn, F.kp, hb, F.okX S (fun vs H Q E hsp => ?_) (fun cdv A outer s H vs Q E hr hsp => ?_)⟩
  · obtain ⟨ι, ws, st', S', r, p⟩ := hsp
    unfold defM at p
    split at p
    · rename_i hl
      rw [← r.length, hl, hn]
    · exact p.elim
  · obtain ⟨ι, ws, st', S', r, p⟩ := hsp
    unfold defM at p
    split at p
    · rename_i hl
      have j := h cdv A outer s H E hr
      refine ⟨_, j (fun cls d _ H => E cls d H) (takes_of rfl rfl rfl rfl), ι, _, st', S', slots_start r (by rw [hl]; exact hm), ?_⟩
      show PostO T.K T.mg _ ι H _ (body (ws.map some ++ List.replicate m none) st')
      cases q : body (ws.map some ++ List.replicate m none) st' with
      | nx ρ s1 => rw [q] at p; exact fun ι1 H1 σ1 l S1 sl => p ι1 H1 _ l S1 Rep.non
      | ret w s1 => rw [q] at p; exact p
      | exc x ρ s1 => rw [q] at p; exact fun ι1 H1 σ1 c d l S1 sl r => p ι1 H1 c d l S1 r
      | brk ρ s1 => rw [q] at p; exact p.elim
      | ct ρ s1 => rw [q] at p; exact p.elim
      | bad => rw [q] at p; exact p.elim
    · exact p.elim
theorem tbl1 {P : Nat → MF → Prop} {C : Nat} {mf : MF} (h : P C mf) : ∀ C' mf', (C', mf') ∈ [(C, mf)] → P C' mf' := fun C' mf' hm => by
  cases List.mem_singleton.mp hm
  exact h
theorem fld1 {P : Nat → Prop} {C : Nat} (h : P C) : ∀ D ∈ [C], P D := fun D hm => by
  cases List.mem_singleton.mp hm
  exact h
theorem fnMR_of1 {T : Wh} {x qual : Str} {st : Stmt} {f : Addr} {fd : FuncData} {N ps : List Str} {pv : Str} {k n m : Nat} {body : MS} (F : Fun T.K x qual st f fd) (S : FnScope N (ps ++ [pv]) (defScope st)) (hn : ps.length = n) (hm : N.length = n + 1 + m)
    (hb : ∀ (kV doc pm : Value) (an : Option Addr) (cdv ct : Value) (us rest : List Value), us.length = ps.length → bindArgs (PySem.W.fnOf x qual (defArgs st) (defBody st) (defScope st) .none kV doc pm an cdv ct) ⟨us ++ rest, []⟩ = (newTuple rest >>= fun t => pure (ps.zip us ++ [(pv, t)])))
    (h : ∀ (cdv : Value) (A : Around) (outer : List Env) (s : Shared) (H : Hp) (E : XK), Room k (cx1 T N qual st f cdv A outer s H E).A → JSs (cx1 T N qual st f cdv A outer s H E) (defBody st) body) :
    FnMR T (k + 1) f (defStarM n m body) := by
  obtain ⟨oc, od, kV, doc, pm, an, cdv, ct, osl, rfl, lk, hcd⟩ := F.ex
  refine ⟨F.kp, FnR.imp (StX.fn_star (ps := ps) (pv := pv) (sp := fun vs H Q E => ∃ ι ws st', Sim T.K T.mg ι st' H ∧ Reps T.mg ι H ws vs ∧ ws.length = n + 1 ∧ Post T.K T.mg (rel1 T.mg) ι H Q E (body (ws.map some ++ List.replicate m none) st').fin) lk hcd S StX.cxUp (hb kV doc pm an cdv ct) fun A outer s H vs Q E hr hsp => ?_) fun vs H Q E hsp => ?_⟩
  · obtain ⟨ι, ws, st', S', r, hl, p⟩ := hsp
    have j := h cdv A outer s H E hr
    refine ⟨_, j (fun cls d _ H => E cls d H) (takes_of rfl rfl rfl rfl), ι, _, st', S', slots_start r (by rw [hl]; exact hm), ?_⟩
    show PostO T.K T.mg _ ι H _ (body (ws.map some ++ List.replicate m none) st')
    cases q : body (ws.map some ++ List.replicate m none) st' with
    | nx ρ s1 => rw [q] at p; exact fun ι1 H1 σ1 l S1 sl => p ι1 H1 _ l S1 Rep.non
    | ret w s1 => rw [q] at p; exact p
    | exc x ρ s1 => rw [q] at p; exact fun ι1 H1 σ1 c d l S1 sl r => p ι1 H1 c d l S1 r
    | brk ρ s1 => rw [q] at p; exact p.elim
    | ct ρ s1 => rw [q] at p; exact p.elim
    | bad => rw [q] at p; exact p.elim
  · obtain ⟨ι, ws, st', S', r, p⟩ := hsp
    unfold defStarM at p
    split at p
    · rename_i hl
      have lv := r.length
      have r1 : Reps T.mg ι H (ws.take n) (vs.take n) := r.take n
      have r2 : Reps T.mg ι H (ws.drop n) (vs.drop n) := r.drop n
      refine ⟨vs.take n, vs.drop n, (List.take_append_drop n vs).symm, by rw [List.length_take, hn]; omega, by rw [List.length_drop, sizeLine_eq]; omega, fun q hq => ?_⟩
      have hs := same_new (o := .tup (vs.drop n)) hq
      refine ⟨ι, _, st', S'.same hs, (r1.later (Same.laterH hs)).append (.cons (Rep.newTup hq r2) .nil), by rw [List.length_append, List.length_take]; simp; omega, Post.later p (Same.laterH hs)⟩
    · exact p.elim
end Ab

set_option Elab.async false
set_option linter.all false
set_option maxRecDepth 100000
set_option maxHeartbeats 4000000
/-! Ab: the except suite of _law_outcome, as a mirror, and what it tells. -/
namespace Ab
open PySem PySem.Spec PyProof.Rows L2
/-- what of the text a class of exceptions must have -/
structure ExAll (T : Wh) (D : Nat) (Da : Addr) : Prop where
  ec : ExcC T.K Da
  xf : XfC T.K Da
  nof : ∀ f ∈ [24, 25, 26, 27, 28], PySem.W.findIn T.K (.ref Da) (nm f) = some none
  isC : ∀ C ∈ [1, 2, 4, 6, 7, 8, 9, 10], ∀ Ca, T.mg (nm C) = some (.ref Ca) → PySem.W.kitOne T.K (.ref Da) (.ref Ca) = some (decide (D = C))
  isV : PySem.W.kitOne T.K (.ref Da) (.type "ValueError") = some true
  row : ∀ RA, T.mg "RowError" = some (.ref RA) → PySem.W.exmOne T.K (.ref Da) (.ref RA) = some true
theorem cls_own {X : Cx} {a : Addr} {pn : List (Addr × Obj)} {cn : Str} {Ca : Addr} {p : Pos} (hm : X.mg cn = some (.ref Ca)) (hg : Gl X cn := by rfl) (hd : (cn == ("__debug__" : Str)) = false := by decide) :
    ∃ v, RelV v (.ref Ca) ∧ (∀ u, RelV v u → u = .ref Ca) ∧ PE (X.suite a pn) (.Name cn p) (tC v) := ⟨.ref Ca, rfl, fun u h => h, pe_glob (X := X.suite a pn) hg hm rfl hd⟩
theorem cls_blt {X : Cx} {a : Addr} {pn : List (Addr × Obj)} {cn : Str} {t : String} {p : Pos} (hm : X.mg cn = none) (hv : bootBuiltins cn = some (.type t)) (hg : Gl X cn := by rfl) (hn : cn ≠ "__name__" := by decide) (hd : (cn == ("__debug__" : Str)) = false := by decide) :
    ∃ v, RelV v (.type t) ∧ (∀ u, RelV v u → u = .type t) ∧ PE (X.suite a pn) (.Name cn p) (tC v) := ⟨.ty t, rfl, fun u h => h, pe_bltn (X := X.suite a pn) hg hm hv rfl hn hd⟩
@[reducible] def isD (aa : Addr) (d : Option Addr) (Dn c : Nat) : ME := mIsE 1 aa d (decide (Dn = c))
def mSuite (aa : Addr) (d : Option Addr) (Dn : Nat) : MS :=
  sSeq (sSet 2 (mLst (aCons (isD aa d Dn 9) (aCons (isD aa d Dn 10) (aCons (isD aa d Dn 4) aNil)))))
  (sSeq (sDrop (mBM "list" vExtend (mVar 2) (aCons (mLst (aCons (isD aa d Dn 7) (aCons (isD aa d Dn 1) (aCons (isD aa d Dn 8) aNil)))) aNil)))
  (sSeq (sDrop (mBM "list" vExtend (mVar 2) (aCons (mLst (aCons (isD aa d Dn 6) (aCons (isD aa d Dn 2) aNil))) aNil)))
  (sSeq (sIf (tOrM (mTest (mBin vNe (mBM "list" vCount (mVar 2) (aCons (mC (.bl true)) aNil)) (mC (.int 1)))) (tNotM (mTest (mIsE 1 aa d true)))) (sRet (mTup (aCons (mC (.str "other")) aNil))) sNext)
  (sSeq (sSet 3 (mBin vIx (mLst (aCons (mC (.str "daybook")) (aCons (mC (.str "code")) (aCons (mC (.str "number")) (aCons (mC (.str "operation")) (aCons (mC (.str "row")) (aCons (mC (.str "text")) (aCons (mC (.str "weather")) (aCons (mC (.str "barrel")) aNil))))))))) (mBM "list" vIndex (mVar 2) (aCons (mC (.bl true)) aNil))))
  (sSeq (sIf (mTest (mBin vIn (mVar 3) (mTup (aCons (mC (.str "daybook")) (aCons (mC (.str "text")) aNil))))) (sRet (mTup (aCons (mVar 3) (aCons (mXf 1 aa d 27) aNil)))) sNext)
  (sSeq (sIf (mTest (mBin vEq (mVar 3) (mC (.str "row")))) (sRet (mTup (aCons (mVar 3) (aCons (mXf 1 aa d 24) (aCons (mXf 1 aa d 25) aNil))))) sNext)
  (sSeq (sIf (mTest (mBin vEq (mVar 3) (mC (.str "weather")))) (sRet (mTup (aCons (mVar 3) (aCons (mXf 1 aa d 24) aNil)))) sNext)
  (sSeq (sIf (mTest (mBin vEq (mVar 3) (mC (.str "number")))) (sRet (mTup (aCons (mVar 3) aNil))) sNext)
  (sRet (mTup (aCons (mVar 3) (aCons (mIf (mTest (mBin vEq (mVar 3) (mC (.str "code")))) (mXf 1 aa d 28) (mIf (mTest (mBin vEq (mVar 3) (mC (.str "operation")))) (mXf 1 aa d 25) (mXf 1 aa d 26))) aNil)))))))))))) 

theorem findX_app {dd : Addr} {st1 : Store} {fs : List (Nat × Val)} {ls : List (List Val)} : findX dd (st1 ++ [.xfs dd fs] ++ ls.map .lst) = some fs := by
  unfold findX
  rw [List.reverse_append, List.findSome?_append]
  have h : (ls.map Cell.lst).reverse.findSome? (xOf dd) = none := by
    rw [List.findSome?_eq_none_iff]
    intro x hx
    rw [List.mem_reverse] at hx
    obtain ⟨l, _, e⟩ := List.mem_map.mp hx
    subst e
    rfl
  rw [h, List.reverse_append]
  simp [xOf]
theorem okX_app {y : Exc} {d : Option Addr} {st1 : Store} (ls : List (List Val)) : okX d (st1 ++ xst y d ++ ls.map .lst) = true := by
  cases d with
  | none => rfl
  | some dd =>
    unfold okX
    dsimp only [xst]
    rw [findX_app]; rfl
def k3 (D : Nat) : List Val := [.bl (decide (D = 9)), .bl (decide (D = 10)), .bl (decide (D = 4))]
def k5 (D : Nat) : List Val := [.bl (decide (D = 7)), .bl (decide (D = 1)), .bl (decide (D = 8))]
def k7 (D : Nat) : List Val := [.bl (decide (D = 6)), .bl (decide (D = 2))]
def wordsL : List Val := [.str "daybook", .str "code", .str "number", .str "operation", .str "row", .str "text", .str "weather", .str "barrel"]
theorem at0 {S : Store} {a : Cell} {r : List Cell} : (S ++ a :: r)[S.length]? = some a := by simp
theorem at1 {S : Store} {a b : Cell} {r : List Cell} : (S ++ a :: b :: r)[S.length + 1]? = some b := by simp
theorem at2 {S : Store} {a b c : Cell} {r : List Cell} : (S ++ a :: b :: c :: r)[S.length + 2]? = some c := by simp
theorem at3 {S : Store} {a b c d : Cell} {r : List Cell} : (S ++ a :: b :: c :: d :: r)[S.length + 3]? = some d := by simp
theorem set0 {S : Store} {a b : Cell} {r : List Cell} : (S ++ a :: r).set S.length b = S ++ b :: r := by simp
/-- the first lines -/
theorem suite_head (aa : Addr) (d : Option Addr) (D : Nat) (S : Store) (rest : MS) (ok : ∀ ls : List (List Val), okX d (S ++ ls.map .lst) = true) :
    (sSeq (sSet 2 (mLst (aCons (isD aa d D 9) (aCons (isD aa d D 10) (aCons (isD aa d D 4) aNil)))))
      (sSeq (sDrop (mBM "list" vExtend (mVar 2) (aCons (mLst (aCons (isD aa d D 7) (aCons (isD aa d D 1) (aCons (isD aa d D 8) aNil)))) aNil)))
      (sSeq (sDrop (mBM "list" vExtend (mVar 2) (aCons (mLst (aCons (isD aa d D 6) (aCons (isD aa d D 2) aNil))) aNil))) rest))) [none, some (.adr aa), none, none] S =
    rest [none, some (.adr aa), some (.ref S.length), none] (S ++ [.lst (k3 D ++ k5 D ++ k7 D), .lst (k5 D), .lst (k7 D)]) := by
  have o0 := ok []
  have o1 := ok [k3 D]
  have o2 := ok [k3 D ++ k5 D, k5 D]
  simp only [List.map_cons, List.map_nil, List.append_nil] at o0 o1 o2
  have e : ∀ (S : Store) c, okX d S = true → isD aa d D c [none, some (.adr aa), none, none] S = .ok (.bl (decide (D = c))) S := fun S c h => by
    show (if aa = aa ∧ okX d S = true then R.ok (Val.bl (decide (D = c))) S else .bad) = _
    rw [if_pos ⟨rfl, h⟩]
  have e2 : ∀ (S : Store) c, okX d S = true → isD aa d D c [none, some (.adr aa), some (.ref S.length), none] S = .ok (.bl (decide (D = c))) S := fun S c h => by
    show (if aa = aa ∧ okX d S = true then R.ok (Val.bl (decide (D = c))) S else .bad) = _
    rw [if_pos ⟨rfl, h⟩]
  have e3 : ∀ (n : Nat) (S : Store) c, okX d S = true → isD aa d D c [none, some (.adr aa), some (.ref n), none] S = .ok (.bl (decide (D = c))) S := fun n S c h => by
    show (if aa = aa ∧ okX d S = true then R.ok (Val.bl (decide (D = c))) S else .bad) = _
    rw [if_pos ⟨rfl, h⟩]
  have z3 : (3 : Nat) ≤ sizeLine := by rw [sizeLine_eq]; omega
  have z2 : (2 : Nat) ≤ sizeLine := by rw [sizeLine_eq]; omega
  have z6 : (3 + 3 : Nat) ≤ sizeLine := by rw [sizeLine_eq]; omega
  have z8 : (6 + 2 : Nat) ≤ sizeLine := by rw [sizeLine_eq]; omega
  have s1 : sSet 2 (mLst (aCons (isD aa d D 9) (aCons (isD aa d D 10) (aCons (isD aa d D 4) aNil)))) [none, some (.adr aa), none, none] S = .nx [none, some (.adr aa), some (.ref S.length), none] (S ++ [.lst (k3 D)]) := by
    simp only [sSet, R.toO, mLst, aCons, e S _ o0, R.bind, aNil]
    rw [if_pos (by simpa using z3)]
    rfl
  have s2 : sDrop (mBM "list" vExtend (mVar 2) (aCons (mLst (aCons (isD aa d D 7) (aCons (isD aa d D 1) (aCons (isD aa d D 8) aNil)))) aNil)) [none, some (.adr aa), some (.ref S.length), none] (S ++ [.lst (k3 D)]) =
      .nx [none, some (.adr aa), some (.ref S.length), none] (S ++ [.lst (k3 D ++ k5 D), .lst (k5 D)]) := by
    have t : tyOk "list" (.ref S.length) (S ++ [.lst (k3 D)]) = true := by simp [tyOk]
    have v : mVar 2 [none, some (.adr aa), some (.ref S.length), none] (S ++ [.lst (k3 D)]) = .ok (.ref S.length) (S ++ [.lst (k3 D)]) := rfl
    simp only [sDrop, R.toO, mBM, v, R.bind, t, if_true, mLst, aCons, e3 S.length _ _ o1, aNil]
    rw [if_pos (by simpa using z3)]
    have l : (S ++ [Cell.lst (k3 D)]).length = S.length + 1 := by simp
    have q : S ++ [Cell.lst (k3 D)] ++ [Cell.lst [.bl (decide (D = 7)), .bl (decide (D = 1)), .bl (decide (D = 8))]] = S ++ [Cell.lst (k3 D), Cell.lst (k5 D)] := by rw [List.append_assoc]; rfl
    simp only [q, l, vExtend, at0, at1]
    rw [if_pos (by simpa [k3, k5] using z6), set0]
  have s3 : sDrop (mBM "list" vExtend (mVar 2) (aCons (mLst (aCons (isD aa d D 6) (aCons (isD aa d D 2) aNil))) aNil)) [none, some (.adr aa), some (.ref S.length), none] (S ++ [.lst (k3 D ++ k5 D), .lst (k5 D)]) =
      .nx [none, some (.adr aa), some (.ref S.length), none] (S ++ [.lst (k3 D ++ k5 D ++ k7 D), .lst (k5 D), .lst (k7 D)]) := by
    have t : tyOk "list" (.ref S.length) (S ++ [.lst (k3 D ++ k5 D), .lst (k5 D)]) = true := by simp [tyOk]
    have v : mVar 2 [none, some (.adr aa), some (.ref S.length), none] (S ++ [.lst (k3 D ++ k5 D), .lst (k5 D)]) = .ok (.ref S.length) (S ++ [.lst (k3 D ++ k5 D), .lst (k5 D)]) := rfl
    simp only [sDrop, R.toO, mBM, v, R.bind, t, if_true, mLst, aCons, e3 S.length _ _ o2, aNil]
    rw [if_pos (by simpa using z2)]
    have l : (S ++ [Cell.lst (k3 D ++ k5 D), Cell.lst (k5 D)]).length = S.length + 2 := by simp
    have q : S ++ [Cell.lst (k3 D ++ k5 D), Cell.lst (k5 D)] ++ [Cell.lst [.bl (decide (D = 6)), .bl (decide (D = 2))]] = S ++ [Cell.lst (k3 D ++ k5 D), Cell.lst (k5 D), Cell.lst (k7 D)] := by rw [List.append_assoc]; rfl
    simp only [q, l, vExtend, at0, at2]
    rw [if_pos (by simpa [k3, k5, k7] using z8), set0]
  simp only [sSeq, s1, O.then, s2, s3]

@[reducible] def mEnd (aa : Addr) (d : Option Addr) : MS :=
  (sSeq (sIf (mTest (mBin vIn (mVar 3) (mTup (aCons (mC (.str "daybook")) (aCons (mC (.str "text")) aNil))))) (sRet (mTup (aCons (mVar 3) (aCons (mXf 1 aa d 27) aNil)))) sNext)
  (sSeq (sIf (mTest (mBin vEq (mVar 3) (mC (.str "row")))) (sRet (mTup (aCons (mVar 3) (aCons (mXf 1 aa d 24) (aCons (mXf 1 aa d 25) aNil))))) sNext)
  (sSeq (sIf (mTest (mBin vEq (mVar 3) (mC (.str "weather")))) (sRet (mTup (aCons (mVar 3) (aCons (mXf 1 aa d 24) aNil)))) sNext)
  (sSeq (sIf (mTest (mBin vEq (mVar 3) (mC (.str "number")))) (sRet (mTup (aCons (mVar 3) aNil))) sNext)
  (sRet (mTup (aCons (mVar 3) (aCons (mIf (mTest (mBin vEq (mVar 3) (mC (.str "code")))) (mXf 1 aa d 28) (mIf (mTest (mBin vEq (mVar 3) (mC (.str "operation")))) (mXf 1 aa d 25) (mXf 1 aa d 26))) aNil))))))))
@[reducible] def mTail (aa : Addr) (d : Option Addr) : MS :=
  (sSeq (sIf (tOrM (mTest (mBin vNe (mBM "list" vCount (mVar 2) (aCons (mC (.bl true)) aNil)) (mC (.int 1)))) (tNotM (mTest (mIsE 1 aa d true)))) (sRet (mTup (aCons (mC (.str "other")) aNil))) sNext)
  (sSeq (sSet 3 (mBin vIx (mLst (aCons (mC (.str "daybook")) (aCons (mC (.str "code")) (aCons (mC (.str "number")) (aCons (mC (.str "operation")) (aCons (mC (.str "row")) (aCons (mC (.str "text")) (aCons (mC (.str "weather")) (aCons (mC (.str "barrel")) aNil))))))))) (mBM "list" vIndex (mVar 2) (aCons (mC (.bl true)) aNil))))
  (sSeq (sIf (mTest (mBin vIn (mVar 3) (mTup (aCons (mC (.str "daybook")) (aCons (mC (.str "text")) aNil))))) (sRet (mTup (aCons (mVar 3) (aCons (mXf 1 aa d 27) aNil)))) sNext)
  (sSeq (sIf (mTest (mBin vEq (mVar 3) (mC (.str "row")))) (sRet (mTup (aCons (mVar 3) (aCons (mXf 1 aa d 24) (aCons (mXf 1 aa d 25) aNil))))) sNext)
  (sSeq (sIf (mTest (mBin vEq (mVar 3) (mC (.str "weather")))) (sRet (mTup (aCons (mVar 3) (aCons (mXf 1 aa d 24) aNil)))) sNext)
  (sSeq (sIf (mTest (mBin vEq (mVar 3) (mC (.str "number")))) (sRet (mTup (aCons (mVar 3) aNil))) sNext)
  (sRet (mTup (aCons (mVar 3) (aCons (mIf (mTest (mBin vEq (mVar 3) (mC (.str "code")))) (mXf 1 aa d 28) (mIf (mTest (mBin vEq (mVar 3) (mC (.str "operation")))) (mXf 1 aa d 25) (mXf 1 aa d 26))) aNil))))))))))
theorem end_row {aa : Addr} {d : Option Addr} {ρ : Slots} {S : Store} {w24 w25 : Val} (v : ∀ s, mVar 3 ρ s = .ok (.str "row") s) (h24 : mXf 1 aa d 24 ρ S = .ok w24 S) (h25 : mXf 1 aa d 25 ρ S = .ok w25 S) : mEnd aa d ρ S = .ret (.tup [.str "row", w24, w25]) S := by
  have z1 : (1 : Nat) ≤ sizeLine := by rw [sizeLine_eq]; omega
  have z2 : (2 : Nat) ≤ sizeLine := by rw [sizeLine_eq]; omega
  have z3 : (3 : Nat) ≤ sizeLine := by rw [sizeLine_eq]; omega
  have c0 : inW (.str "row") [.str "daybook", .str "text"] = false := by decide +kernel
  have c1 : decide (("row" : Str) = "row") = true := by decide +kernel
  have c2 : decide (("row" : Str) = "weather") = false := by decide +kernel
  have c3 : decide (("row" : Str) = "number") = false := by decide +kernel
  have c4 : decide (("row" : Str) = "code") = false := by decide +kernel
  have c5 : decide (("row" : Str) = "operation") = false := by decide +kernel
  have f0 : (flatW (.str "row") && List.all [Val.str "daybook", .str "text"] flatW) = true := rfl
  have l1 : [Val.str "row"].length ≤ sizeLine := z1
  have l2 : ∀ a b : Val, [a, b].length ≤ sizeLine := fun _ _ => z2
  have l3 : ∀ a b c : Val, [a, b, c].length ≤ sizeLine := fun _ _ _ => z3
  simp only [mEnd, sSeq, sIf, mTest, mBin, v, R.bind, mTup, aCons, aNil, mC, if_true, vIn, f0, c0, asB, R.toO, Bool.false_eq_true, if_false, sNext, O.then, vEq, c1, c2, c3, c4, c5, decide_true, sRet, mIf, l1, l2, l3, h24, h25]
theorem end_barrel {aa : Addr} {d : Option Addr} {ρ : Slots} {S : Store} {w26 : Val} (v : ∀ s, mVar 3 ρ s = .ok (.str "barrel") s) (h26 : mXf 1 aa d 26 ρ S = .ok w26 S) : mEnd aa d ρ S = .ret (.tup [.str "barrel", w26]) S := by
  have z1 : (1 : Nat) ≤ sizeLine := by rw [sizeLine_eq]; omega
  have z2 : (2 : Nat) ≤ sizeLine := by rw [sizeLine_eq]; omega
  have z3 : (3 : Nat) ≤ sizeLine := by rw [sizeLine_eq]; omega
  have c0 : inW (.str "barrel") [.str "daybook", .str "text"] = false := by decide +kernel
  have c1 : decide (("barrel" : Str) = "row") = false := by decide +kernel
  have c2 : decide (("barrel" : Str) = "weather") = false := by decide +kernel
  have c3 : decide (("barrel" : Str) = "number") = false := by decide +kernel
  have c4 : decide (("barrel" : Str) = "code") = false := by decide +kernel
  have c5 : decide (("barrel" : Str) = "operation") = false := by decide +kernel
  have f0 : (flatW (.str "barrel") && List.all [Val.str "daybook", .str "text"] flatW) = true := rfl
  have l1 : [Val.str "barrel"].length ≤ sizeLine := z1
  have l2 : ∀ a b : Val, [a, b].length ≤ sizeLine := fun _ _ => z2
  have l3 : ∀ a b c : Val, [a, b, c].length ≤ sizeLine := fun _ _ _ => z3
  simp only [mEnd, sSeq, sIf, mTest, mBin, v, R.bind, mTup, aCons, aNil, mC, if_true, vIn, f0, c0, asB, R.toO, Bool.false_eq_true, if_false, sNext, O.then, vEq, c1, c2, c3, c4, c5, decide_true, sRet, mIf, l1, l2, l3, h26]
theorem end_number {aa : Addr} {d : Option Addr} {ρ : Slots} {S : Store} {w0 : Val} (v : ∀ s, mVar 3 ρ s = .ok (.str "number") s)  : mEnd aa d ρ S = .ret (.tup [.str "number"]) S := by
  have z1 : (1 : Nat) ≤ sizeLine := by rw [sizeLine_eq]; omega
  have z2 : (2 : Nat) ≤ sizeLine := by rw [sizeLine_eq]; omega
  have z3 : (3 : Nat) ≤ sizeLine := by rw [sizeLine_eq]; omega
  have c0 : inW (.str "number") [.str "daybook", .str "text"] = false := by decide +kernel
  have c1 : decide (("number" : Str) = "row") = false := by decide +kernel
  have c2 : decide (("number" : Str) = "weather") = false := by decide +kernel
  have c3 : decide (("number" : Str) = "number") = true := by decide +kernel
  have c4 : decide (("number" : Str) = "code") = false := by decide +kernel
  have c5 : decide (("number" : Str) = "operation") = false := by decide +kernel
  have f0 : (flatW (.str "number") && List.all [Val.str "daybook", .str "text"] flatW) = true := rfl
  have l1 : [Val.str "number"].length ≤ sizeLine := z1
  have l2 : ∀ a b : Val, [a, b].length ≤ sizeLine := fun _ _ => z2
  have l3 : ∀ a b c : Val, [a, b, c].length ≤ sizeLine := fun _ _ _ => z3
  simp only [mEnd, sSeq, sIf, mTest, mBin, v, R.bind, mTup, aCons, aNil, mC, if_true, vIn, f0, c0, asB, R.toO, Bool.false_eq_true, if_false, sNext, O.then, vEq, c1, c2, c3, c4, c5, decide_true, sRet, mIf, l1, l2, l3]
theorem end_weather {aa : Addr} {d : Option Addr} {ρ : Slots} {S : Store} {w24 : Val} (v : ∀ s, mVar 3 ρ s = .ok (.str "weather") s) (h24 : mXf 1 aa d 24 ρ S = .ok w24 S) : mEnd aa d ρ S = .ret (.tup [.str "weather", w24]) S := by
  have z1 : (1 : Nat) ≤ sizeLine := by rw [sizeLine_eq]; omega
  have z2 : (2 : Nat) ≤ sizeLine := by rw [sizeLine_eq]; omega
  have z3 : (3 : Nat) ≤ sizeLine := by rw [sizeLine_eq]; omega
  have c0 : inW (.str "weather") [.str "daybook", .str "text"] = false := by decide +kernel
  have c1 : decide (("weather" : Str) = "row") = false := by decide +kernel
  have c2 : decide (("weather" : Str) = "weather") = true := by decide +kernel
  have c3 : decide (("weather" : Str) = "number") = false := by decide +kernel
  have c4 : decide (("weather" : Str) = "code") = false := by decide +kernel
  have c5 : decide (("weather" : Str) = "operation") = false := by decide +kernel
  have f0 : (flatW (.str "weather") && List.all [Val.str "daybook", .str "text"] flatW) = true := rfl
  have l1 : [Val.str "weather"].length ≤ sizeLine := z1
  have l2 : ∀ a b : Val, [a, b].length ≤ sizeLine := fun _ _ => z2
  have l3 : ∀ a b c : Val, [a, b, c].length ≤ sizeLine := fun _ _ _ => z3
  simp only [mEnd, sSeq, sIf, mTest, mBin, v, R.bind, mTup, aCons, aNil, mC, if_true, vIn, f0, c0, asB, R.toO, Bool.false_eq_true, if_false, sNext, O.then, vEq, c1, c2, c3, c4, c5, decide_true, sRet, mIf, l1, l2, l3, h24]
theorem end_operation {aa : Addr} {d : Option Addr} {ρ : Slots} {S : Store} {w25 : Val} (v : ∀ s, mVar 3 ρ s = .ok (.str "operation") s) (h25 : mXf 1 aa d 25 ρ S = .ok w25 S) : mEnd aa d ρ S = .ret (.tup [.str "operation", w25]) S := by
  have z1 : (1 : Nat) ≤ sizeLine := by rw [sizeLine_eq]; omega
  have z2 : (2 : Nat) ≤ sizeLine := by rw [sizeLine_eq]; omega
  have z3 : (3 : Nat) ≤ sizeLine := by rw [sizeLine_eq]; omega
  have c0 : inW (.str "operation") [.str "daybook", .str "text"] = false := by decide +kernel
  have c1 : decide (("operation" : Str) = "row") = false := by decide +kernel
  have c2 : decide (("operation" : Str) = "weather") = false := by decide +kernel
  have c3 : decide (("operation" : Str) = "number") = false := by decide +kernel
  have c4 : decide (("operation" : Str) = "code") = false := by decide +kernel
  have c5 : decide (("operation" : Str) = "operation") = true := by decide +kernel
  have f0 : (flatW (.str "operation") && List.all [Val.str "daybook", .str "text"] flatW) = true := rfl
  have l1 : [Val.str "operation"].length ≤ sizeLine := z1
  have l2 : ∀ a b : Val, [a, b].length ≤ sizeLine := fun _ _ => z2
  have l3 : ∀ a b c : Val, [a, b, c].length ≤ sizeLine := fun _ _ _ => z3
  simp only [mEnd, sSeq, sIf, mTest, mBin, v, R.bind, mTup, aCons, aNil, mC, if_true, vIn, f0, c0, asB, R.toO, Bool.false_eq_true, if_false, sNext, O.then, vEq, c1, c2, c3, c4, c5, decide_true, sRet, mIf, l1, l2, l3, h25]
theorem end_text {aa : Addr} {d : Option Addr} {ρ : Slots} {S : Store} {w27 : Val} (v : ∀ s, mVar 3 ρ s = .ok (.str "text") s) (h27 : mXf 1 aa d 27 ρ S = .ok w27 S) : mEnd aa d ρ S = .ret (.tup [.str "text", w27]) S := by
  have z1 : (1 : Nat) ≤ sizeLine := by rw [sizeLine_eq]; omega
  have z2 : (2 : Nat) ≤ sizeLine := by rw [sizeLine_eq]; omega
  have z3 : (3 : Nat) ≤ sizeLine := by rw [sizeLine_eq]; omega
  have c0 : inW (.str "text") [.str "daybook", .str "text"] = true := by decide +kernel
  have c1 : decide (("text" : Str) = "row") = false := by decide +kernel
  have c2 : decide (("text" : Str) = "weather") = false := by decide +kernel
  have c3 : decide (("text" : Str) = "number") = false := by decide +kernel
  have c4 : decide (("text" : Str) = "code") = false := by decide +kernel
  have c5 : decide (("text" : Str) = "operation") = false := by decide +kernel
  have f0 : (flatW (.str "text") && List.all [Val.str "daybook", .str "text"] flatW) = true := rfl
  have l1 : [Val.str "text"].length ≤ sizeLine := z1
  have l2 : ∀ a b : Val, [a, b].length ≤ sizeLine := fun _ _ => z2
  have l3 : ∀ a b c : Val, [a, b, c].length ≤ sizeLine := fun _ _ _ => z3
  simp only [mEnd, sSeq, sIf, mTest, mBin, v, R.bind, mTup, aCons, aNil, mC, if_true, vIn, f0, c0, asB, R.toO, Bool.false_eq_true, if_false, sNext, O.then, vEq, c1, c2, c3, c4, c5, decide_true, sRet, mIf, l1, l2, l3, h27]
theorem end_daybook {aa : Addr} {d : Option Addr} {ρ : Slots} {S : Store} {w27 : Val} (v : ∀ s, mVar 3 ρ s = .ok (.str "daybook") s) (h27 : mXf 1 aa d 27 ρ S = .ok w27 S) : mEnd aa d ρ S = .ret (.tup [.str "daybook", w27]) S := by
  have z1 : (1 : Nat) ≤ sizeLine := by rw [sizeLine_eq]; omega
  have z2 : (2 : Nat) ≤ sizeLine := by rw [sizeLine_eq]; omega
  have z3 : (3 : Nat) ≤ sizeLine := by rw [sizeLine_eq]; omega
  have c0 : inW (.str "daybook") [.str "daybook", .str "text"] = true := by decide +kernel
  have c1 : decide (("daybook" : Str) = "row") = false := by decide +kernel
  have c2 : decide (("daybook" : Str) = "weather") = false := by decide +kernel
  have c3 : decide (("daybook" : Str) = "number") = false := by decide +kernel
  have c4 : decide (("daybook" : Str) = "code") = false := by decide +kernel
  have c5 : decide (("daybook" : Str) = "operation") = false := by decide +kernel
  have f0 : (flatW (.str "daybook") && List.all [Val.str "daybook", .str "text"] flatW) = true := rfl
  have l1 : [Val.str "daybook"].length ≤ sizeLine := z1
  have l2 : ∀ a b : Val, [a, b].length ≤ sizeLine := fun _ _ => z2
  have l3 : ∀ a b c : Val, [a, b, c].length ≤ sizeLine := fun _ _ _ => z3
  simp only [mEnd, sSeq, sIf, mTest, mBin, v, R.bind, mTup, aCons, aNil, mC, if_true, vIn, f0, c0, asB, R.toO, Bool.false_eq_true, if_false, sNext, O.then, vEq, c1, c2, c3, c4, c5, decide_true, sRet, mIf, l1, l2, l3, h27]
theorem end_code {aa : Addr} {d : Option Addr} {ρ : Slots} {S : Store} {w28 : Val} (v : ∀ s, mVar 3 ρ s = .ok (.str "code") s) (h28 : mXf 1 aa d 28 ρ S = .ok w28 S) : mEnd aa d ρ S = .ret (.tup [.str "code", w28]) S := by
  have z1 : (1 : Nat) ≤ sizeLine := by rw [sizeLine_eq]; omega
  have z2 : (2 : Nat) ≤ sizeLine := by rw [sizeLine_eq]; omega
  have z3 : (3 : Nat) ≤ sizeLine := by rw [sizeLine_eq]; omega
  have c0 : inW (.str "code") [.str "daybook", .str "text"] = false := by decide +kernel
  have c1 : decide (("code" : Str) = "row") = false := by decide +kernel
  have c2 : decide (("code" : Str) = "weather") = false := by decide +kernel
  have c3 : decide (("code" : Str) = "number") = false := by decide +kernel
  have c4 : decide (("code" : Str) = "code") = true := by decide +kernel
  have c5 : decide (("code" : Str) = "operation") = false := by decide +kernel
  have f0 : (flatW (.str "code") && List.all [Val.str "daybook", .str "text"] flatW) = true := rfl
  have l1 : [Val.str "code"].length ≤ sizeLine := z1
  have l2 : ∀ a b : Val, [a, b].length ≤ sizeLine := fun _ _ => z2
  have l3 : ∀ a b c : Val, [a, b, c].length ≤ sizeLine := fun _ _ _ => z3
  simp only [mEnd, sSeq, sIf, mTest, mBin, v, R.bind, mTup, aCons, aNil, mC, if_true, vIn, f0, c0, asB, R.toO, Bool.false_eq_true, if_false, sNext, O.then, vEq, c1, c2, c3, c4, c5, decide_true, sRet, mIf, l1, l2, l3, h28]
theorem suite_run (y : Exc) (ws : List Val) (h : outV y = some ws) (hf : ws.all flatW = true) (aa : Addr) (d : Option Addr) (st1 : Store) (hd : y.fs = [] ∧ d = none ∨ ∃ dd, d = some dd) :
    ∃ junk, mSuite aa d y.cls [none, some (.adr aa), none, none] (st1 ++ xst y d) = .ret (.tup ws) (st1 ++ junk) := by
  have ok : ∀ ls : List (List Val), okX d (st1 ++ xst y d ++ ls.map .lst) = true := fun ls => okX_app ls
  have hl : ∀ dd, d = some dd → ∀ ls : List (List Val), findX dd (st1 ++ xst y d ++ ls.map .lst) = some y.fs := fun dd e ls => by subst e; exact findX_app
  obtain ⟨cls, fs⟩ := y
  dsimp only at hd hl
  suffices z : ∃ ls : List (List Val), mSuite aa d cls [none, some (.adr aa), none, none] (st1 ++ xst ⟨cls, fs⟩ d) = .ret (.tup ws) (st1 ++ xst ⟨cls, fs⟩ d ++ ls.map .lst) by
    obtain ⟨ls, z⟩ := z
    exact ⟨xst ⟨cls, fs⟩ d ++ ls.map .lst, by rw [z, List.append_assoc]⟩
  generalize hS : st1 ++ xst ⟨cls, fs⟩ d = S at *
  have hm := outV_cls h
  simp only [excs, List.mem_cons, List.not_mem_nil, or_false] at hm
  have step : mSuite aa d cls [none, some (.adr aa), none, none] S = mTail aa d [none, some (.adr aa), some (.ref S.length), none] (S ++ [.lst (k3 cls ++ k5 cls ++ k7 cls), .lst (k5 cls), .lst (k7 cls)]) := suite_head aa d cls S _ ok
  rw [step]
  have okT := ok [k3 cls ++ k5 cls ++ k7 cls, k5 cls, k7 cls]
  simp only [List.map_cons, List.map_nil] at okT
  have hV : mIsE 1 aa d true [none, some (.adr aa), some (.ref S.length), none] (S ++ [.lst (k3 cls ++ k5 cls ++ k7 cls), .lst (k5 cls), .lst (k7 cls)]) = .ok (.bl true) (S ++ [.lst (k3 cls ++ k5 cls ++ k7 cls), .lst (k5 cls), .lst (k7 cls)]) := by
    show (if aa = aa ∧ okX d _ = true then R.ok (Val.bl true) _ else .bad) = _
    rw [if_pos ⟨rfl, okT⟩]
  have hi : ∀ (w : Option Val) (r : List Cell), mVar 2 [none, some (.adr aa), some (.ref S.length), w] (S ++ r) = .ok (.ref S.length) (S ++ r) := fun w r => rfl
  have hT : ∀ a r, tyOk "list" (.ref S.length) (S ++ Cell.lst a :: r) = true := fun a r => by simp [tyOk]
  have hq : ∀ a r, seqAt (S ++ Cell.lst a :: r) S.length = some a := fun a r => by simp [seqAt]
  have z1 : (1 : Nat) ≤ sizeLine := by rw [sizeLine_eq]; omega
  have z2 : (2 : Nat) ≤ sizeLine := by rw [sizeLine_eq]; omega
  have z3 : (3 : Nat) ≤ sizeLine := by rw [sizeLine_eq]; omega
  have z8 : (8 : Nat) ≤ sizeLine := by rw [sizeLine_eq]; omega
  have L : (S ++ [Cell.lst (k3 cls ++ k5 cls ++ k7 cls), .lst (k5 cls), .lst (k7 cls)]).length = S.length + 3 := by simp
  have ap : ∀ c, S ++ [Cell.lst (k3 cls ++ k5 cls ++ k7 cls), .lst (k5 cls), .lst (k7 cls)] ++ [c] = S ++ [Cell.lst (k3 cls ++ k5 cls ++ k7 cls), .lst (k5 cls), .lst (k7 cls), c] := fun c => by rw [List.append_assoc]; rfl
  have cnt : mBM "list" vCount (mVar 2) (aCons (mC (.bl true)) aNil) [none, some (.adr aa), some (.ref S.length), none] (S ++ [.lst (k3 cls ++ k5 cls ++ k7 cls), .lst (k5 cls), .lst (k7 cls)]) = .ok (.int (countW (.bl true) (k3 cls ++ k5 cls ++ k7 cls) : Nat)) (S ++ [.lst (k3 cls ++ k5 cls ++ k7 cls), .lst (k5 cls), .lst (k7 cls)]) := by
    simp only [mBM, hi, R.bind, hT, if_true, aCons, aNil, mC, vCount, hq]
    rw [if_pos (by simp [k3, k5, k7, flatW])]
  by_cases h1 : countW (.bl true) (k3 cls ++ k5 cls ++ k7 cls) = 1
  · have g : (!decide (((countW (.bl true) (k3 cls ++ k5 cls ++ k7 cls) : Nat) : Int) = 1)) = false := by
      rw [h1]; rfl
    have words : mLst (aCons (mC (.str "daybook")) (aCons (mC (.str "code")) (aCons (mC (.str "number")) (aCons (mC (.str "operation")) (aCons (mC (.str "row")) (aCons (mC (.str "text")) (aCons (mC (.str "weather")) (aCons (mC (.str "barrel")) aNil)))))))) [none, some (.adr aa), some (.ref S.length), none] (S ++ [.lst (k3 cls ++ k5 cls ++ k7 cls), .lst (k5 cls), .lst (k7 cls)]) =
        .ok (.ref (S.length + 3)) (S ++ [.lst (k3 cls ++ k5 cls ++ k7 cls), .lst (k5 cls), .lst (k7 cls), .lst wordsL]) := by
      simp only [mLst, aCons, mC, aNil, R.bind]
      rw [if_pos (by simpa using z8), L, ap]; rfl
    have ix : ∀ (j : Nat) (w : Str), placeW (.bl true) (k3 cls ++ k5 cls ++ k7 cls) = some j → wordsL[j]? = some (.str w) →
        mBin vIx (mLst (aCons (mC (.str "daybook")) (aCons (mC (.str "code")) (aCons (mC (.str "number")) (aCons (mC (.str "operation")) (aCons (mC (.str "row")) (aCons (mC (.str "text")) (aCons (mC (.str "weather")) (aCons (mC (.str "barrel")) aNil))))))))) (mBM "list" vIndex (mVar 2) (aCons (mC (.bl true)) aNil)) [none, some (.adr aa), some (.ref S.length), none] (S ++ [.lst (k3 cls ++ k5 cls ++ k7 cls), .lst (k5 cls), .lst (k7 cls)]) =
        .ok (.str w) (S ++ [.lst (k3 cls ++ k5 cls ++ k7 cls), .lst (k5 cls), .lst (k7 cls), .lst wordsL]) := by
      intro j w e1 e2
      have hj : j < 8 := (List.getElem?_eq_some_iff.mp e2).1
      simp only [mBin, words, R.bind, mBM, hi, hT, if_true, aCons, aNil, mC, vIndex, hq]
      rw [if_pos (by simp [k3, k5, k7, flatW]), e1]
      dsimp only [vIx]
      have q : seqAt (S ++ [.lst (k3 cls ++ k5 cls ++ k7 cls), .lst (k5 cls), .lst (k7 cls), .lst wordsL]) (S.length + 3) = some wordsL := by unfold seqAt; rw [at3]
      have a : L2.atI wordsL ((j : Nat) : Int) = some (.str w) := by
        unfold L2.atI L2.ixN
        rw [if_pos (by omega), if_pos (by show ((j : Nat) : Int) < ((wordsL.length : Nat) : Int); exact_mod_cast hj)]
        simpa using e2
      simp only [q, a]
    have fx : ∀ f w, fs.lookup f = some w → d ≠ none ∧ ∀ (o : Option Val) (r : List (List Val)), mXf 1 aa d f [none, some (.adr aa), some (.ref S.length), o] (S ++ r.map .lst) = .ok w (S ++ r.map .lst) := by
      intro f w e
      rcases hd with ⟨e1, _⟩ | ⟨dd, e1⟩
      · rw [e1] at e; cases e
      · subst e1
        refine ⟨by simp, fun o r => ?_⟩
        show (if aa = aa then (match findX dd (S ++ r.map Cell.lst) with | some fs => (match fs.lookup f with | some w => R.ok w (S ++ r.map Cell.lst) | none => .bad) | none => .bad) else .bad) = _
        rw [if_pos rfl, hl dd rfl r]
        simp only [e]
    refine ⟨[k3 cls ++ k5 cls ++ k7 cls, k5 cls, k7 cls, wordsL], ?_⟩
    have fin : ∀ (j : Nat) (w : Str), placeW (.bl true) (k3 cls ++ k5 cls ++ k7 cls) = some j → wordsL[j]? = some (.str w) →
        mTail aa d [none, some (.adr aa), some (.ref S.length), none] (S ++ [.lst (k3 cls ++ k5 cls ++ k7 cls), .lst (k5 cls), .lst (k7 cls)]) =
        mEnd aa d [none, some (.adr aa), some (.ref S.length), some (.str w)] (S ++ [.lst (k3 cls ++ k5 cls ++ k7 cls), .lst (k5 cls), .lst (k7 cls), .lst wordsL]) := by
      intro j w e1 e2
      have c1 : sIf (tOrM (mTest (mBin vNe (mBM "list" vCount (mVar 2) (aCons (mC (.bl true)) aNil)) (mC (.int 1)))) (tNotM (mTest (mIsE 1 aa d true)))) (sRet (mTup (aCons (mC (.str "other")) aNil))) sNext [none, some (.adr aa), some (.ref S.length), none] (S ++ [.lst (k3 cls ++ k5 cls ++ k7 cls), .lst (k5 cls), .lst (k7 cls)]) =
          .nx [none, some (.adr aa), some (.ref S.length), none] (S ++ [.lst (k3 cls ++ k5 cls ++ k7 cls), .lst (k5 cls), .lst (k7 cls)]) := by
        simp only [sIf, tOrM, mTest, mBin, cnt, R.bind, mC, vNe, asB, g, Bool.false_eq_true, if_false, tNotM, hV, Bool.not_true, R.toO, sNext]
      have c2 := ix j w e1 e2
      have c3 : sSet 3 (mBin vIx (mLst (aCons (mC (.str "daybook")) (aCons (mC (.str "code")) (aCons (mC (.str "number")) (aCons (mC (.str "operation")) (aCons (mC (.str "row")) (aCons (mC (.str "text")) (aCons (mC (.str "weather")) (aCons (mC (.str "barrel")) aNil))))))))) (mBM "list" vIndex (mVar 2) (aCons (mC (.bl true)) aNil))) [none, some (.adr aa), some (.ref S.length), none] (S ++ [.lst (k3 cls ++ k5 cls ++ k7 cls), .lst (k5 cls), .lst (k7 cls)]) =
          .nx [none, some (.adr aa), some (.ref S.length), some (.str w)] (S ++ [.lst (k3 cls ++ k5 cls ++ k7 cls), .lst (k5 cls), .lst (k7 cls), .lst wordsL]) := by
        unfold sSet
        rw [c2]
        rfl
      show O.then (sIf _ _ _ _ _) _ = _
      rw [c1]
      show O.then (sSet 3 _ _ _) _ = _
      rw [c3]
    have z2' := z2
    rcases hm with e | e | e | e | e | e | e | e | e | e <;> subst e
    case inr.inr.inl => exact absurd h1 (by decide +kernel)
    case inr.inr.inr.inr.inl => exact absurd h1 (by decide +kernel)
    case inl => exact (fin 4 "row" (by decide +kernel) rfl).trans (by
      have h : (match fs.lookup 24, fs.lookup 25 with | some w, some u => some [.str "row", w, u] | _, _ => none) = some ws := h
      cases e1 : fs.lookup 24 with
      | none => rw [e1] at h; cases h
      | some w =>
        cases e2 : fs.lookup 25 with
        | none => rw [e1, e2] at h; cases h
        | some u =>
          rw [e1, e2] at h
          cases h
          exact end_row (fun s => rfl) ((fx 24 w e1).2 _ [k3 1 ++ k5 1 ++ k7 1, k5 1, k7 1, wordsL]) ((fx 25 u e2).2 _ [k3 1 ++ k5 1 ++ k7 1, k5 1, k7 1, wordsL]))
    case inr.inl => exact (fin 7 "barrel" (by decide +kernel) rfl).trans (by
      have h : (fs.lookup 26).map (fun w => [.str "barrel", w]) = some ws := h
      obtain ⟨w, e1, rfl⟩ := Option.map_eq_some_iff.mp h
      exact end_barrel (fun s => rfl) ((fx 26 w e1).2 _ [k3 2 ++ k5 2 ++ k7 2, k5 2, k7 2, wordsL]))
    case inr.inr.inr.inl => exact (fin 2 "number" (by decide +kernel) rfl).trans (by
      have h : some [Val.str "number"] = some ws := h
      cases h
      exact end_number (w0 := .non) (fun s => rfl))
    case inr.inr.inr.inr.inr.inl => exact (fin 6 "weather" (by decide +kernel) rfl).trans (by
      have h : (fs.lookup 24).map (fun w => [.str "weather", w]) = some ws := h
      obtain ⟨w, e1, rfl⟩ := Option.map_eq_some_iff.mp h
      exact end_weather (fun s => rfl) ((fx 24 w e1).2 _ [k3 6 ++ k5 6 ++ k7 6, k5 6, k7 6, wordsL]))
    case inr.inr.inr.inr.inr.inr.inl => exact (fin 3 "operation" (by decide +kernel) rfl).trans (by
      have h : (fs.lookup 25).map (fun w => [.str "operation", w]) = some ws := h
      obtain ⟨w, e1, rfl⟩ := Option.map_eq_some_iff.mp h
      exact end_operation (fun s => rfl) ((fx 25 w e1).2 _ [k3 7 ++ k5 7 ++ k7 7, k5 7, k7 7, wordsL]))
    case inr.inr.inr.inr.inr.inr.inr.inl => exact (fin 5 "text" (by decide +kernel) rfl).trans (by
      have h : (fs.lookup 27).map (fun w => [.str "text", w]) = some ws := h
      obtain ⟨w, e1, rfl⟩ := Option.map_eq_some_iff.mp h
      exact end_text (fun s => rfl) ((fx 27 w e1).2 _ [k3 8 ++ k5 8 ++ k7 8, k5 8, k7 8, wordsL]))
    case inr.inr.inr.inr.inr.inr.inr.inr.inl => exact (fin 0 "daybook" (by decide +kernel) rfl).trans (by
      have h : (fs.lookup 27).map (fun w => [.str "daybook", w]) = some ws := h
      obtain ⟨w, e1, rfl⟩ := Option.map_eq_some_iff.mp h
      exact end_daybook (fun s => rfl) ((fx 27 w e1).2 _ [k3 9 ++ k5 9 ++ k7 9, k5 9, k7 9, wordsL]))
    case inr.inr.inr.inr.inr.inr.inr.inr.inr => exact (fin 1 "code" (by decide +kernel) rfl).trans (by
      have h : (fs.lookup 28).map (fun w => [.str "code", w]) = some ws := h
      obtain ⟨w, e1, rfl⟩ := Option.map_eq_some_iff.mp h
      exact end_code (fun s => rfl) ((fx 28 w e1).2 _ [k3 10 ++ k5 10 ++ k7 10, k5 10, k7 10, wordsL]))
  · -- the other kinds
    have e0 : ws = [.str "other"] := by
      rcases hm with e | e | e | e | e | e | e | e | e | e <;> subst e <;> first | (exfalso; exact h1 (by decide +kernel)) | (unfold outV at h; exact (Option.some.inj h).symm)
    subst e0
    refine ⟨[k3 cls ++ k5 cls ++ k7 cls, k5 cls, k7 cls], ?_⟩
    have g : (!decide (((countW (.bl true) (k3 cls ++ k5 cls ++ k7 cls) : Nat) : Int) = 1)) = true := by
      rw [decide_eq_false (by exact_mod_cast h1)]; rfl
    simp only [mTail, sSeq, sIf, tOrM, mTest, mBin, cnt, R.bind, mC, vNe, asB, g, if_true, R.toO, sRet, mTup, aCons, aNil]
    rw [if_pos (by simpa using z1)]
    rfl
end Ab

set_option Elab.async false
set_option linter.all false
set_option maxRecDepth 100000
set_option maxHeartbeats 1000000
/-! Ab: calls of objects (own __call__). -/
namespace Ab
open PySem PySem.Spec PyProof.Rows L2
@[reducible] def mCall (C : Nat) (mf : MF) (mo : ME) (t : MA) : ME := fun ρ st => (mo ρ st).bind fun x st1 => if isIns C st1 x = true then (t ρ st1).bind fun vs st2 => if isIns C st2 x = true then mf (x :: vs) st2 else .bad else .bad
section
variable {X : Cx} {k n : Nat} {x : Str} {e : Expr} {es : List Expr} {mo : ME} {t : MA} {p pos : Pos} {mf : MF} {C : Nat}
end
end Ab

set_option Elab.async false
set_option linter.all false
set_option maxRecDepth 100000
set_option maxHeartbeats 1000000
/-! Ab: sums of tuples; own in, [], - (a text on the right), == and !=. -/
namespace Ab
open PySem PySem.Spec PyProof.Rows L2
def bSumT : List Val → Store → R Val
  | [.tup xs], st => match asInts xs with
    | some ns => .ok (.int ns.sum) st
    | none => .bad
  | _, _ => .bad
section
variable {X : Cx}
end

/-- an own method of two that raises nothing and hands back a truth -/
def truR (C : Nat) (mf : MF) (neg : Bool) (x y : Val) (st : Store) : R Val := if isIns C st x = true then match mf [x, y] st with
    | .ok (.bl b) st2 => .ok (.bl (if neg then !b else b)) st2
    | _ => .bad
  else .bad
def vInO (C : Nat) (mf : MF) : Val → Val → Store → R Val := fun x y st => truR C mf false y x st
def vNinO (C : Nat) (mf : MF) : Val → Val → Store → R Val := fun x y st => truR C mf true y x st
def vEqO (C : Nat) (mf : MF) : Val → Val → Store → R Val := fun x y st => if isIns C st y = true then truR C mf false x y st else .bad
def vNeO (C : Nat) (mf : MF) : Val → Val → Store → R Val := fun x y st => if isIns C st y = true then truR C mf true x y st else .bad
section
variable {X : Cx} {k : Nat} {mf : MF} {C : Nat}
end
/-- e[i] by an own __getitem__ -/
@[reducible] def mGetO (C : Nat) (mf : MF) (ma mb : ME) : ME := fun ρ st => (ma ρ st).bind fun x st1 => (mb ρ st1).bind fun y st2 => if isIns C st2 x = true then mf [x, y] st2 else .bad
section
variable {X : Cx} {k : Nat} {mf : MF} {C : Nat} {a b : Expr} {ma mb : ME} {pos : Pos} {op : Operator}
def isStr : Val → Bool
  | .str _ => true
  | _ => false
@[reducible] def mOpT (C : Nat) (mf : MF) (ma mb : ME) : ME := fun ρ st => (ma ρ st).bind fun x st1 => (mb ρ st1).bind fun y st2 => if isIns C st2 x = true ∧ isStr y = true then mf [x, y] st2 else .bad
end

section
open PySem.W
variable {prog : Program} {w : World} {A : Around} {E : Value → Shared → Prop} {s : Shared} {K : PySem.W.Frag} {x y C L f : Addr} {h₀ : Heap} {m : Str → Option Value} {ox oy : Obj} {od od' : Option Obj}
end
end Ab

set_option Elab.async false
set_option linter.all false
set_option maxRecDepth 100000
set_option maxHeartbeats 1000000
/-! Ab: targets with a star at the end: a, b, *rest = a tuple. -/
namespace Ab
open PySem PySem.Spec PyProof.Rows L2
theorem unp_raw {prog : Program} {w : World} {A : Around} {E : Value → Shared → Prop} {s : Shared} {l : Addr} {items : Array Value} {i : Nat} {Q : List Value → Shared → Prop} (hl : IsTup s.heap l items) (hh : A.handled = none) (hn : i ≤ items.size) (hz : items.size ≤ 16384)
    (h : ∀ (h' : Heap) (tk : Nat), (∀ b o, s.heap.get? b = some o → h'.get? b = some o) → Q (items.toList.take i ++ [.ref h'.objs.size]) { s with heap := h'.push { cls := .type "list", data := .seq (items.toList.drop i).toArray }, toks := tk }) : wpAny (model prog w) A (unpackItems (.ref l) (i + 1) (some i)) Q E s := by
  have hlt : l ≠ s.heap.objs.size := by obtain ⟨o, ho, _⟩ := hl; exact Nat.ne_of_lt (Heap.lt_size ho)
  have hll : l < s.heap.objs.size := by obtain ⟨o, ho, _⟩ := hl; exact Heap.lt_size ho
  unfold unpackItems
  refine wpAny_bind ?_
  unfold notIterableAtAll
  refine wpAny_bind (wpAny_specialOf hl.typeIs slot_tuple_iter.lookup ?_)
  refine wpAny_pure ?_
  simp only [Bool.false_eq_true, if_false]
  refine wpAny_bind (wpAny_holding (iter_tuple hl ?_))
  refine wpAny_bind (wpAny_holding (draw_tuple hlt i 0 _ _ ⟨_, Heap.get?_push_size _ rfl, rfl, rfl⟩ (hl.push _) (by omega) fun h₁ hit₁ hs₁ => ?_))
  have hl₁ : IsTup h₁ l items := (hl.push _).extBut hs₁.extBut hlt
  rw [Nat.zero_add] at hit₁
  have hit₁' := hit₁
  obtain ⟨oi, hoi, _⟩ := hit₁'
  have hl₁' := hl₁
  obtain ⟨ol, hol, _⟩ := hl₁'
  rw [List.drop_zero]
  have hfl : (items.toList.take i).length = i := by rw [List.length_take, Array.length_toList]; omega
  rw [if_neg (show ¬ ((items.toList.take i).length < i) by rw [hfl]; omega)]
  refine wpAny_bind (wpAny_holding (PySem.W.kun_collect (s := { s with heap := h₁ }) (T := "tuple_iterator") (.inr (.inr (.inr rfl))) (Walks.tuple (A := A.in1) hh s.heap.objs.size l hlt items) (fun j u st => st.1.typeIs) (k := i) (by omega) ⟨hit₁, hl₁⟩ (Heap.lt_size hoi) (Heap.lt_size hol) (fun h₂ tk hk => ?_) (by rw [sizeLine_eq]; omega)))
  have hrl : (items.toList.drop i).length = items.size - i := by rw [List.length_drop, Array.length_toList]
  show wpAny _ _ (if (items.toList.drop i).length < i + 1 - 1 - i then _ else _) _ _ _
  rw [if_neg (by rw [hrl]; omega)]
  show wpAny _ _ (newList ((items.toList.drop i).take ((items.toList.drop i).length - (i + 1 - 1 - i))) >>= fun d => pure (items.toList.take i ++ [d] ++ (items.toList.drop i).drop ((items.toList.drop i).length - (i + 1 - 1 - i)))) _ _ _
  have e0 : (items.toList.drop i).length - (i + 1 - 1 - i) = (items.toList.drop i).length := by omega
  rw [e0, List.take_of_length_le (Nat.le_refl _), List.drop_of_length_le (Nat.le_refl _)]
  have he : ∀ b o, s.heap.get? b = some o → h₂.get? b = some o := fun b o e => hk b o (Nat.ne_of_lt (Heap.lt_size e)) (hs₁.extBut b o (Nat.ne_of_lt (Heap.lt_size e)) (Heap.get?_push_of_some _ e))
  refine wpAny_bind (wpAny_newList (s := { s with heap := h₂, toks := tk }) (wpAny_pure ?_) (by rw [hrl, sizeLine_eq]; omega))
  rw [List.append_nil]
  exact h h₂ tk he
/-- a, b, *rest = a tuple: n names, then a new list -/
@[reducible] def gTupS (n : Nat) (h : MGs) : MG := fun w ρ st => match w with
  | .tup ws => if n ≤ ws.length ∧ ws.length ≤ 1000 then h (ws.take n ++ [.ref st.length]) ρ (st ++ [.lst (ws.drop n)]) else none
  | _ => none
section
variable {X : Cx} {pos p : Pos} {e : Expr} {es : List Expr} {g : MG} {h : MGs}
theorem jgs_star {vs : List Nat} (h1 : JG X e vs g) (hs : (assignEach [.Starred e p] X.env).map (·.2) = [assign e X.env] := by rfl) : JGs X [.Starred e p] vs (gsCons g gsNil) := by
  refine ⟨fun pins s σ H us ws Q I r q => ?_⟩
  obtain ⟨ι, ρ, st, ws', S, sl, rr, p⟩ := q
  rw [hs]
  cases ws' with
  | nil => exact p.elim
  | cons w r' =>
    obtain ⟨v, r2, e1, q1, q2⟩ := rr.of_cons
    subst e1
    cases r with
    | cons ra rb =>
      refine assignInOrder_cons ?_
      dsimp only [gsCons] at p
      cases hg : g w ρ st with
      | none => rw [hg] at p; exact p.elim
      | some z =>
        rw [hg] at p
        cases r' with
        | nil =>
          have := q2.of_nil
          subst this
          cases rb
          refine thn (h1.run pins s σ H _ _ (fun σ1 H1 => Q σ1 H1) I ra ⟨ι, ρ, st, w, S, sl, q1, ?_⟩) fun _ s1 ⟨σ1, H1, I1, qq⟩ => assignInOrder_nil ⟨σ1, H1, I1, qq⟩
          rw [hg]
          exact p
        | cons _ _ => exact p.elim
theorem jg_tupS {k n : Nat} {vs : List Nat} (hc : X.calm = true) (hh : JGs X es vs h) (hn : (assignEach es X.env).length = n + 1 := by rfl) (hst : (assignEach es X.env).findIdx? (·.1) = some n := by rfl) : JG X (.Tuple es k pos) vs (gTupS n h) := by
  refine ⟨fun pins s σ H v u Q I r q => ?_⟩
  obtain ⟨ι, ρ, st, w, S, sl, rr, p⟩ := q
  cases w with
  | tup ws =>
    obtain ⟨a, xs, e1, ha, rx⟩ := rr.tup_inv
    subst e1
    cases r
    dsimp only [gTupS] at p
    split at p
    · rename_i hl
      obtain ⟨its, rv, ht, hz⟩ := I.tuple (SqT.of ha)
      have hil : its.length = ws.length := by rw [← rv.length, rx.length]
      rw [assign_Tuple]
      refine wpAny_bind (wpAny_standAt ?_)
      unfold unpack
      rw [hn, hst]
      refine wpAny_bind (wpAny_holding (unp_raw ht (I.ok.hd hc) (by rw [List.size_toArray]; omega) (by rw [List.size_toArray]; omega) fun h' tk hk => ?_))
      have I1 : Inv X pins σ H { s with heap := h' } := I.kept (t' := s.toks) hk
      have hp : H h'.objs.size = none := I1.hok.fresh (Nat.le_refl _)
      have hd : xs.length ≤ 1000 := by rw [← rx.length]; exact hl.2
      have I2 : Inv X pins σ (upd H h'.objs.size (.lst (xs.drop n))) { s with heap := h'.push { cls := .type "list", data := .seq (its.drop n).toArray }, toks := tk } :=
        I1.laid (t' := tk) (o := .lst (xs.drop n)) (fun b ob q => Heap.get?_push_of_some _ q) (Nat.le_refl _) ⟨by rw [List.length_drop, sizeLine_eq]; omega, its.drop n, 0, rv.drop n, Heap.get?_push_size _ rfl⟩
      have hs := same_new (o := .lst (xs.drop n)) hp
      obtain ⟨S', L⟩ := S.push (p := h'.objs.size) (c := .lst (ws.drop n)) hp hs ⟨xs.drop n, upd_same, (rx.drop n).later ⟨⟨[_], rfl⟩, fun b ys e => hs b _ e, fun b o ks e => hs b _ e⟩⟩
      refine hh.run pins _ σ _ (xs.take n ++ [V.ref h'.objs.size]) _ Q I2 ?_ ⟨_, ρ, _, _, S', sl.later L, ((rx.take n).later L).append (.cons (Rep.ref (n := st.length) ?_) .nil), PostG.later p L⟩
      · have := rv.take n
        exact (show Vals (xs.take n) (its.toArray.toList.take n) by simpa using this).append (.cons rfl .nil)
      · rw [← S.len, List.getElem?_append_right (Nat.le_refl _)]; simp
    · exact p.elim
  | _ => exact p.elim
end
end Ab
namespace Ab
open PySem PySem.Spec PyProof.Rows L2
/-- isinstance(e, C), a class of the program -/
def isiW (tbl : List (Nat × Bool)) (st : Store) (w : Val) : Option Bool := match w with
  | .tup _ => some false
  | w => match clsAt st w with
    | some C' => tbl.lookup C'
    | none => none
@[reducible] def mIsiO (tbl : List (Nat × Bool)) (m : ME) : ME := fun ρ st => (m ρ st).bind fun w st1 => match isiW tbl st1 w with
  | some b => .ok (.bl b) st1
  | none => .bad
section
variable {X : Cx} {e : Expr} {m : ME} {p p2 pos : Pos} {x : Str} {C : Nat} {tbl : List (Nat × Bool)}
end
end Ab

set_option Elab.async false
set_option linter.all false
set_option maxRecDepth 100000
set_option maxHeartbeats 1000000
/-! Ab: dicts that are walked (they stay locked), the empty dict. -/
namespace Ab
open PySem PySem.Spec PyProof.Rows L2
/-- a dict is locked for good -/
@[reducible] def mFrz (m : ME) : ME := fun ρ st => (m ρ st).bind fun x st1 => match x with
  | .ref n => match st1[n]? with
    | some (.dct kvs) => .ok (.ref n) (st1.set n (.fdc kvs))
    | some (.fdc kvs) => .ok (.ref n) st1
    | _ => .bad
  | _ => .bad
@[reducible] def fdcAt (x : Val) (st : Store) : Option (Nat × List (Key × Val)) := match x with
  | .ref n => match st[n]? with
    | some (.fdc kvs) => some (n, kvs)
    | _ => none
  | _ => none
/-- its keys -/
@[reducible] def iKeysM (m : ME) : MI := fun ρ st => (mFrz m ρ st).bind fun w st1 => match fdcAt w st1 with
  | some (n, kvs) => .ok (kvs.map fun kv => unkey kv.1, fun st' => st'[n]? = some (.fdc kvs)) st1
  | none => .bad
/-- its values -/
@[reducible] def iValsM (m : ME) : MI := fun ρ st => (mFrz m ρ st).bind fun w st1 => match fdcAt w st1 with
  | some (n, kvs) => .ok (kvs.map (·.2), fun st' => st'[n]? = some (.fdc kvs)) st1
  | none => .bad
section
variable {X : Cx} {e tg : Expr} {m : ME} {apos cpos pos : Pos}
theorem RepK.get' {mg : Str → Option Value} {ι : List Addr} {H : Hp} : ∀ {ws : List (Key × Val)} {vs : List (Key × V)} {i : Nat} {k : Key} {v : V}, RepK mg ι H ws vs → vs[i]? = some (k, v) → ∃ w, ws[i]? = some (k, w) ∧ Rep mg ι H w v
  | _, _, _, _, _, .nil, h => by simp at h
  | (k', w) :: _, (k2, v2) :: _, 0, k, v, .cons h t, e => by
    simp at e
    obtain ⟨rfl, rfl⟩ := e
    obtain ⟨h1, h2⟩ := h
    simp only at h1 h2
    subst h1
    exact ⟨w, rfl, h2⟩
  | _ :: _, _ :: _, i + 1, k, v, .cons h t, e => by
    obtain ⟨w, e1, r⟩ := RepK.get' (i := i) t (by simpa using e)
    exact ⟨w, by simpa using e1, r⟩
/-- {} -/
@[reducible] def mDisp0 : ME := fun _ st => .ok (.ref st.length) (st ++ [.dct []])
end
section
variable {X : Cx} {k n : Nat} {o e : Expr} {es : List Expr} {mo : ME} {t : MA} {pos : Pos} {mf : MF} {C : Nat}
end
end Ab

set_option Elab.async false
set_option linter.all false
set_option maxRecDepth 100000
set_option maxHeartbeats 1000000
/-! Ab: f(lambda: e) where f gives what it got, or words of the one class that it catches. -/
namespace Ab
open PySem PySem.Spec PyProof.Rows L2
@[reducible] def mOutOne (out : Exc → Option (List Val)) (mb : ME) : ME := fun ρ st => match mb ρ st with
  | .ok v st1 => .ok v st1
  | .exc x st1 => match out x with
    | some ws => if ws.all flatW = true then .ok (.tup ws) st1 else .bad
    | none => .bad
  | .bad => .bad
section
variable {X : Cx} {x a e cn : Str} {st : Stmt} {g RA : Addr} {b₀ : Stmt} {suite : List Stmt} {mS : Addr → Option Addr → Nat → MS} {j jj : Nat} {p1 p2 p3 p4 p5 p6 p7 p8 : Pos} {cdg : Value} {q : Str} {k : Nat} {out : Exc → Option (List Val)} {L : List Nat}
end
section
variable {X : Cx}
variable {o e : Expr} {mo : ME} {t : MA} {apos cpos : Pos} {me : ME}
end
end Ab

set_option Elab.async false
set_option linter.all false
set_option maxRecDepth 100000
set_option maxHeartbeats 1000000
/-! Ab: row.names.index(x): the tuple that a property makes by tuple([..]) is known to the object, so a method of it may be called. -/
namespace Ab
open PySem PySem.Spec PyProof.Rows L2
end Ab

set_option Elab.async false
set_option linter.all false
set_option maxRecDepth 100000
set_option maxHeartbeats 1000000
/-! Ab: dict == dict, values of any depth. -/
namespace Ab
open PySem PySem.Spec PyProof.Rows L2
section
variable {mg : Str → Option Value} {ι : List Addr} {H : Hp}
end
section
variable {X : Cx} {pins : List (Addr × Obj)} {s : Shared} {σ : L2.St} {H : Hp} {ι : List Addr} {st : Store}
end
end Ab

set_option Elab.async false
set_option linter.all false
set_option maxRecDepth 100000
set_option maxHeartbeats 1000000
/-! Ab: the end of a law: from the walk of its body and the plain law to what the head asks. -/
namespace Ab
open PySem PySem.Spec PyProof.Rows L2
/-- the cell of the script: a list that may be read -/
def IsScript (ns : List Int) (c : Cell) : Prop := c = .frz (ns.map Val.int) ∨ c = .lst (ns.map Val.int)
theorem reps_ints {mg : Str → Option Value} {ι : List Addr} {H : Hp} : ∀ ns : List Int, Reps mg ι H (ns.map Val.int) (ns.map V.int)
  | [] => .nil
  | n :: r => .cons Rep.int (reps_ints r)
theorem tabsOf_law {K : PySem.W.Frag} {mg : Str → Option Value} {fa c P : Addr} {oc : Value} {od : Option Addr} {fd : FuncData} {osl : Array (Option Value)} {e : Value} {dd : Option Addr} {vs : Array Value} {sl : Array (Option Value)} (hmg : mg "law" = some (.ref fa)) (h1 : mg "_law_refused" = none) (h2 : mg "_law_changed" = none)
    (lk : K.lookup fa = some ⟨oc, od, .func fd, osl⟩) (hc : fd.code = .ref c) (lc : K.lookup c = some ⟨e, dd, .fields vs, sl⟩) (h11 : vs[11]? = some (.ref P)) : tabsOf K mg = [(P, ("law" : Str) ++ ".<locals>." ++ "<lambda>")] := by
  have t0 : tabOf K mg "law" = some (P, ("law" : Str) ++ ".<locals>." ++ "<lambda>") := by unfold tabOf; rw [hmg]; dsimp only; rw [lk]; dsimp only; rw [hc]; dsimp only; rw [lc]; dsimp only; rw [h11]
  have t1 : tabOf K mg "_law_refused" = none := by unfold tabOf; rw [h1]
  have t2 : tabOf K mg "_law_changed" = none := by unfold tabOf; rw [h2]
  unfold tabsOf lamNames
  simp only [List.filterMap_cons, t0, t1, t2, List.filterMap_nil]
theorem law_at {l : PySem.W.OpenLaw} {w : World} {K : PySem.W.Frag} {mg : Str → Option Value} {fa c P : Addr} {h : Heap} {st : Stmt} {x : Str} {N : List Str} {m lev : Nat} {body : MS} {kV doc pm ct oc : Value} {an od : Option Addr} {osl : Array (Option Value)} {e : Value} {dd : Option Addr} {vs : Array Value} {sl : Array (Option Value)}
    (X : K.In h) (own : LamX.OwnTab K fa h) (hmg : mg "law" = some (.ref fa)) (h1 : mg "_law_refused" = none) (h2 : mg "_law_changed" = none)
    (lk : K.lookup fa = some ⟨oc, od, .func (PySem.W.fnOf "law" "law" (defArgs st) (defBody st) (defScope st) .none kV doc pm an (.ref c) ct), osl⟩) (hcd : PySem.W.codeIn K (.ref c) "law" = true) (lc : K.lookup c = some ⟨e, dd, .fields vs, sl⟩) (h11 : vs[11]? = some (.ref P)) (nP : K.lookup P = none) (hh : PySem.W.codeHdIn K c P = true)
    (S : FnScope N [x] (defScope st)) (hm : N.length = 1 + m)
    (hb : ∀ (s : Shared) (u : Value), BindsTo s (PySem.W.fnOf "law" "law" (defArgs st) (defBody st) (defScope st) .none kV doc pm an (.ref c) ct) ⟨[u], []⟩ [(x, u)])
    (hj : ∀ base : Heap, K.In base → base.Ns mainGlobals mg → LamX.TabB base mg c P → (P, ("law" : Str) ++ ".<locals>." ++ "<lambda>") ∈ tabsOf K mg → (∀ p ∈ tabsOf K mg, p.1 = P → p.2 = ("law" : Str) ++ ".<locals>." ++ "<lambda>") →
      ∀ (A : Around) (outer : List Env) (s : Shared) (H : Hp) (E : XK), Room lev (cx1 ⟨l.prog, w, K, mg, base⟩ N "law" st fa (.ref c) A outer s H E).A → JSs (cx1 ⟨l.prog, w, K, mg, base⟩ N "law" st fa (.ref c) A outer s H E) (defBody st) body)
    (plain : ∀ (ns : List Int) (cell : Cell), IsScript ns cell → ns.length ≤ 63 → (∀ z ∈ ns, Builtin.Int.intBits z ≤ 1048576) → ∃ st', defM 1 m body [.ref 0] [cell] = .ok (.bl true) st') :
    LamX.LawAtS l w K (L2.CX l.prog w) (lev + 1) 63 x mg fa h := by
  have hT := tabsOf_law hmg h1 h2 lk rfl lc h11
  refine ⟨_, [(c, P)], spM K mg (defM 1 m body), ?_, ?_, ?_, hb, ?_, ?_⟩
  · intro p hp
    rw [List.mem_singleton.mp hp]
    exact own c P _ _ _ _ _ _ lk rfl rfl lc h11
  · intro p hp
    rw [List.mem_singleton.mp hp]
    exact nP
  · intro p hp
    rw [List.mem_singleton.mp hp]
    exact PySem.W.codeHd_of_K X hh
  · intro H a ns hl hbits hcs hS
    have tabs : LamX.Tabs (tabsOf K mg) H := fun p hp => by
      rw [hT] at hp
      rw [List.mem_singleton.mp hp]
      exact LamX.TabS.nil (hcs (c, P) List.mem_cons_self)
    have go : ∀ cell, IsScript ns cell → CellOk K mg [a] H a cell → spM K mg (defM 1 m body) [.ref a] H (fun v _ => v = .bl true) fun _ _ _ => False := by
      intro cell hc hok
      obtain ⟨st', e'⟩ := plain ns cell hc hl hbits
      refine ⟨[a], [.ref 0], [cell], ⟨rfl, fun n m' b c' d' q1 q2 q3 q4 _ _ => ?_, fun n c' b q1 q2 => ?_, tabs⟩, .cons (Rep.ref rfl) .nil, ?_⟩
      · have := (List.getElem?_eq_some_iff.mp q1).1
        have := (List.getElem?_eq_some_iff.mp q2).1
        simp at *
        omega
      · have z := (List.getElem?_eq_some_iff.mp q1).1
        have z0 : n = 0 := by simp at z; omega
        subst z0
        simp at q1 q2
        subst q1 q2
        exact hok
      · rw [e']
        intro ι' H' v l' S' r
        exact Rep.bl_inv r
    rcases hS with (hS | ⟨o, hS⟩) | ⟨o, its, n, k1, k2, k3, k4, k5, k6⟩
    · exact go _ (.inr rfl) ⟨_, hS, reps_ints ns⟩
    · exact go _ (.inl rfl) ⟨_, .inl ⟨o, hS⟩, reps_ints ns⟩
    · exact go _ (.inl rfl) ⟨_, .inr ⟨o, its, n, k1, k2, k3, k4, k5, k6⟩, reps_ints ns⟩
  · intro base hK hNs hTB
    refine fn_of lk hcd S (fun vs H Q E hsp => ?_) fun A outer s H vs Q E hr hsp => ?_
    · obtain ⟨ι, ws, st', S', r, p⟩ := hsp
      unfold defM at p
      split at p
      · rename_i hl
        rw [← r.length, hl]; rfl
      · exact p.elim
    · obtain ⟨ι, ws, st', S', r, p⟩ := hsp
      unfold defM at p
      split at p
      · rename_i hl
        have j := hj base hK hNs (hTB (c, P) List.mem_cons_self) (by rw [hT]; exact List.mem_cons_self) (fun p hp _ => by rw [hT] at hp; rw [List.mem_singleton.mp hp]) A outer s H E hr
        refine ⟨_, j (fun cls d _ H => E cls d H) (takes_of rfl rfl rfl rfl), ι, _, st', S', slots_start r (by rw [hl]; exact hm), ?_⟩
        show PostO K mg _ ι H _ (body (ws.map some ++ List.replicate m none) st')
        cases q : body (ws.map some ++ List.replicate m none) st' with
        | nx ρ s1 => rw [q] at p; exact fun ι1 H1 σ1 l S1 sl => p ι1 H1 _ l S1 Rep.non
        | ret w s1 => rw [q] at p; exact p
        | exc x ρ s1 => rw [q] at p; exact fun ι1 H1 σ1 c d l S1 sl r => p ι1 H1 c d l S1 r
        | brk ρ s1 => rw [q] at p; exact p.elim
        | ct ρ s1 => rw [q] at p; exact p.elim
        | bad => rw [q] at p; exact p.elim
      · exact p.elim
end Ab
namespace Ab
open PySem PySem.Spec PyProof.Rows L2
theorem nof5 {K : PySem.W.Frag} {Da : Addr} (h1 : PySem.W.findIn K (.ref Da) "part" = some none) (h2 : PySem.W.findIn K (.ref Da) "index" = some none) (h3 : PySem.W.findIn K (.ref Da) "name" = some none) (h4 : PySem.W.findIn K (.ref Da) "line" = some none) (h5 : PySem.W.findIn K (.ref Da) "offset" = some none) :
    ∀ f ∈ [24, 25, 26, 27, 28], PySem.W.findIn K (.ref Da) (nm f) = some none := by
  intro f hf
  simp only [List.mem_cons, List.not_mem_nil, or_false] at hf
  rcases hf with e | e | e | e | e <;> subst e
  · exact h1
  · exact h2
  · exact h3
  · exact h4
  · exact h5
theorem isc8 {K : PySem.W.Frag} {h : Heap} {mg : Str → Option Value} {Da C1 C2 C3 C4 C5 C6 C7 C8 : Addr} {b1 b2 b3 b4 b5 b6 b7 b8 : Bool} {D : Nat} (X : K.In h) (G : h.Ns mainGlobals mg)
    (a1 : PySem.W.nsIn K mainGlobals "InvalidRow" = some (some (.ref C1))) (a2 : PySem.W.nsIn K mainGlobals "UnknownBarrel" = some (some (.ref C2))) (a3 : PySem.W.nsIn K mainGlobals "InvalidNumber" = some (some (.ref C3))) (a4 : PySem.W.nsIn K mainGlobals "InvalidWeather" = some (some (.ref C4)))
    (a5 : PySem.W.nsIn K mainGlobals "InvalidOperation" = some (some (.ref C5))) (a6 : PySem.W.nsIn K mainGlobals "InvalidText" = some (some (.ref C6))) (a7 : PySem.W.nsIn K mainGlobals "DaybookError" = some (some (.ref C7))) (a8 : PySem.W.nsIn K mainGlobals "DecodeError" = some (some (.ref C8)))
    (k1 : PySem.W.kitOne K (.ref Da) (.ref C1) = some b1) (k2 : PySem.W.kitOne K (.ref Da) (.ref C2) = some b2) (k3 : PySem.W.kitOne K (.ref Da) (.ref C3) = some b3) (k4 : PySem.W.kitOne K (.ref Da) (.ref C4) = some b4)
    (k5 : PySem.W.kitOne K (.ref Da) (.ref C5) = some b5) (k6 : PySem.W.kitOne K (.ref Da) (.ref C6) = some b6) (k7 : PySem.W.kitOne K (.ref Da) (.ref C7) = some b7) (k8 : PySem.W.kitOne K (.ref Da) (.ref C8) = some b8)
    (e1 : b1 = decide (D = 1) := by rfl) (e2 : b2 = decide (D = 2) := by rfl) (e3 : b3 = decide (D = 4) := by rfl) (e4 : b4 = decide (D = 6) := by rfl) (e5 : b5 = decide (D = 7) := by rfl) (e6 : b6 = decide (D = 8) := by rfl) (e7 : b7 = decide (D = 9) := by rfl) (e8 : b8 = decide (D = 10) := by rfl) :
    ∀ C ∈ [1, 2, 4, 6, 7, 8, 9, 10], ∀ Ca, mg (nm C) = some (.ref Ca) → PySem.W.kitOne K (.ref Da) (.ref Ca) = some (decide (D = C)) := by
  intro C hC Ca h
  simp only [List.mem_cons, List.not_mem_nil, or_false] at hC
  rcases hC with e | e | e | e | e | e | e | e <;> subst e
  · cases (PySem.W.mg_of X G a1).symm.trans h; rw [k1, e1]
  · cases (PySem.W.mg_of X G a2).symm.trans h; rw [k2, e2]
  · cases (PySem.W.mg_of X G a3).symm.trans h; rw [k3, e3]
  · cases (PySem.W.mg_of X G a4).symm.trans h; rw [k4, e4]
  · cases (PySem.W.mg_of X G a5).symm.trans h; rw [k5, e5]
  · cases (PySem.W.mg_of X G a6).symm.trans h; rw [k6, e6]
  · cases (PySem.W.mg_of X G a7).symm.trans h; rw [k7, e7]
  · cases (PySem.W.mg_of X G a8).symm.trans h; rw [k8, e8]
/-- codeHdIn, told of the code object's fields -/
def codeHdB (e : Value) (vs : Array Value) (c P : Addr) : Bool := match e with
  | .type "code" => (match (vs[11]? : Option Value) with | some (.ref P') => P' == P | _ => false) &&
      (match vs.getD 18 .none with | .str _ _ => true | _ => false) && (match vs.getD 7 .none with | .int _ _ => true | _ => false) &&
      (match vs.getD 9 .none with | .bool _ => true | _ => false) && (match vs.getD 10 .none with | .int _ _ => true | _ => false) && c != P
  | _ => false
theorem codeHd_by {K : PySem.W.Frag} {c P : Addr} {e : Value} {dd : Option Addr} {vs : Array Value} {sl : Array (Option Value)} (lc : K.lookup c = some ⟨e, dd, .fields vs, sl⟩) (h : codeHdB e vs c P = true) : PySem.W.codeHdIn K c P = true := by
  unfold codeHdB at h
  split at h
  · unfold PySem.W.codeHdIn
    rw [lc]
    exact h
  · cases h
end Ab

set_option Elab.async false
set_option linter.all false
set_option maxRecDepth 100000
set_option maxHeartbeats 1000000
/-! Ab: what a mirror's run asks, written as a wish on its end (for the plain laws). -/
namespace Ab
open PySem PySem.Spec PyProof.Rows L2
/-- a run that ends well wishes Q, one that raises wishes X -/
def WpR {α : Type} (r : R α) (Q : α → Store → Prop) (X : Exc → Store → Prop) : Prop := match r with
  | .ok a st => Q a st
  | .exc x st => X x st
  | .bad => False
/-- what a statement's ends wish -/
structure Wish where
  nx : Slots → Store → Prop := fun _ _ => False
  rt : Val → Store → Prop := fun _ _ => False
  bk : Slots → Store → Prop := fun _ _ => False
  ct : Slots → Store → Prop := fun _ _ => False
  ex : Exc → Store → Prop := fun _ _ => False
def WpO (o : O) (W : Wish) : Prop := match o with
  | .nx ρ st => W.nx ρ st
  | .ret w st => W.rt w st
  | .brk ρ st => W.bk ρ st
  | .ct ρ st => W.ct ρ st
  | .exc x ρ st => W.ex x st
  | .bad => False
section
variable {α β : Type} {Q : α → Store → Prop} {X : Exc → Store → Prop} {W : Wish} {st : Store} {ρ : Slots}
@[simp] theorem wp_ok {a : α} : WpR (.ok a st) Q X = Q a st := rfl
@[simp] theorem wp_exc {x : Exc} : WpR (α := α) (.exc x st) Q X = X x st := rfl
@[simp] theorem wp_bad : WpR (α := α) .bad Q X = False := rfl
@[simp] theorem wpo_nx : WpO (.nx ρ st) W = W.nx ρ st := rfl
@[simp] theorem wpo_ret {w : Val} : WpO (.ret w st) W = W.rt w st := rfl
@[simp] theorem wpo_brk : WpO (.brk ρ st) W = W.bk ρ st := rfl
@[simp] theorem wpo_ct : WpO (.ct ρ st) W = W.ct ρ st := rfl
@[simp] theorem wpo_exc {x : Exc} : WpO (.exc x ρ st) W = W.ex x st := rfl
@[simp] theorem wpo_bad : WpO .bad W = False := rfl
theorem WpR.mono {r : R α} {Q' : α → Store → Prop} {X' : Exc → Store → Prop} (h : WpR r Q X) (hq : ∀ a st, Q a st → Q' a st) (hx : ∀ x st, X x st → X' x st) : WpR r Q' X' := by
  cases r with
  | ok a st => exact hq a st h
  | exc x st => exact hx x st h
  | bad => exact h
theorem WpO.mono {o : O} {W' : Wish} (h : WpO o W) (h1 : ∀ ρ st, W.nx ρ st → W'.nx ρ st) (h2 : ∀ w st, W.rt w st → W'.rt w st) (h3 : ∀ ρ st, W.bk ρ st → W'.bk ρ st) (h4 : ∀ ρ st, W.ct ρ st → W'.ct ρ st) (h5 : ∀ x st, W.ex x st → W'.ex x st) : WpO o W' := by
  cases o with
  | nx ρ st => exact h1 _ _ h
  | ret w st => exact h2 _ _ h
  | brk ρ st => exact h3 _ _ h
  | ct ρ st => exact h4 _ _ h
  | exc x ρ st => exact h5 _ _ h
  | bad => exact h
theorem wp_bind {r : R α} {f : α → Store → R β} {Q : β → Store → Prop} : WpR (r.bind f) Q X = WpR r (fun a st => WpR (f a st) Q X) X := by
  cases r <;> rfl
theorem wp_toO {r : R α} {f : α → Store → O} : WpO (r.toO ρ f) W = WpR r (fun a st => WpO (f a st) W) W.ex := by
  cases r <;> rfl
theorem wpo_then {o : O} {f : Slots → Store → O} : WpO (o.then f) W = WpO o { W with nx := fun ρ st => WpO (f ρ st) W } := by
  cases o <;> rfl
theorem wp_fin {o : O} {Q : Val → Store → Prop} : WpR o.fin Q X = WpO o { nx := fun _ st => Q .non st, rt := Q, ex := X } := by
  cases o <;> rfl
theorem wp_def {n m : Nat} {body : MS} {ws : List Val} {Q : Val → Store → Prop} (h : ws.length = n) : WpR (defM n m body ws st) Q X = WpO (body (ws.map some ++ List.replicate m none) st) { nx := fun _ st => Q .non st, rt := Q, ex := X } := by
  rw [defM_eq h, wp_fin]
theorem wp_eq {r : R α} (h : WpR r Q fun _ _ => False) : ∃ a st', r = .ok a st' ∧ Q a st' := by
  cases r with
  | ok a st => exact ⟨a, st, rfl, h⟩
  | exc x st => exact h.elim
  | bad => exact h.elim
end
/-! ### the combinators -/
section
variable {Q : Val → Store → Prop} {QB : Bool → Store → Prop} {QL : List Val → Store → Prop} {X : Exc → Store → Prop} {W : Wish} {st : Store} {ρ : Slots} {a b m : ME} {t u : MT} {ta : MA} {s s1 s2 : MS}
theorem w_var {i : Nat} {v : Val} (h : ρ[i]? = some (some v)) : WpR (mVar i ρ st) Q X = Q v st := by unfold mVar; rw [h]; rfl
theorem w_C {v : Val} : WpR (mC v ρ st) Q X = Q v st := rfl
theorem w_bin {g : Val → Val → Store → R Val} : WpR (mBin g a b ρ st) Q X = WpR (a ρ st) (fun x st1 => WpR (b ρ st1) (fun y st2 => WpR (g x y st2) Q X) X) X := by
  unfold mBin; rw [wp_bind]; simp only [wp_bind]
theorem w_test : WpR (mTest m ρ st) QB X = WpR (m ρ st) (fun x st1 => WpR (asB x st1) QB X) X := by unfold mTest; rw [wp_bind]
theorem w_not : WpR (tNotM t ρ st) QB X = WpR (t ρ st) (fun k st1 => QB (!k) st1) X := by unfold tNotM; rw [wp_bind]; rfl
theorem w_aNil : WpR (aNil ρ st) QL X = QL [] st := rfl
theorem w_aCons : WpR (aCons m ta ρ st) QL X = WpR (m ρ st) (fun x st1 => WpR (ta ρ st1) (fun xs st2 => QL (x :: xs) st2) X) X := by
  unfold aCons; rw [wp_bind]; simp only [wp_bind, wp_ok]
theorem w_app {f : MF} : WpR (mApp f ta ρ st) Q X = WpR (ta ρ st) (fun xs st1 => WpR (f xs st1) Q X) X := by unfold mApp; rw [wp_bind]
theorem w_if : WpR (mIf t a b ρ st) Q X = WpR (t ρ st) (fun k st1 => if k = true then WpR (a ρ st1) Q X else WpR (b ρ st1) Q X) X := by
  unfold mIf; rw [wp_bind]; congr 1; funext k st1; split <;> rfl
theorem w_seq : WpO (sSeq s1 s2 ρ st) W = WpO (s1 ρ st) { W with nx := fun ρ st => WpO (s2 ρ st) W } := by unfold sSeq; rw [wpo_then]
theorem w_set {i : Nat} : WpO (sSet i m ρ st) W = WpR (m ρ st) (fun w st1 => W.nx (ρ.set i (some w)) st1) W.ex := by unfold sSet; rw [wp_toO]; rfl
theorem w_ret : WpO (sRet m ρ st) W = WpR (m ρ st) (fun w st1 => W.rt w st1) W.ex := by unfold sRet; rw [wp_toO]; rfl
theorem w_drop : WpO (sDrop m ρ st) W = WpR (m ρ st) (fun _ st1 => W.nx ρ st1) W.ex := by unfold sDrop; rw [wp_toO]; rfl
theorem w_sif : WpO (sIf t s1 s2 ρ st) W = WpR (t ρ st) (fun k st1 => if k = true then WpO (s1 ρ st1) W else WpO (s2 ρ st1) W) W.ex := by
  unfold sIf; rw [wp_toO]; congr 1; funext k st1; split <;> rfl
theorem w_next : WpO (sNext ρ st) W = W.nx ρ st := rfl
theorem w_lst : WpR (mLst ta ρ st) Q X = WpR (ta ρ st) (fun xs st1 => xs.length ≤ sizeLine ∧ Q (.ref st1.length) (st1 ++ [.lst xs])) X := by
  unfold mLst; rw [wp_bind]; congr 1; funext xs st1
  by_cases h : xs.length ≤ sizeLine <;> simp [h]
theorem w_tup : WpR (mTup ta ρ st) Q X = WpR (ta ρ st) (fun xs st1 => xs.length ≤ sizeLine ∧ Q (.tup xs) st1) X := by
  unfold mTup; rw [wp_bind]; congr 1; funext xs st1
  by_cases h : xs.length ≤ sizeLine <;> simp [h]
end

/-! ### loops -/
section
variable {g : MG} {body : MS} {okp : Store → Prop} {W : Wish} {X : Exc → Store → Prop}
theorem w_for {mi : MI} {ρ : Slots} {st : Store} : WpO (sFor mi g body ρ st) W = WpR (mi ρ st) (fun it st1 => WpO (forM g body it.2 it.1 ρ st1) W) W.ex := by unfold sFor; rw [wp_toO]
/-- a loop by an invariant told of the number of turns behind it -/
theorem forM_wp {items : List Val} (Inv : Nat → Slots → Store → Prop) (hok : ∀ i ρ st, i ≤ items.length → Inv i ρ st → okp st)
    (step : ∀ i w ρ st, items[i]? = some w → Inv i ρ st → ∃ ρ1 st1, g w ρ st = some (ρ1, st1) ∧ WpO (body ρ1 st1) { nx := Inv (i + 1), ct := Inv (i + 1), bk := W.nx, rt := W.rt, ex := W.ex })
    (fin : ∀ ρ st, Inv items.length ρ st → W.nx ρ st) {ρ : Slots} {st : Store} (h : Inv 0 ρ st) : WpO (forM g body okp items ρ st) W := by
  have key : ∀ (k i : Nat) (ρ : Slots) (st : Store), items.length - i = k → i ≤ items.length → Inv i ρ st → WpO (forM g body okp (items.drop i) ρ st) W := by
    intro k
    induction k with
    | zero =>
      intro i ρ st hk hi h
      have e : i = items.length := by omega
      subst e
      rw [List.drop_length]
      unfold forM
      rw [if_pos (hok _ _ _ hi h)]
      exact fin ρ st h
    | succ k ih =>
      intro i ρ st hk hi h
      have hlt : i < items.length := by omega
      rw [List.drop_eq_getElem_cons hlt]
      unfold forM
      rw [if_pos (hok _ _ _ hi h)]
      obtain ⟨ρ1, st1, hg, hb⟩ := step i _ ρ st (List.getElem?_eq_getElem hlt) h
      rw [hg]
      dsimp only
      cases q : body ρ1 st1 with
      | nx ρ2 st2 => rw [q] at hb; exact ih (i + 1) ρ2 st2 (by omega) hlt hb
      | ct ρ2 st2 => rw [q] at hb; exact ih (i + 1) ρ2 st2 (by omega) hlt hb
      | brk ρ2 st2 => rw [q] at hb; exact hb
      | ret w st2 => rw [q] at hb; exact hb
      | exc x ρ2 st2 => rw [q] at hb; exact hb
      | bad => rw [q] at hb; exact hb
  have z := key _ 0 ρ st rfl (Nat.zero_le _) h
  rwa [List.drop_zero] at z
end
end Ab

set_option Elab.async false
set_option linter.all false
set_option maxRecDepth 100000
set_option maxHeartbeats 1000000
/-! Ab: the laws' draws (_law_mix, _law_next of k41 to k48), once for all. -/
namespace Ab
open PySem PySem.Spec PyProof.Rows L2
/-- all cells but those of S are as they were -/
def Keep (S : List Nat) (st st' : Store) : Prop := st.length ≤ st'.length ∧ ∀ i : Nat, i < st.length → i ∉ S → st'[i]? = st[i]?
theorem Keep.refl {S : List Nat} {st : Store} : Keep S st st := ⟨Nat.le_refl _, fun _ _ _ => rfl⟩
theorem Keep.trans {S : List Nat} {a b c : Store} (h : Keep S a b) (k : Keep S b c) : Keep S a c :=
  ⟨Nat.le_trans h.1 k.1, fun i hi hn => (k.2 i (Nat.lt_of_lt_of_le hi h.1) hn).trans (h.2 i hi hn)⟩
theorem Keep.push {S : List Nat} {st : Store} {c : Cell} : Keep S st (st ++ [c]) := ⟨by simp, fun i hi _ => List.getElem?_append_left hi⟩
theorem Keep.set {S : List Nat} {st : Store} {n : Nat} {c : Cell} (h : n ∈ S) : Keep S st (st.set n c) := ⟨by simp, fun i _ hn => List.getElem?_set_ne fun e => hn (by rw [← e]; exact h)⟩
theorem Keep.mono {S S' : List Nat} {a b : Store} (h : Keep S a b) (k : ∀ i ∈ S, i ∈ S') : Keep S' a b := ⟨h.1, fun i hi hn => h.2 i hi fun z => hn (k i z)⟩
theorem Keep.get {S : List Nat} {a b : Store} (h : Keep S a b) {i : Nat} {c : Cell} (e : a[i]? = some c) (hn : i ∉ S) : b[i]? = some c := (h.2 i (List.getElem?_eq_some_iff.mp e).1 hn).trans e
/-- the draws' state: [mixed, cells, place] at h, the cells at c -/
def Draws (h c : Nat) (st : Store) : Prop := ∃ (a : Int) (cs : List Int) (p : Int), st[h]? = some (.lst [.int a, .ref c, .int p]) ∧ st[c]? = some (.lst (cs.map .int)) ∧ 0 ≤ a ∧ a < 2147483647 ∧ 0 ≤ p ∧ cs.length ≤ 63 ∧ h ≠ c
theorem Draws.keep {S : List Nat} {h c : Nat} {st st' : Store} (d : Draws h c st) (k : Keep S st st') (h1 : h ∉ S) (h2 : c ∉ S) : Draws h c st' := by
  obtain ⟨a, cs, p, e1, e2, r⟩ := d
  exact ⟨a, cs, p, k.get e1 h1, k.get e2 h2, r⟩
def mNext : MS := sSeq (sSet 2 (mBin vIx (mBin vAdd (mBin vIx (mVar 0) (mC (.int 1))) (mLst (aCons (mC (.int 0)) (aNil)))) (mBin vMod (mBin vIx (mVar 0) (mC (.int 2))) (mApp bMax2 (aCons (mC (.int 1)) (aCons (mApp bLen (aCons (mBin vIx (mVar 0) (mC (.int 1))) (aNil))) (aNil))))))) (sSeq (sIf (mTest (mBin vGe (mVar 2) (mBin vPow (mC (.int 10)) (mC (.int 18))))) (sSeq (sAsg (mBin vDiv (mVar 2) (mVar 1)) (gSubL (mBin vIx (mVar 0) (mC (.int 1))) (mBin vMod (mBin vIx (mVar 0) (mC (.int 2))) (mApp bLen (aCons (mBin vIx (mVar 0) (mC (.int 1))) (aNil)))))) (sRet (mBin vMod (mVar 2) (mVar 1)))) (sNext)) (sSeq (sAsg (mBin vMod (mBin vAdd (mBin vAdd (mBin vMul (mBin vIx (mVar 0) (mC (.int 0))) (mC (.int 48271))) (mBin vMul (mVar 2) (mC (.int 69621)))) (mC (.int 11))) (mC (.int 2147483647))) (gSubL (mVar 0) (mC (.int 0)))) (sSeq (sAsg (mBin vAdd (mBin vIx (mVar 0) (mC (.int 2))) (mC (.int 1))) (gSubL (mVar 0) (mC (.int 2)))) (sRet (mBin vMod (mBin vDiv (mBin vIx (mVar 0) (mC (.int 0))) (mC (.int 7))) (mVar 1))))))
theorem ix_ref {n : Nat} {i : Int} {xs : List Val} {w : Val} {st : Store} {Q : Val → Store → Prop} {X : Exc → Store → Prop} (h : seqAt st n = some xs) (hi : L2.atI xs i = some w) : WpR (vIx (.ref n) (.int i) st) Q X = Q w st := by
  dsimp only [vIx]; rw [h]; dsimp only; rw [hi]; rfl
theorem seqAt_lst {st : Store} {n : Nat} {xs : List Val} (h : st[n]? = some (.lst xs)) : seqAt st n = some xs := by unfold seqAt; rw [h]
theorem w_asg {m : ME} {g : MG} {ρ : Slots} {st : Store} {W : Wish} : WpO (sAsg m g ρ st) W = WpR (m ρ st) (fun w st1 => match g w ρ st1 with | some (ρ', st') => W.nx ρ' st' | none => False) W.ex := by
  unfold sAsg; rw [wp_toO]; congr 1; funext w st1
  split <;> rename_i q <;> first | rfl | (rw [q] <;> rfl)
/-- a list is laid -/
theorem lst_push {xs : List Val} {st : Store} {P : Nat → Store → Prop} (h : ∀ (n : Nat) (s' : Store), s'[n]? = some (.lst xs) → Keep [] st s' → st.length ≤ n → P n s') : P st.length (st ++ [.lst xs]) := h _ _ (by simp) .push (Nat.le_refl _)
theorem add_lst {n m : Nat} {xs ys : List Val} {st : Store} {Q : Val → Store → Prop} {X : Exc → Store → Prop} (h1 : st[n]? = some (.lst xs)) (h2 : st[m]? = some (.lst ys)) (hl : xs.length + ys.length ≤ 100000)
    (hq : ∀ (k : Nat) (s' : Store), s'[k]? = some (.lst (xs ++ ys)) → Keep [] st s' → st.length ≤ k → Q (.ref k) s') : WpR (vAdd (.ref n) (.ref m) st) Q X := by
  dsimp only [vAdd]
  rw [h1, h2]
  dsimp only
  rw [if_pos (by rw [sizeLine_eq]; omega), wp_ok]
  exact lst_push (P := fun k s => Q (.ref k) s) hq
theorem Keep.nil {S : List Nat} {a b : Store} (h : Keep [] a b) : Keep S a b := h.mono fun _ z => by cases z
theorem g_subL {mo mi : ME} {w : Val} {ρ : Slots} {st : Store} {n j : Nat} {k : Int} {xs : List Val} (h1 : mo ρ st = .ok (.ref n) st) (h2 : mi ρ st = .ok (.int k) st) (h3 : st[n]? = some (.lst xs)) (h4 : L2.ixN xs.length k = some j) : gSubL mo mi w ρ st = some (ρ, st.set n (.lst (xs.set j w))) := by
  unfold gSubL
  rw [h1]; dsimp only
  rw [h2]; dsimp only
  rw [h3]; dsimp only
  rw [h4]
theorem ev_ix {mo : ME} {n : Nat} {i : Int} {xs : List Val} {w : Val} {ρ : Slots} {st : Store} (h1 : mo ρ st = .ok (.ref n) st) (h : seqAt st n = some xs) (hi : L2.atI xs i = some w) : mBin vIx mo (mC (.int i)) ρ st = .ok w st := by
  unfold mBin
  rw [h1]
  dsimp only [R.bind, mC, vIx]
  rw [h]; dsimp only; rw [hi]
theorem ev_bin {g : Val → Val → Store → R Val} {a b : ME} {x y : Val} {ρ : Slots} {st s1 s2 : Store} (h1 : a ρ st = .ok x s1) (h2 : b ρ s1 = .ok y s2) : mBin g a b ρ st = g x y s2 := by
  unfold mBin; rw [h1]; dsimp only [R.bind]; rw [h2]
theorem ev_one {m : ME} {x : Val} {ρ : Slots} {st s1 : Store} (h : m ρ st = .ok x s1) : aCons m aNil ρ st = .ok [x] s1 := by
  unfold aCons; rw [h]
theorem ev_app {f : MF} {t : MA} {xs : List Val} {ρ : Slots} {st s1 : Store} (h : t ρ st = .ok xs s1) : mApp f t ρ st = f xs s1 := by
  unfold mApp; rw [h]
theorem vmul_r {i j : Int} {st : Store} (h : -(2 ^ 64) < j ∧ j < 2 ^ 64) : vMul (.int i) (.int j) st = .ok (.int (i * j)) st := by
  dsimp only [vMul]
  rw [if_pos]
  unfold mulOk
  rw [decide_eq_true h.1, decide_eq_true h.2]
  simp
theorem vmod_i {i j : Int} {st : Store} (h : 0 < j) : vMod (.int i) (.int j) st = .ok (.int (i % j)) st := by dsimp only [vMod]; rw [if_pos h]
theorem vdiv_i {i j : Int} {st : Store} (h : 0 < j) (h1 : j < 2 ^ 100) : vDiv (.int i) (.int j) st = .ok (.int (i / j)) st := by dsimp only [vDiv]; rw [if_pos ⟨h, h1⟩]
theorem next_spec {h c : Nat} {st : Store} {lim : Int} (d : Draws h c st) (h0 : 0 < lim) (h1 : lim < 2 ^ 64) :
    WpR (defM 2 1 mNext [.ref h, .int lim] st) (fun v st' => (∃ r : Int, v = .int r ∧ 0 ≤ r ∧ r < lim) ∧ Draws h c st' ∧ Keep [h, c] st st') (fun _ _ => False) := by
  obtain ⟨a, cs, p, e1, e2, ha0, ha1, hp, hl, hne⟩ := d
  rw [wp_def (n := 2) (ws := [Val.ref h, Val.int lim]) rfl]
  have hh := seqAt_lst e1
  have hcs := seqAt_lst e2
  unfold mNext
  simp only [w_seq, w_set, w_bin, List.map_cons, List.map_nil, List.cons_append, List.nil_append, List.replicate]
  rw [w_var (v := .ref h) rfl, w_C, ix_ref hh (w := .ref c) rfl]
  rw [w_lst, w_aCons, w_C, w_aNil]
  refine ⟨by show 1 ≤ sizeLine; rw [sizeLine_eq]; omega, ?_⟩
  refine lst_push (P := fun n s => WpR (vAdd (.ref c) (.ref n) s) _ _) fun n1 s1 g1 k1 _ => ?_
  have e1' := k1.get e1 (by simp)
  have e2' := k1.get e2 (by simp)
  refine add_lst e2' g1 (by simp; omega) fun n2 s2 g2 k2 _ => ?_
  have k := k1.trans k2
  have e1'' := k2.get e1' (by simp)
  have e2'' := k2.get e2' (by simp)
  have hh2 := seqAt_lst e1''
  have hc2 := seqAt_lst e2''
  have hg2 := seqAt_lst g2
  rw [w_var (v := .ref h) rfl, w_C, ix_ref hh2 (w := .int p) rfl]
  rw [w_app, w_aCons, w_C, w_aCons, w_app, w_aCons, w_bin, w_var (v := .ref h) rfl, w_C, ix_ref hh2 (w := .ref c) rfl, w_aNil]
  have hlen : bLen [.ref c] s2 = .ok (.int cs.length) s2 := by dsimp only [bLen]; rw [hc2]; simp
  rw [hlen, wp_ok, w_aNil]
  have hm : 0 < max (1 : Int) cs.length := by omega
  have hmod : vMod (.int p) (.int (max 1 (cs.length : Int))) s2 = .ok (.int (p % max 1 (cs.length : Int))) s2 := by dsimp only [vMod]; rw [if_pos hm]
  dsimp only [bMax2]
  rw [wp_ok, hmod, wp_ok]
  -- the cell
  have r0 : 0 ≤ p % max 1 (cs.length : Int) := Int.emod_nonneg _ (by omega)
  have r1 : p % max 1 (cs.length : Int) < max 1 (cs.length : Int) := Int.emod_lt_of_pos _ hm
  obtain ⟨z, hz, hz0⟩ : ∃ z : Int, L2.atI (cs.map Val.int ++ [Val.int 0]) (p % max 1 (cs.length : Int)) = some (.int z) ∧ (cs = [] → z = 0) := by
    have hr : (p % max 1 (cs.length : Int)).toNat < (cs ++ [0]).length := by simp; omega
    refine ⟨(cs ++ [0])[(p % max 1 (cs.length : Int)).toNat], ?_, fun e => ?_⟩
    · unfold L2.atI L2.ixN
      rw [if_pos r0, if_pos (by simp; omega), Option.bind_some]
      rw [show cs.map Val.int ++ [Val.int 0] = (cs ++ [0]).map Val.int by simp, List.getElem?_map, List.getElem?_eq_getElem hr]
      rfl
    · subst e
      simp
  rw [ix_ref hg2 hz]
  show WpO (sIf _ _ _ [some (.ref h), some (.int lim), some (.int z)] s2) _
  rw [w_sif, w_test, w_bin, w_var (v := .int z) rfl, w_bin, w_C, w_C]
  have hpow : vPow (.int 10) (.int 18) s2 = .ok (.int (10 ^ 18)) s2 := by dsimp only [vPow]; rw [if_pos (by decide)]; rfl
  rw [hpow, wp_ok]
  show (if decide ((10 : Int) ^ 18 ≤ z) = true then _ else _)
  by_cases hb : (10 : Int) ^ 18 ≤ z
  · rw [if_pos (by simpa using hb)]
    have hcs0 : cs ≠ [] := fun e => by have := hz0 e; subst this; exact absurd hb (by decide)
    have hl0 : 0 < cs.length := List.length_pos_iff.mpr hcs0
    rw [w_seq, w_asg, w_bin, w_var (v := .int z) rfl, w_var (v := .int lim) rfl]
    have hdiv : vDiv (.int z) (.int lim) s2 = .ok (.int (z / lim)) s2 := by dsimp only [vDiv]; rw [if_pos ⟨h0, by omega⟩]
    rw [hdiv, wp_ok]
    have v0 : mVar 0 [some (.ref h), some (.int lim), some (.int z)] s2 = .ok (.ref h) s2 := rfl
    have o1 : mBin vIx (mVar 0) (mC (.int 1)) [some (.ref h), some (.int lim), some (.int z)] s2 = .ok (.ref c) s2 := ev_ix v0 hh2 rfl
    have o2 : mBin vIx (mVar 0) (mC (.int 2)) [some (.ref h), some (.int lim), some (.int z)] s2 = .ok (.int p) s2 := ev_ix v0 hh2 rfl
    have o3 : mBin vMod (mBin vIx (mVar 0) (mC (.int 2))) (mApp bLen (aCons (mBin vIx (mVar 0) (mC (.int 1))) aNil)) [some (.ref h), some (.int lim), some (.int z)] s2 = .ok (.int (p % cs.length)) s2 := by
      rw [ev_bin o2 ((ev_app (ev_one o1)).trans hlen)]
      exact vmod_i (by omega)
    have q0 : 0 ≤ p % (cs.length : Int) := Int.emod_nonneg _ (by omega)
    have q1 : p % (cs.length : Int) < cs.length := Int.emod_lt_of_pos _ (by omega)
    have o4 : L2.ixN (cs.map Val.int).length (p % cs.length) = some (p % (cs.length : Int)).toNat := by
      unfold L2.ixN
      rw [if_pos q0, if_pos (by simpa using q1)]
    rw [g_subL o1 o3 e2'' o4]
    dsimp only
    rw [w_ret, w_bin, w_var (v := .int z) rfl, w_var (v := .int lim) rfl, vmod_i h0, wp_ok]
    have hc : c < s2.length := (List.getElem?_eq_some_iff.mp e2'').1
    refine ⟨⟨_, rfl, Int.emod_nonneg _ (by omega), Int.emod_lt_of_pos _ h0⟩, ⟨a, cs.set (p % (cs.length : Int)).toNat (z / lim), p, ?_, ?_, ha0, ha1, hp, by simpa using hl, hne⟩, ?_⟩
    · rw [List.getElem?_set_ne (Ne.symm hne)]; exact e1''
    · rw [List.getElem?_set_self hc, List.map_set]
    · exact k.nil.trans (.set (by simp))
  · rw [if_neg (by simpa using hb)]
    show WpO (sNext [some (.ref h), some (.int lim), some (.int z)] s2) _
    rw [w_next]
    show WpO (sAsg _ _ [some (.ref h), some (.int lim), some (.int z)] s2) _
    have v0 : ∀ s, mVar 0 [some (.ref h), some (.int lim), some (.int z)] s = .ok (.ref h) s := fun _ => rfl
    rw [w_asg, w_bin, w_bin, w_bin, w_bin, w_bin, w_var (v := .ref h) rfl, w_C, ix_ref hh2 (w := .int a) rfl, w_C, vmul_r (by decide), wp_ok, w_bin, w_var (v := .int z) rfl, w_C, vmul_r (by decide), wp_ok]
    rw [show ∀ i j s, vAdd (.int i) (.int j) s = .ok (.int (i + j)) s from fun _ _ _ => rfl, wp_ok, w_C, show ∀ i j s, vAdd (.int i) (.int j) s = .ok (.int (i + j)) s from fun _ _ _ => rfl, wp_ok, w_C, vmod_i (by decide), wp_ok]
    rw [g_subL (v0 s2) rfl e1'' (j := 0) rfl]
    dsimp only
    generalize ha' : (a * 48271 + z * 69621 + 11) % 2147483647 = a'
    have b0 : 0 ≤ a' := by rw [← ha']; exact Int.emod_nonneg _ (by decide)
    have b1 : a' < 2147483647 := by rw [← ha']; exact Int.emod_lt_of_pos _ (by decide)
    have hhl : h < s2.length := (List.getElem?_eq_some_iff.mp e1'').1
    have e3 : (s2.set h (.lst ([Val.int a, .ref c, .int p].set 0 (.int a'))))[h]? = some (.lst [.int a', .ref c, .int p]) := by rw [List.getElem?_set_self hhl]; rfl
    have e3c : (s2.set h (.lst ([Val.int a, .ref c, .int p].set 0 (.int a'))))[c]? = some (.lst (cs.map .int)) := by rw [List.getElem?_set_ne hne]; exact e2''
    have k3 : Keep [h, c] st (s2.set h (.lst ([Val.int a, .ref c, .int p].set 0 (.int a')))) := k.nil.trans (.set (by simp))
    generalize s2.set h (.lst ([Val.int a, .ref c, .int p].set 0 (.int a'))) = s3 at *
    have hh3 := seqAt_lst e3
    rw [w_asg, w_bin, w_bin, w_var (v := .ref h) rfl, w_C, ix_ref hh3 (w := .int p) rfl, w_C, show ∀ i j s, vAdd (.int i) (.int j) s = .ok (.int (i + j)) s from fun _ _ _ => rfl, wp_ok]
    rw [g_subL (v0 s3) rfl e3 (j := 2) rfl]
    dsimp only
    have hhl3 : h < s3.length := (List.getElem?_eq_some_iff.mp e3).1
    have e4 : (s3.set h (.lst ([Val.int a', .ref c, .int p].set 2 (.int (p + 1)))))[h]? = some (.lst [.int a', .ref c, .int (p + 1)]) := by rw [List.getElem?_set_self hhl3]; rfl
    have e4c : (s3.set h (.lst ([Val.int a', .ref c, .int p].set 2 (.int (p + 1)))))[c]? = some (.lst (cs.map .int)) := by rw [List.getElem?_set_ne hne]; exact e3c
    have k4 : Keep [h, c] st (s3.set h (.lst ([Val.int a', .ref c, .int p].set 2 (.int (p + 1))))) := k3.trans (.set (by simp))
    generalize s3.set h (.lst ([Val.int a', .ref c, .int p].set 2 (.int (p + 1)))) = s4 at *
    have hh4 := seqAt_lst e4
    rw [w_ret, w_bin, w_bin, w_bin, w_var (v := .ref h) rfl, w_C, ix_ref hh4 (w := .int a') rfl, w_C, vdiv_i (by decide) (by decide), wp_ok, w_var (v := .int lim) rfl, vmod_i h0, wp_ok]
    exact ⟨⟨_, rfl, Int.emod_nonneg _ (by omega), Int.emod_lt_of_pos _ h0⟩, ⟨a', cs, p + 1, e4, e4c, b0, b1, by omega, hl, hne⟩, k4⟩
end Ab
namespace Ab
open PySem PySem.Spec PyProof.Rows L2
noncomputable def mMix : MS := sSeq (sSet 2 (mVar 1)) (sSeq (sFor (iSeqM (mVar 0)) (gSet 3) (sSet 2 (mBin vMod (mBin vAdd (mBin vAdd (mBin vMul (mVar 2) (mC (.int 48271))) (mBin vMod (mVar 3) (mC (.int 2147483629)))) (mC (.int 1))) (mC (.int 2147483647))))) (sRet (mLst (aCons (mVar 2) (aCons (mApp bList (aCons (mVar 0) (aNil))) (aCons (mC (.int 0)) (aNil)))))))
theorem mix_spec {n : Nat} {st : Store} {ns : List Int} {seed : Int} (hs : seqAt st n = some (ns.map .int)) (hl : ns.length ≤ 63) (h0 : 0 ≤ seed) (h1 : seed < 2147483647) :
    WpR (defM 2 2 mMix [.ref n, .int seed] st) (fun v st' => ∃ h c, v = .ref h ∧ Draws h c st' ∧ Keep [] st st') (fun _ _ => False) := by
  rw [wp_def (n := 2) (ws := [Val.ref n, Val.int seed]) rfl]
  show WpO (mMix [some (.ref n), some (.int seed), none, none] st) _
  unfold mMix
  rw [w_seq, w_set, w_var (v := .int seed) rfl]
  show WpO (sSeq _ _ [some (.ref n), some (.int seed), some (.int seed), none] st) _
  rw [w_seq, w_for]
  have hit : iSeqM (mVar 0) [some (.ref n), some (.int seed), some (.int seed), none] st = .ok (ns.map .int, fun st' => seqAt st' n = some (ns.map .int)) st := by
    have v0 : mVar 0 [some (.ref n), some (.int seed), some (.int seed), none] st = .ok (.ref n) st := rfl
    unfold iSeqM
    rw [v0]
    dsimp only [R.bind, itemsOf]
    rw [hs]
  rw [hit, wp_ok]
  refine forM_wp (fun _ ρ s => s = st ∧ ∃ (x : Int) (y : Option Val), ρ = [some (.ref n), some (.int seed), some (.int x), y] ∧ 0 ≤ x ∧ x < 2147483647) (fun i ρ s _ ⟨e, _⟩ => by subst e; exact hs) ?_ ?_ ⟨rfl, seed, none, rfl, h0, h1⟩
  · rintro i w ρ s hi ⟨rfl, x, y, rfl, x0, x1⟩
    rw [List.getElem?_map] at hi
    cases e : ns[i]? with
    | none => rw [e] at hi; cases hi
    | some z =>
      rw [e] at hi
      cases hi
      refine ⟨_, _, rfl, ?_⟩
      show WpO (sSet _ _ [some (.ref n), some (.int seed), some (.int x), some (.int z)] s) _
      rw [w_set, w_bin, w_bin, w_bin, w_bin, w_var (v := .int x) rfl, w_C, vmul_r (by decide), wp_ok, w_bin, w_var (v := .int z) rfl, w_C, vmod_i (by decide), wp_ok]
      rw [show ∀ i j s, vAdd (.int i) (.int j) s = .ok (.int (i + j)) s from fun _ _ _ => rfl, wp_ok, w_C, show ∀ i j s, vAdd (.int i) (.int j) s = .ok (.int (i + j)) s from fun _ _ _ => rfl, wp_ok, w_C, vmod_i (by decide), wp_ok]
      exact ⟨rfl, _, _, rfl, Int.emod_nonneg _ (by decide), Int.emod_lt_of_pos _ (by decide)⟩
  · rintro ρ s ⟨rfl, x, y, rfl, x0, x1⟩
    show WpO (sRet _ [some (.ref n), some (.int seed), some (.int x), y] s) _
    rw [w_ret, w_lst, w_aCons, w_var (v := .int x) rfl, w_aCons, w_app, w_aCons, w_var (v := .ref n) rfl, w_aNil]
    dsimp only [bList]
    rw [hs]
    dsimp only
    rw [wp_ok]
    rw [w_aCons, w_C, w_aNil]
    have k1 : Keep [] s (s ++ [Cell.lst (ns.map .int)]) := .push
    have g1 : (s ++ [Cell.lst (ns.map .int)])[s.length]? = some (.lst (ns.map .int)) := by simp
    generalize s ++ [Cell.lst (ns.map .int)] = s1 at *
    generalize s.length = c at *
    refine ⟨by show 3 ≤ sizeLine; rw [sizeLine_eq]; omega, ?_⟩
    refine lst_push (P := fun k t => ∃ h c, Val.ref k = .ref h ∧ Draws h c t ∧ Keep [] s t) fun h s2 g2 k2 hh => ?_
    have hcl : c < s1.length := (List.getElem?_eq_some_iff.mp g1).1
    exact ⟨h, c, rfl, ⟨x, ns, 0, g2, k2.get g1 (by simp), x0, x1, Int.le_refl _, hl, by omega⟩, k1.trans k2⟩
end Ab

set_option Elab.async false
set_option linter.all false
set_option maxRecDepth 100000
/-! Ab: the combinators once more, sealed (not reducible), for the plain laws. -/
namespace Ab
open PySem PySem.Spec
def mNeg (m : ME) : ME := fun ρ st => (m ρ st).bind vNeg
end Ab
namespace Se
noncomputable def sWhile := @Ab.sWhile
noncomputable def mVar := @Ab.mVar
noncomputable def mC := @Ab.mC
noncomputable def mBin := @Ab.mBin
noncomputable def mTest := @Ab.mTest
noncomputable def mChain := @Ab.mChain
noncomputable def tAndM := @Ab.tAndM
noncomputable def tOrM := @Ab.tOrM
noncomputable def tNotM := @Ab.tNotM
noncomputable def mAnd := @Ab.mAnd
noncomputable def mOr := @Ab.mOr
noncomputable def mNot := @Ab.mNot
noncomputable def mIf := @Ab.mIf
noncomputable def aNil := @Ab.aNil
noncomputable def aCons := @Ab.aCons
noncomputable def mTup := @Ab.mTup
noncomputable def mLst := @Ab.mLst
noncomputable def mApp := @Ab.mApp
noncomputable def mCut := @Ab.mCut
noncomputable def oNone := @Ab.oNone
noncomputable def oSome := @Ab.oSome
noncomputable def sNext := @Ab.sNext
noncomputable def sSeq := @Ab.sSeq
noncomputable def sSet := @Ab.sSet
noncomputable def sRet := @Ab.sRet
noncomputable def sDrop := @Ab.sDrop
noncomputable def sIf := @Ab.sIf
noncomputable def sAug := @Ab.sAug
noncomputable def sBreak := @Ab.sBreak
noncomputable def sCont := @Ab.sCont
noncomputable def gSet := @Ab.gSet
noncomputable def gsNil := @Ab.gsNil
noncomputable def gsCons := @Ab.gsCons
noncomputable def gTupM := @Ab.gTupM
noncomputable def sAsg := @Ab.sAsg
noncomputable def sPar := @Ab.sPar
noncomputable def sFor := @Ab.sFor
noncomputable def iRange1 := @Ab.iRange1
noncomputable def iRange2 := @Ab.iRange2
noncomputable def mFld := @Ab.mFld
noncomputable def sFldM := @Ab.sFldM
noncomputable def sFldAugM := @Ab.sFldAugM
noncomputable def mMeth := @Ab.mMeth
noncomputable def mProp := @Ab.mProp
noncomputable def vMake := @Ab.vMake
noncomputable def iEnumM := @Ab.iEnumM
noncomputable def iZipM := @Ab.iZipM
noncomputable def iSeqM := @Ab.iSeqM
noncomputable def iStrM := @Ab.iStrM
noncomputable def mYes := @Ab.mYes
noncomputable def mLc := @Ab.mLc
noncomputable def mBM := @Ab.mBM
noncomputable def gSubL := @Ab.gSubL
noncomputable def mIsi := @Ab.mIsi
noncomputable def sRaise := @Ab.sRaise
noncomputable def sRaise0 := @Ab.sRaise0
noncomputable def aStar := @Ab.aStar
noncomputable def mOp := @Ab.mOp
noncomputable def mLen := @Ab.mLen
noncomputable def mDget := @Ab.mDget
noncomputable def gSubD := @Ab.gSubD
noncomputable def mDisp := @Ab.mDisp
noncomputable def mItems := @Ab.mItems
noncomputable def mDc := @Ab.mDc
noncomputable def gFld := @Ab.gFld
noncomputable def mOutcome := @Ab.mOutcome
noncomputable def mBad := @Ab.mBad
noncomputable def sBad := @Ab.sBad
noncomputable def mNeg := @Ab.mNeg
noncomputable def mCall := @Ab.mCall
noncomputable def mGetO := @Ab.mGetO
noncomputable def mOpT := @Ab.mOpT
noncomputable def mIsiO := @Ab.mIsiO
noncomputable def gTupS := @Ab.gTupS
noncomputable def iKeysM := @Ab.iKeysM
noncomputable def iValsM := @Ab.iValsM
noncomputable def mDisp0 := @Ab.mDisp0
noncomputable def mOutOne := @Ab.mOutOne
end Se

set_option Elab.async false
set_option linter.all false
set_option maxRecDepth 100000
set_option maxHeartbeats 1000000
/-! Ab: wishes on sealed mirrors, backward: one rule for each combinator. -/
namespace Ab
open PySem PySem.Spec PyProof.Rows L2
/-- a target's wish -/
def WpG (r : Option (Slots × Store)) (n : Slots → Store → Prop) : Prop := match r with
  | some (ρ, st) => n ρ st
  | none => False
/-- what an optional chain of comparisons goes on with -/
def Chk (z : Val) (P N : Prop) : Prop := match z with
  | .bl true => P
  | .bl false => N
  | _ => False
/-- a cell is laid -/
def New (d : Cell) (st : Store) (P : Nat → Store → Prop) : Prop := ∀ (n : Nat) (s : Store), s[n]? = some d → Keep [] st s → st.length ≤ n → P n s
/-- a cell is written -/
def Wr (n : Nat) (d : Cell) (st : Store) (P : Store → Prop) : Prop := ∀ s : Store, s[n]? = some d → Keep [n] st s → P s
/-- a truth that is worked out -/
def TruB (b : Bool) (P : Bool → Prop) : Prop := P b
/-- a slot is set -/
def NF (ρ : Slots) (i : Nat) (x : Option Val) (n : Slots → Prop) : Prop := n (ρ.set i x)
theorem New.at {d : Cell} {st : Store} {P : Nat → Store → Prop} (h : New d st P) : P st.length (st ++ [d]) := h _ _ (by simp) .push (Nat.le_refl _)
theorem Wr.at {n : Nat} {c d : Cell} {st : Store} {P : Store → Prop} (h : Wr n d st P) (e : st[n]? = some c) : P (st.set n d) := h _ (by rw [List.getElem?_set_self (List.getElem?_eq_some_iff.mp e).1]) (.set (by simp))
end Ab
namespace Vc
open PySem PySem.Spec PyProof.Rows L2
open Ab (Val Cell Store Slots R O ME MT MA MS MF MG MGs MI MO Chk Wish Exc seqAt Keep vIx vFld vAdd New Wr NF TruB)
@[irreducible] def WpR {α : Type} (r : R α) (Q : α → Store → Prop) (X : Exc → Store → Prop) : Prop := Ab.WpR r Q X
@[irreducible] def WpO (o : O) (W : Wish) : Prop := Ab.WpO o W
@[irreducible] def WpG (r : Option (Slots × Store)) (n : Slots → Store → Prop) : Prop := Ab.WpG r n
theorem uR {α : Type} {r : R α} {Q : α → Store → Prop} {X : Exc → Store → Prop} : WpR r Q X = Ab.WpR r Q X := by unfold WpR; rfl
theorem uO {o : O} {W : Wish} : WpO o W = Ab.WpO o W := by unfold WpO; rfl
theorem uG {r : Option (Slots × Store)} {n : Slots → Store → Prop} : WpG r n = Ab.WpG r n := by unfold WpG; rfl
section
variable {α : Type} {Q : Val → Store → Prop} {QB : Bool → Store → Prop} {QL : List Val → Store → Prop} {QO : Option Int → Store → Prop} {QA : α → Store → Prop} {X : Exc → Store → Prop} {st : Store} {ρ : Slots} {a b c m : ME} {t u : MT} {ta : MA} {s1 s2 : MS} {n : Slots → Store → Prop} {r : Val → Store → Prop} {k l : Slots → Store → Prop}
theorem b_ok {x : α} (h : QA x st) : WpR (.ok x st) QA X := by
  simp only [uR, uO, uG] at *
  exact h
theorem b_ifok {p : Prop} [Decidable p] {x : α} {s' : Store} (h : p) (q : QA x s') : WpR (if p then .ok x s' else .bad) QA X := by
  simp only [uR, uO, uG] at *
  rw [if_pos h]; exact q
theorem b_var {i : Nat} {v : Val} (h : ρ[i]? = some (some v)) (q : Q v st) : WpR (Se.mVar i ρ st) Q X := by
  simp only [uR, uO, uG] at *
  exact (Ab.w_var h).mpr q
theorem b_C {v : Val} (q : Q v st) : WpR (Se.mC v ρ st) Q X := by
  simp only [uR, uO, uG] at *
  exact q
theorem b_bin {g : Val → Val → Store → R Val} (q : WpR (a ρ st) (fun x st1 => WpR (b ρ st1) (fun y st2 => WpR (g x y st2) Q X) X) X) : WpR (Se.mBin g a b ρ st) Q X := by
  simp only [uR, uO, uG] at *
  exact Ab.w_bin.mpr q
theorem b_test (q : WpR (m ρ st) (fun x st1 => WpR (Ab.asB x st1) QB X) X) : WpR (Se.mTest m ρ st) QB X := by
  simp only [uR, uO, uG] at *
  exact Ab.w_test.mpr q
theorem b_not (q : WpR (t ρ st) (fun k st1 => QB (!k) st1) X) : WpR (Se.tNotM t ρ st) QB X := by
  simp only [uR, uO, uG] at *
  exact Ab.w_not.mpr q
theorem b_tand (q : WpR (t ρ st) (fun k st1 => if k = true then WpR (u ρ st1) QB X else QB false st1) X) : WpR (Se.tAndM t u ρ st) QB X := by
  simp only [uR, uO, uG] at *
  show Ab.WpR (Ab.tAndM t u ρ st) QB X
  unfold Ab.tAndM; rw [Ab.wp_bind]
  refine Ab.WpR.mono q (fun k s h => ?_) fun _ _ h => h
  cases k <;> exact h
theorem b_tor (q : WpR (t ρ st) (fun k st1 => if k = true then QB true st1 else WpR (u ρ st1) QB X) X) : WpR (Se.tOrM t u ρ st) QB X := by
  simp only [uR, uO, uG] at *
  show Ab.WpR (Ab.tOrM t u ρ st) QB X
  unfold Ab.tOrM; rw [Ab.wp_bind]
  refine Ab.WpR.mono q (fun k s h => ?_) fun _ _ h => h
  cases k <;> exact h
theorem b_and (q : WpR (a ρ st) (fun x st1 => Chk x (WpR (b ρ st1) Q X) (Q (.bl false) st1)) X) : WpR (Se.mAnd a b ρ st) Q X := by
  simp only [uR, uO, uG] at *
  show Ab.WpR (Ab.mAnd a b ρ st) Q X
  unfold Ab.mAnd; rw [Ab.wp_bind]
  refine Ab.WpR.mono q (fun k s h => ?_) fun _ _ h => h
  unfold Chk at h
  split at h <;> first | exact h | exact h.elim
theorem b_or (q : WpR (a ρ st) (fun x st1 => Chk x (Q (.bl true) st1) (WpR (b ρ st1) Q X)) X) : WpR (Se.mOr a b ρ st) Q X := by
  simp only [uR, uO, uG] at *
  show Ab.WpR (Ab.mOr a b ρ st) Q X
  unfold Ab.mOr; rw [Ab.wp_bind]
  refine Ab.WpR.mono q (fun k s h => ?_) fun _ _ h => h
  unfold Chk at h
  split at h <;> first | exact h | exact h.elim
theorem b_mnot (q : WpR (a ρ st) (fun x st1 => Chk x (Q (.bl false) st1) (Q (.bl true) st1)) X) : WpR (Se.mNot a ρ st) Q X := by
  simp only [uR, uO, uG] at *
  show Ab.WpR (Ab.mNot a ρ st) Q X
  unfold Ab.mNot; rw [Ab.wp_bind]
  refine Ab.WpR.mono q (fun k s h => ?_) fun _ _ h => h
  unfold Chk at h
  split at h <;> first | exact h | exact h.elim
theorem b_chain {g g' : Val → Val → Store → R Val} (q : WpR (a ρ st) (fun x st1 => WpR (b ρ st1) (fun y st2 => WpR (g x y st2) (fun z st3 => Chk z (WpR (c ρ st3) (fun w st4 => WpR (g' y w st4) Q X) X) (Q (.bl false) st3)) X) X) X) : WpR (Se.mChain g g' a b c ρ st) Q X := by
  simp only [uR, uO, uG] at *
  show Ab.WpR (Ab.mChain g g' a b c ρ st) Q X
  unfold Ab.mChain; simp only [Ab.wp_bind]
  refine Ab.WpR.mono q (fun x s h => ?_) fun _ _ h => h
  refine Ab.WpR.mono h (fun y s h => ?_) fun _ _ h => h
  refine Ab.WpR.mono h (fun z s h => ?_) fun _ _ h => h
  unfold Chk at h
  split at h <;> first | (rw [Ab.wp_bind]; exact h) | exact h | exact h.elim
/-- i <= j <= k of ints, the last expression told whatever the first says -/
theorem b_chainI (q : WpR (a ρ st) (fun x st1 => WpR (b ρ st1) (fun y st2 => WpR (c ρ st2) (fun w st3 => ∃ i j k, x = .int i ∧ y = .int j ∧ w = .int k ∧ st3 = st2 ∧ Q (.bl (decide (i ≤ j ∧ j ≤ k))) st2) fun _ _ => False) X) X) : WpR (Se.mChain Ab.vLe Ab.vLe a b c ρ st) Q X := by
  refine b_chain ?_
  simp only [uR] at *
  refine Ab.WpR.mono q (fun x s h => ?_) fun _ _ h => h
  refine Ab.WpR.mono h (fun y s h => ?_) fun _ _ h => h
  cases hc : c ρ s with
  | bad => rw [hc] at h; exact h.elim
  | exc e s' => rw [hc] at h; exact h.elim
  | ok w s' =>
    rw [hc] at h
    obtain ⟨i, j, k, rfl, rfl, rfl, rfl, h⟩ := h
    show Chk (.bl (decide (i ≤ j))) _ _
    by_cases q : i ≤ j
    · rw [decide_eq_true q]
      simp only [q, true_and] at h
      show Ab.WpR (c ρ s') _ X
      rw [hc]; exact h
    · rw [decide_eq_false q]
      simp only [q, false_and, decide_false] at h
      exact h
theorem b_if (q : WpR (t ρ st) (fun k st1 => if k = true then WpR (a ρ st1) Q X else WpR (b ρ st1) Q X) X) : WpR (Se.mIf t a b ρ st) Q X := by
  simp only [uR, uO, uG] at *
  exact Ab.w_if.mpr q
theorem b_aNil (q : QL [] st) : WpR (Se.aNil ρ st) QL X := by
  simp only [uR, uO, uG] at *
  exact q
theorem b_aCons (q : WpR (m ρ st) (fun x st1 => WpR (ta ρ st1) (fun xs st2 => QL (x :: xs) st2) X) X) : WpR (Se.aCons m ta ρ st) QL X := by
  simp only [uR, uO, uG] at *
  exact Ab.w_aCons.mpr q
theorem b_tup (q : WpR (ta ρ st) (fun xs st1 => xs.length ≤ 100000 ∧ Q (.tup xs) st1) X) : WpR (Se.mTup ta ρ st) Q X := by
  simp only [uR, uO, uG] at *
  exact Ab.w_tup.mpr (Ab.WpR.mono q (fun _ _ h => ⟨Nat.le_trans h.1 (by rw [sizeLine_eq]; omega), h.2⟩) fun _ _ h => h)
theorem b_lst (q : WpR (ta ρ st) (fun xs st1 => xs.length ≤ 100000 ∧ New (.lst xs) st1 fun n s => Q (.ref n) s) X) : WpR (Se.mLst ta ρ st) Q X := by
  simp only [uR, uO, uG] at *
  exact Ab.w_lst.mpr (Ab.WpR.mono q (fun _ _ h => ⟨Nat.le_trans h.1 (by rw [sizeLine_eq]; omega), h.2.at⟩) fun _ _ h => h)
theorem b_app {f : MF} (q : WpR (ta ρ st) (fun xs st1 => WpR (f xs st1) Q X) X) : WpR (Se.mApp f ta ρ st) Q X := by
  simp only [uR, uO, uG] at *
  exact Ab.w_app.mpr q
theorem b_neg (q : WpR (m ρ st) (fun x st1 => WpR (Ab.vNeg x st1) Q X) X) : WpR (Se.mNeg m ρ st) Q X := by
  simp only [uR, uO, uG] at *
  show Ab.WpR ((m ρ st).bind Ab.vNeg) Q X
  rw [Ab.wp_bind]; exact q
theorem b_cut {lo hi : MO} (q : WpR (a ρ st) (fun x st1 => WpR (lo ρ st1) (fun i st2 => WpR (hi ρ st2) (fun j st3 => WpR (Ab.vCut x i j st3) Q X) X) X) X) : WpR (Se.mCut a lo hi ρ st) Q X := by
  simp only [uR, uO, uG] at *
  show Ab.WpR (Ab.mCut a lo hi ρ st) Q X
  unfold Ab.mCut; simp only [Ab.wp_bind]; exact q
theorem b_oNone (q : QO none st) : WpR (Se.oNone ρ st) QO X := by
  simp only [uR, uO, uG] at *
  exact q
theorem b_oSome (q : WpR (m ρ st) (fun x st1 => WpR (Ab.asI x st1) QO X) X) : WpR (Se.oSome m ρ st) QO X := by
  simp only [uR, uO, uG] at *
  show Ab.WpR (Ab.oSome m ρ st) QO X
  unfold Ab.oSome; rw [Ab.wp_bind]; exact q
theorem b_fld {cs : List Nat} {f : Nat} (q : WpR (m ρ st) (fun x st1 => WpR (vFld cs f x st1) Q X) X) : WpR (Se.mFld cs f m ρ st) Q X := by
  simp only [uR, uO, uG] at *
  show Ab.WpR (Ab.mFld cs f m ρ st) Q X
  unfold Ab.mFld; rw [Ab.wp_bind]; exact q
theorem v_fld {cs : List Nat} {f n C : Nat} {fs : List (Nat × Val)} {w : Val} (h : st[n]? = some (.ins C fs)) (hC : C ∈ cs) (hf : fs.lookup f = some w) (q : Q w st) : WpR (vFld cs f (.ref n) st) Q X := by
  simp only [uR, uO, uG] at *
  unfold vFld; dsimp only
  rw [h]; dsimp only; rw [if_pos hC, hf]; exact q
theorem b_BM {T : String} {g : Val → List Val → Store → R Val} (q : WpR (m ρ st) (fun x st1 => Ab.tyOk T x st1 = true ∧ WpR (ta ρ st1) (fun ws st2 => WpR (g x ws st2) Q X) X) X) : WpR (Se.mBM T g m ta ρ st) Q X := by
  simp only [uR, uO, uG] at *
  show Ab.WpR (Ab.mBM T g m ta ρ st) Q X
  unfold Ab.mBM; rw [Ab.wp_bind]
  refine Ab.WpR.mono q (fun x s h => ?_) fun _ _ h => h
  rw [if_pos h.1, Ab.wp_bind]; exact h.2
theorem ty_lst {n : Nat} {xs : List Val} (h : st[n]? = some (.lst xs)) : Ab.tyOk "list" (.ref n) st = true := by
  unfold Ab.tyOk; dsimp only; rw [h]; rfl
theorem b_meth {tbl : List (Nat × MF)} (q : WpR (m ρ st) (fun x st1 => ∃ C mf, Ab.clsAt st1 x = some C ∧ tbl.lookup C = some mf ∧ WpR (ta ρ st1) (fun ws st2 => WpR (mf (x :: ws) st2) Q X) X) X) : WpR (Se.mMeth tbl m ta ρ st) Q X := by
  simp only [uR, uO, uG] at *
  show Ab.WpR (Ab.mMeth tbl m ta ρ st) Q X
  unfold Ab.mMeth; rw [Ab.wp_bind]
  refine Ab.WpR.mono q (fun x s h => ?_) fun _ _ h => h
  obtain ⟨C, mf, h1, h2, h3⟩ := h
  rw [h1]; dsimp only; rw [h2]; dsimp only; rw [Ab.wp_bind]; exact h3
theorem cls_at {n C : Nat} {fs : List (Nat × Val)} (h : st[n]? = some (.ins C fs)) : Ab.clsAt st (.ref n) = some C := by
  unfold Ab.clsAt; dsimp only; rw [h]
theorem b_prop {tbl : List (Nat × MF)} (q : WpR (m ρ st) (fun x st1 => ∃ C mf, Ab.clsAt st1 x = some C ∧ tbl.lookup C = some mf ∧ WpR (mf [x] st1) Q (fun _ _ => False)) X) : WpR (Se.mProp tbl m ρ st) Q X := by
  simp only [uR, uO, uG] at *
  show Ab.WpR (Ab.mProp tbl m ρ st) Q X
  unfold Ab.mProp; rw [Ab.wp_bind]
  refine Ab.WpR.mono q (fun x s h => ?_) fun _ _ h => h
  obtain ⟨C, mf, h1, h2, h3⟩ := h
  rw [h1]; dsimp only; rw [h2]; dsimp only
  cases hm : mf [x] s with
  | bad => rw [hm] at h3; exact h3
  | exc e s' => rw [hm] at h3; exact h3
  | ok w s' => rw [hm] at h3; exact h3
theorem b_make {C : Nat} {mf : MF} {ws : List Val} (q : New (.ins C []) st fun n s => WpR (mf (.ref n :: ws) s) (fun v st1 => v = .non ∧ Q (.ref n) st1) X) : WpR (Se.vMake C mf ws st) Q X := by
  simp only [uR, uO, uG] at *
  replace q := q.at
  show Ab.WpR (Ab.vMake C mf ws st) Q X
  unfold Ab.vMake; rw [Ab.wp_bind]
  refine Ab.WpR.mono q (fun x s h => ?_) fun _ _ h => h
  rw [h.1]; exact h.2
theorem b_dget (q : WpR (a ρ st) (fun x st1 => WpR (b ρ st1) (fun y st2 => WpR (Ab.vDget x y st2) Q X) X) X) : WpR (Se.mDget a b ρ st) Q X := by
  simp only [uR, uO, uG] at *
  show Ab.WpR (Ab.mDget a b ρ st) Q X
  unfold Ab.mDget; simp only [Ab.wp_bind]; exact q
theorem v_dget {n : Nat} {s : Str} {kvs : List (Key × Val)} {w : Val} (h : st[n]? = some (.dct kvs)) (hk : Ab.valW kvs (.inr s) = some w) (q : Q w st) : WpR (Ab.vDget (.ref n) (.str s) st) Q X := by
  simp only [uR, uO, uG] at *
  show Ab.WpR (match Ab.dctAt st n with | some kvs => (match Ab.valW kvs (.inr s) with | some w => .ok w st | none => .bad) | _ => .bad) Q X
  unfold Ab.dctAt
  rw [h]; dsimp only; rw [hk]; exact q
theorem v_dgetF {n : Nat} {s : Str} {kvs : List (Key × Val)} {w : Val} (h : st[n]? = some (.fdc kvs)) (hk : Ab.valW kvs (.inr s) = some w) (q : Q w st) : WpR (Ab.vDget (.ref n) (.str s) st) Q X := by
  simp only [uR, uO, uG] at *
  show Ab.WpR (match Ab.dctAt st n with | some kvs => (match Ab.valW kvs (.inr s) with | some w => .ok w st | none => .bad) | _ => .bad) Q X
  unfold Ab.dctAt
  rw [h]; dsimp only; rw [hk]; exact q
theorem b_disp {prs : List (ME × ME)} (q : New (.dct []) st fun n s => WpR (Ab.pairsM prs ρ s) (fun kvs st2 => st2[n]? = some (.dct []) ∧ kvs.length ≤ 15 ∧ Wr n (.dct (Ab.mergeW [] kvs)) st2 fun s => Q (.ref n) s) X) : WpR (Se.mDisp prs ρ st) Q X := by
  simp only [uR, uO, uG] at *
  replace q := q.at
  show Ab.WpR (Ab.mDisp prs ρ st) Q X
  unfold Ab.mDisp; rw [Ab.wp_bind]
  refine Ab.WpR.mono q (fun x s h => ?_) fun _ _ h => h
  rw [h.1]; dsimp only; rw [if_pos h.2.1]; exact h.2.2.at h.1
theorem b_pnil {QP : List (Key × Val) → Store → Prop} (q : QP [] st) : WpR (Ab.pairsM [] ρ st) QP X := by
  simp only [uR, uO, uG] at *
  exact q
theorem b_pcons {QP : List (Key × Val) → Store → Prop} {prs : List (ME × ME)} (q : WpR (a ρ st) (fun x st1 => ∃ k, Ab.keyW x = some k ∧ WpR (b ρ st1) (fun y st2 => WpR (Ab.pairsM prs ρ st2) (fun ps st3 => QP ((k, y) :: ps) st3) X) X) X) : WpR (Ab.pairsM ((a, b) :: prs) ρ st) QP X := by
  simp only [uR, uO, uG] at *
  rw [Ab.pairsM, Ab.wp_bind]
  refine Ab.WpR.mono q (fun x s h => ?_) fun _ _ h => h
  obtain ⟨k, h1, h2⟩ := h
  rw [h1]; dsimp only; simp only [Ab.wp_bind, Ab.wp_ok]; exact h2
theorem b_items (q : WpR (m ρ st) (fun x st1 => ∃ n kvs, x = .ref n ∧ st1[n]? = some (.dct kvs) ∧ New (.lst (kvs.map fun kv => .tup [Ab.unkey kv.1, kv.2])) st1 fun m s => Q (.ref m) s) X) : WpR (Se.mItems m ρ st) Q X := by
  simp only [uR, uO, uG] at *
  show Ab.WpR (Ab.mItems m ρ st) Q X
  unfold Ab.mItems; rw [Ab.wp_bind]
  refine Ab.WpR.mono q (fun x s h => ?_) fun _ _ h => h
  obtain ⟨n, kvs, rfl, h1, h2⟩ := h
  dsimp only; rw [h1]; exact h2.at
theorem b_isi {ts : List Ab.Ty6} (q : WpR (m ρ st) (fun w st1 => ∃ k, Ab.kindW st1 w = some k ∧ TruB (ts.any (Ab.isT k)) fun b => Q (.bl b) st1) X) : WpR (Se.mIsi ts m ρ st) Q X := by
  simp only [uR, uO, uG] at *
  show Ab.WpR (Ab.mIsi ts m ρ st) Q X
  unfold Ab.mIsi; rw [Ab.wp_bind]
  refine Ab.WpR.mono q (fun x s h => ?_) fun _ _ h => h
  obtain ⟨k, h1, h2⟩ := h
  rw [h1]; exact h2
theorem b_star (q : WpR (m ρ st) (fun w st1 => ∃ xs, Ab.itemsW st1 w = some xs ∧ WpR (ta ρ st1) (fun ys st2 => QL (xs ++ ys) st2) X) X) : WpR (Se.aStar m ta ρ st) QL X := by
  simp only [uR, uO, uG] at *
  show Ab.WpR (Ab.aStar m ta ρ st) QL X
  unfold Ab.aStar; rw [Ab.wp_bind]
  refine Ab.WpR.mono q (fun x s h => ?_) fun _ _ h => h
  obtain ⟨xs, h1, h2⟩ := h
  rw [h1]; dsimp only; rw [Ab.wp_bind]; exact h2
theorem b_op {C : Nat} {mf : MF} (q : WpR (a ρ st) (fun x st1 => WpR (b ρ st1) (fun y st2 => Ab.isIns C st2 x = true ∧ Ab.isIns C st2 y = true ∧ WpR (mf [x, y] st2) Q X) X) X) : WpR (Se.mOp C mf a b ρ st) Q X := by
  simp only [uR, uO, uG] at *
  show Ab.WpR (Ab.mOp C mf a b ρ st) Q X
  unfold Ab.mOp; simp only [Ab.wp_bind]
  refine Ab.WpR.mono q (fun x s h => ?_) fun _ _ h => h
  refine Ab.WpR.mono h (fun x s h => ?_) fun _ _ h => h
  rw [if_pos ⟨h.1, h.2.1⟩]; exact h.2.2
theorem b_call {C : Nat} {mf : MF} (q : WpR (a ρ st) (fun x st1 => Ab.isIns C st1 x = true ∧ WpR (ta ρ st1) (fun vs st2 => Ab.isIns C st2 x = true ∧ WpR (mf (x :: vs) st2) Q X) X) X) : WpR (Se.mCall C mf a ta ρ st) Q X := by
  simp only [uR, uO, uG] at *
  show Ab.WpR (Ab.mCall C mf a ta ρ st) Q X
  unfold Ab.mCall; rw [Ab.wp_bind]
  refine Ab.WpR.mono q (fun x s h => ?_) fun _ _ h => h
  rw [if_pos h.1, Ab.wp_bind]
  refine Ab.WpR.mono h.2 (fun vs s h => ?_) fun _ _ h => h
  rw [if_pos h.1]; exact h.2
theorem b_getO {C : Nat} {mf : MF} (q : WpR (a ρ st) (fun x st1 => WpR (b ρ st1) (fun y st2 => Ab.isIns C st2 x = true ∧ WpR (mf [x, y] st2) Q X) X) X) : WpR (Se.mGetO C mf a b ρ st) Q X := by
  simp only [uR, uO, uG] at *
  show Ab.WpR (Ab.mGetO C mf a b ρ st) Q X
  unfold Ab.mGetO; simp only [Ab.wp_bind]
  refine Ab.WpR.mono q (fun x s h => ?_) fun _ _ h => h
  refine Ab.WpR.mono h (fun x s h => ?_) fun _ _ h => h
  rw [if_pos h.1]; exact h.2
theorem b_opT {C : Nat} {mf : MF} (q : WpR (a ρ st) (fun x st1 => WpR (b ρ st1) (fun y st2 => Ab.isIns C st2 x = true ∧ Ab.isStr y = true ∧ WpR (mf [x, y] st2) Q X) X) X) : WpR (Se.mOpT C mf a b ρ st) Q X := by
  simp only [uR, uO, uG] at *
  show Ab.WpR (Ab.mOpT C mf a b ρ st) Q X
  unfold Ab.mOpT; simp only [Ab.wp_bind]
  refine Ab.WpR.mono q (fun x s h => ?_) fun _ _ h => h
  refine Ab.WpR.mono h (fun x s h => ?_) fun _ _ h => h
  rw [if_pos ⟨h.1, h.2.1⟩]; exact h.2.2
theorem v_tru {C : Nat} {mf : MF} {neg : Bool} {x y : Val} (h1 : Ab.isIns C st x = true) (h2 : WpR (mf [x, y] st) (fun v s => ∃ c : Bool, v = .bl c ∧ Q (.bl (if neg then !c else c)) s) fun _ _ => False) : WpR (Ab.truR C mf neg x y st) Q X := by
  simp only [uR, uO, uG] at *
  unfold Ab.truR
  rw [if_pos h1]
  cases hm : mf [x, y] st with
  | bad => rw [hm] at h2; exact h2
  | exc e s' => rw [hm] at h2; exact h2.elim
  | ok w s' =>
    rw [hm] at h2
    obtain ⟨c, rfl, h3⟩ := h2
    exact h3
theorem b_isiO {tbl : List (Nat × Bool)} (q : WpR (m ρ st) (fun w st1 => ∃ b, Ab.isiW tbl st1 w = some b ∧ Q (.bl b) st1) X) : WpR (Se.mIsiO tbl m ρ st) Q X := by
  simp only [uR, uO, uG] at *
  show Ab.WpR (Ab.mIsiO tbl m ρ st) Q X
  unfold Ab.mIsiO; rw [Ab.wp_bind]
  refine Ab.WpR.mono q (fun x s h => ?_) fun _ _ h => h
  obtain ⟨b, h1, h2⟩ := h
  rw [h1]; exact h2
theorem g_tupS {j : Nat} {h : MGs} {ws : List Val} (hl : j ≤ ws.length ∧ ws.length ≤ 1000) (q : New (.lst (ws.drop j)) st fun k s => WpG (h (ws.take j ++ [.ref k]) ρ s) n) : WpG (Se.gTupS j h (.tup ws) ρ st) n := by
  simp only [uR, uO, uG] at *
  show Ab.WpG (Ab.gTupS j h (.tup ws) ρ st) n
  dsimp only [Ab.gTupS]
  rw [if_pos hl]
  exact q.at
theorem b_disp0 (q : New (.dct []) st fun n s => Q (.ref n) s) : WpR (Se.mDisp0 ρ st) Q X := by
  simp only [uR, uO, uG] at *
  exact q.at
theorem is_ins {n C : Nat} {fs : List (Nat × Val)} (h : st[n]? = some (.ins C fs)) : Ab.isIns C st (.ref n) = true := by
  unfold Ab.isIns; dsimp only; rw [h]; simp
theorem b_len {C : Nat} {mf : MF} (q : WpR (m ρ st) (fun x st1 => Ab.isIns C st1 x = true ∧ WpR (mf [x] st1) (fun v st2 => ∃ i, v = .int i ∧ 0 ≤ i ∧ i < 1000000 ∧ Q (.int i) st2) (fun _ _ => False)) X) : WpR (Se.mLen C mf m ρ st) Q X := by
  simp only [uR, uO, uG] at *
  show Ab.WpR (Ab.mLen C mf m ρ st) Q X
  unfold Ab.mLen; rw [Ab.wp_bind]
  refine Ab.WpR.mono q (fun x s h => ?_) fun _ _ h => h
  rw [if_pos h.1]
  have h2 := h.2
  cases hm : mf [x] s with
  | bad => rw [hm] at h2; exact h2
  | exc e s' => rw [hm] at h2; exact h2.elim
  | ok w s' =>
    rw [hm] at h2
    obtain ⟨i, rfl, h3, h4, h5⟩ := h2
    dsimp only; rw [if_pos ⟨h3, h4⟩]; exact h5
theorem b_outcome (q : WpR (m ρ st) (fun v st1 => Q (.tup [.str "value", v]) st1) (fun x st1 => ∃ ws, Ab.outV x = some ws ∧ ws.all Ab.flatW = true ∧ Q (.tup ws) st1)) : WpR (Se.mOutcome m ρ st) Q X := by
  simp only [uR, uO, uG] at *
  show Ab.WpR (Ab.mOutcome m ρ st) Q X
  unfold Ab.mOutcome
  cases hm : m ρ st with
  | bad => rw [hm] at q; exact q
  | exc e s' =>
    rw [hm] at q
    obtain ⟨ws, h1, h2, h3⟩ := q
    dsimp only; rw [h1]; dsimp only; rw [if_pos h2]; exact h3
  | ok w s' => rw [hm] at q; exact q
theorem b_outOne {out : Exc → Option (List Val)} (q : WpR (m ρ st) (fun v st1 => Q v st1) (fun x st1 => ∃ ws, out x = some ws ∧ ws.all Ab.flatW = true ∧ Q (.tup ws) st1)) : WpR (Se.mOutOne out m ρ st) Q X := by
  simp only [uR, uO, uG] at *
  show Ab.WpR (Ab.mOutOne out m ρ st) Q X
  unfold Ab.mOutOne
  cases hm : m ρ st with
  | bad => rw [hm] at q; exact q
  | exc e s' =>
    rw [hm] at q
    obtain ⟨ws, h1, h2, h3⟩ := q
    dsimp only; rw [h1]; dsimp only; rw [if_pos h2]; exact h3
  | ok w s' => rw [hm] at q; exact q
/-! statements -/
theorem b_next (q : n ρ st) : WpO (Se.sNext ρ st) ⟨n, r, k, l, X⟩ := by
  simp only [uR, uO, uG] at *
  exact q
theorem b_seq (q : WpO (s1 ρ st) ⟨fun ρ st => WpO (s2 ρ st) ⟨n, r, k, l, X⟩, r, k, l, X⟩) : WpO (Se.sSeq s1 s2 ρ st) ⟨n, r, k, l, X⟩ := by
  simp only [uR, uO, uG] at *
  exact Ab.w_seq.mpr q
theorem b_set {i : Nat} (q : WpR (m ρ st) (fun w st1 => NF ρ i (some w) fun ρ => n ρ st1) X) : WpO (Se.sSet i m ρ st) ⟨n, r, k, l, X⟩ := by
  simp only [uR, uO, uG] at *
  exact Ab.w_set.mpr q
theorem b_ret (q : WpR (m ρ st) (fun w st1 => r w st1) X) : WpO (Se.sRet m ρ st) ⟨n, r, k, l, X⟩ := by
  simp only [uR, uO, uG] at *
  exact Ab.w_ret.mpr q
theorem b_drop (q : WpR (m ρ st) (fun _ st1 => n ρ st1) X) : WpO (Se.sDrop m ρ st) ⟨n, r, k, l, X⟩ := by
  simp only [uR, uO, uG] at *
  exact Ab.w_drop.mpr q
theorem b_sif (q : WpR (t ρ st) (fun b st1 => if b = true then WpO (s1 ρ st1) ⟨n, r, k, l, X⟩ else WpO (s2 ρ st1) ⟨n, r, k, l, X⟩) X) : WpO (Se.sIf t s1 s2 ρ st) ⟨n, r, k, l, X⟩ := by
  simp only [uR, uO, uG] at *
  exact Ab.w_sif.mpr q
theorem b_break (q : k ρ st) : WpO (Se.sBreak ρ st) ⟨n, r, k, l, X⟩ := by
  simp only [uR, uO, uG] at *
  exact q
theorem b_cont (q : l ρ st) : WpO (Se.sCont ρ st) ⟨n, r, k, l, X⟩ := by
  simp only [uR, uO, uG] at *
  exact q
theorem b_aug {i : Nat} {g : Val → Val → Store → R Val} {x : Val} (hx : ρ[i]? = some (some x)) (q : WpR (m ρ st) (fun y st1 => WpR (g x y st1) (fun z st2 => NF ρ i (some z) fun ρ => n ρ st2) X) X) : WpO (Se.sAug i g m ρ st) ⟨n, r, k, l, X⟩ := by
  simp only [uR, uO, uG] at *
  show Ab.WpO (Ab.sAug i g m ρ st) _
  unfold Ab.sAug; rw [hx]; dsimp only; rw [Ab.wp_toO]
  refine Ab.WpR.mono q (fun y s h => ?_) fun _ _ h => h
  rw [Ab.wp_toO]; exact h
theorem b_asg {g : MG} (q : WpR (m ρ st) (fun w st1 => WpG (g w ρ st1) n) X) : WpO (Se.sAsg m g ρ st) ⟨n, r, k, l, X⟩ := by
  simp only [uR, uO, uG] at *
  exact Ab.w_asg.mpr q
theorem b_par {i j : Nat} (q : WpR (ta ρ st) (fun ws st1 => ∃ v w, ws = [v, w] ∧ NF ρ i (some v) fun ρ => NF ρ j (some w) fun ρ => n ρ st1) X) : WpO (Se.sPar i j ta ρ st) ⟨n, r, k, l, X⟩ := by
  simp only [uR, uO, uG] at *
  show Ab.WpO (Ab.sPar i j ta ρ st) _
  unfold Ab.sPar; rw [Ab.wp_toO]
  refine Ab.WpR.mono q (fun y s h => ?_) fun _ _ h => h
  obtain ⟨v, w, rfl, h⟩ := h; exact h
theorem b_fldm {cs : List Nat} {f : Nat} (q : WpR (b ρ st) (fun w st1 => WpR (a ρ st1) (fun x st2 => ∃ nn C fs, x = .ref nn ∧ st2[nn]? = some (.ins C fs) ∧ C ∈ cs ∧ fs.length < 1000 ∧ Wr nn (.ins C (Ab.putM f w fs)) st2 fun s => n ρ s) X) X) : WpO (Se.sFldM cs f a b ρ st) ⟨n, r, k, l, X⟩ := by
  simp only [uR, uO, uG] at *
  show Ab.WpO (Ab.sFldM cs f a b ρ st) _
  unfold Ab.sFldM; rw [Ab.wp_toO]
  refine Ab.WpR.mono q (fun y s h => ?_) fun _ _ h => h
  rw [Ab.wp_toO]
  refine Ab.WpR.mono h (fun y s h => ?_) fun _ _ h => h
  obtain ⟨nn, C, fs, rfl, h1, h2, h3, h4⟩ := h
  dsimp only; rw [h1]; dsimp only; rw [if_pos ⟨h2, h3⟩]; exact h4.at h1
theorem b_fldaug {cs : List Nat} {f : Nat} {g : Val → Val → Store → R Val} (q : WpR (a ρ st) (fun x st1 => ∃ nn C fs w, x = .ref nn ∧ st1[nn]? = some (.ins C fs) ∧ C ∈ cs ∧ fs.lookup f = some w ∧ WpR (b ρ st1) (fun y st2 => WpR (g w y st2) (fun z st3 => ∃ fs', st3[nn]? = some (.ins C fs') ∧ fs'.length < 1000 ∧ Wr nn (.ins C (Ab.putM f z fs')) st3 fun s => n ρ s) X) X) X) : WpO (Se.sFldAugM cs f g a b ρ st) ⟨n, r, k, l, X⟩ := by
  simp only [uR, uO, uG] at *
  show Ab.WpO (Ab.sFldAugM cs f g a b ρ st) _
  unfold Ab.sFldAugM; rw [Ab.wp_toO]
  refine Ab.WpR.mono q (fun y s h => ?_) fun _ _ h => h
  obtain ⟨nn, C, fs, w, rfl, h1, h2, h3, h4⟩ := h
  dsimp only; rw [h1]; dsimp only; rw [if_pos h2, h3]; dsimp only; rw [Ab.wp_toO]
  refine Ab.WpR.mono h4 (fun y s h => ?_) fun _ _ h => h
  rw [Ab.wp_toO]
  refine Ab.WpR.mono h (fun y s h => ?_) fun _ _ h => h
  obtain ⟨fs', h1, h2, h3⟩ := h
  rw [h1]; dsimp only; rw [if_pos ⟨rfl, h2⟩]; exact h3.at h1
theorem b_raise {C : Nat} {fs : List Nat} (q : WpR (ta ρ st) (fun ws st1 => ws.length = fs.length ∧ X ⟨C, (fs.zip ws).reverse⟩ st1) X) : WpO (Se.sRaise C fs ta ρ st) ⟨n, r, k, l, X⟩ := by
  simp only [uR, uO, uG] at *
  show Ab.WpO (Ab.sRaise C fs ta ρ st) _
  unfold Ab.sRaise; rw [Ab.wp_toO]
  refine Ab.WpR.mono q (fun y s h => ?_) fun _ _ h => h
  rw [if_pos h.1]; exact h.2
theorem b_raise0 {C : Nat} (q : X ⟨C, []⟩ st) : WpO (Se.sRaise0 C ρ st) ⟨n, r, k, l, X⟩ := by
  simp only [uR, uO, uG] at *
  exact q
theorem b_for {mi : MI} {g : MG} {body : MS} (q : WpR (mi ρ st) (fun it st1 => WpO (Ab.forM g body it.2 it.1 ρ st1) ⟨n, r, k, l, X⟩) X) : WpO (Se.sFor mi g body ρ st) ⟨n, r, k, l, X⟩ := by
  simp only [uR, uO, uG] at *
  exact Ab.w_for.mpr q
/-! targets -/
theorem g_set {i : Nat} {w : Val} (q : NF ρ i (some w) fun ρ => n ρ st) : WpG (Se.gSet i w ρ st) n := by
  simp only [uR, uO, uG] at *
  exact q
theorem g_nil (q : n ρ st) : WpG (Se.gsNil [] ρ st) n := by
  simp only [uR, uO, uG] at *
  exact q
theorem g_cons {g : MG} {h : MGs} {w : Val} {ws : List Val} (q : WpG (g w ρ st) (fun ρ1 st1 => WpG (h ws ρ1 st1) n)) : WpG (Se.gsCons g h (w :: ws) ρ st) n := by
  simp only [uR, uO, uG] at *
  show Ab.WpG (Ab.gsCons g h (w :: ws) ρ st) n
  dsimp only [Ab.gsCons]
  cases hg : g w ρ st with
  | none => rw [hg] at q; exact q
  | some p => rw [hg] at q; exact q
theorem g_tup {j : Nat} {h : MGs} {ws : List Val} (hl : ws.length = j) (q : WpG (h ws ρ st) n) : WpG (Se.gTupM j h (.tup ws) ρ st) n := by
  simp only [uR, uO, uG] at *
  show Ab.WpG (Ab.gTupM j h (.tup ws) ρ st) n
  dsimp only [Ab.gTupM]
  rw [if_pos hl]; exact q
theorem g_fld {cs : List Nat} {f : Nat} {w : Val} (q : WpR (m ρ st) (fun x st1 => ∃ nn C fs, x = .ref nn ∧ st1[nn]? = some (.ins C fs) ∧ C ∈ cs ∧ fs.length < 1000 ∧ Wr nn (.ins C (Ab.putM f w fs)) st1 fun s => n ρ s) fun _ _ => False) : WpG (Se.gFld cs f m w ρ st) n := by
  simp only [uR, uO, uG] at *
  show Ab.WpG (Ab.gFld cs f m w ρ st) n
  unfold Ab.gFld
  cases hm : m ρ st with
  | bad => rw [hm] at q; exact q.elim
  | exc e s' => rw [hm] at q; exact q.elim
  | ok x s' =>
    rw [hm] at q
    obtain ⟨nn, C, fs, rfl, h1, h2, h3, h4⟩ := q
    dsimp only; rw [h1]; dsimp only; rw [if_pos ⟨h2, h3⟩]; exact h4.at h1
theorem g_subL {w : Val} (q : WpR (a ρ st) (fun x st1 => WpR (b ρ st1) (fun i st2 => ∃ nn z xs j, x = .ref nn ∧ i = .int z ∧ st2[nn]? = some (.lst xs) ∧ L2.ixN xs.length z = some j ∧ Wr nn (.lst (xs.set j w)) st2 fun s => n ρ s) fun _ _ => False) fun _ _ => False) : WpG (Se.gSubL a b w ρ st) n := by
  simp only [uR, uO, uG] at *
  show Ab.WpG (Ab.gSubL a b w ρ st) n
  unfold Ab.gSubL
  cases hm : a ρ st with
  | bad => rw [hm] at q; exact q.elim
  | exc e s' => rw [hm] at q; exact q.elim
  | ok x s' =>
    rw [hm] at q
    dsimp only [Ab.WpR] at q ⊢
    cases hb : b ρ s' with
    | bad => rw [hb] at q; exact q.elim
    | exc e s' => rw [hb] at q; exact q.elim
    | ok y s2 =>
      rw [hb] at q
      obtain ⟨nn, z, xs, j, rfl, rfl, h1, h2, h3⟩ := q
      dsimp only; rw [h1]; dsimp only; rw [h2]; exact h3.at h1
theorem g_subD {w : Val} (q : WpR (a ρ st) (fun x st1 => WpR (b ρ st1) (fun i st2 => ∃ nn z kvs, x = .ref nn ∧ Ab.keyW i = some z ∧ st2[nn]? = some (.dct kvs) ∧ kvs.length < 1000 ∧ Wr nn (.dct (Ab.putW kvs z w)) st2 fun s => n ρ s) fun _ _ => False) fun _ _ => False) : WpG (Se.gSubD a b w ρ st) n := by
  simp only [uR, uO, uG] at *
  show Ab.WpG (Ab.gSubD a b w ρ st) n
  unfold Ab.gSubD
  cases hm : a ρ st with
  | bad => rw [hm] at q; exact q.elim
  | exc e s' => rw [hm] at q; exact q.elim
  | ok x s' =>
    rw [hm] at q
    dsimp only [Ab.WpR] at q ⊢
    cases hb : b ρ s' with
    | bad => rw [hb] at q; exact q.elim
    | exc e s' => rw [hb] at q; exact q.elim
    | ok y s2 =>
      rw [hb] at q
      obtain ⟨nn, z, xs, rfl, h0, h1, h2, h3⟩ := q
      dsimp only; rw [h0]; dsimp only; rw [h1]; dsimp only; rw [if_pos h2]; exact h3.at h1
/-! what is gone through -/
section
variable {QI : List Val × (Store → Prop) → Store → Prop}
theorem i_seq (q : WpR (m ρ st) (fun w st1 => ∃ p, Ab.itemsOf st1 w = some p ∧ QI p st1) X) : WpR (Se.iSeqM m ρ st) QI X := by
  simp only [uR, uO, uG] at *
  show Ab.WpR (Ab.iSeqM m ρ st) QI X
  unfold Ab.iSeqM; rw [Ab.wp_bind]
  refine Ab.WpR.mono q (fun y s h => ?_) fun _ _ h => h
  obtain ⟨p, h1, h2⟩ := h
  rw [h1]; exact h2
theorem i_keys (q : WpR (m ρ st) (fun w st1 => ∃ j kvs, w = .ref j ∧ st1[j]? = some (.dct kvs) ∧ Wr j (.fdc kvs) st1 fun s => QI (kvs.map fun kv => Ab.unkey kv.1, fun st' => st'[j]? = some (.fdc kvs)) s) X) : WpR (Se.iKeysM m ρ st) QI X := by
  simp only [uR, uO, uG] at *
  show Ab.WpR (Ab.iKeysM m ρ st) QI X
  unfold Ab.iKeysM Ab.mFrz; simp only [Ab.wp_bind]
  refine Ab.WpR.mono q (fun x s h => ?_) fun _ _ h => h
  obtain ⟨j, kvs, rfl, h1, h2⟩ := h
  dsimp only; rw [h1]; dsimp only
  rw [Ab.wp_ok]
  unfold Ab.fdcAt; dsimp only
  rw [List.getElem?_set_self (List.getElem?_eq_some_iff.mp h1).1]
  exact h2.at h1
theorem i_vals (q : WpR (m ρ st) (fun w st1 => ∃ j kvs, w = .ref j ∧ st1[j]? = some (.dct kvs) ∧ Wr j (.fdc kvs) st1 fun s => QI (kvs.map (·.2), fun st' => st'[j]? = some (.fdc kvs)) s) X) : WpR (Se.iValsM m ρ st) QI X := by
  simp only [uR, uO, uG] at *
  show Ab.WpR (Ab.iValsM m ρ st) QI X
  unfold Ab.iValsM Ab.mFrz; simp only [Ab.wp_bind]
  refine Ab.WpR.mono q (fun x s h => ?_) fun _ _ h => h
  obtain ⟨j, kvs, rfl, h1, h2⟩ := h
  dsimp only; rw [h1]; dsimp only
  rw [Ab.wp_ok]
  unfold Ab.fdcAt; dsimp only
  rw [List.getElem?_set_self (List.getElem?_eq_some_iff.mp h1).1]
  exact h2.at h1
theorem i_enum (q : WpR (m ρ st) (fun w st1 => ∃ xs okp, Ab.itemsOf st1 w = some (xs, okp) ∧ QI (Ab.enumFrom 0 xs, okp) st1) X) : WpR (Se.iEnumM m ρ st) QI X := by
  simp only [uR, uO, uG] at *
  show Ab.WpR (Ab.iEnumM m ρ st) QI X
  unfold Ab.iEnumM; rw [Ab.wp_bind]
  refine Ab.WpR.mono q (fun y s h => ?_) fun _ _ h => h
  obtain ⟨p, okp, h1, h2⟩ := h
  rw [h1]; exact h2
theorem i_zip (q : WpR (a ρ st) (fun w st1 => WpR (b ρ st1) (fun u st2 => ∃ xs okp ys okq, Ab.itemsOf st2 w = some (xs, okp) ∧ Ab.itemsOf st2 u = some (ys, okq) ∧ QI (Ab.zipW xs ys, fun st => okp st ∧ okq st) st2) X) X) : WpR (Se.iZipM a b ρ st) QI X := by
  simp only [uR, uO, uG] at *
  show Ab.WpR (Ab.iZipM a b ρ st) QI X
  unfold Ab.iZipM; simp only [Ab.wp_bind]
  refine Ab.WpR.mono q (fun y s h => ?_) fun _ _ h => h
  refine Ab.WpR.mono h (fun y s h => ?_) fun _ _ h => h
  obtain ⟨p, okp, ys, okq, h1, h2, h3⟩ := h
  rw [h1, h2]; exact h3
theorem i_str (q : WpR (m ρ st) (fun w st1 => ∃ x, w = .str x ∧ QI (Ab.signsW x, fun _ => True) st1) X) : WpR (Se.iStrM m ρ st) QI X := by
  simp only [uR, uO, uG] at *
  show Ab.WpR (Ab.iStrM m ρ st) QI X
  unfold Ab.iStrM; rw [Ab.wp_bind]
  refine Ab.WpR.mono q (fun y s h => ?_) fun _ _ h => h
  obtain ⟨x, rfl, h⟩ := h; exact h
theorem i_range1 (q : WpR (ta ρ st) (fun ws st1 => ∃ j : Int, ws = [.int j] ∧ (-(2 ^ 62) ≤ j ∧ j < 2 ^ 62) ∧ QI ((List.range j.toNat).map fun (i : Nat) => Val.int i, fun _ => True) st1) X) : WpR (Se.iRange1 ta ρ st) QI X := by
  simp only [uR, uO, uG] at *
  show Ab.WpR (Ab.iRange1 ta ρ st) QI X
  unfold Ab.iRange1; rw [Ab.wp_bind]
  refine Ab.WpR.mono q (fun y s h => ?_) fun _ _ h => h
  obtain ⟨j, rfl, h1, h2⟩ := h
  dsimp only; rw [if_pos h1]
  simpa only [Int.zero_add, Ab.wp_ok] using h2
theorem i_range2 (q : WpR (ta ρ st) (fun ws st1 => ∃ i j : Int, ws = [.int i, .int j] ∧ (-(2 ^ 62) ≤ i ∧ i < 2 ^ 62 ∧ -(2 ^ 62) ≤ j ∧ j < 2 ^ 62) ∧ QI ((List.range (j - i).toNat).map fun (k : Nat) => Val.int (i + k), fun _ => True) st1) X) : WpR (Se.iRange2 ta ρ st) QI X := by
  simp only [uR, uO, uG] at *
  show Ab.WpR (Ab.iRange2 ta ρ st) QI X
  unfold Ab.iRange2; rw [Ab.wp_bind]
  refine Ab.WpR.mono q (fun y s h => ?_) fun _ _ h => h
  obtain ⟨i, j, rfl, h1, h2⟩ := h
  dsimp only; rw [if_pos h1]; exact h2
theorem items_lst {n : Nat} {xs : List Val} (h : st[n]? = some (.lst xs)) : Ab.itemsOf st (.ref n) = some (xs, fun st' => seqAt st' n = some xs) := by
  unfold Ab.itemsOf; dsimp only; rw [Ab.seqAt_lst h]
end
theorem b_lc {mi : MI} {g : MG} {vs : List Nat} (q : WpR (mi ρ st) (fun it st1 => WpR (Ab.lcM g t m it.2 st1.length (Ab.wipeM ρ vs) it.1 (st1 ++ [.lst []])) Q X) X) : WpR (Se.mLc mi g t m vs ρ st) Q X := by
  simp only [uR, uO, uG] at *
  show Ab.WpR (Ab.mLc mi g t m vs ρ st) Q X
  unfold Ab.mLc; rw [Ab.wp_bind]; exact q
theorem b_dc {mi : MI} {g : MG} {vs : List Nat} (q : WpR (mi ρ st) (fun it st1 => WpR (Ab.dcM g t a b it.2 st1.length (Ab.wipeM ρ vs) it.1 (st1 ++ [.dct []])) Q X) X) : WpR (Se.mDc mi g t a b vs ρ st) Q X := by
  simp only [uR, uO, uG] at *
  show Ab.WpR (Ab.mDc mi g t a b vs ρ st) Q X
  unfold Ab.mDc; rw [Ab.wp_bind]; exact q
theorem b_yes (q : QB true st) : WpR (Se.mYes ρ st) QB X := by
  simp only [uR, uO, uG] at *
  exact q
theorem b_def {j i : Nat} {body : MS} {ws : List Val} (h : ws.length = j) (q : WpO (body (ws.map some ++ List.replicate i none) st) ⟨fun _ st => Q .non st, Q, fun _ _ => False, fun _ _ => False, X⟩) : WpR (Ab.defM j i body ws st) Q X := by
  simp only [uR, uO, uG] at *
  exact (Ab.wp_def h).mpr q
theorem b_defS {j i : Nat} {body : MS} {ws : List Val} (h : j ≤ ws.length ∧ ws.length ≤ 1000) (q : WpO (body ((ws.take j ++ [Val.tup (ws.drop j)]).map some ++ List.replicate i none) st) ⟨fun _ st => Q .non st, Q, fun _ _ => False, fun _ _ => False, X⟩) : WpR (Ab.defStarM j i body ws st) Q X := by
  simp only [uR, uO, uG] at *
  unfold Ab.defStarM; rw [if_pos h, Ab.wp_fin]; exact q
/-! ops that look at the store -/
theorem v_ixL {i : Nat} {z : Int} {xs : List Val} {w : Val} (h : st[i]? = some (.lst xs)) (hi : L2.atI xs z = some w) (q : Q w st) : WpR (vIx (.ref i) (.int z) st) Q X := by
  simp only [uR, uO, uG] at *
  exact (Ab.ix_ref (Ab.seqAt_lst h) hi).mpr q
theorem v_ixT {z : Int} {xs : List Val} {w : Val} (hi : L2.atI xs z = some w) (q : Q w st) : WpR (vIx (.tup xs) (.int z) st) Q X := by
  simp only [uR, uO, uG] at *
  dsimp only [vIx]; rw [hi]; exact q
theorem v_lenL {i : Nat} {xs : List Val} (h : st[i]? = some (.lst xs)) (q : Q (.int xs.length) st) : WpR (Ab.bLen [.ref i] st) Q X := by
  simp only [uR, uO, uG] at *
  dsimp only [Ab.bLen]; rw [Ab.seqAt_lst h]; exact q
theorem v_tupL {i : Nat} {xs : List Val} (h : st[i]? = some (.lst xs)) (q : Q (.tup xs) st) : WpR (Ab.bTuple [.ref i] st) Q X := by
  simp only [uR, uO, uG] at *
  dsimp only [Ab.bTuple]; rw [Ab.seqAt_lst h]; exact q
theorem v_lstL {i : Nat} {xs : List Val} (h : st[i]? = some (.lst xs)) (q : New (.lst xs) st fun n s => Q (.ref n) s) : WpR (Ab.bList [.ref i] st) Q X := by
  simp only [uR, uO, uG] at *
  dsimp only [Ab.bList]; rw [Ab.seqAt_lst h]; exact q.at
theorem v_addL {i j : Nat} {xs ys : List Val} (h1 : st[i]? = some (.lst xs)) (h2 : st[j]? = some (.lst ys)) (hl : xs.length + ys.length ≤ 100000) (q : New (.lst (xs ++ ys)) st fun n s => Q (.ref n) s) : WpR (vAdd (.ref i) (.ref j) st) Q X := by
  simp only [uR, uO, uG] at *
  dsimp only [vAdd]; rw [h1, h2]; dsimp only; rw [if_pos (by rw [sizeLine_eq]; omega)]; exact q.at
theorem v_addT {xs ys : List Val} (hl : xs.length + ys.length ≤ 100000) (q : Q (.tup (xs ++ ys)) st) : WpR (vAdd (.tup xs) (.tup ys) st) Q X := by
  simp only [uR, uO, uG] at *
  dsimp only [vAdd]; rw [if_pos (by rw [sizeLine_eq]; omega)]; exact q
theorem v_app {i : Nat} {xs : List Val} {y : Val} (h : st[i]? = some (.lst xs)) (hl : xs.length < 100000) (q : Wr i (.lst (xs ++ [y])) st fun s => Q .non s) : WpR (Ab.vAppend (.ref i) [y] st) Q X := by
  simp only [uR, uO, uG] at *
  dsimp only [Ab.vAppend]; rw [h]; dsimp only; rw [if_pos (by rw [sizeLine_eq]; omega)]; exact q.at h
theorem v_mul {i j : Int} (h : (-(2 ^ 64) < i ∧ i < 2 ^ 64) ∨ (-(2 ^ 64) < j ∧ j < 2 ^ 64)) (q : Q (.int (i * j)) st) : WpR (Ab.vMul (.int i) (.int j) st) Q X := by
  simp only [uR, uO, uG] at *
  dsimp only [Ab.vMul]
  rw [if_pos]; exact q
  unfold Ab.mulOk
  rcases h with h | h
  · rw [decide_eq_true h.1, decide_eq_true h.2]; simp
  · rw [decide_eq_true h.1, decide_eq_true h.2]; simp
theorem v_mod {i j : Int} (h : 0 < j) (q : Q (.int (i % j)) st) : WpR (Ab.vMod (.int i) (.int j) st) Q X := by
  simp only [uR, uO, uG] at *
  rw [Ab.vmod_i h]; exact q
theorem v_div {i j : Int} (h : 0 < j ∧ j < 2 ^ 100) (q : Q (.int (i / j)) st) : WpR (Ab.vDiv (.int i) (.int j) st) Q X := by
  simp only [uR, uO, uG] at *
  rw [Ab.vdiv_i h.1 h.2]; exact q
theorem v_pow {i j k : Int} (h : 0 ≤ j ∧ j ≤ 1000000 ∧ i.natAbs < 2 ^ 64) (hk : i ^ j.toNat = k) (q : Q (.int k) st) : WpR (Ab.vPow (.int i) (.int j) st) Q X := by
  simp only [uR, uO, uG] at *
  dsimp only [Ab.vPow]; rw [if_pos h, hk]; exact q
theorem v_lt {i j : Int} (q : Q (.bl (decide (i < j))) st) : WpR (Ab.vLt (.int i) (.int j) st) Q X := by
  simp only [uR, uO, uG] at *
  exact q
theorem v_gt {i j : Int} (q : Q (.bl (decide (j < i))) st) : WpR (Ab.vGt (.int i) (.int j) st) Q X := by
  simp only [uR, uO, uG] at *
  exact q
theorem v_ge {i j : Int} (q : Q (.bl (decide (j ≤ i))) st) : WpR (Ab.vGe (.int i) (.int j) st) Q X := by
  simp only [uR, uO, uG] at *
  exact q
/-- both ways are read off -/
theorem ite_both {p : Prop} [Decidable p] {i j : Int} {A B : R Val} (hA : A = .ok (.int i) st) (hB : B = .ok (.int j) st) (q : Q (.int (if p then i else j)) st) : if decide p = true then WpR A Q X else WpR B Q X := by
  simp only [uR, uO, uG] at *
  by_cases h : p
  · rw [if_pos (by simpa using h), hA]; rw [if_pos h] at q; exact q
  · rw [if_neg (by simpa using h), hB]; rw [if_neg h] at q; exact q
theorem v_inT {x : Val} {ys : List Val} {s : Str} (hx : x = .str s) (hf : ys.all Ab.flatW = true) (q : Q (.bl (Ab.inW x ys)) st) : WpR (Ab.vIn x (.tup ys) st) Q X := by
  simp only [uR, uO, uG] at *
  subst hx; dsimp only [Ab.vIn]; rw [if_pos (by simpa [Ab.flatW] using hf)]; exact q
theorem v_inL {x : Val} {i : Nat} {ys : List Val} {s : Str} (hx : x = .str s) (h : st[i]? = some (.lst ys)) (hf : ys.all Ab.flatW = true) (q : Q (.bl (Ab.inW x ys)) st) : WpR (Ab.vIn x (.ref i) st) Q X := by
  simp only [uR, uO, uG] at *
  subst hx; dsimp only [Ab.vIn]; rw [Ab.seqAt_lst h]; dsimp only; rw [if_pos (by simpa [Ab.flatW] using hf)]; exact q
theorem chk_bl {b : Bool} {P N : Prop} (h : if b = true then P else N) : Chk (.bl b) P N := by cases b <;> exact h
theorem ite_t {P N : Prop} (h : P) : if true = true then P else N := by rw [if_pos rfl]; exact h
theorem ite_f {P N : Prop} (h : N) : if false = true then P else N := by rw [if_neg Bool.false_ne_true]; exact h
theorem ite_nt {P N : Prop} (h : N) : if (!true) = true then P else N := by rw [if_neg (by decide)]; exact h
theorem ite_nf {P N : Prop} (h : P) : if (!false) = true then P else N := by rw [if_pos (by decide)]; exact h
theorem ite_rfl {α : Type} [DecidableEq α] {a : α} {P N : Prop} (h : P) : if decide (a = a) = true then P else N := by rw [if_pos (by simp)]; exact h
theorem ite_nrfl {α : Type} [DecidableEq α] {a : α} {P N : Prop} (h : N) : if (!decide (a = a)) = true then P else N := by rw [if_neg (by simp)]; exact h
theorem ite_d {p : Prop} [Decidable p] {P N : Prop} (h1 : p → P) (h2 : ¬p → N) : if decide p = true then P else N := by
  by_cases q : p
  · rw [if_pos (by simpa using q)]; exact h1 q
  · rw [if_neg (by simpa using q)]; exact h2 q
theorem ite_nd {p : Prop} [Decidable p] {P N : Prop} (h1 : p → N) (h2 : ¬p → P) : if (!decide p) = true then P else N := by
  by_cases q : p
  · rw [if_neg (by simpa using q)]; exact h1 q
  · rw [if_pos (by simpa using q)]; exact h2 q
theorem ite_dp {p : Prop} [Decidable p] {P N : Prop} (q : p) (h : P) : if decide p = true then P else N := by rw [if_pos (by simpa using q)]; exact h
theorem ite_dn {p : Prop} [Decidable p] {P N : Prop} (q : ¬p) (h : N) : if decide p = true then P else N := by rw [if_neg (by simpa using q)]; exact h
theorem ite_ndp {p : Prop} [Decidable p] {P N : Prop} (q : p) (h : N) : if (!decide p) = true then P else N := by rw [if_neg (by simpa using q)]; exact h
/-! look-ups -/
theorem get_last {s : Store} {d : Cell} : (s ++ [d])[s.length]? = some d := by simp
theorem get_push {s : Store} {i : Nat} {c d : Cell} (h : s[i]? = some c) : (s ++ [d])[i]? = some c := by
  rw [List.getElem?_append_left (List.getElem?_eq_some_iff.mp h).1]; exact h
theorem lt_of {s : Store} {i : Nat} {c : Cell} (h : s[i]? = some c) : i < s.length := (List.getElem?_eq_some_iff.mp h).1
theorem k_seq {S S' : List Nat} {a b c : Store} (h : Keep S a b) (h' : Keep S' b c) (hs : ∀ i ∈ S', i ∈ S ∨ a.length ≤ i) : Keep S a c := ⟨Nat.le_trans h.1 h'.1, fun j hj hn => by
  rw [h'.2 j (Nat.lt_of_lt_of_le hj h.1) fun z => (hs j z).elim hn fun w => absurd hj (by omega)]; exact h.2 j hj hn⟩
end
section
variable {α : Type} {X : Exc → Store → Prop} {n : Slots → Store → Prop} {r : Val → Store → Prop} {k l : Slots → Store → Prop}
/-- a loop, by an invariant told of what is done -/
theorem for_l {xs : List α} {F : α → Val} {g : MG} {body : MS} {okp : Store → Prop} (Inv : List α → Slots → Store → Prop) (hok : ∀ d ρ st, Inv d ρ st → okp st)
    (step : ∀ d x rest ρ st, xs = d ++ x :: rest → Inv d ρ st → WpG (g (F x) ρ st) (fun ρ1 st1 => WpO (body ρ1 st1) ⟨Inv (d ++ [x]), r, n, Inv (d ++ [x]), X⟩))
    (fin : ∀ ρ st, Inv xs ρ st → n ρ st) {ρ : Slots} {st : Store} (h : Inv [] ρ st) : WpO (Ab.forM g body okp (xs.map F) ρ st) ⟨n, r, k, l, X⟩ := by
  simp only [uR, uO, uG] at *
  have key : ∀ (rest d : List α) (ρ : Slots) (st : Store), xs = d ++ rest → Inv d ρ st → Ab.WpO (Ab.forM g body okp (rest.map F) ρ st) ⟨n, r, k, l, X⟩ := by
    intro rest
    induction rest with
    | nil =>
      intro d ρ st e hI
      rw [List.append_nil] at e; subst e
      unfold Ab.forM
      rw [List.map_nil]; dsimp only
      rw [if_pos (hok _ _ _ hI)]
      exact fin ρ st hI
    | cons x rest ih =>
      intro d ρ st e hI
      rw [List.map_cons]
      unfold Ab.forM
      rw [if_pos (hok _ _ _ hI)]
      have hs := step d x rest ρ st e hI
      cases hg : g (F x) ρ st with
      | none => rw [hg] at hs; exact hs.elim
      | some p =>
        obtain ⟨ρ1, st1⟩ := p
        rw [hg] at hs
        dsimp only [Ab.WpG] at hs ⊢
        have e' : xs = (d ++ [x]) ++ rest := by rw [e]; simp
        cases q : body ρ1 st1 with
        | nx ρ2 st2 => rw [q] at hs; exact ih _ ρ2 st2 e' hs
        | ct ρ2 st2 => rw [q] at hs; exact ih _ ρ2 st2 e' hs
        | brk ρ2 st2 => rw [q] at hs; exact hs
        | ret w st2 => rw [q] at hs; exact hs
        | exc x ρ2 st2 => rw [q] at hs; exact hs
        | bad => rw [q] at hs; exact hs
  exact key xs [] ρ st rfl h
/-- a comprehension that only reads -/
theorem lc_pure {xs : List α} {F : α → Val} {g : MG} {t : MT} {elt : ME} {okp : Store → Prop} {ρ : Slots} {Q : Val → Store → Prop} {st : Store} (p : α → Bool) (f : α → Val) (hok : ∀ acc, okp (st ++ [.lst acc])) (hl : xs.length ≤ 100000)
    (step : ∀ x ∈ xs, ∀ acc, WpG (g (F x) ρ (st ++ [.lst acc])) (fun ρ1 st1 => st1 = st ++ [.lst acc] ∧ WpR (t ρ1 (st ++ [.lst acc])) (fun b s => b = p x ∧ s = st ++ [.lst acc] ∧ (b = true → WpR (elt ρ1 (st ++ [.lst acc])) (fun y s => y = f x ∧ s = st ++ [.lst acc]) fun _ _ => False)) fun _ _ => False))
    (q : New (.lst ((xs.filter p).map f)) st fun n s => Q (.ref n) s) : WpR (Ab.lcM g t elt okp st.length ρ (xs.map F) (st ++ [.lst []])) Q X := by
  simp only [uR, uO, uG] at *
  have key : ∀ (rest d : List α), xs = d ++ rest → ∀ acc : List Val, acc.length ≤ d.length → Ab.lcM g t elt okp st.length ρ (rest.map F) (st ++ [.lst acc]) = .ok (.ref st.length) (st ++ [.lst (acc ++ (rest.filter p).map f)]) := by
    intro rest
    induction rest with
    | nil =>
      intro d e acc ha
      unfold Ab.lcM
      rw [List.map_nil]; dsimp only
      rw [if_pos (hok _)]
      simp
    | cons x rest ih =>
      intro d e acc ha
      have e' : xs = (d ++ [x]) ++ rest := by rw [e]; simp
      have hlen : xs.length = d.length + (rest.length + 1) := by rw [e]; simp
      rw [List.map_cons]
      unfold Ab.lcM
      rw [if_pos (hok _)]
      have hs := step x (by rw [e]; simp) acc
      cases hg : g (F x) ρ (st ++ [.lst acc]) with
      | none => rw [hg] at hs; exact hs.elim
      | some pr =>
        obtain ⟨ρ1, st1⟩ := pr
        rw [hg] at hs
        obtain ⟨rfl, hs⟩ := hs
        dsimp only
        cases ht : t ρ1 (st ++ [.lst acc]) with
        | bad => rw [ht] at hs; exact hs.elim
        | exc e s => rw [ht] at hs; exact hs.elim
        | ok b s =>
          rw [ht] at hs
          obtain ⟨hb, rfl, hs⟩ := hs
          dsimp only [R.noX, R.bind]
          cases b with
          | false =>
            rw [if_neg Bool.false_ne_true, ih _ e' acc (by simp; omega), List.filter_cons, ← hb]
            rfl
          | true =>
            rw [if_pos rfl]
            have hs := hs rfl
            cases hel : elt ρ1 (st ++ [.lst acc]) with
            | bad => rw [hel] at hs; exact hs.elim
            | exc e s => rw [hel] at hs; exact hs.elim
            | ok y s =>
              rw [hel] at hs
              obtain ⟨rfl, rfl⟩ := hs
              dsimp only [R.noX, R.bind]
              rw [get_last]; dsimp only
              rw [if_pos (by rw [sizeLine_eq]; omega)]
              rw [show (st ++ [Cell.lst acc]).set st.length (.lst (acc ++ [f x])) = st ++ [Cell.lst (acc ++ [f x])] by simp]
              rw [ih _ e' _ (by simp; omega), List.filter_cons, ← hb]
              simp
  rw [key xs [] rfl [] (Nat.zero_le _)]
  exact q.at
theorem lc_map {xs : List α} {F : α → Val} {g : MG} {elt : ME} {okp : Store → Prop} {ρ : Slots} {Q : Val → Store → Prop} {st : Store} (f : α → Val) (hok : ∀ acc, okp (st ++ [.lst acc])) (hl : xs.length ≤ 100000)
    (step : ∀ x ∈ xs, ∀ acc, WpG (g (F x) ρ (st ++ [.lst acc])) (fun ρ1 st1 => st1 = st ++ [.lst acc] ∧ WpR (elt ρ1 (st ++ [.lst acc])) (fun y s => y = f x ∧ s = st ++ [.lst acc]) fun _ _ => False))
    (q : New (.lst (xs.map f)) st fun n s => Q (.ref n) s) : WpR (Ab.lcM g Se.mYes elt okp st.length ρ (xs.map F) (st ++ [.lst []])) Q X := by
  refine lc_pure (fun _ => true) f hok hl (fun x hx acc => ?_) ?_
  · have h := step x hx acc
    simp only [uR, uG] at h ⊢
    cases hg : g (F x) ρ (st ++ [.lst acc]) with
    | none => rw [hg] at h; exact h.elim
    | some pr =>
      rw [hg] at h
      exact ⟨h.1, rfl, rfl, fun _ => h.2⟩
  · rw [List.filter_eq_self.mpr (fun _ _ => rfl)]; exact q
end
/-! shapes of goals that the steppers close -/
section
variable {α : Type} {Q : Val → Store → Prop} {QA : α → Store → Prop} {X X' : Exc → Store → Prop} {st : Store} {P : Prop}
theorem len_and {xs : List Val} (h : Nat.ble xs.length 100000 = true) (q : P) : xs.length ≤ 100000 ∧ P := ⟨Nat.le_of_ble_eq_true h, q⟩
theorem ex_par {P : Val → Val → Prop} {a b : Val} (q : P a b) : ∃ v w, [a, b] = [v, w] ∧ P v w := ⟨a, b, rfl, q⟩
theorem ex_chain {P : Int → Int → Int → Prop} {i j k : Int} (q : P i j k) : ∃ i' j' k' : Int, Val.int i = .int i' ∧ Val.int j = .int j' ∧ Val.int k = .int k' ∧ st = st ∧ P i' j' k' := ⟨i, j, k, rfl, rfl, rfl, rfl, q⟩
theorem ex_meth {P : MF → Prop} {tbl : List (Nat × MF)} {x : Val} {C : Nat} {mf : MF} (h : Ab.clsAt st x = some C) (h2 : tbl.lookup C = some mf) (q : P mf) : ∃ C mf, Ab.clsAt st x = some C ∧ tbl.lookup C = some mf ∧ P mf := ⟨C, mf, h, h2, q⟩
theorem ex_fld {P : Nat → Nat → List (Nat × Val) → Prop} {cs : List Nat} {n C : Nat} {fs : List (Nat × Val)} (h : st[n]? = some (.ins C fs)) (hC : cs.contains C = true) (hl : Nat.blt fs.length 1000 = true) (q : P n C fs) : ∃ nn C fs, Val.ref n = .ref nn ∧ st[nn]? = some (.ins C fs) ∧ C ∈ cs ∧ fs.length < 1000 ∧ P nn C fs := ⟨n, C, fs, rfl, h, by simpa using hC, Nat.lt_of_lt_of_le (Nat.lt_succ_self _) (Nat.le_of_ble_eq_true hl), q⟩
theorem v_fld' {cs : List Nat} {f n C : Nat} {fs : List (Nat × Val)} {w : Val} (h : st[n]? = some (.ins C fs)) (hC : cs.contains C = true) (hf : fs.lookup f = some w) (q : Q w st) : WpR (vFld cs f (.ref n) st) Q X := v_fld h (by simpa using hC) hf q
theorem ex_subD {P : Nat → Key → List (Key × Val) → Prop} {i : Nat} {s : Str} {kvs : List (Key × Val)} (h : st[i]? = some (.dct kvs)) (hl : Nat.blt kvs.length 1000 = true) (q : P i (.inr s) kvs) : ∃ nn z kvs, Val.ref i = .ref nn ∧ Ab.keyW (.str s) = some z ∧ st[nn]? = some (.dct kvs) ∧ kvs.length < 1000 ∧ P nn z kvs := ⟨i, .inr s, kvs, rfl, rfl, h, Nat.lt_of_lt_of_le (Nat.lt_succ_self _) (Nat.le_of_ble_eq_true hl), q⟩
theorem ex_items {P : Nat → List (Key × Val) → Prop} {i : Nat} {kvs : List (Key × Val)} (h : st[i]? = some (.dct kvs)) (q : P i kvs) : ∃ n kvs, Val.ref i = .ref n ∧ st[n]? = some (.dct kvs) ∧ P n kvs := ⟨i, kvs, rfl, h, q⟩
theorem ex_key {P : Key → Prop} {s : Str} (q : P (.inr s)) : ∃ k, Ab.keyW (.str s) = some k ∧ P k := ⟨_, rfl, q⟩
theorem ex_seqL {i : Nat} {xs : List Val} {P : List Val × (Store → Prop) → Prop} (h : st[i]? = some (.lst xs)) (q : P (xs, fun st' => seqAt st' i = some xs)) : ∃ p, Ab.itemsOf st (.ref i) = some p ∧ P p := ⟨_, items_lst h, q⟩
theorem ex_seqT {xs : List Val} {P : List Val × (Store → Prop) → Prop} (q : P (xs, fun _ => True)) : ∃ p, Ab.itemsOf st (.tup xs) = some p ∧ P p := ⟨_, rfl, q⟩
theorem ex_enumT {xs : List Val} {P : List Val → (Store → Prop) → Prop} (q : P xs fun _ => True) : ∃ xs' okp, Ab.itemsOf st (.tup xs) = some (xs', okp) ∧ P xs' okp := ⟨_, _, rfl, q⟩
theorem ex_zipT {xs ys : List Val} {P : List Val → (Store → Prop) → List Val → (Store → Prop) → Prop} (q : P xs (fun _ => True) ys fun _ => True) : ∃ xs' okp ys' okq, Ab.itemsOf st (.tup xs) = some (xs', okp) ∧ Ab.itemsOf st (.tup ys) = some (ys', okq) ∧ P xs' okp ys' okq := ⟨_, _, _, _, rfl, rfl, q⟩
theorem ex_isiL {i : Nat} {xs : List Val} {P : Ab.Kd → Prop} (h : st[i]? = some (.lst xs)) (q : P (.t .list)) : ∃ k, Ab.kindW st (.ref i) = some k ∧ P k := ⟨_, by unfold Ab.kindW; dsimp only; rw [h], q⟩
theorem ex_starT {xs : List Val} {P : List Val → Prop} (q : P xs) : ∃ xs', Ab.itemsW st (.tup xs) = some xs' ∧ P xs' := ⟨_, rfl, q⟩
theorem ex_starL {i : Nat} {xs : List Val} {P : List Val → Prop} (h : st[i]? = some (.lst xs)) (q : P xs) : ∃ xs', Ab.itemsW st (.ref i) = some xs' ∧ P xs' := ⟨_, Ab.seqAt_lst h, q⟩
theorem ex_range1 {j : Int} {P : Int → Prop} (h : -(2 ^ 62) ≤ j ∧ j < 2 ^ 62) (q : P j) : ∃ j' : Int, [Val.int j] = [.int j'] ∧ (-(2 ^ 62) ≤ j' ∧ j' < 2 ^ 62) ∧ P j' := ⟨j, rfl, h, q⟩
theorem v_inO {C n : Nat} {mf : MF} {x : Val} {fs : List (Nat × Val)} (h : st[n]? = some (.ins C fs)) (q : WpR (mf [.ref n, x] st) (fun v s => ∃ c : Bool, v = .bl c ∧ Q (.bl c) s) fun _ _ => False) : WpR (Ab.vInO C mf x (.ref n) st) Q X := v_tru (is_ins h) q
theorem v_ninO {C n : Nat} {mf : MF} {x : Val} {fs : List (Nat × Val)} (h : st[n]? = some (.ins C fs)) (q : WpR (mf [.ref n, x] st) (fun v s => ∃ c : Bool, v = .bl c ∧ Q (.bl (!c)) s) fun _ _ => False) : WpR (Ab.vNinO C mf x (.ref n) st) Q X := v_tru (is_ins h) q
theorem v_eqO {C n m : Nat} {mf : MF} {fs gs : List (Nat × Val)} (h : st[n]? = some (.ins C fs)) (h' : st[m]? = some (.ins C gs)) (q : WpR (mf [.ref n, .ref m] st) (fun v s => ∃ c : Bool, v = .bl c ∧ Q (.bl c) s) fun _ _ => False) : WpR (Ab.vEqO C mf (.ref n) (.ref m) st) Q X := by
  unfold Ab.vEqO
  rw [if_pos (is_ins h')]
  exact v_tru (is_ins h) q
theorem v_neO {C n m : Nat} {mf : MF} {fs gs : List (Nat × Val)} (h : st[n]? = some (.ins C fs)) (h' : st[m]? = some (.ins C gs)) (q : WpR (mf [.ref n, .ref m] st) (fun v s => ∃ c : Bool, v = .bl c ∧ Q (.bl (!c)) s) fun _ _ => False) : WpR (Ab.vNeO C mf (.ref n) (.ref m) st) Q X := by
  unfold Ab.vNeO
  rw [if_pos (is_ins h')]
  exact v_tru (is_ins h) q
theorem v_sumT {ns : List Int} (q : Q (.int ns.sum) st) : WpR (Ab.bSumT [.tup (ns.map .int)] st) Q X := by
  simp only [uR] at *
  dsimp only [Ab.bSumT]; rw [Ab.asInts_map]; exact q
theorem ex_isiO {n C : Nat} {fs : List (Nat × Val)} {tbl : List (Nat × Bool)} {b : Bool} {P : Bool → Prop} (h : st[n]? = some (.ins C fs)) (hb : tbl.lookup C = some b) (q : P b) : ∃ b, Ab.isiW tbl st (.ref n) = some b ∧ P b :=
  ⟨b, by unfold Ab.isiW Ab.clsAt; dsimp only; rw [h]; exact hb, q⟩
theorem ex_isiT {xs : List Val} {tbl : List (Nat × Bool)} {P : Bool → Prop} (q : P false) : ∃ b, Ab.isiW tbl st (.tup xs) = some b ∧ P b := ⟨false, rfl, q⟩
theorem two_ins {n m C : Nat} {fs gs : List (Nat × Val)} (h : st[n]? = some (.ins C fs)) (h' : st[m]? = some (.ins C gs)) (q : P) : Ab.isIns C st (.ref n) = true ∧ Ab.isIns C st (.ref m) = true ∧ P := ⟨is_ins h, is_ins h', q⟩
theorem one_ins {n C : Nat} {fs : List (Nat × Val)} (h : st[n]? = some (.ins C fs)) (q : P) : Ab.isIns C st (.ref n) = true ∧ P := ⟨is_ins h, q⟩
theorem ex_int {P : Int → Prop} {i : Int} (h : 0 ≤ i ∧ i < 1000000) (q : P i) : ∃ j, Val.int i = .int j ∧ 0 ≤ j ∧ j < 1000000 ∧ P j := ⟨i, rfl, h.1, h.2, q⟩
theorem v_repT {xs : List Val} {k : Int} (h : xs ≠ [] ∧ 1 ≤ k ∧ k ≤ 1000 ∧ xs.length ≤ 1000) (q : Q (.tup (Ab.repW' k.toNat xs)) st) : WpR (Ab.vRepT (.tup xs) (.int k) st) Q X := by
  simp only [uR, uO, uG] at *
  dsimp only [Ab.vRepT]; rw [if_pos h]; exact q
theorem v_repL {i : Nat} {xs : List Val} {k : Int} (hx : st[i]? = some (.lst xs)) (h : -1000 ≤ k ∧ k ≤ 1000 ∧ xs.length ≤ 1000) (q : New (.lst (Ab.repW' k.toNat xs)) st fun n s => Q (.ref n) s) : WpR (Ab.vRepL (.ref i) (.int k) st) Q X := by
  simp only [uR, uO, uG] at *
  dsimp only [Ab.vRepL]; rw [hx]; dsimp only; rw [if_pos h]; exact q.at
theorem nf0 {a x : Option Val} {l : Slots} {n : Slots → Prop} (q : n (x :: l)) : NF (a :: l) 0 x n := q
theorem nf1 {a x : Option Val} {l : Slots} {i : Nat} {n : Slots → Prop} (q : NF l i x fun l => n (a :: l)) : NF (a :: l) (i + 1) x n := q
theorem nf4 {a b c d x : Option Val} {l : Slots} {i : Nat} {n : Slots → Prop} (q : NF l i x fun l => n (a :: b :: c :: d :: l)) : NF (a :: b :: c :: d :: l) (i + 4) x n := q
theorem isb_t {b : Bool} {P : Bool → Prop} (h : b = true) (q : P true) : TruB b P := by subst h; exact q
theorem isb_f {b : Bool} {P : Bool → Prop} (h : b = false) (q : P false) : TruB b P := by subst h; exact q
theorem ex_isi {w : Val} {k : Ab.Kd} {P : Ab.Kd → Prop} (h : Ab.kindW st w = some k) (q : P k) : ∃ k, Ab.kindW st w = some k ∧ P k := ⟨k, h, q⟩
theorem and_wp {s : Store} {r : R α} (q : WpR r QA X) : s = s ∧ WpR r QA X := ⟨rfl, q⟩
theorem v_pow6 (q : Q (.int 1000000) st) : WpR (Ab.vPow (.int 10) (.int 6) st) Q X := v_pow (by decide) rfl q
theorem v_pow9 (q : Q (.int 1000000000) st) : WpR (Ab.vPow (.int 10) (.int 9) st) Q X := v_pow (by decide) rfl q
theorem v_pow18 (q : Q (.int 1000000000000000000) st) : WpR (Ab.vPow (.int 10) (.int 18) st) Q X := v_pow (by decide) rfl q
theorem new_by {d : Cell} {P : Nat → Store → Prop} (q : ∀ (n : Nat) (s : Store), s[n]? = some d → Keep [] st s → st.length ≤ n → P n s) : New d st P := q
theorem wr_by {n : Nat} {d : Cell} {P : Store → Prop} (q : ∀ s : Store, s[n]? = some d → Keep [n] st s → P s) : Wr n d st P := q
theorem ne_new {i n : Nat} {c : Cell} (hn : st.length ≤ n) (h : st[i]? = some c) : n ≠ i := fun e => by
  have := lt_of h
  omega
theorem ne_new' {i n : Nat} {c : Cell} (hn : st.length ≤ n) (h : st[i]? = some c) : i ≠ n := (ne_new hn h).symm
theorem nin_cons {i a : Nat} {S : List Nat} (h : i ≠ a) (t : i ∉ S) : i ∉ a :: S := fun z => (List.mem_cons.mp z).elim h t
theorem hs_nil {S : List Nat} {m : Nat} : ∀ i ∈ ([] : List Nat), i ∈ S ∨ m ≤ i := fun _ z => by cases z
theorem hs_cons {S S' : List Nat} {m n : Nat} (h : n ∈ S ∨ m ≤ n) (t : ∀ i ∈ S', i ∈ S ∨ m ≤ i) : ∀ i ∈ n :: S', i ∈ S ∨ m ≤ i := fun i z => (List.mem_cons.mp z).elim (fun e => by subst e; exact h) (t i)
theorem k_len {S : List Nat} {a b c : Store} (h : Keep S b c) (h0 : a.length ≤ b.length) : a.length ≤ c.length := Nat.le_trans h0 h.1
theorem chk_lst {kvs : List (Key × Val)} {n : Nat} (h : st[n]? = some (.dct [])) (hl : Nat.ble kvs.length 15 = true) (q : P) : st[n]? = some (.dct []) ∧ kvs.length ≤ 15 ∧ P := ⟨h, Nat.le_of_ble_eq_true hl, q⟩
/-- what is told of a run is used -/
theorem via {r : R α} {Q' : α → Store → Prop} (h : WpR r Q' X') (q : ∀ a s, Q' a s → QA a s) (x : ∀ e s, X' e s → X e s) : WpR r QA X := by
  simp only [uR, uO, uG] at *
  exact Ab.WpR.mono h q x
theorem via0 {r : R α} {Q' : α → Store → Prop} (h : WpR r Q' fun _ _ => False) (q : ∀ a s, Q' a s → QA a s) : WpR r QA X := by
  simp only [uR, uO, uG] at *
  exact Ab.WpR.mono h q fun _ _ h => h.elim
end
end Vc

set_option Elab.async false
set_option linter.all false
set_option maxRecDepth 100000
set_option maxHeartbeats 1000000
/-! Ab: plain facts for the plain laws: lists told by data. -/
namespace Vc
open PySem PySem.Spec PyProof.Rows L2
open Ab (Val Cell Store Slots R O ME MT MA MS MF MG MGs MI MO Chk Wish Exc seqAt Keep vIx vFld vAdd New Wr)
section
variable {α β : Type} {Q : Val → Store → Prop} {X : Exc → Store → Prop} {st : Store}
theorem enum_map (f : α → Val) : ∀ (xs : List α) (k : Nat), Ab.enumFrom k (xs.map f) = (xs.zipIdx k).map fun p => .tup [.int p.2, f p.1]
  | [], _ => rfl
  | x :: xs, k => by rw [List.map_cons, Ab.enumFrom, List.zipIdx_cons, List.map_cons, enum_map f xs (k + 1)]
theorem zip_map (f : α → Val) (g : β → Val) : ∀ (xs : List α) (ys : List β), Ab.zipW (xs.map f) (ys.map g) = (xs.zip ys).map fun p => .tup [f p.1, g p.2]
  | [], _ => by simp [Ab.zipW]
  | _ :: _, [] => by simp [Ab.zipW]
  | x :: xs, y :: ys => by rw [List.map_cons, List.map_cons, Ab.zipW, List.zip_cons_cons, List.map_cons, zip_map f g xs ys]
theorem idx_split {xs : List α} {d rest : List (α × Nat)} {p : α × Nat} (h : xs.zipIdx = d ++ p :: rest) : xs[d.length]? = some p.1 ∧ p.2 = d.length ∧ d.map (·.1) = xs.take d.length ∧ d.length < xs.length := by
  have h0 : xs.zipIdx[d.length]? = some p := by rw [h]; simp
  rw [List.getElem?_zipIdx] at h0
  have hl : d.length < xs.length := by
    have := congrArg List.length h
    simp at this
    omega
  have h1 : d.map (·.1) = xs.take d.length := by
    have := congrArg (fun z => (z.map (·.1)).take d.length) h
    simp only [List.zipIdx_map_fst] at this
    rw [this]
    simp
  cases e : xs[d.length]? with
  | none => rw [e] at h0; cases h0
  | some x =>
    rw [e] at h0
    have := Option.some.inj h0
    subst this
    exact ⟨rfl, by simp, h1, hl⟩
theorem zip_split {xs : List α} {ys : List β} {d rest : List (α × β)} {p : α × β} (h : xs.zip ys = d ++ p :: rest) : xs[d.length]? = some p.1 ∧ ys[d.length]? = some p.2 := by
  have h0 : (xs.zip ys)[d.length]? = some p := by rw [h]; simp
  rw [List.getElem?_zip_eq_some] at h0
  exact h0
theorem range_split {n : Nat} {d rest : List Nat} {x : Nat} (h : List.range n = d ++ x :: rest) : x = d.length ∧ d = List.range d.length ∧ x < n := by
  have hl := congrArg List.length h
  simp at hl
  have h0 : (List.range n)[d.length]? = some x := by rw [h]; simp
  rw [List.getElem?_range (by omega)] at h0
  have h1 : d = (List.range n).take d.length := by rw [h]; simp
  have hx : x = d.length := (Option.some.inj h0).symm
  refine ⟨hx, ?_, by omega⟩
  rw [h1]
  simp [List.take_range]
theorem cut_take (xs : List α) (i : Nat) : Ab.cut xs none (some (i : Int)) = xs.take i := by
  unfold Ab.cut
  rw [HT.sIx_none, HT.sIx_nat, List.drop_zero, Nat.sub_zero]
  by_cases h : i ≤ xs.length
  · rw [Nat.min_eq_left h]
  · rw [Nat.min_eq_right (by omega), List.take_of_length_le (Nat.le_refl _), List.take_of_length_le (by omega)]
theorem cut_drop (xs : List α) (i : Nat) : Ab.cut xs (some (i : Int)) none = xs.drop i := by
  unfold Ab.cut
  rw [HT.sIx_none, HT.sIx_nat]
  by_cases h : i ≤ xs.length
  · rw [Nat.min_eq_left h, List.take_of_length_le (by rw [List.length_drop]; omega)]
  · rw [Nat.min_eq_right (by omega), List.drop_of_length_le (Nat.le_refl _), List.drop_of_length_le (by omega)]; simp
theorem v_allL {i : Nat} {bs : List Bool} (h : st[i]? = some (.lst (bs.map .bl))) (q : Q (.bl (bs.all id)) st) : WpR (Ab.bAll [.ref i] st) Q X := by
  simp only [uR, uO, uG] at *
  dsimp only [Ab.bAll, Ab.ofBools]; rw [Ab.seqAt_lst h]; dsimp only; rw [Ab.asBools_map]; exact q
theorem inW_str (a : Str) (xs : List Str) : Ab.inW (.str a) (xs.map .str) = decide (a ∈ xs) := by
  unfold Ab.inW
  induction xs with
  | nil => simp
  | cons x xs ih =>
    rw [List.map_cons, List.any_cons, ih]
    simp only [Ab.eqW, List.mem_cons, Bool.decide_or]
    congr 1
    by_cases h : x = a
    · subst h; simp
    · rw [beq_eq_false_iff_ne.mpr h, decide_eq_false fun e => h e.symm]
theorem flat_str (xs : List Str) : (xs.map Val.str).all Ab.flatW = true := by
  rw [List.all_map]; exact List.all_eq_true.mpr fun _ _ => rfl
theorem place_str (a : Str) (xs : List Str) : Ab.placeW (.str a) (xs.map .str) = if a ∈ xs then some (xs.idxOf a) else none := by
  induction xs with
  | nil => simp [Ab.placeW]
  | cons x xs ih =>
    rw [List.map_cons, Ab.placeW, ih]
    by_cases h : x = a
    · subst h; simp [Ab.eqW]
    · have e : Ab.eqW (.str x) (.str a) = false := beq_eq_false_iff_ne.mpr h
      rw [if_neg (by rw [e]; exact Bool.false_ne_true), List.idxOf_cons, beq_eq_false_iff_ne.mpr h, cond_false]
      have m : a ∈ x :: xs ↔ a ∈ xs := ⟨fun z => (List.mem_cons.mp z).elim (fun e => absurd e.symm h) id, fun z => List.mem_cons_of_mem _ z⟩
      by_cases hm : a ∈ xs
      · rw [if_pos hm, if_pos (m.mpr hm)]; rfl
      · rw [if_neg hm, if_neg fun z => hm (m.mp z)]; rfl
theorem v_idxL {i : Nat} {a : Str} {xs : List Str} (h : st[i]? = some (.lst (xs.map .str))) (ha : a ∈ xs) (q : Q (.int (xs.idxOf a : Nat)) st) : WpR (Ab.vIndex (.ref i) [.str a] st) Q X := by
  simp only [uR, uO, uG] at *
  dsimp only [Ab.vIndex]; rw [Ab.seqAt_lst h]; dsimp only
  rw [flat_str, if_pos (by rfl), place_str, if_pos ha]; exact q
theorem v_inLs {a : Str} {i : Nat} {ys : List Str} (h : st[i]? = some (.lst (ys.map .str))) (q : Q (.bl (decide (a ∈ ys))) st) : WpR (Ab.vIn (.str a) (.ref i) st) Q X := v_inL rfl h (flat_str ys) (by rw [inW_str]; exact q)
theorem v_inTs {a : Str} {ys : List Str} (q : Q (.bl (decide (a ∈ ys))) st) : WpR (Ab.vIn (.str a) (.tup (ys.map .str)) st) Q X := v_inT rfl (flat_str ys) (by rw [inW_str]; exact q)
theorem v_ixTn {xs : List α} {f : α → Val} {i : Nat} {x : α} (h : xs[i]? = some x) (q : Q (f x) st) : WpR (vIx (.tup (xs.map f)) (.int i) st) Q X := v_ixT (atI_nat (by rw [List.getElem?_map, h]; rfl)) q
theorem v_ixLn {n : Nat} {xs : List α} {f : α → Val} {i : Nat} {x : α} (hs : st[n]? = some (.lst (xs.map f))) (h : xs[i]? = some x) (q : Q (f x) st) : WpR (vIx (.ref n) (.int i) st) Q X := v_ixL hs (atI_nat (by rw [List.getElem?_map, h]; rfl)) q
/-- from and to the plain wish -/
theorem of_ab {r : R α} {QA : α → Store → Prop} (h : Ab.WpR r QA X) : WpR r QA X := by rw [uR]; exact h
theorem to_ab {r : R α} {QA : α → Store → Prop} (h : WpR r QA X) : Ab.WpR r QA X := by rwa [uR] at h
/-! equality of nested data -/
theorem deep_map {f : α → Val} {g : α → PyData} {n : Nat} : ∀ {xs : List α}, (∀ x ∈ xs, Ab.deep st n (f x) = some (g x)) → Ab.mapO (Ab.deep st n) (xs.map f) = some (xs.map g)
  | [], _ => rfl
  | x :: xs, h => by
    rw [List.map_cons, Ab.mapO, h x (by simp), deep_map (xs := xs) fun y hy => h y (by simp [hy])]; rfl
theorem deep_tup {f : α → Val} {g : α → PyData} {n : Nat} {xs : List α} (h : ∀ x ∈ xs, Ab.deep st n (f x) = some (g x)) : Ab.deep st (n + 1) (.tup (xs.map f)) = some (.tuple (xs.map g)) := by
  rw [Ab.deep, deep_map h]; rfl
theorem deep_ints {n : Nat} {xs : List Int} : Ab.deep st (n + 2) (.tup (xs.map .int)) = some (.tuple (xs.map .int)) := deep_tup fun x _ => by rw [Ab.deep]
theorem eqv_ints : ∀ xs ys : List Int, PyData.eqvAll (xs.map .int) (ys.map .int) = decide (xs = ys)
  | [], [] => rfl
  | [], _ :: _ => rfl
  | _ :: _, [] => rfl
  | x :: xs, y :: ys => by
    rw [List.map_cons, List.map_cons, PyData.eqvAll, eqv_ints xs ys]
    simp only [PyData.eqv, List.cons.injEq, Bool.decide_and]
    congr 1
theorem v_eqTT {xs ys : List Val} {d e : PyData} (h1 : Ab.deep st 16 (.tup xs) = some d) (h2 : Ab.deep st 16 (.tup ys) = some e) (q : Q (.bl (PyData.eqv d e)) st) : WpR (Ab.vEq (.tup xs) (.tup ys) st) Q X := by
  simp only [uR, uO, uG] at *
  show Ab.WpR (match Ab.deep st 16 (.tup xs), Ab.deep st 16 (.tup ys) with | some d, some e => .ok (.bl (PyData.eqv d e)) st | _, _ => .bad) Q X
  rw [h1, h2]; exact q
theorem v_neTT {xs ys : List Val} {d e : PyData} (h1 : Ab.deep st 16 (.tup xs) = some d) (h2 : Ab.deep st 16 (.tup ys) = some e) (q : Q (.bl (!PyData.eqv d e)) st) : WpR (Ab.vNe (.tup xs) (.tup ys) st) Q X := by
  simp only [uR, uO, uG] at *
  show Ab.WpR (match Ab.deep st 16 (.tup xs), Ab.deep st 16 (.tup ys) with | some d, some e => .ok (.bl (!PyData.eqv d e)) st | _, _ => .bad) Q X
  rw [h1, h2]; exact q
theorem v_neTI {xs ys : List Int} (q : Q (.bl (!decide (xs = ys))) st) : WpR (Ab.vNe (.tup (xs.map .int)) (.tup (ys.map .int)) st) Q X := v_neTT deep_ints deep_ints (by
  show Q (.bl (!PyData.eqvAll _ _)) st
  rw [eqv_ints]; exact q)
theorem v_eqNN (q : Q (.bl true) st) : WpR (Ab.vEq .non .non st) Q X := by
  simp only [uR] at *
  show Ab.WpR (match Ab.deep st 16 .non, Ab.deep st 16 .non with | some d, some e => .ok (.bl (PyData.eqv d e)) st | _, _ => .bad) Q X
  rw [show Ab.deep st 16 .non = some .none from rfl]; exact q
/-- a tuple of data against () -/
theorem v_eqT0 {f : α → Val} {g : α → PyData} {xs : List α} (h : ∀ x ∈ xs, Ab.deep st 15 (f x) = some (g x)) (q : Q (.bl (decide (xs = []))) st) : WpR (Ab.vEq (.tup (xs.map f)) (.tup []) st) Q X := v_eqTT (deep_tup h) rfl (by
  show Q (.bl (PyData.eqvAll (xs.map g) [])) st
  cases xs with
  | nil => exact q
  | cons x xs =>
    rw [List.map_cons, PyData.eqvAll]
    rwa [decide_eq_false (by simp)] at q)
theorem v_eqTI0 {xs : List Int} (q : Q (.bl (decide (xs = []))) st) : WpR (Ab.vEq (.tup (xs.map .int)) (.tup []) st) Q X := v_eqT0 (g := .int) (fun x _ => by rw [Ab.deep]) q
end
section
variable {α : Type} {X : Exc → Store → Prop} {Q : Val → Store → Prop} {st : Store}
theorem lc_new {g : MG} {t : MT} {elt : ME} {okp : Store → Prop} {ρ : Slots} {items : List Val} (q : New (.lst []) st fun D s => WpR (Ab.lcM g t elt okp D ρ items s) Q X) : WpR (Ab.lcM g t elt okp st.length ρ items (st ++ [.lst []])) Q X := by
  simp only [uR, uO, uG] at *
  exact q.at
/-- a comprehension without a test that may write, by an invariant -/
theorem lcY_l {xs : List α} {F : α → Val} {g : MG} {elt : ME} {okp : Store → Prop} {D : Nat} {ρ : Slots} (Inv : List α → List Val → Store → Prop) (hok : ∀ d acc s, Inv d acc s → okp s)
    (step : ∀ d x rest acc s, xs = d ++ x :: rest → Inv d acc s → s[D]? = some (.lst acc) → WpG (g (F x) ρ s) (fun ρ1 s1 => WpR (elt ρ1 s1) (fun y s3 => s3[D]? = some (.lst acc) ∧ acc.length < 100000 ∧ Wr D (.lst (acc ++ [y])) s3 fun s4 => Inv (d ++ [x]) (acc ++ [y]) s4) fun _ _ => False))
    (fin : ∀ acc s, Inv xs acc s → s[D]? = some (.lst acc) → Q (.ref D) s) (h : Inv [] [] st) (hD : st[D]? = some (.lst [])) : WpR (Ab.lcM g Se.mYes elt okp D ρ (xs.map F) st) Q X := by
  simp only [uR, uO, uG] at *
  have key : ∀ (rest d : List α) (acc : List Val) (s : Store), xs = d ++ rest → Inv d acc s → s[D]? = some (.lst acc) → Ab.WpR (Ab.lcM g Se.mYes elt okp D ρ (rest.map F) s) Q X := by
    intro rest
    induction rest with
    | nil =>
      intro d acc s e hI hs
      rw [List.append_nil] at e; subst e
      unfold Ab.lcM
      rw [List.map_nil]; dsimp only
      rw [if_pos (hok _ _ _ hI)]
      exact fin acc s hI hs
    | cons x rest ih =>
      intro d acc s e hI hs
      rw [List.map_cons]
      unfold Ab.lcM
      rw [if_pos (hok _ _ _ hI)]
      have h1 := step d x rest acc s e hI hs
      cases hg : g (F x) ρ s with
      | none => rw [hg] at h1; exact h1.elim
      | some p =>
        obtain ⟨ρ1, s1⟩ := p
        rw [hg] at h1
        dsimp only [Ab.WpG] at h1 ⊢
        rw [show Se.mYes ρ1 s1 = .ok true s1 from rfl]
        dsimp only [R.noX, R.bind]
        rw [if_pos rfl]
        cases q : elt ρ1 s1 with
        | bad => rw [q] at h1; exact h1.elim
        | exc x s2 => rw [q] at h1; exact h1.elim
        | ok y s3 =>
          rw [q] at h1
          obtain ⟨h2, h3, h4⟩ := h1
          dsimp only [R.noX, R.bind]
          rw [h2]; dsimp only
          rw [if_pos (by rw [sizeLine_eq]; omega)]
          exact ih (d ++ [x]) _ _ (by rw [e]; simp) (h4.at h2) (by rw [List.getElem?_set_self (lt_of h2)])
  exact key xs [] [] st rfl h hD
/-- a comprehension whose test never holds -/
theorem lc_none {xs : List α} {F : α → Val} {g : MG} {t : MT} {elt : ME} {okp : Store → Prop} {D : Nat} {ρ : Slots} (hok : ∀ s, Keep [] st s → okp s)
    (step : ∀ x ∈ xs, ∀ s, Keep [] st s → WpG (g (F x) ρ s) (fun ρ1 s1 => WpR (t ρ1 s1) (fun b s2 => b = false ∧ Keep [] s s2) fun _ _ => False))
    (q : ∀ s, Keep [] st s → Q (.ref D) s) : WpR (Ab.lcM g t elt okp D ρ (xs.map F) st) Q X := by
  simp only [uR, uO, uG] at *
  have key : ∀ (rest : List α) (s : Store), (∀ x ∈ rest, x ∈ xs) → Keep [] st s → Ab.WpR (Ab.lcM g t elt okp D ρ (rest.map F) s) Q X := by
    intro rest
    induction rest with
    | nil =>
      intro s _ k
      unfold Ab.lcM
      rw [List.map_nil]; dsimp only
      rw [if_pos (hok _ k)]
      exact q s k
    | cons x rest ih =>
      intro s hm k
      rw [List.map_cons]
      unfold Ab.lcM
      rw [if_pos (hok _ k)]
      have h1 := step x (hm x (by simp)) s k
      cases hg : g (F x) ρ s with
      | none => rw [hg] at h1; exact h1.elim
      | some p =>
        obtain ⟨ρ1, s1⟩ := p
        rw [hg] at h1
        dsimp only [Ab.WpG] at h1 ⊢
        cases q : t ρ1 s1 with
        | bad => rw [q] at h1; exact h1.elim
        | exc x s2 => rw [q] at h1; exact h1.elim
        | ok y s3 =>
          rw [q] at h1
          obtain ⟨rfl, h2⟩ := h1
          dsimp only [R.noX, R.bind]
          rw [if_neg Bool.false_ne_true]
          exact ih s3 (fun y hy => hm y (by simp [hy])) (k.trans h2)
  exact key xs st (fun _ h => h) .refl
theorem v_eq00 {a b : Nat} (h1 : st[a]? = some (.lst [])) (h2 : st[b]? = some (.lst [])) (q : Q (.bl true) st) : WpR (Ab.vEq (.ref a) (.ref b) st) Q X := by
  simp only [uR, uO, uG] at *
  have d : ∀ {n : Nat}, st[n]? = some (.lst []) → Ab.deep st 16 (.ref n) = some (.list []) := fun h => by rw [Ab.deep, Ab.seqAt_lst h]; rfl
  show Ab.WpR (match Ab.deep st 16 (.ref a), Ab.deep st 16 (.ref b) with | some d, some e => .ok (.bl (PyData.eqv d e)) st | _, _ => .bad) Q X
  rw [d h1, d h2]; exact q
/-- two values alike, down to a depth -/
def Alike (st : Store) : Nat → Val → Val → Prop
  | 0, _, _ => False
  | n + 1, x, y => match x, y with
    | .non, .non => True
    | .bl a, .bl b => a = b
    | .int a, .int b => a = b
    | .str a, .str b => a = b
    | .tup xs, .tup ys => xs.length = ys.length ∧ xs.length ≤ 100000 ∧ ∀ (i : Nat) (x y : Val), xs[i]? = some x → ys[i]? = some y → Alike st n x y
    | .ref a, .ref b => ∃ xs ys, st[a]? = some (.lst xs) ∧ st[b]? = some (.lst ys) ∧ xs.length = ys.length ∧ xs.length ≤ 100000 ∧ ∀ (i : Nat) (x y : Val), xs[i]? = some x → ys[i]? = some y → Alike st n x y
    | _, _ => False
theorem Alike.keep {st s : Store} (k : Keep [] st s) : ∀ {n : Nat} {x y : Val}, Alike st n x y → Alike s n x y
  | 0, _, _, h => h.elim
  | n + 1, x, y, h => by
    unfold Alike at h ⊢
    split at h <;> first | exact h | skip
    · exact ⟨h.1, h.2.1, fun i x y hx hy => Alike.keep k (h.2.2 i x y hx hy)⟩
    · obtain ⟨xs, ys, h1, h2, h3, h4, h5⟩ := h
      exact ⟨xs, ys, k.get h1 (by simp), k.get h2 (by simp), h3, h4, fun i x y hx hy => Alike.keep k (h5 i x y hx hy)⟩
theorem put_new {kvs : List (Key × Val)} {k : Key} {w : Val} (h : ∀ p ∈ kvs, p.1 ≠ k) : Ab.putW kvs k w = kvs ++ [(k, w)] := by
  unfold Ab.putW
  rw [if_neg]
  rw [List.any_eq_true]
  rintro ⟨p, hp, e⟩
  exact h p hp (by simpa using e)
/-- a dict comprehension that only reads, of names that differ -/
theorem dc_pure {xs : List α} {F : α → Val} {g : MG} {mk mv : ME} {okp : Store → Prop} {ρ : Slots} (kf : α → Str) (vf : α → Val) (nd : (xs.map kf).Nodup) (hok : ∀ acc, okp (st ++ [.dct acc])) (hl : xs.length ≤ 900)
    (step : ∀ x ∈ xs, ∀ acc, WpG (g (F x) ρ (st ++ [.dct acc])) (fun ρ1 st1 => st1 = st ++ [.dct acc] ∧ WpR (mk ρ1 (st ++ [.dct acc])) (fun y s => y = .str (kf x) ∧ s = st ++ [.dct acc] ∧ WpR (mv ρ1 (st ++ [.dct acc])) (fun z s => z = vf x ∧ s = st ++ [.dct acc]) fun _ _ => False) fun _ _ => False))
    (q : New (.dct (xs.map fun x => (.inr (kf x), vf x))) st fun n s => Q (.ref n) s) : WpR (Ab.dcM g Se.mYes mk mv okp st.length ρ (xs.map F) (st ++ [.dct []])) Q X := by
  simp only [uR, uG] at *
  have key : ∀ (rest d : List α), xs = d ++ rest → Ab.dcM g Se.mYes mk mv okp st.length ρ (rest.map F) (st ++ [.dct (d.map fun x => (.inr (kf x), vf x))]) = .ok (.ref st.length) (st ++ [.dct (xs.map fun x => (.inr (kf x), vf x))]) := by
    intro rest
    induction rest with
    | nil =>
      intro d e
      rw [List.append_nil] at e; subst e
      unfold Ab.dcM
      rw [List.map_nil]; dsimp only
      rw [if_pos (hok _)]
    | cons x rest ih =>
      intro d e
      have e' : xs = (d ++ [x]) ++ rest := by rw [e]; simp
      have hlen : xs.length = d.length + (rest.length + 1) := by rw [e]; simp
      rw [List.map_cons]
      unfold Ab.dcM
      rw [if_pos (hok _)]
      have hs := step x (by rw [e]; simp) (d.map fun x => (.inr (kf x), vf x))
      cases hg : g (F x) ρ (st ++ [.dct (d.map fun x => (.inr (kf x), vf x))]) with
      | none => rw [hg] at hs; exact hs.elim
      | some pr =>
        obtain ⟨ρ1, st1⟩ := pr
        rw [hg] at hs
        obtain ⟨rfl, hs⟩ := hs
        dsimp only
        rw [show ∀ s, Se.mYes ρ1 s = .ok true s from fun _ => rfl]
        dsimp only [R.noX, R.bind]
        rw [if_pos rfl]
        cases hm : mk ρ1 (st ++ [.dct (d.map fun x => (.inr (kf x), vf x))]) with
        | bad => rw [hm] at hs; exact hs.elim
        | exc e s => rw [hm] at hs; exact hs.elim
        | ok y s =>
          rw [hm] at hs
          obtain ⟨rfl, rfl, hs⟩ := hs
          dsimp only [R.noX, R.bind]
          cases hv : mv ρ1 (st ++ [.dct (d.map fun x => (.inr (kf x), vf x))]) with
          | bad => rw [hv] at hs; exact hs.elim
          | exc e s => rw [hv] at hs; exact hs.elim
          | ok z s =>
            rw [hv] at hs
            obtain ⟨rfl, rfl⟩ := hs
            dsimp only [R.noX, R.bind]
            rw [get_last]
            dsimp only [Ab.keyW]
            rw [if_pos (by rw [List.length_map]; omega)]
            rw [put_new (fun p hp => by
              obtain ⟨y, hy, rfl⟩ := List.mem_map.mp hp
              intro e2
              have e3 : kf y = kf x := Sum.inr.inj e2
              rw [e, List.map_append, List.map_cons] at nd
              exact (List.nodup_append.mp nd).2.2 _ (List.mem_map_of_mem hy) _ (by simp) e3)]
            rw [show (st ++ [Cell.dct (d.map fun x => (.inr (kf x), vf x))]).set st.length (.dct ((d.map fun x => (.inr (kf x), vf x)) ++ [(.inr (kf x), vf x)])) = st ++ [Cell.dct ((d ++ [x]).map fun x => (.inr (kf x), vf x))] by simp]
            exact ih _ e'
  have k0 := key xs [] rfl
  rw [List.map_nil] at k0
  rw [k0]
  exact q.at
theorem alike_flat {n : Nat} {x : Val} (h : Ab.flatW x = true) : Alike st (n + 1) x x := by
  unfold Alike
  cases x <;> first | trivial | rfl | (simp [Ab.flatW] at h)
theorem alike_tup {n : Nat} {xs : List Val} (hl : xs.length ≤ 100000) (h : ∀ x ∈ xs, Alike st n x x) : Alike st (n + 1) (.tup xs) (.tup xs) :=
  ⟨rfl, hl, fun i x y hx hy => by rw [hx] at hy; cases hy; exact h x (List.mem_of_getElem? hx)⟩
theorem alike_flats {n : Nat} {xs : List Val} (hl : xs.length ≤ 100000) (h : xs.all Ab.flatW = true) : Alike st (n + 2) (.tup xs) (.tup xs) := alike_tup hl fun x hx => alike_flat (List.all_eq_true.mp h x hx)
theorem alike_lst {n a b : Nat} {xs : List Val} (h1 : st[a]? = some (.lst xs)) (h2 : st[b]? = some (.lst xs)) (hl : xs.length ≤ 100000) (h : ∀ x ∈ xs, Alike st n x x) : Alike st (n + 1) (.ref a) (.ref b) :=
  ⟨xs, xs, h1, h2, rfl, hl, fun i x y hx hy => by rw [hx] at hy; cases hy; exact h x (List.mem_of_getElem? hx)⟩
/-- sets of cells that have none in common -/
def Dis (xs ys : List Nat) : Prop := ∀ x ∈ xs, x ∉ ys
theorem Dis.symm {xs ys : List Nat} (h : Dis xs ys) : Dis ys xs := fun y hy hx => h y hx hy
theorem Dis.sub {xs ys ys' : List Nat} (h : Dis xs ys) (hy : ∀ y ∈ ys', y ∈ ys) : Dis xs ys' := fun x hx hy' => h x hx (hy x hy')
end
section
variable {X : Exc → Store → Prop} {n : Slots → Store → Prop} {r : Val → Store → Prop} {k l : Slots → Store → Prop}
/-- a while by a number that becomes less -/
theorem b_while {t : MT} {body : MS} (Inv : Nat → Slots → Store → Prop)
    (step : ∀ m ρ st, Inv m ρ st → WpR (t ρ st) (fun b st1 => if b = true then WpO (body ρ st1) ⟨fun ρ' s' => ∃ j, j < m ∧ Inv j ρ' s', r, n, fun ρ' s' => ∃ j, j < m ∧ Inv j ρ' s', X⟩ else n ρ st1) X)
    {m : Nat} {ρ : Slots} {st : Store} (h : Inv m ρ st) : WpO (Se.sWhile t body ρ st) ⟨n, r, k, l, X⟩ := by
  simp only [uR, uO] at *
  have key : ∀ (m : Nat) (ρ : Slots) (st : Store), Inv m ρ st → ∃ o i, Ab.whileN t body i ρ st = some o ∧ Ab.WpO o ⟨n, r, k, l, X⟩ := by
    intro m
    induction m using Nat.strongRecOn with
    | _ m ih =>
      intro ρ st hI
      have hs := step m ρ st hI
      cases ht : t ρ st with
      | bad => rw [ht] at hs; exact hs.elim
      | exc x s => rw [ht] at hs; exact ⟨.exc x ρ s, 1, by unfold Ab.whileN; rw [ht], hs⟩
      | ok b s =>
        rw [ht] at hs
        cases b with
        | false =>
          dsimp only [Ab.WpR] at hs
          rw [if_neg Bool.false_ne_true] at hs
          exact ⟨.nx ρ s, 1, by unfold Ab.whileN; rw [ht], hs⟩
        | true =>
          dsimp only [Ab.WpR] at hs
          rw [if_pos rfl] at hs
          cases hb : body ρ s with
          | bad => rw [hb] at hs; exact hs.elim
          | exc x ρ2 s2 => rw [hb] at hs; exact ⟨_, 1, by unfold Ab.whileN; rw [ht]; dsimp only; rw [hb], hs⟩
          | ret v s2 => rw [hb] at hs; exact ⟨_, 1, by unfold Ab.whileN; rw [ht]; dsimp only; rw [hb], hs⟩
          | brk ρ2 s2 => rw [hb] at hs; exact ⟨_, 1, by unfold Ab.whileN; rw [ht]; dsimp only; rw [hb], hs⟩
          | nx ρ2 s2 =>
            rw [hb] at hs
            obtain ⟨j, hj, hI2⟩ := hs
            obtain ⟨o, i, h1, h2⟩ := ih j hj ρ2 s2 hI2
            exact ⟨o, i + 1, by unfold Ab.whileN; rw [ht]; dsimp only; rw [hb]; exact h1, h2⟩
          | ct ρ2 s2 =>
            rw [hb] at hs
            obtain ⟨j, hj, hI2⟩ := hs
            obtain ⟨o, i, h1, h2⟩ := ih j hj ρ2 s2 hI2
            exact ⟨o, i + 1, by unfold Ab.whileN; rw [ht]; dsimp only; rw [hb]; exact h1, h2⟩
  obtain ⟨o, i, h1, h2⟩ := key m ρ st h
  rw [show Se.sWhile t body ρ st = o from Ab.sWhile_eq h1]
  exact h2
end
section
variable {α : Type} {X : Exc → Store → Prop} {Q : Val → Store → Prop} {st : Store}
theorem deep_lst {f : α → Val} {g : α → PyData} {n a : Nat} {xs : List α} (hs : st[a]? = some (.lst (xs.map f))) (h : ∀ x ∈ xs, Ab.deep st n (f x) = some (g x)) : Ab.deep st (n + 1) (.ref a) = some (.list (xs.map g)) := by
  rw [Ab.deep, Ab.seqAt_lst hs]; dsimp only; rw [deep_map h]; rfl
theorem v_eqLL {a b : Nat} {d e : PyData} (h1 : Ab.deep st 16 (.ref a) = some d) (h2 : Ab.deep st 16 (.ref b) = some e) (q : Q (.bl (PyData.eqv d e)) st) : WpR (Ab.vEq (.ref a) (.ref b) st) Q X := by
  simp only [uR] at *
  show Ab.WpR (match Ab.deep st 16 (.ref a), Ab.deep st 16 (.ref b) with | some d, some e => .ok (.bl (PyData.eqv d e)) st | _, _ => .bad) Q X
  rw [h1, h2]; exact q
theorem v_cutL {n : Nat} {xs : List Val} {lo hi : Option Int} (h : st[n]? = some (.lst xs)) (q : New (.lst (Ab.cut xs lo hi)) st fun m s => Q (.ref m) s) : WpR (Ab.vCut (.ref n) lo hi st) Q X := by
  simp only [uR] at *
  dsimp only [Ab.vCut]; rw [Ab.seqAt_lst h]; exact q.at
theorem v_neLL {a b : Nat} {d e : PyData} (h1 : Ab.deep st 16 (.ref a) = some d) (h2 : Ab.deep st 16 (.ref b) = some e) (q : Q (.bl (!PyData.eqv d e)) st) : WpR (Ab.vNe (.ref a) (.ref b) st) Q X := by
  simp only [uR] at *
  show Ab.WpR (match Ab.deep st 16 (.ref a), Ab.deep st 16 (.ref b) with | some d, some e => .ok (.bl (!PyData.eqv d e)) st | _, _ => .bad) Q X
  rw [h1, h2]; exact q
end
end Vc

set_option Elab.async false
set_option linter.all false
set_option maxRecDepth 100000
set_option maxHeartbeats 1000000
/-! Ab: C.m(..) of a classmethod; cls(..) of a local that holds a class; lambdas in further defs. -/
namespace Ab
open PySem PySem.Spec PyProof.Rows L2
@[reducible] def R.noE {α : Type} (r : R α) : R α := match r with
  | .exc _ _ => .bad
  | r => r
@[reducible] def mCm (C : Nat) (mf : MF) (t : MA) : ME := fun ρ st => (t ρ st).bind fun ws st1 => (mf (.gl C :: ws) st1).noE
@[reducible] def mMakeV (C : Nat) (mf : MF) (i : Nat) (t : MA) : ME := fun ρ st => match ρ[i]? with
  | some (some (.gl C')) => if C' = C then mApp (vMake C mf) t ρ st else .bad
  | _ => .bad
section
variable {X : Cx} {k i C : Nat} {x m : Str} {e : Expr} {es : List Expr} {t : MA} {p pos apos : Pos} {mf : MF}
end
end Ab
namespace Ab
open PySem PySem.Spec PyProof.Rows L2
end Ab

set_option Elab.async false
set_option linter.all false
set_option maxRecDepth 100000
/-! Ab: rules of the second part (classmethods, cls(..)). -/
namespace Se
noncomputable def mCm := @Ab.mCm
noncomputable def mMakeV := @Ab.mMakeV
end Se
namespace Vc
open PySem PySem.Spec Ab
section
variable {st : Store} {ρ : Slots} {ta : MA} {Q : Val → Store → Prop} {X : Exc → Store → Prop}
theorem b_cm {C : Nat} {mf : MF} (q : WpR (ta ρ st) (fun ws st1 => WpR (mf (.gl C :: ws) st1) Q (fun _ _ => False)) X) : WpR (Se.mCm C mf ta ρ st) Q X := by
  simp only [uR, uO, uG] at *
  show Ab.WpR (Ab.mCm C mf ta ρ st) Q X
  unfold Ab.mCm; rw [Ab.wp_bind]
  refine Ab.WpR.mono q (fun y s h => ?_) fun _ _ h => h
  cases e : mf (.gl C :: y) s with
  | ok v s' => rw [e] at h; exact h
  | exc x s' => rw [e] at h; exact h.elim
  | bad => rw [e] at h; exact h.elim
theorem b_makeV {C i : Nat} {mf : MF} (h : ρ[i]? = some (some (.gl C))) (q : WpR (Se.mApp (Se.vMake C mf) ta ρ st) Q X) : WpR (Se.mMakeV C mf i ta ρ st) Q X := by
  simp only [uR, uO, uG] at *
  show Ab.WpR (Ab.mMakeV C mf i ta ρ st) Q X
  unfold Ab.mMakeV
  rw [h]
  dsimp only
  rw [if_pos rfl]
  exact q
end
end Vc

set_option Elab.async false
set_option linter.all false
set_option maxRecDepth 100000
set_option maxHeartbeats 2000000
/-! Ab: super().__init__(..) as the first statement of an __init__. -/
namespace Ab
open PySem PySem.Spec PyProof.Rows L2
/-- super().__init__(..): C the class of the object, mf the __init__ above it -/
@[reducible] def mSup (C : Nat) (mf : MF) (t : MA) : ME := fun ρ st => match ρ[0]? with
  | some (some x) => if isIns C st x = true then (t ρ st).bind fun ws st1 => mf (x :: ws) st1 else .bad
  | _ => .bad
section
variable {T : Wh} {x qual : Str} {st : Stmt} {f c cc D f2 : Addr} {N ps : List Str}
end
end Ab

set_option Elab.async false
set_option linter.all false
set_option maxRecDepth 100000
set_option maxHeartbeats 2000000
namespace PySem
open PySem.W PySem.Calls PyProof.Rows
section
variable {prog : Program} {w : World} {A : Around} {E : Value → Shared → Prop} {s : Shared} {K : W.Frag} {C : Addr} {name : Str}
end
end PySem
namespace PySem
open PySem.W PySem.Calls PyProof.Rows
section
variable {prog : Program} {w : World} {A : Around} {E : Value → Shared → Prop} {s : Shared} {K : W.Frag} {C : Addr} {name : Str}
end
end PySem
namespace PySem
open PySem.W PySem.Calls PyProof.Rows
section
variable {prog : Program} {w : World} {A : Around} {E : Value → Shared → Prop} {s : Shared} {K : W.Frag} {x y C C2 f f2 : Addr} {ox oy : Obj} {od od2 : Option Obj}
end
end PySem

set_option Elab.async false
set_option linter.all false
set_option maxRecDepth 100000
set_option maxHeartbeats 2000000
/-! Ab: classes above each other: C() without an own __init__, constants of the class through an instance, own + between classes. -/
namespace Ab
open PySem PySem.Spec PyProof.Rows L2
@[reducible] def mMake0 (C : Nat) : ME := fun _ st => .ok (.ref st.length) (st ++ [.ins C []])
section
variable {X : Cx} {k : Nat} {a b e : Expr} {ma mb m : ME} {p pos : Pos} {mf : MF} {C : Nat} {op : Operator} {x f : Str}
@[reducible] def mCon (tbl : List (Nat × Str)) (m : ME) : ME := fun ρ st => (m ρ st).bind fun x st1 => match clsAt st1 x with
  | some C => match tbl.lookup C with
    | some v => .ok (.str v) st1
    | none => .bad
  | none => .bad
@[reducible] def mOpG (L : List Nat) (mf : MF) (ma mb : ME) : ME := fun ρ st => (ma ρ st).bind fun x st1 => (mb ρ st1).bind fun y st2 => match clsAt st2 x, clsAt st2 y with
  | some C, some C2 => if C ∈ L ∧ C2 ∈ L then mf [x, y] st2 else .bad
  | _, _ => .bad
end
/-! ### tables -/
theorem FnM.mono {T : Wh} {j k n : Nat} {f : Addr} {mf : MF} (h : FnM T j n f mf) (hj : j ≤ k) : FnM T k n f mf := let ⟨fd, ps, a, b, c, F⟩ := h; ⟨fd, ps, a, b, c, F.mono hj⟩
theorem HasM.mono {T : Wh} {C j k n : Nat} {m : Str} {mf : MF} (h : HasM T C m j n mf) (hj : j ≤ k) : HasM T C m k n mf := ⟨h.1, fun Ca hC => let ⟨f, a, b, c⟩ := h.2 Ca hC; ⟨f, a, b, c.mono hj⟩⟩
theorem HasI.at {T : Wh} {C k n : Nat} {mf : MF} {Cb f2 : Addr} (h : HasI T C k n mf) (hC : T.mg (nm C) = some (.ref Cb)) (hi : PySem.W.findIn T.K (.ref Cb) "__init__" = some (some (.ref f2))) : FnM T k n f2 mf := by
  obtain ⟨Ca, f, h1, M, F⟩ := h
  cases hC.symm.trans h1
  have e := hi.symm.trans M.init
  cases e
  exact F
end Ab

set_option Elab.async false
set_option linter.all false
set_option maxRecDepth 100000
/-! Ab: rules of the second part (super, classes above each other). -/
namespace Se
noncomputable def mSup := @Ab.mSup
noncomputable def mMake0 := @Ab.mMake0
noncomputable def mCon := @Ab.mCon
noncomputable def mOpG := @Ab.mOpG
end Se
namespace Vc
open PySem PySem.Spec Ab
section
variable {st : Store} {ρ : Slots} {ta : MA} {a b m : ME} {Q : Val → Store → Prop} {X : Exc → Store → Prop}
theorem b_sup {C : Nat} {mf : MF} {x : Val} (h : ρ[0]? = some (some x)) (q : Ab.isIns C st x = true ∧ WpR (ta ρ st) (fun ws st1 => WpR (mf (x :: ws) st1) Q X) X) : WpR (Se.mSup C mf ta ρ st) Q X := by
  simp only [uR, uO, uG] at *
  show Ab.WpR (Ab.mSup C mf ta ρ st) Q X
  unfold Ab.mSup
  rw [h]
  dsimp only
  rw [if_pos q.1, Ab.wp_bind]
  exact q.2
theorem b_make0 {C : Nat} (q : New (.ins C []) st fun n s => Q (.ref n) s) : WpR (Se.mMake0 C ρ st) Q X := by
  simp only [uR, uO, uG] at *
  replace q := q.at
  show Ab.WpR (Ab.mMake0 C ρ st) Q X
  exact q
theorem b_con {tbl : List (Nat × Str)} (q : WpR (m ρ st) (fun x st1 => ∃ C v, Ab.clsAt st1 x = some C ∧ tbl.lookup C = some v ∧ Q (.str v) st1) X) : WpR (Se.mCon tbl m ρ st) Q X := by
  simp only [uR, uO, uG] at *
  show Ab.WpR (Ab.mCon tbl m ρ st) Q X
  unfold Ab.mCon; rw [Ab.wp_bind]
  refine Ab.WpR.mono q (fun x s h => ?_) fun _ _ h => h
  obtain ⟨C, v, h1, h2, h3⟩ := h
  rw [h1]; dsimp only; rw [h2]; exact h3
theorem b_opG {L : List Nat} {mf : MF} (q : WpR (a ρ st) (fun x st1 => WpR (b ρ st1) (fun y st2 => ∃ C C2, Ab.clsAt st2 x = some C ∧ Ab.clsAt st2 y = some C2 ∧ C ∈ L ∧ C2 ∈ L ∧ WpR (mf [x, y] st2) Q X) X) X) : WpR (Se.mOpG L mf a b ρ st) Q X := by
  simp only [uR, uO, uG] at *
  show Ab.WpR (Ab.mOpG L mf a b ρ st) Q X
  unfold Ab.mOpG; simp only [Ab.wp_bind]
  refine Ab.WpR.mono q (fun x s h => ?_) fun _ _ h => h
  refine Ab.WpR.mono h (fun x s h => ?_) fun _ _ h => h
  obtain ⟨C, C2, h1, h2, h3, h4, h5⟩ := h
  rw [h1, h2]; dsimp only; rw [if_pos ⟨h3, h4⟩]; exact h5
end
end Vc

set_option Elab.async false
set_option linter.all false
set_option maxRecDepth 100000
set_option maxHeartbeats 2000000
/-! Ab: generator defs: for in a generator's body, list(g). -/
namespace PySem
open Sem (wp)
section
variable {M : Model} {A : Around} {R : GenEnd} {Y : Protocol} {n : Nat} {s₀ : Shared} {c : Code} {fs : List Frame} {s : Shared} {env : Env} {K : Flow → Sem Fin} {H : Value → Sem Fin} {gd : Bool → Bool} {lv : List Value → List Value}
end
section
variable {prog : Program} {w : World} {A : Around} {R : GenEnd} {Y : Protocol} {n : Nat} {s₀ : Shared} {fs : List Frame} {s : Shared} {env : Env}
end
end PySem
namespace L2
open PySem PySem.Spec PyProof.Rows GenW
section
variable {X : Cx}
end
end L2

set_option Elab.async false
set_option linter.all false
set_option maxRecDepth 100000
set_option maxHeartbeats 2000000
/-! Ab: mirrors of generator defs. -/
namespace Ab
open PySem PySem.Spec PyProof.Rows L2
/-- what is out so far, and how the statement ended -/
abbrev MGn := List Val → Slots → Store → List Val × O
def PostGn (K : PySem.W.Frag) (mg : Str → Option Value) (W : WX) (ι : List Addr) (H : Hp) (D : GEnds) : List Val × O → Prop
  | (ws, .nx ρ st) => ∀ ι' H' σ' ys, Later ι H ι' H' → Sim K mg ι' st H' → SlotsOk mg ι' H' ρ σ' → Reps mg ι' H' ws ys → D.nx ys σ' H'
  | (ws, .ret w st) => ∀ ι' H' v ys, Later ι H ι' H' → Sim K mg ι' st H' → Rep mg ι' H' w v → Reps mg ι' H' ws ys → D.rt ys v H'
  | (ws, .brk ρ st) => ∀ ι' H' σ' ys, Later ι H ι' H' → Sim K mg ι' st H' → SlotsOk mg ι' H' ρ σ' → Reps mg ι' H' ws ys → D.bk ys σ' H'
  | (ws, .ct ρ st) => ∀ ι' H' σ' ys, Later ι H ι' H' → Sim K mg ι' st H' → SlotsOk mg ι' H' ρ σ' → Reps mg ι' H' ws ys → D.ct ys σ' H'
  | (_, .exc x ρ st) => ∀ ι' H' σ' c d, Later ι H ι' H' → Sim K mg ι' st H' → SlotsOk mg ι' H' ρ σ' → ExcRep mg ι' H' x c d → W c d σ' H'
  | (_, .bad) => False
theorem PostGn.later {K : PySem.W.Frag} {mg : Str → Option Value} {W : WX} {ι ι1 : List Addr} {H H1 : Hp} {D : GEnds} {r : List Val × O} (p : PostGn K mg W ι H D r) (l : Later ι H ι1 H1) : PostGn K mg W ι1 H1 D r := by
  obtain ⟨ws, o⟩ := r
  cases o with
  | nx ρ st => exact fun ι' H' σ' ys l' => p ι' H' σ' ys (l.trans l')
  | ret w st => exact fun ι' H' v ys l' => p ι' H' v ys (l.trans l')
  | brk ρ st => exact fun ι' H' σ' ys l' => p ι' H' σ' ys (l.trans l')
  | ct ρ st => exact fun ι' H' σ' ys l' => p ι' H' σ' ys (l.trans l')
  | exc x ρ st => exact fun ι' H' σ' c d l' => p ι' H' σ' c d (l.trans l')
  | bad => exact p
theorem GS.weak {X : Cx} {s : Stmt} {t t' : TGn} (h : GS X s t) (w : ∀ D ys σ H, t' D ys σ H → t D ys σ H) : GS X s t' := ⟨fun A S ip R n ys s₀ c fs K J gd lv s σ H D g hn k hI ht => h.run A S ip R n ys s₀ c fs K J gd lv s σ H D g hn k hI (w D ys σ H ht)⟩
theorem GSs.weak {X : Cx} {s : List Stmt} {t t' : TGn} (h : GSs X s t) (w : ∀ D ys σ H, t' D ys σ H → t D ys σ H) : GSs X s t' := ⟨fun A S ip R n ys s₀ c fs K J gd lv s σ H D g hn k hI ht => h.run A S ip R n ys s₀ c fs K J gd lv s σ H D g hn k hI (w D ys σ H ht)⟩
@[reducible] def gPl (m : MS) : MGn := fun ws ρ st => (ws, m ρ st)
@[reducible] def gYl (m : ME) : MGn := fun ws ρ st => if ws.length < 100000 then match m ρ st with
    | .ok v st1 => (ws ++ [v], .nx ρ st1)
    | .exc x st1 => (ws, .exc x ρ st1)
    | .bad => (ws, .bad)
  else (ws, .bad)
@[reducible] def gSq (a b : MGn) : MGn := fun ws ρ st => match a ws ρ st with
  | (ws1, .nx ρ1 st1) => b ws1 ρ1 st1
  | r => r
open Classical in
noncomputable def forG (g : MG) (body : MGn) (okp : Store → Prop) : List Val → MGn
  | [], ws, ρ, st => if okp st then (ws, .nx ρ st) else (ws, .bad)
  | w :: r, ws, ρ, st => if okp st then match g w ρ st with
      | none => (ws, .bad)
      | some (ρ1, st1) => match body ws ρ1 st1 with
        | (ws2, .nx ρ2 st2) => forG g body okp r ws2 ρ2 st2
        | (ws2, .ct ρ2 st2) => forG g body okp r ws2 ρ2 st2
        | (ws2, .brk ρ2 st2) => (ws2, .nx ρ2 st2)
        | o => o
    else (ws, .bad)
@[reducible] noncomputable def gFr (mi : MI) (g : MG) (body : MGn) : MGn := fun ws ρ st => match mi ρ st with
  | .ok it st1 => forG g body it.2 it.1 ws ρ st1
  | .exc x st1 => (ws, .exc x ρ st1)
  | .bad => (ws, .bad)
section
variable {X : Cx} {s : Stmt} {rest : List Stmt} {a b : MGn} {m : MS} {e : Expr} {me : ME} {yp pos : Pos}
end
end Ab

set_option Elab.async false
set_option linter.all false
set_option maxRecDepth 100000
set_option maxHeartbeats 2000000
/-! Ab: generator defs; list(g(..)). -/
namespace Ab
open PySem PySem.Spec PyProof.Rows L2
abbrev GF := List Val → Store → R (List Val)
/-- list(g(..)); L: the classes that may come out of it -/
@[reducible] def mListG (L : List Nat) (gf : GF) (t : MA) : ME := fun ρ st => (t ρ st).bind fun ws st1 => match gf ws st1 with
  | .ok ys st2 => .ok (.ref st2.length) (st2 ++ [.lst ys])
  | .exc x st2 => if x.cls ∈ L then .exc x st2 else .bad
  | .bad => .bad
section
variable {X : Cx} {k n : Nat} {gf : GF} {L : List Nat} {x : Str} {p p2 pos pos2 : Pos} {e : Expr} {es : List Expr} {t : MA}
end
end Ab

set_option Elab.async false
set_option linter.all false
set_option maxRecDepth 100000
set_option maxHeartbeats 2000000
/-! Ab: list(d.values()). -/
namespace Ab
open PySem PySem.Spec PyProof.Rows L2
section
variable {X : Cx} {e : Expr} {te : TE} {m : ME} {p apos cpos pos : Pos}
@[reducible] def mListV (m : ME) : ME := fun ρ st => (m ρ st).bind fun x st1 => match x with
  | .ref n => match st1[n]? with
    | some (.dct kvs) => .ok (.ref st1.length) (st1 ++ [.lst (kvs.map (·.2))])
    | _ => .bad
  | _ => .bad
end
end Ab

set_option Elab.async false
set_option linter.all false
set_option maxRecDepth 100000
/-! Ab: rules of the third part (generators, list(d.values())). -/
namespace Se
noncomputable def gPl := @Ab.gPl
noncomputable def gYl := @Ab.gYl
noncomputable def gSq := @Ab.gSq
noncomputable def gFr := @Ab.gFr
noncomputable def mListG := @Ab.mListG
noncomputable def mListV := @Ab.mListV
end Se
namespace Vc
open PySem PySem.Spec Ab
section
variable {st : Store} {ρ : Slots} {ws : List Val} {ta : MA} {m : ME} {s : MS} {a b : MGn} {P : List Val → Wish} {Q : Val → Store → Prop} {X : Exc → Store → Prop}
end
end Vc

set_option Elab.async false
set_option linter.all false
set_option maxRecDepth 100000
set_option maxHeartbeats 1000000
/-! AbLam1: lambdas that are kept (in a list), some with one parameter that has a default: their making, their call. -/
namespace Ab
open PySem PySem.Spec PyProof.Rows L2
def Tt : HO := .ext fun _ => True
/-- a lambda: its words; its one parameter, where it has one -/
structure Lam where
  params : Arguments
  body : Expr
  scope : Scope
  par : Option Str
/-- its names: at most the parameter is its own, and the def around has no such name -/
structure LamW (N : List Str) (sc scope : Scope) : Prop where
  kind : scope.kind = .function
  co : scope.isCoroutine = false
  gen : scope.isGenerator = false
  own : ∀ y ∈ scope.names, y.2 ≠ .cell ∧ (y.2 = .local → y.1 ∉ N)
  free : ∀ y ∈ scope.names, y.2 = .free → sc.names.lookup y.1 = some .cell ∨ sc.names.lookup y.1 = some .free
abbrev lamFn (l : Lam) (q : Str) (cl : List (Str × Addr)) (dV doc pm : Value) (c' : Addr) (ctv : Value) : FuncData := PySem.W.kdv_fn "<lambda>" q l.params (.expr l.body) l.scope cl dV doc pm (.ref c') ctv
abbrev lamObj (l : Lam) (q : Str) (cl : List (Str × Addr)) (dV doc pm : Value) (c' : Addr) (ctv : Value) : Obj := PySem.W.kdv_obj "<lambda>" q l.params (.expr l.body) l.scope cl dV doc pm c' ctv
/-- what the default is -/
def DfltAt (par : Option Str) (dV : Value) (H : Hp) : Prop := match par with
  | none => dV = .none
  | some _ => ∃ (t : Addr) (v : Value), dV = .ref t ∧ H t = some (.frz (PySem.W.kdv_tup [v]) Tt)
/-- its call binds what it should -/
structure LamB (l : Lam) : Prop where
  b0 : l.par = none → ∀ (q : Str) (cl : List (Str × Addr)) (doc pm : Value) (c' : Addr) (ctv : Value), bindArgs (lamFn l q cl .none doc pm c' ctv) ⟨[], []⟩ = pure []
  b1 : ∀ a, l.par = some a → l.scope.names.lookup a = some .local ∧ ∀ (q : Str) (cl : List (Str × Addr)) (doc pm : Value) (c' : Addr) (ctv : Value) (t : Addr) (v : Value) (s : Shared), s.heap.get? t = some (PySem.W.kdv_tup [v]) → BindsTo s (lamFn l q cl (.ref t) doc pm c' ctv) ⟨[], []⟩ [(a, v)]
theorem LamB.binds {l : Lam} (b : LamB l) {dV : Value} {P : Program} {w : World} {H : Hp} {s : Shared} (hok : HOk P w H s.heap) (d : DfltAt l.par dV H) (q : Str) (cl : List (Str × Addr)) (doc pm : Value) (c' : Addr) (ctv : Value) :
    ∃ binds, BindsTo s (lamFn l q cl dV doc pm c' ctv) ⟨[], []⟩ binds ∧ ∀ y ∈ binds, l.scope.names.lookup y.1 = some .local := by
  cases hp : l.par with
  | none =>
    rw [hp] at d
    have d : dV = .none := d
    subst d
    exact ⟨[], BindsTo.of_eq (b.b0 hp q cl doc pm c' ctv), fun y hy => absurd hy (by simp)⟩
  | some a =>
    rw [hp] at d
    obtain ⟨t, v, e, ht⟩ := d
    subst e
    obtain ⟨h1, h2⟩ := b.b1 a hp
    refine ⟨[(a, v)], h2 q cl doc pm c' ctv t v s (hok t _ ht).1, fun y hy => ?_⟩
    have e : y = (a, v) := by simpa using hy
    rw [e]
    exact h1
section
variable {X : Cx} {pins : List (Addr × Obj)} {σ : L2.St} {H HZ : Hp} {s s1 : Shared}
end
end Ab

set_option Elab.async false
set_option linter.all false
set_option maxRecDepth 100000
set_option maxHeartbeats 1000000
/-! AbLam2: the making of a lambda that is kept. -/
namespace Ab
open PySem PySem.Spec PyProof.Rows L2 LamX
/-- the lambda l of the def of X lies at f -/
def LamAt (X : Cx) (l : Lam) (f : Addr) (H : Hp) : Prop := ∃ (dV doc pm ctv : Value) (c' : Addr), H f = some (.frz (lamObj l (X.env.qual ++ "<lambda>") (cloFrom X.env.cells l.scope.names []) dV doc pm c' ctv) Tt) ∧ H c' = some (CodeO c' (X.env.qual ++ "<lambda>")) ∧ DfltAt l.par dV H
theorem DfltAt.ext {p : Option Str} {dV : Value} {H H' : Hp} (d : DfltAt p dV H) (e : ∀ b o u, H b = some (.frz o u) → H' b = some (.frz o u)) : DfltAt p dV H' := by
  revert d
  unfold DfltAt
  cases p with
  | none => exact id
  | some a => exact fun ⟨t, v, q, ht⟩ => ⟨t, v, q, e _ _ _ ht⟩
theorem LamAt.later {X : Cx} {l : Lam} {f : Addr} {ι ι' : List Addr} {H H' : Hp} (a : LamAt X l f H) (L : Later ι H ι' H') : LamAt X l f H' := by
  obtain ⟨dV, doc, pm, ctv, c', h1, h2, h3⟩ := a
  exact ⟨dV, doc, pm, ctv, c', L.frzs _ _ True.intro h1, L.frzs _ _ True.intro h2, h3.ext fun b o u e => L.frzs _ _ True.intro e⟩
theorem extN_stay {H H' : Hp} (e : ExtN H H') {b : Addr} {u : HO} (hs : Stay u) (h : H b = some u) : H' b = some u := e b u h fun ps z => by subst z; exact hs
theorem LamAt.ext {X : Cx} {l : Lam} {f : Addr} {H H' : Hp} (a : LamAt X l f H) (e : ExtN H H') : LamAt X l f H' := by
  obtain ⟨dV, doc, pm, ctv, c', h1, h2, h3⟩ := a
  exact ⟨dV, doc, pm, ctv, c', extN_stay e True.intro h1, extN_stay e True.intro h2, h3.ext fun b o u q => extN_stay e True.intro q⟩
section
variable {X : Cx} {pins : List (Addr × Obj)} {σ : L2.St} {H : Hp} {s : Shared}
/-- how the default is written -/
structure LamDf (l : Lam) (env : Env) : Prop where
  kw : l.params.kw_defaults = []
  d0 : l.par = none → defaultsOf l.params env = ([], [])
  d1 : ∀ a, l.par = some a → ∃ (i : Int) (j : Nat) (p : Pos), l.params.defaults = [.Constant (.int i) j p]
end
end Ab

set_option Elab.async false
set_option linter.all false
set_option maxRecDepth 100000
set_option maxHeartbeats 1000000
/-! AbLam3: [elt for x in iter] where the element may lean on the state of the def around (calls of kept lambdas). -/
namespace Ab
open PySem PySem.Spec PyProof.Rows L2 LamX
abbrev Cx.bk (X : Cx) (s : Shared) (H : Hp) (scope : Scope) (C : Addr) (cl : List (Str × Addr)) (fp : List Addr) : Cx := X.blk s H scope (compEnvC scope cl C X.env) fp
section
variable {X : Cx} {pins : List (Addr × Obj)} {s : Shared} {σ : L2.St} {H : Hp} {Q : VK}
end
end Ab

set_option Elab.async false
set_option linter.all false
set_option maxRecDepth 100000
set_option maxHeartbeats 1000000
/-! AbLam4: [f(w) for w in works], works a list of kept lambdas, f the def that tells what a call gives. -/
namespace Ab
open PySem PySem.Spec PyProof.Rows L2 LamX
/-- what the calls give, one after the other, in a new list -/
def outsM (D : Nat) (ρ : Slots) : List ME → Store → R Val
  | [], st => .ok (.ref D) st
  | o :: os, st => ((o ρ st).noX).bind fun y st1 => match st1[D]? with
    | some (.lst acc) => if acc.length < sizeLine then outsM D ρ os (st1.set D (.lst (acc ++ [y]))) else .bad
    | _ => .bad
def mOuts (os : List ME) : ME := fun ρ st => outsM st.length ρ os (st ++ [.lst []])
/-- a lambda, its mirror -/
structure LamJ (X : Cx) (k : Nat) (l : Lam) (mb : ME) : Prop where
  W : LamW X.N X.env.scope l.scope
  B : LamB l
  J : ∀ (A : Around) (outer : List Env) (s : Shared) (H : Hp) (E : XK) (f c' : Addr), Room k (A.deeper (lamEnv X l.scope s.heap.objs.size f c')) → JE (lamCx X A outer s H E l.scope f c') l.body mb
section
variable {X : Cx} {x a y w : Str} {stg : Stmt} {g : Addr} {k : Nat} {Ng : List Str} {TT : (XK → Hp → VK → Prop) → Hp → VK → Prop} {o : ME → ME}
end
end Ab

set_option Elab.async false
set_option linter.all false
set_option maxRecDepth 100000
set_option maxHeartbeats 1000000
/-! AbLam5: the comprehension over the kept lambdas, as a value. -/
namespace Ab
open PySem PySem.Spec PyProof.Rows L2 LamX
section
variable {X : Cx} {x a y w : Str} {stg : Stmt} {g : Addr} {k : Nat} {Ng : List Str} {TT : (XK → Hp → VK → Prop) → Hp → VK → Prop} {o : ME → ME}
end
end Ab

set_option Elab.async false
set_option linter.all false
set_option maxRecDepth 100000
set_option maxHeartbeats 1000000
/-! AbLam6: statements that build the list of lambdas; the statement that asks it. -/
namespace Ab
open PySem PySem.Spec PyProof.Rows L2 LamX
/-- the words of a lambda are as the rules want them -/
def LamK (X : Cx) (l : Lam) : Prop := LamW X.N X.env.scope l.scope ∧ LamDf l X.env
def AllAt (X : Cx) (ls : List Lam) (fs : List Addr) (H : Hp) : Prop := fs.length = ls.length ∧ ∀ (k : Nat) (l : Lam) (f : Addr), ls[k]? = some l → fs[k]? = some f → LamAt X l f H
theorem AllAt.append {X : Cx} {ls ms : List Lam} {fs gs : List Addr} {H : Hp} (a : AllAt X ls fs H) (b : AllAt X ms gs H) : AllAt X (ls ++ ms) (fs ++ gs) H := by
  refine ⟨by rw [List.length_append, List.length_append, a.1, b.1], fun k l f h1 h2 => ?_⟩
  by_cases hk : k < ls.length
  · rw [List.getElem?_append_left hk] at h1
    rw [List.getElem?_append_left (by rw [a.1]; exact hk)] at h2
    exact a.2 k l f h1 h2
  · rw [List.getElem?_append_right (by omega)] at h1
    rw [List.getElem?_append_right (by rw [a.1]; omega), a.1] at h2
    exact b.2 _ l f h1 h2
theorem AllAt.ext {X : Cx} {ls : List Lam} {fs : List Addr} {H H' : Hp} (a : AllAt X ls fs H) (e : ExtN H H') : AllAt X ls fs H' := ⟨a.1, fun k l f h1 h2 => (a.2 k l f h1 h2).ext e⟩
section
variable {X : Cx} {i : Nat} {y : Str} {Ls : List Lam} {rest : List Stmt} {m : MS} {pos apos lpos p1 p2 py : Pos}
def sFgt (i : Nat) (m : MS) : MS := fun ρ st => m (ρ.set i none) st
/-! ### the statement that asks -/
variable {a b : Expr} {op : CmpOp} {g : Val → Val → Store → R Val} {ma mb : ME} {m1 m2 : MS} {t : MT}
end
end Ab

set_option Elab.async false
set_option linter.all false
set_option maxRecDepth 100000
set_option maxHeartbeats 1000000
/-! AbLam7: the rules for kept lambdas as the printer wants them. -/
namespace Ab
open PySem PySem.Spec PyProof.Rows L2 LamX
def mOutsO (o : ME → ME) (mbs : List ME) : ME := mOuts (mbs.map o)
inductive AllJ (X : Cx) (k : Nat) : List Lam → List ME → Prop
  | nil : AllJ X k [] []
  | cons {l : Lam} {m : ME} {ls : List Lam} {ms : List ME} (h : LamJ X k l m) (t : AllJ X k ls ms) : AllJ X k (l :: ls) (m :: ms)
theorem AllJ.zip {X : Cx} {k : Nat} : ∀ {ls : List Lam} {ms : List ME}, AllJ X k ls ms → (ls.zip ms).map (·.1) = ls ∧ (ls.zip ms).map (·.2) = ms ∧ ∀ p ∈ ls.zip ms, LamJ X k p.1 p.2
  | _, _, .nil => ⟨rfl, rfl, fun p hp => by simp at hp⟩
  | _, _, .cons h t => by
    obtain ⟨a, b, c⟩ := AllJ.zip t
    refine ⟨by simp [a], by simp [b], fun p hp => ?_⟩
    rcases List.mem_cons.mp hp with e | hp
    · rw [e]; exact h
    · exact c p hp
inductive AllK (X : Cx) : List Lam → Prop
  | nil : AllK X []
  | cons {l : Lam} {ls : List Lam} (h : LamK X l) (t : AllK X ls) : AllK X (l :: ls)
theorem AllK.mem {X : Cx} : ∀ {ls : List Lam}, AllK X ls → ∀ l ∈ ls, LamK X l
  | _, .nil, l, h => by simp at h
  | _, .cons h t, l, hl => by
    rcases List.mem_cons.mp hl with e | hl
    · rw [e]; exact h
    · exact t.mem l hl
theorem AllK.of {X : Cx} {lps : List (Lam × Pos)} (h : AllK X (lps.map (·.1))) : ∀ p ∈ lps, LamK X p.1 := fun p hp => h.mem _ (List.mem_map_of_mem hp)
section
variable {X : Cx} {i : Nat} {y : Str} {Ls : List Lam} {rest : List Stmt} {m : MS} {pos apos lpos p1 p2 py : Pos} {es : List Expr}
end
end Ab

set_option Elab.async false
set_option linter.all false
set_option maxRecDepth 100000
set_option maxHeartbeats 1000000
/-! AbLam8: a, b, c = x, y, z; the wishes' rules for kept lambdas. -/
namespace Ab
open PySem PySem.Spec PyProof.Rows L2
@[reducible] def sPar3 (i j l : Nat) (t : MA) : MS := fun ρ st => (t ρ st).toO ρ fun ws st1 => match ws with
  | [u, v, w] => .nx (((ρ.set i (some u)).set j (some v)).set l (some w)) st1
  | _ => .bad
theorem js_par3 {X : Cx} {i j l : Nat} {x y z : Str} {a b c : Expr} {t : MA} {px py pz pt pos : Pos} {kt k2 pt2} (hc : X.calm = true) (hN : X.N.Nodup) (ha : JA X [a, b, c] t) (hi : X.N[i]? = some x := by rfl) (hj : X.N[j]? = some y := by rfl) (hl : X.N[l]? = some z := by rfl) (hij : i ≠ j := by decide) (hil : i ≠ l := by decide) (hjl : j ≠ l := by decide)
    (hx : X.env.scope.names.lookup x = some .local := by rfl) (hy : X.env.scope.names.lookup y = some .local := by rfl) (hz : X.env.scope.names.lookup z = some .local := by rfl)
    (hw : swappedStores [.Tuple [.Name x px, .Name y py, .Name z pz] kt pt] (.Tuple [a, b, c] k2 pt2) X.env = pure (some [x, y, z]) := by rfl)
    (hs : swapsWithSole [.Tuple [.Name x px, .Name y py, .Name z pz] kt pt] (.Tuple [a, b, c] k2 pt2) pos.line X.env = pure false := by rfl) :
    JS X (.Assign [.Tuple [.Name x px, .Name y py, .Name z pz] kt pt] (.Tuple [a, b, c] k2 pt2) pos) (sPar3 i j l t) := fun W tk => by
  refine PS.weak (ps_par3 hc hN hi hj hl hij hil hjl hx hy hz (ha W tk) hw hs) fun D σ H ⟨ι, ρ, st, S, sl, p⟩ => ?_
  refine ⟨ι, ρ, st, S, sl, PostO.bind p sl fun ws st1 ι1 H1 vs l1 S1 r1 p1 => ?_⟩
  split at p1
  · obtain ⟨u', r', e1, q1, q2⟩ := Reps.of_cons r1
    obtain ⟨v', r'', e2, q3, q4⟩ := q2.of_cons
    obtain ⟨w', r3, e3, q5, q6⟩ := q4.of_cons
    have e4 := q6.of_nil
    subst e4; subst e3; subst e2; subst e1
    exact ⟨u', v', w', rfl, p1.nx_same S1 ((((sl.later l1).set i q1).set j q3).set l q5)⟩
  · exact p1.elim
end Ab
namespace Se
noncomputable def sPar3 := @Ab.sPar3
noncomputable def sFgt := @Ab.sFgt
noncomputable def mOutsO := @Ab.mOutsO
end Se
namespace Vc
open PySem PySem.Spec Ab
section
variable {st : Store} {ρ : Slots} {ta : MA} {m : MS} {o : ME → ME} {ms : List ME} {Q : Val → Store → Prop} {X : Exc → Store → Prop} {n k l : Slots → Store → Prop} {r : Val → Store → Prop}
theorem b_par3 {i j h : Nat} (q : WpR (ta ρ st) (fun ws st1 => ∃ u v w, ws = [u, v, w] ∧ NF ρ i (some u) fun ρ => NF ρ j (some v) fun ρ => NF ρ h (some w) fun ρ => n ρ st1) X) : WpO (Se.sPar3 i j h ta ρ st) ⟨n, r, k, l, X⟩ := by
  simp only [uR, uO, uG] at *
  show Ab.WpO (Ab.sPar3 i j h ta ρ st) _
  unfold Ab.sPar3; rw [Ab.wp_toO]
  refine Ab.WpR.mono q (fun y s h => ?_) fun _ _ h => h
  obtain ⟨u, v, w, rfl, h⟩ := h; exact h
end
end Vc

set_option Elab.async false
set_option linter.all false
set_option maxRecDepth 100000
set_option maxHeartbeats 1000000
/-! AbTry: several except clauses, each with `as` or without. -/
namespace Ab
open PySem PySem.Spec PyProof.Rows L2
/-- a clause: the class that it names, the slot of its `as` name, its suite's reading -/
structure Cl where
  c : Value
  oi : Option Nat
  ts : Addr → Value → Option Addr → TS
/-- the ends of a suite: the `as` name goes -/
def Cl.ends (k : Cl) (D : Ends) : Ends := match k.oi with
  | none => D
  | some i => { nx := fun σ H => D.nx (σ.set i none) H, rt := D.rt, bk := fun σ H => D.bk (σ.set i none) H, ct := fun σ H => D.ct (σ.set i none) H }
def Cl.slots (k : Cl) (a : Addr) (σ : L2.St) : L2.St := match k.oi with
  | none => σ
  | some i => σ.set i (some (.ref a))
def SuiteOk (X : Cx) (b : List Stmt) (ts : Addr → Value → Option Addr → TS) : Prop := ∀ (a : Addr) (oe : Obj) (cls : Value) (d : Option Addr) (pn : List (Addr × Obj)), Zc cls d oe → (∃ vs, oe.data = .fields vs) → PSs (X.suite a ((a, oe) :: pn)) b (ts a cls d)
inductive ClsOk (X : Cx) : List ExceptHandler → List Cl → Prop
  | nil : ClsOk X [] []
  | plain {x : Str} {c : Value} {ts : Addr → Value → Option Addr → TS} {b₀ : Stmt} {suite : List Stmt} {np pos' : Pos} {hds : List ExceptHandler} {l : List Cl} (hc : Names X x c) (hsu : SuiteOk X (b₀ :: suite) ts) (r : ClsOk X hds l) :
      ClsOk X (.ExceptHandler (some (.Name x np)) none (b₀ :: suite) pos' :: hds) (⟨c, none, ts⟩ :: l)
  | named {x n : Str} {i : Nat} {c : Value} {ts : Addr → Value → Option Addr → TS} {b₀ : Stmt} {suite : List Stmt} {np pos' : Pos} {hds : List ExceptHandler} {l : List Cl} (hi : X.N[i]? = some n) (hln : X.env.kindOf n = some .local) (hc : Names X x c) (hsu : SuiteOk X (b₀ :: suite) ts) (r : ClsOk X hds l) :
      ClsOk X (.ExceptHandler (some (.Name x np)) (some n) (b₀ :: suite) pos' :: hds) (⟨c, some i, ts⟩ :: l)
section
variable {X : Cx} {body : List Stmt} {h₀ : ExceptHandler} {hds : List ExceptHandler} {l : List Cl} {pos : Pos} {tb : WX → TS} {Wout : WX}
end
end Ab

set_option Elab.async false
set_option linter.all false
set_option maxRecDepth 100000
set_option maxHeartbeats 1000000
/-! AbTry2: f(lambda: e) where f gives what it got, or words by the class that came: several clauses. -/
namespace Ab
open PySem PySem.Spec PyProof.Rows L2 LamX
/-- a clause of the telling def: its class, has it an `as` name, its suite's mirror -/
structure ClS where
  RA : Addr
  nmd : Bool
  mS : Addr → Option Addr → Nat → MS
def ClS.cl (X : Cx) (L : List Nat) (k : ClS) : Cl := ⟨.ref k.RA, if k.nmd = true then some 1 else none, fun aa cls d D σ H => ∃ Dn Da, Dn ∈ L ∧ X.mg (nm Dn) = some (.ref Da) ∧ cls = .ref Da ∧ rdS X.K X.mg (fun _ _ _ _ => False) (k.mS aa d Dn) D σ H⟩
section
variable {X : Cx} {x a e : Str} {st : Stmt} {g : Addr} {h₀ : ExceptHandler} {hds : List ExceptHandler} {p2 p3 p5 p8 : Pos} {cdg : Value} {q : Str} {out : Exc → Option (List Val)} {L : List Nat} {ks : List ClS}
end
end Ab

set_option Elab.async false
set_option linter.all false
set_option maxRecDepth 100000
set_option maxHeartbeats 1000000
/-! AbTry3: the telling defs of k08 (three clauses) and k01 (four). -/
namespace Ab
open PySem PySem.Spec PyProof.Rows L2 LamX
section
variable {X : Cx}
end
end Ab

set_option Elab.async false
set_option linter.all false
set_option maxRecDepth 100000
set_option maxHeartbeats 1000000
/-! AbEqT: an own __eq__ asked with a tuple on the right. -/
namespace Ab
open PySem PySem.Spec PyProof.Rows L2
end Ab
namespace Vc
open PySem PySem.Spec Ab
end Vc

set_option Elab.async false
set_option linter.all false
set_option maxRecDepth 100000
set_option maxHeartbeats 1000000
/-! AbCh3: a test of three comparisons in a chain. -/
namespace Ab
open PySem PySem.Spec PyProof.Rows L2
@[reducible] def mChain3 (g g' g2 : Val → Val → Store → R Val) (a b c d : ME) : ME := fun ρ st => (a ρ st).bind fun x st1 => (b ρ st1).bind fun y st2 => (g x y st2).bind fun z st3 => match z with
  | .bl true => (c ρ st3).bind fun w st4 => (g' y w st4).bind fun z' st5 => match z' with
    | .bl true => (d ρ st5).bind fun v st6 => g2 w v st6
    | .bl false => .ok (.bl false) st5
    | _ => .bad
  | .bl false => .ok (.bl false) st3
  | _ => .bad
section
variable {X : Cx} {a b c d : Expr} {ma mb mc md : ME} {pos : Pos}
end
end Ab
namespace Se
noncomputable def mChain3 := @Ab.mChain3
end Se
namespace Vc
open PySem PySem.Spec Ab
section
variable {st : Store} {ρ : Slots} {a b c d : ME} {Q : Val → Store → Prop} {X : Exc → Store → Prop}
end
end Vc

set_option Elab.async false
set_option linter.all false
set_option maxRecDepth 100000
set_option maxHeartbeats 1000000
/-! AbRev: xs[::step] of a list where the step is worked out to -1. -/
namespace Ab
open PySem PySem.Spec PyProof.Rows L2
section
variable {X : Cx} {e stp : Expr} {te : TE} {ts : TO} {p3 pos : Pos} {ma : ME} {mo : MO}
theorem Reps.reverse {mg : Str → Option Value} {ι : List Addr} {H : Hp} : ∀ {ws : List Val} {vs : List V}, Reps mg ι H ws vs → Reps mg ι H ws.reverse vs.reverse
  | [], _, h => by rw [h.of_nil]; exact .nil
  | w :: ws, _, h => by
    obtain ⟨v, r, e, h1, h2⟩ := h.of_cons
    subst e
    rw [List.reverse_cons, List.reverse_cons]
    exact (Reps.reverse h2).append (.cons h1 .nil)
@[reducible] def mRevS (a : ME) (o : MO) : ME := fun ρ st => (a ρ st).bind fun x st1 => (o ρ st1).bind fun k st2 => if k = some (-1) then match x with
  | .ref n => match seqAt st2 n with
    | some xs => .ok (.ref st2.length) (st2 ++ [.lst xs.reverse])
    | none => .bad
  | _ => .bad
  else .bad
end
end Ab
namespace Se
noncomputable def mRevS := @Ab.mRevS
end Se
namespace Vc
open PySem PySem.Spec Ab
section
variable {st : Store} {ρ : Slots} {a : ME} {o : MO} {Q : Val → Store → Prop} {X : Exc → Store → Prop}
end
end Vc

set_option Elab.async false
set_option linter.all false
set_option maxRecDepth 100000
set_option maxHeartbeats 1000000
/-! AbIsT: isinstance(e, T), T a built-in type, of a value that may be an object of the program. -/
namespace Ab
open PySem PySem.Spec PyProof.Rows L2
def isiTW (C : Nat) (t : Ty6) (st : Store) (w : Val) : Option Bool := match kindW st w with
  | some k => some (isT k t)
  | none => if clsAt st w = some C then some false else none
@[reducible] def mIsiTO (C : Nat) (t : Ty6) (m : ME) : ME := fun ρ st => (m ρ st).bind fun w st1 => match isiTW C t st1 w with
  | some b => .ok (.bl b) st1
  | none => .bad
section
variable {X : Cx} {e : Expr} {m : ME} {p p2 pos : Pos} {x1 : Str} {C : Nat}
end
end Ab
namespace Se
noncomputable def mIsiTO := @Ab.mIsiTO
end Se
namespace Vc
open PySem PySem.Spec Ab
section
variable {st : Store} {ρ : Slots} {m : ME} {Q : Val → Store → Prop} {X : Exc → Store → Prop}
end
end Vc

set_option Elab.async false
set_option linter.all false
set_option maxRecDepth 100000
set_option maxHeartbeats 1000000
/-! AbStr: texts: split, join, int(text), str(int), text.index. -/
namespace Ab
open PySem PySem.Spec PyProof.Rows L2
/-- the texts of a list of values -/
def asStrs : List Val → Option (List Str)
  | [] => some []
  | .str z :: r => (asStrs r).map (z :: ·)
  | _ => none
theorem asStrs_some : ∀ {ws : List Val} {ys : List Str}, asStrs ws = some ys → ws = ys.map .str
  | [], _, h => by cases h; rfl
  | w :: r, ys, h => by
    cases w with
    | str z =>
      unfold asStrs at h
      cases e : asStrs r with
      | none => rw [e] at h; cases h
      | some zs =>
        rw [e] at h
        cases h
        rw [asStrs_some e]; rfl
    | _ => cases h
theorem asStrs_map : ∀ ys : List Str, asStrs (ys.map .str) = some ys
  | [] => rfl
  | y :: ys => by
    show (asStrs (ys.map .str)).map (y :: ·) = _
    rw [asStrs_map ys]; rfl
theorem Reps.texts {mg : Str → Option Value} {ι : List Addr} {H : Hp} : ∀ {ys : List Str} {vs : List V}, Reps mg ι H (ys.map .str) vs → vs = ys.map V.str
  | [], _, h => h.of_nil
  | y :: ys, _, h => by
    obtain ⟨v, r, e, h1, h2⟩ := h.of_cons
    subst e
    rw [h1.str_inv, Reps.texts h2]; rfl
theorem reps_texts {mg : Str → Option Value} {ι : List Addr} {H : Hp} : ∀ {ys : List Str}, Reps mg ι H (ys.map .str) (ys.map V.str)
  | [] => .nil
  | y :: ys => .cons Rep.str reps_texts
def vSplit (x : Val) (ws : List Val) (st : Store) : R Val := match x, ws with
  | .str a, [.str b] => if (b.length == 0) = false ∧ a.length + 2 ≤ sizeLine then .ok (.ref st.length) (st ++ [.lst ((Txt.split a b).map .str)]) else .bad
  | _, _ => .bad
def vJoin (x : Val) (ws : List Val) (st : Store) : R Val := match x, ws with
  | .str a, [.ref n] => match seqAt st n with
    | some xs => match asStrs xs with
      | some ys => if (ys.map (·.length)).sum + ys.length * a.length ≤ 16777216 then .ok (.str (Txt.join a ys)) st else .bad
      | none => .bad
    | none => .bad
  | _, _ => .bad
def bIntS : List Val → Store → R Val
  | [.str a], st => match PySem.intText? a with
    | some n => if a.length ≤ 640 then .ok (.int n) st else .bad
    | none => .bad
  | _, _ => .bad
def bStrI : List Val → Store → R Val
  | [.int i], st => if i.natAbs.log2 < 1920 then .ok (.str (toString i)) st else .bad
  | _, _ => .bad
theorem quiet_split (x : Val) (xs : List Val) (st : Store) : Quiet (vSplit x xs st) := by
  intro e s' h
  unfold vSplit at h
  split at h
  · split at h <;> cases h
  · cases h
theorem quiet_join (x : Val) (xs : List Val) (st : Store) : Quiet (vJoin x xs st) := by
  intro e s' h
  unfold vJoin at h
  split at h
  · split at h
    · split at h
      · split at h <;> cases h
      · cases h
    · cases h
  · cases h
theorem quiet_intS : ∀ xs st, Quiet (bIntS xs st) := by
  intro xs st x s h
  unfold bIntS at h
  split at h
  · split at h
    · split at h <;> cases h
    · cases h
  · cases h
theorem quiet_strI : ∀ xs st, Quiet (bStrI xs st) := by
  intro xs st x s h
  unfold bStrI at h
  split at h
  · split at h <;> cases h
  · cases h
section
variable {X : Cx}
theorem mt_split' : MtR X "str.split" (rM X.K X.mg vSplit) := by
  rintro pins s σ H x xs v us Q I rx rs ⟨ι, st, w, ws, S, r1, r2, p⟩
  unfold vSplit at p
  split at p
  · rename_i a b
    split at p
    · rename_i hh
      have e1 := r1.str_inv
      subst e1
      obtain ⟨z, e2, hz⟩ := r2.one
      subst e2
      have e3 := hz.str_inv
      subst e3
      refine mt_split pins s σ H _ _ v us Q I rx rs ⟨a, b, rfl, rfl, hh.1, hh.2, fun q hq => ?_⟩
      exact p.newLst S reps_texts hq
    · exact p.elim
  · exact p.elim
theorem mt_join' : MtR X "str.join" (rM X.K X.mg vJoin) := by
  rintro pins s σ H x xs v us Q I rx rs ⟨ι, st, w, ws, S, r1, r2, p⟩
  unfold vJoin at p
  split at p
  · rename_i a n
    cases es : seqAt st n with
    | none => rw [es] at p; exact p.elim
    | some xs =>
      rw [es] at p
      dsimp only at p
      cases ey : asStrs xs with
      | none => rw [ey] at p; exact p.elim
      | some ys =>
        rw [ey] at p
        dsimp only at p
        split at p
        · rename_i hh
          have e1 := r1.str_inv
          subst e1
          obtain ⟨z, e2, hz⟩ := r2.one
          subst e2
          obtain ⟨q, e3, hq⟩ := hz.ref_inv
          subst e3
          obtain ⟨vs, hl, rr⟩ := S.seqL es hq
          rw [asStrs_some ey] at rr
          have e4 := Reps.texts rr
          subst e4
          exact mt_join pins s σ H _ _ v us Q I rx rs ⟨a, q, ys, rfl, rfl, .inl hl, hh, p.okSame S Rep.str⟩
        · exact p.elim
  · exact p.elim
theorem mc_intS : MC X (.type "int") bIntS := by
  rintro pins s σ H xs us Q I rs ⟨ι, st, ws, S, rr, p⟩
  unfold bIntS at p
  split at p
  · rename_i a
    obtain ⟨v, e, r⟩ := rr.one
    subst e
    have e1 := r.str_inv
    subst e1
    split at p
    · rename_i n hn
      split at p
      · rename_i hl
        exact call_int_str pins s σ H _ us Q I rs ⟨a, n, rfl, hn, hl, p.okSame S Rep.int⟩
      · exact p.elim
    · exact p.elim
  · exact p.elim
theorem mc_strI : MC X (.type "str") bStrI := by
  rintro pins s σ H xs us Q I rs ⟨ι, st, ws, S, rr, p⟩
  unfold bStrI at p
  split at p
  · rename_i i
    obtain ⟨v, e, r⟩ := rr.one
    subst e
    have e1 := r.int_inv
    subst e1
    split at p
    · rename_i hl
      exact call_str_int pins s σ H _ us Q I rs ⟨i, rfl, hl, p.okSame S Rep.str⟩
    · exact p.elim
  · exact p.elim
variable {o e : Expr} {mo me : ME} {apos cpos : Pos}
theorem je_split (ho : JE X o mo) (he : JE X e me) (hs : starEach [e] X.env = (false, eval e X.env) :: starEach [] X.env := by rfl) (hbase : attributeBase o "split" X.env (eval o X.env) = eval o X.env := by rfl)
    (hfew : ((backTo cpos (starEach [e] X.env)).all (fun x => !x.1) && (backToKw cpos (keywordEach [] X.env)).all (fun x => x.1.isSome)
      && decide ([e].length + ([] : List Keyword).length + (if ([] : List Keyword).isEmpty then 0 else 1) < 30)) = true := by rfl) (hline : (apos.endLine == cpos.line) = true := by rfl) : JE X (.Call (.Attribute o "split" apos) [e] [] cpos) (mBM "str" vSplit mo (aCons me aNil)) :=
  je_bm PySem.F.plainAttrs_str PySem.F.slot_str_split PySem.F.type_str_split mt_split' quiet_split ho (ja_cons he ja_nil hs) hbase hfew hline hs rfl
theorem je_join (ho : JE X o mo) (he : JE X e me) (hs : starEach [e] X.env = (false, eval e X.env) :: starEach [] X.env := by rfl) (hbase : attributeBase o "join" X.env (eval o X.env) = eval o X.env := by rfl)
    (hfew : ((backTo cpos (starEach [e] X.env)).all (fun x => !x.1) && (backToKw cpos (keywordEach [] X.env)).all (fun x => x.1.isSome)
      && decide ([e].length + ([] : List Keyword).length + (if ([] : List Keyword).isEmpty then 0 else 1) < 30)) = true := by rfl) (hline : (apos.endLine == cpos.line) = true := by rfl) : JE X (.Call (.Attribute o "join" apos) [e] [] cpos) (mBM "str" vJoin mo (aCons me aNil)) :=
  je_bm PySem.F.plainAttrs_str PySem.F.slot_str_join PySem.F.type_str_join mt_join' quiet_join ho (ja_cons he ja_nil hs) hbase hfew hline hs rfl
end
end Ab

set_option Elab.async false
set_option linter.all false
set_option maxRecDepth 100000
set_option maxHeartbeats 1000000
/-! AbVc5: texts: the wishes' rules. -/
namespace Vc
open PySem PySem.Spec Ab
section
variable {st : Store} {Q : Val → Store → Prop} {X : Exc → Store → Prop}
theorem v_split {a b : Str} (h1 : (b.length == 0) = false) (h2 : a.length ≤ 1000000) (q : New (.lst ((Txt.split a b).map .str)) st fun n s => Q (.ref n) s) : WpR (Ab.vSplit (.str a) [.str b] st) Q X := by
  simp only [uR] at *
  unfold Ab.vSplit
  dsimp only
  rw [if_pos ⟨h1, by rw [sizeLine_eq]; omega⟩]
  exact q.at
theorem v_join {a : Str} {n : Nat} {ys : List Str} (h : seqAt st n = some (ys.map .str)) (h2 : (ys.map (·.length)).sum + ys.length * a.length ≤ 16777216) (q : Q (.str (Txt.join a ys)) st) : WpR (Ab.vJoin (.str a) [.ref n] st) Q X := by
  simp only [uR] at *
  unfold Ab.vJoin
  dsimp only
  rw [h]; dsimp only
  rw [asStrs_map]; dsimp only
  rw [if_pos h2]
  exact q
theorem v_intS {a : Str} {n : Int} (h : PySem.intText? a = some n) (hl : a.length ≤ 640) (q : Q (.int n) st) : WpR (Ab.bIntS [.str a] st) Q X := by
  simp only [uR] at *
  unfold Ab.bIntS
  dsimp only
  rw [h]; dsimp only
  rw [if_pos hl]
  exact q
theorem v_strI {i : Int} (h : i.natAbs.log2 < 1920) (q : Q (.str (toString i)) st) : WpR (Ab.bStrI [.int i] st) Q X := by
  simp only [uR] at *
  unfold Ab.bStrI
  dsimp only
  rw [if_pos h]
  exact q
theorem v_addS {a b : Str} (h : a.length + b.length ≤ 1000000) (q : Q (.str (a ++ b)) st) : WpR (Ab.vAdd (.str a) (.str b) st) Q X := by
  simp only [uR] at *
  show Ab.WpR (if a.length + b.length ≤ sizeLine then .ok (.str (a ++ b)) st else .bad) Q X
  rw [if_pos (by rw [sizeLine_eq]; omega)]
  exact q
theorem v_ixS {z : Str} {i : Int} {c : Nat} (hl : z.length ≤ 1000000) (h : L2.atI z.cps.toList i = some c) (q : Q (.str ⟨#[c]⟩) st) : WpR (Ab.vIx (.str z) (.int i) st) Q X := by
  simp only [uR] at *
  show Ab.WpR (if z.length ≤ sizeLine then match L2.atI z.cps.toList i with | some c => .ok (.str ⟨#[c]⟩) st | none => .bad else .bad) Q X
  rw [if_pos (by rw [sizeLine_eq]; omega), h]
  exact q
theorem v_lenStr {z : Str} (hl : z.length ≤ 1000000) (q : Q (.int z.length) st) : WpR (Ab.bLen [.str z] st) Q X := by
  simp only [uR] at *
  show Ab.WpR (if z.length ≤ sizeLine then .ok (.int z.length) st else .bad) Q X
  rw [if_pos (by rw [sizeLine_eq]; omega)]
  exact q
end
end Vc

set_option Elab.async false
set_option linter.all false
set_option maxRecDepth 100000
set_option maxHeartbeats 1000000
/-! AbLcX1: an exception that leaves a comprehension's element: from the block's air into the def's own. -/
namespace Ab
open PySem PySem.Spec PyProof.Rows L2
section
variable {M : Model} {A : Around} {E : Value → Shared → Prop} {s : Shared} {Z : Obj → Prop} {base : Heap} {env : Env} {outer : List Env} {L C e : Addr}
end
section
variable {X : Cx} {pins : List (Addr × Obj)} {σ : L2.St} {s : Shared} {H : Hp} {scope : Scope} {C : Addr} {cl : List (Str × Addr)} {fp : List Addr} {W : WX}
end
end Ab

set_option Elab.async false
set_option linter.all false
set_option maxRecDepth 100000
set_option maxHeartbeats 1000000
/-! AbLcX2: [elt for x in iter] where the element may let an exception out. -/
namespace Ab
open PySem PySem.Spec PyProof.Rows L2
section
variable {X : Cx} {pins : List (Addr × Obj)} {s : Shared} {σ : L2.St} {H : Hp} {Q : VK} {W : WX}
end
/-! the mirror -/
open Classical in
noncomputable def lcMX (g : MG) (elt : ME) (okp : Store → Prop) (D : Nat) (ρ : Slots) : List Val → Store → R Val
  | [], st => if okp st then .ok (.ref D) st else .bad
  | w :: ws, st => if okp st then match g w ρ st with
      | none => .bad
      | some (ρ1, st1) => (elt ρ1 st1).bind fun y st3 => match st3[D]? with
          | some (.lst acc) => if acc.length < sizeLine then lcMX g elt okp D ρ ws (st3.set D (.lst (acc ++ [y]))) else .bad
          | _ => .bad
    else .bad
@[reducible] noncomputable def mLcX (mi : MI) (g : MG) (elt : ME) (vs : List Nat) : ME := fun ρ st => (mi ρ st).bind fun it st1 => lcMX g elt it.2 st1.length (wipeM ρ vs) it.1 (st1 ++ [.lst []])
section
variable {X : Cx} {elt tg iter : Expr} {scope : Scope} {own : List (Str × Nat)} {pos : Pos} {mi : MI} {g : MG} {me : ME}
end
end Ab

set_option Elab.async false
set_option linter.all false
set_option maxRecDepth 100000
set_option maxHeartbeats 1000000
/-! AbLcX3: comprehensions that may raise: the sealed form and the wishes' rules. -/
namespace Se
noncomputable def mLcX := @Ab.mLcX
end Se
namespace Vc
open PySem PySem.Spec Ab
section
variable {α : Type} {st : Store} {ρ : Slots} {m : ME} {Q : Val → Store → Prop} {X : Exc → Store → Prop}
end
end Vc

set_option Elab.async false
set_option linter.all false
/-! Flows, in plain Lean: what a barrel does in a round; rounds alike; few stretches. -/
namespace Fl
structure R4 where
  lev : Int
  drawn : Int
  missed : Int
  over : Int
  deriving DecidableEq
def tick (cap L w d : Int) : R4 := ⟨L + w - max 0 (L + w - cap) - min d (L + w - max 0 (L + w - cap)), min d (L + w - max 0 (L + w - cap)), d - min d (L + w - max 0 (L + w - cap)), max 0 (L + w - cap)⟩
/-- the ticks of a round: (water, draw) each -/
def play (cap : Int) : Int → List (Int × Int) → List R4
  | _, [] => []
  | L, (w, d) :: r => tick cap L w d :: play cap (tick cap L w d).lev r
def fin (cap : Int) : Int → List (Int × Int) → Int
  | L, [] => L
  | L, (w, d) :: r => fin cap (tick cap L w d).lev r
def Pos (x : List (Int × Int)) : Prop := ∀ p ∈ x, 0 ≤ p.1 ∧ 0 ≤ p.2
def over (cap L : Int) (x : List (Int × Int)) : Prop := ∃ t ∈ play cap L x, 0 < t.over
theorem Pos.tail {p : Int × Int} {r : List (Int × Int)} (h : Pos (p :: r)) : Pos r := fun q hq => h q (List.mem_cons_of_mem _ hq)
def Dn (q : Int) : Int → List (Int × Int) → Prop
  | _, [] => True
  | n, (w, d) :: r => q ≤ n + w - d ∧ Dn q (n + w - d) r
/-! ### the rounds of a barrel, one after another -/
section
variable (cap : Int) (draws : List Int) (I : Nat → List Int)
/-- the level at the beginning of a round -/
def Lv : Nat → Int
  | 0 => 0
  | n + 1 => fin cap (Lv n) ((I n).zip draws)
def rows (n : Nat) : List R4 := play cap (Lv cap draws I n) ((I n).zip draws)
end
def p3 (t : R4) : Int × Int × Int := (t.drawn, t.missed, t.over)
structure Str where
  begin : Nat
  count : Option Nat
  lev : Int
  step : Int
  inflow : List Int
def Str.play (cap : Int) (draws : List Int) (s : Str) : List R4 := Fl.play cap s.lev (s.inflow.zip draws)
def Str.at (cap : Int) (draws : List Int) (s : Str) (n : Nat) : List R4 := Fl.play cap (s.lev + ((n : Int) - s.begin) * s.step) (s.inflow.zip draws)
structure Fit (cap : Int) (draws : List Int) (I : Nat → List Int) : Prop where
  c0 : 0 ≤ cap
  d0 : ∀ d ∈ draws, 0 ≤ d
  i0 : ∀ n, ∀ w ∈ I n, 0 ≤ w
  il : ∀ n, (I n).length = draws.length
section
variable {cap : Int} {draws : List Int} {I : Nat → List Int}
theorem zip_pos {xs ds : List Int} (h1 : ∀ w ∈ xs, 0 ≤ w) (h2 : ∀ d ∈ ds, 0 ≤ d) : Pos (xs.zip ds) := fun p hp => ⟨h1 _ (List.of_mem_zip hp).1, h2 _ (List.of_mem_zip hp).2⟩
theorem Fit.pos (F : Fit cap draws I) (n : Nat) : Pos ((I n).zip draws) := zip_pos (F.i0 n) F.d0
/-! ### a chain of stretches -/
def Chain : Nat → List Str → Option Nat → Prop
  | b, [], e => e = some b
  | b, s :: r, e => s.begin = b ∧ match s.count with
    | some k => 0 < k ∧ Chain (b + k) r e
    | none => r = [] ∧ e = none
theorem Chain.snoc {s : Str} : ∀ {S : List Str} {b m : Nat}, Chain b S (some m) → s.begin = m → (∀ k, s.count = some k → 0 < k) → Chain b (S ++ [s]) (s.count.map (m + ·))
  | [], b, m, h, hs, hk => by
    rw [Chain] at h
    cases h
    rw [List.nil_append, Chain]
    refine ⟨hs, ?_⟩
    cases e : s.count with
    | none => exact ⟨rfl, rfl⟩
    | some k => exact ⟨hk k e, rfl⟩
  | x :: S, b, m, h, hs, hk => by
    rw [Chain] at h
    obtain ⟨h1, h2⟩ := h
    rw [List.cons_append, Chain]
    refine ⟨h1, ?_⟩
    cases e : x.count with
    | none => rw [e] at h2; cases h2.2
    | some k => rw [e] at h2; exact ⟨h2.1, h2.2.snoc hs hk⟩
end
end Fl

set_option Elab.async false
set_option linter.all false
set_option maxRecDepth 100000
set_option maxHeartbeats 2000000
namespace K47
open PySem PySem.Spec PyProof.Rows L2
open Ab hiding mLcX mIsiTO mRevS mChain3 sPar3 sFgt mOutsO sWhile mVar mC mBin mTest mChain tAndM tOrM tNotM mAnd mOr mNot mIf aNil aCons mTup mLst mApp mCut oNone oSome sNext sSeq sSet sRet sDrop sIf sAug sBreak sCont gSet gsNil gsCons gTupM sAsg sPar sFor iRange1 iRange2 mFld sFldM sFldAugM mMeth mProp vMake iEnumM iZipM iSeqM iStrM mYes mLc mBM gSubL mIsi sRaise sRaise0 aStar mOp mLen mDget gSubD mDisp mItems mDc gFld mOutcome mBad sBad mNeg mCall mGetO mOpT mIsiO gTupS iKeysM iValsM mDisp0 mOutOne mCm mMakeV mSup mMake0 mCon mOpG gPl gYl gSq gFr mListG mListV
open Se
noncomputable def m_law_mix : MS := sSeq (sSet 2 (mVar 1)) (sSeq (sFor (iSeqM (mVar 0)) (gSet 3) (sSet 2 (mBin vMod (mBin vAdd (mBin vAdd (mBin vMul (mVar 2) (mC (.int 48271))) (mBin vMod (mVar 3) (mC (.int 2147483629)))) (mC (.int 1))) (mC (.int 2147483647))))) (sRet (mLst (aCons (mVar 2) (aCons (mApp bList (aCons (mVar 0) (aNil))) (aCons (mC (.int 0)) (aNil)))))))
noncomputable def f_law_mix : MF := defM 2 2 m_law_mix
noncomputable def m_law_next : MS := sSeq (sSet 2 (mBin vIx (mBin vAdd (mBin vIx (mVar 0) (mC (.int 1))) (mLst (aCons (mC (.int 0)) (aNil)))) (mBin vMod (mBin vIx (mVar 0) (mC (.int 2))) (mApp bMax2 (aCons (mC (.int 1)) (aCons (mApp bLen (aCons (mBin vIx (mVar 0) (mC (.int 1))) (aNil))) (aNil))))))) (sSeq (sIf (mTest (mBin vGe (mVar 2) (mBin vPow (mC (.int 10)) (mC (.int 18))))) (sSeq (sAsg (mBin vDiv (mVar 2) (mVar 1)) (gSubL (mBin vIx (mVar 0) (mC (.int 1))) (mBin vMod (mBin vIx (mVar 0) (mC (.int 2))) (mApp bLen (aCons (mBin vIx (mVar 0) (mC (.int 1))) (aNil)))))) (sRet (mBin vMod (mVar 2) (mVar 1)))) (sNext)) (sSeq (sAsg (mBin vMod (mBin vAdd (mBin vAdd (mBin vMul (mBin vIx (mVar 0) (mC (.int 0))) (mC (.int 48271))) (mBin vMul (mVar 2) (mC (.int 69621)))) (mC (.int 11))) (mC (.int 2147483647))) (gSubL (mVar 0) (mC (.int 0)))) (sSeq (sAsg (mBin vAdd (mBin vIx (mVar 0) (mC (.int 2))) (mC (.int 1))) (gSubL (mVar 0) (mC (.int 2)))) (sRet (mBin vMod (mBin vDiv (mBin vIx (mVar 0) (mC (.int 0))) (mC (.int 7))) (mVar 1))))))
noncomputable def f_law_next : MF := defM 2 1 m_law_next
noncomputable def m_law_parts : MS := sSeq (sPar 3 4 (aCons (mBin vAdd (mC (.int 1)) (mApp f_law_next (aCons (mVar 0) (aCons (mVar 1) (aNil))))) (aCons (mLst (aNil)) (aNil)))) (sSeq (sSet 5 (mApp bTuple (aCons (mLc (iRange1 (aCons (mVar 3) (aNil))) (gSet 6) (mYes) (mBin vMul (mApp f_law_next (aCons (mVar 0) (aCons (mVar 2) (aNil)))) (mApp bIntB (aCons (mBin vGt (mApp f_law_next (aCons (mVar 0) (aCons (mC (.int 3)) (aNil)))) (mC (.int 0))) (aNil)))) [6]) (aNil)))) (sSeq (sFor (iRange1 (aCons (mBin vAdd (mC (.int 1)) (mApp f_law_next (aCons (mVar 0) (aCons (mC (.int 4)) (aNil))))) (aNil))) (gSet 6) (sSeq (sSet 7 (mBin vIx (mLst (aCons (mC (.str "top")) (aCons (mC (.str "mid")) (aCons (mC (.str "low")) (aCons (mC (.str "abcdefgh")) (aNil)))))) (mVar 6))) (sSeq (sSet 8 (mApp bTuple (aCons (mLc (iRange1 (aCons (mVar 3) (aNil))) (gSet 9) (mYes) (mBin vMul (mApp f_law_next (aCons (mVar 0) (aCons (mBin vMul (mC (.int 2)) (mVar 2)) (aNil)))) (mApp bIntB (aCons (mBin vGt (mApp f_law_next (aCons (mVar 0) (aCons (mC (.int 3)) (aNil)))) (mC (.int 0))) (aNil)))) [9]) (aNil)))) (sDrop (mBM "list" vAppend (mVar 4) (aCons (mTup (aCons (mVar 7) (aCons (mApp f_law_next (aCons (mVar 0) (aCons (mBin vMul (mC (.int 5)) (mVar 2)) (aNil)))) (aCons (mApp f_law_next (aCons (mVar 0) (aCons (mC (.int 3)) (aNil)))) (aCons (mVar 8) (aNil)))))) aNil)))))) (sRet (mTup (aCons (mVar 5) (aCons (mApp bTuple (aCons (mVar 4) (aNil))) (aNil)))))))
noncomputable def f_law_parts : MF := defM 3 7 m_law_parts
noncomputable def m_law_tick : MS := sSeq (sAsg (mTup (aCons (mLst (aNil)) (aCons (mC (.int 0)) (aCons (mC (.int 0)) (aCons (mC (.int 0)) (aNil)))))) (gTupM 4 (gsCons (gSet 5) (gsCons (gSet 6) (gsCons (gSet 7) (gsCons (gSet 8) (gsNil))))))) (sSeq (sFor (iRange1 (aCons (mApp bLen (aCons (mVar 1) (aNil))) (aNil))) (gSet 9) (sSeq (sAsg (mBin vIx (mBin vIx (mVar 0) (mC (.int 1))) (mVar 9)) (gTupM 4 (gsCons (gSet 10) (gsCons (gSet 11) (gsCons (gSet 12) (gsCons (gSet 13) (gsNil))))))) (sSeq (sSet 14 (mBin vAdd (mBin vAdd (mBin vIx (mVar 1) (mVar 9)) (mBin vMul (mVar 12) (mVar 3))) (mVar 8))) (sSeq (sSet 8 (mIf (mTest (mBin vGt (mVar 14) (mVar 11))) (mBin vSub (mVar 14) (mVar 11)) (mC (.int 0)))) (sSeq (sPar 14 15 (aCons (mBin vSub (mVar 14) (mVar 8)) (aCons (mBin vIx (mVar 13) (mBin vMod (mVar 2) (mApp bLen (aCons (mVar 13) (aNil))))) (aNil)))) (sSeq (sSet 16 (mIf (mTest (mBin vIn (mVar 10) (mVar 4))) (mC (.int 0)) (mIf (mTest (mBin vLt (mVar 15) (mVar 14))) (mVar 15) (mVar 14)))) (sSeq (sDrop (mBM "list" vAppend (mVar 5) (aCons (mBin vSub (mVar 14) (mVar 16)) aNil))) (sPar 6 7 (aCons (mBin vAdd (mVar 6) (mVar 16)) (aCons (mBin vSub (mBin vAdd (mVar 7) (mVar 15)) (mVar 16)) (aNil))))))))))) (sRet (mTup (aCons (mVar 5) (aCons (mVar 6) (aCons (mVar 7) (aCons (mVar 8) (aNil))))))))
noncomputable def f_law_tick : MF := defM 5 12 m_law_tick
noncomputable def m_law_run : MS := sSeq (sPar3 3 4 5 (aCons (mBin vRepL (mLst (aCons (mC (.int 0)) (aNil))) (mApp bLen (aCons (mBin vIx (mVar 0) (mC (.int 1))) (aNil)))) (aCons (mC (.int 0)) (aCons (mC (.bl true)) (aNil))))) (sSeq (sFor (iSeqM (mVar 1)) (gSet 6) (sIf (mTest (mBin vEq (mBin vIx (mVar 6) (mC (.int 0))) (mC (.str "rain")))) (sSeq (sSet 3 (mBin vIx (mApp f_law_tick (aCons (mVar 0) (aCons (mVar 3) (aCons (mVar 4) (aCons (mIf (mTest (mBin vIsN (mBin vIx (mVar 6) (mC (.int 1))) (mC .non))) (mVar 2) (mBin vIx (mVar 6) (mC (.int 1)))) (aCons (mTup (aNil)) (aNil))))))) (mC (.int 0)))) (sSet 4 (mBin vAdd (mVar 4) (mC (.int 1))))) (sSet 5 (mAnd (mVar 5) (mBin vEq (mBin vIx (mVar 3) (mBin vIx (mVar 6) (mC (.int 1)))) (mBin vIx (mVar 6) (mC (.int 2)))))))) (sRet (mTup (aCons (mVar 5) (aCons (mVar 3) (aNil))))))
noncomputable def f_law_run : MF := defM 3 4 m_law_run
noncomputable def m_law_text : MS := sSeq (sPar 2 3 (aCons (mLst (aNil)) (aCons (mLst (aNil)) (aNil)))) (sSeq (sPar 4 5 (aCons (mApp f_law_next (aCons (mVar 0) (aCons (mC (.int 16)) (aNil)))) (aCons (mApp f_law_next (aCons (mVar 0) (aCons (mC (.int 12)) (aNil)))) (aNil)))) (sSeq (sFor (iRange1 (aCons (mApp f_law_next (aCons (mVar 0) (aCons (mC (.int 16)) (aNil)))) (aNil))) (gSet 6) (sIf (mTest (mBin vEq (mApp f_law_next (aCons (mVar 0) (aCons (mC (.int 2)) (aNil)))) (mC (.int 0)))) (sSeq (sDrop (mBM "list" vAppend (mVar 3) (aCons (mTup (aCons (mC (.str "rain")) (aCons (mIf (mTest (mBin vEq (mVar 6) (mVar 4))) (mVar 5) (mApp f_law_next (aCons (mVar 0) (aCons (mC (.int 9)) (aNil))))) (aNil)))) aNil))) (sDrop (mBM "list" vAppend (mVar 2) (aCons (mIf (mTest (mBin vEq (mVar 6) (mVar 4))) (mC (.str "rain ?")) (mBin vAdd (mC (.str "rain ")) (mApp bStrI (aCons (mBin vIx (mBin vIx (mVar 3) (mNeg (mC (.int 1)))) (mC (.int 1))) (aNil))))) aNil)))) (sSeq (sSet 7 (mApp f_law_next (aCons (mVar 0) (aCons (mApp bLen (aCons (mBin vIx (mVar 1) (mC (.int 1))) (aNil))) (aNil))))) (sSeq (sSet 8 (mBin vIx (mBin vIx (mApp f_law_run (aCons (mVar 1) (aCons (mVar 3) (aCons (mC (.int 0)) (aNil))))) (mC (.int 1))) (mVar 7))) (sDrop (mBM "list" vAppend (mVar 2) (aCons (mBin vAdd (mBin vAdd (mBin vAdd (mC (.str "level ")) (mBin vIx (mBin vIx (mBin vIx (mVar 1) (mC (.int 1))) (mVar 7)) (mC (.int 0)))) (mC (.str " "))) (mApp bStrI (aCons (mVar 8) (aNil)))) aNil))))))) (sSeq (sIf (mTest (mBin vEq (mApp f_law_next (aCons (mVar 0) (aCons (mC (.int 3)) (aNil)))) (mC (.int 0)))) (sSeq (sSet 9 (mApp f_law_next (aCons (mVar 0) (aCons (mBin vAdd (mApp bLen (aCons (mVar 2) (aNil))) (mC (.int 1))) (aNil))))) (sSeq (sSet 10 (mBin vIx (mLst (aCons (mC (.str "")) (aCons (mC (.str "rain ?")) (aCons (mC (.str "rain 01")) (aCons (mC (.str "rain 1000001")) (aCons (mC (.str "level no 1")) (aCons (mC (.str "level top")) (aCons (mC (.str "level top 1")) (aCons (mC (.str "Rain 1")) (aNil)))))))))) (mApp f_law_next (aCons (mVar 0) (aCons (mC (.int 8)) (aNil)))))) (sSet 2 (mBin vAdd (mBin vAdd (mCut (mVar 2) oNone (oSome (mVar 9))) (mLst (aCons (mVar 10) (aNil)))) (mCut (mVar 2) (oSome (mBin vAdd (mVar 9) (mApp f_law_next (aCons (mVar 0) (aCons (mC (.int 2)) (aNil)))))) oNone))))) (sNext)) (sRet (mBM "str" vJoin (mC (.str "\n")) (aCons (mIf (mTest (mBin vEq (mApp f_law_next (aCons (mVar 0) (aCons (mC (.int 12)) (aNil)))) (mC (.int 0)))) (mBin vAdd (mVar 2) (mBin vRepL (mLst (aCons (mC (.str "rain 0")) (aNil))) (mBin vAdd (mC (.int 299)) (mApp f_law_next (aCons (mVar 0) (aCons (mC (.int 3)) (aNil))))))) (mVar 2)) aNil))))))
noncomputable def f_law_text : MF := defM 2 9 m_law_text
noncomputable def m_law_event : MS := sSeq (sSet 2 (mLc (iSeqM (mCut (mVar 1) (oSome (mC (.int 1))) oNone)) (gSet 3) (tAndM (mTest (mBin vEq (mLc (iStrM (mVar 3)) (gSet 4) (tNotM (mTest (mChain vLe vLe (mC (.str "0")) (mVar 4) (mC (.str "9"))))) (mVar 4) [4]) (mLst (aNil)))) (mTest (mBin vNe (mVar 3) (mC (.str ""))))) (mVar 3) [3])) (sSeq (sSet 5 (mLc (iSeqM (mVar 2)) (gSet 3) (tOrM (mTest (mBin vEq (mVar 3) (mC (.str "0")))) (mTest (mBin vNe (mBin vIx (mVar 3) (mC (.int 0))) (mC (.str "0"))))) (mVar 3) [3])) (sSeq (sIf (tAndM (mTest (mBin vEq (mApp bLen (aCons (mVar 1) (aNil))) (mC (.int 2)))) (mTest (mBin vEq (mBin vIx (mVar 1) (mC (.int 0))) (mC (.str "rain"))))) (sSeq (sIf (mTest (mBin vEq (mBin vIx (mVar 1) (mC (.int 1))) (mC (.str "?")))) (sRet (mTup (aCons (mC (.str "rain")) (aCons (mC .non) (aNil))))) (sNext)) (sIf (tAndM (mTest (mBin vNe (mVar 5) (mLst (aNil)))) (tAndM (mTest (mBin vLe (mApp bLen (aCons (mBin vIx (mVar 5) (mC (.int 0))) (aNil))) (mC (.int 7)))) (mTest (mBin vLe (mApp bIntS (aCons (mBin vIx (mVar 5) (mC (.int 0))) (aNil))) (mBin vPow (mC (.int 10)) (mC (.int 6))))))) (sRet (mTup (aCons (mC (.str "rain")) (aCons (mApp bIntS (aCons (mBin vIx (mVar 5) (mC (.int 0))) (aNil))) (aNil))))) (sNext))) (sNext)) (sSeq (sIf (tAndM (mTest (mBin vEq (mApp bLen (aCons (mVar 1) (aNil))) (mC (.int 3)))) (tAndM (mTest (mBin vEq (mBin vIx (mVar 1) (mC (.int 0))) (mC (.str "level")))) (tAndM (mTest (mBin vIn (mBin vIx (mVar 1) (mC (.int 1))) (mVar 0))) (tAndM (mTest (mBin vIn (mBin vIx (mVar 1) (mC (.int 2))) (mVar 5))) (mTest (mBin vLe (mApp bLen (aCons (mBin vIx (mVar 1) (mC (.int 2))) (aNil))) (mC (.int 10)))))))) (sRet (mTup (aCons (mC (.str "level")) (aCons (mBM "list" vIndex (mVar 0) (aCons (mBin vIx (mVar 1) (mC (.int 1))) aNil)) (aCons (mApp bIntS (aCons (mBin vIx (mVar 1) (mC (.int 2))) (aNil))) (aNil)))))) (sNext)) (sRet (mC .non)))))
noncomputable def f_law_event : MF := defM 2 4 m_law_event
noncomputable def m_law_due : MS := sSeq (sPar3 2 3 4 (aCons (mLst (aNil)) (aCons (mLc (iSeqM (mBin vIx (mVar 0) (mC (.int 1)))) (gSet 5) (mYes) (mBin vIx (mVar 5) (mC (.int 0))) [5]) (aCons (mIf (mTest (mBin vNe (mVar 1) (mC (.str "")))) (mBM "str" vSplit (mVar 1) (aCons (mC (.str "\n")) aNil)) (mLst (aNil))) (aNil))))) (sSeq (sFor (iRange1 (aCons (mApp bLen (aCons (mVar 4) (aNil))) (aNil))) (gSet 6) (sSeq (sSet 7 (mIf (mTest (mBin vLt (mVar 6) (mC (.int 300)))) (mApp f_law_event (aCons (mVar 3) (aCons (mBM "str" vSplit (mBin vIx (mVar 4) (mVar 6)) (aCons (mC (.str " ")) aNil)) (aNil)))) (mC .non))) (sSeq (sSet 8 (mBin vNe (mLc (iSeqM (mVar 2)) (gSet 5) (mTest (mBin vIsN (mBin vIx (mVar 5) (mC (.int 1))) (mC .non))) (mVar 5) [5]) (mLst (aNil)))) (sSeq (sIf (tOrM (mTest (mBin vIsN (mVar 7) (mC .non))) (tAndM (mTest (mBin vIsN (mBin vIx (mVar 7) (mC (.int 1))) (mC .non))) (mTest (mVar 8)))) (sRet (mTup (aCons (mC (.str "daybook")) (aCons (mVar 6) (aNil))))) (sNext)) (sSeq (sDrop (mBM "list" vAppend (mVar 2) (aCons (mVar 7) aNil))) (sIf (tAndM (tNotM (mTest (mVar 8))) (tAndM (mTest (mBin vEq (mBin vIx (mVar 7) (mC (.int 0))) (mC (.str "level")))) (tNotM (mTest (mBin vIx (mApp f_law_run (aCons (mVar 0) (aCons (mVar 2) (aCons (mC (.int 0)) (aNil))))) (mC (.int 0))))))) (sRet (mTup (aCons (mC (.str "daybook")) (aCons (mVar 6) (aNil))))) (sNext))))))) (sRet (mTup (aCons (mC (.str "value")) (aCons (mVar 2) (aNil))))))
noncomputable def f_law_due : MF := defM 2 7 m_law_due
noncomputable def m_Row_len : MS := sRet (mApp bLen (aCons (mFld [13] 30 (mVar 0)) (aNil)))
noncomputable def f_Row_len : MF := defM 1 0 m_Row_len
noncomputable def m_Row_barrels : MS := sRet (mFld [13] 30 (mVar 0))
noncomputable def f_Row_barrels : MF := defM 1 0 m_Row_barrels
noncomputable def m_Daybook_has_unknown : MS := sRet (mBin vNe (mLc (iSeqM (mFld [22] 58 (mVar 0))) (gSet 1) (mTest (mBin vIsN (mBin vIx (mVar 1) (mC (.int 1))) (mC .non))) (mVar 1) [1]) (mLst (aNil)))
noncomputable def f_Daybook_has_unknown : MF := defM 1 1 m_Daybook_has_unknown
noncomputable def m_is_figure : MS := sSeq (sIf (tOrM (tNotM (mTest (mChain vLe vLe (mC (.int 1)) (mApp bLen (aCons (mVar 0) (aNil))) (mVar 1)))) (mTest (mBin vNe (mLc (iStrM (mVar 0)) (gSet 2) (mTest (mBin vNotIn (mVar 2) (mC (.str "0123456789")))) (mVar 2) [2]) (mLst (aNil))))) (sRet (mC (.bl false))) (sNext)) (sRet (mOr (mBin vEq (mApp bLen (aCons (mVar 0) (aNil))) (mC (.int 1))) (mBin vNe (mBin vIx (mVar 0) (mC (.int 0))) (mC (.str "0")))))
noncomputable def f_is_figure : MF := defM 2 1 m_is_figure
noncomputable def m_Daybook_event_of : MS := sSeq (sSet 2 (mLc (iSeqM (mProp [(13, f_Row_barrels)] (mFld [22] 51 (mVar 0)))) (gTupS 1 (gsCons (gSet 3) (gsCons (gSet 4) (gsNil)))) (mYes) (mVar 3) [3, 4])) (sSeq (sIf (tAndM (mTest (mBin vEq (mApp bLen (aCons (mVar 1) (aNil))) (mC (.int 2)))) (mTest (mBin vEq (mBin vIx (mVar 1) (mC (.int 0))) (mC (.str "rain"))))) (sSeq (sIf (tAndM (mTest (mBin vEq (mBin vIx (mVar 1) (mC (.int 1))) (mC (.str "?")))) (tNotM (mTest (mMeth [(22, f_Daybook_has_unknown)] (mVar 0) aNil)))) (sRet (mTup (aCons (mC (.str "rain")) (aCons (mC .non) (aNil))))) (sNext)) (sIf (tAndM (mTest (mApp f_is_figure (aCons (mBin vIx (mVar 1) (mC (.int 1))) (aCons (mC (.int 7)) (aNil))))) (mTest (mBin vLe (mApp bIntS (aCons (mBin vIx (mVar 1) (mC (.int 1))) (aNil))) (mC (.int 1000000))))) (sRet (mTup (aCons (mC (.str "rain")) (aCons (mApp bIntS (aCons (mBin vIx (mVar 1) (mC (.int 1))) (aNil))) (aNil))))) (sNext))) (sNext)) (sSeq (sIf (tAndM (mTest (mBin vEq (mApp bLen (aCons (mVar 1) (aNil))) (mC (.int 3)))) (tAndM (mTest (mBin vEq (mBin vIx (mVar 1) (mC (.int 0))) (mC (.str "level")))) (tAndM (mTest (mBin vIn (mBin vIx (mVar 1) (mC (.int 1))) (mVar 2))) (mTest (mApp f_is_figure (aCons (mBin vIx (mVar 1) (mC (.int 2))) (aCons (mC (.int 10)) (aNil)))))))) (sRet (mTup (aCons (mC (.str "level")) (aCons (mBM "list" vIndex (mVar 2) (aCons (mBin vIx (mVar 1) (mC (.int 1))) aNil)) (aCons (mApp bIntS (aCons (mBin vIx (mVar 1) (mC (.int 2))) (aNil))) (aNil)))))) (sNext)) (sRet (mC .non))))
noncomputable def f_Daybook_event_of : MF := defM 2 3 m_Daybook_event_of
noncomputable def m_next_tick : MS := sSeq (sAsg (mTup (aCons (mLst (aNil)) (aCons (mC (.int 0)) (aCons (mC (.int 0)) (aCons (mC (.int 0)) (aNil)))))) (gTupM 4 (gsCons (gSet 5) (gsCons (gSet 6) (gsCons (gSet 7) (gsCons (gSet 8) (gsNil))))))) (sSeq (sFor (iZipM (mVar 1) (mProp [(13, f_Row_barrels)] (mVar 0))) (gTupM 2 (gsCons (gSet 9) (gsCons (gTupM 4 (gsCons (gSet 10) (gsCons (gSet 11) (gsCons (gSet 12) (gsCons (gSet 13) (gsNil)))))) (gsNil)))) (sSeq (sSet 14 (mBin vAdd (mBin vAdd (mVar 9) (mBin vMul (mVar 12) (mVar 3))) (mVar 8))) (sSeq (sSet 8 (mApp bMax2 (aCons (mC (.int 0)) (aCons (mBin vSub (mVar 14) (mVar 11)) (aNil))))) (sSeq (sPar 15 16 (aCons (mBin vSub (mVar 14) (mVar 8)) (aCons (mBin vIx (mVar 13) (mBin vMod (mApp bIntB (aCons (mVar 2) (aNil))) (mApp bLen (aCons (mVar 13) (aNil))))) (aNil)))) (sSeq (sSet 17 (mIf (mTest (mBin vIn (mVar 10) (mVar 4))) (mC (.int 0)) (mApp bMin2 (aCons (mVar 15) (aCons (mVar 16) (aNil)))))) (sSeq (sDrop (mBM "list" vAppend (mVar 5) (aCons (mBin vSub (mVar 15) (mVar 17)) aNil))) (sSeq (sAug 6 vIAdd (mVar 17)) (sAug 7 vIAdd (mBin vSub (mVar 16) (mVar 17)))))))))) (sRet (mTup (aCons (mApp bTuple (aCons (mVar 5) (aNil))) (aCons (mVar 6) (aCons (mVar 7) (aCons (mVar 8) (aNil))))))))
noncomputable def f_next_tick : MF := defM 5 13 m_next_tick
noncomputable def m_Daybook_rained : MS := sSeq (sIf (tOrM (mTest (mBin vIsN (mVar 1) (mC .non))) (mTest (mBin vIsN (mVar 3) (mC .non)))) (sRet (mC .non)) (sNext)) (sRet (mBin vIx (mApp f_next_tick (aCons (mFld [22] 51 (mVar 0)) (aCons (mVar 1) (aCons (mVar 2) (aCons (mVar 3) (aCons (mTup (aNil)) (aNil))))))) (mC (.int 0))))
noncomputable def f_Daybook_rained : MF := defM 4 0 m_Daybook_rained
noncomputable def m_Daybook_init : MS := sSeq (sFldM [22] 51 (mVar 0) (mVar 1)) (sSeq (sFldM [22] 58 (mVar 0) (mLst (aNil))) (sSeq (sSet 3 (mBin vRepT (mTup (aCons (mC (.int 0)) (aNil))) (mLen 13 f_Row_len (mVar 1)))) (sFor (iEnumM (mIf (mTest (mBin vNe (mVar 2) (mC (.str "")))) (mBM "str" vSplit (mVar 2) (aCons (mC (.str "\n")) aNil)) (mLst (aNil)))) (gTupM 2 (gsCons (gSet 4) (gsCons (gSet 5) (gsNil)))) (sSeq (sSet 6 (mIf (mTest (mBin vLt (mVar 4) (mC (.int 300)))) (mMeth [(22, f_Daybook_event_of)] (mVar 0) (aCons (mBM "str" vSplit (mVar 5) (aCons (mC (.str " ")) aNil)) (aNil))) (mC .non))) (sSeq (sIf (mTest (mBin vIsN (mVar 6) (mC .non))) (sRaise 9 [27] (aCons (mVar 4) (aNil))) (sNext)) (sSeq (sIf (mTest (mBin vEq (mBin vIx (mVar 6) (mC (.int 0))) (mC (.str "rain")))) (sSeq (sSet 7 (mApp bLen (aCons (mLc (iSeqM (mFld [22] 58 (mVar 0))) (gSet 8) (mTest (mBin vEq (mBin vIx (mVar 8) (mC (.int 0))) (mC (.str "rain")))) (mVar 8) [8]) (aNil)))) (sSet 3 (mMeth [(22, f_Daybook_rained)] (mVar 0) (aCons (mVar 3) (aCons (mVar 7) (aCons (mBin vIx (mVar 6) (mC (.int 1))) (aNil))))))) (sIf (tAndM (mTest (mBin vNotN (mVar 3) (mC .non))) (mTest (mBin vNe (mBin vIx (mVar 3) (mBin vIx (mVar 6) (mC (.int 1)))) (mBin vIx (mVar 6) (mC (.int 2)))))) (sRaise 9 [27] (aCons (mVar 4) (aNil))) (sNext))) (sDrop (mBM "list" vAppend (mFld [22] 58 (mVar 0)) (aCons (mVar 6) aNil)))))))))
noncomputable def f_Daybook_init : MF := defM 3 6 m_Daybook_init
noncomputable def m_is_name : MS := sRet (mAnd (mChain vLe vLe (mC (.int 1)) (mApp bLen (aCons (mVar 0) (aNil))) (mC (.int 8))) (mApp bAll (aCons (mLc (iStrM (mVar 0)) (gSet 1) (mYes) (mBin vIn (mVar 1) (mC (.str "abcdefghijklmnopqrstuvwxyz"))) [1]) (aNil))))
noncomputable def f_is_name : MF := defM 1 1 m_is_name
noncomputable def m_is_barrel : MS := sSeq (sAsg (mVar 0) (gTupM 4 (gsCons (gSet 2) (gsCons (gSet 3) (gsCons (gSet 4) (gsCons (gSet 5) (gsNil))))))) (sSeq (sIf (tOrM (tNotM (mTest (mApp f_is_name (aCons (mVar 2) (aNil))))) (tOrM (tNotM (mTest (mChain vLe vLe (mC (.int 0)) (mVar 3) (mC (.int 1000000000))))) (tNotM (mTest (mChain vLe vLe (mC (.int 0)) (mVar 4) (mC (.int 100))))))) (sRet (mC (.bl false))) (sNext)) (sRet (mAnd (mBin vEq (mApp bLen (aCons (mVar 5) (aNil))) (mVar 1)) (mApp bAll (aCons (mLc (iSeqM (mVar 5)) (gSet 6) (mYes) (mChain vLe vLe (mC (.int 0)) (mVar 6) (mC (.int 1000000000))) [6]) (aNil))))))
noncomputable def f_is_barrel : MF := defM 2 5 m_is_barrel
noncomputable def m_Row_init : MS := sSeq (sFor (iEnumM (mVar 1)) (gTupM 2 (gsCons (gSet 3) (gsCons (gSet 4) (gsNil)))) (sIf (tOrM (mTest (mBin vEq (mVar 3) (mC (.int 12)))) (tNotM (mTest (mChain vLe vLe (mC (.int 0)) (mVar 4) (mC (.int 1000000)))))) (sRaise 1 [24, 25] (aCons (mC (.str "rain")) (aCons (mVar 3) (aNil)))) (sNext))) (sSeq (sIf (mTest (mBin vEq (mVar 1) (mTup (aNil)))) (sRaise 1 [24, 25] (aCons (mC (.str "rain")) (aCons (mNeg (mC (.int 1))) (aNil)))) (sNext)) (sSeq (sFor (iEnumM (mVar 2)) (gTupM 2 (gsCons (gSet 3) (gsCons (gSet 5) (gsNil)))) (sSeq (sSet 6 (mLc (iSeqM (mCut (mVar 2) oNone (oSome (mVar 3)))) (gSet 7) (mYes) (mBin vIx (mVar 7) (mC (.int 0))) [7])) (sIf (tOrM (mTest (mBin vEq (mVar 3) (mC (.int 5)))) (tOrM (tNotM (mTest (mApp f_is_barrel (aCons (mVar 5) (aCons (mApp bLen (aCons (mVar 1) (aNil))) (aNil)))))) (mTest (mBin vIn (mBin vIx (mVar 5) (mC (.int 0))) (mVar 6))))) (sRaise 1 [24, 25] (aCons (mC (.str "barrels")) (aCons (mVar 3) (aNil)))) (sNext)))) (sSeq (sIf (mTest (mBin vEq (mVar 2) (mTup (aNil)))) (sRaise 1 [24, 25] (aCons (mC (.str "barrels")) (aCons (mNeg (mC (.int 1))) (aNil)))) (sNext)) (sSeq (sFldM [13] 29 (mVar 0) (mVar 1)) (sFldM [13] 30 (mVar 0) (mVar 2))))))
noncomputable def f_Row_init : MF := defStarM 2 5 m_Row_init
noncomputable def m_Row_add : MS := sSeq (sIf (mTest (mBin vNe (mFld [13] 29 (mVar 0)) (mFld [13] 29 (mVar 1)))) (sRaise0 3) (sNext)) (sSeq (sSet 2 (mBin vAdd (mFld [13] 30 (mVar 0)) (mFld [13] 30 (mVar 1)))) (sRet (mApp (vMake 13 f_Row_init) (aCons (mFld [13] 29 (mVar 0)) (aStar (mVar 2) (aNil))))))
noncomputable def f_Row_add : MF := defM 2 1 m_Row_add
noncomputable def m_law_row : MS := sSeq (sSet 1 (mApp (vMake 13 f_Row_init) (aCons (mBin vIx (mVar 0) (mC (.int 0))) (aCons (mBin vIx (mBin vIx (mVar 0) (mC (.int 1))) (mC (.int 0))) (aNil))))) (sSeq (sFor (iSeqM (mCut (mBin vIx (mVar 0) (mC (.int 1))) (oSome (mC (.int 1))) oNone)) (gSet 2) (sSet 1 (mOp 13 f_Row_add (mVar 1) (mApp (vMake 13 f_Row_init) (aCons (mBin vIx (mVar 0) (mC (.int 0))) (aCons (mVar 2) (aNil))))))) (sRet (mVar 1)))
noncomputable def f_law_row : MF := defM 1 2 m_law_row
noncomputable def m_Daybook_tick_count : MS := sRet (mApp bLen (aCons (mLc (iSeqM (mFld [22] 58 (mVar 0))) (gSet 1) (mTest (mBin vEq (mBin vIx (mVar 1) (mC (.int 0))) (mC (.str "rain")))) (mVar 1) [1]) (aNil)))
noncomputable def f_Daybook_tick_count : MF := defM 1 1 m_Daybook_tick_count
noncomputable def m_Daybook_line_count : MS := sRet (mApp bLen (aCons (mFld [22] 58 (mVar 0)) (aNil)))
noncomputable def f_Daybook_line_count : MF := defM 1 0 m_Daybook_line_count
noncomputable def m_law_alike (rec : MF) : MS := sSeq (sIf (mTest (mIsi [.dict] (mVar 1))) (sBad) (sNext)) (sSeq (sIf (mTest (mIsi [.tuple, .list] (mVar 1))) (sSeq (sIf (tOrM (tNotM (mTest (mIsi [.tuple, .list] (mVar 0)))) (mTest (mBin vNe (mIsi [.list] (mVar 0)) (mIsi [.list] (mVar 1))))) (sRet (mC (.bl false))) (sNext)) (sSeq (sIf (mTest (mBin vNe (mApp bLen (aCons (mVar 0) (aNil))) (mApp bLen (aCons (mVar 1) (aNil))))) (sRet (mC (.bl false))) (sNext)) (sRet (mBin vEq (mLc (iRange1 (aCons (mApp bLen (aCons (mVar 1) (aNil))) (aNil))) (gSet 2) (tNotM (mTest (mApp rec (aCons (mBin vIx (mVar 0) (mVar 2)) (aCons (mBin vIx (mVar 1) (mVar 2)) (aNil)))))) (mVar 2) [2]) (mLst (aNil)))))) (sNext)) (sSeq (sIf (tOrM (mTest (mBin vIsN (mVar 1) (mC .non))) (mTest (mIsi [.str] (mVar 1)))) (sRet (mAnd (mBin vEq (mVar 0) (mVar 1)) (mBin vEq (mIsi [.str] (mVar 0)) (mIsi [.str] (mVar 1))))) (sNext)) (sRet (mAnd (mIsi [.int] (mVar 0)) (mAnd (mBin vEq (mIsi [.bool] (mVar 0)) (mIsi [.bool] (mVar 1))) (mBin vEq (mVar 0) (mVar 1)))))))
noncomputable def f_law_alike : Nat → MF
  | 0 => defM 2 1 sBad
  | n + 1 => defM 2 1 (m_law_alike (f_law_alike n))
noncomputable def m_Daybook_signs_with : MS := sSeq (sPar 2 3 (aCons (mBin vRepT (mTup (aCons (mC (.int 0)) (aNil))) (mLen 13 f_Row_len (mFld [22] 51 (mVar 0)))) (aCons (mC (.int 0)) (aNil)))) (sSeq (sFor (iSeqM (mFld [22] 58 (mVar 0))) (gTupS 1 (gsCons (gSet 4) (gsCons (gSet 5) (gsNil)))) (sIf (mTest (mBin vEq (mVar 4) (mC (.str "rain")))) (sSeq (sSet 2 (mBin vIx (mApp f_next_tick (aCons (mFld [22] 51 (mVar 0)) (aCons (mVar 2) (aCons (mVar 3) (aCons (mIf (mTest (mBin vIsN (mBin vIx (mVar 5) (mC (.int 0))) (mC .non))) (mVar 1) (mBin vIx (mVar 5) (mC (.int 0)))) (aCons (mTup (aNil)) (aNil))))))) (mC (.int 0)))) (sAug 3 vIAdd (mC (.int 1)))) (sIf (mTest (mBin vNe (mBin vIx (mVar 2) (mBin vIx (mVar 5) (mC (.int 0)))) (mBin vIx (mVar 5) (mC (.int 1))))) (sRet (mIf (mTest (mBin vLt (mBin vIx (mVar 2) (mBin vIx (mVar 5) (mC (.int 0)))) (mBin vIx (mVar 5) (mC (.int 1))))) (mNeg (mC (.int 1))) (mC (.int 1)))) (sNext)))) (sRet (mC (.int 0))))
noncomputable def f_Daybook_signs_with : MF := defM 2 4 m_Daybook_signs_with
noncomputable def m_Daybook_first_with : MS := sSeq (sPar 2 3 (aCons (mC (.int 0)) (aCons (mBin vAdd (mC (.int 1000000)) (mC (.int 1))) (aNil)))) (sSeq (sWhile (mTest (mBin vLt (mVar 2) (mVar 3))) (sSeq (sSet 4 (mBin vDiv (mBin vAdd (mVar 2) (mVar 3)) (mC (.int 2)))) (sIf (mTest (mBin vGe (mMeth [(22, f_Daybook_signs_with)] (mVar 0) (aCons (mVar 4) (aNil))) (mVar 1))) (sSet 3 (mVar 4)) (sSet 2 (mBin vAdd (mVar 4) (mC (.int 1))))))) (sRet (mVar 2)))
noncomputable def f_Daybook_first_with : MF := defM 2 3 m_Daybook_first_with
noncomputable def m_Daybook_unknown_range : MS := sSeq (sIf (tNotM (mTest (mMeth [(22, f_Daybook_has_unknown)] (mVar 0) aNil))) (sRet (mC .non)) (sNext)) (sSeq (sPar 1 2 (aCons (mMeth [(22, f_Daybook_first_with)] (mVar 0) (aCons (mC (.int 0)) (aNil))) (aCons (mBin vSub (mMeth [(22, f_Daybook_first_with)] (mVar 0) (aCons (mC (.int 1)) (aNil))) (mC (.int 1))) (aNil)))) (sRet (mIf (mTest (mBin vLe (mVar 1) (mVar 2))) (mTup (aCons (mVar 1) (aCons (mVar 2) (aNil)))) (mC .non))))
noncomputable def f_Daybook_unknown_range : MF := defM 1 2 m_Daybook_unknown_range
noncomputable def m_law_range_right : MS := sSeq (sSet 4 (mLc (iRange1 (aCons (mC (.int 30)) (aNil))) (gSet 5) (mTest (mBin vIx (mApp f_law_run (aCons (mVar 0) (aCons (mVar 1) (aCons (mVar 5) (aNil))))) (mC (.int 0)))) (mVar 5) [5])) (sSeq (sIf (tOrM (mTest (mBin vIsN (mVar 3) (mC .non))) (tNotM (mTest (mVar 2)))) (sRet (mAnd (mBin vIsN (mVar 3) (mC .non)) (mOr (mNot (mVar 2)) (mBin vEq (mVar 4) (mLst (aNil)))))) (sNext)) (sSeq (sAsg (mVar 3) (gTupM 2 (gsCons (gSet 6) (gsCons (gSet 7) (gsNil))))) (sSeq (sIf (tOrM (mTest (mBin vLt (mVar 6) (mC (.int 0)))) (tOrM (mTest (mBin vGt (mVar 7) (mBin vPow (mC (.int 10)) (mC (.int 6))))) (mTest (mBin vNe (mLc (iRange1 (aCons (mC (.int 30)) (aNil))) (gSet 5) (mTest (mChain vLe vLe (mVar 6) (mVar 5) (mVar 7))) (mVar 5) [5]) (mVar 4))))) (sRet (mC (.bl false))) (sNext)) (sSeq (sSet 8 (mLc (iSeqM (mTup (aCons (mBin vSub (mVar 6) (mC (.int 1))) (aCons (mBin vAdd (mVar 7) (mC (.int 1))) (aNil))))) (gSet 5) (mTest (mChain vLe vLe (mC (.int 0)) (mVar 5) (mBin vPow (mC (.int 10)) (mC (.int 6))))) (mVar 5) [5])) (sSeq (sIf (mTest (mBin vNe (mLc (iSeqM (mVar 8)) (gSet 5) (mTest (mBin vIx (mApp f_law_run (aCons (mVar 0) (aCons (mVar 1) (aCons (mVar 5) (aNil))))) (mC (.int 0)))) (mVar 5) [5]) (mLst (aNil)))) (sRet (mC (.bl false))) (sNext)) (sRet (mBin vEq (mLc (iSeqM (mVar 3)) (gSet 5) (tNotM (mTest (mBin vIx (mApp f_law_run (aCons (mVar 0) (aCons (mVar 1) (aCons (mVar 5) (aNil))))) (mC (.int 0))))) (mVar 5) [5]) (mLst (aNil)))))))))
noncomputable def f_law_range_right : MF := defM 4 5 m_law_range_right
noncomputable def m_validate_number : MS := sIf (tNotM (mTest (mChain vLe vLe (mVar 1) (mVar 0) (mVar 2)))) (sRaise0 4) (sNext)
noncomputable def f_validate_number : MF := defM 3 0 m_validate_number
noncomputable def m_Daybook_levels_after : MS := sSeq (sDrop (mApp f_validate_number (aCons (mVar 1) (aCons (mC (.int 0)) (aCons (mC (.int 1000000)) (aNil)))))) (sSeq (sPar 2 3 (aCons (mBin vRepT (mTup (aCons (mC (.int 0)) (aNil))) (mLen 13 f_Row_len (mFld [22] 51 (mVar 0)))) (aCons (mC (.int 0)) (aNil)))) (sSeq (sFor (iSeqM (mFld [22] 58 (mVar 0))) (gTupS 1 (gsCons (gSet 4) (gsCons (gSet 5) (gsNil)))) (sIf (mTest (mBin vEq (mVar 4) (mC (.str "rain")))) (sSeq (sSet 2 (mBin vIx (mApp f_next_tick (aCons (mFld [22] 51 (mVar 0)) (aCons (mVar 2) (aCons (mVar 3) (aCons (mIf (mTest (mBin vIsN (mBin vIx (mVar 5) (mC (.int 0))) (mC .non))) (mVar 1) (mBin vIx (mVar 5) (mC (.int 0)))) (aCons (mTup (aNil)) (aNil))))))) (mC (.int 0)))) (sAug 3 vIAdd (mC (.int 1)))) (sNext))) (sRet (mDc (iZipM (mProp [(13, f_Row_barrels)] (mFld [22] 51 (mVar 0))) (mVar 2)) (gTupM 2 (gsCons (gSet 6) (gsCons (gSet 7) (gsNil)))) (mYes) (mBin vIx (mVar 6) (mC (.int 0))) (mVar 7) [6, 7]))))
noncomputable def f_Daybook_levels_after : MF := defM 2 6 m_Daybook_levels_after
noncomputable def m_law : MS := sSeq (sSet 1 (mApp f_law_mix (aCons (mVar 0) (aCons (mC (.int 47)) (aNil))))) (sSeq (sFor (iRange1 (aCons (mC (.int 3)) (aNil))) (gSet 2) (sSeq (sSet 3 (mApp f_law_parts (aCons (mVar 1) (aCons (mC (.int 3)) (aCons (mC (.int 5)) (aNil)))))) (sSeq (sAsg (mTup (aCons (mApp f_law_text (aCons (mVar 1) (aCons (mVar 3) (aNil)))) (aCons (mLst (aNil)) (aNil)))) (gTupM 2 (gsCons (gSet 4) (gsCons (gSet 5) (gsNil))))) (sSeq (sSet 6 (mApp f_law_due (aCons (mVar 3) (aCons (mVar 4) (aNil))))) (sSeq (sSet 7 (mOutcome (mBM "list" vAppend (mVar 5) (aCons (mApp (vMake 22 f_Daybook_init) (aCons (mApp f_law_row (aCons (mVar 3) (aNil))) (aCons (mVar 4) (aNil)))) aNil)))) (sIf (tOrM (mTest (mBin vEq (mBin vIx (mVar 6) (mC (.int 0))) (mC (.str "daybook")))) (mTest (mBin vNe (mBin vIx (mVar 7) (mC (.int 0))) (mC (.str "value"))))) (sIf (mTest (mBin vNe (mVar 7) (mVar 6))) (sRet (mC (.bl false))) (sNext)) (sSeq (sAsg (mTup (aCons (mBin vIx (mVar 5) (mC (.int 0))) (aCons (mBin vIx (mVar 6) (mC (.int 1))) (aNil)))) (gTupM 2 (gsCons (gSet 8) (gsCons (gSet 9) (gsNil))))) (sSeq (sSet 10 (mLc (iSeqM (mVar 9)) (gSet 11) (mTest (mBin vEq (mBin vIx (mVar 11) (mC (.int 0))) (mC (.str "rain")))) (mVar 11) [11])) (sSeq (sIf (tNotM (mTest (mApp (f_law_alike 6) (aCons (mLst (aCons (mProp [(22, f_Daybook_line_count)] (mVar 8)) (aCons (mProp [(22, f_Daybook_tick_count)] (mVar 8)) (aNil)))) (aCons (mLst (aCons (mApp bLen (aCons (mVar 9) (aNil))) (aCons (mApp bLen (aCons (mVar 10) (aNil))) (aNil)))) (aNil)))))) (sRet (mC (.bl false))) (sNext)) (sSeq (sSet 12 (mBin vNe (mLc (iSeqM (mVar 10)) (gSet 11) (mTest (mBin vIsN (mBin vIx (mVar 11) (mC (.int 1))) (mC .non))) (mVar 11) [11]) (mLst (aNil)))) (sSeq (sIf (tNotM (mTest (mApp f_law_range_right (aCons (mVar 3) (aCons (mVar 9) (aCons (mVar 12) (aCons (mMeth [(22, f_Daybook_unknown_range)] (mVar 8) aNil) (aNil)))))))) (sRet (mC (.bl false))) (sNext)) (sSeq (sSet 13 (mApp f_law_next (aCons (mVar 1) (aCons (mBin vIx (mLst (aCons (mC (.int 9)) (aCons (mBin vAdd (mBin vPow (mC (.int 10)) (mC (.int 6))) (mC (.int 1))) (aNil)))) (mApp f_law_next (aCons (mVar 1) (aCons (mC (.int 2)) (aNil))))) (aNil))))) (sSeq (sSet 14 (mBin vIx (mApp f_law_run (aCons (mVar 3) (aCons (mVar 9) (aCons (mVar 13) (aNil))))) (mC (.int 1)))) (sSeq (sSet 15 (mLc (iRange1 (aCons (mApp bLen (aCons (mVar 14) (aNil))) (aNil))) (gSet 16) (mYes) (mTup (aCons (mBin vIx (mBin vIx (mBin vIx (mVar 3) (mC (.int 1))) (mVar 16)) (mC (.int 0))) (aCons (mBin vIx (mVar 14) (mVar 16)) (aNil)))) [16])) (sSeq (sIf (tNotM (mTest (mApp (f_law_alike 6) (aCons (mItems (mMeth [(22, f_Daybook_levels_after)] (mVar 8) (aCons (mVar 13) (aNil)))) (aCons (mVar 15) (aNil)))))) (sRet (mC (.bl false))) (sNext)) (sIf (mTest (mBin vNe (mOutcome (mMeth [(22, f_Daybook_levels_after)] (mVar 8) (aCons (mBin vIx (mLst (aCons (mNeg (mC (.int 1))) (aCons (mBin vAdd (mBin vPow (mC (.int 10)) (mC (.int 6))) (mC (.int 1))) (aNil)))) (mBin vMod (mVar 2) (mC (.int 2)))) (aNil)))) (mTup (aCons (mC (.str "number")) (aNil))))) (sRet (mC (.bl false))) (sNext))))))))))))))))) (sRet (mC (.bl true))))
end K47

set_option Elab.async false
set_option linter.all false
set_option maxRecDepth 100000
set_option maxHeartbeats 2000000
namespace K47
open PySem PySem.Spec PyProof.Rows L2 Ab
def top (i : Nat) : Stmt := PySem.Challenge.pw_barrelrow_k47_whole_daybooks.main.body.getD i (.Pass ⟨0, 0, 0, 0⟩)
abbrev s_x_DaybookError : Stmt := inClass (top 10) 0
abbrev s_x_InvalidRow : Stmt := inClass (top 3) 0
abbrev s_law_mix : Stmt := top 41
abbrev s_law_next : Stmt := top 42
abbrev s_law_parts : Stmt := top 45
abbrev s_law_tick : Stmt := top 47
abbrev s_law_run : Stmt := top 48
abbrev s_law_text : Stmt := top 51
abbrev s_law_event : Stmt := top 49
abbrev s_law_due : Stmt := top 50
abbrev s_law_outcome : Stmt := top 44
abbrev s_Row_len : Stmt := inClass (top 25) 7
abbrev s_Row_barrels : Stmt := inClass (top 25) 5
abbrev s_Daybook_has_unknown : Stmt := inClass (top 39) 4
abbrev s_is_figure : Stmt := top 38
abbrev s_Daybook_event_of : Stmt := inClass (top 39) 5
abbrev s_next_tick : Stmt := top 29
abbrev s_Daybook_rained : Stmt := inClass (top 39) 3
abbrev s_Daybook_init : Stmt := inClass (top 39) 0
abbrev s_is_name : Stmt := top 23
abbrev s_is_barrel : Stmt := top 24
abbrev s_Row_init : Stmt := inClass (top 25) 2
abbrev s_Row_add : Stmt := inClass (top 25) 12
abbrev s_law_row : Stmt := top 46
abbrev s_Daybook_tick_count : Stmt := inClass (top 39) 2
abbrev s_Daybook_line_count : Stmt := inClass (top 39) 1
abbrev s_law_alike : Stmt := top 43
abbrev s_Daybook_signs_with : Stmt := inClass (top 39) 6
abbrev s_Daybook_first_with : Stmt := inClass (top 39) 7
abbrev s_Daybook_unknown_range : Stmt := inClass (top 39) 8
abbrev s_law_range_right : Stmt := top 52
abbrev s_validate_number : Stmt := top 22
abbrev s_Daybook_levels_after : Stmt := inClass (top 39) 9
abbrev s_law : Stmt := top 53
/-- what the top has written, as the walk asks it -/
structure Fx (T : Wh) : Prop where
  b_list : T.mg "list" = none
  fn_law_mix : ∃ f fd, T.mg "_law_mix" = some (.ref f) ∧ Fun T.K "_law_mix" "_law_mix" s_law_mix f fd ∧ Binds T.K fd ["_law_script", "_law_seed"] []
  b_range : T.mg "range" = none
  b_len : T.mg "len" = none
  b_max : T.mg "max" = none
  fn_law_next : ∃ f fd, T.mg "_law_next" = some (.ref f) ∧ Fun T.K "_law_next" "_law_next" s_law_next f fd ∧ Binds T.K fd ["_law_h", "_law_limit"] []
  b_int : T.mg "int" = none
  b_tuple : T.mg "tuple" = none
  fn_law_parts : ∃ f fd, T.mg "_law_parts" = some (.ref f) ∧ Fun T.K "_law_parts" "_law_parts" s_law_parts f fd ∧ Binds T.K fd ["_law_h", "_law_most", "_law_wide"] []
  b_str : T.mg "str" = none
  fn_law_tick : ∃ f fd, T.mg "_law_tick" = some (.ref f) ∧ Fun T.K "_law_tick" "_law_tick" s_law_tick f fd ∧ Binds T.K fd ["_law_parts_here", "_law_levels", "_law_tick_here", "_law_amount", "_law_locked"] []
  fn_law_run : ∃ f fd, T.mg "_law_run" = some (.ref f) ∧ Fun T.K "_law_run" "_law_run" s_law_run f fd ∧ Binds T.K fd ["_law_parts_here", "_law_events", "_law_amount"] []
  fn_law_text : ∃ f fd, T.mg "_law_text" = some (.ref f) ∧ Fun T.K "_law_text" "_law_text" s_law_text f fd ∧ Binds T.K fd ["_law_h", "_law_parts_here"] []
  fn_law_event : ∃ f fd, T.mg "_law_event" = some (.ref f) ∧ Fun T.K "_law_event" "_law_event" s_law_event f fd ∧ Binds T.K fd ["_law_names", "_law_words"] []
  fn_law_due : ∃ f fd, T.mg "_law_due" = some (.ref f) ∧ Fun T.K "_law_due" "_law_due" s_law_due f fd ∧ Binds T.K fd ["_law_parts_here", "_law_text_here"] []
  b_isinstance : T.mg "isinstance" = none
  ca_InvalidNumber : ∃ Ca, T.mg "InvalidNumber" = some (.ref Ca)
  ca_DecodeError : ∃ Ca, T.mg "DecodeError" = some (.ref Ca)
  ca_DaybookError : ∃ Ca, T.mg "DaybookError" = some (.ref Ca)
  ca_InvalidText : ∃ Ca, T.mg "InvalidText" = some (.ref Ca)
  ca_InvalidRow : ∃ Ca, T.mg "InvalidRow" = some (.ref Ca)
  ca_InvalidOperation : ∃ Ca, T.mg "InvalidOperation" = some (.ref Ca)
  ca_UnknownBarrel : ∃ Ca, T.mg "UnknownBarrel" = some (.ref Ca)
  ca_InvalidWeather : ∃ Ca, T.mg "InvalidWeather" = some (.ref Ca)
  b_ValueError : T.mg "ValueError" = none
  fn_law_outcome : ∃ f fd, T.mg "_law_outcome" = some (.ref f) ∧ Fun T.K "_law_outcome" "_law_outcome" s_law_outcome f fd ∧ Binds T.K fd ["_law_call"] []
  ca_RowError : ∃ Ca, T.mg "RowError" = some (.ref Ca)
  ex_all : ∀ Dn ∈ excs, ∀ Da, T.mg (nm Dn) = some (.ref Da) → ExAll T Dn Da
  fo_Daybook_plan : FldOk T.K T.mg 22 51
  fo_Daybook_events : FldOk T.K T.mg 22 58
  fo_Row_parts : FldOk T.K T.mg 13 30
  me_Row_len : ∃ Ca f fd, T.mg (nm 13) = some (.ref Ca) ∧ Cls T.K Ca ∧ PySem.W.findIn T.K (.ref Ca) "__len__" = some (some (.ref f)) ∧ PySem.W.isFn T.K (.ref f) = true ∧ Fun T.K "__len__" "Row.__len__" s_Row_len f fd ∧ Binds T.K fd ["self"] []
  b_enumerate : T.mg "enumerate" = none
  g_MAX_LINES : ∃ t, T.mg "MAX_LINES" = some (.int 300 t)
  me_Row_barrels : ∃ p f fd, (∀ Ca, T.mg (nm 13) = some (.ref Ca) → Cls T.K Ca ∧ PropOf T.K Ca "barrels" p f) ∧ Fun T.K "barrels" "Row.barrels" s_Row_barrels f fd ∧ Binds T.K fd ["self"] []
  cl_Row : ∃ Ca, T.mg (nm 13) = some (.ref Ca)
  g_RAIN : ∃ t, T.mg "RAIN" = some (.str "rain" t)
  g_UNKNOWN : ∃ t, T.mg "UNKNOWN" = some (.str "?" t)
  me_Daybook_has_unknown : ∃ f fd, (∀ Ca, T.mg (nm 22) = some (.ref Ca) → Cls T.K Ca ∧ Meth T.K Ca "has_unknown" f) ∧ Fun T.K "has_unknown" "Daybook.has_unknown" s_Daybook_has_unknown f fd ∧ Binds T.K fd ["self"] []
  cl_Daybook : ∃ Ca, T.mg (nm 22) = some (.ref Ca)
  g_RAIN_DIGITS : ∃ t, T.mg "RAIN_DIGITS" = some (.int 7 t)
  g_DIGITS : ∃ t, T.mg "DIGITS" = some (.str "0123456789" t)
  fn_is_figure : ∃ f fd, T.mg "is_figure" = some (.ref f) ∧ Fun T.K "is_figure" "is_figure" s_is_figure f fd ∧ Binds T.K fd ["word", "longest"] []
  g_MAX_RAIN : ∃ t, T.mg "MAX_RAIN" = some (.int 1000000 t)
  g_LEVEL : ∃ t, T.mg "LEVEL" = some (.str "level" t)
  g_MAX_DIGITS : ∃ t, T.mg "MAX_DIGITS" = some (.int 10 t)
  me_Daybook_event_of : ∃ f fd, (∀ Ca, T.mg (nm 22) = some (.ref Ca) → Cls T.K Ca ∧ Meth T.K Ca "event_of" f) ∧ Fun T.K "event_of" "Daybook.event_of" s_Daybook_event_of f fd ∧ Binds T.K fd ["self", "words"] []
  b_zip : T.mg "zip" = none
  b_min : T.mg "min" = none
  fn_next_tick : ∃ f fd, T.mg "next_tick" = some (.ref f) ∧ Fun T.K "next_tick" "next_tick" s_next_tick f fd ∧ Binds T.K fd ["row", "levels", "tick", "amount", "locked"] []
  me_Daybook_rained : ∃ f fd, (∀ Ca, T.mg (nm 22) = some (.ref Ca) → Cls T.K Ca ∧ Meth T.K Ca "rained" f) ∧ Fun T.K "rained" "Daybook.rained" s_Daybook_rained f fd ∧ Binds T.K fd ["self", "levels", "tick", "amount"] []
  in_Daybook : ∃ Ca f fd, T.mg (nm 22) = some (.ref Ca) ∧ Mk T.K Ca f ∧ Fun T.K "__init__" "Daybook.__init__" s_Daybook_init f fd ∧ Binds T.K fd ["self", "row", "text"] []
  cc_Row_MAX_TICKS : ∃ Ca mc u, T.mg "Row" = some (.ref Ca) ∧ ClX.CRead T.K Ca mc ∧ ClX.CVal T.K Ca mc "MAX_TICKS" (.int 12) u
  cc_Row_MAX_BARRELS : ∃ Ca mc u, T.mg "Row" = some (.ref Ca) ∧ ClX.CRead T.K Ca mc ∧ ClX.CVal T.K Ca mc "MAX_BARRELS" (.int 5) u
  g_MAX_LETTERS : ∃ t, T.mg "MAX_LETTERS" = some (.int 8 t)
  g_LETTERS : ∃ t, T.mg "LETTERS" = some (.str "abcdefghijklmnopqrstuvwxyz" t)
  b_all : T.mg "all" = none
  fn_is_name : ∃ f fd, T.mg "is_name" = some (.ref f) ∧ Fun T.K "is_name" "is_name" s_is_name f fd ∧ Binds T.K fd ["name"] []
  g_MAX_AMOUNT : ∃ t, T.mg "MAX_AMOUNT" = some (.int 1000000000 t)
  g_MAX_ROOF : ∃ t, T.mg "MAX_ROOF" = some (.int 100 t)
  fn_is_barrel : ∃ f fd, T.mg "is_barrel" = some (.ref f) ∧ Fun T.K "is_barrel" "is_barrel" s_is_barrel f fd ∧ Binds T.K fd ["barrel", "ticks"] []
  fo_Row_weather : FldOk T.K T.mg 13 29
  in_Row : ∃ Ca f fd, T.mg (nm 13) = some (.ref Ca) ∧ Mk T.K Ca f ∧ Fun T.K "__init__" "Row.__init__" s_Row_init f fd
  x0_OtherRain : Ex0 T 3
  me_Row_add : ∃ Ca f fd, T.mg (nm 13) = some (.ref Ca) ∧ Cls T.K Ca ∧ PySem.W.selfFirst T.K Ca = true ∧ PySem.W.findIn T.K (.ref Ca) (PySem.dunder Operator.Add.info.2) = some (some (.ref f)) ∧ PySem.W.isFn T.K (.ref f) = true ∧ Fun T.K "__add__" "Row.__add__" s_Row_add f fd ∧ Binds T.K fd ["self", "other"] []
  fn_law_row : ∃ f fd, T.mg "_law_row" = some (.ref f) ∧ Fun T.K "_law_row" "_law_row" s_law_row f fd ∧ Binds T.K fd ["_law_parts_here"] []
  me_Daybook_tick_count : ∃ p f fd, (∀ Ca, T.mg (nm 22) = some (.ref Ca) → Cls T.K Ca ∧ PropOf T.K Ca "tick_count" p f) ∧ Fun T.K "tick_count" "Daybook.tick_count" s_Daybook_tick_count f fd ∧ Binds T.K fd ["self"] []
  me_Daybook_line_count : ∃ p f fd, (∀ Ca, T.mg (nm 22) = some (.ref Ca) → Cls T.K Ca ∧ PropOf T.K Ca "line_count" p f) ∧ Fun T.K "line_count" "Daybook.line_count" s_Daybook_line_count f fd ∧ Binds T.K fd ["self"] []
  b_dict : T.mg "dict" = none
  b_bool : T.mg "bool" = none
  fn_law_alike : ∃ f fd, T.mg "_law_alike" = some (.ref f) ∧ Fun T.K "_law_alike" "_law_alike" s_law_alike f fd ∧ Binds T.K fd ["_law_found", "_law_due_here"] []
  me_Daybook_signs_with : ∃ f fd, (∀ Ca, T.mg (nm 22) = some (.ref Ca) → Cls T.K Ca ∧ Meth T.K Ca "signs_with" f) ∧ Fun T.K "signs_with" "Daybook.signs_with" s_Daybook_signs_with f fd ∧ Binds T.K fd ["self", "amount"] []
  me_Daybook_first_with : ∃ f fd, (∀ Ca, T.mg (nm 22) = some (.ref Ca) → Cls T.K Ca ∧ Meth T.K Ca "first_with" f) ∧ Fun T.K "first_with" "Daybook.first_with" s_Daybook_first_with f fd ∧ Binds T.K fd ["self", "least"] []
  me_Daybook_unknown_range : ∃ f fd, (∀ Ca, T.mg (nm 22) = some (.ref Ca) → Cls T.K Ca ∧ Meth T.K Ca "unknown_range" f) ∧ Fun T.K "unknown_range" "Daybook.unknown_range" s_Daybook_unknown_range f fd ∧ Binds T.K fd ["self"] []
  fn_law_range_right : ∃ f fd, T.mg "_law_range_right" = some (.ref f) ∧ Fun T.K "_law_range_right" "_law_range_right" s_law_range_right f fd ∧ Binds T.K fd ["_law_parts_here", "_law_events", "_law_hidden", "_law_told"] []
  x0_InvalidNumber : Ex0 T 4
  fn_validate_number : ∃ f fd, T.mg "validate_number" = some (.ref f) ∧ Fun T.K "validate_number" "validate_number" s_validate_number f fd ∧ Binds T.K fd ["number", "smallest", "largest"] []
  me_Daybook_levels_after : ∃ f fd, (∀ Ca, T.mg (nm 22) = some (.ref Ca) → Cls T.K Ca ∧ Meth T.K Ca "levels_after" f) ∧ Fun T.K "levels_after" "Daybook.levels_after" s_Daybook_levels_after f fd ∧ Binds T.K fd ["self", "amount"] []
  xi_DaybookError : ∃ Ca f fd R, T.mg (nm 9) = some (.ref Ca) ∧ SupI T.K T.mg R ∧ OexC T.K Ca ∧ PySem.W.findIn T.K (.ref Ca) "__init__" = some (some (.ref f)) ∧ PySem.W.typeIn T.K (.ref f) = some (.type "function") ∧ PySem.W.findIn T.K (.ref Ca) "line" = some none ∧ Fun T.K "__init__" "DaybookError.__init__" s_x_DaybookError f fd
  xi_InvalidRow : ∃ Ca f fd R, T.mg (nm 1) = some (.ref Ca) ∧ SupI T.K T.mg R ∧ OexC T.K Ca ∧ PySem.W.findIn T.K (.ref Ca) "__init__" = some (some (.ref f)) ∧ PySem.W.typeIn T.K (.ref f) = some (.type "function") ∧ PySem.W.findIn T.K (.ref Ca) "part" = some none ∧ PySem.W.findIn T.K (.ref Ca) "index" = some none ∧ Fun T.K "__init__" "InvalidRow.__init__" s_x_InvalidRow f fd

theorem sc_x_DaybookError : FnScope ["self", "line"] ["self", "line"] (defScope s_x_DaybookError) := ⟨rfl, rfl, rfl, by decide +kernel, rfl, by decide +kernel, by decide +kernel⟩
theorem h_x_DaybookError {T : Wh} (F : Fx T) : ExK T 9 1 [27] := by
  refine ⟨by decide, ?_⟩
  obtain ⟨Ca, f, fd, R, hm, hS, hO, hi, ht, n0, hF⟩ := F.xi_DaybookError
  refine ⟨Ca, f, fd, ["self", "line"], hm, hO, hi, ht, ?_, exinit1 (f1 := 27) hF sc_x_DaybookError hS hO n0 rfl (by decide +kernel) (by decide +kernel) rfl fun env => ⟨_, rfl⟩⟩
  obtain ⟨oc, od, kV, doc, pm, an, cdv, ct, osl, rfl, lk, hcd⟩ := hF.ex
  exact ⟨fun s us ws _ h1 h2 => match us, ws, h1, h2 with | [a], [b0], _, _ => .of_eq rfl, fun r1 r2 => r1.append r2⟩
theorem sc_x_InvalidRow : FnScope ["self", "part", "index"] ["self", "part", "index"] (defScope s_x_InvalidRow) := ⟨rfl, rfl, rfl, by decide +kernel, rfl, by decide +kernel, by decide +kernel⟩
theorem h_x_InvalidRow {T : Wh} (F : Fx T) : ExK T 1 1 [24, 25] := by
  refine ⟨by decide, ?_⟩
  obtain ⟨Ca, f, fd, R, hm, hS, hO, hi, ht, n0, n1, hF⟩ := F.xi_InvalidRow
  refine ⟨Ca, f, fd, ["self", "part", "index"], hm, hO, hi, ht, ?_, exinit2 (f1 := 24) (f2 := 25) hF sc_x_InvalidRow hS hO n0 n1 rfl (by decide +kernel) (by decide +kernel) (by decide +kernel) (by decide +kernel) rfl fun env => ⟨_, rfl⟩⟩
  obtain ⟨oc, od, kV, doc, pm, an, cdv, ct, osl, rfl, lk, hcd⟩ := hF.ex
  exact ⟨fun s us ws _ h1 h2 => match us, ws, h1, h2 with | [a], [b0, b1], _, _ => .of_eq rfl, fun r1 r2 => r1.append r2⟩
/-! ### _law_mix -/
abbrev N_law_mix : List Str := ["_law_script", "_law_seed", "_law_mixed", "_law_cell"]
theorem sc_law_mix : FnScope N_law_mix ["_law_script", "_law_seed"] (defScope s_law_mix) := ⟨rfl, rfl, rfl, by decide +kernel, rfl, by decide +kernel, by decide +kernel⟩
theorem h_law_mix {T : Wh} (F : Fx T) : Has T "_law_mix" 1 2 f_law_mix := by
  obtain ⟨f, fd, hm, hF, hB⟩ := F.fn_law_mix
  exact ⟨f, hm, fnM_of1 (k := 0) (N := N_law_mix) (m := 2) (body := m_law_mix) hF hB sc_law_mix rfl rfl (fun cdv A outer s H E hr => (by have hu := hr.units; have hu1 : _ + 1 < cLine := Nat.lt_of_le_of_lt (Nat.add_le_add_left (by decide) _) hu; have hu2 : _ + 2 < cLine := Nat.lt_of_le_of_lt (Nat.add_le_add_left (by decide) _) hu; delta m_law_mix; delta Se.mLcX Se.mIsiTO Se.mRevS Se.mChain3 Se.sPar3 Se.sFgt Se.mOutsO Se.sWhile Se.mVar Se.mC Se.mBin Se.mTest Se.mChain Se.tAndM Se.tOrM Se.tNotM Se.mAnd Se.mOr Se.mNot Se.mIf Se.aNil Se.aCons Se.mTup Se.mLst Se.mApp Se.mCut Se.oNone Se.oSome Se.sNext Se.sSeq Se.sSet Se.sRet Se.sDrop Se.sIf Se.sAug Se.sBreak Se.sCont Se.gSet Se.gsNil Se.gsCons Se.gTupM Se.sAsg Se.sPar Se.sFor Se.iRange1 Se.iRange2 Se.mFld Se.sFldM Se.sFldAugM Se.mMeth Se.mProp Se.vMake Se.iEnumM Se.iZipM Se.iSeqM Se.iStrM Se.mYes Se.mLc Se.mBM Se.gSubL Se.mIsi Se.sRaise Se.sRaise0 Se.aStar Se.mOp Se.mLen Se.mDget Se.gSubD Se.mDisp Se.mItems Se.mDc Se.gFld Se.mOutcome Se.mBad Se.sBad Se.mNeg Se.mCall Se.mGetO Se.mOpT Se.mIsiO Se.gTupS Se.iKeysM Se.iValsM Se.mDisp0 Se.mOutOne Se.mCm Se.mMakeV Se.mSup Se.mMake0 Se.mCon Se.mOpG Se.gPl Se.gYl Se.gSq Se.gFr Se.mListG Se.mListV Ab.mNeg; exact (jss_cons (js_set sc_law_mix.nd (je_var (i := 1))) (jss_cons (js_for cx1_pass rfl (ji_seq (je_var (i := 0))) (jg_name (i := 3) sc_law_mix.nd) (jss_one (js_set sc_law_mix.nd (je_op m2_mod quiet_mod (je_op m2_add quiet_add (je_op m2_add quiet_add (je_op m2_mul quiet_mul (je_var (i := 2)) (je_int)) (je_op m2_mod quiet_mod (je_var (i := 3)) (je_int))) (je_int)) (je_int))))) (jss_one (js_ret (je_lst (ja_cons (je_var (i := 2)) (ja_cons (je_callTy mc_list quiet_list F.b_list Boot.list (ja_cons (je_var (i := 0)) (ja_nil))) (ja_cons (je_int) (ja_nil)))))))))))⟩
/-! ### _law_next -/
abbrev N_law_next : List Str := ["_law_h", "_law_limit", "_law_cell"]
theorem sc_law_next : FnScope N_law_next ["_law_h", "_law_limit"] (defScope s_law_next) := ⟨rfl, rfl, rfl, by decide +kernel, rfl, by decide +kernel, by decide +kernel⟩
theorem h_law_next {T : Wh} (F : Fx T) : Has T "_law_next" 1 2 f_law_next := by
  obtain ⟨f, fd, hm, hF, hB⟩ := F.fn_law_next
  exact ⟨f, hm, fnM_of1 (k := 0) (N := N_law_next) (m := 1) (body := m_law_next) hF hB sc_law_next rfl rfl (fun cdv A outer s H E hr => (by have hu := hr.units; have hu1 : _ + 1 < cLine := Nat.lt_of_le_of_lt (Nat.add_le_add_left (by decide) _) hu; have hu2 : _ + 2 < cLine := Nat.lt_of_le_of_lt (Nat.add_le_add_left (by decide) _) hu; delta m_law_next; delta Se.mLcX Se.mIsiTO Se.mRevS Se.mChain3 Se.sPar3 Se.sFgt Se.mOutsO Se.sWhile Se.mVar Se.mC Se.mBin Se.mTest Se.mChain Se.tAndM Se.tOrM Se.tNotM Se.mAnd Se.mOr Se.mNot Se.mIf Se.aNil Se.aCons Se.mTup Se.mLst Se.mApp Se.mCut Se.oNone Se.oSome Se.sNext Se.sSeq Se.sSet Se.sRet Se.sDrop Se.sIf Se.sAug Se.sBreak Se.sCont Se.gSet Se.gsNil Se.gsCons Se.gTupM Se.sAsg Se.sPar Se.sFor Se.iRange1 Se.iRange2 Se.mFld Se.sFldM Se.sFldAugM Se.mMeth Se.mProp Se.vMake Se.iEnumM Se.iZipM Se.iSeqM Se.iStrM Se.mYes Se.mLc Se.mBM Se.gSubL Se.mIsi Se.sRaise Se.sRaise0 Se.aStar Se.mOp Se.mLen Se.mDget Se.gSubD Se.mDisp Se.mItems Se.mDc Se.gFld Se.mOutcome Se.mBad Se.sBad Se.mNeg Se.mCall Se.mGetO Se.mOpT Se.mIsiO Se.gTupS Se.iKeysM Se.iValsM Se.mDisp0 Se.mOutOne Se.mCm Se.mMakeV Se.mSup Se.mMake0 Se.mCon Se.mOpG Se.gPl Se.gYl Se.gSq Se.gFr Se.mListG Se.mListV Ab.mNeg; exact (jss_cons (js_set sc_law_next.nd (je_ix (je_op m2_add quiet_add (je_ix (je_var (i := 0)) (je_int)) (je_lst (ja_cons (je_int) (ja_nil)))) (je_op m2_mod quiet_mod (je_ix (je_var (i := 0)) (je_int)) (je_callB (mc_max2 rfl) quiet_max2 F.b_max Boot.max (ja_cons (je_int) (ja_cons (je_callB mc_len quiet_len F.b_len Boot.len (ja_cons (je_ix (je_var (i := 0)) (je_int)) (ja_nil))) (ja_nil))))))) (jss_cons (js_if (jt_cmp m2_ge (quiet_cmpI _) (je_var (i := 2)) (je_op m2_pow quiet_pow (je_int) (je_int))) (jss_cons (js_asg (je_op m2_div quiet_div (je_var (i := 2)) (je_var (i := 1))) (jg_sub (je_ix (je_var (i := 0)) (je_int)) (je_op m2_mod quiet_mod (je_ix (je_var (i := 0)) (je_int)) (je_callB mc_len quiet_len F.b_len Boot.len (ja_cons (je_ix (je_var (i := 0)) (je_int)) (ja_nil)))))) (jss_one (js_ret (je_op m2_mod quiet_mod (je_var (i := 2)) (je_var (i := 1)))))) (jss_nil)) (jss_cons (js_asg (je_op m2_mod quiet_mod (je_op m2_add quiet_add (je_op m2_add quiet_add (je_op m2_mul quiet_mul (je_ix (je_var (i := 0)) (je_int)) (je_int)) (je_op m2_mul quiet_mul (je_var (i := 2)) (je_int))) (je_int)) (je_int)) (jg_sub (je_var (i := 0)) (je_int))) (jss_cons (js_asg (je_op m2_add quiet_add (je_ix (je_var (i := 0)) (je_int)) (je_int)) (jg_sub (je_var (i := 0)) (je_int))) (jss_one (js_ret (je_op m2_mod quiet_mod (je_op m2_div quiet_div (je_ix (je_var (i := 0)) (je_int)) (je_int)) (je_var (i := 1)))))))))))⟩
/-! ### _law_parts -/
abbrev N_law_parts : List Str := ["_law_h", "_law_most", "_law_wide", "_law_size", "_law_found", "_law_rain", "_law_k", "_law_name", "_law_draws", "_law_one"]
theorem sc_law_parts : FnScope N_law_parts ["_law_h", "_law_most", "_law_wide"] (defScope s_law_parts) := ⟨rfl, rfl, rfl, by decide +kernel, rfl, by decide +kernel, by decide +kernel⟩
theorem h_law_parts {T : Wh} (F : Fx T) : Has T "_law_parts" 2 3 f_law_parts := by
  obtain ⟨f, fd, hm, hF, hB⟩ := F.fn_law_parts
  exact ⟨f, hm, fnM_of1 (k := 1) (N := N_law_parts) (m := 7) (body := m_law_parts) hF hB sc_law_parts rfl rfl (fun cdv A outer s H E hr => (by have hu := hr.units; have hu1 : _ + 1 < cLine := Nat.lt_of_le_of_lt (Nat.add_le_add_left (by decide) _) hu; have hu2 : _ + 2 < cLine := Nat.lt_of_le_of_lt (Nat.add_le_add_left (by decide) _) hu; delta m_law_parts; delta Se.mLcX Se.mIsiTO Se.mRevS Se.mChain3 Se.sPar3 Se.sFgt Se.mOutsO Se.sWhile Se.mVar Se.mC Se.mBin Se.mTest Se.mChain Se.tAndM Se.tOrM Se.tNotM Se.mAnd Se.mOr Se.mNot Se.mIf Se.aNil Se.aCons Se.mTup Se.mLst Se.mApp Se.mCut Se.oNone Se.oSome Se.sNext Se.sSeq Se.sSet Se.sRet Se.sDrop Se.sIf Se.sAug Se.sBreak Se.sCont Se.gSet Se.gsNil Se.gsCons Se.gTupM Se.sAsg Se.sPar Se.sFor Se.iRange1 Se.iRange2 Se.mFld Se.sFldM Se.sFldAugM Se.mMeth Se.mProp Se.vMake Se.iEnumM Se.iZipM Se.iSeqM Se.iStrM Se.mYes Se.mLc Se.mBM Se.gSubL Se.mIsi Se.sRaise Se.sRaise0 Se.aStar Se.mOp Se.mLen Se.mDget Se.gSubD Se.mDisp Se.mItems Se.mDc Se.gFld Se.mOutcome Se.mBad Se.sBad Se.mNeg Se.mCall Se.mGetO Se.mOpT Se.mIsiO Se.gTupS Se.iKeysM Se.iValsM Se.mDisp0 Se.mOutOne Se.mCm Se.mMakeV Se.mSup Se.mMake0 Se.mCon Se.mOpG Se.gPl Se.gYl Se.gSq Se.gFr Se.mListG Se.mListV Ab.mNeg; exact (jss_cons (js_par rfl sc_law_parts.nd (ja_cons (je_op m2_add quiet_add (je_int) (je_call (h_law_next F) (hr.mono (by decide)) (ja_cons (je_var (i := 0)) (ja_cons (je_var (i := 1)) (ja_nil))))) (ja_cons (je_lst (ja_nil)) (ja_nil)))) (jss_cons (js_set sc_law_parts.nd (je_callTy mc_tuple quiet_tuple F.b_tuple Boot.tuple (ja_cons (je_lc rfl sc_law_parts.nd [("_law_k", 6)] (ji_range1 F.b_range (ja_cons (je_var (i := 3)) (ja_nil))) (by first | (change blkC N_law_parts (defScope s_law_parts) _ _ = true; decide +kernel) | rfl) (fun s H C cl fp => jg_name (i := 6) sc_law_parts.nd) (fun s H C cl fp => jts_nil) (fun s H C cl fp => je_op m2_mul quiet_mul (je_call (h_law_next F) (hr.mono (by decide)) (ja_cons (je_var (i := 0)) (ja_cons (je_var (i := 2)) (ja_nil)))) (je_callTy mc_intB quiet_intB F.b_int Boot.int (ja_cons (je_cmp m2_gt (quiet_cmpI _) (je_call (h_law_next F) (hr.mono (by decide)) (ja_cons (je_var (i := 0)) (ja_cons (je_int) (ja_nil)))) (je_int)) (ja_nil))))) (ja_nil)))) (jss_cons (js_for cx1_pass rfl (ji_range1 F.b_range (ja_cons (je_op m2_add quiet_add (je_int) (je_call (h_law_next F) (hr.mono (by decide)) (ja_cons (je_var (i := 0)) (ja_cons (je_int) (ja_nil))))) (ja_nil))) (jg_name (i := 6) sc_law_parts.nd) (jss_cons (js_set sc_law_parts.nd (je_ix (je_lst (ja_cons (je_str) (ja_cons (je_str) (ja_cons (je_str) (ja_cons (je_str) (ja_nil)))))) (je_var (i := 6)))) (jss_cons (js_set sc_law_parts.nd (je_callTy mc_tuple quiet_tuple F.b_tuple Boot.tuple (ja_cons (je_lc rfl sc_law_parts.nd [("_law_one", 9)] (ji_range1 F.b_range (ja_cons (je_var (i := 3)) (ja_nil))) (by first | (change blkC N_law_parts (defScope s_law_parts) _ _ = true; decide +kernel) | rfl) (fun s H C cl fp => jg_name (i := 9) sc_law_parts.nd) (fun s H C cl fp => jts_nil) (fun s H C cl fp => je_op m2_mul quiet_mul (je_call (h_law_next F) (hr.mono (by decide)) (ja_cons (je_var (i := 0)) (ja_cons (je_op m2_mul quiet_mul (je_int) (je_var (i := 2))) (ja_nil)))) (je_callTy mc_intB quiet_intB F.b_int Boot.int (ja_cons (je_cmp m2_gt (quiet_cmpI _) (je_call (h_law_next F) (hr.mono (by decide)) (ja_cons (je_var (i := 0)) (ja_cons (je_int) (ja_nil)))) (je_int)) (ja_nil))))) (ja_nil)))) (jss_one (js_expr (je_append (je_var (i := 4)) (je_tup (ja_cons (je_var (i := 7)) (ja_cons (je_call (h_law_next F) (hr.mono (by decide)) (ja_cons (je_var (i := 0)) (ja_cons (je_op m2_mul quiet_mul (je_int) (je_var (i := 2))) (ja_nil)))) (ja_cons (je_call (h_law_next F) (hr.mono (by decide)) (ja_cons (je_var (i := 0)) (ja_cons (je_int) (ja_nil)))) (ja_cons (je_var (i := 8)) (ja_nil)))))))))))) (jss_one (js_ret (je_tup (ja_cons (je_var (i := 5)) (ja_cons (je_callTy mc_tuple quiet_tuple F.b_tuple Boot.tuple (ja_cons (je_var (i := 4)) (ja_nil))) (ja_nil)))))))))))⟩
/-! ### _law_tick -/
abbrev N_law_tick : List Str := ["_law_parts_here", "_law_levels", "_law_tick_here", "_law_amount", "_law_locked", "_law_found", "_law_drawn", "_law_missed", "_law_flow", "_law_k", "_law_name", "_law_most", "_law_roof", "_law_draws", "_law_full", "_law_wish", "_law_got"]
theorem sc_law_tick : FnScope N_law_tick ["_law_parts_here", "_law_levels", "_law_tick_here", "_law_amount", "_law_locked"] (defScope s_law_tick) := ⟨rfl, rfl, rfl, by decide +kernel, rfl, by decide +kernel, by decide +kernel⟩
theorem h_law_tick {T : Wh} (F : Fx T) : Has T "_law_tick" 1 5 f_law_tick := by
  obtain ⟨f, fd, hm, hF, hB⟩ := F.fn_law_tick
  exact ⟨f, hm, fnM_of1 (k := 0) (N := N_law_tick) (m := 12) (body := m_law_tick) hF hB sc_law_tick rfl rfl (fun cdv A outer s H E hr => (by have hu := hr.units; have hu1 : _ + 1 < cLine := Nat.lt_of_le_of_lt (Nat.add_le_add_left (by decide) _) hu; have hu2 : _ + 2 < cLine := Nat.lt_of_le_of_lt (Nat.add_le_add_left (by decide) _) hu; delta m_law_tick; delta Se.mLcX Se.mIsiTO Se.mRevS Se.mChain3 Se.sPar3 Se.sFgt Se.mOutsO Se.sWhile Se.mVar Se.mC Se.mBin Se.mTest Se.mChain Se.tAndM Se.tOrM Se.tNotM Se.mAnd Se.mOr Se.mNot Se.mIf Se.aNil Se.aCons Se.mTup Se.mLst Se.mApp Se.mCut Se.oNone Se.oSome Se.sNext Se.sSeq Se.sSet Se.sRet Se.sDrop Se.sIf Se.sAug Se.sBreak Se.sCont Se.gSet Se.gsNil Se.gsCons Se.gTupM Se.sAsg Se.sPar Se.sFor Se.iRange1 Se.iRange2 Se.mFld Se.sFldM Se.sFldAugM Se.mMeth Se.mProp Se.vMake Se.iEnumM Se.iZipM Se.iSeqM Se.iStrM Se.mYes Se.mLc Se.mBM Se.gSubL Se.mIsi Se.sRaise Se.sRaise0 Se.aStar Se.mOp Se.mLen Se.mDget Se.gSubD Se.mDisp Se.mItems Se.mDc Se.gFld Se.mOutcome Se.mBad Se.sBad Se.mNeg Se.mCall Se.mGetO Se.mOpT Se.mIsiO Se.gTupS Se.iKeysM Se.iValsM Se.mDisp0 Se.mOutOne Se.mCm Se.mMakeV Se.mSup Se.mMake0 Se.mCon Se.mOpG Se.gPl Se.gYl Se.gSq Se.gFr Se.mListG Se.mListV Ab.mNeg; exact (jss_cons (js_asg (je_tup (ja_cons (je_lst (ja_nil)) (ja_cons (je_int) (ja_cons (je_int) (ja_cons (je_int) (ja_nil)))))) (jg_tup rfl (jgs_cons (jg_name (i := 5) sc_law_tick.nd) (jgs_cons (jg_name (i := 6) sc_law_tick.nd) (jgs_cons (jg_name (i := 7) sc_law_tick.nd) (jgs_cons (jg_name (i := 8) sc_law_tick.nd) (jgs_nil))))))) (jss_cons (js_for cx1_pass rfl (ji_range1 F.b_range (ja_cons (je_callB mc_len quiet_len F.b_len Boot.len (ja_cons (je_var (i := 1)) (ja_nil))) (ja_nil))) (jg_name (i := 9) sc_law_tick.nd) (jss_cons (js_asg (je_ix (je_ix (je_var (i := 0)) (je_int)) (je_var (i := 9))) (jg_tup rfl (jgs_cons (jg_name (i := 10) sc_law_tick.nd) (jgs_cons (jg_name (i := 11) sc_law_tick.nd) (jgs_cons (jg_name (i := 12) sc_law_tick.nd) (jgs_cons (jg_name (i := 13) sc_law_tick.nd) (jgs_nil))))))) (jss_cons (js_set sc_law_tick.nd (je_op m2_add quiet_add (je_op m2_add quiet_add (je_ix (je_var (i := 1)) (je_var (i := 9))) (je_op m2_mul quiet_mul (je_var (i := 12)) (je_var (i := 3)))) (je_var (i := 8)))) (jss_cons (js_set sc_law_tick.nd (je_if (jt_cmp m2_gt (quiet_cmpI _) (je_var (i := 14)) (je_var (i := 11))) (je_op m2_sub quiet_sub (je_var (i := 14)) (je_var (i := 11))) (je_int))) (jss_cons (js_par rfl sc_law_tick.nd (ja_cons (je_op m2_sub quiet_sub (je_var (i := 14)) (je_var (i := 8))) (ja_cons (je_ix (je_var (i := 13)) (je_op m2_mod quiet_mod (je_var (i := 2)) (je_callB mc_len quiet_len F.b_len Boot.len (ja_cons (je_var (i := 13)) (ja_nil))))) (ja_nil)))) (jss_cons (js_set sc_law_tick.nd (je_if (jt_cmp m2_in quiet_in (je_var (i := 10)) (je_var (i := 4))) (je_int) (je_if (jt_cmp m2_lt (quiet_cmpI _) (je_var (i := 15)) (je_var (i := 14))) (je_var (i := 15)) (je_var (i := 14))))) (jss_cons (js_expr (je_append (je_var (i := 5)) (je_op m2_sub quiet_sub (je_var (i := 14)) (je_var (i := 16))))) (jss_one (js_par rfl sc_law_tick.nd (ja_cons (je_op m2_add quiet_add (je_var (i := 6)) (je_var (i := 16))) (ja_cons (je_op m2_sub quiet_sub (je_op m2_add quiet_add (je_var (i := 7)) (je_var (i := 15))) (je_var (i := 16))) (ja_nil)))))))))))) (jss_one (js_ret (je_tup (ja_cons (je_var (i := 5)) (ja_cons (je_var (i := 6)) (ja_cons (je_var (i := 7)) (ja_cons (je_var (i := 8)) (ja_nil))))))))))))⟩
/-! ### _law_run -/
abbrev N_law_run : List Str := ["_law_parts_here", "_law_events", "_law_amount", "_law_levels", "_law_tick_here", "_law_good", "_law_event_here"]
theorem sc_law_run : FnScope N_law_run ["_law_parts_here", "_law_events", "_law_amount"] (defScope s_law_run) := ⟨rfl, rfl, rfl, by decide +kernel, rfl, by decide +kernel, by decide +kernel⟩
theorem h_law_run {T : Wh} (F : Fx T) : Has T "_law_run" 2 3 f_law_run := by
  obtain ⟨f, fd, hm, hF, hB⟩ := F.fn_law_run
  exact ⟨f, hm, fnM_of1 (k := 1) (N := N_law_run) (m := 4) (body := m_law_run) hF hB sc_law_run rfl rfl (fun cdv A outer s H E hr => (by have hu := hr.units; have hu1 : _ + 1 < cLine := Nat.lt_of_le_of_lt (Nat.add_le_add_left (by decide) _) hu; have hu2 : _ + 2 < cLine := Nat.lt_of_le_of_lt (Nat.add_le_add_left (by decide) _) hu; delta m_law_run; delta Se.mLcX Se.mIsiTO Se.mRevS Se.mChain3 Se.sPar3 Se.sFgt Se.mOutsO Se.sWhile Se.mVar Se.mC Se.mBin Se.mTest Se.mChain Se.tAndM Se.tOrM Se.tNotM Se.mAnd Se.mOr Se.mNot Se.mIf Se.aNil Se.aCons Se.mTup Se.mLst Se.mApp Se.mCut Se.oNone Se.oSome Se.sNext Se.sSeq Se.sSet Se.sRet Se.sDrop Se.sIf Se.sAug Se.sBreak Se.sCont Se.gSet Se.gsNil Se.gsCons Se.gTupM Se.sAsg Se.sPar Se.sFor Se.iRange1 Se.iRange2 Se.mFld Se.sFldM Se.sFldAugM Se.mMeth Se.mProp Se.vMake Se.iEnumM Se.iZipM Se.iSeqM Se.iStrM Se.mYes Se.mLc Se.mBM Se.gSubL Se.mIsi Se.sRaise Se.sRaise0 Se.aStar Se.mOp Se.mLen Se.mDget Se.gSubD Se.mDisp Se.mItems Se.mDc Se.gFld Se.mOutcome Se.mBad Se.sBad Se.mNeg Se.mCall Se.mGetO Se.mOpT Se.mIsiO Se.gTupS Se.iKeysM Se.iValsM Se.mDisp0 Se.mOutOne Se.mCm Se.mMakeV Se.mSup Se.mMake0 Se.mCon Se.mOpG Se.gPl Se.gYl Se.gSq Se.gFr Se.mListG Se.mListV Ab.mNeg; exact (jss_cons (js_par3 rfl sc_law_run.nd (ja_cons (je_op m2_repL quiet_repL (je_lst (ja_cons (je_int) (ja_nil))) (je_callB mc_len quiet_len F.b_len Boot.len (ja_cons (je_ix (je_var (i := 0)) (je_int)) (ja_nil)))) (ja_cons (je_int) (ja_cons (je_bl) (ja_nil))))) (jss_cons (js_for cx1_pass rfl (ji_seq (je_var (i := 1))) (jg_name (i := 6) sc_law_run.nd) (jss_one (js_if (jt_cmp (m2_eq hu) quiet_eq (je_ix (je_var (i := 6)) (je_int)) (je_str)) (jss_cons (js_set sc_law_run.nd (je_ix (je_call (h_law_tick F) (hr.mono (by decide)) (ja_cons (je_var (i := 0)) (ja_cons (je_var (i := 3)) (ja_cons (je_var (i := 4)) (ja_cons (je_if (jt_cmp m2_isN quiet_isN (je_ix (je_var (i := 6)) (je_int)) (je_non)) (je_var (i := 2)) (je_ix (je_var (i := 6)) (je_int))) (ja_cons (je_tup (ja_nil)) (ja_nil))))))) (je_int))) (jss_one (js_set sc_law_run.nd (je_op m2_add quiet_add (je_var (i := 4)) (je_int))))) (jss_one (js_set sc_law_run.nd (je_and (je_var (i := 5)) (je_one (je_cmp (m2_eq hu) quiet_eq (je_ix (je_var (i := 3)) (je_ix (je_var (i := 6)) (je_int))) (je_ix (je_var (i := 6)) (je_int)))))))))) (jss_one (js_ret (je_tup (ja_cons (je_var (i := 5)) (ja_cons (je_var (i := 3)) (ja_nil))))))))))⟩
/-! ### _law_text -/
abbrev N_law_text : List Str := ["_law_h", "_law_parts_here", "_law_rows", "_law_events", "_law_hidden", "_law_amount", "_law_time", "_law_k", "_law_level", "_law_j", "_law_odd"]
theorem sc_law_text : FnScope N_law_text ["_law_h", "_law_parts_here"] (defScope s_law_text) := ⟨rfl, rfl, rfl, by decide +kernel, rfl, by decide +kernel, by decide +kernel⟩
theorem h_law_text {T : Wh} (F : Fx T) : Has T "_law_text" 3 2 f_law_text := by
  obtain ⟨f, fd, hm, hF, hB⟩ := F.fn_law_text
  exact ⟨f, hm, fnM_of1 (k := 2) (N := N_law_text) (m := 9) (body := m_law_text) hF hB sc_law_text rfl rfl (fun cdv A outer s H E hr => (by have hu := hr.units; have hu1 : _ + 1 < cLine := Nat.lt_of_le_of_lt (Nat.add_le_add_left (by decide) _) hu; have hu2 : _ + 2 < cLine := Nat.lt_of_le_of_lt (Nat.add_le_add_left (by decide) _) hu; delta m_law_text; delta Se.mLcX Se.mIsiTO Se.mRevS Se.mChain3 Se.sPar3 Se.sFgt Se.mOutsO Se.sWhile Se.mVar Se.mC Se.mBin Se.mTest Se.mChain Se.tAndM Se.tOrM Se.tNotM Se.mAnd Se.mOr Se.mNot Se.mIf Se.aNil Se.aCons Se.mTup Se.mLst Se.mApp Se.mCut Se.oNone Se.oSome Se.sNext Se.sSeq Se.sSet Se.sRet Se.sDrop Se.sIf Se.sAug Se.sBreak Se.sCont Se.gSet Se.gsNil Se.gsCons Se.gTupM Se.sAsg Se.sPar Se.sFor Se.iRange1 Se.iRange2 Se.mFld Se.sFldM Se.sFldAugM Se.mMeth Se.mProp Se.vMake Se.iEnumM Se.iZipM Se.iSeqM Se.iStrM Se.mYes Se.mLc Se.mBM Se.gSubL Se.mIsi Se.sRaise Se.sRaise0 Se.aStar Se.mOp Se.mLen Se.mDget Se.gSubD Se.mDisp Se.mItems Se.mDc Se.gFld Se.mOutcome Se.mBad Se.sBad Se.mNeg Se.mCall Se.mGetO Se.mOpT Se.mIsiO Se.gTupS Se.iKeysM Se.iValsM Se.mDisp0 Se.mOutOne Se.mCm Se.mMakeV Se.mSup Se.mMake0 Se.mCon Se.mOpG Se.gPl Se.gYl Se.gSq Se.gFr Se.mListG Se.mListV Ab.mNeg; exact (jss_cons (js_par rfl sc_law_text.nd (ja_cons (je_lst (ja_nil)) (ja_cons (je_lst (ja_nil)) (ja_nil)))) (jss_cons (js_par rfl sc_law_text.nd (ja_cons (je_call (h_law_next F) (hr.mono (by decide)) (ja_cons (je_var (i := 0)) (ja_cons (je_int) (ja_nil)))) (ja_cons (je_call (h_law_next F) (hr.mono (by decide)) (ja_cons (je_var (i := 0)) (ja_cons (je_int) (ja_nil)))) (ja_nil)))) (jss_cons (js_for cx1_pass rfl (ji_range1 F.b_range (ja_cons (je_call (h_law_next F) (hr.mono (by decide)) (ja_cons (je_var (i := 0)) (ja_cons (je_int) (ja_nil)))) (ja_nil))) (jg_name (i := 6) sc_law_text.nd) (jss_one (js_if (jt_cmp (m2_eq hu) quiet_eq (je_call (h_law_next F) (hr.mono (by decide)) (ja_cons (je_var (i := 0)) (ja_cons (je_int) (ja_nil)))) (je_int)) (jss_cons (js_expr (je_append (je_var (i := 3)) (je_tup (ja_cons (je_str) (ja_cons (je_if (jt_cmp (m2_eq hu) quiet_eq (je_var (i := 6)) (je_var (i := 4))) (je_var (i := 5)) (je_call (h_law_next F) (hr.mono (by decide)) (ja_cons (je_var (i := 0)) (ja_cons (je_int) (ja_nil))))) (ja_nil)))))) (jss_one (js_expr (je_append (je_var (i := 2)) (je_if (jt_cmp (m2_eq hu) quiet_eq (je_var (i := 6)) (je_var (i := 4))) (je_str) (je_op m2_add quiet_add (je_str) (je_callTy mc_strI quiet_strI F.b_str Boot.str (ja_cons (je_ix (je_ix (je_var (i := 3)) (je_neg (je_int))) (je_int)) (ja_nil))))))))) (jss_cons (js_set sc_law_text.nd (je_call (h_law_next F) (hr.mono (by decide)) (ja_cons (je_var (i := 0)) (ja_cons (je_callB mc_len quiet_len F.b_len Boot.len (ja_cons (je_ix (je_var (i := 1)) (je_int)) (ja_nil))) (ja_nil))))) (jss_cons (js_set sc_law_text.nd (je_ix (je_ix (je_call (h_law_run F) (hr.mono (by decide)) (ja_cons (je_var (i := 1)) (ja_cons (je_var (i := 3)) (ja_cons (je_int) (ja_nil))))) (je_int)) (je_var (i := 7)))) (jss_one (js_expr (je_append (je_var (i := 2)) (je_op m2_add quiet_add (je_op m2_add quiet_add (je_op m2_add quiet_add (je_str) (je_ix (je_ix (je_ix (je_var (i := 1)) (je_int)) (je_var (i := 7))) (je_int))) (je_str)) (je_callTy mc_strI quiet_strI F.b_str Boot.str (ja_cons (je_var (i := 8)) (ja_nil)))))))))))) (jss_cons (js_if (jt_cmp (m2_eq hu) quiet_eq (je_call (h_law_next F) (hr.mono (by decide)) (ja_cons (je_var (i := 0)) (ja_cons (je_int) (ja_nil)))) (je_int)) (jss_cons (js_set sc_law_text.nd (je_call (h_law_next F) (hr.mono (by decide)) (ja_cons (je_var (i := 0)) (ja_cons (je_op m2_add quiet_add (je_callB mc_len quiet_len F.b_len Boot.len (ja_cons (je_var (i := 2)) (ja_nil))) (je_int)) (ja_nil))))) (jss_cons (js_set sc_law_text.nd (je_ix (je_lst (ja_cons (je_str) (ja_cons (je_str) (ja_cons (je_str) (ja_cons (je_str) (ja_cons (je_str) (ja_cons (je_str) (ja_cons (je_str) (ja_cons (je_str) (ja_nil)))))))))) (je_call (h_law_next F) (hr.mono (by decide)) (ja_cons (je_var (i := 0)) (ja_cons (je_int) (ja_nil)))))) (jss_one (js_set sc_law_text.nd (je_op m2_add quiet_add (je_op m2_add quiet_add (je_cut (je_var (i := 2)) jo_none (jo_some (je_var (i := 9)))) (je_lst (ja_cons (je_var (i := 10)) (ja_nil)))) (je_cut (je_var (i := 2)) (jo_some (je_op m2_add quiet_add (je_var (i := 9)) (je_call (h_law_next F) (hr.mono (by decide)) (ja_cons (je_var (i := 0)) (ja_cons (je_int) (ja_nil)))))) jo_none)))))) (jss_nil)) (jss_one (js_ret (je_join (je_str) (je_if (jt_cmp (m2_eq hu) quiet_eq (je_call (h_law_next F) (hr.mono (by decide)) (ja_cons (je_var (i := 0)) (ja_cons (je_int) (ja_nil)))) (je_int)) (je_op m2_add quiet_add (je_var (i := 2)) (je_op m2_repL quiet_repL (je_lst (ja_cons (je_str) (ja_nil))) (je_op m2_add quiet_add (je_int) (je_call (h_law_next F) (hr.mono (by decide)) (ja_cons (je_var (i := 0)) (ja_cons (je_int) (ja_nil))))))) (je_var (i := 2))))))))))))⟩
/-! ### _law_event -/
abbrev N_law_event : List Str := ["_law_names", "_law_words", "_law_digits", "_law_word", "_law_c", "_law_plain"]
theorem sc_law_event : FnScope N_law_event ["_law_names", "_law_words"] (defScope s_law_event) := ⟨rfl, rfl, rfl, by decide +kernel, rfl, by decide +kernel, by decide +kernel⟩
theorem h_law_event {T : Wh} (F : Fx T) : Has T "_law_event" 1 2 f_law_event := by
  obtain ⟨f, fd, hm, hF, hB⟩ := F.fn_law_event
  exact ⟨f, hm, fnM_of1 (k := 0) (N := N_law_event) (m := 4) (body := m_law_event) hF hB sc_law_event rfl rfl (fun cdv A outer s H E hr => (by have hu := hr.units; have hu1 : _ + 1 < cLine := Nat.lt_of_le_of_lt (Nat.add_le_add_left (by decide) _) hu; have hu2 : _ + 2 < cLine := Nat.lt_of_le_of_lt (Nat.add_le_add_left (by decide) _) hu; delta m_law_event; delta Se.mLcX Se.mIsiTO Se.mRevS Se.mChain3 Se.sPar3 Se.sFgt Se.mOutsO Se.sWhile Se.mVar Se.mC Se.mBin Se.mTest Se.mChain Se.tAndM Se.tOrM Se.tNotM Se.mAnd Se.mOr Se.mNot Se.mIf Se.aNil Se.aCons Se.mTup Se.mLst Se.mApp Se.mCut Se.oNone Se.oSome Se.sNext Se.sSeq Se.sSet Se.sRet Se.sDrop Se.sIf Se.sAug Se.sBreak Se.sCont Se.gSet Se.gsNil Se.gsCons Se.gTupM Se.sAsg Se.sPar Se.sFor Se.iRange1 Se.iRange2 Se.mFld Se.sFldM Se.sFldAugM Se.mMeth Se.mProp Se.vMake Se.iEnumM Se.iZipM Se.iSeqM Se.iStrM Se.mYes Se.mLc Se.mBM Se.gSubL Se.mIsi Se.sRaise Se.sRaise0 Se.aStar Se.mOp Se.mLen Se.mDget Se.gSubD Se.mDisp Se.mItems Se.mDc Se.gFld Se.mOutcome Se.mBad Se.sBad Se.mNeg Se.mCall Se.mGetO Se.mOpT Se.mIsiO Se.gTupS Se.iKeysM Se.iValsM Se.mDisp0 Se.mOutOne Se.mCm Se.mMakeV Se.mSup Se.mMake0 Se.mCon Se.mOpG Se.gPl Se.gYl Se.gSq Se.gFr Se.mListG Se.mListV Ab.mNeg; exact (jss_cons (js_setLc rfl sc_law_event.nd [("_law_word", 3)] (ji_seq (je_cut (je_var (i := 1)) (jo_some (je_int)) jo_none)) (by first | (change blkC N_law_event (defScope s_law_event) _ _ = true; decide +kernel) | rfl) (fun s H C cl fp => jg_name (i := 3) sc_law_event.nd) (fun s H C cl fp => jts_one (JW.jt (jw_and (jt_cmp (m2_eq hu) quiet_eq (je_lc rfl sc_law_event.nd [("_law_c", 4)] (ji_str (je_var (i := 3))) (by first | (change blkC N_law_event (defScope s_law_event) _ _ = true; decide +kernel) | rfl) (fun s H C cl fp => jg_name (i := 4) sc_law_event.nd) (fun s H C cl fp => jts_one (jt_not (jt_chain m2_le quiet_le m2_le quiet_le (je_str) (je_var (i := 4)) (je_str)))) (fun s H C cl fp => je_var (i := 4))) (je_lst (ja_nil))) (jw_and1 (jt_cmp (m2_ne hu) quiet_ne (je_var (i := 3)) (je_str)))))) (fun s H C cl fp => je_var (i := 3)) (by rfl)) (jss_cons (js_setLc rfl sc_law_event.nd [("_law_word", 3)] (ji_seq (je_var (i := 2))) (by first | (change blkC N_law_event (defScope s_law_event) _ _ = true; decide +kernel) | rfl) (fun s H C cl fp => jg_name (i := 3) sc_law_event.nd) (fun s H C cl fp => jts_one (JW.jt (jw_or (jt_cmp (m2_eq hu) quiet_eq (je_var (i := 3)) (je_str)) (jw_or1 (jt_cmp (m2_ne hu) quiet_ne (je_ix (je_var (i := 3)) (je_int)) (je_str)))))) (fun s H C cl fp => je_var (i := 3)) (by rfl)) (jss_cons (js_if (JW.jt (jw_and (jt_cmp (m2_eq hu) quiet_eq (je_callB mc_len quiet_len F.b_len Boot.len (ja_cons (je_var (i := 1)) (ja_nil))) (je_int)) (jw_and1 (jt_cmp (m2_eq hu) quiet_eq (je_ix (je_var (i := 1)) (je_int)) (je_str))))) (jss_cons (js_if (jt_cmp (m2_eq hu) quiet_eq (je_ix (je_var (i := 1)) (je_int)) (je_str)) (jss_one (js_ret (je_tup (ja_cons (je_str) (ja_cons (je_non) (ja_nil)))))) (jss_nil)) (jss_one (js_if (JW.jt (jw_and (jt_cmp (m2_ne hu) quiet_ne (je_var (i := 5)) (je_lst (ja_nil))) (jw_and (jt_cmp m2_le quiet_le (je_callB mc_len quiet_len F.b_len Boot.len (ja_cons (je_ix (je_var (i := 5)) (je_int)) (ja_nil))) (je_int)) (jw_and1 (jt_cmp m2_le quiet_le (je_callTy mc_intS quiet_intS F.b_int Boot.int (ja_cons (je_ix (je_var (i := 5)) (je_int)) (ja_nil))) (je_op m2_pow quiet_pow (je_int) (je_int))))))) (jss_one (js_ret (je_tup (ja_cons (je_str) (ja_cons (je_callTy mc_intS quiet_intS F.b_int Boot.int (ja_cons (je_ix (je_var (i := 5)) (je_int)) (ja_nil))) (ja_nil)))))) (jss_nil)))) (jss_nil)) (jss_cons (js_if (JW.jt (jw_and (jt_cmp (m2_eq hu) quiet_eq (je_callB mc_len quiet_len F.b_len Boot.len (ja_cons (je_var (i := 1)) (ja_nil))) (je_int)) (jw_and (jt_cmp (m2_eq hu) quiet_eq (je_ix (je_var (i := 1)) (je_int)) (je_str)) (jw_and (jt_cmp m2_in quiet_in (je_ix (je_var (i := 1)) (je_int)) (je_var (i := 0))) (jw_and (jt_cmp m2_in quiet_in (je_ix (je_var (i := 1)) (je_int)) (je_var (i := 5))) (jw_and1 (jt_cmp m2_le quiet_le (je_callB mc_len quiet_len F.b_len Boot.len (ja_cons (je_ix (je_var (i := 1)) (je_int)) (ja_nil))) (je_int)))))))) (jss_one (js_ret (je_tup (ja_cons (je_str) (ja_cons (je_index (je_var (i := 0)) (je_ix (je_var (i := 1)) (je_int))) (ja_cons (je_callTy mc_intS quiet_intS F.b_int Boot.int (ja_cons (je_ix (je_var (i := 1)) (je_int)) (ja_nil))) (ja_nil))))))) (jss_nil)) (jss_one (js_ret (je_non)))))))))⟩
/-! ### _law_due -/
abbrev N_law_due : List Str := ["_law_parts_here", "_law_text_here", "_law_events", "_law_names", "_law_lines", "_law_one", "_law_k", "_law_event_here", "_law_hidden"]
theorem sc_law_due : FnScope N_law_due ["_law_parts_here", "_law_text_here"] (defScope s_law_due) := ⟨rfl, rfl, rfl, by decide +kernel, rfl, by decide +kernel, by decide +kernel⟩
theorem h_law_due {T : Wh} (F : Fx T) : Has T "_law_due" 3 2 f_law_due := by
  obtain ⟨f, fd, hm, hF, hB⟩ := F.fn_law_due
  exact ⟨f, hm, fnM_of1 (k := 2) (N := N_law_due) (m := 7) (body := m_law_due) hF hB sc_law_due rfl rfl (fun cdv A outer s H E hr => (by have hu := hr.units; have hu1 : _ + 1 < cLine := Nat.lt_of_le_of_lt (Nat.add_le_add_left (by decide) _) hu; have hu2 : _ + 2 < cLine := Nat.lt_of_le_of_lt (Nat.add_le_add_left (by decide) _) hu; delta m_law_due; delta Se.mLcX Se.mIsiTO Se.mRevS Se.mChain3 Se.sPar3 Se.sFgt Se.mOutsO Se.sWhile Se.mVar Se.mC Se.mBin Se.mTest Se.mChain Se.tAndM Se.tOrM Se.tNotM Se.mAnd Se.mOr Se.mNot Se.mIf Se.aNil Se.aCons Se.mTup Se.mLst Se.mApp Se.mCut Se.oNone Se.oSome Se.sNext Se.sSeq Se.sSet Se.sRet Se.sDrop Se.sIf Se.sAug Se.sBreak Se.sCont Se.gSet Se.gsNil Se.gsCons Se.gTupM Se.sAsg Se.sPar Se.sFor Se.iRange1 Se.iRange2 Se.mFld Se.sFldM Se.sFldAugM Se.mMeth Se.mProp Se.vMake Se.iEnumM Se.iZipM Se.iSeqM Se.iStrM Se.mYes Se.mLc Se.mBM Se.gSubL Se.mIsi Se.sRaise Se.sRaise0 Se.aStar Se.mOp Se.mLen Se.mDget Se.gSubD Se.mDisp Se.mItems Se.mDc Se.gFld Se.mOutcome Se.mBad Se.sBad Se.mNeg Se.mCall Se.mGetO Se.mOpT Se.mIsiO Se.gTupS Se.iKeysM Se.iValsM Se.mDisp0 Se.mOutOne Se.mCm Se.mMakeV Se.mSup Se.mMake0 Se.mCon Se.mOpG Se.gPl Se.gYl Se.gSq Se.gFr Se.mListG Se.mListV Ab.mNeg; exact (jss_cons (js_par3 rfl sc_law_due.nd (ja_cons (je_lst (ja_nil)) (ja_cons (je_lc rfl sc_law_due.nd [("_law_one", 5)] (ji_seq (je_ix (je_var (i := 0)) (je_int))) (by first | (change blkC N_law_due (defScope s_law_due) _ _ = true; decide +kernel) | rfl) (fun s H C cl fp => jg_name (i := 5) sc_law_due.nd) (fun s H C cl fp => jts_nil) (fun s H C cl fp => je_ix (je_var (i := 5)) (je_int))) (ja_cons (je_if (jt_cmp (m2_ne hu) quiet_ne (je_var (i := 1)) (je_str)) (je_split (je_var (i := 1)) (je_str)) (je_lst (ja_nil))) (ja_nil))))) (jss_cons (js_for cx1_pass rfl (ji_range1 F.b_range (ja_cons (je_callB mc_len quiet_len F.b_len Boot.len (ja_cons (je_var (i := 4)) (ja_nil))) (ja_nil))) (jg_name (i := 6) sc_law_due.nd) (jss_cons (js_set sc_law_due.nd (je_if (jt_cmp m2_lt (quiet_cmpI _) (je_var (i := 6)) (je_int)) (je_call (h_law_event F) (hr.mono (by decide)) (ja_cons (je_var (i := 3)) (ja_cons (je_split (je_ix (je_var (i := 4)) (je_var (i := 6))) (je_str)) (ja_nil)))) (je_non))) (jss_cons (js_set sc_law_due.nd (je_cmp (m2_ne hu) quiet_ne (je_lc rfl sc_law_due.nd [("_law_one", 5)] (ji_seq (je_var (i := 2))) (by first | (change blkC N_law_due (defScope s_law_due) _ _ = true; decide +kernel) | rfl) (fun s H C cl fp => jg_name (i := 5) sc_law_due.nd) (fun s H C cl fp => jts_one (jt_cmp m2_isN quiet_isN (je_ix (je_var (i := 5)) (je_int)) (je_non))) (fun s H C cl fp => je_var (i := 5))) (je_lst (ja_nil)))) (jss_cons (js_if (JW.jt (jw_or (jt_cmp m2_isN quiet_isN (je_var (i := 7)) (je_non)) (jw_or1 (JW.jt (jw_and (jt_cmp m2_isN quiet_isN (je_ix (je_var (i := 7)) (je_int)) (je_non)) (jw_and1 (jt_val (je_var (i := 8))))))))) (jss_one (js_ret (je_tup (ja_cons (je_str) (ja_cons (je_var (i := 6)) (ja_nil)))))) (jss_nil)) (jss_cons (js_expr (je_append (je_var (i := 2)) (je_var (i := 7)))) (jss_one (js_if (JW.jt (jw_and (jt_not (jt_val (je_var (i := 8)))) (jw_and (jt_cmp (m2_eq hu) quiet_eq (je_ix (je_var (i := 7)) (je_int)) (je_str)) (jw_and1 (jt_not (jt_val (je_ix (je_call (h_law_run F) (hr.mono (by decide)) (ja_cons (je_var (i := 0)) (ja_cons (je_var (i := 2)) (ja_cons (je_int) (ja_nil))))) (je_int)))))))) (jss_one (js_ret (je_tup (ja_cons (je_str) (ja_cons (je_var (i := 6)) (ja_nil)))))) (jss_nil)))))))) (jss_one (js_ret (je_tup (ja_cons (je_str) (ja_cons (je_var (i := 2)) (ja_nil))))))))))⟩
/-! ### _law_outcome -/
abbrev N_law_outcome : List Str := ["_law_call", "e", "_law_kinds", "_law_word"]
theorem sc_law_outcome : FnScope N_law_outcome ["_law_call"] (defScope s_law_outcome) := ⟨rfl, rfl, rfl, by decide +kernel, rfl, by decide +kernel, by decide +kernel⟩
def suiteOf : List Stmt → List Stmt
  | [.Try _ [.ExceptHandler _ _ b _] _ _ _] => b
  | _ => []
theorem j_suite {T : Wh} (F : Fx T) {k : Nat} {g : Addr} {cdg : Value} {A : Around} {outer : List Env} {s : Shared} {H : Hp} (hr : Room k (A.deeper (envOfC "_law_outcome" (defScope s_law_outcome) s.heap.objs.size g cdg))) {aa : Addr} {oe : Obj} {Dn : Nat} {Da : Addr} {d : Option Addr} {pn : List (Addr × Obj)} (hx : ExAll T Dn Da) (hz : Zc (.ref Da) d oe) (hf : ∃ vs, oe.data = .fields vs) :
    JSs ((cxOf C8.CX0 T.P T.w T.K T.mg T.base N_law_outcome "_law_outcome" (defScope s_law_outcome) g cdg A outer s H C8.E0).nox.suite aa ((aa, oe) :: pn)) (suiteOf (defBody s_law_outcome)) (mSuite aa d Dn) := by
  obtain ⟨c_InvalidNumber, hc_InvalidNumber⟩ := F.ca_InvalidNumber; obtain ⟨c_DecodeError, hc_DecodeError⟩ := F.ca_DecodeError; obtain ⟨c_DaybookError, hc_DaybookError⟩ := F.ca_DaybookError; obtain ⟨c_InvalidText, hc_InvalidText⟩ := F.ca_InvalidText; obtain ⟨c_InvalidRow, hc_InvalidRow⟩ := F.ca_InvalidRow; obtain ⟨c_InvalidOperation, hc_InvalidOperation⟩ := F.ca_InvalidOperation; obtain ⟨c_UnknownBarrel, hc_UnknownBarrel⟩ := F.ca_UnknownBarrel; obtain ⟨c_InvalidWeather, hc_InvalidWeather⟩ := F.ca_InvalidWeather
  have hu := hr.units
  delta mSuite
  exact (jss_cons (js_set sc_law_outcome.nd (je_lst (ja_cons (je_isE hx.ec hz hf F.b_isinstance rfl (.inl rfl) (cls_own hc_DaybookError) (hx.isC 9 (by decide) _ hc_DaybookError)) (ja_cons (je_isE hx.ec hz hf F.b_isinstance rfl (.inl rfl) (cls_own hc_DecodeError) (hx.isC 10 (by decide) _ hc_DecodeError)) (ja_cons (je_isE hx.ec hz hf F.b_isinstance rfl (.inl rfl) (cls_own hc_InvalidNumber) (hx.isC 4 (by decide) _ hc_InvalidNumber)) (ja_nil)))))) (jss_cons (js_expr (je_extend (je_var (i := 2)) (je_lst (ja_cons (je_isE hx.ec hz hf F.b_isinstance rfl (.inl rfl) (cls_own hc_InvalidOperation) (hx.isC 7 (by decide) _ hc_InvalidOperation)) (ja_cons (je_isE hx.ec hz hf F.b_isinstance rfl (.inl rfl) (cls_own hc_InvalidRow) (hx.isC 1 (by decide) _ hc_InvalidRow)) (ja_cons (je_isE hx.ec hz hf F.b_isinstance rfl (.inl rfl) (cls_own hc_InvalidText) (hx.isC 8 (by decide) _ hc_InvalidText)) (ja_nil))))))) (jss_cons (js_expr (je_extend (je_var (i := 2)) (je_lst (ja_cons (je_isE hx.ec hz hf F.b_isinstance rfl (.inl rfl) (cls_own hc_InvalidWeather) (hx.isC 6 (by decide) _ hc_InvalidWeather)) (ja_cons (je_isE hx.ec hz hf F.b_isinstance rfl (.inl rfl) (cls_own hc_UnknownBarrel) (hx.isC 2 (by decide) _ hc_UnknownBarrel)) (ja_nil)))))) (jss_cons (js_if (JW.jt (jw_or (jt_cmp (m2_ne hu) quiet_ne (je_count (je_var (i := 2)) (je_bl)) (je_int)) (jw_or1 (jt_not (jt_val (je_isE hx.ec hz hf F.b_isinstance rfl (.inl rfl) (cls_blt F.b_ValueError PyProof.Rows.Boot.«ValueError») hx.isV)))))) (jss_one (js_ret (je_tup (ja_cons (je_str) (ja_nil))))) (jss_nil)) (jss_cons (js_set sc_law_outcome.nd (je_ix (je_lst (ja_cons (je_str) (ja_cons (je_str) (ja_cons (je_str) (ja_cons (je_str) (ja_cons (je_str) (ja_cons (je_str) (ja_cons (je_str) (ja_cons (je_str) (ja_nil)))))))))) (je_index (je_var (i := 2)) (je_bl)))) (jss_cons (js_if (jt_cmp m2_in quiet_in (je_var (i := 3)) (je_tup (ja_cons (je_str) (ja_cons (je_str) (ja_nil))))) (jss_one (js_ret (je_tup (ja_cons (je_var (i := 3)) (ja_cons (je_xf hx.xf (hx.nof 27 (by decide)) hz hf rfl (.inl rfl) (by decide)) (ja_nil)))))) (jss_nil)) (jss_cons (js_if (jt_cmp (m2_eq hu) quiet_eq (je_var (i := 3)) (je_str)) (jss_one (js_ret (je_tup (ja_cons (je_var (i := 3)) (ja_cons (je_xf hx.xf (hx.nof 24 (by decide)) hz hf rfl (.inl rfl) (by decide)) (ja_cons (je_xf hx.xf (hx.nof 25 (by decide)) hz hf rfl (.inl rfl) (by decide)) (ja_nil))))))) (jss_nil)) (jss_cons (js_if (jt_cmp (m2_eq hu) quiet_eq (je_var (i := 3)) (je_str)) (jss_one (js_ret (je_tup (ja_cons (je_var (i := 3)) (ja_cons (je_xf hx.xf (hx.nof 24 (by decide)) hz hf rfl (.inl rfl) (by decide)) (ja_nil)))))) (jss_nil)) (jss_cons (js_if (jt_cmp (m2_eq hu) quiet_eq (je_var (i := 3)) (je_str)) (jss_one (js_ret (je_tup (ja_cons (je_var (i := 3)) (ja_nil))))) (jss_nil)) (jss_one (js_ret (je_tup (ja_cons (je_var (i := 3)) (ja_cons (je_if (jt_cmp (m2_eq hu) quiet_eq (je_var (i := 3)) (je_str)) (je_xf hx.xf (hx.nof 28 (by decide)) hz hf rfl (.inl rfl) (by decide)) (je_if (jt_cmp (m2_eq hu) quiet_eq (je_var (i := 3)) (je_str)) (je_xf hx.xf (hx.nof 25 (by decide)) hz hf rfl (.inl rfl) (by decide)) (je_xf hx.xf (hx.nof 26 (by decide)) hz hf rfl (.inl rfl) (by decide)))) (ja_nil)))))))))))))))
theorem gout {T : Wh} (F : Fx T) {X : Cx} (hX : Cx.wh X = T) {g : Addr} {cdg : Value} {q : Str} {k : Nat} (hroom : ∀ s : Shared, Room k (X.A.deeper (envOfC "_law_outcome" (defScope s_law_outcome) s.heap.objs.size g cdg))) :
    LamX.GivesTo X N_law_outcome "_law_outcome" (defScope s_law_outcome) g cdg (defBody s_law_outcome) "_law_call" q (TTout X.K X.mg) := by
  subst hX
  obtain ⟨RA, hRA⟩ := F.ca_RowError
  exact out_gives (mS := mSuite) sc_law_outcome rfl rfl rfl hRA hroom (fun A outer s H hr aa oe Dn Da d pn m1 m2 hz hf => j_suite F hr (F.ex_all Dn m1 Da m2) hz hf) (fun Dn m Da h => (F.ex_all Dn m Da h).row _ hRA) suite_run
/-! ### Row.__len__ -/
abbrev N_Row_len : List Str := ["self"]
theorem sc_Row_len : FnScope N_Row_len ["self"] (defScope s_Row_len) := ⟨rfl, rfl, rfl, by decide +kernel, rfl, by decide +kernel, by decide +kernel⟩
theorem h_Row_len {T : Wh} (F : Fx T) : HasLen T 13 1 f_Row_len := by
  obtain ⟨Ca, f, fd, h1, h2, h3, h4, hF, hB⟩ := F.me_Row_len
  exact ⟨Ca, f, h1, h2, h3, h4, fnM_of1 (k := 0) (N := N_Row_len) (m := 0) (body := m_Row_len) hF hB sc_Row_len rfl rfl (fun cdv A outer s H E hr => (by have hu := hr.units; have hu1 : _ + 1 < cLine := Nat.lt_of_le_of_lt (Nat.add_le_add_left (by decide) _) hu; have hu2 : _ + 2 < cLine := Nat.lt_of_le_of_lt (Nat.add_le_add_left (by decide) _) hu; delta m_Row_len; delta Se.mLcX Se.mIsiTO Se.mRevS Se.mChain3 Se.sPar3 Se.sFgt Se.mOutsO Se.sWhile Se.mVar Se.mC Se.mBin Se.mTest Se.mChain Se.tAndM Se.tOrM Se.tNotM Se.mAnd Se.mOr Se.mNot Se.mIf Se.aNil Se.aCons Se.mTup Se.mLst Se.mApp Se.mCut Se.oNone Se.oSome Se.sNext Se.sSeq Se.sSet Se.sRet Se.sDrop Se.sIf Se.sAug Se.sBreak Se.sCont Se.gSet Se.gsNil Se.gsCons Se.gTupM Se.sAsg Se.sPar Se.sFor Se.iRange1 Se.iRange2 Se.mFld Se.sFldM Se.sFldAugM Se.mMeth Se.mProp Se.vMake Se.iEnumM Se.iZipM Se.iSeqM Se.iStrM Se.mYes Se.mLc Se.mBM Se.gSubL Se.mIsi Se.sRaise Se.sRaise0 Se.aStar Se.mOp Se.mLen Se.mDget Se.gSubD Se.mDisp Se.mItems Se.mDc Se.gFld Se.mOutcome Se.mBad Se.sBad Se.mNeg Se.mCall Se.mGetO Se.mOpT Se.mIsiO Se.gTupS Se.iKeysM Se.iValsM Se.mDisp0 Se.mOutOne Se.mCm Se.mMakeV Se.mSup Se.mMake0 Se.mCon Se.mOpG Se.gPl Se.gYl Se.gSq Se.gFr Se.mListG Se.mListV Ab.mNeg; exact (jss_one (js_ret (je_callB mc_len quiet_len F.b_len Boot.len (ja_cons (je_fld (fld1 F.fo_Row_parts) (je_var (i := 0))) (ja_nil)))))))⟩
/-! ### Row.barrels -/
abbrev N_Row_barrels : List Str := ["self"]
theorem sc_Row_barrels : FnScope N_Row_barrels ["self"] (defScope s_Row_barrels) := ⟨rfl, rfl, rfl, by decide +kernel, rfl, by decide +kernel, by decide +kernel⟩
theorem h_Row_barrels {T : Wh} (F : Fx T) : HasP T 13 "barrels" 1 f_Row_barrels := by
  obtain ⟨p, f, fd, h1, hF, hB⟩ := F.me_Row_barrels
  exact fun Ca hC => ⟨p, f, (h1 Ca hC).1, (h1 Ca hC).2, fnM_of1 (k := 0) (N := N_Row_barrels) (m := 0) (body := m_Row_barrels) hF hB sc_Row_barrels rfl rfl (fun cdv A outer s H E hr => (by have hu := hr.units; have hu1 : _ + 1 < cLine := Nat.lt_of_le_of_lt (Nat.add_le_add_left (by decide) _) hu; have hu2 : _ + 2 < cLine := Nat.lt_of_le_of_lt (Nat.add_le_add_left (by decide) _) hu; delta m_Row_barrels; delta Se.mLcX Se.mIsiTO Se.mRevS Se.mChain3 Se.sPar3 Se.sFgt Se.mOutsO Se.sWhile Se.mVar Se.mC Se.mBin Se.mTest Se.mChain Se.tAndM Se.tOrM Se.tNotM Se.mAnd Se.mOr Se.mNot Se.mIf Se.aNil Se.aCons Se.mTup Se.mLst Se.mApp Se.mCut Se.oNone Se.oSome Se.sNext Se.sSeq Se.sSet Se.sRet Se.sDrop Se.sIf Se.sAug Se.sBreak Se.sCont Se.gSet Se.gsNil Se.gsCons Se.gTupM Se.sAsg Se.sPar Se.sFor Se.iRange1 Se.iRange2 Se.mFld Se.sFldM Se.sFldAugM Se.mMeth Se.mProp Se.vMake Se.iEnumM Se.iZipM Se.iSeqM Se.iStrM Se.mYes Se.mLc Se.mBM Se.gSubL Se.mIsi Se.sRaise Se.sRaise0 Se.aStar Se.mOp Se.mLen Se.mDget Se.gSubD Se.mDisp Se.mItems Se.mDc Se.gFld Se.mOutcome Se.mBad Se.sBad Se.mNeg Se.mCall Se.mGetO Se.mOpT Se.mIsiO Se.gTupS Se.iKeysM Se.iValsM Se.mDisp0 Se.mOutOne Se.mCm Se.mMakeV Se.mSup Se.mMake0 Se.mCon Se.mOpG Se.gPl Se.gYl Se.gSq Se.gFr Se.mListG Se.mListV Ab.mNeg; exact (jss_one (js_ret (je_fld (fld1 F.fo_Row_parts) (je_var (i := 0)))))))⟩
/-! ### Daybook.has_unknown -/
abbrev N_Daybook_has_unknown : List Str := ["self", "event"]
theorem sc_Daybook_has_unknown : FnScope N_Daybook_has_unknown ["self"] (defScope s_Daybook_has_unknown) := ⟨rfl, rfl, rfl, by decide +kernel, rfl, by decide +kernel, by decide +kernel⟩
theorem h_Daybook_has_unknown {T : Wh} (F : Fx T) : HasM T 22 "has_unknown" 1 1 f_Daybook_has_unknown := by
  obtain ⟨f, fd, h1, hF, hB⟩ := F.me_Daybook_has_unknown
  exact ⟨by decide +kernel, fun Ca hC => ⟨f, (h1 Ca hC).1, (h1 Ca hC).2, fnM_of1 (k := 0) (N := N_Daybook_has_unknown) (m := 1) (body := m_Daybook_has_unknown) hF hB sc_Daybook_has_unknown rfl rfl (fun cdv A outer s H E hr => (by have hu := hr.units; have hu1 : _ + 1 < cLine := Nat.lt_of_le_of_lt (Nat.add_le_add_left (by decide) _) hu; have hu2 : _ + 2 < cLine := Nat.lt_of_le_of_lt (Nat.add_le_add_left (by decide) _) hu; delta m_Daybook_has_unknown; delta Se.mLcX Se.mIsiTO Se.mRevS Se.mChain3 Se.sPar3 Se.sFgt Se.mOutsO Se.sWhile Se.mVar Se.mC Se.mBin Se.mTest Se.mChain Se.tAndM Se.tOrM Se.tNotM Se.mAnd Se.mOr Se.mNot Se.mIf Se.aNil Se.aCons Se.mTup Se.mLst Se.mApp Se.mCut Se.oNone Se.oSome Se.sNext Se.sSeq Se.sSet Se.sRet Se.sDrop Se.sIf Se.sAug Se.sBreak Se.sCont Se.gSet Se.gsNil Se.gsCons Se.gTupM Se.sAsg Se.sPar Se.sFor Se.iRange1 Se.iRange2 Se.mFld Se.sFldM Se.sFldAugM Se.mMeth Se.mProp Se.vMake Se.iEnumM Se.iZipM Se.iSeqM Se.iStrM Se.mYes Se.mLc Se.mBM Se.gSubL Se.mIsi Se.sRaise Se.sRaise0 Se.aStar Se.mOp Se.mLen Se.mDget Se.gSubD Se.mDisp Se.mItems Se.mDc Se.gFld Se.mOutcome Se.mBad Se.sBad Se.mNeg Se.mCall Se.mGetO Se.mOpT Se.mIsiO Se.gTupS Se.iKeysM Se.iValsM Se.mDisp0 Se.mOutOne Se.mCm Se.mMakeV Se.mSup Se.mMake0 Se.mCon Se.mOpG Se.gPl Se.gYl Se.gSq Se.gFr Se.mListG Se.mListV Ab.mNeg; exact (jss_one (js_ret (je_cmp (m2_ne hu) quiet_ne (je_lc rfl sc_Daybook_has_unknown.nd [("event", 1)] (ji_seq (je_fld (fld1 F.fo_Daybook_events) (je_var (i := 0)))) (by first | (change blkC N_Daybook_has_unknown (defScope s_Daybook_has_unknown) _ _ = true; decide +kernel) | rfl) (fun s H C cl fp => jg_name (i := 1) sc_Daybook_has_unknown.nd) (fun s H C cl fp => jts_one (jt_cmp m2_isN quiet_isN (je_ix (je_var (i := 1)) (je_int)) (je_non))) (fun s H C cl fp => je_var (i := 1))) (je_lst (ja_nil)))))))⟩⟩
/-! ### is_figure -/
abbrev N_is_figure : List Str := ["word", "longest", "digit"]
theorem sc_is_figure : FnScope N_is_figure ["word", "longest"] (defScope s_is_figure) := ⟨rfl, rfl, rfl, by decide +kernel, rfl, by decide +kernel, by decide +kernel⟩
theorem h_is_figure {T : Wh} (F : Fx T) : Has T "is_figure" 1 2 f_is_figure := by
  obtain ⟨f, fd, hm, hF, hB⟩ := F.fn_is_figure
  exact ⟨f, hm, fnM_of1 (k := 0) (N := N_is_figure) (m := 1) (body := m_is_figure) hF hB sc_is_figure rfl rfl (fun cdv A outer s H E hr => (by have hu := hr.units; have hu1 : _ + 1 < cLine := Nat.lt_of_le_of_lt (Nat.add_le_add_left (by decide) _) hu; have hu2 : _ + 2 < cLine := Nat.lt_of_le_of_lt (Nat.add_le_add_left (by decide) _) hu; delta m_is_figure; delta Se.mLcX Se.mIsiTO Se.mRevS Se.mChain3 Se.sPar3 Se.sFgt Se.mOutsO Se.sWhile Se.mVar Se.mC Se.mBin Se.mTest Se.mChain Se.tAndM Se.tOrM Se.tNotM Se.mAnd Se.mOr Se.mNot Se.mIf Se.aNil Se.aCons Se.mTup Se.mLst Se.mApp Se.mCut Se.oNone Se.oSome Se.sNext Se.sSeq Se.sSet Se.sRet Se.sDrop Se.sIf Se.sAug Se.sBreak Se.sCont Se.gSet Se.gsNil Se.gsCons Se.gTupM Se.sAsg Se.sPar Se.sFor Se.iRange1 Se.iRange2 Se.mFld Se.sFldM Se.sFldAugM Se.mMeth Se.mProp Se.vMake Se.iEnumM Se.iZipM Se.iSeqM Se.iStrM Se.mYes Se.mLc Se.mBM Se.gSubL Se.mIsi Se.sRaise Se.sRaise0 Se.aStar Se.mOp Se.mLen Se.mDget Se.gSubD Se.mDisp Se.mItems Se.mDc Se.gFld Se.mOutcome Se.mBad Se.sBad Se.mNeg Se.mCall Se.mGetO Se.mOpT Se.mIsiO Se.gTupS Se.iKeysM Se.iValsM Se.mDisp0 Se.mOutOne Se.mCm Se.mMakeV Se.mSup Se.mMake0 Se.mCon Se.mOpG Se.gPl Se.gYl Se.gSq Se.gFr Se.mListG Se.mListV Ab.mNeg; exact (jss_cons (js_if (JW.jt (jw_or (jt_not (jt_chain m2_le quiet_le m2_le quiet_le (je_int) (je_callB mc_len quiet_len F.b_len Boot.len (ja_cons (je_var (i := 0)) (ja_nil))) (je_var (i := 1)))) (jw_or1 (jt_cmp (m2_ne hu) quiet_ne (je_lc rfl sc_is_figure.nd [("digit", 2)] (ji_str (je_var (i := 0))) (by first | (change blkC N_is_figure (defScope s_is_figure) _ _ = true; decide +kernel) | rfl) (fun s H C cl fp => jg_name (i := 2) sc_is_figure.nd) (fun s H C cl fp => jts_one (jt_cmp m2_notIn quiet_notIn (je_var (i := 2)) (je_globS F.g_DIGITS))) (fun s H C cl fp => je_var (i := 2))) (je_lst (ja_nil)))))) (jss_one (js_ret (je_bl))) (jss_nil)) (jss_one (js_ret (je_or (je_cmp (m2_eq hu) quiet_eq (je_callB mc_len quiet_len F.b_len Boot.len (ja_cons (je_var (i := 0)) (ja_nil))) (je_int)) (je_one (je_cmp (m2_ne hu) quiet_ne (je_ix (je_var (i := 0)) (je_int)) (je_str)))))))))⟩
/-! ### Daybook.event_of -/
abbrev N_Daybook_event_of : List Str := ["self", "words", "names", "name", "rest"]
theorem sc_Daybook_event_of : FnScope N_Daybook_event_of ["self", "words"] (defScope s_Daybook_event_of) := ⟨rfl, rfl, rfl, by decide +kernel, rfl, by decide +kernel, by decide +kernel⟩
theorem h_Daybook_event_of {T : Wh} (F : Fx T) : HasM T 22 "event_of" 3 2 f_Daybook_event_of := by
  obtain ⟨f, fd, h1, hF, hB⟩ := F.me_Daybook_event_of
  exact ⟨by decide +kernel, fun Ca hC => ⟨f, (h1 Ca hC).1, (h1 Ca hC).2, fnM_of1 (k := 2) (N := N_Daybook_event_of) (m := 3) (body := m_Daybook_event_of) hF hB sc_Daybook_event_of rfl rfl (fun cdv A outer s H E hr => (by have hu := hr.units; have hu1 : _ + 1 < cLine := Nat.lt_of_le_of_lt (Nat.add_le_add_left (by decide) _) hu; have hu2 : _ + 2 < cLine := Nat.lt_of_le_of_lt (Nat.add_le_add_left (by decide) _) hu; delta m_Daybook_event_of; delta Se.mLcX Se.mIsiTO Se.mRevS Se.mChain3 Se.sPar3 Se.sFgt Se.mOutsO Se.sWhile Se.mVar Se.mC Se.mBin Se.mTest Se.mChain Se.tAndM Se.tOrM Se.tNotM Se.mAnd Se.mOr Se.mNot Se.mIf Se.aNil Se.aCons Se.mTup Se.mLst Se.mApp Se.mCut Se.oNone Se.oSome Se.sNext Se.sSeq Se.sSet Se.sRet Se.sDrop Se.sIf Se.sAug Se.sBreak Se.sCont Se.gSet Se.gsNil Se.gsCons Se.gTupM Se.sAsg Se.sPar Se.sFor Se.iRange1 Se.iRange2 Se.mFld Se.sFldM Se.sFldAugM Se.mMeth Se.mProp Se.vMake Se.iEnumM Se.iZipM Se.iSeqM Se.iStrM Se.mYes Se.mLc Se.mBM Se.gSubL Se.mIsi Se.sRaise Se.sRaise0 Se.aStar Se.mOp Se.mLen Se.mDget Se.gSubD Se.mDisp Se.mItems Se.mDc Se.gFld Se.mOutcome Se.mBad Se.sBad Se.mNeg Se.mCall Se.mGetO Se.mOpT Se.mIsiO Se.gTupS Se.iKeysM Se.iValsM Se.mDisp0 Se.mOutOne Se.mCm Se.mMakeV Se.mSup Se.mMake0 Se.mCon Se.mOpG Se.gPl Se.gYl Se.gSq Se.gFr Se.mListG Se.mListV Ab.mNeg; exact (jss_cons (js_setLc rfl sc_Daybook_event_of.nd [("name", 3), ("rest", 4)] (ji_seq (je_prop (tbl1 ⟨F.cl_Row, h_Row_barrels F⟩) (by simp) (hr.mono (by decide)) (je_fld (fld1 F.fo_Daybook_plan) (je_var (i := 0))))) (by first | (change blkC N_Daybook_event_of (defScope s_Daybook_event_of) _ _ = true; decide +kernel) | rfl) (fun s H C cl fp => jg_tupS rfl (jgs_cons (jg_name (i := 3) sc_Daybook_event_of.nd) (jgs_star (jg_name (i := 4) sc_Daybook_event_of.nd)))) (fun s H C cl fp => jts_nil) (fun s H C cl fp => je_var (i := 3)) (by rfl)) (jss_cons (js_if (JW.jt (jw_and (jt_cmp (m2_eq hu) quiet_eq (je_callB mc_len quiet_len F.b_len Boot.len (ja_cons (je_var (i := 1)) (ja_nil))) (je_int)) (jw_and1 (jt_cmp (m2_eq hu) quiet_eq (je_ix (je_var (i := 1)) (je_int)) (je_globS F.g_RAIN))))) (jss_cons (js_if (JW.jt (jw_and (jt_cmp (m2_eq hu) quiet_eq (je_ix (je_var (i := 1)) (je_int)) (je_globS F.g_UNKNOWN)) (jw_and1 (jt_not (jt_val (je_meth0 (tbl1 ⟨F.cl_Daybook, h_Daybook_has_unknown F⟩) (by simp) (hr.mono (by decide)) (je_var (i := 0)))))))) (jss_one (js_ret (je_tup (ja_cons (je_globS F.g_RAIN) (ja_cons (je_non) (ja_nil)))))) (jss_nil)) (jss_one (js_if (JW.jt (jw_and (jt_val (je_call (h_is_figure F) (hr.mono (by decide)) (ja_cons (je_ix (je_var (i := 1)) (je_int)) (ja_cons (je_globI F.g_RAIN_DIGITS) (ja_nil))))) (jw_and1 (jt_cmp m2_le quiet_le (je_callTy mc_intS quiet_intS F.b_int Boot.int (ja_cons (je_ix (je_var (i := 1)) (je_int)) (ja_nil))) (je_globI F.g_MAX_RAIN))))) (jss_one (js_ret (je_tup (ja_cons (je_globS F.g_RAIN) (ja_cons (je_callTy mc_intS quiet_intS F.b_int Boot.int (ja_cons (je_ix (je_var (i := 1)) (je_int)) (ja_nil))) (ja_nil)))))) (jss_nil)))) (jss_nil)) (jss_cons (js_if (JW.jt (jw_and (jt_cmp (m2_eq hu) quiet_eq (je_callB mc_len quiet_len F.b_len Boot.len (ja_cons (je_var (i := 1)) (ja_nil))) (je_int)) (jw_and (jt_cmp (m2_eq hu) quiet_eq (je_ix (je_var (i := 1)) (je_int)) (je_globS F.g_LEVEL)) (jw_and (jt_cmp m2_in quiet_in (je_ix (je_var (i := 1)) (je_int)) (je_var (i := 2))) (jw_and1 (jt_val (je_call (h_is_figure F) (hr.mono (by decide)) (ja_cons (je_ix (je_var (i := 1)) (je_int)) (ja_cons (je_globI F.g_MAX_DIGITS) (ja_nil)))))))))) (jss_one (js_ret (je_tup (ja_cons (je_globS F.g_LEVEL) (ja_cons (je_index (je_var (i := 2)) (je_ix (je_var (i := 1)) (je_int))) (ja_cons (je_callTy mc_intS quiet_intS F.b_int Boot.int (ja_cons (je_ix (je_var (i := 1)) (je_int)) (ja_nil))) (ja_nil))))))) (jss_nil)) (jss_one (js_ret (je_non))))))))⟩⟩
/-! ### next_tick -/
abbrev N_next_tick : List Str := ["row", "levels", "tick", "amount", "locked", "later", "drawn", "missed", "flow", "level", "name", "most", "roof", "wishes", "filled", "kept", "wish", "taken"]
theorem sc_next_tick : FnScope N_next_tick ["row", "levels", "tick", "amount", "locked"] (defScope s_next_tick) := ⟨rfl, rfl, rfl, by decide +kernel, rfl, by decide +kernel, by decide +kernel⟩
theorem h_next_tick {T : Wh} (F : Fx T) : Has T "next_tick" 3 5 f_next_tick := by
  obtain ⟨f, fd, hm, hF, hB⟩ := F.fn_next_tick
  exact ⟨f, hm, fnM_of1 (k := 2) (N := N_next_tick) (m := 13) (body := m_next_tick) hF hB sc_next_tick rfl rfl (fun cdv A outer s H E hr => (by have hu := hr.units; have hu1 : _ + 1 < cLine := Nat.lt_of_le_of_lt (Nat.add_le_add_left (by decide) _) hu; have hu2 : _ + 2 < cLine := Nat.lt_of_le_of_lt (Nat.add_le_add_left (by decide) _) hu; delta m_next_tick; delta Se.mLcX Se.mIsiTO Se.mRevS Se.mChain3 Se.sPar3 Se.sFgt Se.mOutsO Se.sWhile Se.mVar Se.mC Se.mBin Se.mTest Se.mChain Se.tAndM Se.tOrM Se.tNotM Se.mAnd Se.mOr Se.mNot Se.mIf Se.aNil Se.aCons Se.mTup Se.mLst Se.mApp Se.mCut Se.oNone Se.oSome Se.sNext Se.sSeq Se.sSet Se.sRet Se.sDrop Se.sIf Se.sAug Se.sBreak Se.sCont Se.gSet Se.gsNil Se.gsCons Se.gTupM Se.sAsg Se.sPar Se.sFor Se.iRange1 Se.iRange2 Se.mFld Se.sFldM Se.sFldAugM Se.mMeth Se.mProp Se.vMake Se.iEnumM Se.iZipM Se.iSeqM Se.iStrM Se.mYes Se.mLc Se.mBM Se.gSubL Se.mIsi Se.sRaise Se.sRaise0 Se.aStar Se.mOp Se.mLen Se.mDget Se.gSubD Se.mDisp Se.mItems Se.mDc Se.gFld Se.mOutcome Se.mBad Se.sBad Se.mNeg Se.mCall Se.mGetO Se.mOpT Se.mIsiO Se.gTupS Se.iKeysM Se.iValsM Se.mDisp0 Se.mOutOne Se.mCm Se.mMakeV Se.mSup Se.mMake0 Se.mCon Se.mOpG Se.gPl Se.gYl Se.gSq Se.gFr Se.mListG Se.mListV Ab.mNeg; exact (jss_cons (js_asg (je_tup (ja_cons (je_lst (ja_nil)) (ja_cons (je_int) (ja_cons (je_int) (ja_cons (je_int) (ja_nil)))))) (jg_tup rfl (jgs_cons (jg_name (i := 5) sc_next_tick.nd) (jgs_cons (jg_name (i := 6) sc_next_tick.nd) (jgs_cons (jg_name (i := 7) sc_next_tick.nd) (jgs_cons (jg_name (i := 8) sc_next_tick.nd) (jgs_nil))))))) (jss_cons (js_for cx1_pass rfl (ji_zip F.b_zip (je_var (i := 1)) (je_prop (tbl1 ⟨F.cl_Row, h_Row_barrels F⟩) (by simp) (hr.mono (by decide)) (je_var (i := 0)))) (jg_tup rfl (jgs_cons (jg_name (i := 9) sc_next_tick.nd) (jgs_cons (jg_tup rfl (jgs_cons (jg_name (i := 10) sc_next_tick.nd) (jgs_cons (jg_name (i := 11) sc_next_tick.nd) (jgs_cons (jg_name (i := 12) sc_next_tick.nd) (jgs_cons (jg_name (i := 13) sc_next_tick.nd) (jgs_nil)))))) (jgs_nil)))) (jss_cons (js_set sc_next_tick.nd (je_op m2_add quiet_add (je_op m2_add quiet_add (je_var (i := 9)) (je_op m2_mul quiet_mul (je_var (i := 12)) (je_var (i := 3)))) (je_var (i := 8)))) (jss_cons (js_set sc_next_tick.nd (je_callB (mc_max2 rfl) quiet_max2 F.b_max Boot.max (ja_cons (je_int) (ja_cons (je_op m2_sub quiet_sub (je_var (i := 14)) (je_var (i := 11))) (ja_nil))))) (jss_cons (js_par rfl sc_next_tick.nd (ja_cons (je_op m2_sub quiet_sub (je_var (i := 14)) (je_var (i := 8))) (ja_cons (je_ix (je_var (i := 13)) (je_op m2_mod quiet_mod (je_callTy mc_intB quiet_intB F.b_int Boot.int (ja_cons (je_var (i := 2)) (ja_nil))) (je_callB mc_len quiet_len F.b_len Boot.len (ja_cons (je_var (i := 13)) (ja_nil))))) (ja_nil)))) (jss_cons (js_set sc_next_tick.nd (je_if (jt_cmp m2_in quiet_in (je_var (i := 10)) (je_var (i := 4))) (je_int) (je_callB (mc_min2 rfl) quiet_min2 F.b_min Boot.min (ja_cons (je_var (i := 15)) (ja_cons (je_var (i := 16)) (ja_nil)))))) (jss_cons (js_expr (je_append (je_var (i := 5)) (je_op m2_sub quiet_sub (je_var (i := 15)) (je_var (i := 17))))) (jss_cons (js_aug sc_next_tick.nd m2_iadd quiet_iadd (je_var (i := 17))) (jss_one (js_aug sc_next_tick.nd m2_iadd quiet_iadd (je_op m2_sub quiet_sub (je_var (i := 16)) (je_var (i := 17)))))))))))) (jss_one (js_ret (je_tup (ja_cons (je_callTy mc_tuple quiet_tuple F.b_tuple Boot.tuple (ja_cons (je_var (i := 5)) (ja_nil))) (ja_cons (je_var (i := 6)) (ja_cons (je_var (i := 7)) (ja_cons (je_var (i := 8)) (ja_nil))))))))))))⟩
/-! ### Daybook.rained -/
abbrev N_Daybook_rained : List Str := ["self", "levels", "tick", "amount"]
theorem sc_Daybook_rained : FnScope N_Daybook_rained ["self", "levels", "tick", "amount"] (defScope s_Daybook_rained) := ⟨rfl, rfl, rfl, by decide +kernel, rfl, by decide +kernel, by decide +kernel⟩
theorem h_Daybook_rained {T : Wh} (F : Fx T) : HasM T 22 "rained" 4 4 f_Daybook_rained := by
  obtain ⟨f, fd, h1, hF, hB⟩ := F.me_Daybook_rained
  exact ⟨by decide +kernel, fun Ca hC => ⟨f, (h1 Ca hC).1, (h1 Ca hC).2, fnM_of1 (k := 3) (N := N_Daybook_rained) (m := 0) (body := m_Daybook_rained) hF hB sc_Daybook_rained rfl rfl (fun cdv A outer s H E hr => (by have hu := hr.units; have hu1 : _ + 1 < cLine := Nat.lt_of_le_of_lt (Nat.add_le_add_left (by decide) _) hu; have hu2 : _ + 2 < cLine := Nat.lt_of_le_of_lt (Nat.add_le_add_left (by decide) _) hu; delta m_Daybook_rained; delta Se.mLcX Se.mIsiTO Se.mRevS Se.mChain3 Se.sPar3 Se.sFgt Se.mOutsO Se.sWhile Se.mVar Se.mC Se.mBin Se.mTest Se.mChain Se.tAndM Se.tOrM Se.tNotM Se.mAnd Se.mOr Se.mNot Se.mIf Se.aNil Se.aCons Se.mTup Se.mLst Se.mApp Se.mCut Se.oNone Se.oSome Se.sNext Se.sSeq Se.sSet Se.sRet Se.sDrop Se.sIf Se.sAug Se.sBreak Se.sCont Se.gSet Se.gsNil Se.gsCons Se.gTupM Se.sAsg Se.sPar Se.sFor Se.iRange1 Se.iRange2 Se.mFld Se.sFldM Se.sFldAugM Se.mMeth Se.mProp Se.vMake Se.iEnumM Se.iZipM Se.iSeqM Se.iStrM Se.mYes Se.mLc Se.mBM Se.gSubL Se.mIsi Se.sRaise Se.sRaise0 Se.aStar Se.mOp Se.mLen Se.mDget Se.gSubD Se.mDisp Se.mItems Se.mDc Se.gFld Se.mOutcome Se.mBad Se.sBad Se.mNeg Se.mCall Se.mGetO Se.mOpT Se.mIsiO Se.gTupS Se.iKeysM Se.iValsM Se.mDisp0 Se.mOutOne Se.mCm Se.mMakeV Se.mSup Se.mMake0 Se.mCon Se.mOpG Se.gPl Se.gYl Se.gSq Se.gFr Se.mListG Se.mListV Ab.mNeg; exact (jss_cons (js_if (JW.jt (jw_or (jt_cmp m2_isN quiet_isN (je_var (i := 1)) (je_non)) (jw_or1 (jt_cmp m2_isN quiet_isN (je_var (i := 3)) (je_non))))) (jss_one (js_ret (je_non))) (jss_nil)) (jss_one (js_ret (je_ix (je_call (h_next_tick F) (hr.mono (by decide)) (ja_cons (je_fld (fld1 F.fo_Daybook_plan) (je_var (i := 0))) (ja_cons (je_var (i := 1)) (ja_cons (je_var (i := 2)) (ja_cons (je_var (i := 3)) (ja_cons (je_tup (ja_nil)) (ja_nil))))))) (je_int)))))))⟩⟩
/-! ### Daybook.__init__ -/
abbrev N_Daybook_init : List Str := ["self", "row", "text", "levels", "number", "line", "event", "tick", "one"]
theorem sc_Daybook_init : FnScope N_Daybook_init ["self", "row", "text"] (defScope s_Daybook_init) := ⟨rfl, rfl, rfl, by decide +kernel, rfl, by decide +kernel, by decide +kernel⟩
theorem h_Daybook_init {T : Wh} (F : Fx T) : HasI T 22 5 3 f_Daybook_init := by
  obtain ⟨Ca, f, fd, hm, hM, hF, hB⟩ := F.in_Daybook
  exact ⟨Ca, f, hm, hM, fnM_of1 (k := 4) (N := N_Daybook_init) (m := 6) (body := m_Daybook_init) hF hB sc_Daybook_init rfl rfl (fun cdv A outer s H E hr => (by have hu := hr.units; have hu1 : _ + 1 < cLine := Nat.lt_of_le_of_lt (Nat.add_le_add_left (by decide) _) hu; have hu2 : _ + 2 < cLine := Nat.lt_of_le_of_lt (Nat.add_le_add_left (by decide) _) hu; delta m_Daybook_init; delta Se.mLcX Se.mIsiTO Se.mRevS Se.mChain3 Se.sPar3 Se.sFgt Se.mOutsO Se.sWhile Se.mVar Se.mC Se.mBin Se.mTest Se.mChain Se.tAndM Se.tOrM Se.tNotM Se.mAnd Se.mOr Se.mNot Se.mIf Se.aNil Se.aCons Se.mTup Se.mLst Se.mApp Se.mCut Se.oNone Se.oSome Se.sNext Se.sSeq Se.sSet Se.sRet Se.sDrop Se.sIf Se.sAug Se.sBreak Se.sCont Se.gSet Se.gsNil Se.gsCons Se.gTupM Se.sAsg Se.sPar Se.sFor Se.iRange1 Se.iRange2 Se.mFld Se.sFldM Se.sFldAugM Se.mMeth Se.mProp Se.vMake Se.iEnumM Se.iZipM Se.iSeqM Se.iStrM Se.mYes Se.mLc Se.mBM Se.gSubL Se.mIsi Se.sRaise Se.sRaise0 Se.aStar Se.mOp Se.mLen Se.mDget Se.gSubD Se.mDisp Se.mItems Se.mDc Se.gFld Se.mOutcome Se.mBad Se.sBad Se.mNeg Se.mCall Se.mGetO Se.mOpT Se.mIsiO Se.gTupS Se.iKeysM Se.iValsM Se.mDisp0 Se.mOutOne Se.mCm Se.mMakeV Se.mSup Se.mMake0 Se.mCon Se.mOpG Se.gPl Se.gYl Se.gSq Se.gFr Se.mListG Se.mListV Ab.mNeg; exact (jss_cons (js_fld (fld1 F.fo_Daybook_plan) (je_var (i := 0)) (je_var (i := 1))) (jss_cons (js_fld (fld1 F.fo_Daybook_events) (je_var (i := 0)) (je_lst (ja_nil))) (jss_cons (js_set sc_Daybook_init.nd (je_op m2_repT quiet_repT (je_tup (ja_cons (je_int) (ja_nil))) (je_lenO (h_Row_len F) (hr.mono (by decide)) (je_var (i := 1)) F.b_len))) (jss_one (js_for cx1_pass rfl (ji_enum F.b_enumerate (je_if (jt_cmp (m2_ne hu) quiet_ne (je_var (i := 2)) (je_str)) (je_split (je_var (i := 2)) (je_str)) (je_lst (ja_nil)))) (jg_tup rfl (jgs_cons (jg_name (i := 4) sc_Daybook_init.nd) (jgs_cons (jg_name (i := 5) sc_Daybook_init.nd) (jgs_nil)))) (jss_cons (js_set sc_Daybook_init.nd (je_if (jt_cmp m2_lt (quiet_cmpI _) (je_var (i := 4)) (je_globI F.g_MAX_LINES)) (je_meth (tbl1 ⟨F.cl_Daybook, h_Daybook_event_of F⟩) (by simp) (hr.mono (by decide)) (je_var (i := 0)) (ja_cons (je_split (je_var (i := 5)) (je_str)) (ja_nil))) (je_non))) (jss_cons (js_if (jt_cmp m2_isN quiet_isN (je_var (i := 6)) (je_non)) (jss_one (js_raise (h_x_DaybookError F) rfl (hr.mono (by decide)) (jk_cons (je_var (i := 4)) (jk_nil)))) (jss_nil)) (jss_cons (js_if (jt_cmp (m2_eq hu) quiet_eq (je_ix (je_var (i := 6)) (je_int)) (je_globS F.g_RAIN)) (jss_cons (js_set sc_Daybook_init.nd (je_callB mc_len quiet_len F.b_len Boot.len (ja_cons (je_lc rfl sc_Daybook_init.nd [("one", 8)] (ji_seq (je_fld (fld1 F.fo_Daybook_events) (je_var (i := 0)))) (by first | (change blkC N_Daybook_init (defScope s_Daybook_init) _ _ = true; decide +kernel) | rfl) (fun s H C cl fp => jg_name (i := 8) sc_Daybook_init.nd) (fun s H C cl fp => jts_one (jt_cmp (m2_eq hu) quiet_eq (je_ix (je_var (i := 8)) (je_int)) (je_globS F.g_RAIN))) (fun s H C cl fp => je_var (i := 8))) (ja_nil)))) (jss_one (js_set sc_Daybook_init.nd (je_meth (tbl1 ⟨F.cl_Daybook, h_Daybook_rained F⟩) (by simp) (hr.mono (by decide)) (je_var (i := 0)) (ja_cons (je_var (i := 3)) (ja_cons (je_var (i := 7)) (ja_cons (je_ix (je_var (i := 6)) (je_int)) (ja_nil)))))))) (jss_one (js_if (JW.jt (jw_and (jt_cmp m2_notN quiet_notN (je_var (i := 3)) (je_non)) (jw_and1 (jt_cmp (m2_ne hu) quiet_ne (je_ix (je_var (i := 3)) (je_ix (je_var (i := 6)) (je_int))) (je_ix (je_var (i := 6)) (je_int)))))) (jss_one (js_raise (h_x_DaybookError F) rfl (hr.mono (by decide)) (jk_cons (je_var (i := 4)) (jk_nil)))) (jss_nil)))) (jss_one (js_expr (je_append (je_fld (fld1 F.fo_Daybook_events) (je_var (i := 0))) (je_var (i := 6)))))))))))))))⟩
/-! ### is_name -/
abbrev N_is_name : List Str := ["name", "letter"]
theorem sc_is_name : FnScope N_is_name ["name"] (defScope s_is_name) := ⟨rfl, rfl, rfl, by decide +kernel, rfl, by decide +kernel, by decide +kernel⟩
theorem h_is_name {T : Wh} (F : Fx T) : Has T "is_name" 1 1 f_is_name := by
  obtain ⟨f, fd, hm, hF, hB⟩ := F.fn_is_name
  exact ⟨f, hm, fnM_of1 (k := 0) (N := N_is_name) (m := 1) (body := m_is_name) hF hB sc_is_name rfl rfl (fun cdv A outer s H E hr => (by have hu := hr.units; have hu1 : _ + 1 < cLine := Nat.lt_of_le_of_lt (Nat.add_le_add_left (by decide) _) hu; have hu2 : _ + 2 < cLine := Nat.lt_of_le_of_lt (Nat.add_le_add_left (by decide) _) hu; delta m_is_name; delta Se.mLcX Se.mIsiTO Se.mRevS Se.mChain3 Se.sPar3 Se.sFgt Se.mOutsO Se.sWhile Se.mVar Se.mC Se.mBin Se.mTest Se.mChain Se.tAndM Se.tOrM Se.tNotM Se.mAnd Se.mOr Se.mNot Se.mIf Se.aNil Se.aCons Se.mTup Se.mLst Se.mApp Se.mCut Se.oNone Se.oSome Se.sNext Se.sSeq Se.sSet Se.sRet Se.sDrop Se.sIf Se.sAug Se.sBreak Se.sCont Se.gSet Se.gsNil Se.gsCons Se.gTupM Se.sAsg Se.sPar Se.sFor Se.iRange1 Se.iRange2 Se.mFld Se.sFldM Se.sFldAugM Se.mMeth Se.mProp Se.vMake Se.iEnumM Se.iZipM Se.iSeqM Se.iStrM Se.mYes Se.mLc Se.mBM Se.gSubL Se.mIsi Se.sRaise Se.sRaise0 Se.aStar Se.mOp Se.mLen Se.mDget Se.gSubD Se.mDisp Se.mItems Se.mDc Se.gFld Se.mOutcome Se.mBad Se.sBad Se.mNeg Se.mCall Se.mGetO Se.mOpT Se.mIsiO Se.gTupS Se.iKeysM Se.iValsM Se.mDisp0 Se.mOutOne Se.mCm Se.mMakeV Se.mSup Se.mMake0 Se.mCon Se.mOpG Se.gPl Se.gYl Se.gSq Se.gFr Se.mListG Se.mListV Ab.mNeg; exact (jss_one (js_ret (je_and (je_chain m2_le quiet_le m2_le quiet_le (je_int) (je_callB mc_len quiet_len F.b_len Boot.len (ja_cons (je_var (i := 0)) (ja_nil))) (je_globI F.g_MAX_LETTERS)) (je_one (je_callB (mc_all rfl) quiet_all F.b_all Boot.all (ja_cons (je_lc rfl sc_is_name.nd [("letter", 1)] (ji_str (je_var (i := 0))) (by first | (change blkC N_is_name (defScope s_is_name) _ _ = true; decide +kernel) | rfl) (fun s H C cl fp => jg_name (i := 1) sc_is_name.nd) (fun s H C cl fp => jts_nil) (fun s H C cl fp => je_cmp m2_in quiet_in (je_var (i := 1)) (je_globS F.g_LETTERS))) (ja_nil)))))))))⟩
/-! ### is_barrel -/
abbrev N_is_barrel : List Str := ["barrel", "ticks", "name", "capacity", "roof", "draws", "draw"]
theorem sc_is_barrel : FnScope N_is_barrel ["barrel", "ticks"] (defScope s_is_barrel) := ⟨rfl, rfl, rfl, by decide +kernel, rfl, by decide +kernel, by decide +kernel⟩
theorem h_is_barrel {T : Wh} (F : Fx T) : Has T "is_barrel" 2 2 f_is_barrel := by
  obtain ⟨f, fd, hm, hF, hB⟩ := F.fn_is_barrel
  exact ⟨f, hm, fnM_of1 (k := 1) (N := N_is_barrel) (m := 5) (body := m_is_barrel) hF hB sc_is_barrel rfl rfl (fun cdv A outer s H E hr => (by have hu := hr.units; have hu1 : _ + 1 < cLine := Nat.lt_of_le_of_lt (Nat.add_le_add_left (by decide) _) hu; have hu2 : _ + 2 < cLine := Nat.lt_of_le_of_lt (Nat.add_le_add_left (by decide) _) hu; delta m_is_barrel; delta Se.mLcX Se.mIsiTO Se.mRevS Se.mChain3 Se.sPar3 Se.sFgt Se.mOutsO Se.sWhile Se.mVar Se.mC Se.mBin Se.mTest Se.mChain Se.tAndM Se.tOrM Se.tNotM Se.mAnd Se.mOr Se.mNot Se.mIf Se.aNil Se.aCons Se.mTup Se.mLst Se.mApp Se.mCut Se.oNone Se.oSome Se.sNext Se.sSeq Se.sSet Se.sRet Se.sDrop Se.sIf Se.sAug Se.sBreak Se.sCont Se.gSet Se.gsNil Se.gsCons Se.gTupM Se.sAsg Se.sPar Se.sFor Se.iRange1 Se.iRange2 Se.mFld Se.sFldM Se.sFldAugM Se.mMeth Se.mProp Se.vMake Se.iEnumM Se.iZipM Se.iSeqM Se.iStrM Se.mYes Se.mLc Se.mBM Se.gSubL Se.mIsi Se.sRaise Se.sRaise0 Se.aStar Se.mOp Se.mLen Se.mDget Se.gSubD Se.mDisp Se.mItems Se.mDc Se.gFld Se.mOutcome Se.mBad Se.sBad Se.mNeg Se.mCall Se.mGetO Se.mOpT Se.mIsiO Se.gTupS Se.iKeysM Se.iValsM Se.mDisp0 Se.mOutOne Se.mCm Se.mMakeV Se.mSup Se.mMake0 Se.mCon Se.mOpG Se.gPl Se.gYl Se.gSq Se.gFr Se.mListG Se.mListV Ab.mNeg; exact (jss_cons (js_asg (je_var (i := 0)) (jg_tup rfl (jgs_cons (jg_name (i := 2) sc_is_barrel.nd) (jgs_cons (jg_name (i := 3) sc_is_barrel.nd) (jgs_cons (jg_name (i := 4) sc_is_barrel.nd) (jgs_cons (jg_name (i := 5) sc_is_barrel.nd) (jgs_nil))))))) (jss_cons (js_if (JW.jt (jw_or (jt_not (jt_val (je_call (h_is_name F) (hr.mono (by decide)) (ja_cons (je_var (i := 2)) (ja_nil))))) (jw_or (jt_not (jt_chain m2_le quiet_le m2_le quiet_le (je_int) (je_var (i := 3)) (je_globI F.g_MAX_AMOUNT))) (jw_or1 (jt_not (jt_chain m2_le quiet_le m2_le quiet_le (je_int) (je_var (i := 4)) (je_globI F.g_MAX_ROOF))))))) (jss_one (js_ret (je_bl))) (jss_nil)) (jss_one (js_ret (je_and (je_cmp (m2_eq hu) quiet_eq (je_callB mc_len quiet_len F.b_len Boot.len (ja_cons (je_var (i := 5)) (ja_nil))) (je_var (i := 1))) (je_one (je_callB (mc_all rfl) quiet_all F.b_all Boot.all (ja_cons (je_lc rfl sc_is_barrel.nd [("draw", 6)] (ji_seq (je_var (i := 5))) (by first | (change blkC N_is_barrel (defScope s_is_barrel) _ _ = true; decide +kernel) | rfl) (fun s H C cl fp => jg_name (i := 6) sc_is_barrel.nd) (fun s H C cl fp => jts_nil) (fun s H C cl fp => je_chain m2_le quiet_le m2_le quiet_le (je_int) (je_var (i := 6)) (je_globI F.g_MAX_AMOUNT))) (ja_nil)))))))))))⟩
/-! ### Row.__init__ -/
abbrev N_Row_init : List Str := ["self", "rain", "barrels", "index", "amount", "barrel", "earlier", "other"]
theorem sc_Row_init : FnScope N_Row_init ["self", "rain", "barrels"] (defScope s_Row_init) := ⟨rfl, rfl, rfl, by decide +kernel, rfl, by decide +kernel, by decide +kernel⟩
theorem h_Row_init {T : Wh} (F : Fx T) : HasIR T 13 3 f_Row_init := by
  obtain ⟨Ca, f, fd, hm, hM, hF⟩ := F.in_Row
  exact ⟨Ca, f, hm, hM, fnMR_of1 (k := 2) (N := N_Row_init) (ps := ["self", "rain"]) (pv := "barrels") (m := 5) (body := m_Row_init) hF sc_Row_init rfl rfl (fun kV doc pm an cdv ct us rest hl => StX.bind_star2 (B := fun us => bindArgs (PySem.W.fnOf "__init__" "Row.__init__" (defArgs s_Row_init) (defBody s_Row_init) (defScope s_Row_init) .none kV doc pm an cdv ct) ⟨us, []⟩) (fun _ _ => rfl) (fun _ _ _ _ => rfl) us rest hl) (fun cdv A outer s H E hr => (by have hu := hr.units; have hu1 : _ + 1 < cLine := Nat.lt_of_le_of_lt (Nat.add_le_add_left (by decide) _) hu; have hu2 : _ + 2 < cLine := Nat.lt_of_le_of_lt (Nat.add_le_add_left (by decide) _) hu; delta m_Row_init; delta Se.mLcX Se.mIsiTO Se.mRevS Se.mChain3 Se.sPar3 Se.sFgt Se.mOutsO Se.sWhile Se.mVar Se.mC Se.mBin Se.mTest Se.mChain Se.tAndM Se.tOrM Se.tNotM Se.mAnd Se.mOr Se.mNot Se.mIf Se.aNil Se.aCons Se.mTup Se.mLst Se.mApp Se.mCut Se.oNone Se.oSome Se.sNext Se.sSeq Se.sSet Se.sRet Se.sDrop Se.sIf Se.sAug Se.sBreak Se.sCont Se.gSet Se.gsNil Se.gsCons Se.gTupM Se.sAsg Se.sPar Se.sFor Se.iRange1 Se.iRange2 Se.mFld Se.sFldM Se.sFldAugM Se.mMeth Se.mProp Se.vMake Se.iEnumM Se.iZipM Se.iSeqM Se.iStrM Se.mYes Se.mLc Se.mBM Se.gSubL Se.mIsi Se.sRaise Se.sRaise0 Se.aStar Se.mOp Se.mLen Se.mDget Se.gSubD Se.mDisp Se.mItems Se.mDc Se.gFld Se.mOutcome Se.mBad Se.sBad Se.mNeg Se.mCall Se.mGetO Se.mOpT Se.mIsiO Se.gTupS Se.iKeysM Se.iValsM Se.mDisp0 Se.mOutOne Se.mCm Se.mMakeV Se.mSup Se.mMake0 Se.mCon Se.mOpG Se.gPl Se.gYl Se.gSq Se.gFr Se.mListG Se.mListV Ab.mNeg; exact (jss_cons (js_for cx1_pass rfl (ji_enum F.b_enumerate (je_var (i := 1))) (jg_tup rfl (jgs_cons (jg_name (i := 3) sc_Row_init.nd) (jgs_cons (jg_name (i := 4) sc_Row_init.nd) (jgs_nil)))) (jss_one (js_if (JW.jt (jw_or (jt_cmp (m2_eq hu) quiet_eq (je_var (i := 3)) ((let ⟨_, _, _, h1, h2, h3⟩ := F.cc_Row_MAX_TICKS; je_ccon h1 h2 h3))) (jw_or1 (jt_not (jt_chain m2_le quiet_le m2_le quiet_le (je_int) (je_var (i := 4)) (je_globI F.g_MAX_RAIN)))))) (jss_one (js_raise (h_x_InvalidRow F) rfl (hr.mono (by decide)) (jk_cons (je_str) (jk_cons (je_var (i := 3)) (jk_nil))))) (jss_nil)))) (jss_cons (js_if (jt_cmp (m2_eq hu) quiet_eq (je_var (i := 1)) (je_tup (ja_nil))) (jss_one (js_raise (h_x_InvalidRow F) rfl (hr.mono (by decide)) (jk_cons (je_str) (jk_cons (je_neg (je_int)) (jk_nil))))) (jss_nil)) (jss_cons (js_for cx1_pass rfl (ji_enum F.b_enumerate (je_var (i := 2))) (jg_tup rfl (jgs_cons (jg_name (i := 3) sc_Row_init.nd) (jgs_cons (jg_name (i := 5) sc_Row_init.nd) (jgs_nil)))) (jss_cons (js_setLc rfl sc_Row_init.nd [("other", 7)] (ji_seq (je_cut (je_var (i := 2)) jo_none (jo_some (je_var (i := 3))))) (by first | (change blkC N_Row_init (defScope s_Row_init) _ _ = true; decide +kernel) | rfl) (fun s H C cl fp => jg_name (i := 7) sc_Row_init.nd) (fun s H C cl fp => jts_nil) (fun s H C cl fp => je_ix (je_var (i := 7)) (je_int)) (by rfl)) (jss_one (js_if (JW.jt (jw_or (jt_cmp (m2_eq hu) quiet_eq (je_var (i := 3)) ((let ⟨_, _, _, h1, h2, h3⟩ := F.cc_Row_MAX_BARRELS; je_ccon h1 h2 h3))) (jw_or (jt_not (jt_val (je_call (h_is_barrel F) (hr.mono (by decide)) (ja_cons (je_var (i := 5)) (ja_cons (je_callB mc_len quiet_len F.b_len Boot.len (ja_cons (je_var (i := 1)) (ja_nil))) (ja_nil)))))) (jw_or1 (jt_cmp m2_in quiet_in (je_ix (je_var (i := 5)) (je_int)) (je_var (i := 6))))))) (jss_one (js_raise (h_x_InvalidRow F) rfl (hr.mono (by decide)) (jk_cons (je_str) (jk_cons (je_var (i := 3)) (jk_nil))))) (jss_nil))))) (jss_cons (js_if (jt_cmp (m2_eq hu) quiet_eq (je_var (i := 2)) (je_tup (ja_nil))) (jss_one (js_raise (h_x_InvalidRow F) rfl (hr.mono (by decide)) (jk_cons (je_str) (jk_cons (je_neg (je_int)) (jk_nil))))) (jss_nil)) (jss_cons (js_fld (fld1 F.fo_Row_weather) (je_var (i := 0)) (je_var (i := 1))) (jss_one (js_fld (fld1 F.fo_Row_parts) (je_var (i := 0)) (je_var (i := 2)))))))))))⟩
/-! ### Row.__add__ -/
abbrev N_Row_add : List Str := ["self", "other", "barrels"]
theorem sc_Row_add : FnScope N_Row_add ["self", "other"] (defScope s_Row_add) := ⟨rfl, rfl, rfl, by decide +kernel, rfl, by decide +kernel, by decide +kernel⟩
theorem h_Row_add {T : Wh} (F : Fx T) : HasOp T 13 .Add 5 f_Row_add := by
  obtain ⟨Ca, f, fd, h1, h2, h3, h4, h5, hF, hB⟩ := F.me_Row_add
  exact ⟨Ca, f, h1, h2, h3, h4, h5, fnM_of1 (k := 4) (N := N_Row_add) (m := 1) (body := m_Row_add) hF hB sc_Row_add rfl rfl (fun cdv A outer s H E hr => (by have hu := hr.units; have hu1 : _ + 1 < cLine := Nat.lt_of_le_of_lt (Nat.add_le_add_left (by decide) _) hu; have hu2 : _ + 2 < cLine := Nat.lt_of_le_of_lt (Nat.add_le_add_left (by decide) _) hu; delta m_Row_add; delta Se.mLcX Se.mIsiTO Se.mRevS Se.mChain3 Se.sPar3 Se.sFgt Se.mOutsO Se.sWhile Se.mVar Se.mC Se.mBin Se.mTest Se.mChain Se.tAndM Se.tOrM Se.tNotM Se.mAnd Se.mOr Se.mNot Se.mIf Se.aNil Se.aCons Se.mTup Se.mLst Se.mApp Se.mCut Se.oNone Se.oSome Se.sNext Se.sSeq Se.sSet Se.sRet Se.sDrop Se.sIf Se.sAug Se.sBreak Se.sCont Se.gSet Se.gsNil Se.gsCons Se.gTupM Se.sAsg Se.sPar Se.sFor Se.iRange1 Se.iRange2 Se.mFld Se.sFldM Se.sFldAugM Se.mMeth Se.mProp Se.vMake Se.iEnumM Se.iZipM Se.iSeqM Se.iStrM Se.mYes Se.mLc Se.mBM Se.gSubL Se.mIsi Se.sRaise Se.sRaise0 Se.aStar Se.mOp Se.mLen Se.mDget Se.gSubD Se.mDisp Se.mItems Se.mDc Se.gFld Se.mOutcome Se.mBad Se.sBad Se.mNeg Se.mCall Se.mGetO Se.mOpT Se.mIsiO Se.gTupS Se.iKeysM Se.iValsM Se.mDisp0 Se.mOutOne Se.mCm Se.mMakeV Se.mSup Se.mMake0 Se.mCon Se.mOpG Se.gPl Se.gYl Se.gSq Se.gFr Se.mListG Se.mListV Ab.mNeg; exact (jss_cons (js_if (jt_cmp (m2_ne hu) quiet_ne (je_fld (fld1 F.fo_Row_weather) (je_var (i := 0))) (je_fld (fld1 F.fo_Row_weather) (je_var (i := 1)))) (jss_one (js_raise0 F.x0_OtherRain rfl)) (jss_nil)) (jss_cons (js_set sc_Row_add.nd (je_op m2_add quiet_add (je_fld (fld1 F.fo_Row_parts) (je_var (i := 0))) (je_fld (fld1 F.fo_Row_parts) (je_var (i := 1))))) (jss_one (js_ret (je_makeS (h_Row_init F) (by decide +kernel) (hr.mono (by decide)) (ja_cons (je_fld (fld1 F.fo_Row_weather) (je_var (i := 0))) (ja_star (je_var (i := 2)) (ja_nil))))))))))⟩
/-! ### _law_row -/
abbrev N_law_row : List Str := ["_law_parts_here", "_law_row_here", "_law_barrel"]
theorem sc_law_row : FnScope N_law_row ["_law_parts_here"] (defScope s_law_row) := ⟨rfl, rfl, rfl, by decide +kernel, rfl, by decide +kernel, by decide +kernel⟩
theorem h_law_row {T : Wh} (F : Fx T) : Has T "_law_row" 6 1 f_law_row := by
  obtain ⟨f, fd, hm, hF, hB⟩ := F.fn_law_row
  exact ⟨f, hm, fnM_of1 (k := 5) (N := N_law_row) (m := 2) (body := m_law_row) hF hB sc_law_row rfl rfl (fun cdv A outer s H E hr => (by have hu := hr.units; have hu1 : _ + 1 < cLine := Nat.lt_of_le_of_lt (Nat.add_le_add_left (by decide) _) hu; have hu2 : _ + 2 < cLine := Nat.lt_of_le_of_lt (Nat.add_le_add_left (by decide) _) hu; delta m_law_row; delta Se.mLcX Se.mIsiTO Se.mRevS Se.mChain3 Se.sPar3 Se.sFgt Se.mOutsO Se.sWhile Se.mVar Se.mC Se.mBin Se.mTest Se.mChain Se.tAndM Se.tOrM Se.tNotM Se.mAnd Se.mOr Se.mNot Se.mIf Se.aNil Se.aCons Se.mTup Se.mLst Se.mApp Se.mCut Se.oNone Se.oSome Se.sNext Se.sSeq Se.sSet Se.sRet Se.sDrop Se.sIf Se.sAug Se.sBreak Se.sCont Se.gSet Se.gsNil Se.gsCons Se.gTupM Se.sAsg Se.sPar Se.sFor Se.iRange1 Se.iRange2 Se.mFld Se.sFldM Se.sFldAugM Se.mMeth Se.mProp Se.vMake Se.iEnumM Se.iZipM Se.iSeqM Se.iStrM Se.mYes Se.mLc Se.mBM Se.gSubL Se.mIsi Se.sRaise Se.sRaise0 Se.aStar Se.mOp Se.mLen Se.mDget Se.gSubD Se.mDisp Se.mItems Se.mDc Se.gFld Se.mOutcome Se.mBad Se.sBad Se.mNeg Se.mCall Se.mGetO Se.mOpT Se.mIsiO Se.gTupS Se.iKeysM Se.iValsM Se.mDisp0 Se.mOutOne Se.mCm Se.mMakeV Se.mSup Se.mMake0 Se.mCon Se.mOpG Se.gPl Se.gYl Se.gSq Se.gFr Se.mListG Se.mListV Ab.mNeg; exact (jss_cons (js_set sc_law_row.nd (je_makeR (h_Row_init F) (by decide +kernel) (hr.mono (by decide)) (ja_cons (je_ix (je_var (i := 0)) (je_int)) (ja_cons (je_ix (je_ix (je_var (i := 0)) (je_int)) (je_int)) (ja_nil))))) (jss_cons (js_for cx1_pass rfl (ji_seq (je_cut (je_ix (je_var (i := 0)) (je_int)) (jo_some (je_int)) jo_none)) (jg_name (i := 2) sc_law_row.nd) (jss_one (js_set sc_law_row.nd (je_own (h_Row_add F) (hr.mono (by decide)) (je_var (i := 1)) (je_makeR (h_Row_init F) (by decide +kernel) (hr.mono (by decide)) (ja_cons (je_ix (je_var (i := 0)) (je_int)) (ja_cons (je_var (i := 2)) (ja_nil)))))))) (jss_one (js_ret (je_var (i := 1))))))))⟩
/-! ### Daybook.tick_count -/
abbrev N_Daybook_tick_count : List Str := ["self", "event"]
theorem sc_Daybook_tick_count : FnScope N_Daybook_tick_count ["self"] (defScope s_Daybook_tick_count) := ⟨rfl, rfl, rfl, by decide +kernel, rfl, by decide +kernel, by decide +kernel⟩
theorem h_Daybook_tick_count {T : Wh} (F : Fx T) : HasP T 22 "tick_count" 1 f_Daybook_tick_count := by
  obtain ⟨p, f, fd, h1, hF, hB⟩ := F.me_Daybook_tick_count
  exact fun Ca hC => ⟨p, f, (h1 Ca hC).1, (h1 Ca hC).2, fnM_of1 (k := 0) (N := N_Daybook_tick_count) (m := 1) (body := m_Daybook_tick_count) hF hB sc_Daybook_tick_count rfl rfl (fun cdv A outer s H E hr => (by have hu := hr.units; have hu1 : _ + 1 < cLine := Nat.lt_of_le_of_lt (Nat.add_le_add_left (by decide) _) hu; have hu2 : _ + 2 < cLine := Nat.lt_of_le_of_lt (Nat.add_le_add_left (by decide) _) hu; delta m_Daybook_tick_count; delta Se.mLcX Se.mIsiTO Se.mRevS Se.mChain3 Se.sPar3 Se.sFgt Se.mOutsO Se.sWhile Se.mVar Se.mC Se.mBin Se.mTest Se.mChain Se.tAndM Se.tOrM Se.tNotM Se.mAnd Se.mOr Se.mNot Se.mIf Se.aNil Se.aCons Se.mTup Se.mLst Se.mApp Se.mCut Se.oNone Se.oSome Se.sNext Se.sSeq Se.sSet Se.sRet Se.sDrop Se.sIf Se.sAug Se.sBreak Se.sCont Se.gSet Se.gsNil Se.gsCons Se.gTupM Se.sAsg Se.sPar Se.sFor Se.iRange1 Se.iRange2 Se.mFld Se.sFldM Se.sFldAugM Se.mMeth Se.mProp Se.vMake Se.iEnumM Se.iZipM Se.iSeqM Se.iStrM Se.mYes Se.mLc Se.mBM Se.gSubL Se.mIsi Se.sRaise Se.sRaise0 Se.aStar Se.mOp Se.mLen Se.mDget Se.gSubD Se.mDisp Se.mItems Se.mDc Se.gFld Se.mOutcome Se.mBad Se.sBad Se.mNeg Se.mCall Se.mGetO Se.mOpT Se.mIsiO Se.gTupS Se.iKeysM Se.iValsM Se.mDisp0 Se.mOutOne Se.mCm Se.mMakeV Se.mSup Se.mMake0 Se.mCon Se.mOpG Se.gPl Se.gYl Se.gSq Se.gFr Se.mListG Se.mListV Ab.mNeg; exact (jss_one (js_ret (je_callB mc_len quiet_len F.b_len Boot.len (ja_cons (je_lc rfl sc_Daybook_tick_count.nd [("event", 1)] (ji_seq (je_fld (fld1 F.fo_Daybook_events) (je_var (i := 0)))) (by first | (change blkC N_Daybook_tick_count (defScope s_Daybook_tick_count) _ _ = true; decide +kernel) | rfl) (fun s H C cl fp => jg_name (i := 1) sc_Daybook_tick_count.nd) (fun s H C cl fp => jts_one (jt_cmp (m2_eq hu) quiet_eq (je_ix (je_var (i := 1)) (je_int)) (je_globS F.g_RAIN))) (fun s H C cl fp => je_var (i := 1))) (ja_nil)))))))⟩
/-! ### Daybook.line_count -/
abbrev N_Daybook_line_count : List Str := ["self"]
theorem sc_Daybook_line_count : FnScope N_Daybook_line_count ["self"] (defScope s_Daybook_line_count) := ⟨rfl, rfl, rfl, by decide +kernel, rfl, by decide +kernel, by decide +kernel⟩
theorem h_Daybook_line_count {T : Wh} (F : Fx T) : HasP T 22 "line_count" 1 f_Daybook_line_count := by
  obtain ⟨p, f, fd, h1, hF, hB⟩ := F.me_Daybook_line_count
  exact fun Ca hC => ⟨p, f, (h1 Ca hC).1, (h1 Ca hC).2, fnM_of1 (k := 0) (N := N_Daybook_line_count) (m := 0) (body := m_Daybook_line_count) hF hB sc_Daybook_line_count rfl rfl (fun cdv A outer s H E hr => (by have hu := hr.units; have hu1 : _ + 1 < cLine := Nat.lt_of_le_of_lt (Nat.add_le_add_left (by decide) _) hu; have hu2 : _ + 2 < cLine := Nat.lt_of_le_of_lt (Nat.add_le_add_left (by decide) _) hu; delta m_Daybook_line_count; delta Se.mLcX Se.mIsiTO Se.mRevS Se.mChain3 Se.sPar3 Se.sFgt Se.mOutsO Se.sWhile Se.mVar Se.mC Se.mBin Se.mTest Se.mChain Se.tAndM Se.tOrM Se.tNotM Se.mAnd Se.mOr Se.mNot Se.mIf Se.aNil Se.aCons Se.mTup Se.mLst Se.mApp Se.mCut Se.oNone Se.oSome Se.sNext Se.sSeq Se.sSet Se.sRet Se.sDrop Se.sIf Se.sAug Se.sBreak Se.sCont Se.gSet Se.gsNil Se.gsCons Se.gTupM Se.sAsg Se.sPar Se.sFor Se.iRange1 Se.iRange2 Se.mFld Se.sFldM Se.sFldAugM Se.mMeth Se.mProp Se.vMake Se.iEnumM Se.iZipM Se.iSeqM Se.iStrM Se.mYes Se.mLc Se.mBM Se.gSubL Se.mIsi Se.sRaise Se.sRaise0 Se.aStar Se.mOp Se.mLen Se.mDget Se.gSubD Se.mDisp Se.mItems Se.mDc Se.gFld Se.mOutcome Se.mBad Se.sBad Se.mNeg Se.mCall Se.mGetO Se.mOpT Se.mIsiO Se.gTupS Se.iKeysM Se.iValsM Se.mDisp0 Se.mOutOne Se.mCm Se.mMakeV Se.mSup Se.mMake0 Se.mCon Se.mOpG Se.gPl Se.gYl Se.gSq Se.gFr Se.mListG Se.mListV Ab.mNeg; exact (jss_one (js_ret (je_callB mc_len quiet_len F.b_len Boot.len (ja_cons (je_fld (fld1 F.fo_Daybook_events) (je_var (i := 0))) (ja_nil)))))))⟩
/-! ### _law_alike -/
abbrev N_law_alike : List Str := ["_law_found", "_law_due_here", "_law_k"]
theorem sc_law_alike : FnScope N_law_alike ["_law_found", "_law_due_here"] (defScope s_law_alike) := ⟨rfl, rfl, rfl, by decide +kernel, rfl, by decide +kernel, by decide +kernel⟩
theorem h_law_alike {T : Wh} (F : Fx T) : ∀ n, Has T "_law_alike" (n + 1) 2 (f_law_alike n)
  | 0 => let ⟨f, fd, hm, hF, hB⟩ := F.fn_law_alike; ⟨f, hm, fnM_of1 (N := N_law_alike) (m := 1) hF hB sc_law_alike rfl rfl fun cdv A outer s H E hr => jss_never⟩
  | n + 1 => by
    have ih := h_law_alike F n
    obtain ⟨f, fd, hm, hF, hB⟩ := F.fn_law_alike
    exact ⟨f, hm, fnM_of1 (k := n + 1) (N := N_law_alike) (m := 1) (body := m_law_alike (f_law_alike n)) hF hB sc_law_alike rfl rfl (fun cdv A outer s H E hr => (by have hu := hr.units; have hu1 : _ + 1 < cLine := Nat.lt_of_le_of_lt (Nat.add_le_add_left (by decide) _) hu; have hu2 : _ + 2 < cLine := Nat.lt_of_le_of_lt (Nat.add_le_add_left (by decide) _) hu; delta m_law_alike; delta Se.mLcX Se.mIsiTO Se.mRevS Se.mChain3 Se.sPar3 Se.sFgt Se.mOutsO Se.sWhile Se.mVar Se.mC Se.mBin Se.mTest Se.mChain Se.tAndM Se.tOrM Se.tNotM Se.mAnd Se.mOr Se.mNot Se.mIf Se.aNil Se.aCons Se.mTup Se.mLst Se.mApp Se.mCut Se.oNone Se.oSome Se.sNext Se.sSeq Se.sSet Se.sRet Se.sDrop Se.sIf Se.sAug Se.sBreak Se.sCont Se.gSet Se.gsNil Se.gsCons Se.gTupM Se.sAsg Se.sPar Se.sFor Se.iRange1 Se.iRange2 Se.mFld Se.sFldM Se.sFldAugM Se.mMeth Se.mProp Se.vMake Se.iEnumM Se.iZipM Se.iSeqM Se.iStrM Se.mYes Se.mLc Se.mBM Se.gSubL Se.mIsi Se.sRaise Se.sRaise0 Se.aStar Se.mOp Se.mLen Se.mDget Se.gSubD Se.mDisp Se.mItems Se.mDc Se.gFld Se.mOutcome Se.mBad Se.sBad Se.mNeg Se.mCall Se.mGetO Se.mOpT Se.mIsiO Se.gTupS Se.iKeysM Se.iValsM Se.mDisp0 Se.mOutOne Se.mCm Se.mMakeV Se.mSup Se.mMake0 Se.mCon Se.mOpG Se.gPl Se.gYl Se.gSq Se.gFr Se.mListG Se.mListV Ab.mNeg; exact (jss_cons (js_if (jt_val (je_isi F.b_isinstance F.b_dict (je_var (i := 1)) .dict Boot.dict)) (jss_never) (jss_nil)) (jss_cons (js_if (jt_val (je_isi2 F.b_isinstance F.b_tuple F.b_list (je_var (i := 1)) .tuple .list Boot.tuple Boot.list)) (jss_cons (js_if (JW.jt (jw_or (jt_not (jt_val (je_isi2 F.b_isinstance F.b_tuple F.b_list (je_var (i := 0)) .tuple .list Boot.tuple Boot.list))) (jw_or1 (jt_cmp (m2_ne hu) quiet_ne (je_isi F.b_isinstance F.b_list (je_var (i := 0)) .list Boot.list) (je_isi F.b_isinstance F.b_list (je_var (i := 1)) .list Boot.list))))) (jss_one (js_ret (je_bl))) (jss_nil)) (jss_cons (js_if (jt_cmp (m2_ne hu) quiet_ne (je_callB mc_len quiet_len F.b_len Boot.len (ja_cons (je_var (i := 0)) (ja_nil))) (je_callB mc_len quiet_len F.b_len Boot.len (ja_cons (je_var (i := 1)) (ja_nil)))) (jss_one (js_ret (je_bl))) (jss_nil)) (jss_one (js_ret (je_cmp (m2_eq hu) quiet_eq (je_lc rfl sc_law_alike.nd [("_law_k", 2)] (ji_range1 F.b_range (ja_cons (je_callB mc_len quiet_len F.b_len Boot.len (ja_cons (je_var (i := 1)) (ja_nil))) (ja_nil))) (by first | (change blkC N_law_alike (defScope s_law_alike) _ _ = true; decide +kernel) | rfl) (fun s H C cl fp => jg_name (i := 2) sc_law_alike.nd) (fun s H C cl fp => jts_one (jt_not (jt_val (je_call ih (hr.mono (by omega)) (ja_cons (je_ix (je_var (i := 0)) (je_var (i := 2))) (ja_cons (je_ix (je_var (i := 1)) (je_var (i := 2))) (ja_nil))))))) (fun s H C cl fp => je_var (i := 2))) (je_lst (ja_nil))))))) (jss_nil)) (jss_cons (js_if (JW.jt (jw_or (jt_cmp m2_isN quiet_isN (je_var (i := 1)) (je_non)) (jw_or1 (jt_val (je_isi F.b_isinstance F.b_str (je_var (i := 1)) .str Boot.str))))) (jss_one (js_ret (je_and (je_cmp (m2_eq hu) quiet_eq (je_var (i := 0)) (je_var (i := 1))) (je_one (je_cmp (m2_eq hu) quiet_eq (je_isi F.b_isinstance F.b_str (je_var (i := 0)) .str Boot.str) (je_isi F.b_isinstance F.b_str (je_var (i := 1)) .str Boot.str)))))) (jss_nil)) (jss_one (js_ret (je_and (je_isi F.b_isinstance F.b_int (je_var (i := 0)) .int Boot.int) (je_and (je_cmp (m2_eq hu) quiet_eq (je_isi F.b_isinstance F.b_bool (je_var (i := 0)) .bool Boot.bool) (je_isi F.b_isinstance F.b_bool (je_var (i := 1)) .bool Boot.bool)) (je_one (je_cmp (m2_eq hu) quiet_eq (je_var (i := 0)) (je_var (i := 1)))))))))))))⟩
/-! ### Daybook.signs_with -/
abbrev N_Daybook_signs_with : List Str := ["self", "amount", "levels", "tick", "word", "rest"]
theorem sc_Daybook_signs_with : FnScope N_Daybook_signs_with ["self", "amount"] (defScope s_Daybook_signs_with) := ⟨rfl, rfl, rfl, by decide +kernel, rfl, by decide +kernel, by decide +kernel⟩
theorem h_Daybook_signs_with {T : Wh} (F : Fx T) : HasM T 22 "signs_with" 4 2 f_Daybook_signs_with := by
  obtain ⟨f, fd, h1, hF, hB⟩ := F.me_Daybook_signs_with
  exact ⟨by decide +kernel, fun Ca hC => ⟨f, (h1 Ca hC).1, (h1 Ca hC).2, fnM_of1 (k := 3) (N := N_Daybook_signs_with) (m := 4) (body := m_Daybook_signs_with) hF hB sc_Daybook_signs_with rfl rfl (fun cdv A outer s H E hr => (by have hu := hr.units; have hu1 : _ + 1 < cLine := Nat.lt_of_le_of_lt (Nat.add_le_add_left (by decide) _) hu; have hu2 : _ + 2 < cLine := Nat.lt_of_le_of_lt (Nat.add_le_add_left (by decide) _) hu; delta m_Daybook_signs_with; delta Se.mLcX Se.mIsiTO Se.mRevS Se.mChain3 Se.sPar3 Se.sFgt Se.mOutsO Se.sWhile Se.mVar Se.mC Se.mBin Se.mTest Se.mChain Se.tAndM Se.tOrM Se.tNotM Se.mAnd Se.mOr Se.mNot Se.mIf Se.aNil Se.aCons Se.mTup Se.mLst Se.mApp Se.mCut Se.oNone Se.oSome Se.sNext Se.sSeq Se.sSet Se.sRet Se.sDrop Se.sIf Se.sAug Se.sBreak Se.sCont Se.gSet Se.gsNil Se.gsCons Se.gTupM Se.sAsg Se.sPar Se.sFor Se.iRange1 Se.iRange2 Se.mFld Se.sFldM Se.sFldAugM Se.mMeth Se.mProp Se.vMake Se.iEnumM Se.iZipM Se.iSeqM Se.iStrM Se.mYes Se.mLc Se.mBM Se.gSubL Se.mIsi Se.sRaise Se.sRaise0 Se.aStar Se.mOp Se.mLen Se.mDget Se.gSubD Se.mDisp Se.mItems Se.mDc Se.gFld Se.mOutcome Se.mBad Se.sBad Se.mNeg Se.mCall Se.mGetO Se.mOpT Se.mIsiO Se.gTupS Se.iKeysM Se.iValsM Se.mDisp0 Se.mOutOne Se.mCm Se.mMakeV Se.mSup Se.mMake0 Se.mCon Se.mOpG Se.gPl Se.gYl Se.gSq Se.gFr Se.mListG Se.mListV Ab.mNeg; exact (jss_cons (js_par rfl sc_Daybook_signs_with.nd (ja_cons (je_op m2_repT quiet_repT (je_tup (ja_cons (je_int) (ja_nil))) (je_lenO (h_Row_len F) (hr.mono (by decide)) (je_fld (fld1 F.fo_Daybook_plan) (je_var (i := 0))) F.b_len)) (ja_cons (je_int) (ja_nil)))) (jss_cons (js_for cx1_pass rfl (ji_seq (je_fld (fld1 F.fo_Daybook_events) (je_var (i := 0)))) (jg_tupS rfl (jgs_cons (jg_name (i := 4) sc_Daybook_signs_with.nd) (jgs_star (jg_name (i := 5) sc_Daybook_signs_with.nd)))) (jss_one (js_if (jt_cmp (m2_eq hu) quiet_eq (je_var (i := 4)) (je_globS F.g_RAIN)) (jss_cons (js_set sc_Daybook_signs_with.nd (je_ix (je_call (h_next_tick F) (hr.mono (by decide)) (ja_cons (je_fld (fld1 F.fo_Daybook_plan) (je_var (i := 0))) (ja_cons (je_var (i := 2)) (ja_cons (je_var (i := 3)) (ja_cons (je_if (jt_cmp m2_isN quiet_isN (je_ix (je_var (i := 5)) (je_int)) (je_non)) (je_var (i := 1)) (je_ix (je_var (i := 5)) (je_int))) (ja_cons (je_tup (ja_nil)) (ja_nil))))))) (je_int))) (jss_one (js_aug sc_Daybook_signs_with.nd m2_iadd quiet_iadd (je_int)))) (jss_one (js_if (jt_cmp (m2_ne hu) quiet_ne (je_ix (je_var (i := 2)) (je_ix (je_var (i := 5)) (je_int))) (je_ix (je_var (i := 5)) (je_int))) (jss_one (js_ret (je_if (jt_cmp m2_lt (quiet_cmpI _) (je_ix (je_var (i := 2)) (je_ix (je_var (i := 5)) (je_int))) (je_ix (je_var (i := 5)) (je_int))) (je_neg (je_int)) (je_int)))) (jss_nil)))))) (jss_one (js_ret (je_int)))))))⟩⟩
/-! ### Daybook.first_with -/
abbrev N_Daybook_first_with : List Str := ["self", "least", "low", "high", "middle"]
theorem sc_Daybook_first_with : FnScope N_Daybook_first_with ["self", "least"] (defScope s_Daybook_first_with) := ⟨rfl, rfl, rfl, by decide +kernel, rfl, by decide +kernel, by decide +kernel⟩
theorem h_Daybook_first_with {T : Wh} (F : Fx T) : HasM T 22 "first_with" 5 2 f_Daybook_first_with := by
  obtain ⟨f, fd, h1, hF, hB⟩ := F.me_Daybook_first_with
  exact ⟨by decide +kernel, fun Ca hC => ⟨f, (h1 Ca hC).1, (h1 Ca hC).2, fnM_of1 (k := 4) (N := N_Daybook_first_with) (m := 3) (body := m_Daybook_first_with) hF hB sc_Daybook_first_with rfl rfl (fun cdv A outer s H E hr => (by have hu := hr.units; have hu1 : _ + 1 < cLine := Nat.lt_of_le_of_lt (Nat.add_le_add_left (by decide) _) hu; have hu2 : _ + 2 < cLine := Nat.lt_of_le_of_lt (Nat.add_le_add_left (by decide) _) hu; delta m_Daybook_first_with; delta Se.mLcX Se.mIsiTO Se.mRevS Se.mChain3 Se.sPar3 Se.sFgt Se.mOutsO Se.sWhile Se.mVar Se.mC Se.mBin Se.mTest Se.mChain Se.tAndM Se.tOrM Se.tNotM Se.mAnd Se.mOr Se.mNot Se.mIf Se.aNil Se.aCons Se.mTup Se.mLst Se.mApp Se.mCut Se.oNone Se.oSome Se.sNext Se.sSeq Se.sSet Se.sRet Se.sDrop Se.sIf Se.sAug Se.sBreak Se.sCont Se.gSet Se.gsNil Se.gsCons Se.gTupM Se.sAsg Se.sPar Se.sFor Se.iRange1 Se.iRange2 Se.mFld Se.sFldM Se.sFldAugM Se.mMeth Se.mProp Se.vMake Se.iEnumM Se.iZipM Se.iSeqM Se.iStrM Se.mYes Se.mLc Se.mBM Se.gSubL Se.mIsi Se.sRaise Se.sRaise0 Se.aStar Se.mOp Se.mLen Se.mDget Se.gSubD Se.mDisp Se.mItems Se.mDc Se.gFld Se.mOutcome Se.mBad Se.sBad Se.mNeg Se.mCall Se.mGetO Se.mOpT Se.mIsiO Se.gTupS Se.iKeysM Se.iValsM Se.mDisp0 Se.mOutOne Se.mCm Se.mMakeV Se.mSup Se.mMake0 Se.mCon Se.mOpG Se.gPl Se.gYl Se.gSq Se.gFr Se.mListG Se.mListV Ab.mNeg; exact (jss_cons (js_par rfl sc_Daybook_first_with.nd (ja_cons (je_int) (ja_cons (je_op m2_add quiet_add (je_globI F.g_MAX_RAIN) (je_int)) (ja_nil)))) (jss_cons (js_while cx1_pass (jt_cmp m2_lt (quiet_cmpI _) (je_var (i := 2)) (je_var (i := 3))) (jss_cons (js_set sc_Daybook_first_with.nd (je_op m2_div quiet_div (je_op m2_add quiet_add (je_var (i := 2)) (je_var (i := 3))) (je_int))) (jss_one (js_if (jt_cmp m2_ge (quiet_cmpI _) (je_meth (tbl1 ⟨F.cl_Daybook, h_Daybook_signs_with F⟩) (by simp) (hr.mono (by decide)) (je_var (i := 0)) (ja_cons (je_var (i := 4)) (ja_nil))) (je_var (i := 1))) (jss_one (js_set sc_Daybook_first_with.nd (je_var (i := 4)))) (jss_one (js_set sc_Daybook_first_with.nd (je_op m2_add quiet_add (je_var (i := 4)) (je_int)))))))) (jss_one (js_ret (je_var (i := 2))))))))⟩⟩
/-! ### Daybook.unknown_range -/
abbrev N_Daybook_unknown_range : List Str := ["self", "low", "high"]
theorem sc_Daybook_unknown_range : FnScope N_Daybook_unknown_range ["self"] (defScope s_Daybook_unknown_range) := ⟨rfl, rfl, rfl, by decide +kernel, rfl, by decide +kernel, by decide +kernel⟩
theorem h_Daybook_unknown_range {T : Wh} (F : Fx T) : HasM T 22 "unknown_range" 6 1 f_Daybook_unknown_range := by
  obtain ⟨f, fd, h1, hF, hB⟩ := F.me_Daybook_unknown_range
  exact ⟨by decide +kernel, fun Ca hC => ⟨f, (h1 Ca hC).1, (h1 Ca hC).2, fnM_of1 (k := 5) (N := N_Daybook_unknown_range) (m := 2) (body := m_Daybook_unknown_range) hF hB sc_Daybook_unknown_range rfl rfl (fun cdv A outer s H E hr => (by have hu := hr.units; have hu1 : _ + 1 < cLine := Nat.lt_of_le_of_lt (Nat.add_le_add_left (by decide) _) hu; have hu2 : _ + 2 < cLine := Nat.lt_of_le_of_lt (Nat.add_le_add_left (by decide) _) hu; delta m_Daybook_unknown_range; delta Se.mLcX Se.mIsiTO Se.mRevS Se.mChain3 Se.sPar3 Se.sFgt Se.mOutsO Se.sWhile Se.mVar Se.mC Se.mBin Se.mTest Se.mChain Se.tAndM Se.tOrM Se.tNotM Se.mAnd Se.mOr Se.mNot Se.mIf Se.aNil Se.aCons Se.mTup Se.mLst Se.mApp Se.mCut Se.oNone Se.oSome Se.sNext Se.sSeq Se.sSet Se.sRet Se.sDrop Se.sIf Se.sAug Se.sBreak Se.sCont Se.gSet Se.gsNil Se.gsCons Se.gTupM Se.sAsg Se.sPar Se.sFor Se.iRange1 Se.iRange2 Se.mFld Se.sFldM Se.sFldAugM Se.mMeth Se.mProp Se.vMake Se.iEnumM Se.iZipM Se.iSeqM Se.iStrM Se.mYes Se.mLc Se.mBM Se.gSubL Se.mIsi Se.sRaise Se.sRaise0 Se.aStar Se.mOp Se.mLen Se.mDget Se.gSubD Se.mDisp Se.mItems Se.mDc Se.gFld Se.mOutcome Se.mBad Se.sBad Se.mNeg Se.mCall Se.mGetO Se.mOpT Se.mIsiO Se.gTupS Se.iKeysM Se.iValsM Se.mDisp0 Se.mOutOne Se.mCm Se.mMakeV Se.mSup Se.mMake0 Se.mCon Se.mOpG Se.gPl Se.gYl Se.gSq Se.gFr Se.mListG Se.mListV Ab.mNeg; exact (jss_cons (js_if (jt_not (jt_val (je_meth0 (tbl1 ⟨F.cl_Daybook, h_Daybook_has_unknown F⟩) (by simp) (hr.mono (by decide)) (je_var (i := 0))))) (jss_one (js_ret (je_non))) (jss_nil)) (jss_cons (js_par rfl sc_Daybook_unknown_range.nd (ja_cons (je_meth (tbl1 ⟨F.cl_Daybook, h_Daybook_first_with F⟩) (by simp) (hr.mono (by decide)) (je_var (i := 0)) (ja_cons (je_int) (ja_nil))) (ja_cons (je_op m2_sub quiet_sub (je_meth (tbl1 ⟨F.cl_Daybook, h_Daybook_first_with F⟩) (by simp) (hr.mono (by decide)) (je_var (i := 0)) (ja_cons (je_int) (ja_nil))) (je_int)) (ja_nil)))) (jss_one (js_ret (je_if (jt_cmp m2_le quiet_le (je_var (i := 1)) (je_var (i := 2))) (je_tup (ja_cons (je_var (i := 1)) (ja_cons (je_var (i := 2)) (ja_nil)))) (je_non))))))))⟩⟩
/-! ### _law_range_right -/
abbrev N_law_range_right : List Str := ["_law_parts_here", "_law_events", "_law_hidden", "_law_told", "_law_fits", "_law_one", "_law_low", "_law_high", "_law_beyond"]
theorem sc_law_range_right : FnScope N_law_range_right ["_law_parts_here", "_law_events", "_law_hidden", "_law_told"] (defScope s_law_range_right) := ⟨rfl, rfl, rfl, by decide +kernel, rfl, by decide +kernel, by decide +kernel⟩
theorem h_law_range_right {T : Wh} (F : Fx T) : Has T "_law_range_right" 3 4 f_law_range_right := by
  obtain ⟨f, fd, hm, hF, hB⟩ := F.fn_law_range_right
  exact ⟨f, hm, fnM_of1 (k := 2) (N := N_law_range_right) (m := 5) (body := m_law_range_right) hF hB sc_law_range_right rfl rfl (fun cdv A outer s H E hr => (by have hu := hr.units; have hu1 : _ + 1 < cLine := Nat.lt_of_le_of_lt (Nat.add_le_add_left (by decide) _) hu; have hu2 : _ + 2 < cLine := Nat.lt_of_le_of_lt (Nat.add_le_add_left (by decide) _) hu; delta m_law_range_right; delta Se.mLcX Se.mIsiTO Se.mRevS Se.mChain3 Se.sPar3 Se.sFgt Se.mOutsO Se.sWhile Se.mVar Se.mC Se.mBin Se.mTest Se.mChain Se.tAndM Se.tOrM Se.tNotM Se.mAnd Se.mOr Se.mNot Se.mIf Se.aNil Se.aCons Se.mTup Se.mLst Se.mApp Se.mCut Se.oNone Se.oSome Se.sNext Se.sSeq Se.sSet Se.sRet Se.sDrop Se.sIf Se.sAug Se.sBreak Se.sCont Se.gSet Se.gsNil Se.gsCons Se.gTupM Se.sAsg Se.sPar Se.sFor Se.iRange1 Se.iRange2 Se.mFld Se.sFldM Se.sFldAugM Se.mMeth Se.mProp Se.vMake Se.iEnumM Se.iZipM Se.iSeqM Se.iStrM Se.mYes Se.mLc Se.mBM Se.gSubL Se.mIsi Se.sRaise Se.sRaise0 Se.aStar Se.mOp Se.mLen Se.mDget Se.gSubD Se.mDisp Se.mItems Se.mDc Se.gFld Se.mOutcome Se.mBad Se.sBad Se.mNeg Se.mCall Se.mGetO Se.mOpT Se.mIsiO Se.gTupS Se.iKeysM Se.iValsM Se.mDisp0 Se.mOutOne Se.mCm Se.mMakeV Se.mSup Se.mMake0 Se.mCon Se.mOpG Se.gPl Se.gYl Se.gSq Se.gFr Se.mListG Se.mListV Ab.mNeg; exact (jss_cons (js_setLc rfl sc_law_range_right.nd [("_law_one", 5)] (ji_range1 F.b_range (ja_cons (je_int) (ja_nil))) (by first | (change blkC N_law_range_right (defScope s_law_range_right) _ _ = true; decide +kernel) | rfl) (fun s H C cl fp => jg_name (i := 5) sc_law_range_right.nd) (fun s H C cl fp => jts_one (jt_val (je_ix (je_call (h_law_run F) (hr.mono (by decide)) (ja_cons (je_var (i := 0)) (ja_cons (je_var (i := 1)) (ja_cons (je_var (i := 5)) (ja_nil))))) (je_int)))) (fun s H C cl fp => je_var (i := 5)) (by rfl)) (jss_cons (js_if (JW.jt (jw_or (jt_cmp m2_isN quiet_isN (je_var (i := 3)) (je_non)) (jw_or1 (jt_not (jt_val (je_var (i := 2))))))) (jss_one (js_ret (je_and (je_cmp m2_isN quiet_isN (je_var (i := 3)) (je_non)) (je_one (je_or (je_not (je_var (i := 2))) (je_one (je_cmp (m2_eq hu) quiet_eq (je_var (i := 4)) (je_lst (ja_nil))))))))) (jss_nil)) (jss_cons (js_asg (je_var (i := 3)) (jg_tup rfl (jgs_cons (jg_name (i := 6) sc_law_range_right.nd) (jgs_cons (jg_name (i := 7) sc_law_range_right.nd) (jgs_nil))))) (jss_cons (js_if (JW.jt (jw_or (jt_cmp m2_lt (quiet_cmpI _) (je_var (i := 6)) (je_int)) (jw_or (jt_cmp m2_gt (quiet_cmpI _) (je_var (i := 7)) (je_op m2_pow quiet_pow (je_int) (je_int))) (jw_or1 (jt_cmp (m2_ne hu) quiet_ne (je_lc rfl sc_law_range_right.nd [("_law_one", 5)] (ji_range1 F.b_range (ja_cons (je_int) (ja_nil))) (by first | (change blkC N_law_range_right (defScope s_law_range_right) _ _ = true; decide +kernel) | rfl) (fun s H C cl fp => jg_name (i := 5) sc_law_range_right.nd) (fun s H C cl fp => jts_one (jt_chain m2_le quiet_le m2_le quiet_le (je_var (i := 6)) (je_var (i := 5)) (je_var (i := 7)))) (fun s H C cl fp => je_var (i := 5))) (je_var (i := 4))))))) (jss_one (js_ret (je_bl))) (jss_nil)) (jss_cons (js_setLc rfl sc_law_range_right.nd [("_law_one", 5)] (ji_seq (je_tup (ja_cons (je_op m2_sub quiet_sub (je_var (i := 6)) (je_int)) (ja_cons (je_op m2_add quiet_add (je_var (i := 7)) (je_int)) (ja_nil))))) (by first | (change blkC N_law_range_right (defScope s_law_range_right) _ _ = true; decide +kernel) | rfl) (fun s H C cl fp => jg_name (i := 5) sc_law_range_right.nd) (fun s H C cl fp => jts_one (jt_chain m2_le quiet_le m2_le quiet_le (je_int) (je_var (i := 5)) (je_op m2_pow quiet_pow (je_int) (je_int)))) (fun s H C cl fp => je_var (i := 5)) (by rfl)) (jss_cons (js_if (jt_cmp (m2_ne hu) quiet_ne (je_lc rfl sc_law_range_right.nd [("_law_one", 5)] (ji_seq (je_var (i := 8))) (by first | (change blkC N_law_range_right (defScope s_law_range_right) _ _ = true; decide +kernel) | rfl) (fun s H C cl fp => jg_name (i := 5) sc_law_range_right.nd) (fun s H C cl fp => jts_one (jt_val (je_ix (je_call (h_law_run F) (hr.mono (by decide)) (ja_cons (je_var (i := 0)) (ja_cons (je_var (i := 1)) (ja_cons (je_var (i := 5)) (ja_nil))))) (je_int)))) (fun s H C cl fp => je_var (i := 5))) (je_lst (ja_nil))) (jss_one (js_ret (je_bl))) (jss_nil)) (jss_one (js_ret (je_cmp (m2_eq hu) quiet_eq (je_lc rfl sc_law_range_right.nd [("_law_one", 5)] (ji_seq (je_var (i := 3))) (by first | (change blkC N_law_range_right (defScope s_law_range_right) _ _ = true; decide +kernel) | rfl) (fun s H C cl fp => jg_name (i := 5) sc_law_range_right.nd) (fun s H C cl fp => jts_one (jt_not (jt_val (je_ix (je_call (h_law_run F) (hr.mono (by decide)) (ja_cons (je_var (i := 0)) (ja_cons (je_var (i := 1)) (ja_cons (je_var (i := 5)) (ja_nil))))) (je_int))))) (fun s H C cl fp => je_var (i := 5))) (je_lst (ja_nil)))))))))))))⟩
/-! ### validate_number -/
abbrev N_validate_number : List Str := ["number", "smallest", "largest"]
theorem sc_validate_number : FnScope N_validate_number ["number", "smallest", "largest"] (defScope s_validate_number) := ⟨rfl, rfl, rfl, by decide +kernel, rfl, by decide +kernel, by decide +kernel⟩
theorem h_validate_number {T : Wh} (F : Fx T) : Has T "validate_number" 1 3 f_validate_number := by
  obtain ⟨f, fd, hm, hF, hB⟩ := F.fn_validate_number
  exact ⟨f, hm, fnM_of1 (k := 0) (N := N_validate_number) (m := 0) (body := m_validate_number) hF hB sc_validate_number rfl rfl (fun cdv A outer s H E hr => (by have hu := hr.units; have hu1 : _ + 1 < cLine := Nat.lt_of_le_of_lt (Nat.add_le_add_left (by decide) _) hu; have hu2 : _ + 2 < cLine := Nat.lt_of_le_of_lt (Nat.add_le_add_left (by decide) _) hu; delta m_validate_number; delta Se.mLcX Se.mIsiTO Se.mRevS Se.mChain3 Se.sPar3 Se.sFgt Se.mOutsO Se.sWhile Se.mVar Se.mC Se.mBin Se.mTest Se.mChain Se.tAndM Se.tOrM Se.tNotM Se.mAnd Se.mOr Se.mNot Se.mIf Se.aNil Se.aCons Se.mTup Se.mLst Se.mApp Se.mCut Se.oNone Se.oSome Se.sNext Se.sSeq Se.sSet Se.sRet Se.sDrop Se.sIf Se.sAug Se.sBreak Se.sCont Se.gSet Se.gsNil Se.gsCons Se.gTupM Se.sAsg Se.sPar Se.sFor Se.iRange1 Se.iRange2 Se.mFld Se.sFldM Se.sFldAugM Se.mMeth Se.mProp Se.vMake Se.iEnumM Se.iZipM Se.iSeqM Se.iStrM Se.mYes Se.mLc Se.mBM Se.gSubL Se.mIsi Se.sRaise Se.sRaise0 Se.aStar Se.mOp Se.mLen Se.mDget Se.gSubD Se.mDisp Se.mItems Se.mDc Se.gFld Se.mOutcome Se.mBad Se.sBad Se.mNeg Se.mCall Se.mGetO Se.mOpT Se.mIsiO Se.gTupS Se.iKeysM Se.iValsM Se.mDisp0 Se.mOutOne Se.mCm Se.mMakeV Se.mSup Se.mMake0 Se.mCon Se.mOpG Se.gPl Se.gYl Se.gSq Se.gFr Se.mListG Se.mListV Ab.mNeg; exact (jss_one (js_if (jt_not (jt_chain m2_le quiet_le m2_le quiet_le (je_var (i := 1)) (je_var (i := 0)) (je_var (i := 2)))) (jss_one (js_raise0 F.x0_InvalidNumber rfl)) (jss_nil)))))⟩
/-! ### Daybook.levels_after -/
abbrev N_Daybook_levels_after : List Str := ["self", "amount", "levels", "tick", "word", "rest", "barrel", "level"]
theorem sc_Daybook_levels_after : FnScope N_Daybook_levels_after ["self", "amount"] (defScope s_Daybook_levels_after) := ⟨rfl, rfl, rfl, by decide +kernel, rfl, by decide +kernel, by decide +kernel⟩
theorem h_Daybook_levels_after {T : Wh} (F : Fx T) : HasM T 22 "levels_after" 4 2 f_Daybook_levels_after := by
  obtain ⟨f, fd, h1, hF, hB⟩ := F.me_Daybook_levels_after
  exact ⟨by decide +kernel, fun Ca hC => ⟨f, (h1 Ca hC).1, (h1 Ca hC).2, fnM_of1 (k := 3) (N := N_Daybook_levels_after) (m := 6) (body := m_Daybook_levels_after) hF hB sc_Daybook_levels_after rfl rfl (fun cdv A outer s H E hr => (by have hu := hr.units; have hu1 : _ + 1 < cLine := Nat.lt_of_le_of_lt (Nat.add_le_add_left (by decide) _) hu; have hu2 : _ + 2 < cLine := Nat.lt_of_le_of_lt (Nat.add_le_add_left (by decide) _) hu; delta m_Daybook_levels_after; delta Se.mLcX Se.mIsiTO Se.mRevS Se.mChain3 Se.sPar3 Se.sFgt Se.mOutsO Se.sWhile Se.mVar Se.mC Se.mBin Se.mTest Se.mChain Se.tAndM Se.tOrM Se.tNotM Se.mAnd Se.mOr Se.mNot Se.mIf Se.aNil Se.aCons Se.mTup Se.mLst Se.mApp Se.mCut Se.oNone Se.oSome Se.sNext Se.sSeq Se.sSet Se.sRet Se.sDrop Se.sIf Se.sAug Se.sBreak Se.sCont Se.gSet Se.gsNil Se.gsCons Se.gTupM Se.sAsg Se.sPar Se.sFor Se.iRange1 Se.iRange2 Se.mFld Se.sFldM Se.sFldAugM Se.mMeth Se.mProp Se.vMake Se.iEnumM Se.iZipM Se.iSeqM Se.iStrM Se.mYes Se.mLc Se.mBM Se.gSubL Se.mIsi Se.sRaise Se.sRaise0 Se.aStar Se.mOp Se.mLen Se.mDget Se.gSubD Se.mDisp Se.mItems Se.mDc Se.gFld Se.mOutcome Se.mBad Se.sBad Se.mNeg Se.mCall Se.mGetO Se.mOpT Se.mIsiO Se.gTupS Se.iKeysM Se.iValsM Se.mDisp0 Se.mOutOne Se.mCm Se.mMakeV Se.mSup Se.mMake0 Se.mCon Se.mOpG Se.gPl Se.gYl Se.gSq Se.gFr Se.mListG Se.mListV Ab.mNeg; exact (jss_cons (js_expr (je_call (h_validate_number F) (hr.mono (by decide)) (ja_cons (je_var (i := 1)) (ja_cons (je_int) (ja_cons (je_globI F.g_MAX_RAIN) (ja_nil)))))) (jss_cons (js_par rfl sc_Daybook_levels_after.nd (ja_cons (je_op m2_repT quiet_repT (je_tup (ja_cons (je_int) (ja_nil))) (je_lenO (h_Row_len F) (hr.mono (by decide)) (je_fld (fld1 F.fo_Daybook_plan) (je_var (i := 0))) F.b_len)) (ja_cons (je_int) (ja_nil)))) (jss_cons (js_for cx1_pass rfl (ji_seq (je_fld (fld1 F.fo_Daybook_events) (je_var (i := 0)))) (jg_tupS rfl (jgs_cons (jg_name (i := 4) sc_Daybook_levels_after.nd) (jgs_star (jg_name (i := 5) sc_Daybook_levels_after.nd)))) (jss_one (js_if (jt_cmp (m2_eq hu) quiet_eq (je_var (i := 4)) (je_globS F.g_RAIN)) (jss_cons (js_set sc_Daybook_levels_after.nd (je_ix (je_call (h_next_tick F) (hr.mono (by decide)) (ja_cons (je_fld (fld1 F.fo_Daybook_plan) (je_var (i := 0))) (ja_cons (je_var (i := 2)) (ja_cons (je_var (i := 3)) (ja_cons (je_if (jt_cmp m2_isN quiet_isN (je_ix (je_var (i := 5)) (je_int)) (je_non)) (je_var (i := 1)) (je_ix (je_var (i := 5)) (je_int))) (ja_cons (je_tup (ja_nil)) (ja_nil))))))) (je_int))) (jss_one (js_aug sc_Daybook_levels_after.nd m2_iadd quiet_iadd (je_int)))) (jss_nil)))) (jss_one (js_ret (je_dc rfl sc_Daybook_levels_after.nd [("barrel", 6), ("level", 7)] (ji_zip F.b_zip (je_prop (tbl1 ⟨F.cl_Row, h_Row_barrels F⟩) (by simp) (hr.mono (by decide)) (je_fld (fld1 F.fo_Daybook_plan) (je_var (i := 0)))) (je_var (i := 2))) (by first | (change blkC N_Daybook_levels_after (defScope s_Daybook_levels_after) _ _ = true; decide +kernel) | rfl) (fun s H C cl fp => jg_tup rfl (jgs_cons (jg_name (i := 6) sc_Daybook_levels_after.nd) (jgs_cons (jg_name (i := 7) sc_Daybook_levels_after.nd) (jgs_nil)))) (fun s H C cl fp => jts_nil) (fun s H C cl fp => je_ix (je_var (i := 6)) (je_int)) (fun s H C cl fp => je_var (i := 7))))))))))⟩⟩
/-! ### law -/
abbrev N_law : List Str := ["_law_script", "_law_h", "_law_turn", "_law_parts_here", "_law_text_here", "_law_results", "_law_due_here", "_law_found", "_law_daybook", "_law_events", "_law_ticks", "_law_event_here", "_law_hidden", "_law_amount", "_law_levels", "_law_pairs", "_law_k"]
theorem sc_law : FnScope N_law ["_law_script"] (defScope s_law) := ⟨rfl, rfl, rfl, by decide +kernel, rfl, by decide +kernel, by decide +kernel⟩
theorem j_law {T : Wh} (F : Fx T) {c P : Addr} (TB : LamX.TabB T.base T.mg c P) (hmT : (P, ("law" : Str) ++ ".<locals>." ++ "<lambda>") ∈ tabsOf T.K T.mg) (huT : ∀ p ∈ tabsOf T.K T.mg, p.1 = P → p.2 = ("law" : Str) ++ ".<locals>." ++ "<lambda>") {f : Addr} {A : Around} {outer : List Env} {s : Shared} {H : Hp} {E : XK}
    (hr : Room 8 (cx1 T N_law "law" s_law f (.ref c) A outer s H E).A) : JSs (cx1 T N_law "law" s_law f (.ref c) A outer s H E) (defBody s_law) m_law := by
  obtain ⟨go, fdo, hmo, hFo, _⟩ := F.fn_law_outcome
  have hu := hr.units; have hu1 : _ + 1 < cLine := Nat.lt_of_le_of_lt (Nat.add_le_add_left (by decide) _) hu; have hu2 : _ + 2 < cLine := Nat.lt_of_le_of_lt (Nat.add_le_add_left (by decide) _) hu
  delta m_law
  delta Se.mLcX Se.mIsiTO Se.mRevS Se.mChain3 Se.sPar3 Se.sFgt Se.mOutsO Se.sWhile Se.mVar Se.mC Se.mBin Se.mTest Se.mChain Se.tAndM Se.tOrM Se.tNotM Se.mAnd Se.mOr Se.mNot Se.mIf Se.aNil Se.aCons Se.mTup Se.mLst Se.mApp Se.mCut Se.oNone Se.oSome Se.sNext Se.sSeq Se.sSet Se.sRet Se.sDrop Se.sIf Se.sAug Se.sBreak Se.sCont Se.gSet Se.gsNil Se.gsCons Se.gTupM Se.sAsg Se.sPar Se.sFor Se.iRange1 Se.iRange2 Se.mFld Se.sFldM Se.sFldAugM Se.mMeth Se.mProp Se.vMake Se.iEnumM Se.iZipM Se.iSeqM Se.iStrM Se.mYes Se.mLc Se.mBM Se.gSubL Se.mIsi Se.sRaise Se.sRaise0 Se.aStar Se.mOp Se.mLen Se.mDget Se.gSubD Se.mDisp Se.mItems Se.mDc Se.gFld Se.mOutcome Se.mBad Se.sBad Se.mNeg Se.mCall Se.mGetO Se.mOpT Se.mIsiO Se.gTupS Se.iKeysM Se.iValsM Se.mDisp0 Se.mOutOne Se.mCm Se.mMakeV Se.mSup Se.mMake0 Se.mCon Se.mOpG Se.gPl Se.gYl Se.gSq Se.gFr Se.mListG Se.mListV Ab.mNeg
  exact (jss_cons (js_set sc_law.nd (je_call (h_law_mix F) (hr.mono (by decide)) (ja_cons (je_var (i := 0)) (ja_cons (je_int) (ja_nil))))) (jss_cons (js_for cx1_pass rfl (ji_range1 F.b_range (ja_cons (je_int) (ja_nil))) (jg_name (i := 2) sc_law.nd) (jss_cons (js_set sc_law.nd (je_call (h_law_parts F) (hr.mono (by decide)) (ja_cons (je_var (i := 1)) (ja_cons (je_int) (ja_cons (je_int) (ja_nil)))))) (jss_cons (js_asg (je_tup (ja_cons (je_call (h_law_text F) (hr.mono (by decide)) (ja_cons (je_var (i := 1)) (ja_cons (je_var (i := 3)) (ja_nil)))) (ja_cons (je_lst (ja_nil)) (ja_nil)))) (jg_tup rfl (jgs_cons (jg_name (i := 4) sc_law.nd) (jgs_cons (jg_name (i := 5) sc_law.nd) (jgs_nil))))) (jss_cons (js_set sc_law.nd (je_call (h_law_due F) (hr.mono (by decide)) (ja_cons (je_var (i := 3)) (ja_cons (je_var (i := 4)) (ja_nil))))) (jss_cons (js_set sc_law.nd ((je_outcome (T := T) (k := 6) rfl hFo sc_law_outcome (fun _ _ _ _ _ _ us hl => match us, hl with | [_], _ => rfl) (fun cdg hro => gout F rfl hro) hmo rfl TB rfl hmT huT (hr.mono (by decide)) (LamX.lamS_by (by change LamX.lamSB (defScope s_law) _ = true; decide +kernel)) rfl (fun _ _ _ _ _ => rfl) (fun A outer s H E f c' hr => je_append (je_var (i := 5)) (je_make (h_Daybook_init F) (by decide +kernel) (hr.mono (by decide)) (ja_cons (je_call (h_law_row F) (hr.mono (by decide)) (ja_cons (je_var (i := 3)) (ja_nil))) (ja_cons (je_var (i := 4)) (ja_nil)))))))) (jss_one (js_if (JW.jt (jw_or (jt_cmp (m2_eq hu) quiet_eq (je_ix (je_var (i := 6)) (je_int)) (je_str)) (jw_or1 (jt_cmp (m2_ne hu) quiet_ne (je_ix (je_var (i := 7)) (je_int)) (je_str))))) (jss_one (js_if (jt_cmp (m2_ne hu) quiet_ne (je_var (i := 7)) (je_var (i := 6))) (jss_one (js_ret (je_bl))) (jss_nil))) (jss_cons (js_asg (je_tup (ja_cons (je_ix (je_var (i := 5)) (je_int)) (ja_cons (je_ix (je_var (i := 6)) (je_int)) (ja_nil)))) (jg_tup rfl (jgs_cons (jg_name (i := 8) sc_law.nd) (jgs_cons (jg_name (i := 9) sc_law.nd) (jgs_nil))))) (jss_cons (js_setLc rfl sc_law.nd [("_law_event_here", 11)] (ji_seq (je_var (i := 9))) (by first | (change blkC N_law (defScope s_law) _ _ = true; decide +kernel) | rfl) (fun s H C cl fp => jg_name (i := 11) sc_law.nd) (fun s H C cl fp => jts_one (jt_cmp (m2_eq hu) quiet_eq (je_ix (je_var (i := 11)) (je_int)) (je_str))) (fun s H C cl fp => je_var (i := 11)) (by rfl)) (jss_cons (js_if (jt_not (jt_val (je_call (h_law_alike F 6) (hr.mono (by decide)) (ja_cons (je_lst (ja_cons (je_prop (tbl1 ⟨F.cl_Daybook, h_Daybook_line_count F⟩) (by simp) (hr.mono (by decide)) (je_var (i := 8))) (ja_cons (je_prop (tbl1 ⟨F.cl_Daybook, h_Daybook_tick_count F⟩) (by simp) (hr.mono (by decide)) (je_var (i := 8))) (ja_nil)))) (ja_cons (je_lst (ja_cons (je_callB mc_len quiet_len F.b_len Boot.len (ja_cons (je_var (i := 9)) (ja_nil))) (ja_cons (je_callB mc_len quiet_len F.b_len Boot.len (ja_cons (je_var (i := 10)) (ja_nil))) (ja_nil)))) (ja_nil)))))) (jss_one (js_ret (je_bl))) (jss_nil)) (jss_cons (js_set sc_law.nd (je_cmp (m2_ne hu) quiet_ne (je_lc rfl sc_law.nd [("_law_event_here", 11)] (ji_seq (je_var (i := 10))) (by first | (change blkC N_law (defScope s_law) _ _ = true; decide +kernel) | rfl) (fun s H C cl fp => jg_name (i := 11) sc_law.nd) (fun s H C cl fp => jts_one (jt_cmp m2_isN quiet_isN (je_ix (je_var (i := 11)) (je_int)) (je_non))) (fun s H C cl fp => je_var (i := 11))) (je_lst (ja_nil)))) (jss_cons (js_if (jt_not (jt_val (je_call (h_law_range_right F) (hr.mono (by decide)) (ja_cons (je_var (i := 3)) (ja_cons (je_var (i := 9)) (ja_cons (je_var (i := 12)) (ja_cons (je_meth0 (tbl1 ⟨F.cl_Daybook, h_Daybook_unknown_range F⟩) (by simp) (hr.mono (by decide)) (je_var (i := 8))) (ja_nil)))))))) (jss_one (js_ret (je_bl))) (jss_nil)) (jss_cons (js_set sc_law.nd (je_call (h_law_next F) (hr.mono (by decide)) (ja_cons (je_var (i := 1)) (ja_cons (je_ix (je_lst (ja_cons (je_int) (ja_cons (je_op m2_add quiet_add (je_op m2_pow quiet_pow (je_int) (je_int)) (je_int)) (ja_nil)))) (je_call (h_law_next F) (hr.mono (by decide)) (ja_cons (je_var (i := 1)) (ja_cons (je_int) (ja_nil))))) (ja_nil))))) (jss_cons (js_set sc_law.nd (je_ix (je_call (h_law_run F) (hr.mono (by decide)) (ja_cons (je_var (i := 3)) (ja_cons (je_var (i := 9)) (ja_cons (je_var (i := 13)) (ja_nil))))) (je_int))) (jss_cons (js_setLc rfl sc_law.nd [("_law_k", 16)] (ji_range1 F.b_range (ja_cons (je_callB mc_len quiet_len F.b_len Boot.len (ja_cons (je_var (i := 14)) (ja_nil))) (ja_nil))) (by first | (change blkC N_law (defScope s_law) _ _ = true; decide +kernel) | rfl) (fun s H C cl fp => jg_name (i := 16) sc_law.nd) (fun s H C cl fp => jts_nil) (fun s H C cl fp => je_tup (ja_cons (je_ix (je_ix (je_ix (je_var (i := 3)) (je_int)) (je_var (i := 16))) (je_int)) (ja_cons (je_ix (je_var (i := 14)) (je_var (i := 16))) (ja_nil)))) (by rfl)) (jss_cons (js_if (jt_not (jt_val (je_call (h_law_alike F 6) (hr.mono (by decide)) (ja_cons (je_listItems rfl F.b_list (je_meth (tbl1 ⟨F.cl_Daybook, h_Daybook_levels_after F⟩) (by simp) (hr.mono (by decide)) (je_var (i := 8)) (ja_cons (je_var (i := 13)) (ja_nil)))) (ja_cons (je_var (i := 15)) (ja_nil)))))) (jss_one (js_ret (je_bl))) (jss_nil)) (jss_one (js_if (jt_cmp (m2_ne hu) quiet_ne ((je_outcome (T := T) (k := 4) rfl hFo sc_law_outcome (fun _ _ _ _ _ _ us hl => match us, hl with | [_], _ => rfl) (fun cdg hro => gout F rfl hro) hmo rfl TB rfl hmT huT (hr.mono (by decide)) (LamX.lamS_by (by change LamX.lamSB (defScope s_law) _ = true; decide +kernel)) rfl (fun _ _ _ _ _ => rfl) (fun A outer s H E f c' hr => je_meth (tbl1 ⟨F.cl_Daybook, h_Daybook_levels_after F⟩) (by simp) (hr.mono (by decide)) (je_var (i := 8)) (ja_cons (je_ix (je_lst (ja_cons (je_neg (je_int)) (ja_cons (je_op m2_add quiet_add (je_op m2_pow quiet_pow (je_int) (je_int)) (je_int)) (ja_nil)))) (je_op m2_mod quiet_mod (je_var (i := 2)) (je_int))) (ja_nil))))) (je_tup (ja_cons (je_str) (ja_nil)))) (jss_one (js_ret (je_bl))) (jss_nil))))))))))))))))))) (jss_one (js_ret (je_bl)))))
end K47

set_option Elab.async false
set_option linter.all false
set_option maxRecDepth 100000
set_option maxHeartbeats 4000000
namespace K47
open PySem PySem.Spec PyProof.Rows L2 Ab
theorem fx_mk {P : Program} {w : World} {K : PySem.W.Frag} {h : Heap} {mg : Str → Option Value} {f_law_mix : Addr} {oc_law_mix : Value} {od_law_mix : Option Addr} {kV_law_mix : Value} {dc_law_mix : Value} {pm_law_mix : Value} {an_law_mix : Option Addr} {cd_law_mix : Value} {ct_law_mix : Value} {sl_law_mix : Array (Option Value)} {f_law_next : Addr} {oc_law_next : Value} {od_law_next : Option Addr} {kV_law_next : Value} {dc_law_next : Value} {pm_law_next : Value} {an_law_next : Option Addr} {cd_law_next : Value} {ct_law_next : Value} {sl_law_next : Array (Option Value)} {f_law_parts : Addr} {oc_law_parts : Value} {od_law_parts : Option Addr} {kV_law_parts : Value} {dc_law_parts : Value} {pm_law_parts : Value} {an_law_parts : Option Addr} {cd_law_parts : Value} {ct_law_parts : Value} {sl_law_parts : Array (Option Value)} {f_law_tick : Addr} {oc_law_tick : Value} {od_law_tick : Option Addr} {kV_law_tick : Value} {dc_law_tick : Value} {pm_law_tick : Value} {an_law_tick : Option Addr} {cd_law_tick : Value} {ct_law_tick : Value} {sl_law_tick : Array (Option Value)} {f_law_run : Addr} {oc_law_run : Value} {od_law_run : Option Addr} {kV_law_run : Value} {dc_law_run : Value} {pm_law_run : Value} {an_law_run : Option Addr} {cd_law_run : Value} {ct_law_run : Value} {sl_law_run : Array (Option Value)} {f_law_text : Addr} {oc_law_text : Value} {od_law_text : Option Addr} {kV_law_text : Value} {dc_law_text : Value} {pm_law_text : Value} {an_law_text : Option Addr} {cd_law_text : Value} {ct_law_text : Value} {sl_law_text : Array (Option Value)} {f_law_event : Addr} {oc_law_event : Value} {od_law_event : Option Addr} {kV_law_event : Value} {dc_law_event : Value} {pm_law_event : Value} {an_law_event : Option Addr} {cd_law_event : Value} {ct_law_event : Value} {sl_law_event : Array (Option Value)} {f_law_due : Addr} {oc_law_due : Value} {od_law_due : Option Addr} {kV_law_due : Value} {dc_law_due : Value} {pm_law_due : Value} {an_law_due : Option Addr} {cd_law_due : Value} {ct_law_due : Value} {sl_law_due : Array (Option Value)} {C_InvalidNumber : Addr} {C_DecodeError : Addr} {C_DaybookError : Addr} {C_InvalidText : Addr} {C_InvalidRow : Addr} {C_InvalidOperation : Addr} {C_UnknownBarrel : Addr} {C_InvalidWeather : Addr} {f_law_outcome : Addr} {oc_law_outcome : Value} {od_law_outcome : Option Addr} {kV_law_outcome : Value} {dc_law_outcome : Value} {pm_law_outcome : Value} {an_law_outcome : Option Addr} {cd_law_outcome : Value} {ct_law_outcome : Value} {sl_law_outcome : Array (Option Value)} {C_RowError : Addr} {C_OtherRain : Addr} {C_Daybook : Addr} {C_Row : Addr} {f_Row_len : Addr} {oc_Row_len : Value} {od_Row_len : Option Addr} {kV_Row_len : Value} {dc_Row_len : Value} {pm_Row_len : Value} {an_Row_len : Option Addr} {cd_Row_len : Value} {ct_Row_len : Value} {sl_Row_len : Array (Option Value)} {t_MAX_LINES : Tok} {f_Row_barrels : Addr} {oc_Row_barrels : Value} {od_Row_barrels : Option Addr} {kV_Row_barrels : Value} {dc_Row_barrels : Value} {pm_Row_barrels : Value} {an_Row_barrels : Option Addr} {cd_Row_barrels : Value} {ct_Row_barrels : Value} {sl_Row_barrels : Array (Option Value)} {p_Row_barrels : Addr} {r_Row_barrels : List Value} {t_RAIN : Tok} {t_UNKNOWN : Tok} {f_Daybook_has_unknown : Addr} {oc_Daybook_has_unknown : Value} {od_Daybook_has_unknown : Option Addr} {kV_Daybook_has_unknown : Value} {dc_Daybook_has_unknown : Value} {pm_Daybook_has_unknown : Value} {an_Daybook_has_unknown : Option Addr} {cd_Daybook_has_unknown : Value} {ct_Daybook_has_unknown : Value} {sl_Daybook_has_unknown : Array (Option Value)} {t_RAIN_DIGITS : Tok} {t_DIGITS : Tok} {f_is_figure : Addr} {oc_is_figure : Value} {od_is_figure : Option Addr} {kV_is_figure : Value} {dc_is_figure : Value} {pm_is_figure : Value} {an_is_figure : Option Addr} {cd_is_figure : Value} {ct_is_figure : Value} {sl_is_figure : Array (Option Value)} {t_MAX_RAIN : Tok} {t_LEVEL : Tok} {t_MAX_DIGITS : Tok} {f_Daybook_event_of : Addr} {oc_Daybook_event_of : Value} {od_Daybook_event_of : Option Addr} {kV_Daybook_event_of : Value} {dc_Daybook_event_of : Value} {pm_Daybook_event_of : Value} {an_Daybook_event_of : Option Addr} {cd_Daybook_event_of : Value} {ct_Daybook_event_of : Value} {sl_Daybook_event_of : Array (Option Value)} {f_next_tick : Addr} {oc_next_tick : Value} {od_next_tick : Option Addr} {kV_next_tick : Value} {dc_next_tick : Value} {pm_next_tick : Value} {an_next_tick : Option Addr} {cd_next_tick : Value} {ct_next_tick : Value} {sl_next_tick : Array (Option Value)} {f_Daybook_rained : Addr} {oc_Daybook_rained : Value} {od_Daybook_rained : Option Addr} {kV_Daybook_rained : Value} {dc_Daybook_rained : Value} {pm_Daybook_rained : Value} {an_Daybook_rained : Option Addr} {cd_Daybook_rained : Value} {ct_Daybook_rained : Value} {sl_Daybook_rained : Array (Option Value)} {f_Daybook_init : Addr} {oc_Daybook_init : Value} {od_Daybook_init : Option Addr} {kV_Daybook_init : Value} {dc_Daybook_init : Value} {pm_Daybook_init : Value} {an_Daybook_init : Option Addr} {cd_Daybook_init : Value} {ct_Daybook_init : Value} {sl_Daybook_init : Array (Option Value)} {tc_MAX_TICKS : Tok} {tc_MAX_BARRELS : Tok} {t_MAX_LETTERS : Tok} {t_LETTERS : Tok} {f_is_name : Addr} {oc_is_name : Value} {od_is_name : Option Addr} {kV_is_name : Value} {dc_is_name : Value} {pm_is_name : Value} {an_is_name : Option Addr} {cd_is_name : Value} {ct_is_name : Value} {sl_is_name : Array (Option Value)} {t_MAX_AMOUNT : Tok} {t_MAX_ROOF : Tok} {f_is_barrel : Addr} {oc_is_barrel : Value} {od_is_barrel : Option Addr} {kV_is_barrel : Value} {dc_is_barrel : Value} {pm_is_barrel : Value} {an_is_barrel : Option Addr} {cd_is_barrel : Value} {ct_is_barrel : Value} {sl_is_barrel : Array (Option Value)} {f_Row_init : Addr} {oc_Row_init : Value} {od_Row_init : Option Addr} {kV_Row_init : Value} {dc_Row_init : Value} {pm_Row_init : Value} {an_Row_init : Option Addr} {cd_Row_init : Value} {ct_Row_init : Value} {sl_Row_init : Array (Option Value)} {nm_x_OtherRain : Str} {q_x_OtherRain : Str} {N_x_OtherRain : Addr} {bs_x_OtherRain : List Value} {bm_x_OtherRain : List Value} {sn_x_OtherRain : List Str} {sub_x_OtherRain : List Value} {ab_x_OtherRain : Bool} {col_x_OtherRain : Option Bool} {dd_x_OtherRain : Option Addr} {m0_x_OtherRain : Option Value} {m1_x_OtherRain : Option Value} {m2_x_OtherRain : Option Value} {m3_x_OtherRain : Option Value} {m5_x_OtherRain : Option Value} {f_Row_add : Addr} {oc_Row_add : Value} {od_Row_add : Option Addr} {kV_Row_add : Value} {dc_Row_add : Value} {pm_Row_add : Value} {an_Row_add : Option Addr} {cd_Row_add : Value} {ct_Row_add : Value} {sl_Row_add : Array (Option Value)} {f_law_row : Addr} {oc_law_row : Value} {od_law_row : Option Addr} {kV_law_row : Value} {dc_law_row : Value} {pm_law_row : Value} {an_law_row : Option Addr} {cd_law_row : Value} {ct_law_row : Value} {sl_law_row : Array (Option Value)} {f_Daybook_tick_count : Addr} {oc_Daybook_tick_count : Value} {od_Daybook_tick_count : Option Addr} {kV_Daybook_tick_count : Value} {dc_Daybook_tick_count : Value} {pm_Daybook_tick_count : Value} {an_Daybook_tick_count : Option Addr} {cd_Daybook_tick_count : Value} {ct_Daybook_tick_count : Value} {sl_Daybook_tick_count : Array (Option Value)} {p_Daybook_tick_count : Addr} {r_Daybook_tick_count : List Value} {f_Daybook_line_count : Addr} {oc_Daybook_line_count : Value} {od_Daybook_line_count : Option Addr} {kV_Daybook_line_count : Value} {dc_Daybook_line_count : Value} {pm_Daybook_line_count : Value} {an_Daybook_line_count : Option Addr} {cd_Daybook_line_count : Value} {ct_Daybook_line_count : Value} {sl_Daybook_line_count : Array (Option Value)} {p_Daybook_line_count : Addr} {r_Daybook_line_count : List Value} {f_law_alike : Addr} {oc_law_alike : Value} {od_law_alike : Option Addr} {kV_law_alike : Value} {dc_law_alike : Value} {pm_law_alike : Value} {an_law_alike : Option Addr} {cd_law_alike : Value} {ct_law_alike : Value} {sl_law_alike : Array (Option Value)} {f_Daybook_signs_with : Addr} {oc_Daybook_signs_with : Value} {od_Daybook_signs_with : Option Addr} {kV_Daybook_signs_with : Value} {dc_Daybook_signs_with : Value} {pm_Daybook_signs_with : Value} {an_Daybook_signs_with : Option Addr} {cd_Daybook_signs_with : Value} {ct_Daybook_signs_with : Value} {sl_Daybook_signs_with : Array (Option Value)} {f_Daybook_first_with : Addr} {oc_Daybook_first_with : Value} {od_Daybook_first_with : Option Addr} {kV_Daybook_first_with : Value} {dc_Daybook_first_with : Value} {pm_Daybook_first_with : Value} {an_Daybook_first_with : Option Addr} {cd_Daybook_first_with : Value} {ct_Daybook_first_with : Value} {sl_Daybook_first_with : Array (Option Value)} {f_Daybook_unknown_range : Addr} {oc_Daybook_unknown_range : Value} {od_Daybook_unknown_range : Option Addr} {kV_Daybook_unknown_range : Value} {dc_Daybook_unknown_range : Value} {pm_Daybook_unknown_range : Value} {an_Daybook_unknown_range : Option Addr} {cd_Daybook_unknown_range : Value} {ct_Daybook_unknown_range : Value} {sl_Daybook_unknown_range : Array (Option Value)} {f_law_range_right : Addr} {oc_law_range_right : Value} {od_law_range_right : Option Addr} {kV_law_range_right : Value} {dc_law_range_right : Value} {pm_law_range_right : Value} {an_law_range_right : Option Addr} {cd_law_range_right : Value} {ct_law_range_right : Value} {sl_law_range_right : Array (Option Value)} {nm_x_InvalidNumber : Str} {q_x_InvalidNumber : Str} {N_x_InvalidNumber : Addr} {bs_x_InvalidNumber : List Value} {bm_x_InvalidNumber : List Value} {sn_x_InvalidNumber : List Str} {sub_x_InvalidNumber : List Value} {ab_x_InvalidNumber : Bool} {col_x_InvalidNumber : Option Bool} {dd_x_InvalidNumber : Option Addr} {m0_x_InvalidNumber : Option Value} {m1_x_InvalidNumber : Option Value} {m2_x_InvalidNumber : Option Value} {m3_x_InvalidNumber : Option Value} {m5_x_InvalidNumber : Option Value} {f_validate_number : Addr} {oc_validate_number : Value} {od_validate_number : Option Addr} {kV_validate_number : Value} {dc_validate_number : Value} {pm_validate_number : Value} {an_validate_number : Option Addr} {cd_validate_number : Value} {ct_validate_number : Value} {sl_validate_number : Array (Option Value)} {f_Daybook_levels_after : Addr} {oc_Daybook_levels_after : Value} {od_Daybook_levels_after : Option Addr} {kV_Daybook_levels_after : Value} {dc_Daybook_levels_after : Value} {pm_Daybook_levels_after : Value} {an_Daybook_levels_after : Option Addr} {cd_Daybook_levels_after : Value} {ct_Daybook_levels_after : Value} {sl_Daybook_levels_after : Array (Option Value)} {f_x_DaybookError : Addr} {oc_x_DaybookError : Value} {od_x_DaybookError : Option Addr} {kV_x_DaybookError : Value} {dc_x_DaybookError : Value} {pm_x_DaybookError : Value} {an_x_DaybookError : Option Addr} {cd_x_DaybookError : Value} {ct_x_DaybookError : Value} {sl_x_DaybookError : Array (Option Value)} {nm_x_DaybookError : Str} {q_x_DaybookError : Str} {N_x_DaybookError : Addr} {bs_x_DaybookError : List Value} {bm_x_DaybookError : List Value} {sn_x_DaybookError : List Str} {sub_x_DaybookError : List Value} {ab_x_DaybookError : Bool} {col_x_DaybookError : Option Bool} {dd_x_DaybookError : Option Addr} {m0_x_DaybookError : Option Value} {m1_x_DaybookError : Option Value} {m2_x_DaybookError : Option Value} {m3_x_DaybookError : Option Value} {m5_x_DaybookError : Option Value} {f_x_InvalidRow : Addr} {oc_x_InvalidRow : Value} {od_x_InvalidRow : Option Addr} {kV_x_InvalidRow : Value} {dc_x_InvalidRow : Value} {pm_x_InvalidRow : Value} {an_x_InvalidRow : Option Addr} {cd_x_InvalidRow : Value} {ct_x_InvalidRow : Value} {sl_x_InvalidRow : Array (Option Value)} {nm_x_InvalidRow : Str} {q_x_InvalidRow : Str} {N_x_InvalidRow : Addr} {bs_x_InvalidRow : List Value} {bm_x_InvalidRow : List Value} {sn_x_InvalidRow : List Str} {sub_x_InvalidRow : List Value} {ab_x_InvalidRow : Bool} {col_x_InvalidRow : Option Bool} {dd_x_InvalidRow : Option Addr} {m0_x_InvalidRow : Option Value} {m1_x_InvalidRow : Option Value} {m2_x_InvalidRow : Option Value} {m3_x_InvalidRow : Option Value} {m5_x_InvalidRow : Option Value}
    (X : K.In h) (G : h.Ns mainGlobals mg)
    (z_list : PySem.W.nsIn K mainGlobals "list" = some none)
    (z_range : PySem.W.nsIn K mainGlobals "range" = some none)
    (z_len : PySem.W.nsIn K mainGlobals "len" = some none)
    (z_max : PySem.W.nsIn K mainGlobals "max" = some none)
    (z_int : PySem.W.nsIn K mainGlobals "int" = some none)
    (z_tuple : PySem.W.nsIn K mainGlobals "tuple" = some none)
    (z_str : PySem.W.nsIn K mainGlobals "str" = some none)
    (z_isinstance : PySem.W.nsIn K mainGlobals "isinstance" = some none)
    (z_ValueError : PySem.W.nsIn K mainGlobals "ValueError" = some none)
    (z_Contradiction : PySem.W.nsIn K mainGlobals "Contradiction" = some none)
    (z_enumerate : PySem.W.nsIn K mainGlobals "enumerate" = some none)
    (v_MAX_LINES : PySem.W.nsIn K mainGlobals "MAX_LINES" = some (some (.int 300 t_MAX_LINES)))
    (v_RAIN : PySem.W.nsIn K mainGlobals "RAIN" = some (some (.str "rain" t_RAIN)))
    (v_UNKNOWN : PySem.W.nsIn K mainGlobals "UNKNOWN" = some (some (.str "?" t_UNKNOWN)))
    (v_RAIN_DIGITS : PySem.W.nsIn K mainGlobals "RAIN_DIGITS" = some (some (.int 7 t_RAIN_DIGITS)))
    (v_DIGITS : PySem.W.nsIn K mainGlobals "DIGITS" = some (some (.str "0123456789" t_DIGITS)))
    (v_MAX_RAIN : PySem.W.nsIn K mainGlobals "MAX_RAIN" = some (some (.int 1000000 t_MAX_RAIN)))
    (v_LEVEL : PySem.W.nsIn K mainGlobals "LEVEL" = some (some (.str "level" t_LEVEL)))
    (v_MAX_DIGITS : PySem.W.nsIn K mainGlobals "MAX_DIGITS" = some (some (.int 10 t_MAX_DIGITS)))
    (z_zip : PySem.W.nsIn K mainGlobals "zip" = some none)
    (z_min : PySem.W.nsIn K mainGlobals "min" = some none)
    (v_MAX_LETTERS : PySem.W.nsIn K mainGlobals "MAX_LETTERS" = some (some (.int 8 t_MAX_LETTERS)))
    (v_LETTERS : PySem.W.nsIn K mainGlobals "LETTERS" = some (some (.str "abcdefghijklmnopqrstuvwxyz" t_LETTERS)))
    (z_all : PySem.W.nsIn K mainGlobals "all" = some none)
    (v_MAX_AMOUNT : PySem.W.nsIn K mainGlobals "MAX_AMOUNT" = some (some (.int 1000000000 t_MAX_AMOUNT)))
    (v_MAX_ROOF : PySem.W.nsIn K mainGlobals "MAX_ROOF" = some (some (.int 100 t_MAX_ROOF)))
    (z_dict : PySem.W.nsIn K mainGlobals "dict" = some none)
    (z_bool : PySem.W.nsIn K mainGlobals "bool" = some none)
    (a_law_mix : PySem.W.nsIn K mainGlobals "_law_mix" = some (some (.ref f_law_mix)))
    (a_law_next : PySem.W.nsIn K mainGlobals "_law_next" = some (some (.ref f_law_next)))
    (a_law_parts : PySem.W.nsIn K mainGlobals "_law_parts" = some (some (.ref f_law_parts)))
    (a_law_tick : PySem.W.nsIn K mainGlobals "_law_tick" = some (some (.ref f_law_tick)))
    (a_law_run : PySem.W.nsIn K mainGlobals "_law_run" = some (some (.ref f_law_run)))
    (a_law_text : PySem.W.nsIn K mainGlobals "_law_text" = some (some (.ref f_law_text)))
    (a_law_event : PySem.W.nsIn K mainGlobals "_law_event" = some (some (.ref f_law_event)))
    (a_law_due : PySem.W.nsIn K mainGlobals "_law_due" = some (some (.ref f_law_due)))
    (a_InvalidNumber : PySem.W.nsIn K mainGlobals "InvalidNumber" = some (some (.ref C_InvalidNumber)))
    (a_DecodeError : PySem.W.nsIn K mainGlobals "DecodeError" = some (some (.ref C_DecodeError)))
    (a_DaybookError : PySem.W.nsIn K mainGlobals "DaybookError" = some (some (.ref C_DaybookError)))
    (a_InvalidText : PySem.W.nsIn K mainGlobals "InvalidText" = some (some (.ref C_InvalidText)))
    (a_InvalidRow : PySem.W.nsIn K mainGlobals "InvalidRow" = some (some (.ref C_InvalidRow)))
    (a_InvalidOperation : PySem.W.nsIn K mainGlobals "InvalidOperation" = some (some (.ref C_InvalidOperation)))
    (a_UnknownBarrel : PySem.W.nsIn K mainGlobals "UnknownBarrel" = some (some (.ref C_UnknownBarrel)))
    (a_InvalidWeather : PySem.W.nsIn K mainGlobals "InvalidWeather" = some (some (.ref C_InvalidWeather)))
    (a_law_outcome : PySem.W.nsIn K mainGlobals "_law_outcome" = some (some (.ref f_law_outcome)))
    (a_RowError : PySem.W.nsIn K mainGlobals "RowError" = some (some (.ref C_RowError)))
    (a_OtherRain : PySem.W.nsIn K mainGlobals "OtherRain" = some (some (.ref C_OtherRain)))
    (a_Daybook : PySem.W.nsIn K mainGlobals "Daybook" = some (some (.ref C_Daybook)))
    (a_Row : PySem.W.nsIn K mainGlobals "Row" = some (some (.ref C_Row)))
    (a_is_figure : PySem.W.nsIn K mainGlobals "is_figure" = some (some (.ref f_is_figure)))
    (a_next_tick : PySem.W.nsIn K mainGlobals "next_tick" = some (some (.ref f_next_tick)))
    (a_is_name : PySem.W.nsIn K mainGlobals "is_name" = some (some (.ref f_is_name)))
    (a_is_barrel : PySem.W.nsIn K mainGlobals "is_barrel" = some (some (.ref f_is_barrel)))
    (a_law_row : PySem.W.nsIn K mainGlobals "_law_row" = some (some (.ref f_law_row)))
    (a_law_alike : PySem.W.nsIn K mainGlobals "_law_alike" = some (some (.ref f_law_alike)))
    (a_law_range_right : PySem.W.nsIn K mainGlobals "_law_range_right" = some (some (.ref f_law_range_right)))
    (a_validate_number : PySem.W.nsIn K mainGlobals "validate_number" = some (some (.ref f_validate_number)))
    (at_Row_len : PySem.W.findIn K (.ref C_Row) "__len__" = some (some (.ref f_Row_len)))
    (at_Row_barrels : PySem.W.findIn K (.ref C_Row) "barrels" = some (some (.ref p_Row_barrels)))
    (at_Daybook_has_unknown : PySem.W.findIn K (.ref C_Daybook) "has_unknown" = some (some (.ref f_Daybook_has_unknown)))
    (at_Daybook_event_of : PySem.W.findIn K (.ref C_Daybook) "event_of" = some (some (.ref f_Daybook_event_of)))
    (at_Daybook_rained : PySem.W.findIn K (.ref C_Daybook) "rained" = some (some (.ref f_Daybook_rained)))
    (ii_Daybook : PySem.W.findIn K (.ref C_Daybook) "__init__" = some (some (.ref f_Daybook_init)))
    (ii_Row : PySem.W.findIn K (.ref C_Row) "__init__" = some (some (.ref f_Row_init)))
    (at_Row_add : PySem.W.findIn K (.ref C_Row) "__add__" = some (some (.ref f_Row_add)))
    (at_Daybook_tick_count : PySem.W.findIn K (.ref C_Daybook) "tick_count" = some (some (.ref p_Daybook_tick_count)))
    (at_Daybook_line_count : PySem.W.findIn K (.ref C_Daybook) "line_count" = some (some (.ref p_Daybook_line_count)))
    (at_Daybook_signs_with : PySem.W.findIn K (.ref C_Daybook) "signs_with" = some (some (.ref f_Daybook_signs_with)))
    (at_Daybook_first_with : PySem.W.findIn K (.ref C_Daybook) "first_with" = some (some (.ref f_Daybook_first_with)))
    (at_Daybook_unknown_range : PySem.W.findIn K (.ref C_Daybook) "unknown_range" = some (some (.ref f_Daybook_unknown_range)))
    (at_Daybook_levels_after : PySem.W.findIn K (.ref C_Daybook) "levels_after" = some (some (.ref f_Daybook_levels_after)))
    (ii_DaybookError : PySem.W.findIn K (.ref C_DaybookError) "__init__" = some (some (.ref f_x_DaybookError)))
    (ii_InvalidRow : PySem.W.findIn K (.ref C_InvalidRow) "__init__" = some (some (.ref f_x_InvalidRow)))
    (gt_Row_barrels : PySem.W.specialIn K (.ref p_Row_barrels) "__get__" = some (some (.builtin "property.__get__")))
    (tk_Row_barrels : PySem.W.takesIn K (.ref p_Row_barrels) = some true)
    (rc_Row_barrels : PySem.W.recIn K p_Row_barrels "property" = some (.ref f_Row_barrels :: r_Row_barrels))
    (gt_Daybook_tick_count : PySem.W.specialIn K (.ref p_Daybook_tick_count) "__get__" = some (some (.builtin "property.__get__")))
    (tk_Daybook_tick_count : PySem.W.takesIn K (.ref p_Daybook_tick_count) = some true)
    (rc_Daybook_tick_count : PySem.W.recIn K p_Daybook_tick_count "property" = some (.ref f_Daybook_tick_count :: r_Daybook_tick_count))
    (gt_Daybook_line_count : PySem.W.specialIn K (.ref p_Daybook_line_count) "__get__" = some (some (.builtin "property.__get__")))
    (tk_Daybook_line_count : PySem.W.takesIn K (.ref p_Daybook_line_count) = some true)
    (rc_Daybook_line_count : PySem.W.recIn K p_Daybook_line_count "property" = some (.ref f_Daybook_line_count :: r_Daybook_line_count))
    (l_law_mix : K.lookup f_law_mix = some ⟨oc_law_mix, od_law_mix, .func (PySem.W.fnOf "_law_mix" "_law_mix" (defArgs s_law_mix) (defBody s_law_mix) (defScope s_law_mix) .none kV_law_mix dc_law_mix pm_law_mix an_law_mix cd_law_mix ct_law_mix), sl_law_mix⟩)
    (l_law_next : K.lookup f_law_next = some ⟨oc_law_next, od_law_next, .func (PySem.W.fnOf "_law_next" "_law_next" (defArgs s_law_next) (defBody s_law_next) (defScope s_law_next) .none kV_law_next dc_law_next pm_law_next an_law_next cd_law_next ct_law_next), sl_law_next⟩)
    (l_law_parts : K.lookup f_law_parts = some ⟨oc_law_parts, od_law_parts, .func (PySem.W.fnOf "_law_parts" "_law_parts" (defArgs s_law_parts) (defBody s_law_parts) (defScope s_law_parts) .none kV_law_parts dc_law_parts pm_law_parts an_law_parts cd_law_parts ct_law_parts), sl_law_parts⟩)
    (l_law_tick : K.lookup f_law_tick = some ⟨oc_law_tick, od_law_tick, .func (PySem.W.fnOf "_law_tick" "_law_tick" (defArgs s_law_tick) (defBody s_law_tick) (defScope s_law_tick) .none kV_law_tick dc_law_tick pm_law_tick an_law_tick cd_law_tick ct_law_tick), sl_law_tick⟩)
    (l_law_run : K.lookup f_law_run = some ⟨oc_law_run, od_law_run, .func (PySem.W.fnOf "_law_run" "_law_run" (defArgs s_law_run) (defBody s_law_run) (defScope s_law_run) .none kV_law_run dc_law_run pm_law_run an_law_run cd_law_run ct_law_run), sl_law_run⟩)
    (l_law_text : K.lookup f_law_text = some ⟨oc_law_text, od_law_text, .func (PySem.W.fnOf "_law_text" "_law_text" (defArgs s_law_text) (defBody s_law_text) (defScope s_law_text) .none kV_law_text dc_law_text pm_law_text an_law_text cd_law_text ct_law_text), sl_law_text⟩)
    (l_law_event : K.lookup f_law_event = some ⟨oc_law_event, od_law_event, .func (PySem.W.fnOf "_law_event" "_law_event" (defArgs s_law_event) (defBody s_law_event) (defScope s_law_event) .none kV_law_event dc_law_event pm_law_event an_law_event cd_law_event ct_law_event), sl_law_event⟩)
    (l_law_due : K.lookup f_law_due = some ⟨oc_law_due, od_law_due, .func (PySem.W.fnOf "_law_due" "_law_due" (defArgs s_law_due) (defBody s_law_due) (defScope s_law_due) .none kV_law_due dc_law_due pm_law_due an_law_due cd_law_due ct_law_due), sl_law_due⟩)
    (l_law_outcome : K.lookup f_law_outcome = some ⟨oc_law_outcome, od_law_outcome, .func (PySem.W.fnOf "_law_outcome" "_law_outcome" (defArgs s_law_outcome) (defBody s_law_outcome) (defScope s_law_outcome) .none kV_law_outcome dc_law_outcome pm_law_outcome an_law_outcome cd_law_outcome ct_law_outcome), sl_law_outcome⟩)
    (l_Row_len : K.lookup f_Row_len = some ⟨oc_Row_len, od_Row_len, .func (PySem.W.fnOf "__len__" "Row.__len__" (defArgs s_Row_len) (defBody s_Row_len) (defScope s_Row_len) .none kV_Row_len dc_Row_len pm_Row_len an_Row_len cd_Row_len ct_Row_len), sl_Row_len⟩)
    (l_Row_barrels : K.lookup f_Row_barrels = some ⟨oc_Row_barrels, od_Row_barrels, .func (PySem.W.fnOf "barrels" "Row.barrels" (defArgs s_Row_barrels) (defBody s_Row_barrels) (defScope s_Row_barrels) .none kV_Row_barrels dc_Row_barrels pm_Row_barrels an_Row_barrels cd_Row_barrels ct_Row_barrels), sl_Row_barrels⟩)
    (l_Daybook_has_unknown : K.lookup f_Daybook_has_unknown = some ⟨oc_Daybook_has_unknown, od_Daybook_has_unknown, .func (PySem.W.fnOf "has_unknown" "Daybook.has_unknown" (defArgs s_Daybook_has_unknown) (defBody s_Daybook_has_unknown) (defScope s_Daybook_has_unknown) .none kV_Daybook_has_unknown dc_Daybook_has_unknown pm_Daybook_has_unknown an_Daybook_has_unknown cd_Daybook_has_unknown ct_Daybook_has_unknown), sl_Daybook_has_unknown⟩)
    (l_is_figure : K.lookup f_is_figure = some ⟨oc_is_figure, od_is_figure, .func (PySem.W.fnOf "is_figure" "is_figure" (defArgs s_is_figure) (defBody s_is_figure) (defScope s_is_figure) .none kV_is_figure dc_is_figure pm_is_figure an_is_figure cd_is_figure ct_is_figure), sl_is_figure⟩)
    (l_Daybook_event_of : K.lookup f_Daybook_event_of = some ⟨oc_Daybook_event_of, od_Daybook_event_of, .func (PySem.W.fnOf "event_of" "Daybook.event_of" (defArgs s_Daybook_event_of) (defBody s_Daybook_event_of) (defScope s_Daybook_event_of) .none kV_Daybook_event_of dc_Daybook_event_of pm_Daybook_event_of an_Daybook_event_of cd_Daybook_event_of ct_Daybook_event_of), sl_Daybook_event_of⟩)
    (l_next_tick : K.lookup f_next_tick = some ⟨oc_next_tick, od_next_tick, .func (PySem.W.fnOf "next_tick" "next_tick" (defArgs s_next_tick) (defBody s_next_tick) (defScope s_next_tick) .none kV_next_tick dc_next_tick pm_next_tick an_next_tick cd_next_tick ct_next_tick), sl_next_tick⟩)
    (l_Daybook_rained : K.lookup f_Daybook_rained = some ⟨oc_Daybook_rained, od_Daybook_rained, .func (PySem.W.fnOf "rained" "Daybook.rained" (defArgs s_Daybook_rained) (defBody s_Daybook_rained) (defScope s_Daybook_rained) .none kV_Daybook_rained dc_Daybook_rained pm_Daybook_rained an_Daybook_rained cd_Daybook_rained ct_Daybook_rained), sl_Daybook_rained⟩)
    (l_Daybook_init : K.lookup f_Daybook_init = some ⟨oc_Daybook_init, od_Daybook_init, .func (PySem.W.fnOf "__init__" "Daybook.__init__" (defArgs s_Daybook_init) (defBody s_Daybook_init) (defScope s_Daybook_init) .none kV_Daybook_init dc_Daybook_init pm_Daybook_init an_Daybook_init cd_Daybook_init ct_Daybook_init), sl_Daybook_init⟩)
    (l_is_name : K.lookup f_is_name = some ⟨oc_is_name, od_is_name, .func (PySem.W.fnOf "is_name" "is_name" (defArgs s_is_name) (defBody s_is_name) (defScope s_is_name) .none kV_is_name dc_is_name pm_is_name an_is_name cd_is_name ct_is_name), sl_is_name⟩)
    (l_is_barrel : K.lookup f_is_barrel = some ⟨oc_is_barrel, od_is_barrel, .func (PySem.W.fnOf "is_barrel" "is_barrel" (defArgs s_is_barrel) (defBody s_is_barrel) (defScope s_is_barrel) .none kV_is_barrel dc_is_barrel pm_is_barrel an_is_barrel cd_is_barrel ct_is_barrel), sl_is_barrel⟩)
    (l_Row_init : K.lookup f_Row_init = some ⟨oc_Row_init, od_Row_init, .func (PySem.W.fnOf "__init__" "Row.__init__" (defArgs s_Row_init) (defBody s_Row_init) (defScope s_Row_init) .none kV_Row_init dc_Row_init pm_Row_init an_Row_init cd_Row_init ct_Row_init), sl_Row_init⟩)
    (l_Row_add : K.lookup f_Row_add = some ⟨oc_Row_add, od_Row_add, .func (PySem.W.fnOf "__add__" "Row.__add__" (defArgs s_Row_add) (defBody s_Row_add) (defScope s_Row_add) .none kV_Row_add dc_Row_add pm_Row_add an_Row_add cd_Row_add ct_Row_add), sl_Row_add⟩)
    (l_law_row : K.lookup f_law_row = some ⟨oc_law_row, od_law_row, .func (PySem.W.fnOf "_law_row" "_law_row" (defArgs s_law_row) (defBody s_law_row) (defScope s_law_row) .none kV_law_row dc_law_row pm_law_row an_law_row cd_law_row ct_law_row), sl_law_row⟩)
    (l_Daybook_tick_count : K.lookup f_Daybook_tick_count = some ⟨oc_Daybook_tick_count, od_Daybook_tick_count, .func (PySem.W.fnOf "tick_count" "Daybook.tick_count" (defArgs s_Daybook_tick_count) (defBody s_Daybook_tick_count) (defScope s_Daybook_tick_count) .none kV_Daybook_tick_count dc_Daybook_tick_count pm_Daybook_tick_count an_Daybook_tick_count cd_Daybook_tick_count ct_Daybook_tick_count), sl_Daybook_tick_count⟩)
    (l_Daybook_line_count : K.lookup f_Daybook_line_count = some ⟨oc_Daybook_line_count, od_Daybook_line_count, .func (PySem.W.fnOf "line_count" "Daybook.line_count" (defArgs s_Daybook_line_count) (defBody s_Daybook_line_count) (defScope s_Daybook_line_count) .none kV_Daybook_line_count dc_Daybook_line_count pm_Daybook_line_count an_Daybook_line_count cd_Daybook_line_count ct_Daybook_line_count), sl_Daybook_line_count⟩)
    (l_law_alike : K.lookup f_law_alike = some ⟨oc_law_alike, od_law_alike, .func (PySem.W.fnOf "_law_alike" "_law_alike" (defArgs s_law_alike) (defBody s_law_alike) (defScope s_law_alike) .none kV_law_alike dc_law_alike pm_law_alike an_law_alike cd_law_alike ct_law_alike), sl_law_alike⟩)
    (l_Daybook_signs_with : K.lookup f_Daybook_signs_with = some ⟨oc_Daybook_signs_with, od_Daybook_signs_with, .func (PySem.W.fnOf "signs_with" "Daybook.signs_with" (defArgs s_Daybook_signs_with) (defBody s_Daybook_signs_with) (defScope s_Daybook_signs_with) .none kV_Daybook_signs_with dc_Daybook_signs_with pm_Daybook_signs_with an_Daybook_signs_with cd_Daybook_signs_with ct_Daybook_signs_with), sl_Daybook_signs_with⟩)
    (l_Daybook_first_with : K.lookup f_Daybook_first_with = some ⟨oc_Daybook_first_with, od_Daybook_first_with, .func (PySem.W.fnOf "first_with" "Daybook.first_with" (defArgs s_Daybook_first_with) (defBody s_Daybook_first_with) (defScope s_Daybook_first_with) .none kV_Daybook_first_with dc_Daybook_first_with pm_Daybook_first_with an_Daybook_first_with cd_Daybook_first_with ct_Daybook_first_with), sl_Daybook_first_with⟩)
    (l_Daybook_unknown_range : K.lookup f_Daybook_unknown_range = some ⟨oc_Daybook_unknown_range, od_Daybook_unknown_range, .func (PySem.W.fnOf "unknown_range" "Daybook.unknown_range" (defArgs s_Daybook_unknown_range) (defBody s_Daybook_unknown_range) (defScope s_Daybook_unknown_range) .none kV_Daybook_unknown_range dc_Daybook_unknown_range pm_Daybook_unknown_range an_Daybook_unknown_range cd_Daybook_unknown_range ct_Daybook_unknown_range), sl_Daybook_unknown_range⟩)
    (l_law_range_right : K.lookup f_law_range_right = some ⟨oc_law_range_right, od_law_range_right, .func (PySem.W.fnOf "_law_range_right" "_law_range_right" (defArgs s_law_range_right) (defBody s_law_range_right) (defScope s_law_range_right) .none kV_law_range_right dc_law_range_right pm_law_range_right an_law_range_right cd_law_range_right ct_law_range_right), sl_law_range_right⟩)
    (l_validate_number : K.lookup f_validate_number = some ⟨oc_validate_number, od_validate_number, .func (PySem.W.fnOf "validate_number" "validate_number" (defArgs s_validate_number) (defBody s_validate_number) (defScope s_validate_number) .none kV_validate_number dc_validate_number pm_validate_number an_validate_number cd_validate_number ct_validate_number), sl_validate_number⟩)
    (l_Daybook_levels_after : K.lookup f_Daybook_levels_after = some ⟨oc_Daybook_levels_after, od_Daybook_levels_after, .func (PySem.W.fnOf "levels_after" "Daybook.levels_after" (defArgs s_Daybook_levels_after) (defBody s_Daybook_levels_after) (defScope s_Daybook_levels_after) .none kV_Daybook_levels_after dc_Daybook_levels_after pm_Daybook_levels_after an_Daybook_levels_after cd_Daybook_levels_after ct_Daybook_levels_after), sl_Daybook_levels_after⟩)
    (l_x_DaybookError : K.lookup f_x_DaybookError = some ⟨oc_x_DaybookError, od_x_DaybookError, .func (PySem.W.fnOf "__init__" "DaybookError.__init__" (defArgs s_x_DaybookError) (defBody s_x_DaybookError) (defScope s_x_DaybookError) .none kV_x_DaybookError dc_x_DaybookError pm_x_DaybookError an_x_DaybookError cd_x_DaybookError ct_x_DaybookError), sl_x_DaybookError⟩)
    (l_x_InvalidRow : K.lookup f_x_InvalidRow = some ⟨oc_x_InvalidRow, od_x_InvalidRow, .func (PySem.W.fnOf "__init__" "InvalidRow.__init__" (defArgs s_x_InvalidRow) (defBody s_x_InvalidRow) (defScope s_x_InvalidRow) .none kV_x_InvalidRow dc_x_InvalidRow pm_x_InvalidRow an_x_InvalidRow cd_x_InvalidRow ct_x_InvalidRow), sl_x_InvalidRow⟩)
    (xL_x_OtherRain : K.lookup C_OtherRain = some (excClassObj nm_x_OtherRain q_x_OtherRain C_OtherRain N_x_OtherRain bs_x_OtherRain bm_x_OtherRain true sn_x_OtherRain sub_x_OtherRain ab_x_OtherRain col_x_OtherRain dd_x_OtherRain m0_x_OtherRain m1_x_OtherRain m2_x_OtherRain m3_x_OtherRain m5_x_OtherRain "ValueError.__new__"))
    (xL_x_InvalidNumber : K.lookup C_InvalidNumber = some (excClassObj nm_x_InvalidNumber q_x_InvalidNumber C_InvalidNumber N_x_InvalidNumber bs_x_InvalidNumber bm_x_InvalidNumber true sn_x_InvalidNumber sub_x_InvalidNumber ab_x_InvalidNumber col_x_InvalidNumber dd_x_InvalidNumber m0_x_InvalidNumber m1_x_InvalidNumber m2_x_InvalidNumber m3_x_InvalidNumber m5_x_InvalidNumber "ValueError.__new__"))
    (xL_x_DaybookError : K.lookup C_DaybookError = some (excClassObj nm_x_DaybookError q_x_DaybookError C_DaybookError N_x_DaybookError bs_x_DaybookError bm_x_DaybookError true sn_x_DaybookError sub_x_DaybookError ab_x_DaybookError col_x_DaybookError dd_x_DaybookError m0_x_DaybookError m1_x_DaybookError m2_x_DaybookError m3_x_DaybookError m5_x_DaybookError "ValueError.__new__"))
    (xL_x_InvalidRow : K.lookup C_InvalidRow = some (excClassObj nm_x_InvalidRow q_x_InvalidRow C_InvalidRow N_x_InvalidRow bs_x_InvalidRow bm_x_InvalidRow true sn_x_InvalidRow sub_x_InvalidRow ab_x_InvalidRow col_x_InvalidRow dd_x_InvalidRow m0_x_InvalidRow m1_x_InvalidRow m2_x_InvalidRow m3_x_InvalidRow m5_x_InvalidRow "ValueError.__new__"))
    (c_law_mix : PySem.W.codeIn K cd_law_mix "_law_mix" = true)
    (k_law_mix : PySem.W.keepIn K (.ref f_law_mix) = true)
    (c_law_next : PySem.W.codeIn K cd_law_next "_law_next" = true)
    (k_law_next : PySem.W.keepIn K (.ref f_law_next) = true)
    (c_law_parts : PySem.W.codeIn K cd_law_parts "_law_parts" = true)
    (k_law_parts : PySem.W.keepIn K (.ref f_law_parts) = true)
    (c_law_tick : PySem.W.codeIn K cd_law_tick "_law_tick" = true)
    (k_law_tick : PySem.W.keepIn K (.ref f_law_tick) = true)
    (c_law_run : PySem.W.codeIn K cd_law_run "_law_run" = true)
    (k_law_run : PySem.W.keepIn K (.ref f_law_run) = true)
    (c_law_text : PySem.W.codeIn K cd_law_text "_law_text" = true)
    (k_law_text : PySem.W.keepIn K (.ref f_law_text) = true)
    (c_law_event : PySem.W.codeIn K cd_law_event "_law_event" = true)
    (k_law_event : PySem.W.keepIn K (.ref f_law_event) = true)
    (c_law_due : PySem.W.codeIn K cd_law_due "_law_due" = true)
    (k_law_due : PySem.W.keepIn K (.ref f_law_due) = true)
    (c_law_outcome : PySem.W.codeIn K cd_law_outcome "_law_outcome" = true)
    (k_law_outcome : PySem.W.keepIn K (.ref f_law_outcome) = true)
    (bx_RowError : PySem.W.subIn K (.ref C_RowError) (.type "BaseException") = some true)
    (hd_RowError : PySem.W.hasDictIn K C_RowError = true)
    (tx_RowError : PySem.W.typeIn K (.ref C_RowError) = some (.type "type"))
    (oc_get : PySem.W.specialIn K (.builtin "object.__class__") "__get__" = some (some (.builtin "getset_descriptor.__get__")))
    (oc_tak : PySem.W.takesIn K (.builtin "object.__class__") = some true)
    (hg_InvalidRow : PySem.W.findIn K (.ref C_InvalidRow) "__getattribute__" = some (some (.builtin "BaseException.__getattribute__")))
    (hk_InvalidRow : PySem.W.findIn K (.ref C_InvalidRow) "__getattr__" = some none)
    (bx_InvalidRow : PySem.W.subIn K (.ref C_InvalidRow) (.type "BaseException") = some true)
    (hd_InvalidRow : PySem.W.hasDictIn K C_InvalidRow = true)
    (ha_InvalidRow : PySem.W.findIn K (.ref C_InvalidRow) "__class__" = some (some (.builtin "object.__class__")))
    (hm_InvalidRow : PySem.W.mroIn K C_InvalidRow (.type "object") = some true)
    (no_InvalidRow_part : PySem.W.findIn K (.ref C_InvalidRow) "part" = some none)
    (no_InvalidRow_index : PySem.W.findIn K (.ref C_InvalidRow) "index" = some none)
    (no_InvalidRow_name : PySem.W.findIn K (.ref C_InvalidRow) "name" = some none)
    (no_InvalidRow_line : PySem.W.findIn K (.ref C_InvalidRow) "line" = some none)
    (no_InvalidRow_offset : PySem.W.findIn K (.ref C_InvalidRow) "offset" = some none)
    (ko_InvalidRow_InvalidRow : PySem.W.kitOne K (.ref C_InvalidRow) (.ref C_InvalidRow) = some true)
    (ko_InvalidRow_UnknownBarrel : PySem.W.kitOne K (.ref C_InvalidRow) (.ref C_UnknownBarrel) = some false)
    (ko_InvalidRow_InvalidNumber : PySem.W.kitOne K (.ref C_InvalidRow) (.ref C_InvalidNumber) = some false)
    (ko_InvalidRow_InvalidWeather : PySem.W.kitOne K (.ref C_InvalidRow) (.ref C_InvalidWeather) = some false)
    (ko_InvalidRow_InvalidOperation : PySem.W.kitOne K (.ref C_InvalidRow) (.ref C_InvalidOperation) = some false)
    (ko_InvalidRow_InvalidText : PySem.W.kitOne K (.ref C_InvalidRow) (.ref C_InvalidText) = some false)
    (ko_InvalidRow_DaybookError : PySem.W.kitOne K (.ref C_InvalidRow) (.ref C_DaybookError) = some false)
    (ko_InvalidRow_DecodeError : PySem.W.kitOne K (.ref C_InvalidRow) (.ref C_DecodeError) = some false)
    (kv_InvalidRow : PySem.W.kitOne K (.ref C_InvalidRow) (.type "ValueError") = some true)
    (sr_InvalidRow : PySem.W.subIn K (.ref C_InvalidRow) (.ref C_RowError) = some true)
    (hg_UnknownBarrel : PySem.W.findIn K (.ref C_UnknownBarrel) "__getattribute__" = some (some (.builtin "BaseException.__getattribute__")))
    (hk_UnknownBarrel : PySem.W.findIn K (.ref C_UnknownBarrel) "__getattr__" = some none)
    (bx_UnknownBarrel : PySem.W.subIn K (.ref C_UnknownBarrel) (.type "BaseException") = some true)
    (hd_UnknownBarrel : PySem.W.hasDictIn K C_UnknownBarrel = true)
    (ha_UnknownBarrel : PySem.W.findIn K (.ref C_UnknownBarrel) "__class__" = some (some (.builtin "object.__class__")))
    (hm_UnknownBarrel : PySem.W.mroIn K C_UnknownBarrel (.type "object") = some true)
    (no_UnknownBarrel_part : PySem.W.findIn K (.ref C_UnknownBarrel) "part" = some none)
    (no_UnknownBarrel_index : PySem.W.findIn K (.ref C_UnknownBarrel) "index" = some none)
    (no_UnknownBarrel_name : PySem.W.findIn K (.ref C_UnknownBarrel) "name" = some none)
    (no_UnknownBarrel_line : PySem.W.findIn K (.ref C_UnknownBarrel) "line" = some none)
    (no_UnknownBarrel_offset : PySem.W.findIn K (.ref C_UnknownBarrel) "offset" = some none)
    (ko_UnknownBarrel_InvalidRow : PySem.W.kitOne K (.ref C_UnknownBarrel) (.ref C_InvalidRow) = some false)
    (ko_UnknownBarrel_UnknownBarrel : PySem.W.kitOne K (.ref C_UnknownBarrel) (.ref C_UnknownBarrel) = some true)
    (ko_UnknownBarrel_InvalidNumber : PySem.W.kitOne K (.ref C_UnknownBarrel) (.ref C_InvalidNumber) = some false)
    (ko_UnknownBarrel_InvalidWeather : PySem.W.kitOne K (.ref C_UnknownBarrel) (.ref C_InvalidWeather) = some false)
    (ko_UnknownBarrel_InvalidOperation : PySem.W.kitOne K (.ref C_UnknownBarrel) (.ref C_InvalidOperation) = some false)
    (ko_UnknownBarrel_InvalidText : PySem.W.kitOne K (.ref C_UnknownBarrel) (.ref C_InvalidText) = some false)
    (ko_UnknownBarrel_DaybookError : PySem.W.kitOne K (.ref C_UnknownBarrel) (.ref C_DaybookError) = some false)
    (ko_UnknownBarrel_DecodeError : PySem.W.kitOne K (.ref C_UnknownBarrel) (.ref C_DecodeError) = some false)
    (kv_UnknownBarrel : PySem.W.kitOne K (.ref C_UnknownBarrel) (.type "ValueError") = some true)
    (sr_UnknownBarrel : PySem.W.subIn K (.ref C_UnknownBarrel) (.ref C_RowError) = some true)
    (hg_OtherRain : PySem.W.findIn K (.ref C_OtherRain) "__getattribute__" = some (some (.builtin "BaseException.__getattribute__")))
    (hk_OtherRain : PySem.W.findIn K (.ref C_OtherRain) "__getattr__" = some none)
    (bx_OtherRain : PySem.W.subIn K (.ref C_OtherRain) (.type "BaseException") = some true)
    (hd_OtherRain : PySem.W.hasDictIn K C_OtherRain = true)
    (ha_OtherRain : PySem.W.findIn K (.ref C_OtherRain) "__class__" = some (some (.builtin "object.__class__")))
    (hm_OtherRain : PySem.W.mroIn K C_OtherRain (.type "object") = some true)
    (no_OtherRain_part : PySem.W.findIn K (.ref C_OtherRain) "part" = some none)
    (no_OtherRain_index : PySem.W.findIn K (.ref C_OtherRain) "index" = some none)
    (no_OtherRain_name : PySem.W.findIn K (.ref C_OtherRain) "name" = some none)
    (no_OtherRain_line : PySem.W.findIn K (.ref C_OtherRain) "line" = some none)
    (no_OtherRain_offset : PySem.W.findIn K (.ref C_OtherRain) "offset" = some none)
    (ko_OtherRain_InvalidRow : PySem.W.kitOne K (.ref C_OtherRain) (.ref C_InvalidRow) = some false)
    (ko_OtherRain_UnknownBarrel : PySem.W.kitOne K (.ref C_OtherRain) (.ref C_UnknownBarrel) = some false)
    (ko_OtherRain_InvalidNumber : PySem.W.kitOne K (.ref C_OtherRain) (.ref C_InvalidNumber) = some false)
    (ko_OtherRain_InvalidWeather : PySem.W.kitOne K (.ref C_OtherRain) (.ref C_InvalidWeather) = some false)
    (ko_OtherRain_InvalidOperation : PySem.W.kitOne K (.ref C_OtherRain) (.ref C_InvalidOperation) = some false)
    (ko_OtherRain_InvalidText : PySem.W.kitOne K (.ref C_OtherRain) (.ref C_InvalidText) = some false)
    (ko_OtherRain_DaybookError : PySem.W.kitOne K (.ref C_OtherRain) (.ref C_DaybookError) = some false)
    (ko_OtherRain_DecodeError : PySem.W.kitOne K (.ref C_OtherRain) (.ref C_DecodeError) = some false)
    (kv_OtherRain : PySem.W.kitOne K (.ref C_OtherRain) (.type "ValueError") = some true)
    (sr_OtherRain : PySem.W.subIn K (.ref C_OtherRain) (.ref C_RowError) = some true)
    (hg_InvalidNumber : PySem.W.findIn K (.ref C_InvalidNumber) "__getattribute__" = some (some (.builtin "BaseException.__getattribute__")))
    (hk_InvalidNumber : PySem.W.findIn K (.ref C_InvalidNumber) "__getattr__" = some none)
    (bx_InvalidNumber : PySem.W.subIn K (.ref C_InvalidNumber) (.type "BaseException") = some true)
    (hd_InvalidNumber : PySem.W.hasDictIn K C_InvalidNumber = true)
    (ha_InvalidNumber : PySem.W.findIn K (.ref C_InvalidNumber) "__class__" = some (some (.builtin "object.__class__")))
    (hm_InvalidNumber : PySem.W.mroIn K C_InvalidNumber (.type "object") = some true)
    (no_InvalidNumber_part : PySem.W.findIn K (.ref C_InvalidNumber) "part" = some none)
    (no_InvalidNumber_index : PySem.W.findIn K (.ref C_InvalidNumber) "index" = some none)
    (no_InvalidNumber_name : PySem.W.findIn K (.ref C_InvalidNumber) "name" = some none)
    (no_InvalidNumber_line : PySem.W.findIn K (.ref C_InvalidNumber) "line" = some none)
    (no_InvalidNumber_offset : PySem.W.findIn K (.ref C_InvalidNumber) "offset" = some none)
    (ko_InvalidNumber_InvalidRow : PySem.W.kitOne K (.ref C_InvalidNumber) (.ref C_InvalidRow) = some false)
    (ko_InvalidNumber_UnknownBarrel : PySem.W.kitOne K (.ref C_InvalidNumber) (.ref C_UnknownBarrel) = some false)
    (ko_InvalidNumber_InvalidNumber : PySem.W.kitOne K (.ref C_InvalidNumber) (.ref C_InvalidNumber) = some true)
    (ko_InvalidNumber_InvalidWeather : PySem.W.kitOne K (.ref C_InvalidNumber) (.ref C_InvalidWeather) = some false)
    (ko_InvalidNumber_InvalidOperation : PySem.W.kitOne K (.ref C_InvalidNumber) (.ref C_InvalidOperation) = some false)
    (ko_InvalidNumber_InvalidText : PySem.W.kitOne K (.ref C_InvalidNumber) (.ref C_InvalidText) = some false)
    (ko_InvalidNumber_DaybookError : PySem.W.kitOne K (.ref C_InvalidNumber) (.ref C_DaybookError) = some false)
    (ko_InvalidNumber_DecodeError : PySem.W.kitOne K (.ref C_InvalidNumber) (.ref C_DecodeError) = some false)
    (kv_InvalidNumber : PySem.W.kitOne K (.ref C_InvalidNumber) (.type "ValueError") = some true)
    (sr_InvalidNumber : PySem.W.subIn K (.ref C_InvalidNumber) (.ref C_RowError) = some true)
    (hg_InvalidWeather : PySem.W.findIn K (.ref C_InvalidWeather) "__getattribute__" = some (some (.builtin "BaseException.__getattribute__")))
    (hk_InvalidWeather : PySem.W.findIn K (.ref C_InvalidWeather) "__getattr__" = some none)
    (bx_InvalidWeather : PySem.W.subIn K (.ref C_InvalidWeather) (.type "BaseException") = some true)
    (hd_InvalidWeather : PySem.W.hasDictIn K C_InvalidWeather = true)
    (ha_InvalidWeather : PySem.W.findIn K (.ref C_InvalidWeather) "__class__" = some (some (.builtin "object.__class__")))
    (hm_InvalidWeather : PySem.W.mroIn K C_InvalidWeather (.type "object") = some true)
    (no_InvalidWeather_part : PySem.W.findIn K (.ref C_InvalidWeather) "part" = some none)
    (no_InvalidWeather_index : PySem.W.findIn K (.ref C_InvalidWeather) "index" = some none)
    (no_InvalidWeather_name : PySem.W.findIn K (.ref C_InvalidWeather) "name" = some none)
    (no_InvalidWeather_line : PySem.W.findIn K (.ref C_InvalidWeather) "line" = some none)
    (no_InvalidWeather_offset : PySem.W.findIn K (.ref C_InvalidWeather) "offset" = some none)
    (ko_InvalidWeather_InvalidRow : PySem.W.kitOne K (.ref C_InvalidWeather) (.ref C_InvalidRow) = some false)
    (ko_InvalidWeather_UnknownBarrel : PySem.W.kitOne K (.ref C_InvalidWeather) (.ref C_UnknownBarrel) = some false)
    (ko_InvalidWeather_InvalidNumber : PySem.W.kitOne K (.ref C_InvalidWeather) (.ref C_InvalidNumber) = some false)
    (ko_InvalidWeather_InvalidWeather : PySem.W.kitOne K (.ref C_InvalidWeather) (.ref C_InvalidWeather) = some true)
    (ko_InvalidWeather_InvalidOperation : PySem.W.kitOne K (.ref C_InvalidWeather) (.ref C_InvalidOperation) = some false)
    (ko_InvalidWeather_InvalidText : PySem.W.kitOne K (.ref C_InvalidWeather) (.ref C_InvalidText) = some false)
    (ko_InvalidWeather_DaybookError : PySem.W.kitOne K (.ref C_InvalidWeather) (.ref C_DaybookError) = some false)
    (ko_InvalidWeather_DecodeError : PySem.W.kitOne K (.ref C_InvalidWeather) (.ref C_DecodeError) = some false)
    (kv_InvalidWeather : PySem.W.kitOne K (.ref C_InvalidWeather) (.type "ValueError") = some true)
    (sr_InvalidWeather : PySem.W.subIn K (.ref C_InvalidWeather) (.ref C_RowError) = some true)
    (hg_InvalidOperation : PySem.W.findIn K (.ref C_InvalidOperation) "__getattribute__" = some (some (.builtin "BaseException.__getattribute__")))
    (hk_InvalidOperation : PySem.W.findIn K (.ref C_InvalidOperation) "__getattr__" = some none)
    (bx_InvalidOperation : PySem.W.subIn K (.ref C_InvalidOperation) (.type "BaseException") = some true)
    (hd_InvalidOperation : PySem.W.hasDictIn K C_InvalidOperation = true)
    (ha_InvalidOperation : PySem.W.findIn K (.ref C_InvalidOperation) "__class__" = some (some (.builtin "object.__class__")))
    (hm_InvalidOperation : PySem.W.mroIn K C_InvalidOperation (.type "object") = some true)
    (no_InvalidOperation_part : PySem.W.findIn K (.ref C_InvalidOperation) "part" = some none)
    (no_InvalidOperation_index : PySem.W.findIn K (.ref C_InvalidOperation) "index" = some none)
    (no_InvalidOperation_name : PySem.W.findIn K (.ref C_InvalidOperation) "name" = some none)
    (no_InvalidOperation_line : PySem.W.findIn K (.ref C_InvalidOperation) "line" = some none)
    (no_InvalidOperation_offset : PySem.W.findIn K (.ref C_InvalidOperation) "offset" = some none)
    (ko_InvalidOperation_InvalidRow : PySem.W.kitOne K (.ref C_InvalidOperation) (.ref C_InvalidRow) = some false)
    (ko_InvalidOperation_UnknownBarrel : PySem.W.kitOne K (.ref C_InvalidOperation) (.ref C_UnknownBarrel) = some false)
    (ko_InvalidOperation_InvalidNumber : PySem.W.kitOne K (.ref C_InvalidOperation) (.ref C_InvalidNumber) = some false)
    (ko_InvalidOperation_InvalidWeather : PySem.W.kitOne K (.ref C_InvalidOperation) (.ref C_InvalidWeather) = some false)
    (ko_InvalidOperation_InvalidOperation : PySem.W.kitOne K (.ref C_InvalidOperation) (.ref C_InvalidOperation) = some true)
    (ko_InvalidOperation_InvalidText : PySem.W.kitOne K (.ref C_InvalidOperation) (.ref C_InvalidText) = some false)
    (ko_InvalidOperation_DaybookError : PySem.W.kitOne K (.ref C_InvalidOperation) (.ref C_DaybookError) = some false)
    (ko_InvalidOperation_DecodeError : PySem.W.kitOne K (.ref C_InvalidOperation) (.ref C_DecodeError) = some false)
    (kv_InvalidOperation : PySem.W.kitOne K (.ref C_InvalidOperation) (.type "ValueError") = some true)
    (sr_InvalidOperation : PySem.W.subIn K (.ref C_InvalidOperation) (.ref C_RowError) = some true)
    (hg_InvalidText : PySem.W.findIn K (.ref C_InvalidText) "__getattribute__" = some (some (.builtin "BaseException.__getattribute__")))
    (hk_InvalidText : PySem.W.findIn K (.ref C_InvalidText) "__getattr__" = some none)
    (bx_InvalidText : PySem.W.subIn K (.ref C_InvalidText) (.type "BaseException") = some true)
    (hd_InvalidText : PySem.W.hasDictIn K C_InvalidText = true)
    (ha_InvalidText : PySem.W.findIn K (.ref C_InvalidText) "__class__" = some (some (.builtin "object.__class__")))
    (hm_InvalidText : PySem.W.mroIn K C_InvalidText (.type "object") = some true)
    (no_InvalidText_part : PySem.W.findIn K (.ref C_InvalidText) "part" = some none)
    (no_InvalidText_index : PySem.W.findIn K (.ref C_InvalidText) "index" = some none)
    (no_InvalidText_name : PySem.W.findIn K (.ref C_InvalidText) "name" = some none)
    (no_InvalidText_line : PySem.W.findIn K (.ref C_InvalidText) "line" = some none)
    (no_InvalidText_offset : PySem.W.findIn K (.ref C_InvalidText) "offset" = some none)
    (ko_InvalidText_InvalidRow : PySem.W.kitOne K (.ref C_InvalidText) (.ref C_InvalidRow) = some false)
    (ko_InvalidText_UnknownBarrel : PySem.W.kitOne K (.ref C_InvalidText) (.ref C_UnknownBarrel) = some false)
    (ko_InvalidText_InvalidNumber : PySem.W.kitOne K (.ref C_InvalidText) (.ref C_InvalidNumber) = some false)
    (ko_InvalidText_InvalidWeather : PySem.W.kitOne K (.ref C_InvalidText) (.ref C_InvalidWeather) = some false)
    (ko_InvalidText_InvalidOperation : PySem.W.kitOne K (.ref C_InvalidText) (.ref C_InvalidOperation) = some false)
    (ko_InvalidText_InvalidText : PySem.W.kitOne K (.ref C_InvalidText) (.ref C_InvalidText) = some true)
    (ko_InvalidText_DaybookError : PySem.W.kitOne K (.ref C_InvalidText) (.ref C_DaybookError) = some false)
    (ko_InvalidText_DecodeError : PySem.W.kitOne K (.ref C_InvalidText) (.ref C_DecodeError) = some false)
    (kv_InvalidText : PySem.W.kitOne K (.ref C_InvalidText) (.type "ValueError") = some true)
    (sr_InvalidText : PySem.W.subIn K (.ref C_InvalidText) (.ref C_RowError) = some true)
    (hg_DaybookError : PySem.W.findIn K (.ref C_DaybookError) "__getattribute__" = some (some (.builtin "BaseException.__getattribute__")))
    (hk_DaybookError : PySem.W.findIn K (.ref C_DaybookError) "__getattr__" = some none)
    (bx_DaybookError : PySem.W.subIn K (.ref C_DaybookError) (.type "BaseException") = some true)
    (hd_DaybookError : PySem.W.hasDictIn K C_DaybookError = true)
    (ha_DaybookError : PySem.W.findIn K (.ref C_DaybookError) "__class__" = some (some (.builtin "object.__class__")))
    (hm_DaybookError : PySem.W.mroIn K C_DaybookError (.type "object") = some true)
    (no_DaybookError_part : PySem.W.findIn K (.ref C_DaybookError) "part" = some none)
    (no_DaybookError_index : PySem.W.findIn K (.ref C_DaybookError) "index" = some none)
    (no_DaybookError_name : PySem.W.findIn K (.ref C_DaybookError) "name" = some none)
    (no_DaybookError_line : PySem.W.findIn K (.ref C_DaybookError) "line" = some none)
    (no_DaybookError_offset : PySem.W.findIn K (.ref C_DaybookError) "offset" = some none)
    (ko_DaybookError_InvalidRow : PySem.W.kitOne K (.ref C_DaybookError) (.ref C_InvalidRow) = some false)
    (ko_DaybookError_UnknownBarrel : PySem.W.kitOne K (.ref C_DaybookError) (.ref C_UnknownBarrel) = some false)
    (ko_DaybookError_InvalidNumber : PySem.W.kitOne K (.ref C_DaybookError) (.ref C_InvalidNumber) = some false)
    (ko_DaybookError_InvalidWeather : PySem.W.kitOne K (.ref C_DaybookError) (.ref C_InvalidWeather) = some false)
    (ko_DaybookError_InvalidOperation : PySem.W.kitOne K (.ref C_DaybookError) (.ref C_InvalidOperation) = some false)
    (ko_DaybookError_InvalidText : PySem.W.kitOne K (.ref C_DaybookError) (.ref C_InvalidText) = some false)
    (ko_DaybookError_DaybookError : PySem.W.kitOne K (.ref C_DaybookError) (.ref C_DaybookError) = some true)
    (ko_DaybookError_DecodeError : PySem.W.kitOne K (.ref C_DaybookError) (.ref C_DecodeError) = some false)
    (kv_DaybookError : PySem.W.kitOne K (.ref C_DaybookError) (.type "ValueError") = some true)
    (sr_DaybookError : PySem.W.subIn K (.ref C_DaybookError) (.ref C_RowError) = some true)
    (hg_DecodeError : PySem.W.findIn K (.ref C_DecodeError) "__getattribute__" = some (some (.builtin "BaseException.__getattribute__")))
    (hk_DecodeError : PySem.W.findIn K (.ref C_DecodeError) "__getattr__" = some none)
    (bx_DecodeError : PySem.W.subIn K (.ref C_DecodeError) (.type "BaseException") = some true)
    (hd_DecodeError : PySem.W.hasDictIn K C_DecodeError = true)
    (ha_DecodeError : PySem.W.findIn K (.ref C_DecodeError) "__class__" = some (some (.builtin "object.__class__")))
    (hm_DecodeError : PySem.W.mroIn K C_DecodeError (.type "object") = some true)
    (no_DecodeError_part : PySem.W.findIn K (.ref C_DecodeError) "part" = some none)
    (no_DecodeError_index : PySem.W.findIn K (.ref C_DecodeError) "index" = some none)
    (no_DecodeError_name : PySem.W.findIn K (.ref C_DecodeError) "name" = some none)
    (no_DecodeError_line : PySem.W.findIn K (.ref C_DecodeError) "line" = some none)
    (no_DecodeError_offset : PySem.W.findIn K (.ref C_DecodeError) "offset" = some none)
    (ko_DecodeError_InvalidRow : PySem.W.kitOne K (.ref C_DecodeError) (.ref C_InvalidRow) = some false)
    (ko_DecodeError_UnknownBarrel : PySem.W.kitOne K (.ref C_DecodeError) (.ref C_UnknownBarrel) = some false)
    (ko_DecodeError_InvalidNumber : PySem.W.kitOne K (.ref C_DecodeError) (.ref C_InvalidNumber) = some false)
    (ko_DecodeError_InvalidWeather : PySem.W.kitOne K (.ref C_DecodeError) (.ref C_InvalidWeather) = some false)
    (ko_DecodeError_InvalidOperation : PySem.W.kitOne K (.ref C_DecodeError) (.ref C_InvalidOperation) = some false)
    (ko_DecodeError_InvalidText : PySem.W.kitOne K (.ref C_DecodeError) (.ref C_InvalidText) = some false)
    (ko_DecodeError_DaybookError : PySem.W.kitOne K (.ref C_DecodeError) (.ref C_DaybookError) = some false)
    (ko_DecodeError_DecodeError : PySem.W.kitOne K (.ref C_DecodeError) (.ref C_DecodeError) = some true)
    (kv_DecodeError : PySem.W.kitOne K (.ref C_DecodeError) (.type "ValueError") = some true)
    (sr_DecodeError : PySem.W.subIn K (.ref C_DecodeError) (.ref C_RowError) = some true)
    (pg_Daybook : PySem.W.plainGet K C_Daybook Str.empty = true)
    (hd_Daybook : PySem.W.hasDictIn K C_Daybook = true)
    (po_Daybook : PySem.W.plainOver K C_Daybook = true)
    (sa_Daybook : PySem.W.findIn K (.ref C_Daybook) "__setattr__" = some (some (.builtin "object.__setattr__")))
    (no_Daybook_plan : PySem.W.findIn K (.ref C_Daybook) "plan" = some none)
    (no_Daybook_events : PySem.W.findIn K (.ref C_Daybook) "events" = some none)
    (pg_Row : PySem.W.plainGet K C_Row Str.empty = true)
    (hd_Row : PySem.W.hasDictIn K C_Row = true)
    (po_Row : PySem.W.plainOver K C_Row = true)
    (sa_Row : PySem.W.findIn K (.ref C_Row) "__setattr__" = some (some (.builtin "object.__setattr__")))
    (no_Row_parts : PySem.W.findIn K (.ref C_Row) "parts" = some none)
    (c_Row_len : PySem.W.codeIn K cd_Row_len "Row.__len__" = true)
    (k_Row_len : PySem.W.keepIn K (.ref f_Row_len) = true)
    (i_Row_len : PySem.W.isFn K (.ref f_Row_len) = true)
    (c_Row_barrels : PySem.W.codeIn K cd_Row_barrels "Row.barrels" = true)
    (k_Row_barrels : PySem.W.keepIn K (.ref f_Row_barrels) = true)
    (c_Daybook_has_unknown : PySem.W.codeIn K cd_Daybook_has_unknown "Daybook.has_unknown" = true)
    (k_Daybook_has_unknown : PySem.W.keepIn K (.ref f_Daybook_has_unknown) = true)
    (i_Daybook_has_unknown : PySem.W.isFn K (.ref f_Daybook_has_unknown) = true)
    (c_is_figure : PySem.W.codeIn K cd_is_figure "is_figure" = true)
    (k_is_figure : PySem.W.keepIn K (.ref f_is_figure) = true)
    (c_Daybook_event_of : PySem.W.codeIn K cd_Daybook_event_of "Daybook.event_of" = true)
    (k_Daybook_event_of : PySem.W.keepIn K (.ref f_Daybook_event_of) = true)
    (i_Daybook_event_of : PySem.W.isFn K (.ref f_Daybook_event_of) = true)
    (c_next_tick : PySem.W.codeIn K cd_next_tick "next_tick" = true)
    (k_next_tick : PySem.W.keepIn K (.ref f_next_tick) = true)
    (c_Daybook_rained : PySem.W.codeIn K cd_Daybook_rained "Daybook.rained" = true)
    (k_Daybook_rained : PySem.W.keepIn K (.ref f_Daybook_rained) = true)
    (i_Daybook_rained : PySem.W.isFn K (.ref f_Daybook_rained) = true)
    (c_Daybook_init : PySem.W.codeIn K cd_Daybook_init "Daybook.__init__" = true)
    (k_Daybook_init : PySem.W.keepIn K (.ref f_Daybook_init) = true)
    (mk_Daybook : PySem.W.makesIn K C_Daybook = true)
    (if_Daybook : PySem.W.isFn K (.ref f_Daybook_init) = true)
    (kc_Daybook : PySem.W.keepIn K (.ref C_Daybook) = true)
    (rd_Row : PySem.W.readsIn K C_Row (.type "type") = true)
    (ga_Row : PySem.W.specialIn K (.ref C_Row) "__getattribute__" = some (some (.builtin "type.__getattribute__")))
    (cv_MAX_TICKS : PySem.W.findCls K (.ref C_Row) (.type "type") "MAX_TICKS" = some (.val (.int 12 tc_MAX_TICKS)))
    (cv_MAX_BARRELS : PySem.W.findCls K (.ref C_Row) (.type "type") "MAX_BARRELS" = some (.val (.int 5 tc_MAX_BARRELS)))
    (c_is_name : PySem.W.codeIn K cd_is_name "is_name" = true)
    (k_is_name : PySem.W.keepIn K (.ref f_is_name) = true)
    (c_is_barrel : PySem.W.codeIn K cd_is_barrel "is_barrel" = true)
    (k_is_barrel : PySem.W.keepIn K (.ref f_is_barrel) = true)
    (no_Row_weather : PySem.W.findIn K (.ref C_Row) "weather" = some none)
    (c_Row_init : PySem.W.codeIn K cd_Row_init "Row.__init__" = true)
    (k_Row_init : PySem.W.keepIn K (.ref f_Row_init) = true)
    (mk_Row : PySem.W.makesIn K C_Row = true)
    (if_Row : PySem.W.isFn K (.ref f_Row_init) = true)
    (kc_Row : PySem.W.keepIn K (.ref C_Row) = true)
    (rV_x_OtherRain : PySem.HandSPX.refsVE bm_x_OtherRain = true)
    (sa_OtherRain : PySem.W.findIn K (.ref C_OtherRain) "__setattr__" = some (some (.builtin "object.__setattr__")))
    (tx_OtherRain : PySem.W.typeIn K (.ref C_OtherRain) = some (.type "type"))
    (kc_OtherRain : PySem.W.keepIn K (.ref C_OtherRain) = true)
    (ib_OtherRain : PySem.W.findIn K (.ref C_OtherRain) "__init__" = some (some (.builtin "ValueError.__init__")))
    (c_Row_add : PySem.W.codeIn K cd_Row_add "Row.__add__" = true)
    (k_Row_add : PySem.W.keepIn K (.ref f_Row_add) = true)
    (i_Row_add : PySem.W.isFn K (.ref f_Row_add) = true)
    (sf_Row : PySem.W.selfFirst K C_Row = true)
    (c_law_row : PySem.W.codeIn K cd_law_row "_law_row" = true)
    (k_law_row : PySem.W.keepIn K (.ref f_law_row) = true)
    (c_Daybook_tick_count : PySem.W.codeIn K cd_Daybook_tick_count "Daybook.tick_count" = true)
    (k_Daybook_tick_count : PySem.W.keepIn K (.ref f_Daybook_tick_count) = true)
    (c_Daybook_line_count : PySem.W.codeIn K cd_Daybook_line_count "Daybook.line_count" = true)
    (k_Daybook_line_count : PySem.W.keepIn K (.ref f_Daybook_line_count) = true)
    (c_law_alike : PySem.W.codeIn K cd_law_alike "_law_alike" = true)
    (k_law_alike : PySem.W.keepIn K (.ref f_law_alike) = true)
    (c_Daybook_signs_with : PySem.W.codeIn K cd_Daybook_signs_with "Daybook.signs_with" = true)
    (k_Daybook_signs_with : PySem.W.keepIn K (.ref f_Daybook_signs_with) = true)
    (i_Daybook_signs_with : PySem.W.isFn K (.ref f_Daybook_signs_with) = true)
    (c_Daybook_first_with : PySem.W.codeIn K cd_Daybook_first_with "Daybook.first_with" = true)
    (k_Daybook_first_with : PySem.W.keepIn K (.ref f_Daybook_first_with) = true)
    (i_Daybook_first_with : PySem.W.isFn K (.ref f_Daybook_first_with) = true)
    (c_Daybook_unknown_range : PySem.W.codeIn K cd_Daybook_unknown_range "Daybook.unknown_range" = true)
    (k_Daybook_unknown_range : PySem.W.keepIn K (.ref f_Daybook_unknown_range) = true)
    (i_Daybook_unknown_range : PySem.W.isFn K (.ref f_Daybook_unknown_range) = true)
    (c_law_range_right : PySem.W.codeIn K cd_law_range_right "_law_range_right" = true)
    (k_law_range_right : PySem.W.keepIn K (.ref f_law_range_right) = true)
    (rV_x_InvalidNumber : PySem.HandSPX.refsVE bm_x_InvalidNumber = true)
    (sa_InvalidNumber : PySem.W.findIn K (.ref C_InvalidNumber) "__setattr__" = some (some (.builtin "object.__setattr__")))
    (tx_InvalidNumber : PySem.W.typeIn K (.ref C_InvalidNumber) = some (.type "type"))
    (kc_InvalidNumber : PySem.W.keepIn K (.ref C_InvalidNumber) = true)
    (ib_InvalidNumber : PySem.W.findIn K (.ref C_InvalidNumber) "__init__" = some (some (.builtin "ValueError.__init__")))
    (c_validate_number : PySem.W.codeIn K cd_validate_number "validate_number" = true)
    (k_validate_number : PySem.W.keepIn K (.ref f_validate_number) = true)
    (c_Daybook_levels_after : PySem.W.codeIn K cd_Daybook_levels_after "Daybook.levels_after" = true)
    (k_Daybook_levels_after : PySem.W.keepIn K (.ref f_Daybook_levels_after) = true)
    (i_Daybook_levels_after : PySem.W.isFn K (.ref f_Daybook_levels_after) = true)
    (c_x_DaybookError : PySem.W.codeIn K cd_x_DaybookError "DaybookError.__init__" = true)
    (k_x_DaybookError : PySem.W.keepIn K (.ref f_x_DaybookError) = true)
    (rd_RowError : PySem.W.readsIn K C_RowError (.type "type") = true)
    (ga_RowError : PySem.W.specialIn K (.ref C_RowError) "__getattribute__" = some (some (.builtin "type.__getattribute__")))
    (iv_RowError : PySem.W.findCls K (.ref C_RowError) (.type "type") "__init__" = some (.val (.builtin "ValueError.__init__")))
    (rV_x_DaybookError : PySem.HandSPX.refsVE bm_x_DaybookError = true)
    (sa_DaybookError : PySem.W.findIn K (.ref C_DaybookError) "__setattr__" = some (some (.builtin "object.__setattr__")))
    (tx_DaybookError : PySem.W.typeIn K (.ref C_DaybookError) = some (.type "type"))
    (kc_DaybookError : PySem.W.keepIn K (.ref C_DaybookError) = true)
    (ti_DaybookError : PySem.W.typeIn K (.ref f_x_DaybookError) = some (.type "function"))
    (c_x_InvalidRow : PySem.W.codeIn K cd_x_InvalidRow "InvalidRow.__init__" = true)
    (k_x_InvalidRow : PySem.W.keepIn K (.ref f_x_InvalidRow) = true)
    (rV_x_InvalidRow : PySem.HandSPX.refsVE bm_x_InvalidRow = true)
    (sa_InvalidRow : PySem.W.findIn K (.ref C_InvalidRow) "__setattr__" = some (some (.builtin "object.__setattr__")))
    (tx_InvalidRow : PySem.W.typeIn K (.ref C_InvalidRow) = some (.type "type"))
    (kc_InvalidRow : PySem.W.keepIn K (.ref C_InvalidRow) = true)
    (ti_InvalidRow : PySem.W.typeIn K (.ref f_x_InvalidRow) = some (.type "function")) : ∀ base : Heap, Fx ⟨P, w, K, mg, base⟩ := fun base => by
  constructor
  · exact PySem.W.mg_none_of X G z_list
  · exact ⟨_, _, PySem.W.mg_of X G a_law_mix, (fun_mk (st := s_law_mix) l_law_mix c_law_mix k_law_mix), ((fun_mk (st := s_law_mix) l_law_mix c_law_mix k_law_mix).binds (ps := ["_law_script", "_law_seed"]) fun _ _ _ _ _ _ us hl => match us, hl with | [_, _], _ => rfl)⟩
  · exact PySem.W.mg_none_of X G z_range
  · exact PySem.W.mg_none_of X G z_len
  · exact PySem.W.mg_none_of X G z_max
  · exact ⟨_, _, PySem.W.mg_of X G a_law_next, (fun_mk (st := s_law_next) l_law_next c_law_next k_law_next), ((fun_mk (st := s_law_next) l_law_next c_law_next k_law_next).binds (ps := ["_law_h", "_law_limit"]) fun _ _ _ _ _ _ us hl => match us, hl with | [_, _], _ => rfl)⟩
  · exact PySem.W.mg_none_of X G z_int
  · exact PySem.W.mg_none_of X G z_tuple
  · exact ⟨_, _, PySem.W.mg_of X G a_law_parts, (fun_mk (st := s_law_parts) l_law_parts c_law_parts k_law_parts), ((fun_mk (st := s_law_parts) l_law_parts c_law_parts k_law_parts).binds (ps := ["_law_h", "_law_most", "_law_wide"]) fun _ _ _ _ _ _ us hl => match us, hl with | [_, _, _], _ => rfl)⟩
  · exact PySem.W.mg_none_of X G z_str
  · exact ⟨_, _, PySem.W.mg_of X G a_law_tick, (fun_mk (st := s_law_tick) l_law_tick c_law_tick k_law_tick), ((fun_mk (st := s_law_tick) l_law_tick c_law_tick k_law_tick).binds (ps := ["_law_parts_here", "_law_levels", "_law_tick_here", "_law_amount", "_law_locked"]) fun _ _ _ _ _ _ us hl => match us, hl with | [_, _, _, _, _], _ => rfl)⟩
  · exact ⟨_, _, PySem.W.mg_of X G a_law_run, (fun_mk (st := s_law_run) l_law_run c_law_run k_law_run), ((fun_mk (st := s_law_run) l_law_run c_law_run k_law_run).binds (ps := ["_law_parts_here", "_law_events", "_law_amount"]) fun _ _ _ _ _ _ us hl => match us, hl with | [_, _, _], _ => rfl)⟩
  · exact ⟨_, _, PySem.W.mg_of X G a_law_text, (fun_mk (st := s_law_text) l_law_text c_law_text k_law_text), ((fun_mk (st := s_law_text) l_law_text c_law_text k_law_text).binds (ps := ["_law_h", "_law_parts_here"]) fun _ _ _ _ _ _ us hl => match us, hl with | [_, _], _ => rfl)⟩
  · exact ⟨_, _, PySem.W.mg_of X G a_law_event, (fun_mk (st := s_law_event) l_law_event c_law_event k_law_event), ((fun_mk (st := s_law_event) l_law_event c_law_event k_law_event).binds (ps := ["_law_names", "_law_words"]) fun _ _ _ _ _ _ us hl => match us, hl with | [_, _], _ => rfl)⟩
  · exact ⟨_, _, PySem.W.mg_of X G a_law_due, (fun_mk (st := s_law_due) l_law_due c_law_due k_law_due), ((fun_mk (st := s_law_due) l_law_due c_law_due k_law_due).binds (ps := ["_law_parts_here", "_law_text_here"]) fun _ _ _ _ _ _ us hl => match us, hl with | [_, _], _ => rfl)⟩
  · exact PySem.W.mg_none_of X G z_isinstance
  · exact ⟨_, (PySem.W.mg_of X G a_InvalidNumber)⟩
  · exact ⟨_, (PySem.W.mg_of X G a_DecodeError)⟩
  · exact ⟨_, (PySem.W.mg_of X G a_DaybookError)⟩
  · exact ⟨_, (PySem.W.mg_of X G a_InvalidText)⟩
  · exact ⟨_, (PySem.W.mg_of X G a_InvalidRow)⟩
  · exact ⟨_, (PySem.W.mg_of X G a_InvalidOperation)⟩
  · exact ⟨_, (PySem.W.mg_of X G a_UnknownBarrel)⟩
  · exact ⟨_, (PySem.W.mg_of X G a_InvalidWeather)⟩
  · exact PySem.W.mg_none_of X G z_ValueError
  · exact ⟨_, _, PySem.W.mg_of X G a_law_outcome, (fun_mk (st := s_law_outcome) l_law_outcome c_law_outcome k_law_outcome), ((fun_mk (st := s_law_outcome) l_law_outcome c_law_outcome k_law_outcome).binds (ps := ["_law_call"]) fun _ _ _ _ _ _ us hl => match us, hl with | [_], _ => rfl)⟩
  · exact ⟨_, (PySem.W.mg_of X G a_RowError)⟩
  · intro Dn hD Da hDa
    rcases List.mem_cons.mp hD with e | hD
    · subst e; exact (by
      cases (PySem.W.mg_of X G a_InvalidRow).symm.trans hDa
      exact { ec := ⟨hg_InvalidRow, hk_InvalidRow, bx_InvalidRow, hd_InvalidRow, ha_InvalidRow, oc_get, oc_tak, hm_InvalidRow⟩, xf := ⟨hg_InvalidRow, hk_InvalidRow, bx_InvalidRow, hd_InvalidRow⟩, nof := nof5 no_InvalidRow_part no_InvalidRow_index no_InvalidRow_name no_InvalidRow_line no_InvalidRow_offset, isC := isc8 X G a_InvalidRow a_UnknownBarrel a_InvalidNumber a_InvalidWeather a_InvalidOperation a_InvalidText a_DaybookError a_DecodeError ko_InvalidRow_InvalidRow ko_InvalidRow_UnknownBarrel ko_InvalidRow_InvalidNumber ko_InvalidRow_InvalidWeather ko_InvalidRow_InvalidOperation ko_InvalidRow_InvalidText ko_InvalidRow_DaybookError ko_InvalidRow_DecodeError, isV := kv_InvalidRow, row := fun RA h => by cases (PySem.W.mg_of X G a_RowError).symm.trans h; exact PySem.W.exm_ref bx_RowError hd_RowError tx_RowError sr_InvalidRow })
    rcases List.mem_cons.mp hD with e | hD
    · subst e; exact (by
      cases (PySem.W.mg_of X G a_UnknownBarrel).symm.trans hDa
      exact { ec := ⟨hg_UnknownBarrel, hk_UnknownBarrel, bx_UnknownBarrel, hd_UnknownBarrel, ha_UnknownBarrel, oc_get, oc_tak, hm_UnknownBarrel⟩, xf := ⟨hg_UnknownBarrel, hk_UnknownBarrel, bx_UnknownBarrel, hd_UnknownBarrel⟩, nof := nof5 no_UnknownBarrel_part no_UnknownBarrel_index no_UnknownBarrel_name no_UnknownBarrel_line no_UnknownBarrel_offset, isC := isc8 X G a_InvalidRow a_UnknownBarrel a_InvalidNumber a_InvalidWeather a_InvalidOperation a_InvalidText a_DaybookError a_DecodeError ko_UnknownBarrel_InvalidRow ko_UnknownBarrel_UnknownBarrel ko_UnknownBarrel_InvalidNumber ko_UnknownBarrel_InvalidWeather ko_UnknownBarrel_InvalidOperation ko_UnknownBarrel_InvalidText ko_UnknownBarrel_DaybookError ko_UnknownBarrel_DecodeError, isV := kv_UnknownBarrel, row := fun RA h => by cases (PySem.W.mg_of X G a_RowError).symm.trans h; exact PySem.W.exm_ref bx_RowError hd_RowError tx_RowError sr_UnknownBarrel })
    rcases List.mem_cons.mp hD with e | hD
    · subst e; exact (by
      cases (PySem.W.mg_of X G a_OtherRain).symm.trans hDa
      exact { ec := ⟨hg_OtherRain, hk_OtherRain, bx_OtherRain, hd_OtherRain, ha_OtherRain, oc_get, oc_tak, hm_OtherRain⟩, xf := ⟨hg_OtherRain, hk_OtherRain, bx_OtherRain, hd_OtherRain⟩, nof := nof5 no_OtherRain_part no_OtherRain_index no_OtherRain_name no_OtherRain_line no_OtherRain_offset, isC := isc8 X G a_InvalidRow a_UnknownBarrel a_InvalidNumber a_InvalidWeather a_InvalidOperation a_InvalidText a_DaybookError a_DecodeError ko_OtherRain_InvalidRow ko_OtherRain_UnknownBarrel ko_OtherRain_InvalidNumber ko_OtherRain_InvalidWeather ko_OtherRain_InvalidOperation ko_OtherRain_InvalidText ko_OtherRain_DaybookError ko_OtherRain_DecodeError, isV := kv_OtherRain, row := fun RA h => by cases (PySem.W.mg_of X G a_RowError).symm.trans h; exact PySem.W.exm_ref bx_RowError hd_RowError tx_RowError sr_OtherRain })
    rcases List.mem_cons.mp hD with e | hD
    · subst e; exact (by
      cases (PySem.W.mg_of X G a_InvalidNumber).symm.trans hDa
      exact { ec := ⟨hg_InvalidNumber, hk_InvalidNumber, bx_InvalidNumber, hd_InvalidNumber, ha_InvalidNumber, oc_get, oc_tak, hm_InvalidNumber⟩, xf := ⟨hg_InvalidNumber, hk_InvalidNumber, bx_InvalidNumber, hd_InvalidNumber⟩, nof := nof5 no_InvalidNumber_part no_InvalidNumber_index no_InvalidNumber_name no_InvalidNumber_line no_InvalidNumber_offset, isC := isc8 X G a_InvalidRow a_UnknownBarrel a_InvalidNumber a_InvalidWeather a_InvalidOperation a_InvalidText a_DaybookError a_DecodeError ko_InvalidNumber_InvalidRow ko_InvalidNumber_UnknownBarrel ko_InvalidNumber_InvalidNumber ko_InvalidNumber_InvalidWeather ko_InvalidNumber_InvalidOperation ko_InvalidNumber_InvalidText ko_InvalidNumber_DaybookError ko_InvalidNumber_DecodeError, isV := kv_InvalidNumber, row := fun RA h => by cases (PySem.W.mg_of X G a_RowError).symm.trans h; exact PySem.W.exm_ref bx_RowError hd_RowError tx_RowError sr_InvalidNumber })
    rcases List.mem_cons.mp hD with e | hD
    · subst e; exact (by cases (PySem.W.mg_none_of X G z_Contradiction).symm.trans hDa)
    rcases List.mem_cons.mp hD with e | hD
    · subst e; exact (by
      cases (PySem.W.mg_of X G a_InvalidWeather).symm.trans hDa
      exact { ec := ⟨hg_InvalidWeather, hk_InvalidWeather, bx_InvalidWeather, hd_InvalidWeather, ha_InvalidWeather, oc_get, oc_tak, hm_InvalidWeather⟩, xf := ⟨hg_InvalidWeather, hk_InvalidWeather, bx_InvalidWeather, hd_InvalidWeather⟩, nof := nof5 no_InvalidWeather_part no_InvalidWeather_index no_InvalidWeather_name no_InvalidWeather_line no_InvalidWeather_offset, isC := isc8 X G a_InvalidRow a_UnknownBarrel a_InvalidNumber a_InvalidWeather a_InvalidOperation a_InvalidText a_DaybookError a_DecodeError ko_InvalidWeather_InvalidRow ko_InvalidWeather_UnknownBarrel ko_InvalidWeather_InvalidNumber ko_InvalidWeather_InvalidWeather ko_InvalidWeather_InvalidOperation ko_InvalidWeather_InvalidText ko_InvalidWeather_DaybookError ko_InvalidWeather_DecodeError, isV := kv_InvalidWeather, row := fun RA h => by cases (PySem.W.mg_of X G a_RowError).symm.trans h; exact PySem.W.exm_ref bx_RowError hd_RowError tx_RowError sr_InvalidWeather })
    rcases List.mem_cons.mp hD with e | hD
    · subst e; exact (by
      cases (PySem.W.mg_of X G a_InvalidOperation).symm.trans hDa
      exact { ec := ⟨hg_InvalidOperation, hk_InvalidOperation, bx_InvalidOperation, hd_InvalidOperation, ha_InvalidOperation, oc_get, oc_tak, hm_InvalidOperation⟩, xf := ⟨hg_InvalidOperation, hk_InvalidOperation, bx_InvalidOperation, hd_InvalidOperation⟩, nof := nof5 no_InvalidOperation_part no_InvalidOperation_index no_InvalidOperation_name no_InvalidOperation_line no_InvalidOperation_offset, isC := isc8 X G a_InvalidRow a_UnknownBarrel a_InvalidNumber a_InvalidWeather a_InvalidOperation a_InvalidText a_DaybookError a_DecodeError ko_InvalidOperation_InvalidRow ko_InvalidOperation_UnknownBarrel ko_InvalidOperation_InvalidNumber ko_InvalidOperation_InvalidWeather ko_InvalidOperation_InvalidOperation ko_InvalidOperation_InvalidText ko_InvalidOperation_DaybookError ko_InvalidOperation_DecodeError, isV := kv_InvalidOperation, row := fun RA h => by cases (PySem.W.mg_of X G a_RowError).symm.trans h; exact PySem.W.exm_ref bx_RowError hd_RowError tx_RowError sr_InvalidOperation })
    rcases List.mem_cons.mp hD with e | hD
    · subst e; exact (by
      cases (PySem.W.mg_of X G a_InvalidText).symm.trans hDa
      exact { ec := ⟨hg_InvalidText, hk_InvalidText, bx_InvalidText, hd_InvalidText, ha_InvalidText, oc_get, oc_tak, hm_InvalidText⟩, xf := ⟨hg_InvalidText, hk_InvalidText, bx_InvalidText, hd_InvalidText⟩, nof := nof5 no_InvalidText_part no_InvalidText_index no_InvalidText_name no_InvalidText_line no_InvalidText_offset, isC := isc8 X G a_InvalidRow a_UnknownBarrel a_InvalidNumber a_InvalidWeather a_InvalidOperation a_InvalidText a_DaybookError a_DecodeError ko_InvalidText_InvalidRow ko_InvalidText_UnknownBarrel ko_InvalidText_InvalidNumber ko_InvalidText_InvalidWeather ko_InvalidText_InvalidOperation ko_InvalidText_InvalidText ko_InvalidText_DaybookError ko_InvalidText_DecodeError, isV := kv_InvalidText, row := fun RA h => by cases (PySem.W.mg_of X G a_RowError).symm.trans h; exact PySem.W.exm_ref bx_RowError hd_RowError tx_RowError sr_InvalidText })
    rcases List.mem_cons.mp hD with e | hD
    · subst e; exact (by
      cases (PySem.W.mg_of X G a_DaybookError).symm.trans hDa
      exact { ec := ⟨hg_DaybookError, hk_DaybookError, bx_DaybookError, hd_DaybookError, ha_DaybookError, oc_get, oc_tak, hm_DaybookError⟩, xf := ⟨hg_DaybookError, hk_DaybookError, bx_DaybookError, hd_DaybookError⟩, nof := nof5 no_DaybookError_part no_DaybookError_index no_DaybookError_name no_DaybookError_line no_DaybookError_offset, isC := isc8 X G a_InvalidRow a_UnknownBarrel a_InvalidNumber a_InvalidWeather a_InvalidOperation a_InvalidText a_DaybookError a_DecodeError ko_DaybookError_InvalidRow ko_DaybookError_UnknownBarrel ko_DaybookError_InvalidNumber ko_DaybookError_InvalidWeather ko_DaybookError_InvalidOperation ko_DaybookError_InvalidText ko_DaybookError_DaybookError ko_DaybookError_DecodeError, isV := kv_DaybookError, row := fun RA h => by cases (PySem.W.mg_of X G a_RowError).symm.trans h; exact PySem.W.exm_ref bx_RowError hd_RowError tx_RowError sr_DaybookError })
    rcases List.mem_cons.mp hD with e | hD
    · subst e; exact (by
      cases (PySem.W.mg_of X G a_DecodeError).symm.trans hDa
      exact { ec := ⟨hg_DecodeError, hk_DecodeError, bx_DecodeError, hd_DecodeError, ha_DecodeError, oc_get, oc_tak, hm_DecodeError⟩, xf := ⟨hg_DecodeError, hk_DecodeError, bx_DecodeError, hd_DecodeError⟩, nof := nof5 no_DecodeError_part no_DecodeError_index no_DecodeError_name no_DecodeError_line no_DecodeError_offset, isC := isc8 X G a_InvalidRow a_UnknownBarrel a_InvalidNumber a_InvalidWeather a_InvalidOperation a_InvalidText a_DaybookError a_DecodeError ko_DecodeError_InvalidRow ko_DecodeError_UnknownBarrel ko_DecodeError_InvalidNumber ko_DecodeError_InvalidWeather ko_DecodeError_InvalidOperation ko_DecodeError_InvalidText ko_DecodeError_DaybookError ko_DecodeError_DecodeError, isV := kv_DecodeError, row := fun RA h => by cases (PySem.W.mg_of X G a_RowError).symm.trans h; exact PySem.W.exm_ref bx_RowError hd_RowError tx_RowError sr_DecodeError })
    cases hD
  · exact ⟨by decide, (fun Ca hC => by cases (PySem.W.mg_of X G a_Daybook).symm.trans hC; exact ⟨⟨pg_Daybook, hd_Daybook, po_Daybook, sa_Daybook⟩, no_Daybook_plan⟩)⟩
  · exact ⟨by decide, (fun Ca hC => by cases (PySem.W.mg_of X G a_Daybook).symm.trans hC; exact ⟨⟨pg_Daybook, hd_Daybook, po_Daybook, sa_Daybook⟩, no_Daybook_events⟩)⟩
  · exact ⟨by decide, (fun Ca hC => by cases (PySem.W.mg_of X G a_Row).symm.trans hC; exact ⟨⟨pg_Row, hd_Row, po_Row, sa_Row⟩, no_Row_parts⟩)⟩
  · exact ⟨_, _, _, (PySem.W.mg_of X G a_Row), ⟨pg_Row, hd_Row, po_Row, sa_Row⟩, at_Row_len, i_Row_len, (fun_mk (st := s_Row_len) l_Row_len c_Row_len k_Row_len), ((fun_mk (st := s_Row_len) l_Row_len c_Row_len k_Row_len).binds (ps := ["self"]) fun _ _ _ _ _ _ us hl => match us, hl with | [_], _ => rfl)⟩
  · exact PySem.W.mg_none_of X G z_enumerate
  · exact ⟨_, PySem.W.mg_of X G v_MAX_LINES⟩
  · exact ⟨_, _, _, (fun Ca hC => by cases (PySem.W.mg_of X G a_Row).symm.trans hC; exact ⟨⟨pg_Row, hd_Row, po_Row, sa_Row⟩, ⟨at_Row_barrels, gt_Row_barrels, tk_Row_barrels, ⟨_, rc_Row_barrels⟩⟩⟩), (fun_mk (st := s_Row_barrels) l_Row_barrels c_Row_barrels k_Row_barrels), ((fun_mk (st := s_Row_barrels) l_Row_barrels c_Row_barrels k_Row_barrels).binds (ps := ["self"]) fun _ _ _ _ _ _ us hl => match us, hl with | [_], _ => rfl)⟩
  · exact ⟨_, (PySem.W.mg_of X G a_Row)⟩
  · exact ⟨_, PySem.W.mg_of X G v_RAIN⟩
  · exact ⟨_, PySem.W.mg_of X G v_UNKNOWN⟩
  · exact ⟨_, _, (fun Ca hC => by cases (PySem.W.mg_of X G a_Daybook).symm.trans hC; exact ⟨⟨pg_Daybook, hd_Daybook, po_Daybook, sa_Daybook⟩, ⟨at_Daybook_has_unknown, i_Daybook_has_unknown, k_Daybook_has_unknown⟩⟩), (fun_mk (st := s_Daybook_has_unknown) l_Daybook_has_unknown c_Daybook_has_unknown k_Daybook_has_unknown), ((fun_mk (st := s_Daybook_has_unknown) l_Daybook_has_unknown c_Daybook_has_unknown k_Daybook_has_unknown).binds (ps := ["self"]) fun _ _ _ _ _ _ us hl => match us, hl with | [_], _ => rfl)⟩
  · exact ⟨_, (PySem.W.mg_of X G a_Daybook)⟩
  · exact ⟨_, PySem.W.mg_of X G v_RAIN_DIGITS⟩
  · exact ⟨_, PySem.W.mg_of X G v_DIGITS⟩
  · exact ⟨_, _, PySem.W.mg_of X G a_is_figure, (fun_mk (st := s_is_figure) l_is_figure c_is_figure k_is_figure), ((fun_mk (st := s_is_figure) l_is_figure c_is_figure k_is_figure).binds (ps := ["word", "longest"]) fun _ _ _ _ _ _ us hl => match us, hl with | [_, _], _ => rfl)⟩
  · exact ⟨_, PySem.W.mg_of X G v_MAX_RAIN⟩
  · exact ⟨_, PySem.W.mg_of X G v_LEVEL⟩
  · exact ⟨_, PySem.W.mg_of X G v_MAX_DIGITS⟩
  · exact ⟨_, _, (fun Ca hC => by cases (PySem.W.mg_of X G a_Daybook).symm.trans hC; exact ⟨⟨pg_Daybook, hd_Daybook, po_Daybook, sa_Daybook⟩, ⟨at_Daybook_event_of, i_Daybook_event_of, k_Daybook_event_of⟩⟩), (fun_mk (st := s_Daybook_event_of) l_Daybook_event_of c_Daybook_event_of k_Daybook_event_of), ((fun_mk (st := s_Daybook_event_of) l_Daybook_event_of c_Daybook_event_of k_Daybook_event_of).binds (ps := ["self", "words"]) fun _ _ _ _ _ _ us hl => match us, hl with | [_, _], _ => rfl)⟩
  · exact PySem.W.mg_none_of X G z_zip
  · exact PySem.W.mg_none_of X G z_min
  · exact ⟨_, _, PySem.W.mg_of X G a_next_tick, (fun_mk (st := s_next_tick) l_next_tick c_next_tick k_next_tick), ((fun_mk (st := s_next_tick) l_next_tick c_next_tick k_next_tick).binds (ps := ["row", "levels", "tick", "amount", "locked"]) fun _ _ _ _ _ _ us hl => match us, hl with | [_, _, _, _, _], _ => rfl)⟩
  · exact ⟨_, _, (fun Ca hC => by cases (PySem.W.mg_of X G a_Daybook).symm.trans hC; exact ⟨⟨pg_Daybook, hd_Daybook, po_Daybook, sa_Daybook⟩, ⟨at_Daybook_rained, i_Daybook_rained, k_Daybook_rained⟩⟩), (fun_mk (st := s_Daybook_rained) l_Daybook_rained c_Daybook_rained k_Daybook_rained), ((fun_mk (st := s_Daybook_rained) l_Daybook_rained c_Daybook_rained k_Daybook_rained).binds (ps := ["self", "levels", "tick", "amount"]) fun _ _ _ _ _ _ us hl => match us, hl with | [_, _, _, _], _ => rfl)⟩
  · exact ⟨_, _, _, (PySem.W.mg_of X G a_Daybook), ⟨mk_Daybook, ii_Daybook, if_Daybook, kc_Daybook⟩, (fun_mk (st := s_Daybook_init) l_Daybook_init c_Daybook_init k_Daybook_init), ((fun_mk (st := s_Daybook_init) l_Daybook_init c_Daybook_init k_Daybook_init).binds (ps := ["self", "row", "text"]) fun _ _ _ _ _ _ us hl => match us, hl with | [_, _, _], _ => rfl)⟩
  · exact ⟨_, _, _, (PySem.W.mg_of X G a_Row), ⟨rd_Row, ga_Row⟩, ⟨cv_MAX_TICKS, ⟨_, rfl⟩⟩⟩
  · exact ⟨_, _, _, (PySem.W.mg_of X G a_Row), ⟨rd_Row, ga_Row⟩, ⟨cv_MAX_BARRELS, ⟨_, rfl⟩⟩⟩
  · exact ⟨_, PySem.W.mg_of X G v_MAX_LETTERS⟩
  · exact ⟨_, PySem.W.mg_of X G v_LETTERS⟩
  · exact PySem.W.mg_none_of X G z_all
  · exact ⟨_, _, PySem.W.mg_of X G a_is_name, (fun_mk (st := s_is_name) l_is_name c_is_name k_is_name), ((fun_mk (st := s_is_name) l_is_name c_is_name k_is_name).binds (ps := ["name"]) fun _ _ _ _ _ _ us hl => match us, hl with | [_], _ => rfl)⟩
  · exact ⟨_, PySem.W.mg_of X G v_MAX_AMOUNT⟩
  · exact ⟨_, PySem.W.mg_of X G v_MAX_ROOF⟩
  · exact ⟨_, _, PySem.W.mg_of X G a_is_barrel, (fun_mk (st := s_is_barrel) l_is_barrel c_is_barrel k_is_barrel), ((fun_mk (st := s_is_barrel) l_is_barrel c_is_barrel k_is_barrel).binds (ps := ["barrel", "ticks"]) fun _ _ _ _ _ _ us hl => match us, hl with | [_, _], _ => rfl)⟩
  · exact ⟨by decide, (fun Ca hC => by cases (PySem.W.mg_of X G a_Row).symm.trans hC; exact ⟨⟨pg_Row, hd_Row, po_Row, sa_Row⟩, no_Row_weather⟩)⟩
  · exact ⟨_, _, _, (PySem.W.mg_of X G a_Row), ⟨mk_Row, ii_Row, if_Row, kc_Row⟩, (fun_mk (st := s_Row_init) l_Row_init c_Row_init k_Row_init)⟩
  · exact ⟨_, (PySem.W.mg_of X G a_OtherRain), ⟨⟨_, _, _, _, _, _, _, _, _, _, _, _, _, _, _, xL_x_OtherRain, rV_x_OtherRain⟩, sa_OtherRain, bx_OtherRain, tx_OtherRain, kc_OtherRain⟩, ib_OtherRain⟩
  · exact ⟨_, _, _, (PySem.W.mg_of X G a_Row), ⟨pg_Row, hd_Row, po_Row, sa_Row⟩, sf_Row, at_Row_add, i_Row_add, (fun_mk (st := s_Row_add) l_Row_add c_Row_add k_Row_add), ((fun_mk (st := s_Row_add) l_Row_add c_Row_add k_Row_add).binds (ps := ["self", "other"]) fun _ _ _ _ _ _ us hl => match us, hl with | [_, _], _ => rfl)⟩
  · exact ⟨_, _, PySem.W.mg_of X G a_law_row, (fun_mk (st := s_law_row) l_law_row c_law_row k_law_row), ((fun_mk (st := s_law_row) l_law_row c_law_row k_law_row).binds (ps := ["_law_parts_here"]) fun _ _ _ _ _ _ us hl => match us, hl with | [_], _ => rfl)⟩
  · exact ⟨_, _, _, (fun Ca hC => by cases (PySem.W.mg_of X G a_Daybook).symm.trans hC; exact ⟨⟨pg_Daybook, hd_Daybook, po_Daybook, sa_Daybook⟩, ⟨at_Daybook_tick_count, gt_Daybook_tick_count, tk_Daybook_tick_count, ⟨_, rc_Daybook_tick_count⟩⟩⟩), (fun_mk (st := s_Daybook_tick_count) l_Daybook_tick_count c_Daybook_tick_count k_Daybook_tick_count), ((fun_mk (st := s_Daybook_tick_count) l_Daybook_tick_count c_Daybook_tick_count k_Daybook_tick_count).binds (ps := ["self"]) fun _ _ _ _ _ _ us hl => match us, hl with | [_], _ => rfl)⟩
  · exact ⟨_, _, _, (fun Ca hC => by cases (PySem.W.mg_of X G a_Daybook).symm.trans hC; exact ⟨⟨pg_Daybook, hd_Daybook, po_Daybook, sa_Daybook⟩, ⟨at_Daybook_line_count, gt_Daybook_line_count, tk_Daybook_line_count, ⟨_, rc_Daybook_line_count⟩⟩⟩), (fun_mk (st := s_Daybook_line_count) l_Daybook_line_count c_Daybook_line_count k_Daybook_line_count), ((fun_mk (st := s_Daybook_line_count) l_Daybook_line_count c_Daybook_line_count k_Daybook_line_count).binds (ps := ["self"]) fun _ _ _ _ _ _ us hl => match us, hl with | [_], _ => rfl)⟩
  · exact PySem.W.mg_none_of X G z_dict
  · exact PySem.W.mg_none_of X G z_bool
  · exact ⟨_, _, PySem.W.mg_of X G a_law_alike, (fun_mk (st := s_law_alike) l_law_alike c_law_alike k_law_alike), ((fun_mk (st := s_law_alike) l_law_alike c_law_alike k_law_alike).binds (ps := ["_law_found", "_law_due_here"]) fun _ _ _ _ _ _ us hl => match us, hl with | [_, _], _ => rfl)⟩
  · exact ⟨_, _, (fun Ca hC => by cases (PySem.W.mg_of X G a_Daybook).symm.trans hC; exact ⟨⟨pg_Daybook, hd_Daybook, po_Daybook, sa_Daybook⟩, ⟨at_Daybook_signs_with, i_Daybook_signs_with, k_Daybook_signs_with⟩⟩), (fun_mk (st := s_Daybook_signs_with) l_Daybook_signs_with c_Daybook_signs_with k_Daybook_signs_with), ((fun_mk (st := s_Daybook_signs_with) l_Daybook_signs_with c_Daybook_signs_with k_Daybook_signs_with).binds (ps := ["self", "amount"]) fun _ _ _ _ _ _ us hl => match us, hl with | [_, _], _ => rfl)⟩
  · exact ⟨_, _, (fun Ca hC => by cases (PySem.W.mg_of X G a_Daybook).symm.trans hC; exact ⟨⟨pg_Daybook, hd_Daybook, po_Daybook, sa_Daybook⟩, ⟨at_Daybook_first_with, i_Daybook_first_with, k_Daybook_first_with⟩⟩), (fun_mk (st := s_Daybook_first_with) l_Daybook_first_with c_Daybook_first_with k_Daybook_first_with), ((fun_mk (st := s_Daybook_first_with) l_Daybook_first_with c_Daybook_first_with k_Daybook_first_with).binds (ps := ["self", "least"]) fun _ _ _ _ _ _ us hl => match us, hl with | [_, _], _ => rfl)⟩
  · exact ⟨_, _, (fun Ca hC => by cases (PySem.W.mg_of X G a_Daybook).symm.trans hC; exact ⟨⟨pg_Daybook, hd_Daybook, po_Daybook, sa_Daybook⟩, ⟨at_Daybook_unknown_range, i_Daybook_unknown_range, k_Daybook_unknown_range⟩⟩), (fun_mk (st := s_Daybook_unknown_range) l_Daybook_unknown_range c_Daybook_unknown_range k_Daybook_unknown_range), ((fun_mk (st := s_Daybook_unknown_range) l_Daybook_unknown_range c_Daybook_unknown_range k_Daybook_unknown_range).binds (ps := ["self"]) fun _ _ _ _ _ _ us hl => match us, hl with | [_], _ => rfl)⟩
  · exact ⟨_, _, PySem.W.mg_of X G a_law_range_right, (fun_mk (st := s_law_range_right) l_law_range_right c_law_range_right k_law_range_right), ((fun_mk (st := s_law_range_right) l_law_range_right c_law_range_right k_law_range_right).binds (ps := ["_law_parts_here", "_law_events", "_law_hidden", "_law_told"]) fun _ _ _ _ _ _ us hl => match us, hl with | [_, _, _, _], _ => rfl)⟩
  · exact ⟨_, (PySem.W.mg_of X G a_InvalidNumber), ⟨⟨_, _, _, _, _, _, _, _, _, _, _, _, _, _, _, xL_x_InvalidNumber, rV_x_InvalidNumber⟩, sa_InvalidNumber, bx_InvalidNumber, tx_InvalidNumber, kc_InvalidNumber⟩, ib_InvalidNumber⟩
  · exact ⟨_, _, PySem.W.mg_of X G a_validate_number, (fun_mk (st := s_validate_number) l_validate_number c_validate_number k_validate_number), ((fun_mk (st := s_validate_number) l_validate_number c_validate_number k_validate_number).binds (ps := ["number", "smallest", "largest"]) fun _ _ _ _ _ _ us hl => match us, hl with | [_, _, _], _ => rfl)⟩
  · exact ⟨_, _, (fun Ca hC => by cases (PySem.W.mg_of X G a_Daybook).symm.trans hC; exact ⟨⟨pg_Daybook, hd_Daybook, po_Daybook, sa_Daybook⟩, ⟨at_Daybook_levels_after, i_Daybook_levels_after, k_Daybook_levels_after⟩⟩), (fun_mk (st := s_Daybook_levels_after) l_Daybook_levels_after c_Daybook_levels_after k_Daybook_levels_after), ((fun_mk (st := s_Daybook_levels_after) l_Daybook_levels_after c_Daybook_levels_after k_Daybook_levels_after).binds (ps := ["self", "amount"]) fun _ _ _ _ _ _ us hl => match us, hl with | [_, _], _ => rfl)⟩
  · exact ⟨_, _, _, _, (PySem.W.mg_of X G a_DaybookError), ⟨(PySem.W.mg_of X G a_RowError), rd_RowError, ga_RowError, iv_RowError⟩, ⟨⟨_, _, _, _, _, _, _, _, _, _, _, _, _, _, _, xL_x_DaybookError, rV_x_DaybookError⟩, sa_DaybookError, bx_DaybookError, tx_DaybookError, kc_DaybookError⟩, ii_DaybookError, ti_DaybookError, no_DaybookError_line, (fun_mk (st := s_x_DaybookError) l_x_DaybookError c_x_DaybookError k_x_DaybookError)⟩
  · exact ⟨_, _, _, _, (PySem.W.mg_of X G a_InvalidRow), ⟨(PySem.W.mg_of X G a_RowError), rd_RowError, ga_RowError, iv_RowError⟩, ⟨⟨_, _, _, _, _, _, _, _, _, _, _, _, _, _, _, xL_x_InvalidRow, rV_x_InvalidRow⟩, sa_InvalidRow, bx_InvalidRow, tx_InvalidRow, kc_InvalidRow⟩, ii_InvalidRow, ti_InvalidRow, no_InvalidRow_part, no_InvalidRow_index, (fun_mk (st := s_x_InvalidRow) l_x_InvalidRow c_x_InvalidRow k_x_InvalidRow)⟩

theorem end_at {l : PySem.W.OpenLaw} {w : World} {K : PySem.W.Frag} {mg : Str → Option Value} {h : Heap} {fa f c P : Addr} {kV doc pm ct oc : Value} {an od : Option Addr} {osl : Array (Option Value)} {e : Value} {dd : Option Addr} {vs : Array Value} {sl : Array (Option Value)}
    (X : K.In h) (G : h.Ns mainGlobals mg) (own : LamX.OwnTab K fa h) (hfa : mg "law" = some (.ref fa)) (fx : ∀ base : Heap, Fx ⟨l.prog, w, K, mg, base⟩)
    (plain : ∀ (ns : List Int) (cell : Cell), IsScript ns cell → ns.length ≤ 63 → (∀ z ∈ ns, Builtin.Int.intBits z ≤ 1048576) → ∃ st', defM 1 16 m_law [.ref 0] [cell] = .ok (.bl true) st')
    (a_law : PySem.W.nsIn K mainGlobals "law" = some (some (.ref f))) (z1 : PySem.W.nsIn K mainGlobals "_law_refused" = some none) (z2 : PySem.W.nsIn K mainGlobals "_law_changed" = some none)
    (lk : K.lookup f = some ⟨oc, od, .func (PySem.W.fnOf "law" "law" (defArgs s_law) (defBody s_law) (defScope s_law) .none kV doc pm an (.ref c) ct), osl⟩) (hcd : PySem.W.codeIn K (.ref c) "law" = true)
    (lc : K.lookup c = some ⟨e, dd, .fields vs, sl⟩) (h11 : vs[11]? = some (.ref P)) (nP : K.lookup P = none) (hh : codeHdB e vs c P = true) :
    LamX.LawAtS l w K (L2.CX l.prog w) 9 63 "_law_script" mg fa h := by
  cases hfa.symm.trans (PySem.W.mg_of X G a_law)
  exact law_at X own hfa (PySem.W.mg_none_of X G z1) (PySem.W.mg_none_of X G z2) lk hcd lc h11 nP (codeHd_by lc hh) sc_law rfl (fun s u => .of_eq rfl) (fun base hK hNs TB hmT huT A outer s H E hr => j_law (fx base) TB hmT huT hr) plain

end K47

set_option Elab.async false
set_option linter.all false
set_option maxRecDepth 100000
set_option maxHeartbeats 2000000
namespace K47
open PySem PySem.Spec PyProof.Rows L2
open Ab (Val Cell Store Slots R O ME MT MA MS MF MG MGs MI MO Chk Wish Exc seqAt Keep Draws New Wr)
open Vc (WpR WpO WpG)
/-! steppers: sizeOf_list_dec closes side conditions; array_get_dec looks a cell up; array_mem_dec is one step of a wish -/
local macro_rules | `(tactic| sizeOf_list_dec) => `(tactic| (simp only [List.length_append, List.length_map, List.length_cons, List.length_nil, List.length_set, List.length_range] at *; omega))
local macro_rules | `(tactic| sizeOf_list_dec) => `(tactic| decide)
local macro_rules | `(tactic| sizeOf_list_dec) => `(tactic| ((with_reducible apply Vc.ne_new'); assumption; array_get_dec))
local macro_rules | `(tactic| sizeOf_list_dec) => `(tactic| ((with_reducible apply Vc.ne_new); assumption; array_get_dec))
local macro_rules | `(tactic| sizeOf_list_dec) => `(tactic| (with_reducible exact Ne.symm (by assumption)))
local macro_rules | `(tactic| sizeOf_list_dec) => `(tactic| omega)
local macro_rules | `(tactic| sizeOf_list_dec) => `(tactic| ((refine Nat.le_trans ?_ (by assumption : Nat.le (List.length (α := Ab.Cell) _) _)); sizeOf_list_dec))
local macro_rules | `(tactic| sizeOf_list_dec) => `(tactic| ((with_reducible refine Vc.k_len (by assumption) ?_); sizeOf_list_dec))
local macro_rules | `(tactic| sizeOf_list_dec) => `(tactic| with_reducible exact Nat.le_refl _)
local macro_rules | `(tactic| sizeOf_list_dec) => `(tactic| ((with_reducible refine Vc.nin_cons ?_ ?_); sizeOf_list_dec; sizeOf_list_dec))
local macro_rules | `(tactic| sizeOf_list_dec) => `(tactic| with_reducible exact List.not_mem_nil)
local macro_rules | `(tactic| sizeOf_list_dec) => `(tactic| ((with_reducible refine Vc.hs_cons ?_ ?_); ((first | exact Or.inl (List.Mem.head _) | exact Or.inl (List.Mem.tail _ (List.Mem.head _)) | exact Or.inl (List.Mem.tail _ (List.Mem.tail _ (List.Mem.head _))) | exact Or.inl (List.Mem.tail _ (List.Mem.tail _ (List.Mem.tail _ (List.Mem.head _)))) | exact Or.inl (List.Mem.tail _ (List.Mem.tail _ (List.Mem.tail _ (List.Mem.tail _ (List.Mem.head _))))) | exact Or.inl (List.Mem.tail _ (List.Mem.tail _ (List.Mem.tail _ (List.Mem.tail _ (List.Mem.tail _ (List.Mem.head _)))))) | exact Or.inl (List.Mem.tail _ (List.Mem.tail _ (List.Mem.tail _ (List.Mem.tail _ (List.Mem.tail _ (List.Mem.tail _ (List.Mem.head _))))))) | (apply Or.inr; sizeOf_list_dec))); sizeOf_list_dec))
local macro_rules | `(tactic| sizeOf_list_dec) => `(tactic| with_reducible exact Vc.hs_nil)
local macro_rules | `(tactic| sizeOf_list_dec) => `(tactic| ((with_reducible refine Vc.k_seq ?_ (by assumption) ?_); sizeOf_list_dec; sizeOf_list_dec))
local macro_rules | `(tactic| sizeOf_list_dec) => `(tactic| with_reducible exact Ab.Keep.refl)
local macro_rules | `(tactic| sizeOf_list_dec) => `(tactic| assumption)
local macro_rules | `(tactic| array_get_dec) => `(tactic| ((with_reducible apply Vc.get_push); array_get_dec))
local macro_rules | `(tactic| array_get_dec) => `(tactic| with_reducible exact Vc.get_last)
local macro_rules | `(tactic| array_get_dec) => `(tactic| (refine Ab.Keep.get (by assumption) (by first | array_get_dec | fail) ?_; sizeOf_list_dec))
local macro_rules | `(tactic| array_get_dec) => `(tactic| assumption)
local macro_rules | `(tactic| array_mem_dec) => `(tactic| ((first | (with_reducible show Vc.WpO _ _) | (with_reducible show Vc.WpR _ _ _) | (with_reducible show Ab.NF _ _ _ _)); simp only [List.set_cons_succ, List.set_cons_zero, Ab.wipeM, List.map_cons, List.map_nil, List.cons_append, List.nil_append, List.replicate, -eq_self]))
local macro_rules | `(tactic| array_mem_dec) => `(tactic| with_reducible apply Vc.b_ok)
local macro_rules | `(tactic| array_mem_dec) => `(tactic| with_reducible apply Vc.and_wp)
local macro_rules | `(tactic| array_mem_dec) => `(tactic| ((with_reducible apply Vc.wr_by); intro _ _ _))
local macro_rules | `(tactic| array_mem_dec) => `(tactic| ((with_reducible apply Vc.new_by); intro _ _ _ _ _))
local macro_rules | `(tactic| array_mem_dec) => `(tactic| ((with_reducible apply And.intro); ((with_reducible apply Vc.ty_lst); array_get_dec)))
local macro_rules | `(tactic| array_mem_dec) => `(tactic| with_reducible apply Vc.ite_nrfl)
local macro_rules | `(tactic| array_mem_dec) => `(tactic| with_reducible apply Vc.ite_rfl)
local macro_rules | `(tactic| array_mem_dec) => `(tactic| with_reducible apply Vc.ite_nf)
local macro_rules | `(tactic| array_mem_dec) => `(tactic| with_reducible apply Vc.ite_nt)
local macro_rules | `(tactic| array_mem_dec) => `(tactic| with_reducible apply Vc.ite_f)
local macro_rules | `(tactic| array_mem_dec) => `(tactic| with_reducible apply Vc.ite_t)
local macro_rules | `(tactic| array_mem_dec) => `(tactic| with_reducible apply Vc.chk_bl)
local macro_rules | `(tactic| array_mem_dec) => `(tactic| with_reducible apply Vc.v_pow18)
local macro_rules | `(tactic| array_mem_dec) => `(tactic| with_reducible apply Vc.v_pow9)
local macro_rules | `(tactic| array_mem_dec) => `(tactic| with_reducible apply Vc.v_pow6)
local macro_rules | `(tactic| array_mem_dec) => `(tactic| with_reducible apply Vc.v_ge)
local macro_rules | `(tactic| array_mem_dec) => `(tactic| with_reducible apply Vc.v_gt)
local macro_rules | `(tactic| array_mem_dec) => `(tactic| with_reducible apply Vc.v_lt)
local macro_rules | `(tactic| array_mem_dec) => `(tactic| ((with_reducible apply Vc.ex_int); sizeOf_list_dec))
local macro_rules | `(tactic| array_mem_dec) => `(tactic| ((with_reducible apply Vc.one_ins); array_get_dec))
local macro_rules | `(tactic| array_mem_dec) => `(tactic| ((with_reducible apply Vc.two_ins); array_get_dec; array_get_dec))
local macro_rules | `(tactic| array_mem_dec) => `(tactic| with_reducible apply Vc.ex_isiT)
local macro_rules | `(tactic| array_mem_dec) => `(tactic| ((with_reducible apply Vc.ex_isiO); array_get_dec; exact rfl))
local macro_rules | `(tactic| array_mem_dec) => `(tactic| with_reducible apply Vc.v_sumT)
local macro_rules | `(tactic| array_mem_dec) => `(tactic| ((with_reducible apply Vc.v_neO); array_get_dec; array_get_dec))
local macro_rules | `(tactic| array_mem_dec) => `(tactic| ((with_reducible apply Vc.v_eqO); array_get_dec; array_get_dec))
local macro_rules | `(tactic| array_mem_dec) => `(tactic| ((with_reducible apply Vc.v_ninO); array_get_dec))
local macro_rules | `(tactic| array_mem_dec) => `(tactic| ((with_reducible apply Vc.v_inO); array_get_dec))
local macro_rules | `(tactic| array_mem_dec) => `(tactic| ((with_reducible apply Vc.v_div); sizeOf_list_dec))
local macro_rules | `(tactic| array_mem_dec) => `(tactic| ((with_reducible apply Vc.v_mod); sizeOf_list_dec))
local macro_rules | `(tactic| array_mem_dec) => `(tactic| ((with_reducible apply Vc.v_mul); sizeOf_list_dec))
local macro_rules | `(tactic| array_mem_dec) => `(tactic| ((with_reducible apply Vc.v_app); array_get_dec; sizeOf_list_dec))
local macro_rules | `(tactic| array_mem_dec) => `(tactic| ((with_reducible apply Vc.v_addT); sizeOf_list_dec))
local macro_rules | `(tactic| array_mem_dec) => `(tactic| ((with_reducible apply Vc.v_addL); array_get_dec; array_get_dec; sizeOf_list_dec))
local macro_rules | `(tactic| array_mem_dec) => `(tactic| ((with_reducible apply Vc.v_lstL); array_get_dec))
local macro_rules | `(tactic| array_mem_dec) => `(tactic| ((with_reducible apply Vc.v_tupL); array_get_dec))
local macro_rules | `(tactic| array_mem_dec) => `(tactic| ((with_reducible apply Vc.v_lenL); array_get_dec))
local macro_rules | `(tactic| array_mem_dec) => `(tactic| ((with_reducible apply Vc.v_dgetF); array_get_dec; exact rfl))
local macro_rules | `(tactic| array_mem_dec) => `(tactic| ((with_reducible apply Vc.v_dget); array_get_dec; exact rfl))
local macro_rules | `(tactic| array_mem_dec) => `(tactic| ((with_reducible apply Vc.v_ixT); exact rfl))
local macro_rules | `(tactic| array_mem_dec) => `(tactic| ((with_reducible apply Vc.v_ixL); array_get_dec; exact rfl))
local macro_rules | `(tactic| array_mem_dec) => `(tactic| ((with_reducible apply Vc.v_fld'); array_get_dec; exact rfl; first | exact rfl | assumption))
local macro_rules | `(tactic| array_mem_dec) => `(tactic| ((with_reducible apply Vc.ex_subD); array_get_dec; exact rfl))
local macro_rules | `(tactic| array_mem_dec) => `(tactic| ((with_reducible apply Vc.chk_lst); array_get_dec; exact rfl))
local macro_rules | `(tactic| array_mem_dec) => `(tactic| ((with_reducible apply Vc.ex_fld); array_get_dec; exact rfl; exact rfl))
local macro_rules | `(tactic| array_mem_dec) => `(tactic| ((with_reducible apply Vc.ex_meth); ((with_reducible apply Vc.cls_at); array_get_dec); exact rfl))
local macro_rules | `(tactic| array_mem_dec) => `(tactic| ((with_reducible apply Vc.isb_f); exact rfl))
local macro_rules | `(tactic| array_mem_dec) => `(tactic| ((with_reducible apply Vc.isb_t); exact rfl))
local macro_rules | `(tactic| array_mem_dec) => `(tactic| ((with_reducible apply Vc.ex_isi); exact rfl))
local macro_rules | `(tactic| array_mem_dec) => `(tactic| ((with_reducible apply Vc.ex_isiL); array_get_dec))
local macro_rules | `(tactic| array_mem_dec) => `(tactic| ((with_reducible apply Vc.ex_items); array_get_dec))
local macro_rules | `(tactic| array_mem_dec) => `(tactic| ((with_reducible apply Vc.ex_starL); array_get_dec))
local macro_rules | `(tactic| array_mem_dec) => `(tactic| ((with_reducible apply Vc.ex_seqL); array_get_dec))
local macro_rules | `(tactic| array_mem_dec) => `(tactic| with_reducible apply Vc.ex_starT)
local macro_rules | `(tactic| array_mem_dec) => `(tactic| with_reducible apply Vc.ex_zipT)
local macro_rules | `(tactic| array_mem_dec) => `(tactic| with_reducible apply Vc.ex_enumT)
local macro_rules | `(tactic| array_mem_dec) => `(tactic| with_reducible apply Vc.ex_seqT)
local macro_rules | `(tactic| array_mem_dec) => `(tactic| with_reducible apply Vc.ex_key)
local macro_rules | `(tactic| array_mem_dec) => `(tactic| with_reducible apply Vc.ex_chain)
local macro_rules | `(tactic| array_mem_dec) => `(tactic| with_reducible apply Vc.ex_par)
local macro_rules | `(tactic| array_mem_dec) => `(tactic| ((with_reducible apply Vc.len_and); exact rfl))
local macro_rules | `(tactic| array_mem_dec) => `(tactic| with_reducible apply Vc.i_range2)
local macro_rules | `(tactic| array_mem_dec) => `(tactic| with_reducible apply Vc.i_range1)
local macro_rules | `(tactic| array_mem_dec) => `(tactic| with_reducible apply Vc.i_str)
local macro_rules | `(tactic| array_mem_dec) => `(tactic| with_reducible apply Vc.i_zip)
local macro_rules | `(tactic| array_mem_dec) => `(tactic| with_reducible apply Vc.i_enum)
local macro_rules | `(tactic| array_mem_dec) => `(tactic| with_reducible apply Vc.i_seq)
local macro_rules | `(tactic| array_mem_dec) => `(tactic| with_reducible apply Vc.g_subD)
local macro_rules | `(tactic| array_mem_dec) => `(tactic| with_reducible apply Vc.g_subL)
local macro_rules | `(tactic| array_mem_dec) => `(tactic| with_reducible apply Vc.g_fld)
local macro_rules | `(tactic| array_mem_dec) => `(tactic| ((with_reducible apply Vc.g_tupS); sizeOf_list_dec))
local macro_rules | `(tactic| array_mem_dec) => `(tactic| ((with_reducible apply Vc.g_tup); exact rfl))
local macro_rules | `(tactic| array_mem_dec) => `(tactic| with_reducible apply Vc.g_nil)
local macro_rules | `(tactic| array_mem_dec) => `(tactic| with_reducible apply Vc.g_cons)
local macro_rules | `(tactic| array_mem_dec) => `(tactic| with_reducible apply Vc.g_set)
local macro_rules | `(tactic| array_mem_dec) => `(tactic| with_reducible apply Vc.b_yes)
local macro_rules | `(tactic| array_mem_dec) => `(tactic| with_reducible apply Vc.b_dc)
local macro_rules | `(tactic| array_mem_dec) => `(tactic| with_reducible apply Vc.b_lc)
local macro_rules | `(tactic| array_mem_dec) => `(tactic| with_reducible apply Vc.b_for)
local macro_rules | `(tactic| array_mem_dec) => `(tactic| with_reducible apply Vc.b_raise0)
local macro_rules | `(tactic| array_mem_dec) => `(tactic| with_reducible apply Vc.b_raise)
local macro_rules | `(tactic| array_mem_dec) => `(tactic| ((with_reducible apply Vc.b_makeV); exact rfl))
local macro_rules | `(tactic| array_mem_dec) => `(tactic| with_reducible apply Vc.b_cm)
local macro_rules | `(tactic| array_mem_dec) => `(tactic| ((with_reducible apply Vc.b_sup); exact rfl))
local macro_rules | `(tactic| array_mem_dec) => `(tactic| with_reducible apply Vc.b_opG)
local macro_rules | `(tactic| array_mem_dec) => `(tactic| with_reducible apply Vc.b_con)
local macro_rules | `(tactic| array_mem_dec) => `(tactic| with_reducible apply Vc.b_make0)
local macro_rules | `(tactic| array_mem_dec) => `(tactic| with_reducible apply Vc.b_fldaug)
local macro_rules | `(tactic| array_mem_dec) => `(tactic| with_reducible apply Vc.b_fldm)
local macro_rules | `(tactic| array_mem_dec) => `(tactic| with_reducible apply Vc.b_par)
local macro_rules | `(tactic| array_mem_dec) => `(tactic| with_reducible apply Vc.b_asg)
local macro_rules | `(tactic| array_mem_dec) => `(tactic| with_reducible apply Vc.b_cont)
local macro_rules | `(tactic| array_mem_dec) => `(tactic| with_reducible apply Vc.b_break)
local macro_rules | `(tactic| array_mem_dec) => `(tactic| ((with_reducible apply Vc.b_aug); exact rfl))
local macro_rules | `(tactic| array_mem_dec) => `(tactic| with_reducible apply Vc.b_outOne)
local macro_rules | `(tactic| array_mem_dec) => `(tactic| with_reducible apply Vc.b_outcome)
local macro_rules | `(tactic| array_mem_dec) => `(tactic| with_reducible apply Vc.b_len)
local macro_rules | `(tactic| array_mem_dec) => `(tactic| with_reducible apply Vc.i_vals)
local macro_rules | `(tactic| array_mem_dec) => `(tactic| with_reducible apply Vc.i_keys)
local macro_rules | `(tactic| array_mem_dec) => `(tactic| with_reducible apply Vc.b_disp0)
local macro_rules | `(tactic| array_mem_dec) => `(tactic| with_reducible apply Vc.b_isiO)
local macro_rules | `(tactic| array_mem_dec) => `(tactic| with_reducible apply Vc.b_opT)
local macro_rules | `(tactic| array_mem_dec) => `(tactic| with_reducible apply Vc.b_getO)
local macro_rules | `(tactic| array_mem_dec) => `(tactic| with_reducible apply Vc.b_call)
local macro_rules | `(tactic| array_mem_dec) => `(tactic| with_reducible apply Vc.b_op)
local macro_rules | `(tactic| array_mem_dec) => `(tactic| with_reducible apply Vc.b_star)
local macro_rules | `(tactic| array_mem_dec) => `(tactic| with_reducible apply Vc.b_isi)
local macro_rules | `(tactic| array_mem_dec) => `(tactic| with_reducible apply Vc.b_items)
local macro_rules | `(tactic| array_mem_dec) => `(tactic| with_reducible apply Vc.b_pnil)
local macro_rules | `(tactic| array_mem_dec) => `(tactic| with_reducible apply Vc.b_pcons)
local macro_rules | `(tactic| array_mem_dec) => `(tactic| with_reducible apply Vc.b_disp)
local macro_rules | `(tactic| array_mem_dec) => `(tactic| with_reducible apply Vc.b_neg)
local macro_rules | `(tactic| array_mem_dec) => `(tactic| with_reducible apply Vc.b_oSome)
local macro_rules | `(tactic| array_mem_dec) => `(tactic| with_reducible apply Vc.b_oNone)
local macro_rules | `(tactic| array_mem_dec) => `(tactic| with_reducible apply Vc.b_cut)
local macro_rules | `(tactic| array_mem_dec) => `(tactic| with_reducible apply Vc.b_dget)
local macro_rules | `(tactic| array_mem_dec) => `(tactic| with_reducible apply Vc.b_make)
local macro_rules | `(tactic| array_mem_dec) => `(tactic| with_reducible apply Vc.b_prop)
local macro_rules | `(tactic| array_mem_dec) => `(tactic| with_reducible apply Vc.b_meth)
local macro_rules | `(tactic| array_mem_dec) => `(tactic| with_reducible apply Vc.b_BM)
local macro_rules | `(tactic| array_mem_dec) => `(tactic| with_reducible apply Vc.b_fld)
local macro_rules | `(tactic| array_mem_dec) => `(tactic| with_reducible apply Vc.b_mnot)
local macro_rules | `(tactic| array_mem_dec) => `(tactic| with_reducible apply Vc.b_or)
local macro_rules | `(tactic| array_mem_dec) => `(tactic| with_reducible apply Vc.b_and)
local macro_rules | `(tactic| array_mem_dec) => `(tactic| with_reducible apply Vc.b_if)
local macro_rules | `(tactic| array_mem_dec) => `(tactic| with_reducible apply Vc.b_chainI)
local macro_rules | `(tactic| array_mem_dec) => `(tactic| with_reducible apply Vc.b_lst)
local macro_rules | `(tactic| array_mem_dec) => `(tactic| with_reducible apply Vc.b_tup)
local macro_rules | `(tactic| array_mem_dec) => `(tactic| with_reducible apply Vc.b_app)
local macro_rules | `(tactic| array_mem_dec) => `(tactic| with_reducible apply Vc.b_tor)
local macro_rules | `(tactic| array_mem_dec) => `(tactic| with_reducible apply Vc.b_tand)
local macro_rules | `(tactic| array_mem_dec) => `(tactic| with_reducible apply Vc.b_not)
local macro_rules | `(tactic| array_mem_dec) => `(tactic| with_reducible apply Vc.b_test)
local macro_rules | `(tactic| array_mem_dec) => `(tactic| with_reducible apply Vc.b_next)
local macro_rules | `(tactic| array_mem_dec) => `(tactic| with_reducible apply Vc.b_sif)
local macro_rules | `(tactic| array_mem_dec) => `(tactic| with_reducible apply Vc.b_drop)
local macro_rules | `(tactic| array_mem_dec) => `(tactic| with_reducible apply Vc.b_ret)
local macro_rules | `(tactic| array_mem_dec) => `(tactic| with_reducible apply Vc.b_set)
local macro_rules | `(tactic| array_mem_dec) => `(tactic| with_reducible apply Vc.b_seq)
local macro_rules | `(tactic| array_mem_dec) => `(tactic| with_reducible apply Vc.b_aNil)
local macro_rules | `(tactic| array_mem_dec) => `(tactic| with_reducible apply Vc.b_aCons)
local macro_rules | `(tactic| array_mem_dec) => `(tactic| with_reducible apply Vc.b_bin)
local macro_rules | `(tactic| array_mem_dec) => `(tactic| with_reducible apply Vc.b_C)
local macro_rules | `(tactic| array_mem_dec) => `(tactic| ((with_reducible apply Vc.b_var); exact rfl))
local macro_rules | `(tactic| array_mem_dec) => `(tactic| with_reducible apply Vc.nf0)
local macro_rules | `(tactic| array_mem_dec) => `(tactic| with_reducible apply Vc.nf1)
local macro_rules | `(tactic| array_mem_dec) => `(tactic| with_reducible apply Vc.nf4)
theorem next_spec {h c : Nat} {st : Store} {lim : Int} (d : Draws h c st) (h0 : 0 < lim) (h1 : lim < 2 ^ 64) :
    WpR (f_law_next [.ref h, .int lim] st) (fun v st' => (∃ r : Int, v = .int r ∧ 0 ≤ r ∧ r < lim) ∧ Draws h c st' ∧ Keep [h, c] st st') (fun _ _ => False) := Vc.of_ab (Ab.next_spec d h0 h1)
theorem mix_spec {n : Nat} {st : Store} {ns : List Int} {seed : Int} (hs : seqAt st n = some (ns.map .int)) (hl : ns.length ≤ 63) (h0 : 0 ≤ seed) (h1 : seed < 2147483647) :
    WpR (f_law_mix [.ref n, .int seed] st) (fun v st' => ∃ h c, v = .ref h ∧ Draws h c st' ∧ Keep [] st st') (fun _ _ => False) := Vc.of_ab (Ab.mix_spec hs hl h0 h1)
theorem Row_len_spec {i : Nat} {w : Val} {xs : List Val} {st : Store} (h : st[i]? = some (.ins 13 [(29, w), (30, .tup xs)])) : WpR (f_Row_len [.ref i] st) (fun v s => v = .int xs.length ∧ s = st) (fun _ _ => False) := by
  refine Vc.b_def rfl ?_
  unfold m_Row_len
  repeat' (first | array_mem_dec | fail)
  exact ⟨rfl, rfl⟩
theorem val_spec {a b c : Int} {st : Store} : WpR (f_validate_number [.int a, .int b, .int c] st) (fun v s => v = .non ∧ s = st ∧ b ≤ a ∧ a ≤ c) (fun x s => x = ⟨4, []⟩ ∧ s = st ∧ ¬(b ≤ a ∧ a ≤ c)) := by
  refine Vc.b_def rfl ?_
  unfold m_validate_number
  repeat' (first | array_mem_dec | fail)
  refine Vc.ite_nd (fun h => ?_) (fun h => ?_)
  · repeat' (first | array_mem_dec | fail)
    exact ⟨rfl, rfl, h⟩
  · repeat' (first | array_mem_dec | fail)
    exact ⟨rfl, rfl, h⟩
theorem Row_barrels_spec {i : Nat} {w v : Val} {st : Store} (h : st[i]? = some (.ins 13 [(29, w), (30, v)])) : WpR (f_Row_barrels [.ref i] st) (fun x s => x = v ∧ s = st) (fun _ _ => False) := by
  refine Vc.b_def rfl ?_
  unfold m_Row_barrels
  repeat' (first | array_mem_dec | fail)
  exact ⟨rfl, rfl⟩
theorem rep_zero (n : Nat) : Ab.repW' n [Val.int 0] = (List.replicate n (0 : Int)).map .int := by
  unfold Ab.repW'
  induction n with
  | zero => rfl
  | succ n ih => rw [List.replicate_succ, List.flatten_cons, ih, List.replicate_succ]; rfl

structure Bar where
  nm : Str
  cap : Int
  roof : Int
  dr : List Int
def Bar.val (b : Bar) : Val := .tup [.str b.nm, .int b.cap, .int b.roof, .tup (b.dr.map .int)]
def Bar.dat (b : Bar) : PyData := .tuple [.str b.nm, .int b.cap, .int b.roof, .tuple (b.dr.map .int)]
theorem Bar.val_eq (b : Bar) : b.val = .tup [.str b.nm, .int b.cap, .int b.roof, .tup (b.dr.map .int)] := rfl
def nameOk (z : Str) : Prop := 1 ≤ z.length ∧ z.length ≤ 8 ∧ ∀ c ∈ z.cps.toList, c ∈ ("abcdefghijklmnopqrstuvwxyz" : Str).cps.toList
structure Bar.Ok (b : Bar) (t : Nat) : Prop where
  nm : nameOk b.nm
  lay : PyData.canLay0 (.str b.nm) = true
  c0 : 0 ≤ b.cap
  c1 : b.cap ≤ 1000000000
  r0 : 0 ≤ b.roof
  r1 : b.roof ≤ 100
  dl : b.dr.length = t
  d01 : ∀ d ∈ b.dr, 0 ≤ d ∧ d ≤ 1000000000
theorem Bar.deep {b : Bar} {t : Nat} (h : b.Ok t) {st : Store} {n : Nat} : Ab.deep st (n + 3) b.val = some b.dat := by
  have e : ∀ i : Int, Ab.deep st (n + 2) (.int i) = some (.int i) := fun i => by rw [Ab.deep]
  have s : Ab.deep st (n + 2) (.str b.nm) = some (.str b.nm) := by rw [Ab.deep, if_pos h.lay]
  unfold Bar.val Bar.dat
  rw [Ab.deep, Ab.mapO, s, Ab.mapO, e, Ab.mapO, e, Ab.mapO, Vc.deep_ints]
  rfl
theorem is_name_spec {z : Str} {st : Store} (h : nameOk z) : WpR (f_is_name [.str z] st) (fun v s => v = .bl true ∧ Keep [] st s) (fun _ _ => False) := by
  obtain ⟨h1, h2, h3⟩ := h
  refine Vc.b_def rfl ?_
  unfold m_is_name
  repeat' (first | array_mem_dec | fail)
  refine Vc.b_ifok (by rw [sizeLine_eq]; omega) ?_
  repeat' (first | array_mem_dec | fail)
  rw [decide_eq_true (by omega)]
  repeat' (first | array_mem_dec | fail)
  refine ⟨z, rfl, ?_⟩
  repeat' (first | array_mem_dec | fail)
  refine Vc.lc_map (fun c => .bl true) (fun _ => trivial) (by rw [Array.length_toList]; show z.length ≤ _; omega) (fun c hc acc => ?_) ?_
  · repeat' (first | array_mem_dec | fail)
    refine ⟨?_, rfl⟩
    rw [decide_eq_true (h3 c hc)]
  repeat' (first | array_mem_dec | fail)
  refine Vc.v_allL (bs := z.cps.toList.map fun _ => true) (by rw [List.map_map]; (first | array_get_dec | fail)) ?_
  refine ⟨?_, by (first | sizeOf_list_dec | fail)⟩
  simp
theorem is_barrel_spec {b : Bar} {t : Nat} {st : Store} (h : b.Ok t) (ht : t ≤ 100000) : WpR (f_is_barrel [b.val, .int t] st) (fun v s => v = .bl true ∧ Keep [] st s) (fun _ _ => False) := by
  refine Vc.b_def rfl ?_
  unfold m_is_barrel Bar.val
  repeat' (first | array_mem_dec | fail)
  refine Vc.via0 (is_name_spec h.nm) fun v s hv => ?_
  obtain ⟨rfl, k1⟩ := hv
  repeat' (first | array_mem_dec | fail)
  try simp only [Bool.not_true, Bool.not_false, -eq_self]
  repeat' (first | array_mem_dec | fail)
  have := h.c0; have := h.c1; have := h.r0; have := h.r1
  rw [decide_eq_true (by omega)]
  try simp only [Bool.not_true, Bool.not_false, -eq_self]
  repeat' (first | array_mem_dec | fail)
  rw [decide_eq_true (by omega)]
  try simp only [Bool.not_true, Bool.not_false, -eq_self]
  repeat' (first | array_mem_dec | fail)
  rw [List.length_map, decide_eq_true (by have := h.dl; omega)]
  repeat' (first | array_mem_dec | fail)
  refine Vc.lc_map (fun c => .bl true) (fun _ => trivial) (by have := h.dl; omega) (fun c hc acc => ?_) ?_
  · repeat' (first | array_mem_dec | fail)
    refine ⟨?_, rfl⟩
    rw [decide_eq_true (h.d01 c hc)]
  repeat' (first | array_mem_dec | fail)
  refine Vc.v_allL (bs := b.dr.map fun _ => true) (by rw [List.map_map]; (first | array_get_dec | fail)) ?_
  refine ⟨?_, by (first | sizeOf_list_dec | fail)⟩
  simp

def RF (rain : List Int) (bars : List Bar) : List (Nat × Val) := [(29, .tup (rain.map .int)), (30, .tup (bars.map Bar.val))]
structure RowOk (rain : List Int) (bars : List Bar) : Prop where
  n0 : 0 < rain.length
  n1 : rain.length ≤ 12
  r01 : ∀ r ∈ rain, 0 ≤ r ∧ r ≤ 1000000
  b0 : 0 < bars.length
  b1 : bars.length ≤ 5
  ok : ∀ b ∈ bars, b.Ok rain.length
  nd : (bars.map Bar.nm).Nodup
theorem take_not_mem {α β : Type} {f : α → β} {xs : List α} {i : Nat} {x : α} (h : (xs.map f).Nodup) (e : xs[i]? = some x) : f x ∉ (xs.take i).map f := fun z => by
  obtain ⟨y, hy, e'⟩ := List.mem_map.mp z
  obtain ⟨j, hj, e2⟩ := List.mem_iff_getElem.mp hy
  rw [List.getElem_take] at e2
  have hj' : j < i ∧ j < xs.length := by simp at hj; omega
  obtain ⟨hi, e3⟩ := List.getElem?_eq_some_iff.mp e
  have hij : i ≠ j := by omega
  refine hij ((List.getElem_inj (i := i) (j := j) (h₀ := by simpa using hi) (h₁ := by simpa using hj'.2) h).mp ?_)
  rw [List.getElem_map, List.getElem_map, e3, e2, e']
theorem Row_init_spec {i : Nat} {rain : List Int} {bars : List Bar} {st : Store} (h : RowOk rain bars) (hi : st[i]? = some (.ins 13 [])) :
    WpR (f_Row_init (.ref i :: .tup (rain.map .int) :: bars.map Bar.val) st) (fun v s => v = .non ∧ s[i]? = some (.ins 13 (RF rain bars)) ∧ Keep [i] st s) (fun _ _ => False) := by
  refine Vc.b_defS (by have := h.b1; simp; omega) ?_
  unfold m_Row_init
  have := h.n0; have := h.n1; have := h.b0; have := h.b1
  simp only [List.take, List.drop, -eq_self]
  repeat' (first | array_mem_dec | fail)
  rw [Vc.enum_map]
  refine Vc.for_l (fun d ρ s => s = st ∧ ∃ a b, ρ = [some (.ref i), some (.tup (rain.map .int)), some (.tup (bars.map Bar.val)), a, b, none, none, none]) (fun _ _ _ _ => trivial) ?_ ?_ ⟨rfl, none, none, rfl⟩
  · rintro d ⟨r, j⟩ rest ρ s e ⟨rfl, a, b, rfl⟩
    obtain ⟨e1, e2, e3, e4⟩ := Vc.idx_split e
    simp only at e1 e2
    repeat' (first | array_mem_dec | fail)
    rw [decide_eq_false (by omega)]
    repeat' (first | array_mem_dec | fail)
    rw [decide_eq_true (h.r01 r (List.mem_of_getElem? e1))]
    try simp only [Bool.not_true, Bool.not_false, -eq_self]
    repeat' (first | array_mem_dec | fail)
    exact ⟨rfl, _, _, rfl⟩
  · rintro ρ s ⟨rfl, a, b, rfl⟩
    repeat' (first | array_mem_dec | fail)
    refine Vc.v_eqTI0 ?_
    repeat' (first | array_mem_dec | fail)
    rw [decide_eq_false (List.ne_nil_of_length_pos (by omega))]
    repeat' (first | array_mem_dec | fail)
    rw [Vc.enum_map]
    refine Vc.for_l (fun d ρ s' => Keep [] s s' ∧ ∃ a b c d, ρ = [some (.ref i), some (.tup (rain.map .int)), some (.tup (bars.map Bar.val)), a, b, c, d, none]) (fun _ _ _ _ => trivial) ?_ ?_ ⟨by (first | sizeOf_list_dec | fail), _, _, _, _, rfl⟩
    · rintro d ⟨r, j⟩ rest ρ s1 e ⟨k1, a, b, c, dd, rfl⟩
      obtain ⟨e1, e2, e3, e4⟩ := Vc.idx_split e
      simp only at e1 e2
      repeat' (first | array_mem_dec | fail)
      rw [Vc.cut_take, ← List.map_take]
      repeat' (first | array_mem_dec | fail)
      refine Vc.lc_map (fun b : Bar => .str b.nm) (fun _ => trivial) (by simp; omega) (fun c hc acc => ?_) ?_
      · unfold Bar.val
        repeat' (first | array_mem_dec | fail)
        exact ⟨rfl, rfl⟩
      repeat' (first | array_mem_dec | fail)
      rw [decide_eq_false (by omega)]
      repeat' (first | array_mem_dec | fail)
      rw [List.length_map]
      refine Vc.via0 (is_barrel_spec (h.ok r (List.mem_of_getElem? e1)) (by omega)) fun v s2 hv => ?_
      obtain ⟨rfl, k2⟩ := hv
      repeat' (first | array_mem_dec | fail)
      try simp only [Bool.not_true, Bool.not_false, -eq_self]
      repeat' (first | array_mem_dec | fail)
      unfold Bar.val
      repeat' (first | array_mem_dec | fail)
      refine Vc.v_inLs (ys := (bars.take j).map Bar.nm) (by rw [List.map_map]; (first | array_get_dec | fail)) ?_
      repeat' (first | array_mem_dec | fail)
      rw [decide_eq_false (take_not_mem h.nd (e2 ▸ e1))]
      repeat' (first | array_mem_dec | fail)
      exact ⟨by (first | sizeOf_list_dec | fail), _, _, _, _, rfl⟩
    · rintro ρ s1 ⟨k1, a, b, c, d, rfl⟩
      repeat' (first | array_mem_dec | fail)
      refine Vc.v_eqT0 (fun b hb => Bar.deep (h.ok b hb)) ?_
      repeat' (first | array_mem_dec | fail)
      rw [decide_eq_false (List.ne_nil_of_length_pos (by omega))]
      repeat' (first | array_mem_dec | fail)
      refine ⟨rfl, by assumption, ?_⟩
      (first | sizeOf_list_dec | fail)
theorem Row_add_spec {i j : Nat} {rain : List Int} {b1 b2 : List Bar} {st : Store} (h : RowOk rain (b1 ++ b2)) (hi : st[i]? = some (.ins 13 (RF rain b1))) (hj : st[j]? = some (.ins 13 (RF rain b2))) :
    WpR (f_Row_add [.ref i, .ref j] st) (fun v s => ∃ k, v = .ref k ∧ s[k]? = some (.ins 13 (RF rain (b1 ++ b2))) ∧ Keep [] st s ∧ st.length ≤ k) (fun _ _ => False) := by
  refine Vc.b_def rfl ?_
  unfold m_Row_add
  have := h.b1
  simp only [List.length_append] at this
  repeat' (first | array_mem_dec | fail)
  refine Vc.v_neTI ?_
  repeat' (first | array_mem_dec | fail)
  rw [← List.map_append]
  repeat' (first | array_mem_dec | fail)
  rw [List.append_nil]
  refine Vc.via0 (Row_init_spec h (by (first | array_get_dec | fail))) fun v s hv => ?_
  obtain ⟨rfl, h1, h2⟩ := hv
  exact ⟨rfl, _, rfl, h1, by (first | sizeOf_list_dec | fail), by (first | sizeOf_list_dec | fail)⟩
def nm4 : List Str := ["top", "mid", "low", "abcdefgh"]
theorem nm4_ok : ∀ z ∈ nm4, nameOk z ∧ PyData.canLay0 (.str z) = true := by
  intro z hz
  simp only [nm4, List.mem_cons, List.not_mem_nil, or_false] at hz
  rcases hz with e | e | e | e <;> subst e <;> exact ⟨⟨by decide +kernel, by decide +kernel, by decide +kernel⟩, by decide +kernel⟩
theorem nm4_nd : nm4.Nodup := by decide +kernel

structure Parts (rain : List Int) (bars : List Bar) (most wide : Int) : Prop where
  n0 : 0 < rain.length
  n1 : (rain.length : Int) ≤ most
  r01 : ∀ r ∈ rain, 0 ≤ r ∧ r < wide
  b0 : 0 < bars.length
  b1 : bars.length ≤ 4
  nms : bars.map Bar.nm = nm4.take bars.length
  ok : ∀ b ∈ bars, 0 ≤ b.cap ∧ b.cap < 5 * wide ∧ 0 ≤ b.roof ∧ b.roof < 3 ∧ b.dr.length = rain.length ∧ ∀ d ∈ b.dr, 0 ≤ d ∧ d < 2 * wide
theorem Parts.row {rain : List Int} {bars : List Bar} {most wide : Int} (p : Parts rain bars most wide) (h1 : most ≤ 12) (h2 : wide ≤ 1000000) : RowOk rain bars := by
  have hn : ∀ b ∈ bars, b.nm ∈ nm4 := fun b hb => List.mem_of_mem_take (p.nms ▸ List.mem_map_of_mem hb)
  have := p.n1; have := p.b1
  exact ⟨p.n0, by omega, fun r hr => ⟨(p.r01 r hr).1, by have := (p.r01 r hr).2; omega⟩, p.b0, by omega,
    fun b hb => by
      obtain ⟨c0, c1, r0, r1, dl, hd⟩ := p.ok b hb
      exact ⟨(nm4_ok _ (hn b hb)).1, (nm4_ok _ (hn b hb)).2, c0, by omega, r0, by omega, dl, fun d hh => ⟨(hd d hh).1, by have := (hd d hh).2; omega⟩⟩,
    by rw [p.nms]; exact nm4_nd.sublist (List.take_sublist _ _)⟩

theorem draws_lc {h c n : Nat} {lim : Int} {st : Store} {g : Nat} {ρ : Slots} {elt : ME} {X : Exc → Store → Prop} {Q : Val → Store → Prop} {okp : Store → Prop} (hok : ∀ s, okp s) (hn : n ≤ 1000) (d0 : Draws h c st)
    (he : ∀ (i : Nat) s, Draws h c s → WpR (elt (ρ.set g (some (.int i))) s) (fun v s' => (∃ r : Int, v = .int r ∧ 0 ≤ r ∧ r < lim) ∧ Draws h c s' ∧ Keep [h, c] s s') fun _ _ => False)
    (q : ∀ (D : Nat) (rs : List Int) (s : Store), s[D]? = some (.lst (rs.map .int)) → rs.length = n → (∀ r ∈ rs, 0 ≤ r ∧ r < lim) → Draws h c s → Keep [h, c] st s → st.length ≤ D → Q (.ref D) s) :
    WpR (Ab.lcM (Se.gSet g) Se.mYes elt okp st.length ρ ((List.range n).map fun i : Nat => Val.int i) (st ++ [.lst []])) Q X := by
  refine Vc.lc_new fun D s0 hD k0 hl => ?_
  have hh : h < st.length ∧ c < st.length := by
    obtain ⟨_, _, _, e1, e2, _⟩ := d0
    exact ⟨Vc.lt_of e1, Vc.lt_of e2⟩
  refine Vc.lcY_l (fun d acc s => ∃ rs : List Int, acc = rs.map .int ∧ rs.length = d.length ∧ (∀ r ∈ rs, 0 ≤ r ∧ r < lim) ∧ Draws h c s ∧ Keep [h, c] st s ∧ D < s.length) (fun _ _ s _ => hok s) ?_ ?_ ⟨[], rfl, rfl, (fun _ z => by cases z), d0.keep k0 (by simp) (by simp), by (first | sizeOf_list_dec | fail), Vc.lt_of hD⟩ hD
  · rintro d x rest acc s e ⟨rs, rfl, hl1, hr, dr, kp, _⟩ hs
    obtain ⟨e1, e2, e3⟩ := Vc.range_split e
    repeat' (first | array_mem_dec | fail)
    refine Vc.via0 (he x s dr) fun v s1 hv => ?_
    obtain ⟨⟨r, rfl, r0, r1⟩, d1, k1⟩ := hv
    have hs1 : s1[D]? = some (.lst (rs.map .int)) := k1.get hs (by simp; omega)
    refine ⟨hs1, by simp; omega, ?_⟩
    intro s2 hs2 k2
    refine ⟨rs ++ [r], by simp, by simp [hl1], fun z hz => ?_, d1.keep k2 (by simp; omega) (by simp; omega), ?_, Vc.lt_of hs2⟩
    · rcases List.mem_append.mp hz with hz | hz
      · exact hr z hz
      · rw [List.mem_singleton.mp hz]; exact ⟨r0, r1⟩
    · (first | sizeOf_list_dec | fail)
  · rintro acc s ⟨rs, rfl, hl1, hr, dr, kp, _⟩ hs
    exact q D rs s hs (by simpa using hl1) hr dr kp hl
theorem times01 {r lim : Int} {b : Bool} (h0 : 0 ≤ r) (h1 : r < lim) : 0 ≤ r * (if b then 1 else 0) ∧ r * (if b then 1 else 0) < lim := by
  cases b <;> simp <;> omega
theorem parts_spec {h c : Nat} {most wide : Int} {st : Store} (d0 : Draws h c st) (m0 : 0 < most) (m1 : most ≤ 12) (w0 : 0 < wide) (w1 : wide ≤ 1000000) :
    WpR (f_law_parts [.ref h, .int most, .int wide] st) (fun v s => ∃ rain bars, v = .tup [.tup (rain.map .int), .tup (bars.map Bar.val)] ∧ Parts rain bars most wide ∧ Draws h c s ∧ Keep [h, c] st s) (fun _ _ => False) := by
  have hh : h < st.length ∧ c < st.length := by
    obtain ⟨_, _, _, e1, e2, _⟩ := d0
    exact ⟨Vc.lt_of e1, Vc.lt_of e2⟩
  refine Vc.b_def rfl ?_
  unfold m_law_parts
  repeat' (first | array_mem_dec | fail)
  refine Vc.via0 (next_spec d0 m0 (by omega)) fun v s1 hv => ?_
  obtain ⟨⟨r, rfl, r0, r1⟩, d1, k1⟩ := hv
  repeat' (first | array_mem_dec | fail)
  rename_i F s2 hF k2 hFl
  have d2 := d1.keep k2 (by simp) (by simp)
  refine Vc.ex_range1 (by omega) ?_
  refine draws_lc (lim := wide) (h := h) (c := c) (fun _ => trivial) (by omega) d2 (fun i s d => ?_) fun D rs s3 h3 l3 b3 d3 k3 hDl => ?_
  · repeat' (first | array_mem_dec | fail)
    refine Vc.via0 (next_spec d w0 (by omega)) fun v s1 hv => ?_
    obtain ⟨⟨r, rfl, r0, r1⟩, d1, k1⟩ := hv
    repeat' (first | array_mem_dec | fail)
    refine Vc.via0 (next_spec d1 (by decide) (by decide)) fun v s2 hv => ?_
    obtain ⟨⟨r', rfl, r0', r1'⟩, d2, k2⟩ := hv
    repeat' (first | array_mem_dec | fail)
    exact ⟨⟨_, rfl, times01 r0 r1⟩, d2, by (first | sizeOf_list_dec | fail)⟩
  have hD : D ≠ F := by have := Vc.lt_of hF; omega
  repeat' (first | array_mem_dec | fail)
  refine Vc.via0 (next_spec d3 (by decide) (by decide)) fun v s4 hv => ?_
  obtain ⟨⟨nb, rfl, nb0, nb1⟩, d4, k4⟩ := hv
  have hFh : F ≠ h ∧ F ≠ c := by have := k1.1; omega
  have f4 : s4[F]? = some (.lst (([] : List Bar).map Bar.val)) := k4.get (k3.get hF (by simp; omega)) (by simp; omega)
  repeat' (first | array_mem_dec | fail)
  refine Vc.ex_range1 (by omega) ?_
  refine Vc.for_l (fun d ρ s => ∃ (bars : List Bar) (a b e f : Option Val), ρ = [some (.ref h), some (.int most), some (.int wide), some (.int (1 + r)), some (.ref F), some (.tup (rs.map .int)), a, b, e, f] ∧ s[F]? = some (.lst (bars.map Bar.val)) ∧ bars.length = d.length ∧ bars.map Bar.nm = nm4.take bars.length ∧
    (∀ b ∈ bars, 0 ≤ b.cap ∧ b.cap < 5 * wide ∧ 0 ≤ b.roof ∧ b.roof < 3 ∧ b.dr.length = rs.length ∧ ∀ d ∈ b.dr, 0 ≤ d ∧ d < 2 * wide) ∧ Draws h c s ∧ Keep [h, c, F] s4 s) (fun _ _ _ _ => trivial) ?_ ?_ ⟨[], none, none, none, none, rfl, f4, rfl, rfl, (fun _ z => by cases z), d4, by (first | sizeOf_list_dec | fail)⟩
  · rintro d x rest ρ s e ⟨bars, a, b, e', f, rfl, hF5, hbl, hnm, hbs, d5, k5⟩
    obtain ⟨e1, e2, e3⟩ := Vc.range_split e
    have hx4 : x < 4 := by omega
    repeat' (first | array_mem_dec | fail)
    rename_i T s6 hT k6 hTl
    have hx : nm4[x]? = some nm4[x] := List.getElem?_eq_getElem (by simp [nm4]; omega)
    refine Vc.v_ixLn (xs := nm4) (f := .str) hT hx ?_
    repeat' (first | array_mem_dec | fail)
    refine Vc.ex_range1 (by omega) ?_
    have d6 := d5.keep k6 (by simp) (by simp)
    have q6 := k6.1
    have := Vc.lt_of hF5
    refine draws_lc (lim := 2 * wide) (h := h) (c := c) (fun _ => trivial) (by omega) d6 (fun i s d => ?_) fun D ds s7 h7 l7 b7 d7 k7 hDl => ?_
    · repeat' (first | array_mem_dec | fail)
      refine Vc.via0 (next_spec d (by omega) (by omega)) fun v s1 hv => ?_
      obtain ⟨⟨r, rfl, r0, r1⟩, d1, k1⟩ := hv
      repeat' (first | array_mem_dec | fail)
      refine Vc.via0 (next_spec d1 (by decide) (by decide)) fun v s2 hv => ?_
      obtain ⟨⟨r', rfl, r0', r1'⟩, d2, k2⟩ := hv
      repeat' (first | array_mem_dec | fail)
      exact ⟨⟨_, rfl, times01 r0 r1⟩, d2, by (first | sizeOf_list_dec | fail)⟩
    have h7F := k7.get (k6.get hF5 (by simp)) (by simp; omega)
    repeat' (first | array_mem_dec | fail)
    refine Vc.via0 (next_spec d7 (by omega) (by omega)) fun v s8 hv => ?_
    obtain ⟨⟨cap, rfl, c0, c1⟩, d8, k8⟩ := hv
    repeat' (first | array_mem_dec | fail)
    refine Vc.via0 (next_spec d8 (by decide) (by decide)) fun v s9 hv => ?_
    obtain ⟨⟨roof, rfl, ro0, ro1⟩, d9, k9⟩ := hv
    have h9F := k9.get (k8.get h7F (by simp; omega)) (by simp; omega)
    repeat' (first | array_mem_dec | fail)
    rename_i s10 h10 k10
    refine ⟨bars ++ [⟨nm4[x], cap, roof, ds⟩], _, _, _, _, rfl, by rw [List.map_append]; exact h10, by simp [hbl], ?_, ?_, d9.keep k10 (by simp; omega) (by simp; omega), by (first | sizeOf_list_dec | fail)⟩
    · rw [List.map_append, hnm, List.length_append, show bars.length = x by omega]
      simp [List.take_succ, hx]
    · intro b hb
      rcases List.mem_append.mp hb with hb | hb
      · exact hbs b hb
      · rw [List.mem_singleton.mp hb]
        exact ⟨c0, c1, ro0, ro1, by show ds.length = rs.length; omega, b7⟩
  · rintro ρ s ⟨bars, a, b, e', f, rfl, hF5, hbl, hnm, hbs, d5, k5⟩
    repeat' (first | array_mem_dec | fail)
    simp only [List.length_range] at hbl
    refine ⟨rs, bars, rfl, ⟨by omega, by omega, b3, by omega, by omega, hnm, hbs⟩, d5, ?_⟩
    (first | sizeOf_list_dec | fail)
theorem RowOk.sub {rain : List Int} {bars bs : List Bar} (h : RowOk rain bars) (hs : bs.Sublist bars) (h0 : 0 < bs.length) : RowOk rain bs :=
  ⟨h.n0, h.n1, h.r01, h0, Nat.le_trans hs.length_le h.b1, fun b hb => h.ok b (hs.subset hb), h.nd.sublist (hs.map _)⟩
theorem law_row_spec {rain : List Int} {bars : List Bar} {st : Store} (h : RowOk rain bars) :
    WpR (f_law_row [.tup [.tup (rain.map .int), .tup (bars.map Bar.val)]] st) (fun v s => ∃ k, v = .ref k ∧ s[k]? = some (.ins 13 (RF rain bars)) ∧ Keep [] st s ∧ st.length ≤ k) (fun _ _ => False) := by
  have hb := h.b0
  obtain ⟨b0, bs, rfl⟩ : ∃ b bs, bars = b :: bs := by
    cases bars with
    | nil => simp at hb
    | cons b bs => exact ⟨b, bs, rfl⟩
  refine Vc.b_def rfl ?_
  unfold m_law_row
  repeat' (first | array_mem_dec | fail)
  refine Vc.v_ixTn (xs := b0 :: bs) (f := Bar.val) (i := 0) rfl ?_
  repeat' (first | array_mem_dec | fail)
  refine Vc.via0 (Row_init_spec (bars := [b0]) (h.sub (by simp) (by simp)) (by (first | array_get_dec | fail))) fun v s hv => ?_
  obtain ⟨rfl, h1, h2⟩ := hv
  refine ⟨rfl, ?_⟩
  repeat' (first | array_mem_dec | fail)
  rw [show Ab.cut (b0.val :: bs.map Bar.val) (some 1) none = bs.map Bar.val from Vc.cut_drop (b0.val :: bs.map Bar.val) 1]
  refine Vc.for_l (fun d ρ s' => ∃ (k : Nat) (a : Option Val), ρ = [some (.tup [.tup (rain.map .int), .tup ((b0 :: bs).map Bar.val)]), some (.ref k), a] ∧ s'[k]? = some (.ins 13 (RF rain (b0 :: d))) ∧ Keep [] st s' ∧ st.length ≤ k) (fun _ _ _ _ => trivial) ?_ ?_ ⟨_, none, rfl, h1, by (first | sizeOf_list_dec | fail), by (first | sizeOf_list_dec | fail)⟩
  · rintro d x rest ρ s1 e ⟨k, a, rfl, h3, h4, h5⟩
    repeat' (first | array_mem_dec | fail)
    refine Vc.via0 (Row_init_spec (bars := [x]) (h.sub (by subst e; simp) (by simp)) (by (first | array_get_dec | fail))) fun v s2 hv => ?_
    obtain ⟨rfl, h6, h7⟩ := hv
    refine ⟨rfl, ?_⟩
    have h8 : s2[k]? = some (.ins 13 (RF rain (b0 :: d))) := by (first | array_get_dec | fail)
    repeat' (first | array_mem_dec | fail)
    refine Vc.via0 (Row_add_spec (b1 := b0 :: d) (b2 := [x]) (h.sub (by subst e; simp) (by simp)) h8 h6) fun v s3 hv => ?_
    obtain ⟨k3, rfl, h9, k9, l9⟩ := hv
    repeat' (first | array_mem_dec | fail)
    refine ⟨_, _, rfl, h9, by (first | sizeOf_list_dec | fail), by (first | sizeOf_list_dec | fail)⟩
  · rintro ρ s1 ⟨k, a, rfl, h3, h4, h5⟩
    repeat' (first | array_mem_dec | fail)
    exact ⟨k, rfl, h3, h4, h5⟩

def wishOf (b : Bar) (now : Nat) : Int := b.dr.getD (now % b.dr.length) 0
structure TS where
  found : List Int
  drawn : Int
  missed : Int
  flow : Int
def stepT (now : Nat) (amount : Int) (L : List Str) (t : TS) (p : Bar × Int) : TS :=
  let full := p.2 + p.1.roof * amount + t.flow
  let over := max 0 (full - p.1.cap)
  let got := if p.1.nm ∈ L then 0 else min (full - over) (wishOf p.1 now)
  ⟨t.found ++ [full - over - got], t.drawn + got, t.missed + (wishOf p.1 now - got), over⟩
def tickT (now : Nat) (amount : Int) (L : List Str) (xs : List (Bar × Int)) : TS := xs.foldl (stepT now amount L) ⟨[], 0, 0, 0⟩
theorem tickT_snoc (now : Nat) (amount : Int) (L : List Str) (xs : List (Bar × Int)) (p : Bar × Int) : tickT now amount L (xs ++ [p]) = stepT now amount L (tickT now amount L xs) p := by
  unfold tickT; rw [List.foldl_append]; rfl
theorem tickT_len (now : Nat) (amount : Int) (L : List Str) (xs : List (Bar × Int)) : (tickT now amount L xs).found.length = xs.length := by
  unfold tickT
  have : ∀ (xs : List (Bar × Int)) (t : TS), (xs.foldl (stepT now amount L) t).found.length = t.found.length + xs.length := by
    intro xs
    induction xs with
    | nil => intro t; simp
    | cons x xs ih => intro t; rw [List.foldl_cons, ih]; simp [stepT]; omega
  rw [this]; simp
theorem next_tick_spec {rw_ : Nat} {rain : List Int} {bars : List Bar} {levels : List Int} {locked : List Str} {now : Nat} {amount : Int} {t : Nat} {st : Store} (hb : ∀ b ∈ bars, b.Ok t) (t0 : 0 < t) (hl : levels.length = bars.length) (hs : bars.length ≤ 1000)
    (h1 : st[rw_]? = some (.ins 13 (RF rain bars))) :
    WpR (f_next_tick [.ref rw_, .tup (levels.map .int), .int now, .int amount, .tup (locked.map .str)] st) (fun v s => v = .tup [.tup ((tickT now amount locked (bars.zip levels)).found.map .int), .int (tickT now amount locked (bars.zip levels)).drawn, .int (tickT now amount locked (bars.zip levels)).missed, .int (tickT now amount locked (bars.zip levels)).flow] ∧ Keep [] st s) (fun _ _ => False) := by
  refine Vc.b_def rfl ?_
  unfold m_next_tick
  repeat' (first | array_mem_dec | fail)
  rename_i F s0 hF k0 hFl
  refine Vc.via0 (Row_barrels_spec (v := .tup (bars.map Bar.val)) (by (first | array_get_dec | fail))) fun v s hv => ?_
  obtain ⟨rfl, rfl⟩ := hv
  repeat' (first | array_mem_dec | fail)
  rw [Vc.zip_map]
  refine Vc.for_l (fun d ρ s' => ∃ (a b c e f g h i j : Option Val), ρ = [some (.ref rw_), some (.tup (levels.map .int)), some (.int now), some (.int amount), some (.tup (locked.map .str)), some (.ref F), some (.int (tickT now amount locked ((bars.zip levels).take d.length)).drawn), some (.int (tickT now amount locked ((bars.zip levels).take d.length)).missed), some (.int (tickT now amount locked ((bars.zip levels).take d.length)).flow), a, b, c, e, f, g, h, i, j] ∧
    s'[F]? = some (.lst ((tickT now amount locked ((bars.zip levels).take d.length)).found.map .int)) ∧ Keep [F] s s') (fun _ _ _ _ => ⟨trivial, trivial⟩) ?_ ?_ ⟨_, _, _, _, _, _, _, _, _, rfl, hF, by (first | sizeOf_list_dec | fail)⟩
  · rintro d ⟨lev, B⟩ rest ρ s1 e ⟨a, b, c, e', f, g, h, i, j, rfl, h3, k3⟩
    obtain ⟨hy, hx⟩ := Vc.zip_split e
    simp only at hx hy
    have ok := hb _ (List.mem_of_getElem? hx)
    have hw : B.dr[now % B.dr.length]? = some (wishOf B now) := by
      have : now % B.dr.length < B.dr.length := Nat.mod_lt _ (by have := ok.dl; omega)
      unfold wishOf
      rw [List.getD_eq_getElem?_getD, List.getElem?_eq_getElem this]; rfl
    have hz : (bars.zip levels)[d.length]? = some (B, lev) := by rw [List.getElem?_zip_eq_some]; exact ⟨hx, hy⟩
    have hT : tickT now amount locked ((bars.zip levels).take (d ++ [(lev, B)]).length) = stepT now amount locked (tickT now amount locked ((bars.zip levels).take d.length)) (B, lev) := by
      rw [List.length_append, List.length_singleton, List.take_succ, hz, Option.toList, tickT_snoc]
    have hlen : (tickT now amount locked ((bars.zip levels).take d.length)).found.length ≤ 1000 := by
      rw [tickT_len, List.length_take, List.length_zip]; omega
    rw [hT]
    generalize tickT now amount locked ((bars.zip levels).take d.length) = T at *
    simp only [Bar.val_eq B]
    have := ok.r0; have := ok.r1; have := ok.dl
    repeat' (first | array_mem_dec | fail)
    rw [List.length_map]
    repeat' (first | array_mem_dec | fail)
    rw [← Int.natCast_emod]
    refine Vc.v_ixTn hw ?_
    repeat' (first | array_mem_dec | fail)
    refine Vc.v_inTs ?_
    repeat' (first | array_mem_dec | fail)
    generalize hF : lev + B.roof * amount + T.flow - max 0 (lev + B.roof * amount + T.flow - B.cap) = full
    refine Vc.ite_both (i := 0) (j := min full (wishOf B now)) rfl rfl ?_
    repeat' (first | array_mem_dec | fail)
    rename_i s2 h4 k4
    have hS : stepT now amount locked T (B, lev) = ⟨T.found ++ [full - (if B.nm ∈ locked then 0 else min full (wishOf B now))], T.drawn + (if B.nm ∈ locked then 0 else min full (wishOf B now)), T.missed + (wishOf B now - (if B.nm ∈ locked then 0 else min full (wishOf B now))), max 0 (lev + B.roof * amount + T.flow - B.cap)⟩ := by
      subst hF; rfl
    rw [hS]
    refine ⟨_, _, _, _, _, _, _, _, _, rfl, by rw [List.map_append]; exact h4, by (first | sizeOf_list_dec | fail)⟩
  · rintro ρ s1 ⟨a, b, c, e', f, g, h, i, j, rfl, h3, k3⟩
    repeat' (first | array_mem_dec | fail)
    rw [List.take_of_length_le (by rw [List.length_zip, List.length_zip]; omega)] at h3 ⊢
    repeat' (first | array_mem_dec | fail)
    exact ⟨rfl, by (first | sizeOf_list_dec | fail)⟩
theorem alike_step {n : Nat} {rec : MF} (ih : ∀ x y st, Vc.Alike st n x y → WpR (rec [x, y] st) (fun v s => v = .bl true ∧ Keep [] st s) (fun _ _ => False)) {x y : Val} {st : Store} (h : Vc.Alike st (n + 1) x y) : WpR (Ab.defM 2 1 (m_law_alike rec) [x, y] st) (fun v s => v = .bl true ∧ Keep [] st s) (fun _ _ => False) := by
    have seqs : ∀ (xs ys : List Val), xs.length = ys.length → xs.length ≤ 100000 → (∀ (i : Nat) (x y : Val), xs[i]? = some x → ys[i]? = some y → Vc.Alike st n x y) → ∀ i < ys.length, ∃ a b, L2.atI xs (i : Int) = some a ∧ L2.atI ys (i : Int) = some b ∧ Vc.Alike st n a b := by
      intro xs ys h1 h2 h3 i hi
      have e1 : xs[i]? = some xs[i] := List.getElem?_eq_getElem (by omega)
      have e2 : ys[i]? = some ys[i] := List.getElem?_eq_getElem hi
      exact ⟨_, _, L2.atI_nat e1, L2.atI_nat e2, h3 i _ _ e1 e2⟩
    refine Vc.b_def rfl ?_
    unfold m_law_alike
    simp only [List.map_cons, List.map_nil, List.cons_append, List.nil_append, List.replicate, -eq_self]
    unfold Vc.Alike at h
    split at h
    · repeat' (first | array_mem_dec | fail)
      refine Vc.v_eqNN ?_
      repeat' (first | array_mem_dec | fail)
      exact ⟨rfl, by (first | sizeOf_list_dec | fail)⟩
    · subst h
      repeat' (first | array_mem_dec | fail)
      exact ⟨by simp, by (first | sizeOf_list_dec | fail)⟩
    · subst h
      repeat' (first | array_mem_dec | fail)
      exact ⟨by simp, by (first | sizeOf_list_dec | fail)⟩
    · subst h
      repeat' (first | array_mem_dec | fail)
      exact ⟨by simp, by (first | sizeOf_list_dec | fail)⟩
    · rename_i xs ys
      obtain ⟨h1, h2, h3⟩ := h
      repeat' (first | array_mem_dec | fail)
      refine Vc.ite_ndp (by omega) ?_
      repeat' (first | array_mem_dec | fail)
      refine Vc.ex_range1 (by omega) ?_
      refine Vc.lc_new fun D s1 hD k1 hl => ?_
      refine Vc.lc_none (fun _ _ => trivial) (fun i hi s k => ?_) fun s2 k2 => ?_
      · obtain ⟨a, b, e1, e2, e3⟩ := seqs xs ys h1 h2 h3 i (by simpa using hi)
        repeat' (first | array_mem_dec | fail)
        refine Vc.v_ixT e1 ?_
        repeat' (first | array_mem_dec | fail)
        refine Vc.v_ixT e2 ?_
        repeat' (first | array_mem_dec | fail)
        refine Vc.via0 (ih _ _ _ (e3.keep (k1.trans k))) fun v s hv => ?_
        obtain ⟨rfl, k3⟩ := hv
        repeat' (first | array_mem_dec | fail)
        exact ⟨rfl, k3⟩
      · repeat' (first | array_mem_dec | fail)
        rename_i E s3 hE k3 hEl
        refine Vc.v_eq00 (by (first | array_get_dec | fail)) (by (first | array_get_dec | fail)) ?_
        exact ⟨rfl, by (first | sizeOf_list_dec | fail)⟩
    · rename_i ra rb
      obtain ⟨xs, ys, ha, hb, h1, h2, h3⟩ := h
      repeat' (first | array_mem_dec | fail)
      refine Vc.ite_ndp (by omega) ?_
      repeat' (first | array_mem_dec | fail)
      refine Vc.ex_range1 (by omega) ?_
      refine Vc.lc_new fun D s1 hD k1 hl => ?_
      refine Vc.lc_none (fun _ _ => trivial) (fun i hi s k => ?_) fun s2 k2 => ?_
      · obtain ⟨a, b, e1, e2, e3⟩ := seqs xs ys h1 h2 h3 i (by simpa using hi)
        have kk := k1.trans k
        repeat' (first | array_mem_dec | fail)
        refine Vc.v_ixL (xs := xs) (kk.get ha (by simp)) e1 ?_
        repeat' (first | array_mem_dec | fail)
        refine Vc.v_ixL (xs := ys) (kk.get hb (by simp)) e2 ?_
        repeat' (first | array_mem_dec | fail)
        refine Vc.via0 (ih _ _ _ (e3.keep kk)) fun v s hv => ?_
        obtain ⟨rfl, k3⟩ := hv
        repeat' (first | array_mem_dec | fail)
        exact ⟨rfl, k3⟩
      · repeat' (first | array_mem_dec | fail)
        rename_i E s3 hE k3 hEl
        refine Vc.v_eq00 (by (first | array_get_dec | fail)) (by (first | array_get_dec | fail)) ?_
        exact ⟨rfl, by (first | sizeOf_list_dec | fail)⟩
    · exact h.elim
theorem alike_spec : ∀ {n : Nat} {x y : Val} {st : Store}, Vc.Alike st n x y → WpR (f_law_alike n [x, y] st) (fun v s => v = .bl true ∧ Keep [] st s) (fun _ _ => False)
  | 0, _, _, _, h => h.elim
  | n + 1, x, y, st, h => alike_step (fun _ _ _ h => alike_spec h) h

section
variable {α : Type} {X : Exc → Store → Prop} {Q : Val → Store → Prop} {st : Store}

theorem lcF_l {xs : List α} {F : α → Val} {g : MG} {t : MT} {elt : ME} {okp : Store → Prop} {D : Nat} {ρ : Slots} (p : α → Bool) (f : α → Val) (hok : ∀ s, Keep [D] st s → okp s) (hl : xs.length ≤ 100000)
    (step : ∀ x ∈ xs, ∀ s, Keep [D] st s → WpG (g (F x) ρ s) (fun ρ1 s1 => WpR (t ρ1 s1) (fun b s2 => b = p x ∧ Keep [] s s2 ∧ (p x = true → WpR (elt ρ1 s2) (fun y s3 => y = f x ∧ Keep [] s2 s3) fun _ _ => False)) fun _ _ => False))
    (fin : ∀ s, s[D]? = some (.lst ((xs.filter p).map f)) → Keep [D] st s → Q (.ref D) s) (hD : st[D]? = some (.lst [])) : WpR (Ab.lcM g t elt okp D ρ (xs.map F) st) Q X := by
  simp only [Vc.uR, Vc.uO, Vc.uG] at *
  have key : ∀ (rest d : List α) (s : Store), xs = d ++ rest → Keep [D] st s → s[D]? = some (.lst ((d.filter p).map f)) → Ab.WpR (Ab.lcM g t elt okp D ρ (rest.map F) s) Q X := by
    intro rest
    induction rest with
    | nil =>
      intro d s e k hs
      rw [List.append_nil] at e; subst e
      unfold Ab.lcM
      rw [List.map_nil]; dsimp only
      rw [if_pos (hok _ k)]
      exact fin s hs k
    | cons x rest ih =>
      intro d s e k hs
      rw [List.map_cons]
      unfold Ab.lcM
      rw [if_pos (hok _ k)]
      have h1 := step x (by rw [e]; simp) s k
      cases hg : g (F x) ρ s with
      | none => rw [hg] at h1; exact h1.elim
      | some q =>
        obtain ⟨ρ1, s1⟩ := q
        rw [hg] at h1
        dsimp only [Ab.WpG] at h1 ⊢
        cases q : t ρ1 s1 with
        | bad => rw [q] at h1; exact h1.elim
        | exc x s2 => rw [q] at h1; exact h1.elim
        | ok b s2 =>
          rw [q] at h1
          obtain ⟨rfl, k2, h2⟩ := h1
          dsimp only [Ab.R.noX, Ab.R.bind]
          have hs2 := k2.get hs (by simp)
          cases hp : p x with
          | false =>
            rw [if_neg Bool.false_ne_true]
            refine ih (d ++ [x]) s2 (by rw [e]; simp) (k.trans k2.nil) ?_
            rw [List.filter_append, List.filter_cons, hp]
            simpa using hs2
          | true =>
            rw [if_pos rfl]
            have h3 := h2 hp
            cases q3 : elt ρ1 s2 with
            | bad => rw [q3] at h3; exact h3.elim
            | exc x s3 => rw [q3] at h3; exact h3.elim
            | ok y s3 =>
              rw [q3] at h3
              obtain ⟨rfl, k3⟩ := h3
              dsimp only [Ab.R.noX, Ab.R.bind]
              have hs3 := k3.get hs2 (by simp)
              rw [hs3]; dsimp only
              have hlen : ((d.filter p).map f).length ≤ d.length := by rw [List.length_map]; exact List.length_filter_le _ _
              have hd : d.length < xs.length := by rw [e]; simp
              rw [if_pos (by rw [sizeLine_eq]; omega)]
              refine ih (d ++ [x]) _ (by rw [e]; simp) (((k.trans k2.nil).trans k3.nil).trans (Keep.set (by simp))) ?_
              rw [List.getElem?_set_self (Vc.lt_of hs3), List.filter_append, List.filter_cons, hp]
              simp
  exact key xs [] st rfl .refl hD
end
section
variable {R J L : Nat} {rain : List Int} {bars : List Bar} {st : Store} {recs : List Rec}
end

def bsW (P : Nat → Bool) : Nat → Nat → Nat → Nat
  | 0, lo, _ => lo
  | f + 1, lo, hi => if lo < hi then (if P ((lo + hi) / 2) = true then bsW P f lo ((lo + hi) / 2) else bsW P f ((lo + hi) / 2 + 1) hi) else lo
theorem bsW_done {P : Nat → Bool} {f lo hi : Nat} (h : ¬lo < hi) : bsW P f lo hi = lo := by
  cases f with
  | zero => rfl
  | succ f => rw [bsW, if_neg h]
theorem bsW_mono {P : Nat → Bool} (hm : ∀ a b, a ≤ b → P a = true → P b = true) : ∀ {f lo hi : Nat}, lo ≤ hi → hi - lo < 2 ^ f → lo ≤ bsW P f lo hi ∧ bsW P f lo hi ≤ hi ∧ ∀ a, lo ≤ a → a < hi → (P a = true ↔ bsW P f lo hi ≤ a)
  | 0, lo, hi, h1, h2 => by
    have : lo = hi := by simp at h2; omega
    subst this
    exact ⟨Nat.le_refl _, Nat.le_refl _, fun a h3 h4 => by omega⟩
  | f + 1, lo, hi, h1, h2 => by
    rw [Nat.pow_succ] at h2
    rw [bsW]
    by_cases q : lo < hi
    · rw [if_pos q]
      cases e : P ((lo + hi) / 2) with
      | true =>
        rw [if_pos rfl]
        obtain ⟨i1, i2, i3⟩ := bsW_mono hm (f := f) (lo := lo) (hi := (lo + hi) / 2) (by omega) (by omega)
        refine ⟨i1, by omega, fun a h3 h4 => ?_⟩
        by_cases w : a < (lo + hi) / 2
        · exact i3 a h3 w
        · exact ⟨fun _ => by omega, fun _ => hm _ _ (by omega) e⟩
      | false =>
        rw [if_neg (by decide)]
        obtain ⟨i1, i2, i3⟩ := bsW_mono hm (f := f) (lo := (lo + hi) / 2 + 1) (hi := hi) (by omega) (by omega)
        refine ⟨by omega, i2, fun a h3 h4 => ?_⟩
        by_cases w : (lo + hi) / 2 < a
        · exact i3 a (by omega) h4
        · refine ⟨fun h => ?_, fun h => by omega⟩
          rw [hm a ((lo + hi) / 2) (by omega) h] at e; cases e
    · rw [if_neg q]
      exact ⟨Nat.le_refl _, h1, fun a h3 h4 => by omega⟩
noncomputable def t_dg : MT := (Se.tNotM (Se.mTest (Se.mChain Ab.vLe Ab.vLe (Se.mC (.str "0")) (Se.mVar 4) (Se.mC (.str "9")))))

def Asc (z : Str) : Prop := ∀ c ∈ z.cps.toList, c < 128
theorem asc_lay {z : Str} (h : Asc z) : PyData.canLay0 (.str z) = true := by
  show (z.cps.all fun c => decide (c < 0x110000)) = true
  rw [← Array.all_toList, List.all_eq_true]
  intro c hc
  have := h c hc
  exact decide_eq_true (by omega)
theorem asc_one {z : Str} (h : Asc z) {c : Nat} (hc : c ∈ z.cps.toList) : PyData.canLay0 (.str ⟨#[c]⟩) = true :=
  asc_lay (z := ⟨#[c]⟩) fun d hd => by
    have : d = c := by simpa using hd
    subst this
    exact h d hc
theorem spl_in {S : List Nat} : ∀ {l : List Nat} {k : Nat} {acc p : List Nat}, p ∈ TL.spl S k acc l → (∀ c ∈ p, c ∈ acc ∨ c ∈ l) ∧ p.length ≤ acc.length + l.length
  | [], k, acc, p, h => by
    rw [TL.spl_nil, List.mem_singleton] at h
    subst h
    exact ⟨fun c hc => .inl hc, by simp⟩
  | c :: r, 0, acc, p, h => by
    cases hp : TL.pre S (c :: r) with
    | true =>
      rw [TL.spl_hit hp, List.mem_cons] at h
      rcases h with h | h
      · subst h
        exact ⟨fun c hc => .inl hc, by omega⟩
      · obtain ⟨i1, i2⟩ := spl_in (l := r) h
        refine ⟨fun d hd => ?_, by simp at i2 ⊢; omega⟩
        rcases i1 d hd with z | z
        · cases z
        · exact .inr (List.mem_cons_of_mem _ z)
    | false =>
      rw [TL.spl_miss hp] at h
      obtain ⟨i1, i2⟩ := spl_in (l := r) h
      refine ⟨fun d hd => ?_, by simp at i2 ⊢; omega⟩
      rcases i1 d hd with z | z
      · rcases List.mem_append.mp z with z | z
        · exact .inl z
        · rw [List.mem_singleton.mp z]; exact .inr List.mem_cons_self
      · exact .inr (List.mem_cons_of_mem _ z)
  | c :: r, k + 1, acc, p, h => by
    obtain ⟨i1, i2⟩ := spl_in (l := r) (k := k) (acc := acc) h
    exact ⟨fun d hd => (i1 d hd).imp id (List.mem_cons_of_mem _), by simp; omega⟩
theorem spl_len {S : List Nat} : ∀ {l : List Nat} {k : Nat} {acc : List Nat}, (TL.spl S k acc l).length ≤ l.length + 1
  | [], k, acc => by rw [TL.spl_nil]; simp
  | c :: r, 0, acc => by
    cases hp : TL.pre S (c :: r) with
    | true =>
      rw [TL.spl_hit hp, List.length_cons, List.length_cons]
      exact Nat.succ_le_succ spl_len
    | false =>
      rw [TL.spl_miss hp, List.length_cons]
      exact Nat.le_trans spl_len (by omega)
  | c :: r, k + 1, acc => by
    rw [List.length_cons]
    exact Nat.le_trans (spl_len (l := r) (k := k) (acc := acc)) (by omega)
theorem split_in {a b : Str} (hb : TL.tl b ≠ []) (hk : b.cps.all (· < 256) = true) {p : Str} (hp : p ∈ Txt.split a b) : (∀ c ∈ p.cps.toList, c ∈ a.cps.toList) ∧ p.length ≤ a.length := by
  have e := TL.split_spl a b hb (TL.kind_ok hk)
  have : TL.tl p ∈ TL.spl (TL.tl b) 0 [] (TL.tl a) := e ▸ List.mem_map_of_mem hp
  obtain ⟨i1, i2⟩ := spl_in this
  refine ⟨fun c hc => (i1 c hc).elim (fun z => by cases z) id, ?_⟩
  rw [TL.len_tl p, TL.len_tl a]
  simpa using i2
theorem split_len {a b : Str} (hb : TL.tl b ≠ []) (hk : b.cps.all (· < 256) = true) : (Txt.split a b).length ≤ a.length + 1 := by
  have e := TL.split_spl a b hb (TL.kind_ok hk)
  have := congrArg List.length e
  rw [List.length_map] at this
  rw [this, TL.len_tl a]
  exact spl_len

structure TxOk (z : Str) : Prop where
  asc : Asc z
  l : z.length ≤ 40000
theorem TxOk.split {z b p : Str} (h : TxOk z) (hb : TL.tl b ≠ []) (hk : b.cps.all (· < 256) = true) (hp : p ∈ Txt.split z b) : TxOk p := by
  obtain ⟨h1, h2⟩ := split_in hb hk hp
  exact ⟨fun c hc => h.asc c (h1 c hc), Nat.le_trans h2 h.l⟩
theorem nl_ok : TL.tl ("\n" : Str) ≠ [] ∧ ("\n" : Str).cps.all (· < 256) = true := by decide +kernel
theorem sp_ok : TL.tl (" " : Str) ≠ [] ∧ (" " : Str).cps.all (· < 256) = true := by decide +kernel
theorem at0 {α : Type} {x : α} {r : List α} : L2.atI (x :: r) 0 = some x := L2.atI_nat (j := 0) rfl
theorem at1 {α : Type} {x y : α} {r : List α} : L2.atI (x :: y :: r) 1 = some y := L2.atI_nat (j := 1) rfl
theorem at2 {α : Type} {x y z : α} {r : List α} : L2.atI (x :: y :: z :: r) 2 = some z := L2.atI_nat (j := 2) rfl

def digB (c : Nat) : Bool := decide (48 ≤ c) && decide (c ≤ 57)
def figL : List Nat → Bool
  | [] => false
  | c :: r => (c :: r).all digB && (decide (r = []) || !decide (c = 48))
theorem figL_cons {c : Nat} {r : List Nat} : figL (c :: r) = ((c :: r).all digB && (decide (r = []) || !decide (c = 48))) := rfl
def figB (w : Str) : Bool := figL w.cps.toList
noncomputable def num (w : Str) : Int := ((PySem.NumText.digitsVal w.cps.toList : Nat) : Int)
theorem fig_dig {w : Str} (h : figB w = true) : PySem.NumText.AllDigits w.cps.toList ∧ w.cps.toList ≠ [] := by
  unfold figB at h
  cases e : w.cps.toList with
  | nil => rw [e] at h; cases h
  | cons c r =>
    rw [e] at h
    unfold figL at h
    rw [Bool.and_eq_true, List.all_eq_true] at h
    refine ⟨fun d hd => ?_, by simp⟩
    have := h.1 d hd
    unfold digB at this
    simpa using this
theorem fig_int {w : Str} (h : figB w = true) (hl : w.length ≤ 4300) : PySem.intText? w = some (num w) := PySem.intText_digits (fig_dig h).1 (fig_dig h).2 hl
theorem digits_iff (c : Nat) : c ∈ ("0123456789" : Str).cps.toList ↔ digB c = true := by
  have e : ("0123456789" : Str).cps.toList = (List.range 10).map (48 + ·) := by decide +kernel
  rw [e, List.mem_map]
  unfold digB
  rw [Bool.and_eq_true, decide_eq_true_iff, decide_eq_true_iff]
  constructor
  · rintro ⟨x, hx, rfl⟩
    have := List.mem_range.mp hx
    omega
  · rintro ⟨h1, h2⟩
    exact ⟨c - 48, List.mem_range.mpr (by omega), by omega⟩
theorem str_eq_iff {a b : Str} : a = b ↔ a.cps.toList = b.cps.toList := ⟨fun h => by rw [h], fun h => TL.ext_tl h⟩
theorem cp_le (a c : Nat) : (!decide (([c] : List Nat) < [a])) = decide (a ≤ c) := by
  by_cases h : a ≤ c
  · rw [decide_eq_true h, decide_eq_false]
    · rfl
    · intro z
      rw [List.cons_lt_cons_iff] at z
      rcases z with z | ⟨_, z⟩
      · omega
      · exact absurd z (List.not_lt_nil _)
  · rw [decide_eq_false h, decide_eq_true]
    · rfl
    · rw [List.cons_lt_cons_iff]; left; omega
section
variable {st : Store} {ρ : Slots} {X : Exc → Store → Prop} {Q : Val → Store → Prop}
theorem dg_spec {c : Nat} (h : ρ[4]? = some (some (.str ⟨#[c]⟩))) : WpR (t_dg ρ st) (fun b s => b = (!digB c) ∧ s = st) (fun _ _ => False) := by
  unfold t_dg
  refine Vc.b_not ?_
  refine Vc.b_test ?_
  refine Vc.b_chain ?_
  refine Vc.b_C ?_
  refine Vc.b_var h ?_
  have ea : ("0" : Str).cps.toList = [48] := by decide +kernel
  have ez : ("9" : Str).cps.toList = [57] := by decide +kernel
  show WpR (R.ok (Val.bl (!decide (([c] : List Nat) < ("0" : Str).cps.toList))) st) _ _
  rw [ea, cp_le]
  refine Vc.b_ok ?_
  unfold digB
  refine Vc.chk_bl ?_
  refine Vc.ite_d (fun q => ?_) (fun q => ?_)
  · refine Vc.b_C ?_
    show WpR (R.ok (Val.bl (!decide (("9" : Str).cps.toList < ([c] : List Nat)))) st) _ _
    rw [ez, cp_le]
    refine Vc.b_ok ?_
    refine Vc.b_ok ?_
    rw [decide_eq_true q, Bool.true_and]
    exact ⟨rfl, rfl⟩
  · refine Vc.b_ok ?_
    rw [decide_eq_false q, Bool.false_and]
    exact ⟨rfl, rfl⟩
theorem v_eqS0 {a e : Nat} {xs : List Nat} (h : st[a]? = some (.lst (xs.map fun c : Nat => Val.str ⟨#[c]⟩))) (h0 : st[e]? = some (.lst [])) (hl : ∀ c ∈ xs, PyData.canLay0 (.str ⟨#[c]⟩) = true) (q : Q (.bl (decide (xs = []))) st) : WpR (Ab.vEq (.ref a) (.ref e) st) Q X :=
  Vc.v_eqLL (Vc.deep_lst (n := 15) (g := fun c : Nat => PyData.str ⟨#[c]⟩) h fun c hc => by rw [Ab.deep, if_pos (hl c hc)]) (Vc.deep_lst (n := 15) (f := fun c : Nat => Val.str ⟨#[c]⟩) (g := fun c : Nat => PyData.str ⟨#[c]⟩) (xs := []) h0 fun c hc => by simp at hc) (by
    cases xs with
    | nil => exact q
    | cons x xs => exact q)
theorem v_neL0 {α : Type} {f : α → Val} {g : α → PyData} {a e : Nat} {xs : List α} (h : st[a]? = some (.lst (xs.map f))) (h0 : st[e]? = some (.lst [])) (hl : ∀ x ∈ xs, Ab.deep st 15 (f x) = some (g x)) (q : Q (.bl (!decide (xs = []))) st) : WpR (Ab.vNe (.ref a) (.ref e) st) Q X :=
  Vc.v_neLL (Vc.deep_lst (n := 15) (g := g) h hl) (Vc.deep_lst (n := 15) (f := f) (g := g) (xs := []) h0 fun c hc => by simp at hc) (by
    cases xs with
    | nil => exact q
    | cons x xs => exact q)
theorem zero_ne (w : Str) {c : Nat} {r : List Nat} (e : w.cps.toList = c :: r) : (!decide ((⟨#[c]⟩ : Str) = ("0" : Str))) = !decide (c = 48) := by
  congr 1
  rw [decide_eq_decide, str_eq_iff]
  have ea : ("0" : Str).cps.toList = [48] := by decide +kernel
  rw [ea]
  simp
theorem is_figure_spec {w : Str} {n : Nat} (h : TxOk w) : WpR (f_is_figure [.str w, .int n] st) (fun v s => v = .bl (figB w && decide (w.length ≤ n)) ∧ Keep [] st s) (fun _ _ => False) := by
  have hl := h.l
  refine Vc.b_def rfl ?_
  unfold m_is_figure
  repeat' (first | array_mem_dec | fail)
  refine Vc.v_lenStr (by omega) ?_
  repeat' (first | array_mem_dec | fail)
  have e0 : w.length = w.cps.toList.length := Array.length_toList.symm
  refine Vc.ite_nd (fun q => ?_) (fun q => ?_)
  · repeat' (first | array_mem_dec | fail)
    refine ⟨w, rfl, ?_⟩
    repeat' (first | array_mem_dec | fail)
    unfold Ab.signsW
    refine Vc.lc_pure (fun c : Nat => !digB c) (fun c : Nat => Val.str ⟨#[c]⟩) (fun _ => trivial) (by omega) (fun c hc acc => ?_) ?_
    · repeat' (first | array_mem_dec | fail)
      refine ⟨?_, rfl, fun _ => ?_⟩
      · congr 1
        have := digits_iff c
        by_cases z : digB c = true
        · rw [decide_eq_true (this.mpr z), z]
        · rw [decide_eq_false fun y => z (this.mp y)]
          cases y : digB c with
          | true => exact absurd y z
          | false => rfl
      repeat' (first | array_mem_dec | fail)
      exact ⟨rfl, rfl⟩
    repeat' (first | array_mem_dec | fail)
    rename_i D s1 hD k1 l1 E s2 hE k2 l2
    refine v_neL0 (g := fun c : Nat => PyData.str ⟨#[c]⟩) (k2.get hD (by simp)) hE (fun c hc => by rw [Ab.deep, if_pos (asc_one h.asc (List.mem_filter.mp hc).1)]) ?_
    repeat' (first | array_mem_dec | fail)
    refine Vc.ite_nd (fun q2 => ?_) (fun q2 => ?_)
    · repeat' (first | array_mem_dec | fail)
      refine Vc.v_lenStr (by omega) ?_
      repeat' (first | array_mem_dec | fail)
      have all : w.cps.toList.all digB = true := by
        rw [List.all_eq_true]
        intro c hc
        simpa using (List.filter_eq_nil_iff.mp q2) c hc
      cases e : w.cps.toList with
      | nil => rw [e] at e0; simp at e0; omega
      | cons c r =>
        rw [e] at all e0
        have hn : decide (w.length ≤ n) = true := decide_eq_true (by omega)
        unfold figB
        rw [hn, Bool.and_true, e]
        rw [figL_cons, all, Bool.true_and]
        refine Vc.ite_d (fun q3 => ?_) (fun q3 => ?_)
        · repeat' (first | array_mem_dec | fail)
          have : r = [] := by
            cases r with
            | nil => rfl
            | cons a r => simp at e0; omega
          rw [this]
          exact ⟨rfl, by (first | sizeOf_list_dec | fail)⟩
        · repeat' (first | array_mem_dec | fail)
          refine Vc.v_ixS (c := c) (by omega) (by rw [e]; exact at0) ?_
          repeat' (first | array_mem_dec | fail)
          have : r ≠ [] := fun z => by rw [z] at e0; simp at e0; omega
          rw [zero_ne w e, decide_eq_false this, Bool.false_or]
          exact ⟨rfl, by (first | sizeOf_list_dec | fail)⟩
    · repeat' (first | array_mem_dec | fail)
      refine ⟨?_, by (first | sizeOf_list_dec | fail)⟩
      congr 1
      symm
      rw [Bool.and_eq_false_iff]
      left
      cases y : figB w with
      | false => rfl
      | true =>
        exfalso
        apply q2
        rw [List.filter_eq_nil_iff]
        intro c hc
        have := (fig_dig y).1 c hc
        unfold digB
        simp [this.1, this.2]
  · repeat' (first | array_mem_dec | fail)
    refine ⟨?_, .refl⟩
    congr 1
    symm
    rw [Bool.and_eq_false_iff]
    by_cases z : w.length ≤ n
    · left
      have : w.length = 0 := by omega
      unfold figB
      cases e : w.cps.toList with
      | nil => rfl
      | cons c r => rw [e] at e0; simp at e0; omega
    · right
      exact decide_eq_false z
end

inductive Ev where
  | rain (a : Option Int)
  | level (k : Nat) (v : Int)
def Ev.val : Ev → Val
  | .rain none => .tup [.str "rain", .non]
  | .rain (some a) => .tup [.str "rain", .int a]
  | .level k v => .tup [.str "level", .int k, .int v]
def evV : Option Ev → Val
  | none => .non
  | some e => e.val
def isHid : Ev → Bool
  | .rain none => true
  | _ => false
def isRain : Ev → Bool
  | .rain _ => true
  | _ => false
def hid (E : List Ev) : Bool := E.any isHid
noncomputable def evL (names ws : List Str) : Option Ev := match ws with
  | [a, b] => if a = ("rain" : Str) then (if b = ("?" : Str) then some (.rain none) else if figB b = true ∧ b.length ≤ 7 ∧ num b ≤ 1000000 then some (.rain (some (num b))) else none) else none
  | [a, b, c] => if a = ("level" : Str) ∧ b ∈ names ∧ figB c = true ∧ c.length ≤ 10 then some (.level (names.idxOf b) (num c)) else none
  | _ => none
noncomputable def evP (names : List Str) (h : Bool) (ws : List Str) : Option Ev := match evL names ws with
  | some (.rain none) => if h = true then none else some (.rain none)
  | e => e
theorem evL_two (names : List Str) (b : Str) : evL names ["rain", b] = if b = ("?" : Str) then some (.rain none) else if figB b = true ∧ b.length ≤ 7 ∧ num b ≤ 1000000 then some (.rain (some (num b))) else none := by
  unfold evL
  dsimp only
  rw [if_pos rfl]
theorem evL_two_ne (names : List Str) {a b : Str} (h : a ≠ ("rain" : Str)) : evL names [a, b] = none := by
  unfold evL
  dsimp only
  rw [if_neg h]
theorem evL_three (names : List Str) (a b c : Str) : evL names [a, b, c] = if a = ("level" : Str) ∧ b ∈ names ∧ figB c = true ∧ c.length ≤ 10 then some (.level (names.idxOf b) (num c)) else none := rfl
theorem evP_some {names ws : List Str} {h : Bool} {o : Int} (e : evL names ws = some (.rain (some o))) : evP names h ws = some (.rain (some o)) := by unfold evP; rw [e]
theorem evP_level {names ws : List Str} {h : Bool} {k : Nat} {o : Int} (e : evL names ws = some (.level k o)) : evP names h ws = some (.level k o) := by unfold evP; rw [e]
theorem evP_none {names ws : List Str} {h : Bool} (e : evL names ws = none) : evP names h ws = none := by unfold evP; rw [e]
theorem evP_hid {names ws : List Str} {h : Bool} (e : evL names ws = some (.rain none)) : evP names h ws = if h = true then none else some (.rain none) := by unfold evP; rw [e]
theorem fig_q : figB ("?" : Str) = false := by decide +kernel

def DF (R E : Nat) : List (Nat × Val) := [(51, .ref R), (58, .ref E)]
def Ev.dat : Ev → PyData
  | .rain none => .tuple [.str "rain", .none]
  | .rain (some a) => .tuple [.str "rain", .int a]
  | .level k v => .tuple [.str "level", .int k, .int v]
theorem w_lay : PyData.canLay0 (.str ("rain" : Str)) = true ∧ PyData.canLay0 (.str ("level" : Str)) = true ∧ PyData.canLay0 (.str ("?" : Str)) = true := by decide +kernel
theorem Ev.deep (e : Ev) {st : Store} {n : Nat} : Ab.deep st (n + 2) e.val = some e.dat := by
  have s : Ab.deep st (n + 1) (.str ("rain" : Str)) = some (.str ("rain" : Str)) := by rw [Ab.deep, if_pos w_lay.1]
  have t : Ab.deep st (n + 1) (.str ("level" : Str)) = some (.str ("level" : Str)) := by rw [Ab.deep, if_pos w_lay.2.1]
  have i : ∀ i : Int, Ab.deep st (n + 1) (.int i) = some (.int i) := fun i => by rw [Ab.deep]
  have o : Ab.deep st (n + 1) .non = some .none := by rw [Ab.deep]
  cases e with
  | rain a =>
    cases a with
    | none =>
      show Ab.deep st (n + 2) (.tup [.str "rain", .non]) = some (.tuple [.str "rain", .none])
      rw [Ab.deep, Ab.mapO, s, Ab.mapO, o, Ab.mapO]; rfl
    | some a =>
      show Ab.deep st (n + 2) (.tup [.str "rain", .int a]) = some (.tuple [.str "rain", .int a])
      rw [Ab.deep, Ab.mapO, s, Ab.mapO, i, Ab.mapO]; rfl
  | level k v =>
    show Ab.deep st (n + 2) (.tup [.str "level", .int k, .int v]) = some (.tuple [.str "level", .int k, .int v])
    rw [Ab.deep, Ab.mapO, t, Ab.mapO, i, Ab.mapO, i, Ab.mapO]; rfl
theorem any_filter {α : Type} {p : α → Bool} : ∀ {xs : List α}, (!decide (xs.filter p = [])) = xs.any p := by
  intro xs
  cases h : xs.any p with
  | true =>
    obtain ⟨x, hx, px⟩ := List.any_eq_true.mp h
    rw [decide_eq_false fun z => by
      have := List.filter_eq_nil_iff.mp z x hx
      exact this px]
    rfl
  | false =>
    rw [decide_eq_true]
    · rfl
    · rw [List.filter_eq_nil_iff]
      intro x hx px
      have := List.any_eq_true.mpr ⟨x, hx, px⟩
      rw [h] at this; cases this
section
variable {st : Store} {ρ : Slots} {R E d : Nat} {evs : List Ev} {rain : List Int} {bars : List Bar}

theorem hid_test {e : Ev} {X : Exc → Store → Prop} {Q : Bool → Store → Prop} (q : Q (isHid e) st) : WpR (Ab.vIx e.val (.int 1) st) (fun x st1 => WpR (Se.mC .non ρ st1) (fun y st2 => WpR (Ab.vIsN x y st2) (fun x st1 => WpR (Ab.asB x st1) Q X) X) X) X := by
  cases e with
  | rain a =>
    cases a with
    | none =>
      refine Vc.v_ixT (w := .non) at1 ?_
      repeat' (first | array_mem_dec | fail)
      exact q
    | some a =>
      refine Vc.v_ixT (w := .int a) at1 ?_
      repeat' (first | array_mem_dec | fail)
      exact q
  | level k v =>
    refine Vc.v_ixT (w := .int k) at1 ?_
    repeat' (first | array_mem_dec | fail)
    exact q
theorem e_rr : decide (("rain" : Str) = ("rain" : Str)) = true := by decide +kernel
theorem e_lr : decide (("level" : Str) = ("rain" : Str)) = false := by decide +kernel
theorem e_ll : decide (("level" : Str) = ("level" : Str)) = true := by decide +kernel
theorem e_rl : decide (("rain" : Str) = ("level" : Str)) = false := by decide +kernel
theorem rain_val (a : Option Int) : Ev.val (.rain a) = .tup (.str "rain" :: match a with | none => [.non] | some a => [.int a]) := by cases a <;> rfl
theorem rain_test {e : Ev} {X : Exc → Store → Prop} {Q : Bool → Store → Prop} (q : Q (isRain e) st) : WpR (Ab.vIx e.val (.int 0) st) (fun x st1 => WpR (Se.mC (.str "rain") ρ st1) (fun y st2 => WpR (Ab.vEq x y st2) (fun x st1 => WpR (Ab.asB x st1) Q X) X) X) X := by
  cases e with
  | rain a =>
    rw [rain_val]
    refine Vc.v_ixT (w := .str "rain") at0 ?_
    refine Vc.b_C ?_
    show WpR (R.ok (Val.bl (decide (("rain" : Str) = ("rain" : Str)))) st) _ _
    rw [e_rr]
    exact Vc.b_ok (Vc.b_ok q)
  | level k v =>
    refine Vc.v_ixT (w := .str "level") at0 ?_
    refine Vc.b_C ?_
    show WpR (R.ok (Val.bl (decide (("level" : Str) = ("rain" : Str)))) st) _ _
    rw [e_lr]
    exact Vc.b_ok (Vc.b_ok q)
theorem level_test {e : Ev} {X : Exc → Store → Prop} {Q : Bool → Store → Prop} (q : Q (!isRain e) st) : WpR (Ab.vIx e.val (.int 0) st) (fun x st1 => WpR (Se.mC (.str "level") ρ st1) (fun y st2 => WpR (Ab.vEq x y st2) (fun x st1 => WpR (Ab.asB x st1) Q X) X) X) X := by
  cases e with
  | rain a =>
    rw [rain_val]
    refine Vc.v_ixT (w := .str "rain") at0 ?_
    refine Vc.b_C ?_
    show WpR (R.ok (Val.bl (decide (("rain" : Str) = ("level" : Str)))) st) _ _
    rw [e_rl]
    exact Vc.b_ok (Vc.b_ok q)
  | level k v =>
    refine Vc.v_ixT (w := .str "level") at0 ?_
    refine Vc.b_C ?_
    show WpR (R.ok (Val.bl (decide (("level" : Str) = ("level" : Str)))) st) _ _
    rw [e_ll]
    exact Vc.b_ok (Vc.b_ok q)
theorem has_unknown_spec (hd : st[d]? = some (.ins 22 (DF R E))) (hE : st[E]? = some (.lst (evs.map Ev.val))) (hl : evs.length ≤ 1000) : WpR (f_Daybook_has_unknown [.ref d] st) (fun v s => v = .bl (hid evs) ∧ Keep [] st s) (fun _ _ => False) := by
  unfold DF at hd
  refine Vc.b_def rfl ?_
  unfold m_Daybook_has_unknown
  repeat' (first | array_mem_dec | fail)
  refine Vc.lc_pure isHid Ev.val (fun acc => Ab.seqAt_lst (by (first | array_get_dec | fail))) (by omega) (fun e hc acc => ?_) ?_
  · refine Vc.g_set ?_
    repeat' (first | array_mem_dec | fail)
    refine hid_test ?_
    refine ⟨rfl, rfl, fun _ => ?_⟩
    repeat' (first | array_mem_dec | fail)
    exact ⟨rfl, rfl⟩
  repeat' (first | array_mem_dec | fail)
  rename_i D s1 hD k1 l1 F s2 hF k2 l2
  refine v_neL0 (g := Ev.dat) (k2.get hD (by simp)) hF (fun e _ => e.deep) ?_
  rw [any_filter]
  exact ⟨rfl, k1.trans k2⟩
theorem event_of_spec {ws : List Str} {W : Nat} (ok : RowOk rain bars) (hR : st[R]? = some (.ins 13 (RF rain bars))) (hd : st[d]? = some (.ins 22 (DF R E))) (hE : st[E]? = some (.lst (evs.map Ev.val))) (hW : st[W]? = some (.lst (ws.map .str))) (hw : ∀ w ∈ ws, TxOk w) (hl : evs.length ≤ 1000) :
    WpR (f_Daybook_event_of [.ref d, .ref W] st) (fun v s => v = evV (evP (bars.map Bar.nm) (hid evs) ws) ∧ Keep [] st s) (fun _ _ => False) := by
  have b1 := ok.b1
  have hd0 := hd
  unfold DF at hd
  refine Vc.b_def rfl ?_
  unfold m_Daybook_event_of
  repeat' (first | array_mem_dec | fail)
  refine Vc.via0 (Row_barrels_spec hR) fun v s0 hv => ?_
  obtain ⟨rfl, rfl⟩ := hv
  repeat' (first | array_mem_dec | fail)
  refine Vc.lc_new fun N s1 hN0 k1 l1 => ?_
  refine lcF_l (fun _ : Bar => true) (fun b : Bar => .str b.nm) (fun _ _ => trivial) (by omega) (fun b hb s k => ?_) (fun s hN k => ?_) hN0
  · rw [Bar.val_eq]
    repeat' (first | array_mem_dec | fail)
    simp only [List.take_succ_cons, List.take_zero, List.cons_append, List.nil_append, -eq_self]
    repeat' (first | array_mem_dec | fail)
    refine ⟨rfl, by (first | sizeOf_list_dec | fail), fun _ => ?_⟩
    repeat' (first | array_mem_dec | fail)
    exact ⟨rfl, by (first | sizeOf_list_dec | fail)⟩
  rw [List.filter_eq_self.mpr (by simp), show (bars.map fun b : Bar => Val.str b.nm) = (bars.map Bar.nm).map .str by rw [List.map_map]; rfl] at hN
  have kk : Keep [] s0 s := by (first | sizeOf_list_dec | fail)
  have hW1 := kk.get hW (by simp)
  have hd1 := kk.get hd0 (by simp)
  have hE1 := kk.get hE (by simp)
  clear k k1 hW hd hd0 hE
  rcases ws with _ | ⟨a, _ | ⟨b, _ | ⟨c, _ | ⟨e, r⟩⟩⟩⟩
  · repeat' (first | array_mem_dec | fail)
    refine Vc.ite_dn (by simp) ?_
    repeat' (first | array_mem_dec | fail)
    refine Vc.ite_dn (by simp) ?_
    repeat' (first | array_mem_dec | fail)
    exact ⟨rfl, kk⟩
  · repeat' (first | array_mem_dec | fail)
    refine Vc.ite_dn (by simp) ?_
    repeat' (first | array_mem_dec | fail)
    refine Vc.ite_dn (by simp) ?_
    repeat' (first | array_mem_dec | fail)
    exact ⟨rfl, kk⟩
  · have hb := hw b (by simp)
    have lb := hb.l
    repeat' (first | array_mem_dec | fail)
    refine Vc.ite_dp rfl ?_
    repeat' (first | array_mem_dec | fail)
    refine Vc.ite_d (fun q1 => ?_) (fun q1 => ?_)
    · subst q1
      repeat' (first | array_mem_dec | fail)
      refine Vc.ite_d (fun q2 => ?_) (fun q2 => ?_)
      · subst q2
        repeat' (first | array_mem_dec | fail)
        refine Vc.via0 (has_unknown_spec hd1 hE1 hl) fun v s2 hv => ?_
        obtain ⟨rfl, k2⟩ := hv
        have hW2 := k2.get hW1 (by simp)
        repeat' (first | array_mem_dec | fail)
        rw [evP_hid (evL_two _ _ |>.trans (if_pos rfl))]
        cases hid evs with
        | false =>
          repeat' (first | array_mem_dec | fail)
          exact ⟨rfl, kk.trans k2⟩
        | true =>
          repeat' (first | array_mem_dec | fail)
          refine Vc.via0 (is_figure_spec (n := 7) hb) fun v s3 hv => ?_
          obtain ⟨rfl, k3⟩ := hv
          rw [fig_q, Bool.false_and]
          have hW3 := k3.get hW2 (by simp)
          repeat' (first | array_mem_dec | fail)
          refine Vc.ite_dn (by simp) ?_
          repeat' (first | array_mem_dec | fail)
          exact ⟨rfl, (kk.trans k2).trans k3⟩
      · repeat' (first | array_mem_dec | fail)
        refine Vc.via0 (is_figure_spec (n := 7) hb) fun v s3 hv => ?_
        obtain ⟨rfl, k3⟩ := hv
        have hW3 := k3.get hW1 (by simp)
        have k03 := kk.trans k3
        cases f : (figB b && decide (b.length ≤ 7)) with
        | false =>
          repeat' (first | array_mem_dec | fail)
          refine Vc.ite_dn (by simp) ?_
          repeat' (first | array_mem_dec | fail)
          refine ⟨?_, k03⟩
          rw [evP_none]
          · rfl
          rw [evL_two, if_neg q2, if_neg]
          rintro ⟨h1, h2, _⟩
          rw [h1, decide_eq_true h2] at f
          cases f
        | true =>
          rw [Bool.and_eq_true] at f
          have f2 := of_decide_eq_true f.2
          repeat' (first | array_mem_dec | fail)
          refine Vc.v_intS (fig_int f.1 (by omega)) (by omega) ?_
          repeat' (first | array_mem_dec | fail)
          refine Vc.ite_d (fun q3 => ?_) (fun q3 => ?_)
          · repeat' (first | array_mem_dec | fail)
            refine Vc.v_intS (fig_int f.1 (by omega)) (by omega) ?_
            repeat' (first | array_mem_dec | fail)
            refine ⟨?_, k03⟩
            rw [evP_some (by rw [evL_two, if_neg q2, if_pos ⟨f.1, f2, q3⟩])]
            rfl
          · repeat' (first | array_mem_dec | fail)
            refine Vc.ite_dn (by simp) ?_
            repeat' (first | array_mem_dec | fail)
            refine ⟨?_, k03⟩
            rw [evP_none]
            · rfl
            rw [evL_two, if_neg q2, if_neg]
            rintro ⟨_, _, h3⟩
            exact q3 h3
    · repeat' (first | array_mem_dec | fail)
      refine Vc.ite_dn (by simp) ?_
      repeat' (first | array_mem_dec | fail)
      refine ⟨?_, kk⟩
      rw [evP_none (evL_two_ne _ q1)]
      rfl
  · have hc := hw c (by simp)
    have lc := hc.l
    have fin : ∀ {s' : Store}, Keep [] s0 s' → ¬(a = ("level" : Str) ∧ b ∈ bars.map Bar.nm ∧ figB c = true ∧ c.length ≤ 10) → Val.non = evV (evP (bars.map Bar.nm) (hid evs) [a, b, c]) ∧ Keep [] s0 s' := fun k hn => ⟨by rw [evP_none (by rw [evL_three, if_neg hn])]; rfl, k⟩
    repeat' (first | array_mem_dec | fail)
    refine Vc.ite_dn (by simp) ?_
    repeat' (first | array_mem_dec | fail)
    refine Vc.ite_dp rfl ?_
    repeat' (first | array_mem_dec | fail)
    refine Vc.ite_d (fun q1 => ?_) (fun q1 => ?_)
    · repeat' (first | array_mem_dec | fail)
      refine Vc.v_inLs hN ?_
      repeat' (first | array_mem_dec | fail)
      refine Vc.ite_d (fun q2 => ?_) (fun q2 => ?_)
      · repeat' (first | array_mem_dec | fail)
        refine Vc.via0 (is_figure_spec (n := 10) hc) fun v s3 hv => ?_
        obtain ⟨rfl, k3⟩ := hv
        have hW3 := k3.get hW1 (by simp)
        have hN3 := k3.get hN (by simp)
        have k03 := kk.trans k3
        cases f : (figB c && decide (c.length ≤ 10)) with
        | false =>
          repeat' (first | array_mem_dec | fail)
          refine fin k03 ?_
          rintro ⟨_, _, h1, h2⟩
          rw [h1, decide_eq_true h2] at f
          cases f
        | true =>
          rw [Bool.and_eq_true] at f
          have f2 := of_decide_eq_true f.2
          repeat' (first | array_mem_dec | fail)
          refine Vc.v_idxL hN3 q2 ?_
          repeat' (first | array_mem_dec | fail)
          refine Vc.v_intS (fig_int f.1 (by omega)) (by omega) ?_
          repeat' (first | array_mem_dec | fail)
          refine ⟨?_, k03⟩
          rw [evP_level (by rw [evL_three, if_pos ⟨q1, q2, f.1, f2⟩])]
          rfl
      · repeat' (first | array_mem_dec | fail)
        exact fin kk fun h => q2 h.2.1
    · repeat' (first | array_mem_dec | fail)
      exact fin kk fun h => q1 h.1
  · repeat' (first | array_mem_dec | fail)
    refine Vc.ite_dn (by simp; omega) ?_
    repeat' (first | array_mem_dec | fail)
    refine Vc.ite_dn (by simp; omega) ?_
    repeat' (first | array_mem_dec | fail)
    exact ⟨rfl, kk⟩
end

def p1B (w : Str) : Bool := w.cps.toList.all digB && !decide (w = ("" : Str))
def p2B (w : Str) : Bool := decide (w = ("0" : Str)) || !decide (w.cps.toList.head? = some 48)
theorem fig_p (w : Str) : (p2B w && p1B w) = figB w := by
  unfold p1B p2B figB
  have e1 : (w = ("" : Str)) ↔ w.cps.toList = [] := by
    rw [str_eq_iff]
    have : ("" : Str).cps.toList = [] := by decide +kernel
    rw [this]
  have e2 : (w = ("0" : Str)) ↔ w.cps.toList = [48] := by
    rw [str_eq_iff]
    have : ("0" : Str).cps.toList = [48] := by decide +kernel
    rw [this]
  simp only [e1, e2]
  generalize w.cps.toList = l
  cases l with
  | nil => simp [figL]
  | cons c r =>
    rw [figL_cons]
    by_cases h : c = 48
    · subst h
      by_cases h2 : r = []
      · subst h2; simp
      · simp [h2]
    · simp [h]
section
variable {st : Store} {N W : Nat} {names ws : List Str}
theorem law_event_spec (hN : st[N]? = some (.lst (names.map .str))) (hW : st[W]? = some (.lst (ws.map .str))) (hw : ∀ w ∈ ws, TxOk w) (hl : ws.length ≤ 50000) :
    WpR (f_law_event [.ref N, .ref W] st) (fun v s => v = evV (evL names ws) ∧ Keep [] st s) (fun _ _ => False) := by
  refine Vc.b_def rfl ?_
  unfold m_law_event
  show WpO (Se.sSeq (Se.sSet 2 (Se.mLc (Se.iSeqM (Se.mCut _ _ _)) (Se.gSet 3) (Se.tAndM (Se.mTest (Se.mBin Ab.vEq (Se.mLc (Se.iStrM (Se.mVar 3)) (Se.gSet 4) t_dg (Se.mVar 4) [4]) (Se.mLst Se.aNil))) _) _ _)) _ _ _) _
  repeat' (first | array_mem_dec | fail)
  refine Vc.v_cutL hW ?_
  repeat' (first | array_mem_dec | fail)
  rename_i C s0 hC k0 l0
  rw [show Ab.cut (ws.map Val.str) (some 1) none = (ws.drop 1).map Val.str from (Vc.cut_drop (ws.map Val.str) 1).trans (List.map_drop ..).symm] at *
  repeat' (first | array_mem_dec | fail)
  have hw1 : ∀ w ∈ ws.drop 1, TxOk w := fun w h => hw w (List.mem_of_mem_drop h)
  refine Vc.lc_new fun D s1 hD0 k1 l1 => ?_
  have lC := Vc.lt_of hC
  refine lcF_l p1B Val.str (fun s k => Ab.seqAt_lst (k.get (k1.get hC (by simp)) (by simp; omega))) (by rw [List.length_drop]; omega) (fun w hwm s k => ?_) (fun s hD k => ?_) hD0
  · have lw := (hw1 w hwm).l
    repeat' (first | array_mem_dec | fail)
    refine ⟨w, rfl, ?_⟩
    repeat' (first | array_mem_dec | fail)
    unfold Ab.signsW
    refine Vc.lc_pure (fun c : Nat => !digB c) (fun c : Nat => Val.str ⟨#[c]⟩) (fun _ => trivial) (by rw [Array.length_toList]; show w.length ≤ _; omega) (fun c hc acc => ?_) ?_
    · repeat' (first | array_mem_dec | fail)
      refine Vc.via0 (dg_spec (c := c) rfl) fun v s hv => ?_
      obtain ⟨rfl, rfl⟩ := hv
      refine ⟨rfl, rfl, fun _ => ?_⟩
      repeat' (first | array_mem_dec | fail)
      exact ⟨rfl, rfl⟩
    repeat' (first | array_mem_dec | fail)
    rename_i A s2 hA k2 l2 B s3 hB k3 l3
    refine v_eqS0 (k3.get hA (by simp)) hB (fun c hc => asc_one (hw1 w hwm).asc (List.mem_filter.mp hc).1) ?_
    repeat' (first | array_mem_dec | fail)
    have e1 : decide (w.cps.toList.filter (fun c => !digB c) = []) = w.cps.toList.all digB := by
      have := any_filter (xs := w.cps.toList) (p := fun c => !digB c)
      rw [List.any_eq_not_all_not] at this
      simp only [Bool.not_not] at this
      generalize decide (w.cps.toList.filter (fun c => !digB c) = []) = x at *
      generalize w.cps.toList.all digB = y at *
      cases x <;> cases y <;> first | rfl | cases this
    rw [e1]
    unfold p1B
    cases w.cps.toList.all digB with
    | false =>
      repeat' (first | array_mem_dec | fail)
      exact ⟨rfl, by (first | sizeOf_list_dec | fail), fun z => by cases z⟩
    | true =>
      repeat' (first | array_mem_dec | fail)
      refine ⟨(Bool.true_and _).symm, by (first | sizeOf_list_dec | fail), fun _ => ?_⟩
      repeat' (first | array_mem_dec | fail)
      exact ⟨rfl, by (first | sizeOf_list_dec | fail)⟩
  · repeat' (first | array_mem_dec | fail)
    have kk : Keep [] st s := by (first | sizeOf_list_dec | fail)
    clear k k1 k0 hC hD0
    refine Vc.lc_pure p2B Val.str (fun acc => Ab.seqAt_lst (by (first | array_get_dec | fail))) (Nat.le_trans (List.length_filter_le _ _) (by rw [List.length_drop]; omega)) (fun w hwm acc => ?_) ?_
    · obtain ⟨hm1, hm2⟩ := List.mem_filter.mp hwm
      have lw := (hw1 w hm1).l
      repeat' (first | array_mem_dec | fail)
      have e3 : ∃ c r, w.cps.toList = c :: r := by
        cases e : w.cps.toList with
        | nil =>
          unfold p1B at hm2
          have : w = ("" : Str) := str_eq_iff.mpr (by rw [e]; decide +kernel)
          rw [decide_eq_true this] at hm2
          simp at hm2
        | cons c r => exact ⟨c, r, rfl⟩
      obtain ⟨c, r, e⟩ := e3
      refine Vc.ite_d (fun q => ?_) (fun q => ?_)
      · refine ⟨?_, rfl, fun _ => ?_⟩
        · unfold p2B
          rw [decide_eq_true q]; rfl
        repeat' (first | array_mem_dec | fail)
        exact ⟨rfl, rfl⟩
      · repeat' (first | array_mem_dec | fail)
        refine Vc.v_ixS (c := c) (by omega) (by rw [e]; exact at0) ?_
        repeat' (first | array_mem_dec | fail)
        refine ⟨?_, rfl, fun _ => ?_⟩
        · unfold p2B
          rw [decide_eq_false q, Bool.false_or, zero_ne w e, e]
          simp
        repeat' (first | array_mem_dec | fail)
        exact ⟨rfl, rfl⟩
    repeat' (first | array_mem_dec | fail)
    rename_i P s2 hP0 k2 l2
    have hP : s2[P]? = some (.lst (((ws.drop 1).filter figB).map .str)) := by
      rw [hP0, List.filter_filter]
      congr 3
      exact List.filter_congr fun w _ => fig_p w
    have k02 := kk.trans k2
    have hN1 := k02.get hN (by simp)
    have hW1 := k02.get hW (by simp)
    clear hP0 k2 kk hN hW hD
    rcases ws with _ | ⟨a, _ | ⟨b, _ | ⟨c, _ | ⟨e, r⟩⟩⟩⟩
    · repeat' (first | array_mem_dec | fail)
      refine Vc.ite_dn (by simp) ?_
      repeat' (first | array_mem_dec | fail)
      refine Vc.ite_dn (by simp) ?_
      repeat' (first | array_mem_dec | fail)
      exact ⟨rfl, k02⟩
    · repeat' (first | array_mem_dec | fail)
      refine Vc.ite_dn (by simp) ?_
      repeat' (first | array_mem_dec | fail)
      refine Vc.ite_dn (by simp) ?_
      repeat' (first | array_mem_dec | fail)
      exact ⟨rfl, k02⟩
    · have hb := hw b (by simp)
      have lb := hb.l
      repeat' (first | array_mem_dec | fail)
      refine Vc.ite_dp rfl ?_
      repeat' (first | array_mem_dec | fail)
      refine Vc.ite_d (fun q1 => ?_) (fun q1 => ?_)
      · subst q1
        repeat' (first | array_mem_dec | fail)
        refine Vc.ite_d (fun q2 => ?_) (fun q2 => ?_)
        · subst q2
          repeat' (first | array_mem_dec | fail)
          rw [evL_two, if_pos rfl]
          exact ⟨rfl, k02⟩
        · repeat' (first | array_mem_dec | fail)
          rename_i F s3 hF k3 l3
          have hP3 := k3.get hP (by simp)
          have hW3 := k3.get hW1 (by simp)
          have k03 := k02.trans k3
          refine v_neL0 (g := PyData.str) hP3 hF (fun x hx => by rw [Ab.deep, if_pos (asc_lay (hw1 x (List.mem_filter.mp hx).1).asc)]) ?_
          have e1 : (["rain", b] : List Str).drop 1 = [b] := rfl
          rw [e1] at hP3 ⊢
          cases f : figB b with
          | false =>
            rw [List.filter_cons, f, if_neg Bool.false_ne_true, List.filter_nil] at hP3 ⊢
            repeat' (first | array_mem_dec | fail)
            refine Vc.ite_dn (by simp) ?_
            repeat' (first | array_mem_dec | fail)
            refine ⟨?_, k03⟩
            rw [evL_two, if_neg q2, if_neg fun z => by rw [f] at z; cases z.1]
            rfl
          | true =>
            rw [List.filter_cons, f, if_pos rfl, List.filter_nil] at hP3 ⊢
            rw [decide_eq_false (List.cons_ne_nil _ _)]
            repeat' (first | array_mem_dec | fail)
            refine Vc.v_lenStr (by omega) ?_
            repeat' (first | array_mem_dec | fail)
            refine Vc.ite_d (fun q3 => ?_) (fun q3 => ?_)
            · repeat' (first | array_mem_dec | fail)
              refine Vc.v_intS (fig_int f (by omega)) (by omega) ?_
              repeat' (first | array_mem_dec | fail)
              refine Vc.ite_d (fun q4 => ?_) (fun q4 => ?_)
              · repeat' (first | array_mem_dec | fail)
                refine Vc.v_intS (fig_int f (by omega)) (by omega) ?_
                repeat' (first | array_mem_dec | fail)
                refine ⟨?_, k03⟩
                rw [evL_two, if_neg q2, if_pos ⟨f, by omega, q4⟩]
                rfl
              · repeat' (first | array_mem_dec | fail)
                refine Vc.ite_dn (by simp) ?_
                repeat' (first | array_mem_dec | fail)
                refine ⟨?_, k03⟩
                rw [evL_two, if_neg q2, if_neg fun z => q4 z.2.2]
                rfl
            · repeat' (first | array_mem_dec | fail)
              refine Vc.ite_dn (by simp) ?_
              repeat' (first | array_mem_dec | fail)
              refine ⟨?_, k03⟩
              rw [evL_two, if_neg q2, if_neg fun z => q3 (by have := z.2.1; omega)]
              rfl
      · repeat' (first | array_mem_dec | fail)
        refine Vc.ite_dn (by simp) ?_
        repeat' (first | array_mem_dec | fail)
        rw [evL_two_ne _ q1]
        exact ⟨rfl, k02⟩
    · have hc := hw c (by simp)
      have lc := hc.l
      have fin : ¬(a = ("level" : Str) ∧ b ∈ names ∧ figB c = true ∧ c.length ≤ 10) → Val.non = evV (evL names [a, b, c]) ∧ Keep [] st s2 := fun hn => ⟨by rw [evL_three, if_neg hn]; rfl, k02⟩
      repeat' (first | array_mem_dec | fail)
      refine Vc.ite_dn (by simp) ?_
      repeat' (first | array_mem_dec | fail)
      refine Vc.ite_dp rfl ?_
      repeat' (first | array_mem_dec | fail)
      refine Vc.ite_d (fun q1 => ?_) (fun q1 => ?_)
      · repeat' (first | array_mem_dec | fail)
        refine Vc.v_inLs hN1 ?_
        repeat' (first | array_mem_dec | fail)
        refine Vc.ite_d (fun q2 => ?_) (fun q2 => ?_)
        · repeat' (first | array_mem_dec | fail)
          refine Vc.v_inLs hP ?_
          repeat' (first | array_mem_dec | fail)
          refine Vc.ite_d (fun q3 => ?_) (fun q3 => ?_)
          · have f := (List.mem_filter.mp q3).2
            repeat' (first | array_mem_dec | fail)
            refine Vc.v_lenStr (by omega) ?_
            repeat' (first | array_mem_dec | fail)
            refine Vc.ite_d (fun q4 => ?_) (fun q4 => ?_)
            · repeat' (first | array_mem_dec | fail)
              refine Vc.v_idxL hN1 q2 ?_
              repeat' (first | array_mem_dec | fail)
              refine Vc.v_intS (fig_int f (by omega)) (by omega) ?_
              repeat' (first | array_mem_dec | fail)
              refine ⟨?_, k02⟩
              rw [evL_three, if_pos ⟨q1, q2, f, by omega⟩]
              rfl
            · repeat' (first | array_mem_dec | fail)
              exact fin fun z => q4 (by have := z.2.2.2; omega)
          · repeat' (first | array_mem_dec | fail)
            exact fin fun z => q3 (List.mem_filter.mpr ⟨by simp, z.2.2.1⟩)
        · repeat' (first | array_mem_dec | fail)
          exact fin fun h => q2 h.2.1
      · repeat' (first | array_mem_dec | fail)
        exact fin fun h => q1 h.1
    · repeat' (first | array_mem_dec | fail)
      refine Vc.ite_dn (by simp; omega) ?_
      repeat' (first | array_mem_dec | fail)
      refine Vc.ite_dn (by simp; omega) ?_
      repeat' (first | array_mem_dec | fail)
      exact ⟨rfl, k02⟩
end

def amt (a : Int) : Option Int → Int
  | none => a
  | some r => r
structure RS where
  lv : List Int
  tk : Nat
  ok : Bool
def stepR (bars : List Bar) (a : Int) (s : RS) : Ev → RS
  | .rain o => ⟨(tickT s.tk (amt a o) [] (bars.zip s.lv)).found, s.tk + 1, s.ok⟩
  | .level k v => ⟨s.lv, s.tk, s.ok && decide (s.lv.getD k 0 = v)⟩
def runF (bars : List Bar) (a : Int) (s : RS) (evs : List Ev) : RS := evs.foldl (stepR bars a) s
def runE (bars : List Bar) (a : Int) (evs : List Ev) : RS := runF bars a ⟨List.replicate bars.length 0, 0, true⟩ evs
theorem runE_snoc (bars : List Bar) (a : Int) (evs : List Ev) (e : Ev) : runE bars a (evs ++ [e]) = stepR bars a (runE bars a evs) e := by
  unfold runE runF; rw [List.foldl_append]; rfl
theorem isRain_r (a : Option Int) : isRain (.rain a) = true := rfl
theorem isRain_l (k : Nat) (v : Int) : isRain (.level k v) = false := rfl
theorem stepR_len {bars : List Bar} {a : Int} {s : RS} (h : s.lv.length = bars.length) (e : Ev) : (stepR bars a s e).lv.length = bars.length := by
  cases e with
  | rain o =>
    show (tickT s.tk (amt a o) [] (bars.zip s.lv)).found.length = _
    rw [tickT_len, List.length_zip, h, Nat.min_self]
  | level k v => exact h
theorem runF_len {bars : List Bar} {a : Int} : ∀ {evs : List Ev} {s : RS}, s.lv.length = bars.length → (runF bars a s evs).lv.length = bars.length
  | [], _, h => h
  | e :: es, s, h => runF_len (evs := es) (stepR_len h e)
theorem runE_len (bars : List Bar) (a : Int) (evs : List Ev) : (runE bars a evs).lv.length = bars.length := runF_len (by simp)
def EvOk (n : Nat) : Ev → Prop
  | .level k _ => k < n
  | .rain _ => True
theorem getD_some {α : Type} {xs : List α} {k : Nat} {d : α} (h : k < xs.length) : xs[k]? = some (xs.getD k d) := by
  rw [List.getD_eq_getElem?_getD, List.getElem?_eq_getElem h]; rfl
theorem runF_rains {bars : List Bar} {a : Int} : ∀ {evs : List Ev} {s : RS}, (runF bars a s evs).tk = s.tk + (evs.filter isRain).length
  | [], _ => rfl
  | .rain o :: es, s => by
    show (runF bars a (stepR bars a s (.rain o)) es).tk = _
    rw [runF_rains, List.filter_cons, isRain_r, if_pos rfl, List.length_cons]
    show s.tk + 1 + _ = _
    omega
  | .level k v :: es, s => by
    show (runF bars a (stepR bars a s (.level k v)) es).tk = _
    rw [runF_rains, List.filter_cons, isRain_l, if_neg Bool.false_ne_true]
    rfl
theorem runE_rains (bars : List Bar) (a : Int) (evs : List Ev) : (runE bars a evs).tk = (evs.filter isRain).length := by
  unfold runE; rw [runF_rains]; simp
def sgnF (bars : List Bar) (a : Int) : List Int → Nat → List Ev → Int
  | _, _, [] => 0
  | lv, t, .rain o :: es => sgnF bars a (tickT t (amt a o) [] (bars.zip lv)).found (t + 1) es
  | lv, t, .level k v :: es => if lv.getD k 0 = v then sgnF bars a lv t es else if lv.getD k 0 < v then -1 else 1
def sgnE (bars : List Bar) (a : Int) (evs : List Ev) : Int := sgnF bars a (List.replicate bars.length 0) 0 evs
theorem runF_false {bars : List Bar} {a : Int} : ∀ {evs : List Ev} {s : RS}, s.ok = false → (runF bars a s evs).ok = false
  | [], _, h => h
  | .rain o :: es, s, h => runF_false (evs := es) (s := stepR bars a s (.rain o)) h
  | .level k v :: es, s, h => runF_false (evs := es) (s := stepR bars a s (.level k v)) (by show (s.ok && _) = false; rw [h]; rfl)
theorem runF_sgn {bars : List Bar} {a : Int} : ∀ {evs : List Ev} {s : RS}, s.ok = true → (runF bars a s evs).ok = decide (sgnF bars a s.lv s.tk evs = 0)
  | [], s, h => h
  | .rain o :: es, s, h => runF_sgn (evs := es) (s := stepR bars a s (.rain o)) h
  | .level k v :: es, s, h => by
    unfold sgnF
    show (runF bars a (stepR bars a s (.level k v)) es).ok = _
    by_cases q : s.lv.getD k 0 = v
    · rw [if_pos q, runF_sgn (by show (s.ok && decide (s.lv.getD k 0 = v)) = true; rw [h, decide_eq_true q]; rfl)]
      rfl
    · rw [if_neg q, runF_false (by show (s.ok && decide (s.lv.getD k 0 = v)) = false; rw [decide_eq_false q, Bool.and_false])]
      split <;> rfl
theorem runE_sgn (bars : List Bar) (a : Int) (evs : List Ev) : (runE bars a evs).ok = decide (sgnE bars a evs = 0) := runF_sgn rfl
inductive LeL : List Int → List Int → Prop
  | nil : LeL [] []
  | cons {a b : Int} {l m : List Int} (h : a ≤ b) (t : LeL l m) : LeL (a :: l) (b :: m)
theorem LeL.snoc {a b : Int} : ∀ {l m : List Int}, LeL l m → a ≤ b → LeL (l ++ [a]) (m ++ [b])
  | _, _, .nil, h => .cons h .nil
  | _, _, .cons h' t, h => .cons h' (t.snoc h)
theorem LeL.get : ∀ {l m : List Int} (k : Nat), LeL l m → l.getD k 0 ≤ m.getD k 0
  | _, _, _, .nil => by simp
  | _, _, 0, .cons h _ => by simpa using h
  | _, _, k + 1, .cons _ t => by simpa using t.get k
theorem LeL.refl : ∀ l : List Int, LeL l l
  | [] => .nil
  | a :: l => .cons (Int.le_refl _) (LeL.refl l)
theorem stepT_mono {now : Nat} {A B : Int} {T U : TS} {b : Bar} {x y : Int} (hr : 0 ≤ b.roof) (hA : A ≤ B) (hf : T.flow ≤ U.flow) (hl : LeL T.found U.found) (hx : x ≤ y) :
    (stepT now A [] T (b, x)).flow ≤ (stepT now B [] U (b, y)).flow ∧ LeL (stepT now A [] T (b, x)).found (stepT now B [] U (b, y)).found := by
  have m := Int.mul_le_mul_of_nonneg_left hA hr
  unfold stepT
  dsimp only
  rw [if_neg (by simp), if_neg (by simp)]
  generalize b.roof * A = p at *
  generalize b.roof * B = q at *
  generalize wishOf b now = w
  exact ⟨by omega, hl.snoc (by omega)⟩
theorem tickT_mono {now : Nat} {A B : Int} (hA : A ≤ B) : ∀ {bars : List Bar} {la lb : List Int} {T U : TS}, (∀ b ∈ bars, 0 ≤ b.roof) → LeL la lb → T.flow ≤ U.flow → LeL T.found U.found → LeL ((bars.zip la).foldl (stepT now A []) T).found ((bars.zip lb).foldl (stepT now B []) U).found
  | [], _, _, _, _, _, _, _, h => by rw [List.zip_nil_left, List.zip_nil_left]; exact h
  | b :: bs, _, _, _, _, _, .nil, _, h => by rw [List.zip_nil_right]; exact h
  | b :: bs, _, _, T, U, hr, .cons (a := x) (b := y) hx t, hf, hl => by
    obtain ⟨h1, h2⟩ := stepT_mono (now := now) (hr b List.mem_cons_self) hA hf hl hx
    rw [List.zip_cons_cons, List.zip_cons_cons, List.foldl_cons, List.foldl_cons]
    exact tickT_mono hA (fun c hc => hr c (List.mem_cons_of_mem _ hc)) t h1 h2
theorem sgnF_mono {bars : List Bar} (hr : ∀ b ∈ bars, 0 ≤ b.roof) {a b : Int} (hab : a ≤ b) : ∀ {evs : List Ev} {la lb : List Int} {t : Nat}, LeL la lb → sgnF bars a la t evs ≤ sgnF bars b lb t evs
  | [], _, _, _, _ => Int.le_refl _
  | .rain o :: es, la, lb, t, h => by
    unfold sgnF
    refine sgnF_mono hr hab (tickT_mono ?_ hr h (Int.le_refl _) .nil)
    cases o with
    | none => exact hab
    | some r => exact Int.le_refl _
  | .level k v :: es, la, lb, t, h => by
    have lo : ∀ {evs : List Ev} {l : List Int} {t : Nat} {a : Int}, -1 ≤ sgnF bars a l t evs ∧ sgnF bars a l t evs ≤ 1 := by
      intro evs
      induction evs with
      | nil =>
        intro l t a
        unfold sgnF
        exact ⟨by decide, by decide⟩
      | cons e es ih =>
        intro l t a
        cases e with
        | rain o => unfold sgnF; exact ih
        | level k v =>
          unfold sgnF
          split
          · exact ih
          · split
            · exact ⟨by decide, by decide⟩
            · exact ⟨by decide, by decide⟩
    have g := h.get k
    have i := sgnF_mono hr hab (evs := es) (t := t) h
    have l1 := @lo es la t a
    have l2 := @lo es lb t b
    unfold sgnF
    split <;> split <;> (try split) <;> (try split) <;> omega
theorem sgnE_mono {bars : List Bar} (hr : ∀ b ∈ bars, 0 ≤ b.roof) {a b : Int} (hab : a ≤ b) (evs : List Ev) : sgnE bars a evs ≤ sgnE bars b evs := sgnF_mono hr hab (LeL.refl _)
theorem law_tick0_spec {rain : List Int} {bars : List Bar} {lv : Nat} {levels : List Int} {now : Nat} {amount : Int} {t : Nat} {st : Store} (hb : ∀ b ∈ bars, b.Ok t) (t0 : 0 < t) (hl : levels.length = bars.length) (hs : bars.length ≤ 1000)
    (h1 : st[lv]? = some (.lst (levels.map .int)))  :
    WpR (f_law_tick [.tup [.tup (rain.map .int), .tup (bars.map Bar.val)], .ref lv, .int now, .int amount, .tup []] st) (fun v s => ∃ F, v = .tup [.ref F, .int (tickT now amount [] (bars.zip levels)).drawn, .int (tickT now amount [] (bars.zip levels)).missed, .int (tickT now amount [] (bars.zip levels)).flow] ∧ s[F]? = some (.lst ((tickT now amount [] (bars.zip levels)).found.map .int)) ∧ Keep [] st s ∧ st.length ≤ F) (fun _ _ => False) := by
  refine Vc.b_def rfl ?_
  unfold m_law_tick
  repeat' (first | array_mem_dec | fail)
  rename_i F s0 hF k0 hFl
  rw [List.length_map]
  refine Vc.ex_range1 (by omega) ?_
  refine Vc.for_l (fun d ρ s => ∃ (a b c e f g h i : Option Val), ρ = [some (.tup [.tup (rain.map .int), .tup (bars.map Bar.val)]), some (.ref lv), some (.int now), some (.int amount), some (.tup []), some (.ref F), some (.int (tickT now amount [] ((bars.zip levels).take d.length)).drawn), some (.int (tickT now amount [] ((bars.zip levels).take d.length)).missed), some (.int (tickT now amount [] ((bars.zip levels).take d.length)).flow), a, b, c, e, f, g, h, i] ∧
    s[F]? = some (.lst ((tickT now amount [] ((bars.zip levels).take d.length)).found.map .int)) ∧ Keep [F] s0 s) (fun _ _ _ _ => trivial) ?_ ?_ ⟨_, _, _, _, _, _, _, _, rfl, hF, by (first | sizeOf_list_dec | fail)⟩
  · rintro d x rest ρ s e ⟨a, b, c, e', f, g, h, i, rfl, h3, k3⟩
    obtain ⟨e1, e2, e3⟩ := Vc.range_split e
    rw [Int.toNat_natCast] at e3
    have hx : bars[x]? = some bars[x] := List.getElem?_eq_getElem (by omega)
    have hy : levels[x]? = some levels[x] := List.getElem?_eq_getElem (by omega)
    have ok := hb _ (List.mem_of_getElem? hx)
    have hw : bars[x].dr[now % bars[x].dr.length]? = some (wishOf bars[x] now) := by
      have : now % bars[x].dr.length < bars[x].dr.length := Nat.mod_lt _ (by have := ok.dl; omega)
      unfold wishOf
      rw [List.getD_eq_getElem?_getD, List.getElem?_eq_getElem this]; rfl
    have hz : (bars.zip levels)[x]? = some (bars[x], levels[x]) := by rw [List.getElem?_zip_eq_some]; exact ⟨hx, hy⟩
    have hT : tickT now amount [] ((bars.zip levels).take (d ++ [x]).length) = stepT now amount [] (tickT now amount [] ((bars.zip levels).take d.length)) (bars[x], levels[x]) := by
      rw [List.length_append, List.length_singleton, List.take_succ, ← e1, hz, Option.toList, tickT_snoc]
    have hlen : (tickT now amount [] ((bars.zip levels).take d.length)).found.length ≤ 1000 := by
      rw [tickT_len, List.length_take, List.length_zip]; omega
    rw [hT]
    generalize tickT now amount [] ((bars.zip levels).take d.length) = T at *
    generalize bars[x] = B at *
    generalize levels[x] = lev at *
    repeat' (first | array_mem_dec | fail)
    refine Vc.v_ixTn hx ?_
    rw [Bar.val_eq B]
    repeat' (first | array_mem_dec | fail)
    refine Vc.v_ixLn (f := .int) (by (first | array_get_dec | fail)) hy ?_
    repeat' (first | array_mem_dec | fail)
    have := ok.r0; have := ok.r1; have := ok.dl
    repeat' (first | array_mem_dec | fail)
    refine Vc.ite_both rfl rfl ?_
    have ho : (if B.cap < lev + B.roof * amount + T.flow then lev + B.roof * amount + T.flow - B.cap else 0) = max 0 (lev + B.roof * amount + T.flow - B.cap) := by split <;> omega
    rw [ho]
    repeat' (first | array_mem_dec | fail)
    rw [List.length_map]
    repeat' (first | array_mem_dec | fail)
    rw [← Int.natCast_emod]
    refine Vc.v_ixTn hw ?_
    repeat' (first | array_mem_dec | fail)
    refine Vc.v_inTs (ys := []) ?_
    repeat' (first | array_mem_dec | fail)
    generalize hF : lev + B.roof * amount + T.flow - max 0 (lev + B.roof * amount + T.flow - B.cap) = full
    refine Vc.ite_both (i := 0) (j := min full (wishOf B now)) rfl (show (if decide (wishOf B now < full) = true then R.ok (Val.int (wishOf B now)) s else R.ok (Val.int full) s) = _ by by_cases q : wishOf B now < full <;> simp [q] <;> omega) ?_
    repeat' (first | array_mem_dec | fail)
    rename_i s1 h4 k4
    have hS : stepT now amount [] T (B, lev) = ⟨T.found ++ [full - (if B.nm ∈ [] then 0 else min full (wishOf B now))], T.drawn + (if B.nm ∈ [] then 0 else min full (wishOf B now)), T.missed + (wishOf B now - (if B.nm ∈ [] then 0 else min full (wishOf B now))), max 0 (lev + B.roof * amount + T.flow - B.cap)⟩ := by
      subst hF; rfl
    rw [hS]
    refine ⟨_, _, _, _, _, _, _, _, by rw [Int.add_sub_assoc T.missed], by rw [List.map_append]; exact h4, by (first | sizeOf_list_dec | fail)⟩
  · rintro ρ s ⟨a, b, c, e', f, g, h, i, rfl, h3, k3⟩
    repeat' (first | array_mem_dec | fail)
    simp only [Int.toNat_natCast, List.length_range] at h3 ⊢
    rw [List.take_of_length_le (by rw [List.length_zip]; omega)] at h3 ⊢
    exact ⟨F, rfl, h3, by (first | sizeOf_list_dec | fail), by (first | sizeOf_list_dec | fail)⟩
section
variable {st : Store} {E : Nat} {rain : List Int} {bars : List Bar} {evs : List Ev}
theorem isHid_n : isHid (.rain none) = true := rfl
theorem isHid_s (r : Int) : isHid (.rain (some r)) = false := rfl
theorem isHid_l (k : Nat) (v : Int) : isHid (.level k v) = false := rfl
theorem val_rn : Ev.val (.rain none) = .tup [.str "rain", .non] := rfl
theorem val_rs (r : Int) : Ev.val (.rain (some r)) = .tup [.str "rain", .int r] := rfl
theorem val_lv (k : Nat) (v : Int) : Ev.val (.level k v) = .tup [.str "level", .int k, .int v] := rfl
theorem law_run_spec {a : Int} (ok : RowOk rain bars) (hE : st[E]? = some (.lst (evs.map Ev.val))) (he : ∀ e ∈ evs, EvOk bars.length e) :
    WpR (f_law_run [.tup [.tup (rain.map .int), .tup (bars.map Bar.val)], .ref E, .int a] st) (fun v s => ∃ L, v = .tup [.bl (runE bars a evs).ok, .ref L] ∧ s[L]? = some (.lst ((runE bars a evs).lv.map .int)) ∧ Keep [] st s ∧ st.length ≤ L) (fun _ _ => False) := by
  have b0 := ok.b0; have b1 := ok.b1; have n0 := ok.n0
  refine Vc.b_def rfl ?_
  unfold m_law_run
  refine Vc.b_seq (Vc.b_par3 ?_)
  repeat' (first | array_mem_dec | fail)
  rename_i Z s0 hZ k0 l0
  rw [List.length_map]
  refine Vc.v_repL hZ ⟨by omega, by omega, by simp⟩ ?_
  repeat' (first | array_mem_dec | fail)
  rename_i L s1 hL k1 l1
  rw [rep_zero, Int.toNat_natCast] at hL
  refine ⟨_, _, _, rfl, ?_⟩
  repeat' (first | array_mem_dec | fail)
  refine Vc.for_l (fun d ρ s => ∃ (L : Nat) (b6 : Option Val), ρ = [some (.tup [.tup (rain.map .int), .tup (bars.map Bar.val)]), some (.ref E), some (.int a), some (.ref L), some (.int (runE bars a d).tk), some (.bl (runE bars a d).ok), b6] ∧ s[L]? = some (.lst ((runE bars a d).lv.map .int)) ∧ st.length ≤ L ∧ Keep [] st s) (fun d ρ s ⟨_, _, _, _, _, k⟩ => Ab.seqAt_lst (k.get hE (by simp))) ?_ ?_ ⟨L, none, rfl, hL, by (first | sizeOf_list_dec | fail), by (first | sizeOf_list_dec | fail)⟩
  · rintro d e rest ρ s e0 ⟨L, b6, rfl, hL, lL, k⟩
    have hlen := runE_len bars a d
    rw [runE_snoc]
    generalize runE bars a d = S at *
    obtain ⟨lv, tk, good⟩ := S
    repeat' (first | array_mem_dec | fail)
    refine rain_test ?_
    have hem : EvOk bars.length e := he e (by rw [e0]; simp)
    cases e with
    | rain o =>
      rw [isRain_r]
      repeat' (first | array_mem_dec | fail)
      refine hid_test ?_
      cases o with
      | none =>
        rw [isHid_n]
        repeat' (first | array_mem_dec | fail)
        refine Vc.via0 (law_tick0_spec (t := rain.length) ok.ok n0 hlen (by omega) hL) fun v s2 hv => ?_
        obtain ⟨F, rfl, hF, k2, lF⟩ := hv
        repeat' (first | array_mem_dec | fail)
        exact ⟨F, _, rfl, hF, by (first | sizeOf_list_dec | fail), by (first | sizeOf_list_dec | fail)⟩
      | some r =>
        rw [isHid_s, val_rs]
        repeat' (first | array_mem_dec | fail)
        refine Vc.via0 (law_tick0_spec (t := rain.length) ok.ok n0 hlen (by omega) hL) fun v s2 hv => ?_
        obtain ⟨F, rfl, hF, k2, lF⟩ := hv
        repeat' (first | array_mem_dec | fail)
        exact ⟨F, _, rfl, hF, by (first | sizeOf_list_dec | fail), by (first | sizeOf_list_dec | fail)⟩
    | level j v =>
      rw [isRain_l, val_lv]
      have hj : lv[j]? = some (lv.getD j 0) := getD_some (by rw [hlen]; exact hem)
      cases good with
      | true =>
        repeat' (first | array_mem_dec | fail)
        refine Vc.v_ixLn (f := .int) hL hj ?_
        repeat' (first | array_mem_dec | fail)
        exact ⟨L, _, rfl, hL, lL, k⟩
      | false =>
        repeat' (first | array_mem_dec | fail)
        exact ⟨L, _, rfl, hL, lL, k⟩
  · rintro ρ s ⟨L, b6, rfl, hL, lL, k⟩
    repeat' (first | array_mem_dec | fail)
    exact ⟨L, rfl, hL, k, lL⟩
end
noncomputable def t_ln (i : Nat) : ME := (Se.mIf (Se.mTest (Se.mBin Ab.vNe (Se.mVar i) (Se.mC (.str "")))) (Se.mBM "str" Ab.vSplit (Se.mVar i) (Se.aCons (Se.mC (.str "\n")) Se.aNil)) (Se.mLst (Se.aNil)))

noncomputable def linesOf (T : Str) : List Str := if T = ("" : Str) then [] else Txt.split T "\n"
noncomputable def dueStep (names : List Str) (bars : List Bar) (k : Nat) (evs : List Ev) (line : Str) : Option Ev :=
  if k < 300 then match evL names (Txt.split line " ") with
    | none => none
    | some e => if (isHid e && hid evs) = true then none else if (!hid evs && (!isRain e && !(runE bars 0 (evs ++ [e])).ok)) = true then none else some e
  else none
noncomputable def dueF (names : List Str) (bars : List Bar) : Nat → List Ev → List Str → Sum Nat (List Ev)
  | _, evs, [] => .inr evs
  | k, evs, l :: ls => match dueStep names bars k evs l with
    | none => .inl k
    | some e => dueF names bars (k + 1) (evs ++ [e]) ls
theorem dueF_cons_n {names : List Str} {bars : List Bar} {k : Nat} {evs : List Ev} {l : Str} {ls : List Str} (h : dueStep names bars k evs l = none) : dueF names bars k evs (l :: ls) = .inl k := by
  rw [dueF, h]
theorem dueF_cons_s {names : List Str} {bars : List Bar} {k : Nat} {evs : List Ev} {l : Str} {ls : List Str} {e : Ev} (h : dueStep names bars k evs l = some e) : dueF names bars k evs (l :: ls) = dueF names bars (k + 1) (evs ++ [e]) ls := by
  rw [dueF, h]
theorem evP_eq {names ws : List Str} {h : Bool} : evP names h ws = match evL names ws with | none => none | some e => if (isHid e && h) = true then none else some e := by
  cases e : evL names ws with
  | none => rw [evP_none e]
  | some v =>
    cases v with
    | rain o =>
      cases o with
      | none => rw [evP_hid e]; rfl
      | some r => rw [evP_some e]; rfl
    | level k v => rw [evP_level e]; rfl
theorem evL_ok {names ws : List Str} {e : Ev} (h : evL names ws = some e) : EvOk names.length e := by
  cases e with
  | rain o => trivial
  | level k v =>
    unfold evL at h
    split at h
    · split at h
      · split at h
        · cases h
        · split at h <;> cases h
      · cases h
    · split at h
      · rename_i z
        cases h
        exact List.idxOf_lt_length_iff.mpr z.2.1
      · cases h
    · cases h
theorem hid_snoc (evs : List Ev) (e : Ev) : hid (evs ++ [e]) = (hid evs || isHid e) := by
  unfold hid; rw [List.any_append]; simp
theorem txok_lines {T : Str} (h : TxOk T) : (∀ l ∈ linesOf T, TxOk l) ∧ (linesOf T).length ≤ 40001 := by
  unfold linesOf
  have hl := h.l
  split
  · exact ⟨fun l z => (by cases z), (by simp)⟩
  · exact ⟨fun l z => h.split nl_ok.1 nl_ok.2 z, by have := split_len (a := T) nl_ok.1 nl_ok.2; omega⟩
theorem txok_words {T : Str} (h : TxOk T) : (∀ l ∈ Txt.split T " ", TxOk l) ∧ (Txt.split T " ").length ≤ 50000 :=
  ⟨fun l z => h.split sp_ok.1 sp_ok.2 z, by have := split_len (a := T) sp_ok.1 sp_ok.2; have := h.l; omega⟩
theorem nl_len : (("\n" : Str).length == 0) = false := by decide +kernel
theorem sp_len : ((" " : Str).length == 0) = false := by decide +kernel
section
variable {st : Store} {ρ : Slots} {E : Nat} {rain : List Int} {bars : List Bar} {evs : List Ev} {T : Str}
theorem ln_spec {i : Nat} (h : ρ[i]? = some (some (.str T))) (ht : TxOk T) : WpR (t_ln i ρ st) (fun v s => ∃ L, v = .ref L ∧ s[L]? = some (.lst ((linesOf T).map .str)) ∧ Keep [] st s ∧ st.length ≤ L) (fun _ _ => False) := by
  have hl := ht.l
  unfold t_ln linesOf
  refine Vc.b_if (Vc.b_test (Vc.b_bin (Vc.b_var h (Vc.b_C ?_))))
  repeat' (first | array_mem_dec | fail)
  refine Vc.ite_nd (fun q => ?_) (fun q => ?_)
  · refine Vc.b_lst ?_
    repeat' (first | array_mem_dec | fail)
    rw [if_pos q]
    exact ⟨_, rfl, by assumption, by (first | sizeOf_list_dec | fail), by (first | sizeOf_list_dec | fail)⟩
  · refine Vc.b_BM (Vc.b_var h ⟨rfl, ?_⟩)
    repeat' (first | array_mem_dec | fail)
    refine Vc.v_split nl_len (by omega) ?_
    repeat' (first | array_mem_dec | fail)
    rw [if_neg q]
    exact ⟨_, rfl, by assumption, by (first | sizeOf_list_dec | fail), by (first | sizeOf_list_dec | fail)⟩
theorem law_due_spec (ok : RowOk rain bars) (ht : TxOk T) :
    WpR (f_law_due [.tup [.tup (rain.map .int), .tup (bars.map Bar.val)], .str T] st) (fun v s => Keep [] st s ∧ ((∃ k, dueF (bars.map Bar.nm) bars 0 [] (linesOf T) = .inl k ∧ v = .tup [.str "daybook", .int k]) ∨ (∃ evs E, dueF (bars.map Bar.nm) bars 0 [] (linesOf T) = .inr evs ∧ evs.length ≤ 300 ∧ (∀ e ∈ evs, EvOk bars.length e) ∧ v = .tup [.str "value", .ref E] ∧ s[E]? = some (.lst (evs.map Ev.val)) ∧ st.length ≤ E))) (fun _ _ => False) := by
  have b0 := ok.b0; have b1 := ok.b1; have n0 := ok.n0
  obtain ⟨hL1, hL2⟩ := txok_lines ht
  refine Vc.b_def rfl ?_
  unfold m_law_due
  show WpO (Se.sSeq (Se.sPar3 2 3 4 (Se.aCons _ (Se.aCons _ (Se.aCons (t_ln 1) _)))) _ _ _) _
  refine Vc.b_seq (Vc.b_par3 ?_)
  repeat' (first | array_mem_dec | fail)
  rename_i E s0 hE k0 lE
  refine Vc.lc_map (fun b : Bar => .str b.nm) (fun _ => trivial) (by omega) (fun b hb acc => ?_) ?_
  · rw [Bar.val_eq]
    repeat' (first | array_mem_dec | fail)
    exact ⟨rfl, rfl⟩
  repeat' (first | array_mem_dec | fail)
  rename_i N s1 hN k1 lN
  refine Vc.via0 (ln_spec rfl ht) fun v s2 hv => ?_
  obtain ⟨L, rfl, hL, k2, lL⟩ := hv
  repeat' (first | array_mem_dec | fail)
  refine ⟨_, _, _, rfl, ?_⟩
  repeat' (first | array_mem_dec | fail)
  rw [List.length_map]
  refine Vc.ex_range1 (by omega) ?_
  have hN2 : s2[N]? = some (.lst ((bars.map Bar.nm).map .str)) := by rw [k2.get hN (by simp), List.map_map]; rfl
  have k02 : Keep [] s0 s2 := k1.trans k2
  have hE2 := k02.get hE (by simp)
  have k012 := k0.trans k02
  have hEN : N ≠ E ∧ L ≠ E := by
    have := Vc.lt_of hE; have := k1.1
    exact ⟨by omega, by omega⟩
  clear hN hE k1 k2 k02 k0
  generalize hLn : linesOf T = lines at *
  have lE2 := Vc.lt_of hE2
  have lN2 := Vc.lt_of hN2
  refine Vc.for_l (fun d ρ s => ∃ (evs : List Ev) (a5 a6 a7 a8 : Option Val), ρ = [some (.tup [.tup (rain.map .int), .tup (bars.map Bar.val)]), some (.str T), some (.ref E), some (.ref N), some (.ref L), a5, a6, a7, a8] ∧ s[E]? = some (.lst (evs.map Ev.val)) ∧ evs.length = d.length ∧ d.length ≤ 300 ∧ (∀ e ∈ evs, EvOk bars.length e) ∧ dueF (bars.map Bar.nm) bars 0 [] lines = dueF (bars.map Bar.nm) bars d.length evs (lines.drop d.length) ∧ Keep [E] s2 s) (fun _ _ _ _ => trivial) ?_ ?_ ⟨[], _, _, _, _, rfl, hE2, rfl, by simp, (fun _ z => by cases z), rfl, by (first | sizeOf_list_dec | fail)⟩
  · rintro d x rest ρ s e0 ⟨evs, a5, a6, a7, a8, rfl, hE, el, dl, eo, due, k⟩
    obtain ⟨e1, e2, e3⟩ := Vc.range_split e0
    rw [Int.toNat_natCast] at e3
    have hx : lines[x]? = some lines[x] := List.getElem?_eq_getElem (by omega)
    have htx := hL1 _ (List.mem_of_getElem? hx)
    have hdrop : lines.drop d.length = lines[x] :: lines.drop (d.length + 1) := by
      rw [← e1]; exact List.drop_eq_getElem_cons (by omega)
    rw [hdrop] at due
    generalize lines[x] = line at *
    have hN := k.get hN2 (by simpa using hEN.1)
    have hL' := k.get hL (by simpa using hEN.2)
    obtain ⟨w1, w2⟩ := txok_words htx
    have lx := htx.l
    have outK : ∀ {s'}, Keep [E] s s' → dueStep (bars.map Bar.nm) bars d.length evs line = none → Keep [] st s' ∧ ((∃ k, dueF (bars.map Bar.nm) bars 0 [] lines = .inl k ∧ Val.tup [.str "daybook", .int x] = .tup [.str "daybook", .int k]) ∨ (∃ evs' E', dueF (bars.map Bar.nm) bars 0 [] lines = .inr evs' ∧ evs'.length ≤ 300 ∧ (∀ e ∈ evs', EvOk bars.length e) ∧ Val.tup [.str "daybook", .int x] = .tup [.str "value", .ref E'] ∧ s'[E']? = some (.lst (evs'.map Ev.val)) ∧ st.length ≤ E')) := fun {s'} k' h => ⟨by (first | sizeOf_list_dec | fail), .inl ⟨d.length, by rw [due, dueF_cons_n h], by rw [e1]⟩⟩
    repeat' (first | array_mem_dec | fail)
    refine Vc.ite_d (fun q => ?_) (fun q => ?_)
    · repeat' (first | array_mem_dec | fail)
      refine Vc.v_ixLn (f := .str) hL' hx ?_
      refine ⟨rfl, ?_⟩
      repeat' (first | array_mem_dec | fail)
      refine Vc.v_split sp_len (by omega) ?_
      repeat' (first | array_mem_dec | fail)
      rename_i W s3 hW k3 l3
      refine Vc.via0 (law_event_spec (k3.get hN (by simp)) hW w1 w2) fun v s4 hv => ?_
      obtain ⟨rfl, k4⟩ := hv
      have k34 := k3.trans k4
      have hE4 := k34.get hE (by simp)
      clear k3 k4 hW
      repeat' (first | array_mem_dec | fail)
      refine Vc.lc_pure isHid Ev.val (fun acc => Ab.seqAt_lst (by (first | array_get_dec | fail))) (by omega) (fun e hc acc => ?_) ?_
      · refine Vc.g_set ?_
        repeat' (first | array_mem_dec | fail)
        refine hid_test ?_
        refine ⟨rfl, rfl, fun _ => ?_⟩
        repeat' (first | array_mem_dec | fail)
        exact ⟨rfl, rfl⟩
      repeat' (first | array_mem_dec | fail)
      rename_i H s5 hH k5 l5 F s6 hF k6 l6
      refine v_neL0 (g := Ev.dat) (k6.get hH (by simp)) hF (fun e _ => e.deep) ?_
      rw [any_filter, show evs.any isHid = hid evs from rfl]
      have k46 := (k34.trans k5).trans k6
      have hE6 := k46.get hE (by simp)
      clear k5 k6 hH hF k34 hE4
      have ds : dueStep (bars.map Bar.nm) bars d.length evs line = match evL (bars.map Bar.nm) (Txt.split line " ") with
          | none => none
          | some e => if (isHid e && hid evs) = true then none else if (!hid evs && (!isRain e && !(runE bars 0 (evs ++ [e])).ok)) = true then none else some e := by
        unfold dueStep
        rw [if_pos (by omega : d.length < 300)]
      cases hev : evL (bars.map Bar.nm) (Txt.split line " ") with
      | none =>
        rw [hev] at ds
        rw [show evV none = .non from rfl]
        repeat' (first | array_mem_dec | fail)
        exact outK k46.nil ds
      | some e =>
        rw [hev] at ds
        dsimp only at ds
        have eok : EvOk bars.length e := by have := evL_ok hev; rwa [List.length_map] at this
        have ev0 : ∀ {P : Bool → Store → Prop} {X} {s' : Store}, P false s' → WpR (Ab.vIsN e.val .non s') (fun x st1 => WpR (Ab.asB x st1) P X) X := by
          intro P X s' h
          cases e with
          | rain o => cases o <;> exact Vc.b_ok (Vc.b_ok h)
          | level k v => exact Vc.b_ok (Vc.b_ok h)
        have inK : ∀ {s' : Store} {b5 b7 b8 : Option Val}, s'[E]? = some (.lst ((evs ++ [e]).map Ev.val)) → Keep [E] s s' → dueStep (bars.map Bar.nm) bars d.length evs line = some e → ∃ (evs' : List Ev) (a5 a6 a7 a8 : Option Val), [some (.tup [.tup (rain.map .int), .tup (bars.map Bar.val)]), some (.str T), some (.ref E), some (.ref N), some (.ref L), b5, some (.int x), b7, b8] = [some (.tup [.tup (rain.map .int), .tup (bars.map Bar.val)]), some (.str T), some (.ref E), some (.ref N), some (.ref L), a5, a6, a7, a8] ∧ s'[E]? = some (.lst (evs'.map Ev.val)) ∧ evs'.length = (d ++ [x]).length ∧ (d ++ [x]).length ≤ 300 ∧ (∀ e ∈ evs', EvOk bars.length e) ∧ dueF (bars.map Bar.nm) bars 0 [] lines = dueF (bars.map Bar.nm) bars (d ++ [x]).length evs' (lines.drop (d ++ [x]).length) ∧ Keep [E] s2 s' := by
          intro s' b5 b7 b8 h1 h2 h3
          refine ⟨evs ++ [e], _, _, _, _, rfl, h1, by simp [el], by simp; omega, fun z hz => ?_, ?_, k.trans h2⟩
          · rcases List.mem_append.mp hz with hz | hz
            · exact eo z hz
            · rw [List.mem_singleton.mp hz]; exact eok
          · rw [due, dueF_cons_s h3, List.length_append, List.length_singleton]
        rw [show evV (some e) = e.val from rfl]
        repeat' (first | array_mem_dec | fail)
        refine ev0 ?_
        repeat' (first | array_mem_dec | fail)
        refine hid_test ?_
        have goal2 : isHid e = true → hid evs = true → dueStep (bars.map Bar.nm) bars d.length evs line = none := fun h1 h2 => by rw [ds, h1, h2]; rfl
        have goal3 : (isHid e && hid evs) = false → (!hid evs && (!isRain e && !(runE bars 0 (evs ++ [e])).ok)) = false → dueStep (bars.map Bar.nm) bars d.length evs line = some e := fun h1 h2 => by rw [ds, h1, h2]; rfl
        have goal4 : (isHid e && hid evs) = false → (!hid evs && (!isRain e && !(runE bars 0 (evs ++ [e])).ok)) = true → dueStep (bars.map Bar.nm) bars d.length evs line = none := fun h1 h2 => by rw [ds, h1, h2]; rfl
        clear ds
        have hle : (evs.map Ev.val).length ≤ 300 := by rw [List.length_map]; omega
        cases h2 : hid evs with
        | true =>
          cases h1 : isHid e with
          | true =>
            repeat' (first | array_mem_dec | fail)
            exact outK k46.nil (goal2 h1 h2)
          | false =>
            repeat' (first | array_mem_dec | fail)
            rename_i s7 hE7 k7
            exact inK (by rw [List.map_append]; exact hE7) (k46.nil.trans k7) (goal3 (by rw [h1]; rfl) (by rw [h2]; rfl))
        | false =>
          have gf : (isHid e && hid evs) = false := by rw [h2, Bool.and_false]
          cases h1 : isHid e with
          | true =>
            repeat' (first | array_mem_dec | fail)
            rename_i s7 hE7 k7
            rw [show evs.map Ev.val ++ [e.val] = (evs ++ [e]).map Ev.val by rw [List.map_append]; rfl] at hE7
            have k67 := k46.nil.trans k7
            refine level_test ?_
            cases h3 : isRain e with
            | true =>
              repeat' (first | array_mem_dec | fail)
              exact inK hE7 k67 (goal3 gf (by rw [h3]; simp))
            | false =>
              repeat' (first | array_mem_dec | fail)
              refine Vc.via0 (law_run_spec ok hE7 fun z hz => ?_) fun v s8 hv => ?_
              · rcases List.mem_append.mp hz with hz | hz
                · exact eo z hz
                · rw [List.mem_singleton.mp hz]; exact eok
              obtain ⟨R8, rfl, hR8, k8, lR8⟩ := hv
              have k68 := k67.trans k8.nil
              repeat' (first | array_mem_dec | fail)
              cases h4 : (runE bars 0 (evs ++ [e])).ok with
              | true =>
                repeat' (first | array_mem_dec | fail)
                exact inK (k8.get hE7 (by simp)) k68 (goal3 gf (by rw [h2, h3, h4]; rfl))
              | false =>
                repeat' (first | array_mem_dec | fail)
                exact outK k68 (goal4 gf (by rw [h2, h3, h4]; rfl))
          | false =>
            repeat' (first | array_mem_dec | fail)
            rename_i s7 hE7 k7
            rw [show evs.map Ev.val ++ [e.val] = (evs ++ [e]).map Ev.val by rw [List.map_append]; rfl] at hE7
            have k67 := k46.nil.trans k7
            refine level_test ?_
            cases h3 : isRain e with
            | true =>
              repeat' (first | array_mem_dec | fail)
              exact inK hE7 k67 (goal3 gf (by rw [h3]; simp))
            | false =>
              repeat' (first | array_mem_dec | fail)
              refine Vc.via0 (law_run_spec ok hE7 fun z hz => ?_) fun v s8 hv => ?_
              · rcases List.mem_append.mp hz with hz | hz
                · exact eo z hz
                · rw [List.mem_singleton.mp hz]; exact eok
              obtain ⟨R8, rfl, hR8, k8, lR8⟩ := hv
              have k68 := k67.trans k8.nil
              repeat' (first | array_mem_dec | fail)
              cases h4 : (runE bars 0 (evs ++ [e])).ok with
              | true =>
                repeat' (first | array_mem_dec | fail)
                exact inK (k8.get hE7 (by simp)) k68 (goal3 gf (by rw [h2, h3, h4]; rfl))
              | false =>
                repeat' (first | array_mem_dec | fail)
                exact outK k68 (goal4 gf (by rw [h2, h3, h4]; rfl))
    · repeat' (first | array_mem_dec | fail)
      refine Vc.lc_pure isHid Ev.val (fun acc => Ab.seqAt_lst (by (first | array_get_dec | fail))) (by omega) (fun e hc acc => ?_) ?_
      · refine Vc.g_set ?_
        repeat' (first | array_mem_dec | fail)
        refine hid_test ?_
        refine ⟨rfl, rfl, fun _ => ?_⟩
        repeat' (first | array_mem_dec | fail)
        exact ⟨rfl, rfl⟩
      repeat' (first | array_mem_dec | fail)
      rename_i H s5 hH k5 l5 F s6 hF k6 l6
      refine v_neL0 (g := Ev.dat) (k6.get hH (by simp)) hF (fun e _ => e.deep) ?_
      rw [any_filter, show evs.any isHid = hid evs from rfl]
      have k46 := k5.trans k6
      repeat' (first | array_mem_dec | fail)
      refine outK k46.nil ?_
      unfold dueStep
      rw [if_neg (by omega)]
  · rintro ρ s ⟨evs, a5, a6, a7, a8, rfl, hE, el, dl, eo, due, k⟩
    repeat' (first | array_mem_dec | fail)
    refine ⟨by (first | sizeOf_list_dec | fail), .inr ⟨evs, E, ?_, by omega, eo, rfl, hE, by (first | sizeOf_list_dec | fail)⟩⟩
    rw [due, List.drop_of_length_le (by rw [List.length_range, Int.toNat_natCast]; omega)]
    rfl
end

def lvV : Option (List Int) → Val
  | none => .non
  | some l => .tup (l.map .int)
def amV : Option Int → Val
  | none => .non
  | some r => .int r
def lvO (bars : List Bar) (evs : List Ev) : Option (List Int) := if hid evs = true then none else some (runE bars 0 evs).lv
def rainO (bars : List Bar) (t : Nat) : Option (List Int) → Option Int → Option (List Int)
  | some l, some r => some (tickT t r [] (bars.zip l)).found
  | _, _ => none
theorem rainO_eq (bars : List Bar) (evs : List Ev) (o : Option Int) : rainO bars (runE bars 0 evs).tk (lvO bars evs) o = lvO bars (evs ++ [.rain o]) := by
  unfold lvO
  rw [hid_snoc, runE_snoc]
  cases hid evs with
  | true => rfl
  | false =>
    cases o with
    | none => rfl
    | some r => rfl
theorem dueStep_P {names : List Str} {bars : List Bar} {k : Nat} {evs : List Ev} {line : Str} (h : k < 300) : dueStep names bars k evs line = match evP names (hid evs) (Txt.split line " ") with
    | none => none
    | some e => if (!hid evs && (!isRain e && !(runE bars 0 (evs ++ [e])).ok)) = true then none else some e := by
  unfold dueStep
  rw [if_pos h, evP_eq]
  cases evL names (Txt.split line " ") with
  | none => rfl
  | some e =>
    dsimp only
    cases isHid e && hid evs with
    | true => rfl
    | false => rfl
theorem evP_ok {names ws : List Str} {h : Bool} {e : Ev} (he : evP names h ws = some e) : EvOk names.length e := by
  rw [evP_eq] at he
  cases q : evL names ws with
  | none => rw [q] at he; cases he
  | some x =>
    rw [q] at he
    dsimp only at he
    split at he
    · cases he
    · cases he
      exact evL_ok q
theorem lvO_len {bars : List Bar} {evs : List Ev} {x : List Int} (h : lvO bars evs = some x) : x.length = bars.length := by
  unfold lvO at h
  split at h
  · cases h
  · cases h
    exact runE_len bars 0 evs
theorem lvO_level (bars : List Bar) (evs : List Ev) (k : Nat) (v : Int) : lvO bars (evs ++ [.level k v]) = lvO bars evs := by
  unfold lvO
  rw [hid_snoc, runE_snoc, isHid_l, Bool.or_false]
  rfl
section
variable {st : Store} {d R E : Nat} {rain : List Int} {bars : List Bar} {evs : List Ev} {T : Str}
theorem ev_non {e : Ev} {P : Bool → Store → Prop} {X : Exc → Store → Prop} (h : P false st) : WpR (Ab.vIsN e.val .non st) (fun x st1 => WpR (Ab.asB x st1) P X) X := by
  cases e with
  | rain o => cases o <;> exact Vc.b_ok (Vc.b_ok h)
  | level k v => exact Vc.b_ok (Vc.b_ok h)
theorem v_amt {o : Option Int} {Q : Val → Store → Prop} {X : Exc → Store → Prop} (h : Q (amV o) st) : WpR (Ab.vIx (Ev.rain o).val (.int 1) st) Q X := by
  cases o with
  | none => exact Vc.v_ixT (w := .non) at1 h
  | some r => exact Vc.v_ixT (w := .int r) at1 h
theorem rained_spec {t : Nat} {l : Option (List Int)} {o : Option Int} (ok : RowOk rain bars) (hR : st[R]? = some (.ins 13 (RF rain bars))) (hd : st[d]? = some (.ins 22 (DF R E))) (hl : ∀ x, l = some x → x.length = bars.length) :
    WpR (f_Daybook_rained [.ref d, lvV l, .int t, amV o] st) (fun v s => v = lvV (rainO bars t l o) ∧ Keep [] st s) (fun _ _ => False) := by
  unfold DF at hd
  refine Vc.b_def rfl ?_
  unfold m_Daybook_rained
  cases l with
  | none =>
    rw [show lvV none = .non from rfl]
    repeat' (first | array_mem_dec | fail)
    exact ⟨rfl, .refl⟩
  | some l =>
    cases o with
    | none =>
      rw [show lvV (some l) = .tup (l.map .int) from rfl, show amV none = .non from rfl]
      repeat' (first | array_mem_dec | fail)
      exact ⟨rfl, .refl⟩
    | some r =>
      rw [show lvV (some l) = .tup (l.map .int) from rfl, show amV (some r) = .int r from rfl]
      repeat' (first | array_mem_dec | fail)
      refine Vc.via0 (next_tick_spec (locked := []) (t := rain.length) ok.ok ok.n0 (hl l rfl) (by have := ok.b1; omega) hR) fun v s hv => ?_
      obtain ⟨rfl, k⟩ := hv
      repeat' (first | array_mem_dec | fail)
      exact ⟨rfl, k⟩
theorem daybook_init_spec (ok : RowOk rain bars) (hR : st[R]? = some (.ins 13 (RF rain bars))) (hd : st[d]? = some (.ins 22 [])) (ht : TxOk T) :
    WpR (f_Daybook_init [.ref d, .ref R, .str T] st) (fun v s => v = .non ∧ ∃ evs E, dueF (bars.map Bar.nm) bars 0 [] (linesOf T) = .inr evs ∧ evs.length ≤ 300 ∧ (∀ e ∈ evs, EvOk bars.length e) ∧ s[d]? = some (.ins 22 (DF R E)) ∧ s[E]? = some (.lst (evs.map Ev.val)) ∧ Keep [d] st s ∧ st.length ≤ E)
      (fun x s => ∃ k : Nat, x = ⟨9, [(27, .int k)]⟩ ∧ dueF (bars.map Bar.nm) bars 0 [] (linesOf T) = .inl k ∧ Keep [d] st s) := by
  have b0 := ok.b0; have b1 := ok.b1; have n0 := ok.n0
  obtain ⟨hL1, hL2⟩ := txok_lines ht
  have hdR : d ≠ R := fun e => by rw [e, hR] at hd; cases hd
  refine Vc.b_def rfl ?_
  unfold m_Daybook_init
  show WpO (Se.sSeq _ (Se.sSeq _ (Se.sSeq _ (Se.sFor (Se.iEnumM (t_ln 2)) _ _))) _ _) _
  repeat' (first | array_mem_dec | fail)
  rename_i s1 hd1 k1 E s2 hE k2 lE s3 hd3 k3
  refine Vc.via0 (Row_len_spec (xs := bars.map Bar.val) (w := .tup (rain.map .int)) (by (first | array_get_dec | fail))) fun v s hv => ?_
  obtain ⟨rfl, rfl⟩ := hv
  rw [List.length_map]
  repeat' (first | array_mem_dec | fail)
  refine Vc.v_repT ⟨by simp, by omega, by omega, by simp⟩ ?_
  rw [rep_zero, Int.toNat_natCast]
  repeat' (first | array_mem_dec | fail)
  refine Vc.via0 (ln_spec rfl ht) fun v s4 hv => ?_
  obtain ⟨L, rfl, hL, k4, lL⟩ := hv
  refine ⟨_, _, Vc.items_lst hL, ?_⟩
  have hd3 : s[d]? = some (.ins 22 (DF R E)) := hd3
  have hE4 : s4[E]? = some (.lst (([] : List Ev).map Ev.val)) := by (first | array_get_dec | fail)
  have hd4 : s4[d]? = some (.ins 22 (DF R E)) := by (first | array_get_dec | fail)
  have hR4 : s4[R]? = some (.ins 13 (RF rain bars)) := by (first | array_get_dec | fail)
  have K4 : Keep [d] st s4 := by (first | sizeOf_list_dec | fail)
  have lE' : st.length ≤ E := by (first | sizeOf_list_dec | fail)
  have lL3 : s.length ≤ L := lL
  have E3 := k3.1
  have E2 := Vc.lt_of hE
  clear hd1 k1 hE k2 hd3 k3 k4 lL
  have hLE : L ≠ E := by omega
  have hdE : d ≠ E := by have := Vc.lt_of hd; omega
  have hRE : R ≠ E := by have := Vc.lt_of hR; omega
  generalize hLn : linesOf T = lines at *
  rw [Vc.enum_map]
  refine Vc.for_l (fun d' ρ s => ∃ (evs : List Ev) (a4 a5 a6 a7 a8 : Option Val), ρ = [some (.ref d), some (.ref R), some (.str T), some (lvV (lvO bars evs)), a4, a5, a6, a7, a8] ∧ s[E]? = some (.lst (evs.map Ev.val)) ∧ evs.length = d'.length ∧ d'.length ≤ 300 ∧ (∀ e ∈ evs, EvOk bars.length e) ∧ dueF (bars.map Bar.nm) bars 0 [] lines = dueF (bars.map Bar.nm) bars d'.length evs (lines.drop d'.length) ∧ (hid evs = false → (runE bars 0 evs).ok = true) ∧ Keep [E] s4 s) (fun d' ρ s ⟨_, _, _, _, _, _, _, _, _, _, _, _, _, k⟩ => Ab.seqAt_lst (k.get hL (by simpa using hLE))) ?_ ?_ ⟨[], _, _, _, _, _, rfl, hE4, rfl, by simp, (fun _ z => by cases z), rfl, (fun _ => rfl), by (first | sizeOf_list_dec | fail)⟩
  · rintro d' ⟨line, x⟩ rest ρ s e0 ⟨evs, a4, a5, a6, a7, a8, rfl, hE, el, dl, eo, due, gd, k⟩
    obtain ⟨hx, e2, e3, e4⟩ := Vc.idx_split e0
    simp only at hx e2
    subst e2
    have htx := hL1 _ (List.mem_of_getElem? hx)
    have hdrop : lines.drop d'.length = line :: lines.drop (d'.length + 1) := by
      rw [List.drop_eq_getElem_cons e4]
      congr 1
      have := List.getElem?_eq_getElem e4
      rw [hx] at this
      exact (Option.some.inj this).symm
    rw [hdrop] at due
    have hd' := k.get hd4 (by simpa using hdE)
    have hR' := k.get hR4 (by simpa using hRE)
    obtain ⟨w1, w2⟩ := txok_words htx
    have lx := htx.l
    have outK : ∀ {s'}, Keep [E] s s' → dueStep (bars.map Bar.nm) bars d'.length evs line = none → ∃ k : Nat, (⟨9, [(27, .int d'.length)]⟩ : Exc) = ⟨9, [(27, .int k)]⟩ ∧ dueF (bars.map Bar.nm) bars 0 [] lines = .inl k ∧ Keep [d] st s' := fun {s'} k' h => ⟨_, rfl, by rw [due, dueF_cons_n h], by (first | sizeOf_list_dec | fail)⟩
    repeat' (first | array_mem_dec | fail)
    refine Vc.ite_d (fun q => ?_) (fun q => ?_)
    · repeat' (first | array_mem_dec | fail)
      refine ⟨rfl, ?_⟩
      repeat' (first | array_mem_dec | fail)
      refine Vc.v_split sp_len (by omega) ?_
      repeat' (first | array_mem_dec | fail)
      rename_i W s5 hW k5 l5
      refine Vc.via0 (event_of_spec ok (k5.get hR' (by simp)) (k5.get hd' (by simp)) (k5.get hE (by simp)) hW w1 (by omega)) fun v s6 hv => ?_
      obtain ⟨rfl, k6⟩ := hv
      have k56 := k5.trans k6
      have hE6 := k56.get hE (by simp)
      have hd6 := k56.get hd' (by simp)
      have hR6 := k56.get hR' (by simp)
      clear k5 k6 hW
      have ds := dueStep_P (names := bars.map Bar.nm) (bars := bars) (evs := evs) (line := line) (by omega : d'.length < 300)
      cases hev : evP (bars.map Bar.nm) (hid evs) (Txt.split line " ") with
      | none =>
        rw [hev] at ds
        rw [show evV none = .non from rfl]
        repeat' (first | array_mem_dec | fail)
        refine ⟨rfl, ?_⟩
        exact outK k56.nil ds
      | some e =>
        rw [hev] at ds
        dsimp only at ds
        have eok : EvOk bars.length e := by have := evP_ok hev; rwa [List.length_map] at this
        rw [show evV (some e) = e.val from rfl]
        have inK : ∀ {s' : Store} {lv : Val} {b4 b5 b6 b7 b8 : Option Val}, lv = lvV (lvO bars (evs ++ [e])) → s'[E]? = some (.lst ((evs ++ [e]).map Ev.val)) → Keep [E] s s' → (hid evs = false → (runE bars 0 (evs ++ [e])).ok = true) → ∃ (evs' : List Ev) (a4 a5 a6 a7 a8 : Option Val), [some (.ref d), some (.ref R), some (.str T), some lv, b4, b5, b6, b7, b8] = [some (.ref d), some (.ref R), some (.str T), some (lvV (lvO bars evs')), a4, a5, a6, a7, a8] ∧ s'[E]? = some (.lst (evs'.map Ev.val)) ∧ evs'.length = (d' ++ [(line, d'.length)]).length ∧ (d' ++ [(line, d'.length)]).length ≤ 300 ∧ (∀ e ∈ evs', EvOk bars.length e) ∧ dueF (bars.map Bar.nm) bars 0 [] lines = dueF (bars.map Bar.nm) bars (d' ++ [(line, d'.length)]).length evs' (lines.drop (d' ++ [(line, d'.length)]).length) ∧ (hid evs' = false → (runE bars 0 evs').ok = true) ∧ Keep [E] s4 s' := by
          intro s' lv b4 b5 b6 b7 b8 h0 h1 h2 h3
          have step : dueStep (bars.map Bar.nm) bars d'.length evs line = some e := by
            rw [ds]
            refine if_neg ?_
            cases hh : hid evs with
            | true => simp
            | false => rw [h3 hh]; simp
          subst h0
          refine ⟨evs ++ [e], _, _, _, _, _, rfl, h1, by simp [el], by simp; omega, fun z hz => ?_, ?_, fun hh => ?_, k.trans h2⟩
          · rcases List.mem_append.mp hz with hz | hz
            · exact eo z hz
            · rw [List.mem_singleton.mp hz]; exact eok
          · rw [due, dueF_cons_s step, List.length_append, List.length_singleton]
          · rw [hid_snoc, Bool.or_eq_false_iff] at hh
            exact h3 hh.1
        have hle : (evs.map Ev.val).length ≤ 300 := by rw [List.length_map]; omega
        repeat' (first | array_mem_dec | fail)
        refine ev_non ?_
        repeat' (first | array_mem_dec | fail)
        refine rain_test ?_
        cases e with
        | rain o =>
          rw [isRain_r]
          repeat' (first | array_mem_dec | fail)
          refine Vc.lc_pure isRain Ev.val (fun acc => Ab.seqAt_lst (by (first | array_get_dec | fail))) (by omega) (fun e hc acc => ?_) ?_
          · refine Vc.g_set ?_
            repeat' (first | array_mem_dec | fail)
            refine rain_test ?_
            refine ⟨rfl, rfl, fun _ => ?_⟩
            repeat' (first | array_mem_dec | fail)
            exact ⟨rfl, rfl⟩
          repeat' (first | array_mem_dec | fail)
          rename_i H s7 hH k7 l7
          have k57 := k56.trans k7
          have hE7 := k7.get hE6 (by simp)
          have hd7 := k7.get hd6 (by simp)
          have hR7 := k7.get hR6 (by simp)
          clear hH k7
          refine v_amt ?_
          repeat' (first | array_mem_dec | fail)
          rw [List.length_map, ← runE_rains bars 0 evs]
          refine Vc.via0 (rained_spec ok hR7 hd7 fun x hx => lvO_len hx) fun v s8 hv => ?_
          obtain ⟨rfl, k8⟩ := hv
          have k58 := k57.trans k8
          have hE8 := k8.get hE7 (by simp)
          have hd8 := k8.get hd7 (by simp)
          repeat' (first | array_mem_dec | fail)
          rename_i s9 hE9 k9
          refine inK (by rw [rainO_eq]) (by rw [List.map_append]; exact hE9) (k58.nil.trans k9) fun hh => ?_
          rw [runE_snoc]
          exact gd hh
        | level j v =>
          rw [isRain_l]
          repeat' (first | array_mem_dec | fail)
          have hlv := lvO_level bars evs j v
          unfold lvO at hlv ⊢
          cases hh : hid evs with
          | true =>
            rw [if_pos rfl, show lvV none = .non from rfl]
            repeat' (first | array_mem_dec | fail)
            rename_i s9 hE9 k9
            refine inK (by unfold lvO; rw [hlv, hh]; rfl) (by rw [List.map_append]; exact hE9) (k56.nil.trans k9) fun z => by rw [hh] at z; cases z
          | false =>
            rw [if_neg Bool.false_ne_true, show lvV (some (runE bars 0 evs).lv) = .tup ((runE bars 0 evs).lv.map .int) from rfl]
            have hj : (runE bars 0 evs).lv[j]? = some ((runE bars 0 evs).lv.getD j 0) := getD_some (by rw [runE_len]; exact eok)
            have hok : (runE bars 0 (evs ++ [.level j v])).ok = decide ((runE bars 0 evs).lv.getD j 0 = v) := by
              rw [runE_snoc]
              show ((runE bars 0 evs).ok && _) = _
              rw [gd hh, Bool.true_and]
            rw [val_lv]
            repeat' (first | array_mem_dec | fail)
            refine Vc.v_ixTn (f := .int) hj ?_
            repeat' (first | array_mem_dec | fail)
            refine Vc.ite_nd (fun w => ?_) (fun w => ?_)
            · repeat' (first | array_mem_dec | fail)
              rename_i s9 hE9 k9
              exact inK (by unfold lvO; rw [hlv, hh]; rfl) (by rw [List.map_append]; exact hE9) (k56.nil.trans k9) fun z => by rw [hok]; exact decide_eq_true w
            · repeat' (first | array_mem_dec | fail)
              refine ⟨rfl, ?_⟩
              refine outK k56.nil ?_
              rw [ds, hh, hok, decide_eq_false w, isRain_l]
              rfl
    · repeat' (first | array_mem_dec | fail)
      refine ⟨rfl, ?_⟩
      refine outK .refl ?_
      unfold dueStep
      rw [if_neg (by omega)]
  · rintro ρ s ⟨evs, a4, a5, a6, a7, a8, rfl, hE, el, dl, eo, due, gd, k⟩
    refine ⟨rfl, evs, E, ?_, by omega, eo, k.get hd4 (by simpa using hdE), hE, by (first | sizeOf_list_dec | fail), lE'⟩
    rw [due, List.drop_of_length_le (by rw [List.length_zipIdx]; omega)]
    rfl
end

theorem drop_cons {α : Type} {xs d rest : List α} {x : α} (h : xs = d ++ x :: rest) : xs.drop d.length = x :: xs.drop (d.length + 1) := by
  subst h
  rw [List.drop_left, show d.length + 1 = (d ++ [x]).length by simp, show d ++ x :: rest = (d ++ [x]) ++ rest by simp, List.drop_left]
section
variable {st : Store} {d R E : Nat} {rain : List Int} {bars : List Bar} {evs : List Ev} {T : Str}
structure DB (st : Store) (d R E : Nat) (rain : List Int) (bars : List Bar) (evs : List Ev) : Prop where
  ok : RowOk rain bars
  hR : st[R]? = some (.ins 13 (RF rain bars))
  hd : st[d]? = some (.ins 22 (DF R E))
  hE : st[E]? = some (.lst (evs.map Ev.val))
  el : evs.length ≤ 300
  eo : ∀ e ∈ evs, EvOk bars.length e
theorem DB.keep {s : Store} (D : DB st d R E rain bars evs) (k : Keep [] st s) : DB s d R E rain bars evs := ⟨D.ok, k.get D.hR (by simp), k.get D.hd (by simp), k.get D.hE (by simp), D.el, D.eo⟩
theorem line_count_spec (D : DB st d R E rain bars evs) : WpR (f_Daybook_line_count [.ref d] st) (fun v s => v = .int evs.length ∧ s = st) (fun _ _ => False) := by
  have hd := D.hd
  have hE := D.hE
  unfold DF at hd
  refine Vc.b_def rfl ?_
  unfold m_Daybook_line_count
  repeat' (first | array_mem_dec | fail)
  rw [List.length_map]
  exact ⟨rfl, rfl⟩
theorem tick_count_spec (D : DB st d R E rain bars evs) : WpR (f_Daybook_tick_count [.ref d] st) (fun v s => v = .int (evs.filter isRain).length ∧ Keep [] st s) (fun _ _ => False) := by
  have hd := D.hd
  have hE := D.hE
  have el := D.el
  unfold DF at hd
  refine Vc.b_def rfl ?_
  unfold m_Daybook_tick_count
  repeat' (first | array_mem_dec | fail)
  refine Vc.lc_pure isRain Ev.val (fun acc => Ab.seqAt_lst (by (first | array_get_dec | fail))) (by omega) (fun e hc acc => ?_) ?_
  · refine Vc.g_set ?_
    repeat' (first | array_mem_dec | fail)
    refine rain_test ?_
    refine ⟨rfl, rfl, fun _ => ?_⟩
    repeat' (first | array_mem_dec | fail)
    exact ⟨rfl, rfl⟩
  repeat' (first | array_mem_dec | fail)
  rw [List.length_map]
  exact ⟨rfl, by (first | sizeOf_list_dec | fail)⟩
theorem signs_spec {a : Int} (D : DB st d R E rain bars evs) : WpR (f_Daybook_signs_with [.ref d, .int a] st) (fun v s => v = .int (sgnE bars a evs) ∧ Keep [] st s) (fun _ _ => False) := by
  have ok := D.ok
  have b0 := ok.b0; have b1 := ok.b1; have n0 := ok.n0
  have hd := D.hd; have hE := D.hE; have hR := D.hR
  unfold DF at hd
  refine Vc.b_def rfl ?_
  unfold m_Daybook_signs_with
  repeat' (first | array_mem_dec | fail)
  refine Vc.via0 (Row_len_spec (xs := bars.map Bar.val) (w := .tup (rain.map .int)) hR) fun v s hv => ?_
  obtain ⟨rfl, rfl⟩ := hv
  rw [List.length_map]
  repeat' (first | array_mem_dec | fail)
  refine Vc.v_repT ⟨by simp, by omega, by omega, by simp⟩ ?_
  rw [rep_zero, Int.toNat_natCast]
  repeat' (first | array_mem_dec | fail)
  refine Vc.for_l (fun d' ρ s' => ∃ (lv : List Int) (tk : Nat) (b4 b5 : Option Val), ρ = [some (.ref d), some (.int a), some (.tup (lv.map .int)), some (.int tk), b4, b5] ∧ lv.length = bars.length ∧ sgnE bars a evs = sgnF bars a lv tk (evs.drop d'.length) ∧ Keep [] s s') (fun d' ρ s ⟨_, _, _, _, _, _, _, k⟩ => Ab.seqAt_lst (k.get hE (by simp))) ?_ ?_ ⟨_, 0, _, _, rfl, by simp, rfl, .refl⟩
  · rintro d' e rest ρ s1 e0 ⟨lv, tk, b4, b5, rfl, hlen, hs, k⟩
    have hem : EvOk bars.length e := D.eo e (by rw [e0]; simp)
    rw [drop_cons e0] at hs
    cases e with
    | rain o =>
      cases o with
      | none =>
        rw [val_rn]
        repeat' (first | array_mem_dec | fail)
        simp only [List.take_succ_cons, List.take_zero, List.cons_append, List.nil_append, -eq_self]
        repeat' (first | array_mem_dec | fail)
        refine Vc.via0 (next_tick_spec (locked := []) (t := rain.length) ok.ok n0 hlen (by omega) (by (first | array_get_dec | fail))) fun v s5 hv => ?_
        obtain ⟨rfl, k5⟩ := hv
        repeat' (first | array_mem_dec | fail)
        rw [List.length_append, List.length_singleton]
        exact ⟨_, tk + 1, _, _, rfl, by rw [tickT_len, List.length_zip, hlen, Nat.min_self], hs, by (first | sizeOf_list_dec | fail)⟩
      | some r =>
        rw [val_rs]
        repeat' (first | array_mem_dec | fail)
        simp only [List.take_succ_cons, List.take_zero, List.cons_append, List.nil_append, -eq_self]
        repeat' (first | array_mem_dec | fail)
        refine Vc.via0 (next_tick_spec (locked := []) (t := rain.length) ok.ok n0 hlen (by omega) (by (first | array_get_dec | fail))) fun v s5 hv => ?_
        obtain ⟨rfl, k5⟩ := hv
        repeat' (first | array_mem_dec | fail)
        rw [List.length_append, List.length_singleton]
        exact ⟨_, tk + 1, _, _, rfl, by rw [tickT_len, List.length_zip, hlen, Nat.min_self], hs, by (first | sizeOf_list_dec | fail)⟩
    | level j v =>
      have hj : lv[j]? = some (lv.getD j 0) := getD_some (by rw [hlen]; exact hem)
      rw [val_lv]
      repeat' (first | array_mem_dec | fail)
      simp only [List.take_succ_cons, List.take_zero, List.cons_append, List.nil_append, -eq_self]
      repeat' (first | (first | array_mem_dec | fail) | ((with_reducible refine Vc.ite_dn ?qq ?_); (case qq => decide)) | fail)
      refine Vc.v_ixTn (f := .int) hj ?_
      repeat' (first | array_mem_dec | fail)
      unfold sgnF at hs
      refine Vc.ite_nd (fun w => ?_) (fun w => ?_)
      · rw [if_pos w] at hs
        repeat' (first | array_mem_dec | fail)
        rw [List.length_append, List.length_singleton]
        exact ⟨lv, tk, _, _, rfl, hlen, hs, by (first | sizeOf_list_dec | fail)⟩
      · rw [if_neg w] at hs
        repeat' (first | array_mem_dec | fail)
        refine Vc.v_ixTn (f := .int) hj ?_
        repeat' (first | array_mem_dec | fail)
        refine Vc.ite_d (fun w2 => ?_) (fun w2 => ?_)
        · rw [if_pos w2] at hs
          repeat' (first | array_mem_dec | fail)
          exact ⟨by rw [hs], by (first | sizeOf_list_dec | fail)⟩
        · rw [if_neg w2] at hs
          repeat' (first | array_mem_dec | fail)
          exact ⟨by rw [hs], by (first | sizeOf_list_dec | fail)⟩
  · rintro ρ s1 ⟨lv, tk, b4, b5, rfl, hlen, hs, k⟩
    repeat' (first | array_mem_dec | fail)
    rw [List.drop_length] at hs
    exact ⟨by rw [hs]; rfl, k⟩
end

def signP (bars : List Bar) (evs : List Ev) (least : Int) (a : Nat) : Bool := decide (least ≤ sgnE bars (a : Int) evs)
def loE (bars : List Bar) (evs : List Ev) : Nat := bsW (signP bars evs 0) 20 0 1000001
def hiE (bars : List Bar) (evs : List Ev) : Nat := bsW (signP bars evs 1) 20 0 1000001
theorem signP_le {bars : List Bar} (hr : ∀ b ∈ bars, 0 ≤ b.roof) (evs : List Ev) (least : Int) : bsW (signP bars evs least) 20 0 1000001 ≤ 1000001 ∧ ∀ a : Nat, a ≤ 1000000 → (least ≤ sgnE bars (a : Int) evs ↔ bsW (signP bars evs least) 20 0 1000001 ≤ a) := by
  have hm : ∀ a b, a ≤ b → signP bars evs least a = true → signP bars evs least b = true := fun a b hab h => by
    have h' := of_decide_eq_true h
    have := sgnE_mono hr (show (a : Int) ≤ (b : Int) by omega) evs
    exact decide_eq_true (by omega)
  obtain ⟨_, h2, h3⟩ := bsW_mono hm (f := 20) (lo := 0) (hi := 1000001) (by omega) (by have z : (2 : Nat) ^ 20 = 1048576 := rfl; omega)
  refine ⟨h2, fun a ha => ?_⟩
  rw [← h3 a (by omega) (by omega)]
  unfold signP
  exact decide_eq_true_iff.symm
theorem good_iff {bars : List Bar} (hr : ∀ b ∈ bars, 0 ≤ b.roof) (evs : List Ev) {a : Nat} (ha : a ≤ 1000000) : (runE bars (a : Int) evs).ok = decide (loE bars evs ≤ a ∧ a < hiE bars evs) := by
  rw [runE_sgn]
  have h1 := (signP_le hr evs 0).2 a ha
  have h2 := (signP_le hr evs 1).2 a ha
  rw [decide_eq_decide]
  unfold loE hiE
  omega
section
variable {st : Store} {d R E : Nat} {rain : List Int} {bars : List Bar} {evs : List Ev} {T : Str}
theorem first_with_spec {least : Int} (D : DB st d R E rain bars evs) : WpR (f_Daybook_first_with [.ref d, .int least] st) (fun v s => v = .int (bsW (signP bars evs least) 20 0 1000001 : Nat) ∧ Keep [] st s) (fun _ _ => False) := by
  refine Vc.b_def rfl ?_
  unfold m_Daybook_first_with
  have hd := D.hd
  unfold DF at hd
  repeat' (first | array_mem_dec | fail)
  have c1 : (1000000 : Int) + 1 = ((1000001 : Nat) : Int) := by omega
  rw [c1]
  repeat' (first | array_mem_dec | fail)
  refine Vc.b_while (fun f ρ s => ∃ (l h : Nat) (a4 : Option Val), ρ = [some (.ref d), some (.int least), some (.int l), some (.int h), a4] ∧ l ≤ h ∧ h ≤ 1000001 ∧ h - l < 2 ^ f ∧ bsW (signP bars evs least) f l h = bsW (signP bars evs least) 20 0 1000001 ∧ Keep [] st s) ?_ (m := 20) ⟨0, 1000001, _, rfl, by omega, by omega, (by have z : (2 : Nat) ^ 20 = 1048576 := rfl; omega), rfl, .refl⟩
  rintro f ρ s ⟨l, h, a6, rfl, e1, e2, e3, e4, ks⟩
  repeat' (first | array_mem_dec | fail)
  refine Vc.ite_d (fun q => ?_) (fun q => ?_)
  · repeat' (first | array_mem_dec | fail)
    have em : ((l : Int) + (h : Int)) / 2 = (((l + h) / 2 : Nat) : Int) := by omega
    rw [em]
    have hlt : l < h := by omega
    obtain ⟨g, rfl⟩ : ∃ g, f = g + 1 := by
      cases f with
      | zero => simp at e3; omega
      | succ g => exact ⟨g, rfl⟩
    rw [bsW, if_pos hlt] at e4
    have e3' : h - l < 2 ^ g * 2 := e3
    generalize hmid : (l + h) / 2 = mid at *
    have hds := ks.get hd (by simp)
    repeat' (first | array_mem_dec | fail)
    refine Vc.via0 (signs_spec (a := (mid : Int)) (D.keep ks)) fun v s4 hv => ?_
    obtain ⟨rfl, k4⟩ := hv
    repeat' (first | array_mem_dec | fail)
    have kq := ks.trans k4
    refine Vc.ite_d (fun w => ?_) (fun w => ?_)
    · repeat' (first | array_mem_dec | fail)
      refine ⟨g, by omega, l, mid, _, rfl, by omega, by omega, by omega, ?_, kq⟩
      rw [if_pos (by unfold signP; exact decide_eq_true w)] at e4
      exact e4
    · repeat' (first | array_mem_dec | fail)
      have e5 : (mid : Int) + 1 = ((mid + 1 : Nat) : Int) := by omega
      rw [e5]
      refine ⟨g, by omega, mid + 1, h, _, rfl, by omega, by omega, by omega, ?_, kq⟩
      rw [if_neg (by unfold signP; simp; omega)] at e4
      exact e4
  · repeat' (first | array_mem_dec | fail)
    refine ⟨?_, ks⟩
    rw [← e4, bsW_done (by omega)]

def rangeV (bars : List Bar) (evs : List Ev) : Val := if hid evs = true ∧ loE bars evs < hiE bars evs then .tup [.int (loE bars evs : Nat), .int ((hiE bars evs - 1 : Nat) : Int)] else .non
theorem unknown_range_spec (D : DB st d R E rain bars evs) : WpR (f_Daybook_unknown_range [.ref d] st) (fun v s => v = rangeV bars evs ∧ Keep [] st s) (fun _ _ => False) := by
  refine Vc.b_def rfl ?_
  unfold m_Daybook_unknown_range rangeV
  have hd := D.hd
  have hd0 := D.hd
  unfold DF at hd
  repeat' (first | array_mem_dec | fail)
  refine Vc.via0 (has_unknown_spec D.hd D.hE (by have := D.el; omega)) fun v s1 hv => ?_
  obtain ⟨rfl, k1⟩ := hv
  have hd1 := k1.get hd (by simp)
  repeat' (first | array_mem_dec | fail)
  cases hid evs with
  | false =>
    repeat' (first | array_mem_dec | fail)
    exact ⟨rfl, k1⟩
  | true =>
    repeat' (first | array_mem_dec | fail)
    refine Vc.via0 (first_with_spec (least := 0) (D.keep k1)) fun v s2 hv => ?_
    obtain ⟨rfl, k2⟩ := hv
    have k12 := k1.trans k2
    have hd2 := k12.get hd (by simp)
    repeat' (first | array_mem_dec | fail)
    refine Vc.via0 (first_with_spec (least := 1) (D.keep k12)) fun v s3 hv => ?_
    obtain ⟨rfl, k3⟩ := hv
    have k13 := k12.trans k3
    rw [show bsW (signP bars evs 0) 20 0 1000001 = loE bars evs from rfl, show bsW (signP bars evs 1) 20 0 1000001 = hiE bars evs from rfl]
    generalize loE bars evs = lo
    generalize hiE bars evs = hi
    repeat' (first | array_mem_dec | fail)
    refine Vc.ite_d (fun w => ?_) (fun w => ?_)
    · repeat' (first | array_mem_dec | fail)
      rw [if_pos ⟨rfl, by omega⟩]
      refine ⟨?_, k13⟩
      rw [show ((hi : Nat) : Int) - 1 = ((hi - 1 : Nat) : Int) by omega]
    · repeat' (first | array_mem_dec | fail)
      rw [if_neg fun z => w (by have := z.2; omega)]
      exact ⟨rfl, k13⟩
theorem zip_sub : ∀ (bars : List Bar) (water : List Int), ((bars.zip water).map fun p => p.1.nm).Sublist (bars.map Bar.nm)
  | [], _ => by simp
  | _ :: _, [] => by simp
  | b :: bs, w :: ws => by simpa using zip_sub bs ws
theorem levels_after_spec {a : Int} (D : DB st d R E rain bars evs) : WpR (f_Daybook_levels_after [.ref d, .int a] st) (fun v s => (0 ≤ a ∧ a ≤ 1000000) ∧ ∃ L, v = .ref L ∧ s[L]? = some (.dct ((bars.zip (runE bars a evs).lv).map fun p => (.inr p.1.nm, .int p.2))) ∧ Keep [] st s) (fun x s => ¬(0 ≤ a ∧ a ≤ 1000000) ∧ x = ⟨4, []⟩ ∧ s = st) := by
  have ok := D.ok
  have b0 := ok.b0; have b1 := ok.b1; have n0 := ok.n0
  have hd := D.hd; have hE := D.hE; have hR := D.hR
  unfold DF at hd
  refine Vc.b_def rfl ?_
  unfold m_Daybook_levels_after
  repeat' (first | array_mem_dec | fail)
  refine Vc.via val_spec (fun v s hv => ?_) (fun x s hx => ⟨hx.2.2, hx.1, hx.2.1⟩)
  obtain ⟨rfl, rfl, ha⟩ := hv
  repeat' (first | array_mem_dec | fail)
  refine Vc.via0 (Row_len_spec (xs := bars.map Bar.val) (w := .tup (rain.map .int)) hR) fun v s hv => ?_
  obtain ⟨rfl, rfl⟩ := hv
  rw [List.length_map]
  repeat' (first | array_mem_dec | fail)
  refine Vc.v_repT ⟨by simp, by omega, by omega, by simp⟩ ?_
  rw [rep_zero, Int.toNat_natCast]
  repeat' (first | array_mem_dec | fail)
  refine Vc.for_l (fun d' ρ s' => ∃ (b4 b5 b6 b7 : Option Val), ρ = [some (.ref d), some (.int a), some (.tup ((runE bars a d').lv.map .int)), some (.int (runE bars a d').tk), b4, b5, b6, b7] ∧ Keep [] s s') (fun d' ρ s ⟨_, _, _, _, _, k⟩ => Ab.seqAt_lst (k.get hE (by simp))) ?_ ?_ ⟨_, _, _, _, rfl, .refl⟩
  · rintro d' e rest ρ s1 e0 ⟨b4, b5, b6, b7, rfl, k⟩
    have hlen := runE_len bars a d'
    rw [runE_snoc]
    generalize runE bars a d' = S at *
    obtain ⟨lv, tk, good⟩ := S
    cases e with
    | rain o =>
      cases o with
      | none =>
        rw [val_rn]
        repeat' (first | array_mem_dec | fail)
        simp only [List.take_succ_cons, List.take_zero, List.cons_append, List.nil_append, -eq_self]
        repeat' (first | array_mem_dec | fail)
        refine Vc.via0 (next_tick_spec (locked := []) (t := rain.length) ok.ok n0 hlen (by omega) (by (first | array_get_dec | fail))) fun v s5 hv => ?_
        obtain ⟨rfl, k5⟩ := hv
        repeat' (first | array_mem_dec | fail)
        exact ⟨_, _, _, _, rfl, by (first | sizeOf_list_dec | fail)⟩
      | some r =>
        rw [val_rs]
        repeat' (first | array_mem_dec | fail)
        simp only [List.take_succ_cons, List.take_zero, List.cons_append, List.nil_append, -eq_self]
        repeat' (first | array_mem_dec | fail)
        refine Vc.via0 (next_tick_spec (locked := []) (t := rain.length) ok.ok n0 hlen (by omega) (by (first | array_get_dec | fail))) fun v s5 hv => ?_
        obtain ⟨rfl, k5⟩ := hv
        repeat' (first | array_mem_dec | fail)
        exact ⟨_, _, _, _, rfl, by (first | sizeOf_list_dec | fail)⟩
    | level j v =>
      rw [val_lv]
      repeat' (first | array_mem_dec | fail)
      simp only [List.take_succ_cons, List.take_zero, List.cons_append, List.nil_append, -eq_self]
      repeat' (first | (first | array_mem_dec | fail) | ((with_reducible refine Vc.ite_dn ?qq ?_); (case qq => decide)) | fail)
      exact ⟨_, _, _, _, rfl, by (first | sizeOf_list_dec | fail)⟩
  · rintro ρ s1 ⟨b4, b5, b6, b7, rfl, k⟩
    have hR1 := k.get hR (by simp)
    repeat' (first | array_mem_dec | fail)
    refine Vc.via0 (Row_barrels_spec hR1) fun v s hv => ?_
    obtain ⟨rfl, rfl⟩ := hv
    repeat' (first | array_mem_dec | fail)
    rw [Vc.zip_map]
    refine Vc.dc_pure (fun p : Bar × Int => p.1.nm) (fun p => .int p.2) (ok.nd.sublist (zip_sub _ _)) (fun _ => ⟨trivial, trivial⟩) (by rw [List.length_zip]; omega) (fun c hc acc => ?_) ?_
    · simp only [Bar.val_eq]
      repeat' (first | array_mem_dec | fail)
      refine ⟨rfl, rfl, ?_⟩
      repeat' (first | array_mem_dec | fail)
      exact ⟨rfl, rfl⟩
    repeat' (first | array_mem_dec | fail)
    exact ⟨ha, _, rfl, by (first | array_get_dec | fail), by (first | sizeOf_list_dec | fail)⟩
end




section
variable {st : Store} {E : Nat} {rain : List Int} {bars : List Bar} {evs : List Ev}
theorem range_right_spec (ok : RowOk rain bars) (hE : st[E]? = some (.lst (evs.map Ev.val))) (eo : ∀ e ∈ evs, EvOk bars.length e) :
    WpR (f_law_range_right [.tup [.tup (rain.map .int), .tup (bars.map Bar.val)], .ref E, .bl (hid evs), rangeV bars evs] st) (fun v s => v = .bl true ∧ Keep [] st s) (fun _ _ => False) := by
  have hr : ∀ b ∈ bars, 0 ≤ b.roof := fun b hb => (ok.ok b hb).r0
  have lE := Vc.lt_of hE
  refine Vc.b_def rfl ?_
  unfold m_law_range_right
  repeat' (first | array_mem_dec | fail)
  refine Vc.ex_range1 (by omega) ?_
  refine Vc.lc_new fun F s1 hF0 k1 l1 => ?_
  refine lcF_l (fun n : Nat => (runE bars (n : Int) evs).ok) (fun n : Nat => .int n) (fun _ _ => trivial) (by simp) (fun n hn s k => ?_) (fun s hF k => ?_) hF0
  · repeat' (first | array_mem_dec | fail)
    refine Vc.via0 (law_run_spec ok (k.get (k1.get hE (by simp)) (by simp; omega)) eo) fun v s2 hv => ?_
    obtain ⟨L, rfl, hL, k2, lL⟩ := hv
    repeat' (first | array_mem_dec | fail)
    refine ⟨rfl, k2, fun _ => ?_⟩
    repeat' (first | array_mem_dec | fail)
    exact ⟨rfl, .refl⟩
  have kk : Keep [] st s := by (first | sizeOf_list_dec | fail)
  have hE1 := kk.get hE (by simp)
  clear k k1 hF0
  have gi := fun a (ha : a ≤ 1000000) => good_iff hr evs ha
  have top := (signP_le hr evs 1).1
  have hF : s[F]? = some (.lst (((List.range 30).filter fun n : Nat => (runE bars (n : Int) evs).ok).map fun n : Nat => .int n)) := hF
  have ff : (List.range 30).filter (fun n : Nat => (runE bars (n : Int) evs).ok) = (List.range 30).filter (fun n : Nat => decide (loE bars evs ≤ n ∧ n < hiE bars evs)) := List.filter_congr fun n hn => gi n (by have := List.mem_range.mp hn; omega)
  rw [ff] at hF
  clear ff
  rw [show bsW (signP bars evs 1) 20 0 1000001 = hiE bars evs from rfl] at top
  unfold rangeV
  cases hid evs with
  | false =>
    rw [if_neg fun z => by cases z.1]
    repeat' (first | array_mem_dec | fail)
    exact ⟨rfl, kk⟩
  | true =>
    by_cases q : loE bars evs < hiE bars evs
    · rw [if_pos ⟨rfl, q⟩]
      repeat' (first | array_mem_dec | fail)
      refine Vc.ite_dn (by omega) ?_
      repeat' (first | array_mem_dec | fail)
      refine Vc.ite_dn (by omega) ?_
      repeat' (first | array_mem_dec | fail)
      refine Vc.ex_range1 (by omega) ?_
      generalize hlo : loE bars evs = lo at *
      generalize hhi : hiE bars evs = hi at *
      refine Vc.lc_pure (fun n : Nat => decide (lo ≤ n ∧ n < hi)) (fun n : Nat => .int n) (fun _ => trivial) (by simp) (fun n hn acc => ?_) ?_
      · repeat' (first | array_mem_dec | fail)
        refine ⟨?_, rfl, fun _ => ?_⟩
        · rw [decide_eq_decide]; omega
        repeat' (first | array_mem_dec | fail)
        exact ⟨rfl, rfl⟩
      repeat' (first | array_mem_dec | fail)
      rename_i G s2 hG k2 l2
      have hF2 := k2.get hF (by simp)
      have k02 := kk.trans k2
      have hE2 := k02.get hE (by simp)
      have dd : ∀ {A : Nat}, s2[A]? = some (.lst (((List.range 30).filter fun n : Nat => decide (lo ≤ n ∧ n < hi)).map fun n : Nat => .int n)) → Ab.deep s2 16 (.ref A) = some (.list (((List.range 30).filter fun n : Nat => decide (lo ≤ n ∧ n < hi)).map fun n : Nat => .int n)) := fun h => Vc.deep_lst (n := 15) (g := fun n : Nat => PyData.int n) h fun x _ => by rw [Ab.deep]
      refine Vc.v_neLL (dd hG) (dd hF2) ?_
      have ee : PyData.eqv (.list (((List.range 30).filter fun n : Nat => decide (lo ≤ n ∧ n < hi)).map fun n : Nat => .int n)) (.list (((List.range 30).filter fun n : Nat => decide (lo ≤ n ∧ n < hi)).map fun n : Nat => .int n)) = true := by
        have := Vc.eqv_ints (((List.range 30).filter fun n : Nat => decide (lo ≤ n ∧ n < hi)).map fun n : Nat => (n : Int)) (((List.range 30).filter fun n : Nat => decide (lo ≤ n ∧ n < hi)).map fun n : Nat => (n : Int))
        rw [List.map_map, decide_eq_true rfl] at this
        exact this
      rw [ee]
      clear dd ee hG hF2 hF k2 l2 hE1 kk
      repeat' (first | array_mem_dec | fail)
      show WpR (Ab.lcM _ _ _ _ _ _ (([(lo : Int) - 1, ((hi - 1 : Nat) : Int) + 1] : List Int).map .int) _) _ _
      refine Vc.lc_pure (fun z : Int => decide (0 ≤ z ∧ z ≤ 1000000)) Val.int (fun _ => trivial) (by simp) (fun n hn acc => ?_) ?_
      · repeat' (first | array_mem_dec | fail)
        refine ⟨rfl, rfl, fun _ => ?_⟩
        repeat' (first | array_mem_dec | fail)
        exact ⟨rfl, rfl⟩
      repeat' (first | array_mem_dec | fail)
      rename_i B s3 hB k3 l3
      have hE3 := k3.get hE2 (by simp)
      have k03 := k02.trans k3
      clear k3 hE2
      have nob : ∀ z ∈ ([(lo : Int) - 1, ((hi - 1 : Nat) : Int) + 1].filter fun z : Int => decide (0 ≤ z ∧ z ≤ 1000000)), (runE bars z evs).ok = false := by
        intro z hz
        obtain ⟨h1, h2⟩ := List.mem_filter.mp hz
        have h2 := of_decide_eq_true h2
        obtain ⟨n, rfl⟩ : ∃ n : Nat, z = n := ⟨z.toNat, by omega⟩
        rw [gi n (by omega)]
        refine decide_eq_false ?_
        simp only [List.mem_cons, List.not_mem_nil, or_false] at h1
        omega
      have lbey := List.length_filter_le (fun z : Int => decide (0 ≤ z ∧ z ≤ 1000000)) [(lo : Int) - 1, ((hi - 1 : Nat) : Int) + 1]
      simp only [List.length_cons, List.length_nil] at lbey
      generalize ([(lo : Int) - 1, ((hi - 1 : Nat) : Int) + 1].filter fun z : Int => decide (0 ≤ z ∧ z ≤ 1000000)) = bey at *
      have lB := Vc.lt_of hB
      have lE3 := Vc.lt_of hE3
      refine Vc.lc_new fun C s4 hC0 k4 l4 => ?_
      refine lcF_l (fun z : Int => (runE bars z evs).ok) Val.int (fun s k => Ab.seqAt_lst (k.get (k4.get hB (by simp)) (by simp; omega))) (by omega) (fun z hz s k => ?_) (fun s hC k => ?_) hC0
      · repeat' (first | array_mem_dec | fail)
        refine Vc.via0 (law_run_spec ok (k.get (k4.get hE3 (by simp)) (by simp; omega)) eo) fun v s2 hv => ?_
        obtain ⟨L, rfl, hL, k2, lL⟩ := hv
        repeat' (first | array_mem_dec | fail)
        refine ⟨rfl, k2, fun _ => ?_⟩
        repeat' (first | array_mem_dec | fail)
        exact ⟨rfl, .refl⟩
      have en : bey.filter (fun z : Int => (runE bars z evs).ok) = [] := by
        rw [List.filter_eq_nil_iff]
        intro z hz
        rw [nob z hz]; simp
      rw [en] at hC
      repeat' (first | array_mem_dec | fail)
      rename_i G s5 hG k5 l5
      have k35 : Keep [] s3 s5 := by (first | sizeOf_list_dec | fail)
      have k05 := k03.trans k35
      have hE5 := k35.get hE3 (by simp)
      refine v_neL0 (f := Val.int) (g := PyData.int) (xs := []) (k5.get hC (by simp)) hG (fun x hx => by simp at hx) ?_
      clear k35 k5 k4 k hC hG hC0 hB lE3 lB
      have lE5 := Vc.lt_of hE5
      repeat' (first | array_mem_dec | fail)
      show WpR (Ab.lcM _ _ _ _ _ _ (([(lo : Int), ((hi - 1 : Nat) : Int)] : List Int).map .int) _) _ _
      refine Vc.lc_new fun C s4 hC0 k4 l4 => ?_
      refine lcF_l (fun z : Int => !(runE bars z evs).ok) Val.int (fun s k => trivial) (by simp) (fun z hz s k => ?_) (fun s hC k => ?_) hC0
      · repeat' (first | array_mem_dec | fail)
        refine Vc.via0 (law_run_spec ok (k.get (k4.get hE5 (by simp)) (by simp; omega)) eo) fun v s2 hv => ?_
        obtain ⟨L, rfl, hL, k2, lL⟩ := hv
        repeat' (first | array_mem_dec | fail)
        refine ⟨rfl, k2, fun _ => ?_⟩
        repeat' (first | array_mem_dec | fail)
        exact ⟨rfl, .refl⟩
      have en : [(lo : Int), ((hi - 1 : Nat) : Int)].filter (fun z : Int => !(runE bars z evs).ok) = [] := by
        rw [List.filter_eq_nil_iff]
        intro z hz
        simp only [List.mem_cons, List.not_mem_nil, or_false] at hz
        rcases hz with rfl | rfl
        · rw [gi lo (by omega), decide_eq_true (by omega)]; simp
        · rw [gi (hi - 1) (by omega), decide_eq_true (by omega)]; simp
      rw [en] at hC
      repeat' (first | array_mem_dec | fail)
      rename_i G s6 hG k6 l6
      exact Vc.v_eq00 (k6.get hC (by simp)) hG ⟨rfl, by (first | sizeOf_list_dec | fail)⟩
    · rw [if_neg fun z => q z.2]
      have en : (List.range 30).filter (fun n : Nat => decide (loE bars evs ≤ n ∧ n < hiE bars evs)) = [] := by
        rw [List.filter_eq_nil_iff]
        intro n _ z
        have := of_decide_eq_true z
        omega
      rw [en] at hF
      repeat' (first | array_mem_dec | fail)
      rename_i G s2 hG k2 l2
      exact Vc.v_eq00 (k2.get hF (by simp)) hG ⟨rfl, kk.trans k2⟩
end

theorem stepT_bd {now : Nat} {A : Int} {T : TS} {b : Bar} {x : Int} {t : Nat} (hb : b.Ok t) (h : ∀ z ∈ T.found, 0 ≤ z ∧ z ≤ 1000000000) : ∀ z ∈ (stepT now A [] T (b, x)).found, 0 ≤ z ∧ z ≤ 1000000000 := by
  have c0 := hb.c0; have c1 := hb.c1
  have w0 : 0 ≤ wishOf b now := by
    unfold wishOf
    rw [List.getD_eq_getElem?_getD]
    cases e : b.dr[now % b.dr.length]? with
    | none => exact Int.le_refl _
    | some d => exact (hb.d01 d (List.mem_of_getElem? e)).1
  unfold stepT
  dsimp only
  rw [if_neg (by simp)]
  intro z hz
  rcases List.mem_append.mp hz with hz | hz
  · exact h z hz
  · rw [List.mem_singleton.mp hz]
    generalize b.roof * A = p
    generalize wishOf b now = w at *
    omega
theorem tickT_bd {now : Nat} {A : Int} {t : Nat} : ∀ {xs : List (Bar × Int)} {T : TS}, (∀ p ∈ xs, p.1.Ok t) → (∀ z ∈ T.found, 0 ≤ z ∧ z ≤ 1000000000) → ∀ z ∈ (xs.foldl (stepT now A []) T).found, 0 ≤ z ∧ z ≤ 1000000000
  | [], _, _, h => h
  | (b, x) :: xs, T, hx, h => tickT_bd (xs := xs) (fun p hp => hx p (List.mem_cons_of_mem _ hp)) (stepT_bd (hx _ List.mem_cons_self) h)
theorem runF_bd {bars : List Bar} {a : Int} {t : Nat} (hb : ∀ b ∈ bars, b.Ok t) : ∀ {evs : List Ev} {s : RS}, (∀ z ∈ s.lv, 0 ≤ z ∧ z ≤ 1000000000) → ∀ z ∈ (runF bars a s evs).lv, 0 ≤ z ∧ z ≤ 1000000000
  | [], _, h => h
  | .rain o :: es, s, h => runF_bd hb (evs := es) (s := stepR bars a s (.rain o)) (tickT_bd (fun p hp => hb _ (List.of_mem_zip hp).1) fun z hz => by cases hz)
  | .level k v :: es, s, h => runF_bd hb (evs := es) (s := stepR bars a s (.level k v)) h
theorem runE_bd {bars : List Bar} {a : Int} {t : Nat} (hb : ∀ b ∈ bars, b.Ok t) (evs : List Ev) : ∀ z ∈ (runE bars a evs).lv, 0 ≤ z ∧ z ≤ 1000000000 := runF_bd hb fun z hz => by
  rw [(List.mem_replicate.mp hz).2]; omega

structure LnOk (z : Str) : Prop where
  asc : Asc z
  l : z.length ≤ 60
theorem LnOk.app {a b : Str} {n m : Nat} (ha : Asc a) (hb : Asc b) (h1 : a.length ≤ n) (h2 : b.length ≤ m) : Asc (a ++ b) ∧ (a ++ b).length ≤ n + m := by
  refine ⟨fun c hc => ?_, ?_⟩
  · have : c ∈ TL.tl (a ++ b) := hc
    rw [TL.tl_append] at this
    rcases List.mem_append.mp this with z | z
    · exact ha c z
    · exact hb c z
  · have := TL.len_tl (a ++ b)
    rw [TL.tl_append, List.length_append, ← TL.len_tl, ← TL.len_tl] at this
    omega
theorem num_str {i : Int} (h0 : 0 ≤ i) (h1 : i ≤ 1000000000) : Asc (Str.ofString (toString i)) ∧ (Str.ofString (toString i)).length ≤ 10 ∧ i.natAbs.log2 < 1920 := by
  obtain ⟨n, rfl⟩ : ∃ n : Nat, i = n := ⟨i.toNat, by omega⟩
  have e := TL.tl_num n
  refine ⟨fun c hc => ?_, ?_, ?_⟩
  · have : c ∈ TL.tl (Str.ofString (toString (n : Int))) := hc
    rw [e] at this
    have := TL.numL_digits n c this
    omega
  · rw [TL.len_tl, e]
    exact TL.numL_len (by omega) (by omega)
  · rw [Int.natAbs_natCast]
    by_cases z : n = 0
    · subst z; decide
    · rw [Nat.log2_lt z]
      exact Nat.lt_of_lt_of_le (by omega : n < 2 ^ 30) (Nat.pow_le_pow_right (by omega) (by omega))
def odd8 : List Str := ["", "rain ?", "rain 01", "rain 1000001", "level no 1", "level top", "level top 1", "Rain 1"]
def askB (z : Str) : Bool := z.cps.toList.all (fun c => decide (c < 128)) && decide (z.length ≤ 60)
theorem ask_ok {z : Str} (h : askB z = true) : LnOk z := by
  unfold askB at h
  rw [Bool.and_eq_true, List.all_eq_true] at h
  exact ⟨fun c hc => of_decide_eq_true (h.1 c hc), of_decide_eq_true h.2⟩
theorem odd8_ok : ∀ z ∈ odd8, LnOk z := fun z hz => ask_ok ((by decide +kernel : ∀ z ∈ odd8, askB z = true) z hz)
theorem rain0_ok : LnOk "rain 0" := ask_ok (by decide +kernel)
theorem rainq_ok : LnOk "rain ?" := ask_ok (by decide +kernel)
theorem rain_ok : Asc ("rain " : Str) ∧ ("rain " : Str).length ≤ 5 := ⟨(ask_ok (by decide +kernel)).asc, by decide +kernel⟩
theorem level_ok : Asc ("level " : Str) ∧ ("level " : Str).length ≤ 6 := ⟨(ask_ok (by decide +kernel)).asc, by decide +kernel⟩
theorem space_ok : Asc (" " : Str) ∧ (" " : Str).length ≤ 1 := ⟨(ask_ok (by decide +kernel)).asc, by decide +kernel⟩
theorem nm4_asc : ∀ z ∈ nm4, Asc z ∧ z.length ≤ 8 := fun z hz => ⟨(ask_ok ((by decide +kernel : ∀ z ∈ nm4, askB z = true) z hz)).asc, (by decide +kernel : ∀ z ∈ nm4, z.length ≤ 8) z hz⟩
theorem joinL_in {S : List Nat} : ∀ {ps : List (List Nat)}, (∀ c ∈ TL.joinL S ps, c ∈ S ∨ ∃ p ∈ ps, c ∈ p) ∧ (TL.joinL S ps).length ≤ (ps.map List.length).sum + ps.length * S.length
  | [] => ⟨fun _ z => (by cases z), by simp [TL.joinL]⟩
  | [p] => ⟨fun c hc => .inr ⟨p, by simp, hc⟩, by simp [TL.joinL]⟩
  | p :: q :: r => by
    obtain ⟨i1, i2⟩ := joinL_in (S := S) (ps := q :: r)
    have e : TL.joinL S (p :: q :: r) = p ++ (S ++ TL.joinL S (q :: r)) := rfl
    rw [e]
    refine ⟨fun c hc => ?_, ?_⟩
    · rcases List.mem_append.mp hc with z | z
      · exact .inr ⟨p, by simp, z⟩
      · rcases List.mem_append.mp z with z | z
        · exact .inl z
        · rcases i1 c z with z | ⟨y, hy, z⟩
          · exact .inl z
          · exact .inr ⟨y, List.mem_cons_of_mem _ hy, z⟩
    · rw [List.length_append, List.length_append, List.map_cons, List.sum_cons, List.length_cons, Nat.succ_mul]
      omega
theorem sum_le {ys : List Str} (h : ∀ y ∈ ys, LnOk y) : (ys.map (·.length)).sum ≤ 60 * ys.length := by
  induction ys with
  | nil => simp
  | cons y ys ih =>
    rw [List.map_cons, List.sum_cons, List.length_cons]
    have := (h y List.mem_cons_self).l
    have := ih fun z hz => h z (List.mem_cons_of_mem _ hz)
    show y.length + _ ≤ _
    omega
theorem join_ok {ys : List Str} (h : ∀ y ∈ ys, LnOk y) (hl : ys.length ≤ 400) : TxOk (Txt.join "\n" ys) := by
  have e : TL.tl (Txt.join "\n" ys) = TL.joinL (TL.tl ("\n" : Str)) (ys.map TL.tl) := by rw [TL.join_eq, TL.tl_join]
  have en : TL.tl ("\n" : Str) = [10] := by decide +kernel
  obtain ⟨i1, i2⟩ := joinL_in (S := TL.tl ("\n" : Str)) (ps := ys.map TL.tl)
  refine ⟨fun c hc => ?_, ?_⟩
  · have : c ∈ TL.tl (Txt.join "\n" ys) := hc
    rw [e] at this
    rcases i1 c this with z | ⟨p, hp, z⟩
    · rw [en] at z
      have := List.mem_singleton.mp z
      omega
    · obtain ⟨y, hy, rfl⟩ := List.mem_map.mp hp
      exact (h y hy).asc c z
  · rw [TL.len_tl, e]
    have s := sum_le h
    have s2 : ((ys.map TL.tl).map List.length).sum = (ys.map (·.length)).sum := by
      rw [List.map_map]
      congr 1
    rw [s2, en, List.length_map, List.length_singleton] at i2
    rw [en]
    omega
theorem rep_val {α : Type} (f : α → Val) (x : α) (n : Nat) : Ab.repW' n [f x] = (List.replicate n x).map f := by
  unfold Ab.repW'
  induction n with
  | zero => rfl
  | succ n ih => rw [List.replicate_succ, List.flatten_cons, ih, List.replicate_succ]; rfl
section
variable {st : Store} {h c : Nat} {rain : List Int} {bars : List Bar}
theorem text_spec {most wide : Int} (d0 : Draws h c st) (pt : Parts rain bars most wide) (ok : RowOk rain bars) :
    WpR (f_law_text [.ref h, .tup [.tup (rain.map .int), .tup (bars.map Bar.val)]] st) (fun v s => ∃ T, v = .str T ∧ TxOk T ∧ Draws h c s ∧ Keep [h, c] st s) (fun _ _ => False) := by
  have b0 := ok.b0; have b1 := ok.b1; have n0 := ok.n0
  have nms := pt.nms
  have hh : h < st.length ∧ c < st.length := by
    obtain ⟨_, _, _, e1, e2, _⟩ := d0
    exact ⟨Vc.lt_of e1, Vc.lt_of e2⟩
  refine Vc.b_def rfl ?_
  unfold m_law_text
  repeat' (first | array_mem_dec | fail)
  rename_i A s1 hA k1 lA B s2 hB k2 lB
  have d2 := d0.keep (k1.trans k2) (by simp) (by simp)
  refine Vc.via0 (next_spec d2 (by decide) (by decide)) fun v s3 hv => ?_
  obtain ⟨⟨hd, rfl, hd0, hd1⟩, d3, k3⟩ := hv
  repeat' (first | array_mem_dec | fail)
  refine Vc.via0 (next_spec d3 (by decide) (by decide)) fun v s4 hv => ?_
  obtain ⟨⟨am, rfl, am0, am1⟩, d4, k4⟩ := hv
  repeat' (first | array_mem_dec | fail)
  refine Vc.via0 (next_spec d4 (by decide) (by decide)) fun v s5 hv => ?_
  obtain ⟨⟨cnt, rfl, cnt0, cnt1⟩, d5, k5⟩ := hv
  repeat' (first | array_mem_dec | fail)
  have lA1 := Vc.lt_of hA
  have lB2 := Vc.lt_of hB
  have nA : A ≠ h ∧ A ≠ c := ⟨by omega, by omega⟩
  have nB : B ≠ h ∧ B ≠ c ∧ B ≠ A := ⟨by have := k1.1; omega, by have := k1.1; omega, by omega⟩
  have hA5 : s5[A]? = some (.lst (([] : List Str).map .str)) := by (first | array_get_dec | fail)
  have hB5 : s5[B]? = some (.lst (([] : List Int).map fun r => Ev.val (.rain (some r)))) := by (first | array_get_dec | fail)
  have k05 : Keep [h, c] st s5 := by (first | sizeOf_list_dec | fail)
  clear hA hB k1 k2 k3 k4 k5 d2 d3 d4
  refine Vc.ex_range1 (by omega) ?_
  refine Vc.for_l (fun d ρ s => ∃ (rows : List Str) (rs : List Int) (b6 b7 b8 : Option Val), ρ = [some (.ref h), some (.tup [.tup (rain.map .int), .tup (bars.map Bar.val)]), some (.ref A), some (.ref B), some (.int hd), some (.int am), b6, b7, b8, none, none] ∧ s[A]? = some (.lst (rows.map .str)) ∧ s[B]? = some (.lst (rs.map fun r => Ev.val (.rain (some r)))) ∧ rows.length ≤ d.length ∧ rs.length ≤ d.length ∧ (∀ z ∈ rows, LnOk z) ∧ Draws h c s ∧ Keep [h, c, A, B] s5 s) (fun _ _ _ _ => trivial) ?_ ?_ ⟨[], [], _, _, _, rfl, hA5, hB5, by simp, by simp, (fun _ z => by cases z), d5, .refl⟩
  · rintro d x rest ρ s e ⟨rows, rs, b6, b7, b8, rfl, hA, hB, lr, ls, rok, dr, k⟩
    obtain ⟨e1, e2, e3⟩ := Vc.range_split e
    have hdl : d.length < 16 := by omega
    have lrm : (rows.map Val.str).length ≤ 16 := by rw [List.length_map]; omega
    have lsm : (rs.map fun r => Ev.val (.rain (some r))).length ≤ 16 := by rw [List.length_map]; omega
    have snoc : ∀ {z : Str}, LnOk z → ∀ y ∈ rows ++ [z], LnOk y := fun {z} hz y hy => by
      rcases List.mem_append.mp hy with hy | hy
      · exact rok y hy
      · rw [List.mem_singleton.mp hy]; exact hz
    repeat' (first | array_mem_dec | fail)
    refine Vc.via0 (next_spec dr (by decide) (by decide)) fun v s6 hv => ?_
    obtain ⟨⟨r, rfl, r0, r1⟩, d6, k6⟩ := hv
    have hA6 := k6.get hA (by simp; omega)
    have hB6 := k6.get hB (by simp; omega)
    repeat' (first | array_mem_dec | fail)
    refine Vc.ite_d (fun q => ?_) (fun q => ?_)
    · repeat' (first | array_mem_dec | fail)
      refine Vc.ite_d (fun q2 => ?_) (fun q2 => ?_)
      · repeat' (first | array_mem_dec | fail)
        refine Vc.ite_dp q2 ?_
        repeat' (first | array_mem_dec | fail)
        rename_i s7 hB7 k7 s8 hA8 k8
        exact ⟨rows ++ [("rain ?" : Str)], rs ++ [am], _, _, _, rfl, by rw [List.map_append]; exact hA8, by rw [List.map_append]; exact k8.get hB7 (by simp; omega), by simp; omega, by simp; omega, snoc rainq_ok, (d6.keep k7 (by simp; omega) (by simp; omega)).keep k8 (by simp; omega) (by simp; omega), by (first | sizeOf_list_dec | fail)⟩
      · repeat' (first | array_mem_dec | fail)
        refine Vc.via0 (next_spec d6 (by decide) (by decide)) fun v s7 hv => ?_
        obtain ⟨⟨r', rfl, r0', r1'⟩, d7, k7⟩ := hv
        have hA7 := k7.get hA6 (by simp; omega)
        have hB7 := k7.get hB6 (by simp; omega)
        repeat' (first | array_mem_dec | fail)
        rename_i s8 hB8 k8
        refine Vc.ite_dn q2 ?_
        repeat' (first | array_mem_dec | fail)
        refine Vc.v_ixL hB8 (L2.atI_last _ _) ?_
        repeat' (first | array_mem_dec | fail)
        obtain ⟨n1, n2, n3⟩ := num_str r0' (by omega : r' ≤ 1000000000)
        refine Vc.v_strI n3 ?_
        repeat' (first | array_mem_dec | fail)
        have la := LnOk.app rain_ok.1 n1 rain_ok.2 n2
        refine Vc.v_addS (by have := rain_ok.2; omega) ?_
        repeat' (first | array_mem_dec | fail)
        rename_i s9 hA9 k9
        exact ⟨rows ++ [_], rs ++ [r'], _, _, _, rfl, by rw [List.map_append]; exact hA9, by rw [List.map_append]; exact k9.get hB8 (by simp; omega), by simp; omega, by simp; omega, snoc ⟨la.1, by omega⟩, (d7.keep k8 (by simp; omega) (by simp; omega)).keep k9 (by simp; omega) (by simp; omega), by (first | sizeOf_list_dec | fail)⟩
    · repeat' (first | array_mem_dec | fail)
      rw [List.length_map]
      refine Vc.via0 (next_spec d6 (by omega) (by omega)) fun v s7 hv => ?_
      obtain ⟨⟨j, rfl, j0, j1⟩, d7, k7⟩ := hv
      obtain ⟨k', rfl⟩ : ∃ k : Nat, j = k := ⟨j.toNat, by omega⟩
      have hk : k' < bars.length := by omega
      have hA7 := k7.get hA6 (by simp; omega)
      have hB7 := k7.get hB6 (by simp; omega)
      have hB7' : s7[B]? = some (.lst ((rs.map fun r => Ev.rain (some r)).map Ev.val)) := by rw [List.map_map]; exact hB7
      repeat' (first | array_mem_dec | fail)
      refine Vc.via0 (law_run_spec ok hB7' (fun z hz => by obtain ⟨r, _, rfl⟩ := List.mem_map.mp hz; trivial)) fun v s8 hv => ?_
      obtain ⟨L, rfl, hL, k8, lL⟩ := hv
      have hA8 := k8.get hA7 (by simp)
      have hB8 := k8.get hB7 (by simp)
      have hlv : (runE bars 0 (rs.map fun r => Ev.rain (some r))).lv[k']? = some _ := List.getElem?_eq_getElem (by rw [runE_len]; exact hk)
      have hbd := runE_bd (a := 0) ok.ok (rs.map fun r => Ev.rain (some r)) _ (List.mem_of_getElem? hlv)
      generalize (runE bars 0 (rs.map fun r => Ev.rain (some r))).lv[k']'(by rw [runE_len]; exact hk) = lev at *
      repeat' (first | array_mem_dec | fail)
      refine Vc.v_ixLn (f := .int) hL hlv ?_
      repeat' (first | array_mem_dec | fail)
      have hbk : bars[k']? = some bars[k'] := List.getElem?_eq_getElem hk
      have hnm : bars[k'].nm ∈ nm4 := by
        have : bars[k'].nm ∈ bars.map Bar.nm := List.mem_map_of_mem (List.getElem_mem hk)
        rw [nms] at this
        exact List.mem_of_mem_take this
      generalize bars[k'] = b at *
      obtain ⟨a1, a2⟩ := nm4_asc _ hnm
      refine Vc.v_ixTn hbk ?_
      rw [Bar.val_eq]
      repeat' (first | array_mem_dec | fail)
      have l1 := LnOk.app level_ok.1 a1 level_ok.2 a2
      refine Vc.v_addS (by have := level_ok.2; omega) ?_
      repeat' (first | array_mem_dec | fail)
      have l2 := LnOk.app l1.1 space_ok.1 l1.2 space_ok.2
      refine Vc.v_addS (by have := space_ok.2; have := l1.2; omega) ?_
      repeat' (first | array_mem_dec | fail)
      obtain ⟨n1, n2, n3⟩ := num_str hbd.1 hbd.2
      refine Vc.v_strI n3 ?_
      repeat' (first | array_mem_dec | fail)
      have l3 := LnOk.app l2.1 n1 l2.2 n2
      refine Vc.v_addS (by have := l2.2; omega) ?_
      repeat' (first | array_mem_dec | fail)
      rename_i s9 hA9 k9
      exact ⟨rows ++ [_], rs, _, _, _, rfl, by rw [List.map_append]; exact hA9, k9.get hB8 (by simp; omega), by simp; omega, by simp; omega, snoc ⟨l3.1, by omega⟩, (d7.keep k8 (by simp) (by simp)).keep k9 (by simp; omega) (by simp; omega), by (first | sizeOf_list_dec | fail)⟩
  · rintro ρ s ⟨rows, rs, b6, b7, b8, rfl, hA, hB, lr, ls, rok, dr, k⟩
    rw [List.length_range] at lr ls
    have lrm : (rows.map Val.str).length ≤ 16 := by rw [List.length_map]; omega
    have dr0 := dr
    repeat' (first | array_mem_dec | fail)
    refine Vc.via0 (next_spec dr (by decide) (by decide)) fun v s6 hv => ?_
    obtain ⟨⟨r, rfl, r0, r1⟩, d6, k6⟩ := hv
    have hA6 := k6.get hA (by simp; omega)
    have K6 : Keep [h, c, A, B] s5 s6 := by (first | sizeOf_list_dec | fail)
    have last : ∀ {s7 : Store} {C : Nat} {rw' : List Str} {b9 b10 : Option Val}, s7[C]? = some (.lst (rw'.map .str)) → C ≠ h ∧ C ≠ c → rw'.length ≤ 40 → (∀ z ∈ rw', LnOk z) → Draws h c s7 → Keep [h, c, A, B] s5 s7 → WpR (Se.aCons (Se.mIf (Se.mTest (Se.mBin Ab.vEq (Se.mApp f_law_next (Se.aCons (Se.mVar 0) (Se.aCons (Se.mC (.int 12)) (Se.aNil)))) (Se.mC (.int 0)))) (Se.mBin Ab.vAdd (Se.mVar 2) (Se.mBin Ab.vRepL (Se.mLst (Se.aCons (Se.mC (.str "rain 0")) (Se.aNil))) (Se.mBin Ab.vAdd (Se.mC (.int 299)) (Se.mApp f_law_next (Se.aCons (Se.mVar 0) (Se.aCons (Se.mC (.int 3)) (Se.aNil))))))) (Se.mVar 2)) Se.aNil [some (.ref h), some (.tup [.tup (rain.map .int), .tup (bars.map Bar.val)]), some (.ref C), some (.ref B), some (.int hd), some (.int am), b6, b7, b8, b9, b10] s7)
        (fun ws st2 => WpR (Ab.vJoin (.str "\n") ws st2) (fun w st1 => ∃ T, w = .str T ∧ TxOk T ∧ Draws h c st1 ∧ Keep [h, c] st st1) fun _ _ => False) fun _ _ => False := by
      intro s7 C rw' b9 b10 hC hCn lC okC d7 k7
      have K : Keep [h, c] st s7 := by (first | sizeOf_list_dec | fail)
      have lCm : (rw'.map Val.str).length ≤ 40 := by rw [List.length_map]; omega
      repeat' (first | array_mem_dec | fail)
      refine Vc.via0 (next_spec d7 (by decide) (by decide)) fun v s8 hv => ?_
      obtain ⟨⟨r', rfl, r0', r1'⟩, d8, k8⟩ := hv
      have hC8 := k8.get hC (by simpa using hCn)
      repeat' (first | array_mem_dec | fail)
      refine Vc.ite_d (fun q => ?_) (fun q => ?_)
      · repeat' (first | array_mem_dec | fail)
        rename_i Z s9 hZ k9 lZ
        have d9 := d8.keep k9 (by simp) (by simp)
        have lh8 := Vc.lt_of hC8
        refine Vc.via0 (next_spec d9 (by decide) (by decide)) fun v s10 hv => ?_
        obtain ⟨⟨r2, rfl, r20, r21⟩, d10, k10⟩ := hv
        have hZh : Z ≠ h ∧ Z ≠ c := ⟨by have := K.1; have := k8.1; omega, by have := K.1; have := k8.1; omega⟩
        have hZ10 := k10.get hZ (by simpa using hZh)
        have hC10 := k10.get (k9.get hC8 (by simp)) (by simpa using hCn)
        repeat' (first | array_mem_dec | fail)
        refine Vc.v_repL hZ10 ⟨by omega, by omega, by simp⟩ ?_
        repeat' (first | array_mem_dec | fail)
        rename_i Y s11 hY k11 lY
        rw [show [Val.str (Str.ofString "rain 0")] = [Val.str ("rain 0" : Str)] from rfl, rep_val] at hY
        have hC11 := k11.get hC10 (by simp)
        refine Vc.v_addL hC11 hY (by rw [List.length_map, List.length_map, List.length_replicate]; omega) ?_
        repeat' (first | array_mem_dec | fail)
        rename_i W s12 hW k12 lW
        rw [← List.map_append] at hW
        have okW : ∀ z ∈ rw' ++ List.replicate (299 + r2).toNat ("rain 0" : Str), LnOk z := fun z hz => by
          rcases List.mem_append.mp hz with hz | hz
          · exact okC z hz
          · rw [(List.mem_replicate.mp hz).2]; exact rain0_ok
        have lW2 : (rw' ++ List.replicate (299 + r2).toNat ("rain 0" : Str)).length ≤ 400 := by rw [List.length_append, List.length_replicate]; omega
        refine Vc.v_join (Ab.seqAt_lst hW) ?_ ?_
        · have := sum_le okW
          have e : ("\n" : Str).length = 1 := by decide +kernel
          rw [e]; omega
        repeat' (first | array_mem_dec | fail)
        exact ⟨_, rfl, join_ok okW lW2, (d10.keep k11 (by simp) (by simp)).keep k12 (by simp) (by simp), by (first | sizeOf_list_dec | fail)⟩
      · repeat' (first | array_mem_dec | fail)
        refine Vc.v_join (Ab.seqAt_lst hC8) ?_ ?_
        · have := sum_le okC
          have e : ("\n" : Str).length = 1 := by decide +kernel
          rw [e]; omega
        repeat' (first | array_mem_dec | fail)
        exact ⟨_, rfl, join_ok okC (by omega), d8, by (first | sizeOf_list_dec | fail)⟩
    repeat' (first | array_mem_dec | fail)
    refine Vc.ite_d (fun q => ?_) (fun q => ?_)
    · repeat' (first | array_mem_dec | fail)
      rw [List.length_map]
      refine Vc.via0 (next_spec d6 (by omega) (by omega)) fun v s7 hv => ?_
      obtain ⟨⟨j, rfl, j0, j1⟩, d7, k7⟩ := hv
      obtain ⟨j, rfl⟩ : ∃ n : Nat, j = n := ⟨j.toNat, by omega⟩
      have hA7 := k7.get hA6 (by simpa using nA)
      repeat' (first | array_mem_dec | fail)
      rename_i O s8 hO k8 lO
      have d8 := d7.keep k8 (by simp) (by simp)
      refine Vc.via0 (next_spec d8 (by decide) (by decide)) fun v s9 hv => ?_
      obtain ⟨⟨o, rfl, o0, o1⟩, d9, k9⟩ := hv
      obtain ⟨o, rfl⟩ : ∃ n : Nat, o = n := ⟨o.toNat, by omega⟩
      have hOh : O ≠ h ∧ O ≠ c := by
        have z1 : s5.length ≤ s6.length := K6.1
        have z2 : s6.length ≤ s7.length := k7.1
        have z3 : st.length ≤ s5.length := k05.1
        exact ⟨by omega, by omega⟩
      have hO9 := k9.get hO (by simpa using hOh)
      have hA9 := k9.get (k8.get hA7 (by simp)) (by simpa using nA)
      have ho8 : odd8.length = 8 := rfl
      obtain ⟨oz, ho⟩ : ∃ z, odd8[o]? = some z := ⟨odd8.getD o "", getD_some (show o < odd8.length by rw [ho8]; omega)⟩
      have hoz := odd8_ok _ (List.mem_of_getElem? ho)
      refine Vc.v_ixLn (xs := odd8) (f := .str) hO9 ho ?_
      repeat' (first | array_mem_dec | fail)
      refine Vc.v_cutL hA9 ?_
      repeat' (first | array_mem_dec | fail)
      rename_i C1 t1 hC1 q1 m1 C2 t2 hC2 q2 m2
      rw [Vc.cut_take, ← List.map_take] at hC1
      refine Vc.v_addL (q2.get hC1 (by simp)) hC2 (by rw [List.length_map, List.length_take]; simp; omega) ?_
      repeat' (first | array_mem_dec | fail)
      rename_i C3 t3 hC3 q3 m3
      have kk : Keep [] s9 t3 := (q1.trans q2).trans q3
      have dt := d9.keep kk (by simp) (by simp)
      have lt9 := kk.1
      have hA3 := kk.get hA9 (by simp)
      refine Vc.via0 (next_spec dt (by decide) (by decide)) fun v t4 hv => ?_
      obtain ⟨⟨o2, rfl, o20, o21⟩, dt4, q4⟩ := hv
      obtain ⟨o2, rfl⟩ : ∃ n : Nat, o2 = n := ⟨o2.toNat, by omega⟩
      have hA4 := q4.get hA3 (by simpa using nA)
      have hC3h : C3 ≠ h ∧ C3 ≠ c := by
        have z1 : s5.length ≤ s6.length := K6.1
        have z2 : s6.length ≤ s7.length := k7.1
        have z3 : st.length ≤ s5.length := k05.1
        have z4 : s7.length ≤ s8.length := k8.1
        have z5 : s8.length ≤ s9.length := k9.1
        have z6 : s9.length ≤ t1.length := q1.1
        have z7 : t1.length ≤ t2.length := q2.1
        exact ⟨by omega, by omega⟩
      have hC4 := q4.get hC3 (by simpa using hC3h)
      repeat' (first | array_mem_dec | fail)
      refine Vc.v_cutL hA4 ?_
      repeat' (first | array_mem_dec | fail)
      rename_i C5 t5 hC5 q5 m5
      rw [show ((j : Nat) : Int) + ((o2 : Nat) : Int) = ((j + o2 : Nat) : Int) by omega, Vc.cut_drop, ← List.map_drop] at hC5
      refine Vc.v_addL (q5.get hC4 (by simp)) hC5 (by rw [List.length_append, List.length_map, List.length_take, List.length_map, List.length_drop]; simp; omega) ?_
      repeat' (first | array_mem_dec | fail)
      rename_i C6 t6 hC6 q6 m6
      refine ⟨rfl, last (rw' := rows.take j ++ [oz] ++ rows.drop (j + o2)) (by rw [hC6, List.map_append, List.map_append]; rfl) ?_ (by rw [List.length_append, List.length_append, List.length_take, List.length_drop]; simp; omega) (fun z hz => ?_) ((dt4.keep q5 (by simp) (by simp)).keep q6 (by simp) (by simp)) ?_⟩
      · have z1 : s5.length ≤ s6.length := K6.1
        have z2 : s6.length ≤ s7.length := k7.1
        have z3 : st.length ≤ s5.length := k05.1
        have z4 : s7.length ≤ s8.length := k8.1
        have z5 : s8.length ≤ s9.length := k9.1
        have z6 : s9.length ≤ t3.length := kk.1
        have z7 : t3.length ≤ t4.length := q4.1
        have z8 : t4.length ≤ t5.length := q5.1
        exact ⟨by omega, by omega⟩
      · rcases List.mem_append.mp hz with hz | hz
        · rcases List.mem_append.mp hz with hz | hz
          · exact rok z (List.mem_of_mem_take hz)
          · rw [List.mem_singleton.mp hz]; exact hoz
        · exact rok z (List.mem_of_mem_drop hz)
      · have k79 : Keep [h, c, A, B] s6 s9 := by (first | sizeOf_list_dec | fail)
        have kt : Keep [h, c, A, B] s6 t6 := by (first | sizeOf_list_dec | fail)
        exact K6.trans kt
    · repeat' (first | array_mem_dec | fail)
      exact ⟨rfl, last hA6 nA (by omega) rok d6 K6⟩
end

theorem tup1 {st : Store} {Q : Val → Store → Prop} {X : Exc → Store → Prop} {a : Str} (ha : PyData.canLay0 (.str a) = true) (q : Q (.bl false) st) : WpR (Ab.vNe (.tup [.str a]) (.tup [.str a]) st) Q X := by
  have e : Ab.deep st 16 (.tup [.str a]) = some (.tuple [.str a]) := by
    simp only [Ab.deep, Ab.mapO]
    rw [if_pos ha]
    rfl
  refine Vc.v_neTT e e ?_
  have e2 : PyData.eqv (.tuple [.str a]) (.tuple [.str a]) = true := by
    show PyData.eqvAll _ _ = true
    simp [PyData.eqvAll, PyData.eqv]
  rw [e2]
  exact q
theorem tupSI {st : Store} {Q : Val → Store → Prop} {X : Exc → Store → Prop} {a : Str} {i : Int} (ha : PyData.canLay0 (.str a) = true) (q : Q (.bl false) st) : WpR (Ab.vNe (.tup [.str a, .int i]) (.tup [.str a, .int i]) st) Q X := by
  have e : Ab.deep st 16 (.tup [.str a, .int i]) = some (.tuple [.str a, .int i]) := by
    simp only [Ab.deep, Ab.mapO]
    rw [if_pos ha]
    rfl
  refine Vc.v_neTT e e ?_
  have e2 : PyData.eqv (.tuple [.str a, .int i]) (.tuple [.str a, .int i]) = true := by
    show PyData.eqvAll _ _ = true
    simp [PyData.eqvAll, PyData.eqv]
  rw [e2]
  exact q
theorem pick2 {r a b : Int} (h0 : 0 ≤ r) (h1 : r < 2) : ∃ x : Int, L2.atI [.int a, .int b] r = some (Val.int x) ∧ (x = a ∨ x = b) := by
  have : r = 0 ∨ r = 1 := by omega
  rcases this with e | e <;> subst e
  · exact ⟨a, rfl, .inl rfl⟩
  · exact ⟨b, rfl, .inr rfl⟩
theorem hid_rains (evs : List Ev) : (evs.filter isRain).any isHid = hid evs := by
  unfold hid
  rw [List.any_filter]
  congr 1
  funext e
  cases e with
  | rain o => cases o <;> rfl
  | level k v => rfl
theorem range_get {α : Type} (xs : List α) (g : α → Val) : ((List.range xs.length).map fun i => (xs[i]?.map g).getD .non) = xs.map g := by
  apply List.ext_getElem
  · simp
  · intro i h1 h2
    rw [List.length_map] at h2
    rw [List.getElem_map, List.getElem_map, List.getElem_range, List.getElem?_eq_getElem h2]
    rfl
def pairV (p : Bar × Int) : Val := .tup [.str p.1.nm, .int p.2]
theorem law_spec {ns : List Int} {cell : Cell} (hs : seqAt [cell] 0 = some (ns.map .int)) (hl : ns.length ≤ 63) : WpR (Ab.defM 1 16 m_law [.ref 0] [cell]) (fun v _ => v = .bl true) (fun _ _ => False) := by
  refine Vc.b_def rfl ?_
  unfold m_law
  repeat' (first | array_mem_dec | fail)
  refine Vc.via0 (mix_spec hs hl (by decide) (by decide)) fun v s1 hv => ?_
  obtain ⟨h, c, rfl, d1, k1⟩ := hv
  repeat' (first | array_mem_dec | fail)
  refine Vc.ex_range1 (by omega) ?_
  refine Vc.for_l (fun _ ρ s => Draws h c s ∧ ∃ (b2 b3 b4 b5 b6 b7 b8 b9 b10 b11 b12 b13 b14 b15 b16 : Option Val), ρ = [some (.ref 0), some (.ref h), b2, b3, b4, b5, b6, b7, b8, b9, b10, b11, b12, b13, b14, b15, b16]) (fun _ _ _ _ => trivial) ?_ ?_ ⟨d1, _, _, _, _, _, _, _, _, _, _, _, _, _, _, _, rfl⟩
  · rintro _ n _ ρ s2 e0 ⟨d2, b2, b3, b4, b5, b6, b7, b8, b9, b10, b11, b12, b13, b14, b15, b16, rfl⟩
    obtain ⟨_, _, hn3⟩ := Vc.range_split e0
    repeat' (first | array_mem_dec | fail)
    refine Vc.via0 (parts_spec d2 (by decide) (by decide) (by decide) (by decide)) fun v s3 hv => ?_
    obtain ⟨rain, bars, rfl, pt, d3, k3⟩ := hv
    have ok := pt.row (by decide) (by decide)
    have b1' := ok.b1
    repeat' (first | array_mem_dec | fail)
    refine Vc.via0 (text_spec d3 pt ok) fun v s4 hv => ?_
    obtain ⟨T, rfl, ht, d4, k4⟩ := hv
    repeat' (first | array_mem_dec | fail)
    rename_i L5 s5 hL5 k5 lL5
    have d5 := d4.keep k5 (by simp) (by simp)
    refine Vc.via0 (law_due_spec ok ht) fun v s6 hv => ?_
    obtain ⟨k6, hdue⟩ := hv
    have d6 := d5.keep k6 (by simp) (by simp)
    have hL6 := k6.get hL5 (by simp)
    have lh : h < s4.length ∧ c < s4.length := by
      obtain ⟨_, _, _, e1, e2, _⟩ := d4
      exact ⟨Vc.lt_of e1, Vc.lt_of e2⟩
    have nL : L5 ≠ h ∧ L5 ≠ c := ⟨by omega, by omega⟩
    rcases hdue with ⟨k, hk, rfl⟩ | ⟨evs, E, hk, el, eo, rfl, hE, lE⟩
    · repeat' (first | array_mem_dec | fail)
      refine Vc.via0 (law_row_spec ok) fun v s7 hv => ?_
      obtain ⟨R, rfl, hR, k7, lR⟩ := hv
      repeat' (first | array_mem_dec | fail)
      rename_i d s8 hd k8 ld
      refine Vc.via (daybook_init_spec ok (k8.get hR (by simp)) hd ht) (fun v s9 hv => ?_) (fun x s9 hx => ?_)
      · obtain ⟨_, evs, E, e, _⟩ := hv
        rw [hk] at e; cases e
      · obtain ⟨k', rfl, e, k9⟩ := hx
        rw [hk] at e
        cases e
        refine ⟨[.str "daybook", .int k], rfl, rfl, ?_⟩
        repeat' (first | array_mem_dec | fail)
        refine tupSI (by decide +kernel) ?_
        repeat' (first | array_mem_dec | fail)
        have z1 : s4.length ≤ s5.length := k5.1
        have z2 : s5.length ≤ s6.length := k6.1
        have z3 : s6.length ≤ s7.length := k7.1
        exact ⟨((d6.keep k7 (by simp) (by simp)).keep k8 (by simp) (by simp)).keep k9 (by simp; omega) (by simp; omega), _, _, _, _, _, _, _, _, _, _, _, _, _, _, _, rfl⟩
    · repeat' (first | array_mem_dec | fail)
      refine Vc.via0 (law_row_spec ok) fun v s7 hv => ?_
      obtain ⟨R, rfl, hR, k7, lR⟩ := hv
      repeat' (first | array_mem_dec | fail)
      rename_i d s8 hd k8 ld
      refine Vc.via (daybook_init_spec ok (k8.get hR (by simp)) hd ht) (fun v s9 hv => ?_) (fun x s9 hx => ?_)
      · obtain ⟨rfl, evs', E', e, el', eo', hd9, hE9, k9, lE9⟩ := hv
        rw [hk] at e
        cases e
        refine ⟨rfl, ?_⟩
        have z1 : s4.length ≤ s5.length := k5.1
        have z2 : s5.length ≤ s6.length := k6.1
        have z3 : s6.length ≤ s7.length := k7.1
        have z4 : s7.length ≤ s8.length := k8.1
        have d9 := ((d6.keep k7 (by simp) (by simp)).keep k8 (by simp) (by simp)).keep k9 (by simp; omega) (by simp; omega)
        have lE6 := Vc.lt_of hE
        have lL5' := Vc.lt_of hL5
        have lR7 := Vc.lt_of hR
        have hL9 := k9.get (k8.get (k7.get hL6 (by simp)) (by simp)) (by simp; omega)
        have hE9' := k9.get (k8.get (k7.get hE (by simp)) (by simp)) (by simp; omega)
        have hR9 := k9.get (k8.get hR (by simp)) (by have := Vc.lt_of hR; simp; omega)
        clear k9 k8 k7 k6 k5 hL6 hE hR hL5 hd
        repeat' (first | array_mem_dec | fail)
        rename_i s10 hL10 k10
        have nd5 : d ≠ L5 := by omega
        have D : DB s10 d R E' rain bars evs := ⟨ok, k10.get hR9 (by simp; omega), k10.get hd9 (by simpa using nd5), k10.get hE9 (by simp; omega), el, eo⟩
        have hE10 := k10.get hE9' (by simp; omega)
        have d10 := d9.keep k10 (by simp; omega) (by simp; omega)
        clear k10 hd9 hE9 hR9 hE9' d9
        have DD := D
        have lh10 : h < s10.length ∧ c < s10.length := by
          obtain ⟨_, _, _, e1, e2, _⟩ := d10
          exact ⟨Vc.lt_of e1, Vc.lt_of e2⟩
        have hd10 := D.hd
        unfold DF at hd10
        repeat' (first | array_mem_dec | fail)
        refine Vc.ite_dn (by decide +kernel) ?_
        repeat' (first | array_mem_dec | fail)
        refine Vc.lc_pure isRain Ev.val (fun acc => Ab.seqAt_lst (by (first | array_get_dec | fail))) (by omega) (fun e hc acc => ?_) ?_
        · refine Vc.g_set ?_
          repeat' (first | array_mem_dec | fail)
          refine rain_test ?_
          refine ⟨rfl, rfl, fun _ => ?_⟩
          repeat' (first | array_mem_dec | fail)
          exact ⟨rfl, rfl⟩
        repeat' (first | array_mem_dec | fail)
        rename_i F s11 hF k11 lF
        have D11 := D.keep k11
        have hd11 := k11.get hd10 (by simp)
        refine Vc.via0 (line_count_spec D11) fun v s hv => ?_
        obtain ⟨rfl, rfl⟩ := hv
        repeat' (first | array_mem_dec | fail)
        refine Vc.via0 (tick_count_spec D11) fun v s12 hv => ?_
        obtain ⟨rfl, k12⟩ := hv
        have hF12 := k12.get hF (by simp)
        have hE12 := k12.get (k11.get hE10 (by simp)) (by simp)
        have D12 := D11.keep k12
        have hd12 := k12.get hd11 (by simp)
        repeat' (first | array_mem_dec | fail)
        rename_i P s13 hP k13 lP Q s14 hQ k14 lQ
        rw [List.length_map, List.length_map] at hQ
        refine Vc.via0 (alike_spec (Vc.alike_lst (n := 5) (k14.get hP (by simp)) hQ (by simp) fun x hx => by
          simp only [List.mem_cons, List.not_mem_nil, or_false] at hx
          rcases hx with rfl | rfl <;> exact Vc.alike_flat rfl)) fun v s15 hv => ?_
        obtain ⟨rfl, k15⟩ := hv
        have k125 := (k13.trans k14).trans k15
        have hF15 := k125.get hF12 (by simp)
        have hE15 := k125.get hE12 (by simp)
        have D15 := D12.keep k125
        have d15 := ((d10.keep k11 (by simp) (by simp)).keep k12 (by simp) (by simp)).keep k125 (by simp) (by simp)
        clear k125 hP hQ k13 k14 k15 hF12 hE12 D12 hd12 hF D11 hd11 k11 k12 hE10 hd10 D DD d10
        repeat' (first | array_mem_dec | fail)
        have lfl := List.length_filter_le isRain evs
        refine Vc.lc_pure isHid Ev.val (fun acc => Ab.seqAt_lst (by (first | array_get_dec | fail))) (by omega) (fun e hc acc => ?_) ?_
        · refine Vc.g_set ?_
          repeat' (first | array_mem_dec | fail)
          refine hid_test ?_
          refine ⟨rfl, rfl, fun _ => ?_⟩
          repeat' (first | array_mem_dec | fail)
          exact ⟨rfl, rfl⟩
        repeat' (first | array_mem_dec | fail)
        rename_i G s16 hG k16 lG H s17 hH k17 lH
        refine v_neL0 (g := Ev.dat) (k17.get hG (by simp)) hH (fun e _ => e.deep) ?_
        rw [any_filter, hid_rains]
        have k57 := k16.trans k17
        have D17 := D15.keep k57
        have hE17 := k57.get hE15 (by simp)
        have d17 := d15.keep k57 (by simp) (by simp)
        clear hG hH k16 k17 k57 D15 hE15 d15 hF15
        have hd17 := D17.hd
        unfold DF at hd17
        repeat' (first | array_mem_dec | fail)
        refine Vc.via0 (unknown_range_spec D17) fun v s18 hv => ?_
        obtain ⟨rfl, k18⟩ := hv
        repeat' (first | array_mem_dec | fail)
        refine Vc.via0 (range_right_spec ok (k18.get hE17 (by simp)) eo) fun v s19 hv => ?_
        obtain ⟨rfl, k19⟩ := hv
        have k79 := k18.trans k19
        have D19 := D17.keep k79
        have hE19 := k79.get hE17 (by simp)
        have d19 := d17.keep k79 (by simp) (by simp)
        clear k18 k19 k79 D17 hE17 d17 hd17
        repeat' (first | array_mem_dec | fail)
        rename_i M s20 hM k20 lM
        have lh19 : h < s19.length ∧ c < s19.length := by
          obtain ⟨_, _, _, e1, e2, _⟩ := d19
          exact ⟨Vc.lt_of e1, Vc.lt_of e2⟩
        have d20 := d19.keep k20 (by simp) (by simp)
        refine Vc.via0 (next_spec d20 (by decide) (by decide)) fun v s21 hv => ?_
        obtain ⟨⟨r, rfl, r0, r1⟩, d21, k21⟩ := hv
        obtain ⟨w, hw, hw2⟩ := pick2 (a := 9) (b := 1000000 + 1) r0 r1
        refine Vc.v_ixL (k21.get hM (by simp; omega)) hw ?_
        repeat' (first | array_mem_dec | fail)
        refine Vc.via0 (next_spec d21 (by omega) (by omega)) fun v s22 hv => ?_
        obtain ⟨⟨am, rfl, am0, am1⟩, d22, k22⟩ := hv
        have nE : E ≠ h ∧ E ≠ c := ⟨by omega, by omega⟩
        have nd : d ≠ h ∧ d ≠ c := ⟨by omega, by omega⟩
        have nR : R ≠ h ∧ R ≠ c := ⟨by omega, by omega⟩
        have nE' : E' ≠ h ∧ E' ≠ c := ⟨by omega, by omega⟩
        have k1922 : Keep [h, c] s19 s22 := k20.nil.trans (k21.trans k22)
        have hE22 := k1922.get hE19 (by simpa using nE)
        have D22 : DB s22 d R E' rain bars evs := ⟨ok, k1922.get D19.hR (by simpa using nR), k1922.get D19.hd (by simpa using nd), k1922.get D19.hE (by simpa using nE'), el, eo⟩
        clear k20 k21 k22 k1922 hM D19 hE19 d19 d20 d21
        repeat' (first | array_mem_dec | fail)
        refine Vc.via0 (law_run_spec ok hE22 eo) fun v s23 hv => ?_
        obtain ⟨L, rfl, hLv, k23, lL⟩ := hv
        have D23 := D22.keep k23
        have d23 := d22.keep k23 (by simp) (by simp)
        clear k23 D22 hE22 d22
        have hlen := runE_len bars am evs
        repeat' (first | array_mem_dec | fail)
        rw [List.length_map]
        refine Vc.ex_range1 (by omega) ?_
        have hz : (bars.zip (runE bars am evs).lv).length = (runE bars am evs).lv.length := by rw [List.length_zip]; omega
        refine Vc.lc_map (fun i : Nat => ((bars.zip (runE bars am evs).lv)[i]?.map pairV).getD .non) (fun _ => trivial) (by rw [List.length_range]; omega) (fun i hi acc => ?_) ?_
        · have hi := List.mem_range.mp hi
          rw [Int.toNat_natCast] at hi
          have hb : bars[i]? = some bars[i] := List.getElem?_eq_getElem (by omega)
          have hv : (runE bars am evs).lv[i]? = some (runE bars am evs).lv[i] := List.getElem?_eq_getElem hi
          have hp : (bars.zip (runE bars am evs).lv)[i]? = some (bars[i], (runE bars am evs).lv[i]) := by rw [List.getElem?_zip_eq_some]; exact ⟨hb, hv⟩
          rw [hp]
          generalize (runE bars am evs).lv[i] = x at *
          generalize bars[i] = b at *
          repeat' (first | array_mem_dec | fail)
          refine Vc.v_ixTn hb ?_
          rw [Bar.val_eq]
          repeat' (first | array_mem_dec | fail)
          refine Vc.v_ixLn (f := .int) (by (first | array_get_dec | fail)) hv ?_
          repeat' (first | array_mem_dec | fail)
          exact ⟨rfl, rfl⟩
        repeat' (first | array_mem_dec | fail)
        rename_i Pr s24 hPr k24 lPr
        rw [Int.toNat_natCast, ← hz, range_get] at hPr
        have D24 := D23.keep k24
        have d24 := d23.keep k24 (by simp) (by simp)
        have hd24 := D24.hd
        unfold DF at hd24
        repeat' (first | array_mem_dec | fail)
        refine Vc.via (levels_after_spec D24) (fun v s25 hv => ?_) (fun x s hx => absurd ⟨by omega, by omega⟩ hx.1)
        obtain ⟨_, DD, rfl, hDD, k25⟩ := hv
        have D25 := D24.keep k25
        have d25 := d24.keep k25 (by simp) (by simp)
        have hPr25 := k25.get hPr (by simp)
        clear k24 k25 D24 D23 d24 d23 hd24 hPr
        repeat' (first | array_mem_dec | fail)
        rename_i It s26 hIt k26 lIt
        have hIt' : s26[It]? = some (.lst ((bars.zip (runE bars am evs).lv).map pairV)) := by
          rw [hIt, List.map_map]; rfl
        refine Vc.via0 (alike_spec (Vc.alike_lst (n := 5) hIt' (k26.get hPr25 (by simp)) (by rw [List.length_map]; omega) fun x hx => ?_)) fun v s27 hv => ?_
        · obtain ⟨p, _, rfl⟩ := List.mem_map.mp hx
          exact Vc.alike_flats (by simp) rfl
        obtain ⟨rfl, k27⟩ := hv
        have k57 := k26.trans k27
        have D27 := D25.keep k57
        have d27 := d25.keep k57 (by simp) (by simp)
        clear k26 k27 k57 D25 d25 hIt hIt' hPr25 hDD
        have hd27 := D27.hd
        unfold DF at hd27
        repeat' (first | array_mem_dec | fail)
        rename_i Z s28 hZ k28 lZ
        obtain ⟨w', hw', hw2'⟩ := pick2 (r := (n : Int) % 2) (a := -1) (b := 1000000 + 1) (by omega) (by omega)
        refine Vc.v_ixL hZ hw' ?_
        have D28 := D27.keep k28
        have d28 := d27.keep k28 (by simp) (by simp)
        repeat' (first | array_mem_dec | fail)
        refine Vc.via (levels_after_spec D28) (fun v s29 hv => ?_) (fun x s29 hx => ?_)
        · exact absurd hv.1 (by omega)
        obtain ⟨_, rfl, rfl⟩ := hx
        refine ⟨[.str "number"], rfl, rfl, ?_⟩
        repeat' (first | array_mem_dec | fail)
        refine tup1 (by decide +kernel) ?_
        repeat' (first | array_mem_dec | fail)
        exact ⟨d28, _, _, _, _, _, _, _, _, _, _, _, _, _, _, _, rfl⟩
      · obtain ⟨k', rfl, e, k9⟩ := hx
        rw [hk] at e; cases e
  · rintro ρ s2 ⟨d2, b2, b3, b4, b5, b6, b7, b8, b9, b10, b11, b12, b13, b14, b15, b16, rfl⟩
    repeat' (first | array_mem_dec | fail)
    rfl
theorem plain (ns : List Int) (cell : Cell) (hc : Ab.IsScript ns cell) (hl : ns.length ≤ 63) (hb : ∀ z ∈ ns, Builtin.Int.intBits z ≤ 1048576) : ∃ st', Ab.defM 1 16 m_law [.ref 0] [cell] = .ok (.bl true) st' := by
  have hs : seqAt [cell] 0 = some (ns.map .int) := by rcases hc with e | e <;> subst e <;> rfl
  obtain ⟨a, st', e, h⟩ := Ab.wp_eq (Vc.to_ab (law_spec hs hl))
  exact ⟨st', by rw [e, h]⟩
end K47

set_option Elab.async false
set_option linter.all false
open PySem PySem.W PyProof.Rows in
set_option maxRecDepth 100000 in
set_option maxHeartbeats 0 in
theorem PySem.Challenge.cw_barrelrow_k47_whole_daybooks_holds : PySem.Challenge.rw_barrelrow_k47_whole_daybooks.Holds := by
  w_on; o_law; k_head; (case hw => w_witness2)
  k_fill
  refine LamX.walk_ofOwn (l := PySem.Challenge.rw_barrelrow_k47_whole_daybooks) (n := 63) (k := 9) (CX := fun w => L2.CX PySem.Challenge.rw_barrelrow_k47_whole_daybooks.prog w) (x := "_law_script") rfl (by decide) rfl ⟨rfl, by decide, by decide⟩ (by decide +kernel) (fun w h Y => by first | exact PySem.W.km_in_of Y | exact PySem.W.kIn_of Y) ?F (fun w H s e s' hx => by
    obtain ⟨_, _, _, _, _, _, _, _, _, _, _, _, z⟩ := hx
    exact z)
  case F =>
    intro w mg fa h Y KX G hmg own
    refine' K47.end_at KX G own hmg ?fx K47.plain ?a_law ?z1 ?z2 ?lk ?hcd ?lc ?h11 ?nP ?hh
    (case a_law => k_is); (case z1 => k_is); (case z2 => k_is); (case lk => k_is); (case hcd => k_is); (case lc => k_is); (case h11 => first | rfl | decide +kernel); (case nP => first | k_is | rfl | decide +kernel); (case hh => first | rfl | decide +kernel)
    case fx =>
      refine' K47.fx_mk KX G ?z_list ?z_range ?z_len ?z_max ?z_int ?z_tuple ?z_str ?z_isinstance ?z_ValueError ?z_Contradiction ?z_enumerate ?v_MAX_LINES ?v_RAIN ?v_UNKNOWN ?v_RAIN_DIGITS ?v_DIGITS ?v_MAX_RAIN ?v_LEVEL ?v_MAX_DIGITS ?z_zip ?z_min ?v_MAX_LETTERS ?v_LETTERS ?z_all ?v_MAX_AMOUNT ?v_MAX_ROOF ?z_dict ?z_bool ?a_law_mix ?a_law_next ?a_law_parts ?a_law_tick ?a_law_run ?a_law_text ?a_law_event ?a_law_due ?a_InvalidNumber ?a_DecodeError ?a_DaybookError ?a_InvalidText ?a_InvalidRow ?a_InvalidOperation ?a_UnknownBarrel ?a_InvalidWeather ?a_law_outcome ?a_RowError ?a_OtherRain ?a_Daybook ?a_Row ?a_is_figure ?a_next_tick ?a_is_name ?a_is_barrel ?a_law_row ?a_law_alike ?a_law_range_right ?a_validate_number ?at_Row_len ?at_Row_barrels ?at_Daybook_has_unknown ?at_Daybook_event_of ?at_Daybook_rained ?ii_Daybook ?ii_Row ?at_Row_add ?at_Daybook_tick_count ?at_Daybook_line_count ?at_Daybook_signs_with ?at_Daybook_first_with ?at_Daybook_unknown_range ?at_Daybook_levels_after ?ii_DaybookError ?ii_InvalidRow ?gt_Row_barrels ?tk_Row_barrels ?rc_Row_barrels ?gt_Daybook_tick_count ?tk_Daybook_tick_count ?rc_Daybook_tick_count ?gt_Daybook_line_count ?tk_Daybook_line_count ?rc_Daybook_line_count ?l_law_mix ?l_law_next ?l_law_parts ?l_law_tick ?l_law_run ?l_law_text ?l_law_event ?l_law_due ?l_law_outcome ?l_Row_len ?l_Row_barrels ?l_Daybook_has_unknown ?l_is_figure ?l_Daybook_event_of ?l_next_tick ?l_Daybook_rained ?l_Daybook_init ?l_is_name ?l_is_barrel ?l_Row_init ?l_Row_add ?l_law_row ?l_Daybook_tick_count ?l_Daybook_line_count ?l_law_alike ?l_Daybook_signs_with ?l_Daybook_first_with ?l_Daybook_unknown_range ?l_law_range_right ?l_validate_number ?l_Daybook_levels_after ?l_x_DaybookError ?l_x_InvalidRow ?xL_x_OtherRain ?xL_x_InvalidNumber ?xL_x_DaybookError ?xL_x_InvalidRow ?c_law_mix ?k_law_mix ?c_law_next ?k_law_next ?c_law_parts ?k_law_parts ?c_law_tick ?k_law_tick ?c_law_run ?k_law_run ?c_law_text ?k_law_text ?c_law_event ?k_law_event ?c_law_due ?k_law_due ?c_law_outcome ?k_law_outcome ?bx_RowError ?hd_RowError ?tx_RowError ?oc_get ?oc_tak ?hg_InvalidRow ?hk_InvalidRow ?bx_InvalidRow ?hd_InvalidRow ?ha_InvalidRow ?hm_InvalidRow ?no_InvalidRow_part ?no_InvalidRow_index ?no_InvalidRow_name ?no_InvalidRow_line ?no_InvalidRow_offset ?ko_InvalidRow_InvalidRow ?ko_InvalidRow_UnknownBarrel ?ko_InvalidRow_InvalidNumber ?ko_InvalidRow_InvalidWeather ?ko_InvalidRow_InvalidOperation ?ko_InvalidRow_InvalidText ?ko_InvalidRow_DaybookError ?ko_InvalidRow_DecodeError ?kv_InvalidRow ?sr_InvalidRow ?hg_UnknownBarrel ?hk_UnknownBarrel ?bx_UnknownBarrel ?hd_UnknownBarrel ?ha_UnknownBarrel ?hm_UnknownBarrel ?no_UnknownBarrel_part ?no_UnknownBarrel_index ?no_UnknownBarrel_name ?no_UnknownBarrel_line ?no_UnknownBarrel_offset ?ko_UnknownBarrel_InvalidRow ?ko_UnknownBarrel_UnknownBarrel ?ko_UnknownBarrel_InvalidNumber ?ko_UnknownBarrel_InvalidWeather ?ko_UnknownBarrel_InvalidOperation ?ko_UnknownBarrel_InvalidText ?ko_UnknownBarrel_DaybookError ?ko_UnknownBarrel_DecodeError ?kv_UnknownBarrel ?sr_UnknownBarrel ?hg_OtherRain ?hk_OtherRain ?bx_OtherRain ?hd_OtherRain ?ha_OtherRain ?hm_OtherRain ?no_OtherRain_part ?no_OtherRain_index ?no_OtherRain_name ?no_OtherRain_line ?no_OtherRain_offset ?ko_OtherRain_InvalidRow ?ko_OtherRain_UnknownBarrel ?ko_OtherRain_InvalidNumber ?ko_OtherRain_InvalidWeather ?ko_OtherRain_InvalidOperation ?ko_OtherRain_InvalidText ?ko_OtherRain_DaybookError ?ko_OtherRain_DecodeError ?kv_OtherRain ?sr_OtherRain ?hg_InvalidNumber ?hk_InvalidNumber ?bx_InvalidNumber ?hd_InvalidNumber ?ha_InvalidNumber ?hm_InvalidNumber ?no_InvalidNumber_part ?no_InvalidNumber_index ?no_InvalidNumber_name ?no_InvalidNumber_line ?no_InvalidNumber_offset ?ko_InvalidNumber_InvalidRow ?ko_InvalidNumber_UnknownBarrel ?ko_InvalidNumber_InvalidNumber ?ko_InvalidNumber_InvalidWeather ?ko_InvalidNumber_InvalidOperation ?ko_InvalidNumber_InvalidText ?ko_InvalidNumber_DaybookError ?ko_InvalidNumber_DecodeError ?kv_InvalidNumber ?sr_InvalidNumber ?hg_InvalidWeather ?hk_InvalidWeather ?bx_InvalidWeather ?hd_InvalidWeather ?ha_InvalidWeather ?hm_InvalidWeather ?no_InvalidWeather_part ?no_InvalidWeather_index ?no_InvalidWeather_name ?no_InvalidWeather_line ?no_InvalidWeather_offset ?ko_InvalidWeather_InvalidRow ?ko_InvalidWeather_UnknownBarrel ?ko_InvalidWeather_InvalidNumber ?ko_InvalidWeather_InvalidWeather ?ko_InvalidWeather_InvalidOperation ?ko_InvalidWeather_InvalidText ?ko_InvalidWeather_DaybookError ?ko_InvalidWeather_DecodeError ?kv_InvalidWeather ?sr_InvalidWeather ?hg_InvalidOperation ?hk_InvalidOperation ?bx_InvalidOperation ?hd_InvalidOperation ?ha_InvalidOperation ?hm_InvalidOperation ?no_InvalidOperation_part ?no_InvalidOperation_index ?no_InvalidOperation_name ?no_InvalidOperation_line ?no_InvalidOperation_offset ?ko_InvalidOperation_InvalidRow ?ko_InvalidOperation_UnknownBarrel ?ko_InvalidOperation_InvalidNumber ?ko_InvalidOperation_InvalidWeather ?ko_InvalidOperation_InvalidOperation ?ko_InvalidOperation_InvalidText ?ko_InvalidOperation_DaybookError ?ko_InvalidOperation_DecodeError ?kv_InvalidOperation ?sr_InvalidOperation ?hg_InvalidText ?hk_InvalidText ?bx_InvalidText ?hd_InvalidText ?ha_InvalidText ?hm_InvalidText ?no_InvalidText_part ?no_InvalidText_index ?no_InvalidText_name ?no_InvalidText_line ?no_InvalidText_offset ?ko_InvalidText_InvalidRow ?ko_InvalidText_UnknownBarrel ?ko_InvalidText_InvalidNumber ?ko_InvalidText_InvalidWeather ?ko_InvalidText_InvalidOperation ?ko_InvalidText_InvalidText ?ko_InvalidText_DaybookError ?ko_InvalidText_DecodeError ?kv_InvalidText ?sr_InvalidText ?hg_DaybookError ?hk_DaybookError ?bx_DaybookError ?hd_DaybookError ?ha_DaybookError ?hm_DaybookError ?no_DaybookError_part ?no_DaybookError_index ?no_DaybookError_name ?no_DaybookError_line ?no_DaybookError_offset ?ko_DaybookError_InvalidRow ?ko_DaybookError_UnknownBarrel ?ko_DaybookError_InvalidNumber ?ko_DaybookError_InvalidWeather ?ko_DaybookError_InvalidOperation ?ko_DaybookError_InvalidText ?ko_DaybookError_DaybookError ?ko_DaybookError_DecodeError ?kv_DaybookError ?sr_DaybookError ?hg_DecodeError ?hk_DecodeError ?bx_DecodeError ?hd_DecodeError ?ha_DecodeError ?hm_DecodeError ?no_DecodeError_part ?no_DecodeError_index ?no_DecodeError_name ?no_DecodeError_line ?no_DecodeError_offset ?ko_DecodeError_InvalidRow ?ko_DecodeError_UnknownBarrel ?ko_DecodeError_InvalidNumber ?ko_DecodeError_InvalidWeather ?ko_DecodeError_InvalidOperation ?ko_DecodeError_InvalidText ?ko_DecodeError_DaybookError ?ko_DecodeError_DecodeError ?kv_DecodeError ?sr_DecodeError ?pg_Daybook ?hd_Daybook ?po_Daybook ?sa_Daybook ?no_Daybook_plan ?no_Daybook_events ?pg_Row ?hd_Row ?po_Row ?sa_Row ?no_Row_parts ?c_Row_len ?k_Row_len ?i_Row_len ?c_Row_barrels ?k_Row_barrels ?c_Daybook_has_unknown ?k_Daybook_has_unknown ?i_Daybook_has_unknown ?c_is_figure ?k_is_figure ?c_Daybook_event_of ?k_Daybook_event_of ?i_Daybook_event_of ?c_next_tick ?k_next_tick ?c_Daybook_rained ?k_Daybook_rained ?i_Daybook_rained ?c_Daybook_init ?k_Daybook_init ?mk_Daybook ?if_Daybook ?kc_Daybook ?rd_Row ?ga_Row ?cv_MAX_TICKS ?cv_MAX_BARRELS ?c_is_name ?k_is_name ?c_is_barrel ?k_is_barrel ?no_Row_weather ?c_Row_init ?k_Row_init ?mk_Row ?if_Row ?kc_Row ?rV_x_OtherRain ?sa_OtherRain ?tx_OtherRain ?kc_OtherRain ?ib_OtherRain ?c_Row_add ?k_Row_add ?i_Row_add ?sf_Row ?c_law_row ?k_law_row ?c_Daybook_tick_count ?k_Daybook_tick_count ?c_Daybook_line_count ?k_Daybook_line_count ?c_law_alike ?k_law_alike ?c_Daybook_signs_with ?k_Daybook_signs_with ?i_Daybook_signs_with ?c_Daybook_first_with ?k_Daybook_first_with ?i_Daybook_first_with ?c_Daybook_unknown_range ?k_Daybook_unknown_range ?i_Daybook_unknown_range ?c_law_range_right ?k_law_range_right ?rV_x_InvalidNumber ?sa_InvalidNumber ?tx_InvalidNumber ?kc_InvalidNumber ?ib_InvalidNumber ?c_validate_number ?k_validate_number ?c_Daybook_levels_after ?k_Daybook_levels_after ?i_Daybook_levels_after ?c_x_DaybookError ?k_x_DaybookError ?rd_RowError ?ga_RowError ?iv_RowError ?rV_x_DaybookError ?sa_DaybookError ?tx_DaybookError ?kc_DaybookError ?ti_DaybookError ?c_x_InvalidRow ?k_x_InvalidRow ?rV_x_InvalidRow ?sa_InvalidRow ?tx_InvalidRow ?kc_InvalidRow ?ti_InvalidRow
      (case z_list => k_is)
      (case z_range => k_is)
      (case z_len => k_is)
      (case z_max => k_is)
      (case z_int => k_is)
      (case z_tuple => k_is)
      (case z_str => k_is)
      (case z_isinstance => k_is)
      (case z_ValueError => k_is)
      (case z_Contradiction => k_is)
      (case z_enumerate => k_is)
      (case v_MAX_LINES => k_is)
      (case v_RAIN => k_is)
      (case v_UNKNOWN => k_is)
      (case v_RAIN_DIGITS => k_is)
      (case v_DIGITS => k_is)
      (case v_MAX_RAIN => k_is)
      (case v_LEVEL => k_is)
      (case v_MAX_DIGITS => k_is)
      (case z_zip => k_is)
      (case z_min => k_is)
      (case v_MAX_LETTERS => k_is)
      (case v_LETTERS => k_is)
      (case z_all => k_is)
      (case v_MAX_AMOUNT => k_is)
      (case v_MAX_ROOF => k_is)
      (case z_dict => k_is)
      (case z_bool => k_is)
      (case a_law_mix => k_is)
      (case a_law_next => k_is)
      (case a_law_parts => k_is)
      (case a_law_tick => k_is)
      (case a_law_run => k_is)
      (case a_law_text => k_is)
      (case a_law_event => k_is)
      (case a_law_due => k_is)
      (case a_InvalidNumber => k_is)
      (case a_DecodeError => k_is)
      (case a_DaybookError => k_is)
      (case a_InvalidText => k_is)
      (case a_InvalidRow => k_is)
      (case a_InvalidOperation => k_is)
      (case a_UnknownBarrel => k_is)
      (case a_InvalidWeather => k_is)
      (case a_law_outcome => k_is)
      (case a_RowError => k_is)
      (case a_OtherRain => k_is)
      (case a_Daybook => k_is)
      (case a_Row => k_is)
      (case a_is_figure => k_is)
      (case a_next_tick => k_is)
      (case a_is_name => k_is)
      (case a_is_barrel => k_is)
      (case a_law_row => k_is)
      (case a_law_alike => k_is)
      (case a_law_range_right => k_is)
      (case a_validate_number => k_is)
      (case at_Row_len => k_is)
      (case at_Row_barrels => k_is)
      (case at_Daybook_has_unknown => k_is)
      (case at_Daybook_event_of => k_is)
      (case at_Daybook_rained => k_is)
      (case ii_Daybook => k_is)
      (case ii_Row => k_is)
      (case at_Row_add => k_is)
      (case at_Daybook_tick_count => k_is)
      (case at_Daybook_line_count => k_is)
      (case at_Daybook_signs_with => k_is)
      (case at_Daybook_first_with => k_is)
      (case at_Daybook_unknown_range => k_is)
      (case at_Daybook_levels_after => k_is)
      (case ii_DaybookError => k_is)
      (case ii_InvalidRow => k_is)
      (case gt_Row_barrels => k_is)
      (case tk_Row_barrels => k_is)
      (case rc_Row_barrels => k_is)
      (case gt_Daybook_tick_count => k_is)
      (case tk_Daybook_tick_count => k_is)
      (case rc_Daybook_tick_count => k_is)
      (case gt_Daybook_line_count => k_is)
      (case tk_Daybook_line_count => k_is)
      (case rc_Daybook_line_count => k_is)
      (case l_law_mix => k_is)
      (case l_law_next => k_is)
      (case l_law_parts => k_is)
      (case l_law_tick => k_is)
      (case l_law_run => k_is)
      (case l_law_text => k_is)
      (case l_law_event => k_is)
      (case l_law_due => k_is)
      (case l_law_outcome => k_is)
      (case l_Row_len => k_is)
      (case l_Row_barrels => k_is)
      (case l_Daybook_has_unknown => k_is)
      (case l_is_figure => k_is)
      (case l_Daybook_event_of => k_is)
      (case l_next_tick => k_is)
      (case l_Daybook_rained => k_is)
      (case l_Daybook_init => k_is)
      (case l_is_name => k_is)
      (case l_is_barrel => k_is)
      (case l_Row_init => k_is)
      (case l_Row_add => k_is)
      (case l_law_row => k_is)
      (case l_Daybook_tick_count => k_is)
      (case l_Daybook_line_count => k_is)
      (case l_law_alike => k_is)
      (case l_Daybook_signs_with => k_is)
      (case l_Daybook_first_with => k_is)
      (case l_Daybook_unknown_range => k_is)
      (case l_law_range_right => k_is)
      (case l_validate_number => k_is)
      (case l_Daybook_levels_after => k_is)
      (case l_x_DaybookError => k_is)
      (case l_x_InvalidRow => k_is)
      (case xL_x_OtherRain => k_is)
      (case xL_x_InvalidNumber => k_is)
      (case xL_x_DaybookError => k_is)
      (case xL_x_InvalidRow => k_is)
      (case c_law_mix => k_is)
      (case k_law_mix => k_is)
      (case c_law_next => k_is)
      (case k_law_next => k_is)
      (case c_law_parts => k_is)
      (case k_law_parts => k_is)
      (case c_law_tick => k_is)
      (case k_law_tick => k_is)
      (case c_law_run => k_is)
      (case k_law_run => k_is)
      (case c_law_text => k_is)
      (case k_law_text => k_is)
      (case c_law_event => k_is)
      (case k_law_event => k_is)
      (case c_law_due => k_is)
      (case k_law_due => k_is)
      (case c_law_outcome => k_is)
      (case k_law_outcome => k_is)
      (case bx_RowError => k_is)
      (case hd_RowError => k_is)
      (case tx_RowError => k_is)
      (case oc_get => k_is)
      (case oc_tak => k_is)
      (case hg_InvalidRow => k_is)
      (case hk_InvalidRow => k_is)
      (case bx_InvalidRow => k_is)
      (case hd_InvalidRow => k_is)
      (case ha_InvalidRow => k_is)
      (case hm_InvalidRow => k_is)
      (case no_InvalidRow_part => k_is)
      (case no_InvalidRow_index => k_is)
      (case no_InvalidRow_name => k_is)
      (case no_InvalidRow_line => k_is)
      (case no_InvalidRow_offset => k_is)
      (case ko_InvalidRow_InvalidRow => first | kit_is | k_is)
      (case ko_InvalidRow_UnknownBarrel => first | kit_is | k_is)
      (case ko_InvalidRow_InvalidNumber => first | kit_is | k_is)
      (case ko_InvalidRow_InvalidWeather => first | kit_is | k_is)
      (case ko_InvalidRow_InvalidOperation => first | kit_is | k_is)
      (case ko_InvalidRow_InvalidText => first | kit_is | k_is)
      (case ko_InvalidRow_DaybookError => first | kit_is | k_is)
      (case ko_InvalidRow_DecodeError => first | kit_is | k_is)
      (case kv_InvalidRow => first | kit_is | k_is)
      (case sr_InvalidRow => k_is)
      (case hg_UnknownBarrel => k_is)
      (case hk_UnknownBarrel => k_is)
      (case bx_UnknownBarrel => k_is)
      (case hd_UnknownBarrel => k_is)
      (case ha_UnknownBarrel => k_is)
      (case hm_UnknownBarrel => k_is)
      (case no_UnknownBarrel_part => k_is)
      (case no_UnknownBarrel_index => k_is)
      (case no_UnknownBarrel_name => k_is)
      (case no_UnknownBarrel_line => k_is)
      (case no_UnknownBarrel_offset => k_is)
      (case ko_UnknownBarrel_InvalidRow => first | kit_is | k_is)
      (case ko_UnknownBarrel_UnknownBarrel => first | kit_is | k_is)
      (case ko_UnknownBarrel_InvalidNumber => first | kit_is | k_is)
      (case ko_UnknownBarrel_InvalidWeather => first | kit_is | k_is)
      (case ko_UnknownBarrel_InvalidOperation => first | kit_is | k_is)
      (case ko_UnknownBarrel_InvalidText => first | kit_is | k_is)
      (case ko_UnknownBarrel_DaybookError => first | kit_is | k_is)
      (case ko_UnknownBarrel_DecodeError => first | kit_is | k_is)
      (case kv_UnknownBarrel => first | kit_is | k_is)
      (case sr_UnknownBarrel => k_is)
      (case hg_OtherRain => k_is)
      (case hk_OtherRain => k_is)
      (case bx_OtherRain => k_is)
      (case hd_OtherRain => k_is)
      (case ha_OtherRain => k_is)
      (case hm_OtherRain => k_is)
      (case no_OtherRain_part => k_is)
      (case no_OtherRain_index => k_is)
      (case no_OtherRain_name => k_is)
      (case no_OtherRain_line => k_is)
      (case no_OtherRain_offset => k_is)
      (case ko_OtherRain_InvalidRow => first | kit_is | k_is)
      (case ko_OtherRain_UnknownBarrel => first | kit_is | k_is)
      (case ko_OtherRain_InvalidNumber => first | kit_is | k_is)
      (case ko_OtherRain_InvalidWeather => first | kit_is | k_is)
      (case ko_OtherRain_InvalidOperation => first | kit_is | k_is)
      (case ko_OtherRain_InvalidText => first | kit_is | k_is)
      (case ko_OtherRain_DaybookError => first | kit_is | k_is)
      (case ko_OtherRain_DecodeError => first | kit_is | k_is)
      (case kv_OtherRain => first | kit_is | k_is)
      (case sr_OtherRain => k_is)
      (case hg_InvalidNumber => k_is)
      (case hk_InvalidNumber => k_is)
      (case bx_InvalidNumber => k_is)
      (case hd_InvalidNumber => k_is)
      (case ha_InvalidNumber => k_is)
      (case hm_InvalidNumber => k_is)
      (case no_InvalidNumber_part => k_is)
      (case no_InvalidNumber_index => k_is)
      (case no_InvalidNumber_name => k_is)
      (case no_InvalidNumber_line => k_is)
      (case no_InvalidNumber_offset => k_is)
      (case ko_InvalidNumber_InvalidRow => first | kit_is | k_is)
      (case ko_InvalidNumber_UnknownBarrel => first | kit_is | k_is)
      (case ko_InvalidNumber_InvalidNumber => first | kit_is | k_is)
      (case ko_InvalidNumber_InvalidWeather => first | kit_is | k_is)
      (case ko_InvalidNumber_InvalidOperation => first | kit_is | k_is)
      (case ko_InvalidNumber_InvalidText => first | kit_is | k_is)
      (case ko_InvalidNumber_DaybookError => first | kit_is | k_is)
      (case ko_InvalidNumber_DecodeError => first | kit_is | k_is)
      (case kv_InvalidNumber => first | kit_is | k_is)
      (case sr_InvalidNumber => k_is)
      (case hg_InvalidWeather => k_is)
      (case hk_InvalidWeather => k_is)
      (case bx_InvalidWeather => k_is)
      (case hd_InvalidWeather => k_is)
      (case ha_InvalidWeather => k_is)
      (case hm_InvalidWeather => k_is)
      (case no_InvalidWeather_part => k_is)
      (case no_InvalidWeather_index => k_is)
      (case no_InvalidWeather_name => k_is)
      (case no_InvalidWeather_line => k_is)
      (case no_InvalidWeather_offset => k_is)
      (case ko_InvalidWeather_InvalidRow => first | kit_is | k_is)
      (case ko_InvalidWeather_UnknownBarrel => first | kit_is | k_is)
      (case ko_InvalidWeather_InvalidNumber => first | kit_is | k_is)
      (case ko_InvalidWeather_InvalidWeather => first | kit_is | k_is)
      (case ko_InvalidWeather_InvalidOperation => first | kit_is | k_is)
      (case ko_InvalidWeather_InvalidText => first | kit_is | k_is)
      (case ko_InvalidWeather_DaybookError => first | kit_is | k_is)
      (case ko_InvalidWeather_DecodeError => first | kit_is | k_is)
      (case kv_InvalidWeather => first | kit_is | k_is)
      (case sr_InvalidWeather => k_is)
      (case hg_InvalidOperation => k_is)
      (case hk_InvalidOperation => k_is)
      (case bx_InvalidOperation => k_is)
      (case hd_InvalidOperation => k_is)
      (case ha_InvalidOperation => k_is)
      (case hm_InvalidOperation => k_is)
      (case no_InvalidOperation_part => k_is)
      (case no_InvalidOperation_index => k_is)
      (case no_InvalidOperation_name => k_is)
      (case no_InvalidOperation_line => k_is)
      (case no_InvalidOperation_offset => k_is)
      (case ko_InvalidOperation_InvalidRow => first | kit_is | k_is)
      (case ko_InvalidOperation_UnknownBarrel => first | kit_is | k_is)
      (case ko_InvalidOperation_InvalidNumber => first | kit_is | k_is)
      (case ko_InvalidOperation_InvalidWeather => first | kit_is | k_is)
      (case ko_InvalidOperation_InvalidOperation => first | kit_is | k_is)
      (case ko_InvalidOperation_InvalidText => first | kit_is | k_is)
      (case ko_InvalidOperation_DaybookError => first | kit_is | k_is)
      (case ko_InvalidOperation_DecodeError => first | kit_is | k_is)
      (case kv_InvalidOperation => first | kit_is | k_is)
      (case sr_InvalidOperation => k_is)
      (case hg_InvalidText => k_is)
      (case hk_InvalidText => k_is)
      (case bx_InvalidText => k_is)
      (case hd_InvalidText => k_is)
      (case ha_InvalidText => k_is)
      (case hm_InvalidText => k_is)
      (case no_InvalidText_part => k_is)
      (case no_InvalidText_index => k_is)
      (case no_InvalidText_name => k_is)
      (case no_InvalidText_line => k_is)
      (case no_InvalidText_offset => k_is)
      (case ko_InvalidText_InvalidRow => first | kit_is | k_is)
      (case ko_InvalidText_UnknownBarrel => first | kit_is | k_is)
      (case ko_InvalidText_InvalidNumber => first | kit_is | k_is)
      (case ko_InvalidText_InvalidWeather => first | kit_is | k_is)
      (case ko_InvalidText_InvalidOperation => first | kit_is | k_is)
      (case ko_InvalidText_InvalidText => first | kit_is | k_is)
      (case ko_InvalidText_DaybookError => first | kit_is | k_is)
      (case ko_InvalidText_DecodeError => first | kit_is | k_is)
      (case kv_InvalidText => first | kit_is | k_is)
      (case sr_InvalidText => k_is)
      (case hg_DaybookError => k_is)
      (case hk_DaybookError => k_is)
      (case bx_DaybookError => k_is)
      (case hd_DaybookError => k_is)
      (case ha_DaybookError => k_is)
      (case hm_DaybookError => k_is)
      (case no_DaybookError_part => k_is)
      (case no_DaybookError_index => k_is)
      (case no_DaybookError_name => k_is)
      (case no_DaybookError_line => k_is)
      (case no_DaybookError_offset => k_is)
      (case ko_DaybookError_InvalidRow => first | kit_is | k_is)
      (case ko_DaybookError_UnknownBarrel => first | kit_is | k_is)
      (case ko_DaybookError_InvalidNumber => first | kit_is | k_is)
      (case ko_DaybookError_InvalidWeather => first | kit_is | k_is)
      (case ko_DaybookError_InvalidOperation => first | kit_is | k_is)
      (case ko_DaybookError_InvalidText => first | kit_is | k_is)
      (case ko_DaybookError_DaybookError => first | kit_is | k_is)
      (case ko_DaybookError_DecodeError => first | kit_is | k_is)
      (case kv_DaybookError => first | kit_is | k_is)
      (case sr_DaybookError => k_is)
      (case hg_DecodeError => k_is)
      (case hk_DecodeError => k_is)
      (case bx_DecodeError => k_is)
      (case hd_DecodeError => k_is)
      (case ha_DecodeError => k_is)
      (case hm_DecodeError => k_is)
      (case no_DecodeError_part => k_is)
      (case no_DecodeError_index => k_is)
      (case no_DecodeError_name => k_is)
      (case no_DecodeError_line => k_is)
      (case no_DecodeError_offset => k_is)
      (case ko_DecodeError_InvalidRow => first | kit_is | k_is)
      (case ko_DecodeError_UnknownBarrel => first | kit_is | k_is)
      (case ko_DecodeError_InvalidNumber => first | kit_is | k_is)
      (case ko_DecodeError_InvalidWeather => first | kit_is | k_is)
      (case ko_DecodeError_InvalidOperation => first | kit_is | k_is)
      (case ko_DecodeError_InvalidText => first | kit_is | k_is)
      (case ko_DecodeError_DaybookError => first | kit_is | k_is)
      (case ko_DecodeError_DecodeError => first | kit_is | k_is)
      (case kv_DecodeError => first | kit_is | k_is)
      (case sr_DecodeError => k_is)
      (case pg_Daybook => k_is)
      (case hd_Daybook => k_is)
      (case po_Daybook => k_is)
      (case sa_Daybook => k_is)
      (case no_Daybook_plan => k_is)
      (case no_Daybook_events => k_is)
      (case pg_Row => k_is)
      (case hd_Row => k_is)
      (case po_Row => k_is)
      (case sa_Row => k_is)
      (case no_Row_parts => k_is)
      (case c_Row_len => k_is)
      (case k_Row_len => k_is)
      (case i_Row_len => k_is)
      (case c_Row_barrels => k_is)
      (case k_Row_barrels => k_is)
      (case c_Daybook_has_unknown => k_is)
      (case k_Daybook_has_unknown => k_is)
      (case i_Daybook_has_unknown => k_is)
      (case c_is_figure => k_is)
      (case k_is_figure => k_is)
      (case c_Daybook_event_of => k_is)
      (case k_Daybook_event_of => k_is)
      (case i_Daybook_event_of => k_is)
      (case c_next_tick => k_is)
      (case k_next_tick => k_is)
      (case c_Daybook_rained => k_is)
      (case k_Daybook_rained => k_is)
      (case i_Daybook_rained => k_is)
      (case c_Daybook_init => k_is)
      (case k_Daybook_init => k_is)
      (case mk_Daybook => k_is)
      (case if_Daybook => k_is)
      (case kc_Daybook => k_is)
      (case rd_Row => k_is)
      (case ga_Row => k_is)
      (case cv_MAX_TICKS => k_is)
      (case cv_MAX_BARRELS => k_is)
      (case c_is_name => k_is)
      (case k_is_name => k_is)
      (case c_is_barrel => k_is)
      (case k_is_barrel => k_is)
      (case no_Row_weather => k_is)
      (case c_Row_init => k_is)
      (case k_Row_init => k_is)
      (case mk_Row => k_is)
      (case if_Row => k_is)
      (case kc_Row => k_is)
      (case rV_x_OtherRain => decide +kernel)
      (case sa_OtherRain => k_is)
      (case tx_OtherRain => k_is)
      (case kc_OtherRain => k_is)
      (case ib_OtherRain => k_is)
      (case c_Row_add => k_is)
      (case k_Row_add => k_is)
      (case i_Row_add => k_is)
      (case sf_Row => k_is)
      (case c_law_row => k_is)
      (case k_law_row => k_is)
      (case c_Daybook_tick_count => k_is)
      (case k_Daybook_tick_count => k_is)
      (case c_Daybook_line_count => k_is)
      (case k_Daybook_line_count => k_is)
      (case c_law_alike => k_is)
      (case k_law_alike => k_is)
      (case c_Daybook_signs_with => k_is)
      (case k_Daybook_signs_with => k_is)
      (case i_Daybook_signs_with => k_is)
      (case c_Daybook_first_with => k_is)
      (case k_Daybook_first_with => k_is)
      (case i_Daybook_first_with => k_is)
      (case c_Daybook_unknown_range => k_is)
      (case k_Daybook_unknown_range => k_is)
      (case i_Daybook_unknown_range => k_is)
      (case c_law_range_right => k_is)
      (case k_law_range_right => k_is)
      (case rV_x_InvalidNumber => decide +kernel)
      (case sa_InvalidNumber => k_is)
      (case tx_InvalidNumber => k_is)
      (case kc_InvalidNumber => k_is)
      (case ib_InvalidNumber => k_is)
      (case c_validate_number => k_is)
      (case k_validate_number => k_is)
      (case c_Daybook_levels_after => k_is)
      (case k_Daybook_levels_after => k_is)
      (case i_Daybook_levels_after => k_is)
      (case c_x_DaybookError => k_is)
      (case k_x_DaybookError => k_is)
      (case rd_RowError => k_is)
      (case ga_RowError => k_is)
      (case iv_RowError => k_is)
      (case rV_x_DaybookError => decide +kernel)
      (case sa_DaybookError => k_is)
      (case tx_DaybookError => k_is)
      (case kc_DaybookError => k_is)
      (case ti_DaybookError => k_is)
      (case c_x_InvalidRow => k_is)
      (case k_x_InvalidRow => k_is)
      (case rV_x_InvalidRow => decide +kernel)
      (case sa_InvalidRow => k_is)
      (case tx_InvalidRow => k_is)
      (case kc_InvalidRow => k_is)
      (case ti_InvalidRow => k_is)
