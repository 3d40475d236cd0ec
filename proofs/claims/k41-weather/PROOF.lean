import PyProof.Rows.All
import Wide.All
import OpenK.AllK
import Wide.FinOn
import PyProof.EqAt
import PyProof.EqKinds
import PyProof.TupleCall
import HandS.ForMost
import HandS.ForExc
import HandS.TupAny
import HandS.Lambda
import HandS.Wide
import HandS.Property
import HandS.Zip
import KE.GoesEnum
import KE.GoesZip
import KE.KFromBytes
import HandS.Base
import HandS.Call
import HandS.List
import HandS.Ends
import HandS.Exc
import HandS.ExcInit
import HandS.Defaults
import HandS.WordsExc
import HandS.IsInst
import HandS.ExcField
import HandS.ExcIs
import KE.KExcIs
import HandS.SetFor
import HandS.Star
import HandS.ClsMeth
import OpenK.KOps
import OpenK.KMeth
import HandS.Dict
import HandS.DictComp
import HandS.ListItems
import HandS.TupMul
import KE.KCallOwn
import KE.KTupSum
import KE.KOpsOwn
import KE.KUnpackStar
import HandS.Strs
import KE.KEqDict
import HandS.EndOwn
import HandS.NestedK
import KE.KSuper
import HandS.Nested
import PyProof.AttrMiss
import HandS.New0
import KE.RegKSuper
import PySem.Challenge.RW_barrelrow_k41_whole_weather
set_option Elab.async false
set_option linter.all false
set_option maxRecDepth 100000
/-! Ab: a second abstract layer over the hand layer. Tuples are values, lists and instances are cells of a store; each def becomes a plain Lean function (its mirror) and its promise says: hands back what the mirror computes. -/
namespace Ab
open PySem PySem.Spec L2

/-- the names of classes and attributes, by number -/
def nmT : List Str := (["RowError", "InvalidRow", "UnknownBarrel", "OtherRain", "InvalidNumber", "Contradiction", "InvalidWeather", "InvalidOperation"] : List Str) ++ (["InvalidText", "DaybookError", "DecodeError", "Stretch", "Flow", "Row", "RainObserver", "Weather"] : List Str) ++ (["SumWeather", "SteadyWeather", "SpellWeather", "StormWeather", "LiveRow", "Trial", "Daybook", "CodeReader"] : List Str) ++ (["part", "index", "name", "line", "offset", "weather", "parts", "begin"] : List Str) ++ (["count", "first_level", "step", "inflow", "capacity", "draws", "stretches", "settled"] : List Str) ++ (["row", "low", "high", "accepted", "amount", "wet", "dry", "first"] : List Str) ++ (["every", "one", "other", "plan", "water", "passed", "gone", "shut"] : List Str) ++ (["past", "future", "events", "code"] : List Str)
def nm (i : Nat) : Str := nmT.getD i ""
def nmN : Nat := nmT.length
theorem nmT_nodup : nmT.Nodup := by decide +kernel
theorem nmN_eq : nmN = 60 := by decide +kernel
theorem nm_inj {i j : Nat} (hi : i < nmN) (hj : j < nmN) (h : nm i = nm j) : i = j := by
  unfold nm at h
  rw [List.getD_eq_getElem?_getD, List.getD_eq_getElem?_getD, List.getElem?_eq_getElem hi, List.getElem?_eq_getElem hj] at h
  exact (List.getElem_inj nmT_nodup).mp h

inductive Val where
  | non | bl (b : Bool) | int (i : Int) | str (s : Str) | tup (xs : List Val) | ref (n : Nat) | gl (x : Nat) | adr (a : Addr)

/-- an exception of a class of the program: the class's global name, its own fields -/
structure Exc where
  cls : Nat
  fs : List (Nat × Val)

inductive Cell where
  | lst (xs : List Val)
  | frz (xs : List Val)
  | ins (C : Nat) (fs : List (Nat × Val))
  | dct (kvs : List (Key × Val))
  | fdc (kvs : List (Key × Val))
  | xfs (d : Addr) (fs : List (Nat × Val))

abbrev Store := List Cell
abbrev Slots := List (Option Val)

inductive R (α : Type) where
  | ok (a : α) (st : Store)
  | exc (x : Exc) (st : Store)
  | bad
inductive O where
  | nx (ρ : Slots) (st : Store)
  | ret (v : Val) (st : Store)
  | brk (ρ : Slots) (st : Store)
  | ct (ρ : Slots) (st : Store)
  | exc (x : Exc) (ρ : Slots) (st : Store)
  | bad

@[reducible] def R.bind {α β : Type} (r : R α) (f : α → Store → R β) : R β := match r with
  | .ok a st => f a st
  | .exc x st => .exc x st
  | .bad => .bad

abbrev ME := Slots → Store → R Val
abbrev MT := Slots → Store → R Bool
abbrev MA := Slots → Store → R (List Val)
abbrev MS := Slots → Store → O
abbrev MF := List Val → Store → R Val

/-! ### how values and cells lie in the abstract heap -/
section
variable (mg : Str → Option Value) (ι : List Addr) (H : Hp)
mutual
def Rep : Val → V → Prop
  | .non, v => v = .non
  | .bl b, v => v = .bl b
  | .int i, v => v = .int i
  | .str s, v => v = .str s
  | .tup xs, v => ∃ a vs, v = .ref a ∧ H a = some (.tup vs) ∧ Reps xs vs
  | .ref n, v => ∃ a, v = .ref a ∧ ι[n]? = some a
  | .gl x, v => ∃ a, v = .ref a ∧ mg (nm x) = some (.ref a)
  | .adr a, v => v = .ref a
def Reps : List Val → List V → Prop
  | [], vs => vs = []
  | x :: xs, vs => ∃ v r, vs = v :: r ∧ Rep x v ∧ Reps xs r
end
end

/-- fields, by name -/
def RepF (mg : Str → Option Value) (ι : List Addr) (H : Hp) : List (Nat × Val) → List (Str × V) → Prop := Paired fun p q => p.1 < nmN ∧ nm p.1 = q.1 ∧ Rep mg ι H p.2 q.2
def RepK (mg : Str → Option Value) (ι : List Addr) (H : Hp) : List (Key × Val) → List (Key × V) → Prop := Paired fun p q => p.1 = q.1 ∧ Rep mg ι H p.2 q.2

/-- a list of the written part -/
def KL (K : PySem.W.Frag) (a : Addr) (xs : List V) : Prop :=
  ∃ (o : Obj) (its : Array Value) (n : Nat), K.lookup a = some o ∧ o.cls = .type "list" ∧ o.dict = none ∧ o.data = .seq its n ∧ its.size ≤ sizeLine ∧ Vals xs its.toList
def CellOk (K : PySem.W.Frag) (mg : Str → Option Value) (ι : List Addr) (H : Hp) (a : Addr) : Cell → Prop
  | .lst xs => ∃ vs, H a = some (.lst vs) ∧ Reps mg ι H xs vs
  | .frz xs => ∃ vs, ((∃ o, H a = some (.frz o (.lst vs))) ∨ KL K a vs) ∧ Reps mg ι H xs vs
  | .ins C fs => ∃ Ca dx vs, mg (nm C) = some (.ref Ca) ∧ H a = some (.ins Ca dx vs) ∧ RepF mg ι H fs vs
  | .dct kvs => ∃ vs, H a = some (.dK vs) ∧ RepK mg ι H kvs vs
  | .fdc kvs => ∃ od vs, H a = some (.frz od (.dK vs)) ∧ RepK mg ι H kvs vs
  | .xfs d fs => a = d ∧ ∃ vs, H a = some (.xd vs) ∧ RepF mg ι H fs vs

def Cell.live : Cell → Bool
  | .frz _ => false
  | .xfs _ _ => false
  | _ => true

/-- the defs that make lambdas; the table of code objects of each -/
def lamNames : List Str := ["law", "_law_refused", "_law_changed"]
def tabOf (K : PySem.W.Frag) (mg : Str → Option Value) (x : Str) : Option (Addr × Str) := match mg x with
  | some (.ref f) => match K.lookup f with
    | some ⟨_, _, .func fd, _⟩ => match fd.code with
      | .ref c => match K.lookup c with
        | some ⟨_, _, .fields vs, _⟩ => match (vs[11]? : Option Value) with
          | some (Value.ref P) => some (P, x ++ ".<locals>." ++ "<lambda>")
          | _ => none
        | _ => none
      | _ => none
    | _ => none
  | _ => none
def tabsOf (K : PySem.W.Frag) (mg : Str → Option Value) : List (Addr × Str) := lamNames.filterMap (tabOf K mg)
structure Sim (K : PySem.W.Frag) (mg : Str → Option Value) (ι : List Addr) (st : Store) (H : Hp) : Prop where
  len : ι.length = st.length
  inj : ∀ (n m : Nat) (a : Addr) (c d : Cell), ι[n]? = some a → ι[m]? = some a → st[n]? = some c → st[m]? = some d → c.live = true → d.live = true → n = m
  cell : ∀ (n : Nat) (c : Cell) (a : Addr), st[n]? = some c → ι[n]? = some a → CellOk K mg ι H a c
  tabs : LamX.Tabs (tabsOf K mg) H

def SlotsOk (mg : Str → Option Value) (ι : List Addr) (H : Hp) (ρ : Slots) (σ : St) : Prop :=
  ρ.length = σ.length ∧ ∀ (i : Nat) (w : Val), ρ[i]? = some (some w) → ∃ v, σ[i]? = some (some v) ∧ Rep mg ι H w v

structure Later (ι : List Addr) (H : Hp) (ι' : List Addr) (H' : Hp) : Prop where
  pre : ∃ more, ι' = ι ++ more
  tups : ∀ b xs, H b = some (.tup xs) → H' b = some (.tup xs)
  frzs : ∀ b o ks, H b = some (.frz o (.dK ks)) → H' b = some (.frz o (.dK ks))

theorem Later.refl (ι : List Addr) (H : Hp) : Later ι H ι H := ⟨⟨[], by simp⟩, fun _ _ h => h, fun _ _ _ h => h⟩
theorem Later.trans {ι ι1 ι2 : List Addr} {H H1 H2 : Hp} (a : Later ι H ι1 H1) (b : Later ι1 H1 ι2 H2) : Later ι H ι2 H2 := by
  obtain ⟨m1, e1⟩ := a.pre
  obtain ⟨m2, e2⟩ := b.pre
  exact ⟨⟨m1 ++ m2, by rw [e2, e1, List.append_assoc]⟩, fun c xs h => b.tups c xs (a.tups c xs h), fun c o k h => b.frzs c o k (a.frzs c o k h)⟩
theorem Later.get {ι ι' : List Addr} {H H' : Hp} (l : Later ι H ι' H') {n : Nat} {a : Addr} (h : ι[n]? = some a) : ι'[n]? = some a := by
  obtain ⟨m, e⟩ := l.pre
  rw [e, List.getElem?_append_left (List.getElem?_eq_some_iff.mp h).1]
  exact h

section
variable {mg : Str → Option Value} {ι ι' : List Addr} {H H' : Hp}
mutual
theorem Rep.later (l : Later ι H ι' H') : ∀ {w : Val} {v : V}, Rep mg ι H w v → Rep mg ι' H' w v
  | .non, _, h => by simpa [Rep] using h
  | .bl _, _, h => by simpa [Rep] using h
  | .int _, _, h => by simpa [Rep] using h
  | .str _, _, h => by simpa [Rep] using h
  | .tup xs, v, h => by
    rw [Rep] at h ⊢
    obtain ⟨a, vs, e, ha, hr⟩ := h
    exact ⟨a, vs, e, l.tups _ _ ha, Reps.later l hr⟩
  | .ref n, v, h => by
    rw [Rep] at h ⊢
    obtain ⟨a, e, ha⟩ := h
    exact ⟨a, e, l.get ha⟩
  | .gl x, v, h => by simpa [Rep] using h
  | .adr _, _, h => by simpa [Rep] using h
theorem Reps.later (l : Later ι H ι' H') : ∀ {ws : List Val} {vs : List V}, Reps mg ι H ws vs → Reps mg ι' H' ws vs
  | [], _, h => by simpa [Reps] using h
  | w :: ws, vs, h => by
    rw [Reps] at h ⊢
    obtain ⟨v, r, e, h1, h2⟩ := h
    exact ⟨v, r, e, Rep.later l h1, Reps.later l h2⟩
end
theorem RepF.later (l : Later ι H ι' H') : ∀ {ws : List (Nat × Val)} {vs : List (Str × V)}, RepF mg ι H ws vs → RepF mg ι' H' ws vs
  | _, _, .nil => .nil
  | _, _, .cons h t => .cons ⟨h.1, h.2.1, h.2.2.later l⟩ (RepF.later l t)
theorem RepK.later (l : Later ι H ι' H') : ∀ {ws : List (Key × Val)} {vs : List (Key × V)}, RepK mg ι H ws vs → RepK mg ι' H' ws vs
  | _, _, .nil => .nil
  | _, _, .cons h t => .cons ⟨h.1, h.2.later l⟩ (RepK.later l t)
theorem SlotsOk.later (l : Later ι H ι' H') {ρ : Slots} {σ : St} (h : SlotsOk mg ι H ρ σ) : SlotsOk mg ι' H' ρ σ :=
  ⟨h.1, fun i w e => let ⟨v, e2, r⟩ := h.2 i w e; ⟨v, e2, r.later l⟩⟩
theorem SlotsOk.set {ρ : Slots} {σ : St} (h : SlotsOk mg ι H ρ σ) (i : Nat) {w : Val} {v : V} (r : Rep mg ι H w v) : SlotsOk mg ι H (ρ.set i (some w)) (σ.set i (some v)) := by
  refine ⟨by simp [h.1], fun j u e => ?_⟩
  by_cases hj : i = j
  · subst hj
    rw [List.getElem?_set] at e
    by_cases hl : i < ρ.length
    · simp [hl] at e
      subst e
      exact ⟨v, by rw [List.getElem?_set]; simp [← h.1, hl], r⟩
    · simp [hl] at e
  · rw [List.getElem?_set_ne hj] at e
    obtain ⟨v', e2, r'⟩ := h.2 j u e
    exact ⟨v', by rw [List.getElem?_set_ne hj]; exact e2, r'⟩
/-- forgetting a slot on the left -/
theorem SlotsOk.forget {ρ ρ' : Slots} {σ : St} (h : SlotsOk mg ι H ρ σ) (hl : ρ'.length = ρ.length) (hw : ∀ (i : Nat) (w : Val), ρ'[i]? = some (some w) → ρ[i]? = some (some w)) : SlotsOk mg ι H ρ' σ :=
  ⟨hl.trans h.1, fun i w e => h.2 i w (hw i w e)⟩

theorem Reps.length : ∀ {ws : List Val} {vs : List V}, Reps mg ι H ws vs → ws.length = vs.length
  | [], _, h => by rw [Reps] at h; subst h; rfl
  | w :: ws, vs, h => by
    rw [Reps] at h
    obtain ⟨v, r, e, _, h2⟩ := h
    subst e
    simp [Reps.length h2]
theorem Reps.nil : Reps mg ι H [] [] := by rw [Reps]
theorem Reps.cons {w : Val} {ws : List Val} {v : V} {vs : List V} (h : Rep mg ι H w v) (t : Reps mg ι H ws vs) : Reps mg ι H (w :: ws) (v :: vs) := by
  rw [Reps]; exact ⟨v, vs, rfl, h, t⟩
theorem Reps.of_cons {w : Val} {ws : List Val} {vs : List V} (h : Reps mg ι H (w :: ws) vs) : ∃ v r, vs = v :: r ∧ Rep mg ι H w v ∧ Reps mg ι H ws r := by
  rw [Reps] at h; exact h
theorem Reps.of_nil {vs : List V} (h : Reps mg ι H [] vs) : vs = [] := by rw [Reps] at h; exact h
theorem Reps.append : ∀ {ws ws' : List Val} {vs vs' : List V}, Reps mg ι H ws vs → Reps mg ι H ws' vs' → Reps mg ι H (ws ++ ws') (vs ++ vs')
  | [], _, _, _, h, h' => by rw [h.of_nil]; exact h'
  | w :: ws, _, _, _, h, h' => by
    obtain ⟨v, r, e, h1, h2⟩ := h.of_cons
    subst e
    exact .cons h1 (Reps.append h2 h')
theorem Reps.get : ∀ {ws : List Val} {vs : List V} {i : Nat} {w : Val}, Reps mg ι H ws vs → ws[i]? = some w → ∃ v, vs[i]? = some v ∧ Rep mg ι H w v
  | [], _, _, _, _, e => by simp at e
  | w :: ws, _, 0, _, h, e => by
    obtain ⟨v, r, e1, h1, h2⟩ := h.of_cons
    subst e1
    simp at e; subst e
    exact ⟨v, rfl, h1⟩
  | w :: ws, _, i + 1, u, h, e => by
    obtain ⟨v, r, e1, h1, h2⟩ := h.of_cons
    subst e1
    obtain ⟨v', e2, r2⟩ := Reps.get (i := i) h2 (by simpa using e)
    exact ⟨v', by simpa using e2, r2⟩
theorem Reps.get' {ws : List Val} {vs : List V} {i : Nat} {v : V} (h : Reps mg ι H ws vs) (e : vs[i]? = some v) : ∃ w, ws[i]? = some w ∧ Rep mg ι H w v := by
  have hl : i < ws.length := by rw [h.length]; exact (List.getElem?_eq_some_iff.mp e).1
  obtain ⟨v', e2, r⟩ := h.get (List.getElem?_eq_getElem hl)
  rw [e] at e2; cases e2
  exact ⟨_, List.getElem?_eq_getElem hl, r⟩
theorem Reps.set {w : Val} {v : V} (r : Rep mg ι H w v) : ∀ {ws : List Val} {vs : List V} (i : Nat), Reps mg ι H ws vs → Reps mg ι H (ws.set i w) (vs.set i v)
  | [], _, _, h => by rw [h.of_nil]; exact .nil
  | _ :: _, _, 0, h => by
    obtain ⟨_, _, e, _, h2⟩ := h.of_cons
    subst e
    exact .cons r h2
  | _ :: _, _, i + 1, h => by
    obtain ⟨_, _, e, h1, h2⟩ := h.of_cons
    subst e
    exact .cons h1 (Reps.set r i h2)
theorem Reps.drop : ∀ {ws : List Val} {vs : List V} (n : Nat), Reps mg ι H ws vs → Reps mg ι H (ws.drop n) (vs.drop n)
  | _, _, 0, h => by simpa using h
  | [], _, n + 1, h => by rw [h.of_nil]; exact .nil
  | _ :: _, _, n + 1, h => by
    obtain ⟨_, _, e, _, h2⟩ := h.of_cons
    subst e
    simpa using Reps.drop n h2
theorem Reps.take : ∀ {ws : List Val} {vs : List V} (n : Nat), Reps mg ι H ws vs → Reps mg ι H (ws.take n) (vs.take n)
  | _, _, 0, h => by simpa using Reps.nil
  | [], _, n + 1, h => by rw [h.of_nil]; exact .nil
  | _ :: _, _, n + 1, h => by
    obtain ⟨_, _, e, h1, h2⟩ := h.of_cons
    subst e
    simpa using Reps.cons h1 (Reps.take n h2)
theorem RepF.lookup {f : Nat} {w : Val} (hf : f < nmN) : ∀ {ws : List (Nat × Val)} {vs : List (Str × V)}, RepF mg ι H ws vs → ws.lookup f = some w → ∃ v, vs.lookup (nm f) = some v ∧ Rep mg ι H w v
  | _, _, .nil, e => by simp at e
  | (n, u) :: ws, _, .cons (b := (n', v)) h t, e => by
    obtain ⟨h0, h1, h2⟩ := h
    simp only at h0 h1 h2
    subst h1
    rw [List.lookup_cons] at e ⊢
    by_cases q : f = n
    · subst q
      simp only [beq_self_eq_true] at e ⊢
      cases e
      exact ⟨v, rfl, h2⟩
    · have q1 : (f == n) = false := beq_eq_false_iff_ne.mpr q
      have q2 : (nm f == nm n) = false := beq_eq_false_iff_ne.mpr fun z => q (nm_inj hf h0 z)
      rw [q1] at e
      rw [q2]
      exact RepF.lookup hf t e
theorem RepF.lookup_none {f : Nat} (hf : f < nmN) : ∀ {ws : List (Nat × Val)} {vs : List (Str × V)}, RepF mg ι H ws vs → ws.lookup f = none → vs.lookup (nm f) = none
  | _, _, .nil, e => by simp
  | (n, u) :: ws, _, .cons (b := (n', v)) h t, e => by
    obtain ⟨h0, h1, h2⟩ := h
    simp only at h0 h1 h2
    subst h1
    rw [List.lookup_cons] at e ⊢
    by_cases q : f = n
    · subst q
      simp only [beq_self_eq_true] at e
      cases e
    · have q1 : (f == n) = false := beq_eq_false_iff_ne.mpr q
      have q2 : (nm f == nm n) = false := beq_eq_false_iff_ne.mpr fun z => q (nm_inj hf h0 z)
      rw [q1] at e
      rw [q2]
      exact RepF.lookup_none hf t e
/-- a name that no attribute of ours has -/
theorem RepF.lookup_other {m : Str} (hm : m ∉ nmT) : ∀ {ws : List (Nat × Val)} {vs : List (Str × V)}, RepF mg ι H ws vs → vs.lookup m = none
  | _, _, .nil => by simp
  | (n, u) :: ws, _, .cons (b := (n', v)) h t => by
    obtain ⟨h0, h1, h2⟩ := h
    simp only at h0 h1 h2
    subst h1
    rw [List.lookup_cons]
    have q2 : (m == nm n) = false := beq_eq_false_iff_ne.mpr fun z => hm (by
      rw [z]
      unfold nm
      rw [List.getD_eq_getElem?_getD, List.getElem?_eq_getElem h0]
      exact List.getElem_mem _)
    rw [q2]
    exact RepF.lookup_other hm t
def putM (f : Nat) (w : Val) : List (Nat × Val) → List (Nat × Val)
  | [] => [(f, w)]
  | (g, u) :: r => if g = f then (f, w) :: r else (g, u) :: putM f w r
theorem RepF.put {f : Nat} {w : Val} {v : V} (hf : f < nmN) (r : Rep mg ι H w v) : ∀ {ws : List (Nat × Val)} {vs : List (Str × V)}, RepF mg ι H ws vs → RepF mg ι H (putM f w ws) (putF (nm f) v vs)
  | _, _, .nil => .cons ⟨hf, rfl, r⟩ .nil
  | (n, u) :: ws, _, .cons (b := (n', v')) h t => by
    obtain ⟨h0, h1, h2⟩ := h
    simp only at h0 h1 h2
    subst h1
    unfold putM putF
    by_cases q : n = f
    · subst q
      rw [if_pos rfl, if_pos rfl]
      exact .cons ⟨hf, rfl, r⟩ t
    · rw [if_neg q, if_neg fun z => q (nm_inj h0 hf z)]
      exact .cons ⟨h0, rfl, h2⟩ (RepF.put hf r t)
theorem RepF.length : ∀ {ws : List (Nat × Val)} {vs : List (Str × V)}, RepF mg ι H ws vs → ws.length = vs.length
  | _, _, .nil => rfl
  | _, _, .cons _ t => by simp [RepF.length t]
end

/-! ### changes of the heap -/
section
variable {K : PySem.W.Frag} {mg : Str → Option Value} {ι : List Addr} {st : Store} {H : Hp}
theorem CellOk.keep {ι' : List Addr} {H' : Hp} {a : Addr} {c : Cell} (x : CellOk K mg ι H a c) (l : Later ι H ι' H') (h : ∀ o, H a = some o → H' a = some o) : CellOk K mg ι' H' a c := by
  cases c with
  | lst xs => obtain ⟨vs, e, r⟩ := x; exact ⟨vs, h _ e, r.later l⟩
  | frz xs =>
    obtain ⟨vs, e, r⟩ := x
    refine ⟨vs, ?_, r.later l⟩
    rcases e with ⟨o, e⟩ | e
    · exact .inl ⟨o, h _ e⟩
    · exact .inr e
  | ins C fs => obtain ⟨Ca, dx, vs, e1, e2, r⟩ := x; exact ⟨Ca, dx, vs, e1, h _ e2, r.later l⟩
  | dct kvs => obtain ⟨vs, e, r⟩ := x; exact ⟨vs, h _ e, r.later l⟩
  | fdc kvs => obtain ⟨od, vs, e, r⟩ := x; exact ⟨od, vs, h _ e, r.later l⟩
  | xfs d fs => obtain ⟨ed, vs, e, r⟩ := x; exact ⟨ed, vs, h _ e, r.later l⟩
theorem CellOk.later {ι' : List Addr} {a : Addr} {c : Cell} (x : CellOk K mg ι H a c) (l : Later ι H ι' H) : CellOk K mg ι' H a c := x.keep l fun _ e => e
/-- all that was tracked is kept -/
theorem Same.laterH {H' : Hp} (s : Same H H') : Later ι H ι H' := ⟨⟨[], by simp⟩, fun b xs e => s b _ e, fun b o ks e => s b _ e⟩
theorem Sim.same {H' : Hp} (S : Sim K mg ι st H) (s : Same H H') : Sim K mg ι st H' :=
  ⟨S.len, S.inj, fun n d a h1 h2 => (S.cell n d a h1 h2).keep (Same.laterH s) fun o => s a o, S.tabs.ext s⟩
theorem same_new {p : Addr} {o : HO} (hp : H p = none) : Same H (upd H p o) := fun b u e => by rw [upd_ne (ne_of_none e hp)]; exact e
theorem Rep.newTup {p : Addr} {xs : List Val} {vs : List V} (hp : H p = none) (r : Reps mg ι H xs vs) : Rep mg ι (upd H p (.tup vs)) (.tup xs) (.ref p) := by
  rw [Rep]
  exact ⟨p, vs, rfl, upd_same, r.later (Same.laterH (same_new hp))⟩
theorem live_tracked (S : Sim K mg ι st H) {n : Nat} {c : Cell} {a : Addr} (h1 : st[n]? = some c) (h2 : ι[n]? = some a) (hl : c.live = true) : ∃ o, H a = some o := by
  have z := S.cell n c a h1 h2
  cases c with
  | lst xs => obtain ⟨vs, e, _⟩ := z; exact ⟨_, e⟩
  | frz xs => cases hl
  | ins C fs => obtain ⟨_, _, _, _, e, _⟩ := z; exact ⟨_, e⟩
  | dct kvs => obtain ⟨vs, e, _⟩ := z; exact ⟨_, e⟩
  | fdc kvs => obtain ⟨od, vs, e, _⟩ := z; exact ⟨_, e⟩
  | xfs d fs => cases hl
/-- a new cell -/
theorem Sim.push {p : Addr} {c : Cell} (S : Sim K mg ι st H) (hp : H p = none) {H' : Hp} (hs : Same H H')
    (hc : CellOk K mg (ι ++ [p]) H' p c) : Sim K mg (ι ++ [p]) (st ++ [c]) H' ∧ Later ι H (ι ++ [p]) H' := by
  have L : Later ι H (ι ++ [p]) H' := ⟨⟨[p], rfl⟩, fun b xs e => hs b _ e, fun b o ks e => hs b _ e⟩
  have old : ∀ n a, (ι ++ [p])[n]? = some a → n < st.length → ι[n]? = some a := fun n a e hl => by
    rw [List.getElem?_append_left (by rw [S.len]; exact hl)] at e; exact e
  have last : ∀ n a, (ι ++ [p])[n]? = some a → n = st.length → a = p := fun n a e hl => by
    rw [hl, ← S.len, List.getElem?_append_right (Nat.le_refl _)] at e
    simpa using e.symm
  have split : ∀ n d, (st ++ [c])[n]? = some d → (st[n]? = some d ∧ n < st.length) ∨ (n = st.length ∧ d = c) := fun n d e => by
    by_cases hl : n < st.length
    · rw [List.getElem?_append_left hl] at e; exact .inl ⟨e, hl⟩
    · rw [List.getElem?_append_right (by omega)] at e
      have : n - st.length = 0 := by
        by_cases q : n - st.length = 0
        · exact q
        · rw [List.getElem?_eq_none (by simp; omega)] at e; cases e
      rw [this] at e
      simp at e
      exact .inr ⟨by omega, e.symm⟩
  refine ⟨⟨by simp [S.len], fun n m a d e h1 h2 h3 h4 l1 l2 => ?_, fun n d a h1 h2 => ?_, S.tabs.ext hs⟩, L⟩
  · rcases split n d h3 with ⟨q1, z1⟩ | ⟨q1, z1⟩ <;> rcases split m e h4 with ⟨q2, z2⟩ | ⟨q2, z2⟩
    · exact S.inj n m a d e (old n a h1 z1) (old m a h2 z2) q1 q2 l1 l2
    · exfalso
      obtain ⟨u, hu⟩ := live_tracked S q1 (old n a h1 z1) l1
      rw [last m a h2 q2, hp] at hu; cases hu
    · exfalso
      obtain ⟨u, hu⟩ := live_tracked S q2 (old m a h2 z2) l2
      rw [last n a h1 q1, hp] at hu; cases hu
    · omega
  · rcases split n d h1 with ⟨q1, z1⟩ | ⟨q1, z1⟩
    · exact (S.cell n d a q1 (old n a h2 z1)).keep L fun o e => hs a o e
    · rw [last n a h2 q1, z1]
      exact hc
/-- a cell is written -/
theorem Sim.write {n : Nat} {c c' : Cell} {a : Addr} {o o' : HO} (S : Sim K mg ι st H) (h1 : st[n]? = some c) (h2 : ι[n]? = some a) (hl : c.live = true) (hl' : c'.live = true) (ho : H a = some o) (hnt : ∀ xs, o ≠ .tup xs)
    (hnf : ∀ ob xs, o ≠ .frz ob (.lst xs)) (hc : CellOk K mg ι (upd H a o') a c') (hnd : ∀ ob ks, o ≠ .frz ob (.dK ks) := by intro _ _ e; cases e) : Sim K mg ι (st.set n c') (upd H a o') ∧ Later ι H ι (upd H a o') := by
  have L : Later ι H ι (upd H a o') := ⟨⟨[], by simp⟩, fun b xs e => by
    rw [upd_ne fun q => by subst q; rw [ho] at e; cases e; exact hnt _ rfl]
    exact e, fun b ob ks e => by
    rw [upd_ne fun q => by subst q; rw [ho] at e; cases e; exact hnd _ _ rfl]
    exact e⟩
  have hlen : n < st.length := (List.getElem?_eq_some_iff.mp h1).1
  have at_ : ∀ m d, (st.set n c')[m]? = some d → (m = n ∧ d = c') ∨ (m ≠ n ∧ st[m]? = some d) := fun m d e => by
    by_cases q : m = n
    · subst q
      rw [List.getElem?_set_self hlen] at e
      exact .inl ⟨rfl, (Option.some.inj e).symm⟩
    · rw [List.getElem?_set_ne (Ne.symm q)] at e
      exact .inr ⟨q, e⟩
  refine ⟨⟨by simp [S.len], fun i j b d e q1 q2 q3 q4 l1 l2 => ?_, fun m d b q1 q2 => ?_, ?_⟩, L⟩
  · rcases at_ i d q3 with ⟨x1, y1⟩ | ⟨x1, y1⟩ <;> rcases at_ j e q4 with ⟨x2, y2⟩ | ⟨x2, y2⟩
    · omega
    · subst x1
      exact S.inj i j b c e q1 q2 h1 y2 hl l2
    · subst x2
      exact S.inj i j b d c q1 q2 y1 h1 l1 hl
    · exact S.inj i j b d e q1 q2 y1 y2 l1 l2
  · rcases at_ m d q1 with ⟨x1, y1⟩ | ⟨x1, y1⟩
    · subst x1 y1
      rw [h2] at q2; cases q2
      exact hc
    · have z := S.cell m d b y1 q2
      by_cases hb : b = a
      · subst hb
        cases hd : d.live with
        | true => exact absurd (S.inj m n b d c q2 h2 y1 h1 hd hl) x1
        | false =>
          cases d with
          | frz xs =>
            obtain ⟨vs, e, r⟩ := z
            rcases e with ⟨ob, e⟩ | e
            · rw [ho] at e; cases e; exact absurd rfl (hnf _ _)
            · exact ⟨vs, .inr e, r.later L⟩
          | xfs d' fs =>
            obtain ⟨_, vs, e, r⟩ := z
            have zz := S.cell n c b h1 h2
            cases c with
            | lst xs => obtain ⟨_, e', _⟩ := zz; rw [e] at e'; cases e'
            | frz xs => cases hl
            | ins C fs => obtain ⟨_, _, _, _, e', _⟩ := zz; rw [e] at e'; cases e'
            | dct kvs => obtain ⟨_, e', _⟩ := zz; rw [e] at e'; cases e'
            | fdc kvs => obtain ⟨_, _, e', _⟩ := zz; rw [e] at e'; cases e'
            | xfs d fs => cases hl
          | _ => cases hd
      · exact z.keep L fun u e => by rw [upd_ne hb]; exact e
  · have hno : ∀ u, u ≠ o → ∀ b, H b = some u → upd H a o' b = some u := fun u hu b e => by
      rw [upd_ne fun q => by subst q; rw [ho] at e; exact hu (Option.some.inj e).symm]
      exact e
    have kind : (∀ ps, HO.tbl ps ≠ o) ∧ ∀ c q, LamX.CodeO c q ≠ o := by
      have z := S.cell n c a h1 h2
      cases c with
      | lst xs => obtain ⟨vs, e, _⟩ := z; rw [ho] at e; cases e; exact ⟨(fun _ q => by cases q), (fun _ _ q => by unfold LamX.CodeO at q; cases q)⟩
      | frz xs => cases hl
      | xfs d fs => cases hl
      | ins C fs => obtain ⟨_, _, _, _, e, _⟩ := z; rw [ho] at e; cases e; exact ⟨(fun _ q => by cases q), (fun _ _ q => by unfold LamX.CodeO at q; cases q)⟩
      | dct kvs => obtain ⟨vs, e, _⟩ := z; rw [ho] at e; cases e; exact ⟨(fun _ q => by cases q), (fun _ _ q => by unfold LamX.CodeO at q; cases q)⟩
      | fdc kvs => obtain ⟨od, vs, e, _⟩ := z; rw [ho] at e; cases e; exact ⟨(fun _ q => by cases q), (fun _ _ q => by unfold LamX.CodeO at q; cases q)⟩
    intro p hp
    obtain ⟨ps, t1, t2, t3⟩ := S.tabs p hp
    refine ⟨ps, hno _ (kind.1 ps) _ t1, t2, fun pos cv hc => ?_⟩
    obtain ⟨c', e1, e2⟩ := t3 pos cv hc
    exact ⟨c', e1, hno _ (kind.2 _ _) _ e2⟩
end

/-! ### the judgements -/
def ExcRep (mg : Str → Option Value) (ι : List Addr) (H : Hp) (x : Exc) (c : Value) (d : Option Addr) : Prop :=
  ∃ a, mg (nm x.cls) = some (.ref a) ∧ c = .ref a ∧ ((x.fs = [] ∧ d = none) ∨ ∃ da vs, d = some da ∧ H da = some (.xd vs) ∧ RepF mg ι H x.fs vs)

/-- what a mirror's result asks -/
def Post {α β : Type} (K : PySem.W.Frag) (mg : Str → Option Value) (rel : List Addr → Hp → α → β → Prop) (ι : List Addr) (H : Hp) (Q : β → Hp → Prop) (E : Value → Option Addr → Hp → Prop) : R α → Prop
  | .ok a st' => ∀ ι' H' b, Later ι H ι' H' → Sim K mg ι' st' H' → rel ι' H' a b → Q b H'
  | .exc x st' => ∀ ι' H' c d, Later ι H ι' H' → Sim K mg ι' st' H' → ExcRep mg ι' H' x c d → E c d H'
  | .bad => False
theorem Post.later {α β : Type} {K : PySem.W.Frag} {mg : Str → Option Value} {rel : List Addr → Hp → α → β → Prop} {ι ι1 : List Addr} {H H1 : Hp} {Q : β → Hp → Prop} {E : Value → Option Addr → Hp → Prop} {r : R α}
    (p : Post K mg rel ι H Q E r) (l : Later ι H ι1 H1) : Post K mg rel ι1 H1 Q E r := by
  cases r with
  | ok a st' => exact fun ι' H' b l' S r => p ι' H' b (l.trans l') S r
  | exc x st' => exact fun ι' H' c d l' S r => p ι' H' c d (l.trans l') S r
  | bad => exact p
theorem Post.bind {α β α' β' : Type} {K : PySem.W.Frag} {mg : Str → Option Value} {rel : List Addr → Hp → α → β → Prop} {rel' : List Addr → Hp → α' → β' → Prop} {ι : List Addr} {H : Hp} {Q : β' → Hp → Prop} {Q1 : β → Hp → Prop} {E : Value → Option Addr → Hp → Prop} {r : R α}
    {f : α → Store → R α'} (p : Post K mg rel' ι H Q E (r.bind f))
    (k : ∀ a st1 ι1 H1 b, Later ι H ι1 H1 → Sim K mg ι1 st1 H1 → rel ι1 H1 a b → Post K mg rel' ι1 H1 Q E (f a st1) → Q1 b H1) : Post K mg rel ι H Q1 E r := by
  cases r with
  | ok a st1 => exact fun ι1 H1 b l S r => k a st1 ι1 H1 b l S r (Post.later p l)
  | exc x st1 => exact p
  | bad => exact p

def rdG {α β : Type} (K : PySem.W.Frag) (mg : Str → Option Value) (rel : List Addr → Hp → α → β → Prop) (W : WX) (m : Slots → Store → R α) : St → Hp → (β → Hp → Prop) → Prop := fun σ H Q =>
  ∃ ι ρ st, Sim K mg ι st H ∧ SlotsOk mg ι H ρ σ ∧ Post K mg rel ι H Q (fun c d H' => W c d σ H') (m ρ st)
abbrev rel1 (mg : Str → Option Value) : List Addr → Hp → Val → V → Prop := fun ι H => Rep mg ι H
abbrev relB : List Addr → Hp → Bool → Bool → Prop := fun _ _ a b => a = b
abbrev relL (mg : Str → Option Value) : List Addr → Hp → List Val → List V → Prop := fun ι H => Reps mg ι H

/-- what a statement's mirror asks -/
def PostO (K : PySem.W.Frag) (mg : Str → Option Value) (W : WX) (ι : List Addr) (H : Hp) (D : Ends) : O → Prop
  | .nx ρ st => ∀ ι' H' σ', Later ι H ι' H' → Sim K mg ι' st H' → SlotsOk mg ι' H' ρ σ' → D.nx σ' H'
  | .ret w st => ∀ ι' H' v, Later ι H ι' H' → Sim K mg ι' st H' → Rep mg ι' H' w v → D.rt v H'
  | .brk ρ st => ∀ ι' H' σ', Later ι H ι' H' → Sim K mg ι' st H' → SlotsOk mg ι' H' ρ σ' → D.bk σ' H'
  | .ct ρ st => ∀ ι' H' σ', Later ι H ι' H' → Sim K mg ι' st H' → SlotsOk mg ι' H' ρ σ' → D.ct σ' H'
  | .exc x ρ st => ∀ ι' H' σ' c d, Later ι H ι' H' → Sim K mg ι' st H' → SlotsOk mg ι' H' ρ σ' → ExcRep mg ι' H' x c d → W c d σ' H'
  | .bad => False
theorem PostO.later {K : PySem.W.Frag} {mg : Str → Option Value} {W : WX} {ι ι1 : List Addr} {H H1 : Hp} {D : Ends} {r : O} (p : PostO K mg W ι H D r) (l : Later ι H ι1 H1) : PostO K mg W ι1 H1 D r := by
  cases r with
  | nx ρ st => exact fun ι' H' σ' l' => p ι' H' σ' (l.trans l')
  | ret w st => exact fun ι' H' v l' => p ι' H' v (l.trans l')
  | brk ρ st => exact fun ι' H' σ' l' => p ι' H' σ' (l.trans l')
  | ct ρ st => exact fun ι' H' σ' l' => p ι' H' σ' (l.trans l')
  | exc x ρ st => exact fun ι' H' σ' c d l' => p ι' H' σ' c d (l.trans l')
  | bad => exact p
def rdS (K : PySem.W.Frag) (mg : Str → Option Value) (W : WX) (m : MS) : TS := fun D σ H =>
  ∃ ι ρ st, Sim K mg ι st H ∧ SlotsOk mg ι H ρ σ ∧ PostO K mg W ι H D (m ρ st)

def JE (X : Cx) (e : Expr) (m : ME) : Prop := ∀ W, Takes X W → PE X e (rdG X.K X.mg (rel1 X.mg) W m)
def JT (X : Cx) (e : Expr) (m : MT) : Prop := ∀ W, Takes X W → PT X e (rdG X.K X.mg relB W m)
def JA (X : Cx) (es : List Expr) (m : MA) : Prop := ∀ W, Takes X W → PA X es (rdG X.K X.mg (relL X.mg) W m)
def JS (X : Cx) (s : Stmt) (m : MS) : Prop := ∀ W, Takes X W → PS X s (rdS X.K X.mg W m)
def JSs (X : Cx) (s : List Stmt) (m : MS) : Prop := ∀ W, Takes X W → PSs X s (rdS X.K X.mg W m)

theorem PE.weak {X : Cx} {e : Expr} {t t' : TE} (h : PE X e t) (w : ∀ σ H Q, t' σ H Q → t σ H Q) : PE X e t' := ⟨fun pins s σ H Q I q => h.run pins s σ H Q I (w σ H Q q)⟩
theorem PT.weak {X : Cx} {e : Expr} {t t' : TT} (h : PT X e t) (w : ∀ σ H Q, t' σ H Q → t σ H Q) : PT X e t' := ⟨fun pins s σ H Q I q => h.run pins s σ H Q I (w σ H Q q)⟩
theorem PA.weak {X : Cx} {e : List Expr} {t t' : TA} (h : PA X e t) (w : ∀ σ H Q, t' σ H Q → t σ H Q) : PA X e t' := ⟨fun pos pins s σ H Q I q => h.run pos pins s σ H Q I (w σ H Q q)⟩
theorem PS.weak {X : Cx} {e : Stmt} {t t' : TS} (h : PS X e t) (w : ∀ D σ H, t' D σ H → t D σ H) : PS X e t' := ⟨fun pins s σ H D I q => h.run pins s σ H D I (w D σ H q)⟩
theorem PSs.weak {X : Cx} {e : List Stmt} {t t' : TS} (h : PSs X e t) (w : ∀ D σ H, t' D σ H → t D σ H) : PSs X e t' := ⟨fun pins s σ H D I q => h.run pins s σ H D I (w D σ H q)⟩
end Ab

set_option Elab.async false
set_option linter.all false
set_option maxRecDepth 100000
/-! Ab: expressions. -/
namespace Ab
open PySem PySem.Spec L2

/-! ### the end of a mirrored expression -/
section
variable {α β α' β' : Type} {K : PySem.W.Frag} {mg : Str → Option Value} {rel : List Addr → Hp → α → β → Prop} {rel' : List Addr → Hp → α' → β' → Prop} {ι : List Addr} {H : Hp} {W : WX} {σ : L2.St} {st : Store}
/-- where the next reading stands -/
theorem rdG.mk {m : Slots → Store → R α} {ρ : Slots} {Q : β → Hp → Prop} (S : Sim K mg ι st H) (sl : SlotsOk mg ι H ρ σ) (p : Post K mg rel ι H Q (fun c d H' => W c d σ H') (m ρ st)) : rdG K mg rel W m σ H Q := ⟨ι, ρ, st, S, sl, p⟩
theorem Post.okSame {a : α} {b : β} {Q : β → Hp → Prop} {E : Value → Option Addr → Hp → Prop} (p : Post K mg rel ι H Q E (.ok a st)) (S : Sim K mg ι st H) (r : rel ι H a b) : Q b H := p ι H b (Later.refl _ _) S r
/-- a new tuple -/
theorem Post.newTup {xs : List Val} {vs : List V} {Q : V → Hp → Prop} {E : Value → Option Addr → Hp → Prop} (p : Post K mg (rel1 mg) ι H Q E (.ok (.tup xs) st)) (S : Sim K mg ι st H) (r : Reps mg ι H xs vs) {q : Addr} (hq : H q = none) : Q (.ref q) (upd H q (.tup vs)) :=
  p ι _ _ (Same.laterH (same_new hq)) (S.same (same_new hq)) (Rep.newTup hq r)
/-- a new list -/
theorem Post.newLst {xs : List Val} {vs : List V} {Q : V → Hp → Prop} {E : Value → Option Addr → Hp → Prop} (p : Post K mg (rel1 mg) ι H Q E (.ok (.ref st.length) (st ++ [.lst xs]))) (S : Sim K mg ι st H) (r : Reps mg ι H xs vs) {q : Addr} (hq : H q = none) : Q (.ref q) (upd H q (.lst vs)) := by
  have hs := same_new (o := .lst vs) hq
  obtain ⟨S', L⟩ := S.push (p := q) (c := .lst xs) hq hs ⟨vs, upd_same, r.later ⟨⟨[q], rfl⟩, fun b ys e => hs b _ e, fun b o ks e => hs b _ e⟩⟩
  refine p _ _ _ L S' ?_
  show Rep mg _ _ (.ref st.length) (.ref q)
  rw [Rep]
  exact ⟨q, rfl, by rw [← S.len, List.getElem?_append_right (Nat.le_refl _)]; simp⟩
end

/-! ### names and constants -/
@[reducible] def mVar (i : Nat) : ME := fun ρ st => match ρ[i]? with
  | some (some w) => .ok w st
  | _ => .bad
@[reducible] def mC (w : Val) : ME := fun _ st => .ok w st
section
variable {X : Cx} {pos : Pos}
theorem je_var {i : Nat} {x : Str} (hN : X.N[i]? = some x := by rfl) (hv : Vis X.env.scope x := by first | exact Or.inl rfl | exact Or.inr (Or.inl rfl) | exact Or.inr (Or.inr rfl)) (hd : (x == ("__debug__" : Str)) = false := by decide)
    (hcd : (x == ("__classdict__" : Str)) = false := by decide) : JE X (.Name x pos) (mVar i) := fun W tk => by
  refine PE.weak (pe_var hN hv hd hcd) fun σ H Q ⟨ι, ρ, st, S, sl, p⟩ => ?_
  show ∃ v, σ[i]? = some (some v) ∧ Q v H
  dsimp only [mVar] at p
  split at p
  · rename_i w e
    obtain ⟨v, e2, r⟩ := sl.2 i w e
    exact ⟨v, e2, p.okSame S r⟩
  · exact p.elim
theorem je_int {i j} : JE X (.Constant (.int i) j pos) (mC (.int i)) := fun W tk => PE.weak pe_int fun σ H Q ⟨ι, ρ, st, S, sl, p⟩ => Post.okSame (b := V.int i) p S (by show Rep _ _ _ _ _; rw [Rep])
theorem je_bl {b j} : JE X (.Constant (.bool b) j pos) (mC (.bl b)) := fun W tk => PE.weak pe_bl fun σ H Q ⟨ι, ρ, st, S, sl, p⟩ => Post.okSame (b := V.bl b) p S (by show Rep _ _ _ _ _; rw [Rep])
theorem je_non {j} : JE X (.Constant .none j pos) (mC .non) := fun W tk => PE.weak pe_non fun σ H Q ⟨ι, ρ, st, S, sl, p⟩ => Post.okSame (b := V.non) p S (by show Rep _ _ _ _ _; rw [Rep])
theorem je_str {x j} : JE X (.Constant (.str x) j pos) (mC (.str x)) := fun W tk => PE.weak pe_str fun σ H Q ⟨ι, ρ, st, S, sl, p⟩ => Post.okSame (b := V.str x) p S (by show Rep _ _ _ _ _; rw [Rep])
/-- a constant of the module: an int, a text -/
theorem je_globI {x : Str} {i : Int} (hm : ∃ t, X.mg x = some (.int i t)) (hg : Gl X x := by rfl) (hd : (x == ("__debug__" : Str)) = false := by decide) : JE X (.Name x pos) (mC (.int i)) := fun W tk => by
  obtain ⟨t, hm⟩ := hm
  exact PE.weak (pe_glob (v := .int i) hg hm ⟨t, rfl⟩ hd) fun σ H Q ⟨ι, ρ, st, S, sl, p⟩ => Post.okSame (b := V.int i) p S (by show Rep _ _ _ _ _; rw [Rep])
theorem je_globS {x : Str} {z : Str} (hm : ∃ t, X.mg x = some (.str z t)) (hg : Gl X x := by rfl) (hd : (x == ("__debug__" : Str)) = false := by decide) : JE X (.Name x pos) (mC (.str z)) := fun W tk => by
  obtain ⟨t, hm⟩ := hm
  exact PE.weak (pe_glob (v := .str z) hg hm ⟨t, rfl⟩ hd) fun σ H Q ⟨ι, ρ, st, S, sl, p⟩ => Post.okSame (b := V.str z) p S (by show Rep _ _ _ _ _; rw [Rep])
/-- a class or a def of the module, as a value -/
theorem je_gl {x : Str} (i : Nat) (hi : x = nm i) (hm : ∃ a, X.mg x = some (.ref a)) (hg : Gl X x := by rfl) (hd : (x == ("__debug__" : Str)) = false := by decide) : JE X (.Name x pos) (mC (.gl i)) := fun W tk => by
  obtain ⟨a, hm⟩ := hm
  exact PE.weak (pe_glob (v := .ref a) hg hm rfl hd) fun σ H Q ⟨ι, ρ, st, S, sl, p⟩ => Post.okSame (b := V.ref a) p S (by show Rep _ _ _ _ _; rw [Rep]; exact ⟨a, rfl, hi ▸ hm⟩)
end

/-! ### operators -/
/-- two values -/
def r2 (K : PySem.W.Frag) (mg : Str → Option Value) (g : Val → Val → Store → R Val) : R2 := fun x y H Q =>
  ∃ ι st w1 w2, Sim K mg ι st H ∧ Rep mg ι H w1 x ∧ Rep mg ι H w2 y ∧ Post K mg (rel1 mg) ι H Q (fun _ _ _ => False) (g w1 w2 st)
def M2 (X : Cx) (f : Value → Value → Sem Value) (g : Val → Val → Store → R Val) : Prop := OpR X f (r2 X.K X.mg g)
theorem noExc {α β : Type} {K : PySem.W.Frag} {mg : Str → Option Value} {rel : List Addr → Hp → α → β → Prop} {ι : List Addr} {H : Hp} {Q : β → Hp → Prop} {E : Value → Option Addr → Hp → Prop} {r : R α} (h : ∀ x st, r ≠ .exc x st)
    (p : Post K mg rel ι H Q E r) : Post K mg rel ι H Q (fun _ _ _ => False) r := by
  cases r with
  | ok a st => exact p
  | exc x st => exact absurd rfl (h x st)
  | bad => exact p
/-- an operation that raises nothing -/
def Quiet {α : Type} (r : R α) : Prop := ∀ x st, r ≠ .exc x st
@[reducible] def mBin (g : Val → Val → Store → R Val) (a b : ME) : ME := fun ρ st => (a ρ st).bind fun x st1 => (b ρ st1).bind fun y st2 => g x y st2
theorem JE.bin {X : Cx} {e a b : Expr} {g : Val → Val → Store → R Val} {ma mb : ME} (hq : ∀ x y st, Quiet (g x y st)) (ha : JE X a ma) (hb : JE X b mb)
    (h : ∀ ta tb, PE X a ta → PE X b tb → PE X e (tOp (r2 X.K X.mg g) ta tb)) : JE X e (mBin g ma mb) := fun W tk => by
  refine PE.weak (h _ _ (ha W tk) (hb W tk)) fun σ H Q ⟨ι, ρ, st, S, sl, p⟩ => ?_
  refine ⟨ι, ρ, st, S, sl, Post.bind p fun w1 st1 ι1 H1 x l1 S1 r1 p1 => ?_⟩
  refine ⟨ι1, ρ, st1, S1, sl.later l1, Post.bind p1 fun w2 st2 ι2 H2 y l2 S2 r2 p2 => ?_⟩
  exact ⟨ι2, st2, w1, w2, S2, Rep.later l2 r1, r2, noExc (hq _ _ _) p2⟩
theorem je_op {X : Cx} {a b : Expr} {op : Operator} {pos : Pos} {g : Val → Val → Store → R Val} {ma mb : ME} (ho : M2 X (binaryOp op) g) (hq : ∀ x y st, Quiet (g x y st)) (ha : JE X a ma) (hb : JE X b mb) : JE X (.BinOp a op b pos) (mBin g ma mb) :=
  JE.bin hq ha hb fun _ _ h1 h2 => pe_op ho h1 h2
theorem je_cmp {X : Cx} {a b : Expr} {op : CmpOp} {pos : Pos} {g : Val → Val → Store → R Val} {ma mb : ME} (ho : M2 X (compareOp op) g) (hq : ∀ x y st, Quiet (g x y st)) (ha : JE X a ma) (hb : JE X b mb) (hm : behindInMarks op b = false := by first | exact nomark _ | rfl) :
    JE X (.Compare a [op] [b] pos) (mBin g ma mb) :=
  JE.bin hq ha hb fun _ _ h1 h2 => pe_cmpR ho h1 h2 hm

/-- two ints -/
theorem Rep.int_inv {mg : Str → Option Value} {ι : List Addr} {H : Hp} {i : Int} {v : V} (h : Rep mg ι H (.int i) v) : v = .int i := by rw [Rep] at h; exact h
theorem Rep.str_inv {mg : Str → Option Value} {ι : List Addr} {H : Hp} {i : Str} {v : V} (h : Rep mg ι H (.str i) v) : v = .str i := by rw [Rep] at h; exact h
theorem Rep.bl_inv {mg : Str → Option Value} {ι : List Addr} {H : Hp} {i : Bool} {v : V} (h : Rep mg ι H (.bl i) v) : v = .bl i := by rw [Rep] at h; exact h
theorem Rep.non_inv {mg : Str → Option Value} {ι : List Addr} {H : Hp} {v : V} (h : Rep mg ι H .non v) : v = .non := by rw [Rep] at h; exact h
theorem Rep.tup_inv {mg : Str → Option Value} {ι : List Addr} {H : Hp} {xs : List Val} {v : V} (h : Rep mg ι H (.tup xs) v) : ∃ a vs, v = .ref a ∧ H a = some (.tup vs) ∧ Reps mg ι H xs vs := by rw [Rep] at h; exact h
theorem Rep.ref_inv {mg : Str → Option Value} {ι : List Addr} {H : Hp} {n : Nat} {v : V} (h : Rep mg ι H (.ref n) v) : ∃ a, v = .ref a ∧ ι[n]? = some a := by rw [Rep] at h; exact h
theorem Rep.gl_inv {mg : Str → Option Value} {ι : List Addr} {H : Hp} {x : Nat} {v : V} (h : Rep mg ι H (.gl x) v) : ∃ a, v = .ref a ∧ mg (nm x) = some (.ref a) := by rw [Rep] at h; exact h
theorem Rep.int {mg : Str → Option Value} {ι : List Addr} {H : Hp} {i : Int} : Rep mg ι H (.int i) (.int i) := by rw [Rep]
theorem Rep.str {mg : Str → Option Value} {ι : List Addr} {H : Hp} {i : Str} : Rep mg ι H (.str i) (.str i) := by rw [Rep]
theorem Rep.bl {mg : Str → Option Value} {ι : List Addr} {H : Hp} {i : Bool} : Rep mg ι H (.bl i) (.bl i) := by rw [Rep]
theorem Rep.non {mg : Str → Option Value} {ι : List Addr} {H : Hp} : Rep mg ι H .non .non := by rw [Rep]
theorem Rep.tup {mg : Str → Option Value} {ι : List Addr} {H : Hp} {xs : List Val} {a : Addr} {vs : List V} (h : H a = some (.tup vs)) (r : Reps mg ι H xs vs) : Rep mg ι H (.tup xs) (.ref a) := by rw [Rep]; exact ⟨a, vs, rfl, h, r⟩
theorem Rep.ref {mg : Str → Option Value} {ι : List Addr} {H : Hp} {n : Nat} {a : Addr} (h : ι[n]? = some a) : Rep mg ι H (.ref n) (.ref a) := by rw [Rep]; exact ⟨a, rfl, h⟩
theorem Rep.gl {mg : Str → Option Value} {ι : List Addr} {H : Hp} {x : Nat} {a : Addr} (h : mg (nm x) = some (.ref a)) : Rep mg ι H (.gl x) (.ref a) := by rw [Rep]; exact ⟨a, rfl, h⟩
/-- the cell behind a reference -/
theorem Sim.at {K : PySem.W.Frag} {mg : Str → Option Value} {ι : List Addr} {st : Store} {H : Hp} (S : Sim K mg ι st H) {n : Nat} {c : Cell} (h : st[n]? = some c) {a : Addr} (ha : ι[n]? = some a) : CellOk K mg ι H a c := S.cell n c a h ha
theorem CellOk.seq {K : PySem.W.Frag} {mg : Str → Option Value} {ι : List Addr} {H : Hp} {a : Addr} {xs : List Val} (h : CellOk K mg ι H a (.frz xs)) : ∃ vs, SqL K H a vs ∧ Reps mg ι H xs vs := by
  obtain ⟨vs, e, r⟩ := h
  exact ⟨vs, e.elim (fun ⟨o, e⟩ => .inl (.inr ⟨o, e⟩)) .inr, r⟩
theorem CellOk.lst {K : PySem.W.Frag} {mg : Str → Option Value} {ι : List Addr} {H : Hp} {a : Addr} {xs : List Val} (h : CellOk K mg ι H a (.lst xs)) : ∃ vs, H a = some (.lst vs) ∧ Reps mg ι H xs vs := h
/-- the items of a list that is read -/
@[reducible] def seqAt (st : Store) (n : Nat) : Option (List Val) := match st[n]? with
  | some (.lst xs) => some xs
  | some (.frz xs) => some xs
  | _ => none
theorem Sim.seqL {K : PySem.W.Frag} {mg : Str → Option Value} {ι : List Addr} {st : Store} {H : Hp} (S : Sim K mg ι st H) {n : Nat} {xs : List Val} (h : seqAt st n = some xs) {a : Addr} (ha : ι[n]? = some a) : ∃ vs, SqL K H a vs ∧ Reps mg ι H xs vs := by
  unfold seqAt at h
  split at h
  · rename_i ys e
    cases h
    obtain ⟨vs, e1, r⟩ := S.at e ha
    exact ⟨vs, SqL.of e1, r⟩
  · rename_i ys e
    cases h
    exact (S.at e ha).seq
  · cases h

@[reducible] def vAdd : Val → Val → Store → R Val
  | .int i, .int j, st => .ok (.int (i + j)) st
  | .str a, .str b, st => if a.length + b.length ≤ sizeLine then .ok (.str (a ++ b)) st else .bad
  | .tup xs, .tup ys, st => if xs.length + ys.length ≤ sizeLine then .ok (.tup (xs ++ ys)) st else .bad
  | .ref n, .ref m, st => match st[n]?, st[m]? with
    | some (.lst xs), some (.lst ys) => if xs.length + ys.length ≤ sizeLine then .ok (.ref st.length) (st ++ [.lst (xs ++ ys)]) else .bad
    | _, _ => .bad
  | _, _, _ => .bad
@[reducible] def vSub : Val → Val → Store → R Val
  | .int i, .int j, st => .ok (.int (i - j)) st
  | _, _, _ => .bad
def mulOk (i j : Int) : Bool := (decide (-(2 ^ 64) < i) && decide (i < 2 ^ 64)) || (decide (-(2 ^ 64) < j) && decide (j < 2 ^ 64))
theorem mulOk_iff {i j : Int} : mulOk i j = true ↔ CMul i j := by
  unfold mulOk CMul
  simp only [Bool.or_eq_true, Bool.and_eq_true, decide_eq_true_eq]
@[reducible] def vMul : Val → Val → Store → R Val
  | .int i, .int j, st => if mulOk i j = true then .ok (.int (i * j)) st else .bad
  | _, _, _ => .bad
@[reducible] def vDiv : Val → Val → Store → R Val
  | .int i, .int j, st => if 0 < j ∧ j < 2 ^ 100 then .ok (.int (i / j)) st else .bad
  | _, _, _ => .bad
@[reducible] def vMod : Val → Val → Store → R Val
  | .int i, .int j, st => if 0 < j then .ok (.int (i % j)) st else .bad
  | _, _, _ => .bad
@[reducible] def vPow : Val → Val → Store → R Val
  | .int i, .int j, st => if 0 ≤ j ∧ j ≤ 1000000 ∧ i.natAbs < 2 ^ 64 then .ok (.int (i ^ j.toNat)) st else .bad
  | _, _, _ => .bad
@[reducible] def vCmpI (p : Int → Int → Bool) : Val → Val → Store → R Val
  | .int i, .int j, st => .ok (.bl (p i j)) st
  | _, _, _ => .bad
@[reducible] def vLt : Val → Val → Store → R Val := vCmpI fun i j => decide (i < j)
@[reducible] def vGt : Val → Val → Store → R Val := vCmpI fun i j => decide (j < i)
@[reducible] def vGe : Val → Val → Store → R Val := vCmpI fun i j => decide (j ≤ i)
@[reducible] def vLe : Val → Val → Store → R Val
  | .int i, .int j, st => .ok (.bl (decide (i ≤ j))) st
  | .str a, .str b, st => .ok (.bl (!decide (b.cps.toList < a.cps.toList))) st
  | _, _, _ => .bad
@[reducible] def vIsN : Val → Val → Store → R Val
  | .ref _, .non, st => .ok (.bl false) st
  | .tup _, .non, st => .ok (.bl false) st
  | .non, .non, st => .ok (.bl true) st
  | .int _, .non, st => .ok (.bl false) st
  | .str _, .non, st => .ok (.bl false) st
  | .bl _, .non, st => .ok (.bl false) st
  | .gl _, .non, st => .ok (.bl false) st
  | _, _, _ => .bad
@[reducible] def vNotN : Val → Val → Store → R Val
  | .ref _, .non, st => .ok (.bl true) st
  | .tup _, .non, st => .ok (.bl true) st
  | .non, .non, st => .ok (.bl false) st
  | .int _, .non, st => .ok (.bl true) st
  | .str _, .non, st => .ok (.bl true) st
  | .bl _, .non, st => .ok (.bl true) st
  | .gl _, .non, st => .ok (.bl true) st
  | _, _, _ => .bad

section
variable {X : Cx}
theorem m2_int {f : Value → Value → Sem Value} {g : Int → Int → V} {C : Int → Int → Prop} (ho : OpR X f (rI C g)) {v : Val → Val → Store → R Val} {G : Int → Int → Val} (hG : ∀ mg ι H i j, Rep mg ι H (G i j) (g i j))
    (h1 : ∀ i j st, v (.int i) (.int j) st = .bad ∨ (C i j ∧ v (.int i) (.int j) st = .ok (G i j) st)) (h2 : ∀ a b st, (∀ i j, ¬ (a = .int i ∧ b = .int j)) → v a b st = .bad) : M2 X f v := by
  rintro pins s σ H x y u1 u2 Q I rx ry ⟨ι, st, w1, w2, S, r1, r2, p⟩
  by_cases hi : ∃ i j, w1 = .int i ∧ w2 = .int j
  · obtain ⟨i, j, e1, e2⟩ := hi
    subst e1 e2
    have e1 := r1.int_inv; have e2 := r2.int_inv
    subst e1 e2
    rcases h1 i j st with hb | ⟨hc, hb⟩
    · rw [hb] at p; exact p.elim
    · rw [hb] at p
      exact ho pins s σ H _ _ u1 u2 Q I rx ry ⟨i, j, rfl, rfl, hc, p.okSame S (hG _ _ _ _ _)⟩
  · rw [h2 w1 w2 st fun i j e => hi ⟨i, j, e.1, e.2⟩] at p
    exact p.elim
theorem rI0_rI {f : Value → Value → Sem Value} {g : Int → Int → V} (ho : OpR X f (rI0 g)) : OpR X f (rI (fun _ _ => True) g) := fun pins s σ H x y v u Q I rx ry ⟨i, j, e1, e2, _, q⟩ => ho pins s σ H x y v u Q I rx ry ⟨i, j, e1, e2, q⟩
theorem m2_sub : M2 X (binaryOp .Sub) vSub := m2_int (rI0_rI op_sub) (G := fun i j => .int (i - j)) (fun _ _ _ _ _ => Rep.int) (fun i j st => .inr ⟨trivial, rfl⟩) fun a b st h => by
  cases a <;> cases b <;> first | rfl | exact absurd ⟨rfl, rfl⟩ (h _ _)
theorem m2_mul : M2 X (binaryOp .Mult) vMul := m2_int op_mul (G := fun i j => .int (i * j)) (fun _ _ _ _ _ => Rep.int) (fun i j st => by
  by_cases h : mulOk i j = true
  · exact .inr ⟨mulOk_iff.mp h, if_pos h⟩
  · exact .inl (if_neg h)) fun a b st h => by
  cases a <;> cases b <;> first | rfl | exact absurd ⟨rfl, rfl⟩ (h _ _)
theorem m2_div : M2 X (binaryOp .FloorDiv) vDiv := m2_int op_fdivW (G := fun i j => .int (i / j)) (fun _ _ _ _ _ => Rep.int) (fun i j st => by
  by_cases h : 0 < j ∧ j < 2 ^ 100
  · refine .inr ⟨wide_div h.1 (b := 100) ?_ (by decide) (by decide), if_pos h⟩
    have h2 : ((j.natAbs : Nat) : Int) < ((2 ^ 100 : Nat) : Int) := by
      rw [Int.natAbs_of_nonneg (Int.le_of_lt h.1)]
      exact_mod_cast h.2
    exact_mod_cast h2
  · exact .inl (if_neg h)) fun a b st h => by
  cases a <;> cases b <;> first | rfl | exact absurd ⟨rfl, rfl⟩ (h _ _)
theorem m2_mod : M2 X (binaryOp .Mod) vMod := m2_int op_mod (G := fun i j => .int (i % j)) (fun _ _ _ _ _ => Rep.int) (fun i j st => by
  by_cases h : 0 < j
  · exact .inr ⟨h, if_pos h⟩
  · exact .inl (if_neg h)) fun a b st h => by
  cases a <;> cases b <;> first | rfl | exact absurd ⟨rfl, rfl⟩ (h _ _)
theorem m2_pow : M2 X (binaryOp .Pow) vPow := m2_int op_pow (G := fun i j => .int (i ^ j.toNat)) (fun _ _ _ _ _ => Rep.int) (fun i j st => by
  by_cases h : 0 ≤ j ∧ j ≤ 1000000 ∧ i.natAbs < 2 ^ 64
  · exact .inr ⟨h, if_pos h⟩
  · exact .inl (if_neg h)) fun a b st h => by
  cases a <;> cases b <;> first | rfl | exact absurd ⟨rfl, rfl⟩ (h _ _)
theorem m2_lt : M2 X (compareOp .Lt) vLt := m2_int (rI0_rI op_lt) (G := fun i j => .bl (decide (i < j))) (fun _ _ _ _ _ => Rep.bl) (fun i j st => .inr ⟨trivial, rfl⟩) fun a b st h => by
  cases a <;> cases b <;> first | rfl | exact absurd ⟨rfl, rfl⟩ (h _ _)
theorem m2_gt : M2 X (compareOp .Gt) vGt := m2_int (rI0_rI op_gt) (G := fun i j => .bl (decide (j < i))) (fun _ _ _ _ _ => Rep.bl) (fun i j st => .inr ⟨trivial, rfl⟩) fun a b st h => by
  cases a <;> cases b <;> first | rfl | exact absurd ⟨rfl, rfl⟩ (h _ _)
theorem m2_ge : M2 X (compareOp .GtE) vGe := m2_int (rI0_rI op_ge) (G := fun i j => .bl (decide (j ≤ i))) (fun _ _ _ _ _ => Rep.bl) (fun i j st => .inr ⟨trivial, rfl⟩) fun a b st h => by
  cases a <;> cases b <;> first | rfl | exact absurd ⟨rfl, rfl⟩ (h _ _)
theorem m2_le : M2 X (compareOp .LtE) vLe := by
  rintro pins s σ H x y u1 u2 Q I rx ry ⟨ι, st, w1, w2, S, r1, r2, p⟩
  cases w1 with
  | int i =>
    cases w2 with
    | int j =>
      have e1 := r1.int_inv; have e2 := r2.int_inv
      subst e1 e2
      exact op_le pins s σ H _ _ u1 u2 Q I rx ry ⟨i, j, rfl, rfl, p.okSame S Rep.bl⟩
    | _ => exact p.elim
  | str i =>
    cases w2 with
    | str j =>
      have e1 := r1.str_inv; have e2 := r2.str_inv
      subst e1 e2
      exact op_le_str pins s σ H _ _ u1 u2 Q I rx ry ⟨i, j, rfl, rfl, p.okSame S Rep.bl⟩
    | _ => exact p.elim
  | _ => exact p.elim
theorem m2_add : M2 X (binaryOp .Add) vAdd := by
  rintro pins s σ H x y u1 u2 Q I rx ry ⟨ι, st, w1, w2, S, r1, r2, p⟩
  cases w1 with
  | int i =>
    cases w2 with
    | int j =>
      have e1 := r1.int_inv; have e2 := r2.int_inv
      subst e1 e2
      exact op_add pins s σ H _ _ u1 u2 Q I rx ry ⟨i, j, rfl, rfl, p.okSame S Rep.int⟩
    | _ => exact p.elim
  | str i =>
    cases w2 with
    | str j =>
      have e1 := r1.str_inv; have e2 := r2.str_inv
      subst e1 e2
      dsimp only [vAdd] at p
      split at p
      · rename_i hl
        exact op_add_str pins s σ H _ _ u1 u2 Q I rx ry ⟨i, j, rfl, rfl, hl, p.okSame S Rep.str⟩
      · exact p.elim
    | _ => exact p.elim
  | tup xs =>
    cases w2 with
    | tup ys =>
      obtain ⟨a, vs, e1, ha, q1⟩ := r1.tup_inv
      obtain ⟨b, us, e2, hb, q2⟩ := r2.tup_inv
      subst e1 e2
      dsimp only [vAdd] at p
      split at p
      · rename_i hl
        refine op_catA pins s σ H _ _ u1 u2 Q I rx ry ⟨a, b, vs, us, rfl, rfl, SqT.of ha, SqT.of hb, by rw [← q1.length, ← q2.length]; exact hl, fun e => ?_, fun e1 e2 => ?_, fun e1 e2 p' hp => ?_⟩
        · have : xs = [] := by have := q1.length; rw [e] at this; simpa using this
          subst this
          exact p.okSame S (Rep.tup hb q2)
        · have : ys = [] := by have := q2.length; rw [e2] at this; simpa using this
          subst this
          rw [List.append_nil] at p
          exact p.okSame S (Rep.tup ha q1)
        · exact p.newTup S (q1.append q2) hp
      · exact p.elim
    | _ => exact p.elim
  | ref n =>
    cases w2 with
    | ref m =>
      obtain ⟨a, e1, ha⟩ := r1.ref_inv
      obtain ⟨b, e2, hb⟩ := r2.ref_inv
      subst e1 e2
      dsimp only [vAdd] at p
      split at p
      · rename_i xs ys g1 g2
        obtain ⟨vs, h1, q1⟩ := S.at g1 ha
        obtain ⟨us, h2, q2⟩ := S.at g2 hb
        split at p
        · rename_i hl
          exact op_cat pins s σ H _ _ u1 u2 Q I rx ry ⟨a, b, vs, us, rfl, rfl, h1, h2, by rw [← q1.length, ← q2.length]; exact hl, fun p' hp => p.newLst S (q1.append q2) hp⟩
        · exact p.elim
      · exact p.elim
    | _ => exact p.elim
  | _ => exact p.elim
theorem m2_isN : M2 X (compareOp .Is) vIsN := by
  rintro pins s σ H x y u1 u2 Q I rx ry ⟨ι, st, w1, w2, S, r1, r2, p⟩
  cases w2 with
  | non =>
    have e2 := r2.non_inv
    subst e2
    refine op_isN pins s σ H _ _ u1 u2 Q I rx ry ⟨rfl, ?_⟩
    cases w1 with
    | non => have e := r1.non_inv; subst e; exact p.okSame S Rep.bl
    | int i => have e := r1.int_inv; subst e; exact p.okSame S Rep.bl
    | bl i => have e := r1.bl_inv; subst e; exact p.okSame S Rep.bl
    | str i => have e := r1.str_inv; subst e; exact p.okSame S Rep.bl
    | tup i => obtain ⟨_, _, e, _⟩ := r1.tup_inv; subst e; exact p.okSame S Rep.bl
    | ref i => obtain ⟨_, e, _⟩ := r1.ref_inv; subst e; exact p.okSame S Rep.bl
    | gl i => obtain ⟨_, e, _⟩ := r1.gl_inv; subst e; exact p.okSame S Rep.bl
    | adr i => exact p.elim
  | _ => cases w1 <;> exact p.elim
theorem m2_notN : M2 X (compareOp .IsNot) vNotN := by
  rintro pins s σ H x y u1 u2 Q I rx ry ⟨ι, st, w1, w2, S, r1, r2, p⟩
  cases w2 with
  | non =>
    have e2 := r2.non_inv
    subst e2
    refine op_notN pins s σ H _ _ u1 u2 Q I rx ry ⟨rfl, ?_⟩
    cases w1 with
    | non => have e := r1.non_inv; subst e; exact p.okSame S Rep.bl
    | int i => have e := r1.int_inv; subst e; exact p.okSame S Rep.bl
    | bl i => have e := r1.bl_inv; subst e; exact p.okSame S Rep.bl
    | str i => have e := r1.str_inv; subst e; exact p.okSame S Rep.bl
    | tup i => obtain ⟨_, _, e, _⟩ := r1.tup_inv; subst e; exact p.okSame S Rep.bl
    | ref i => obtain ⟨_, e, _⟩ := r1.ref_inv; subst e; exact p.okSame S Rep.bl
    | gl i => obtain ⟨_, e, _⟩ := r1.gl_inv; subst e; exact p.okSame S Rep.bl
    | adr i => exact p.elim
  | _ => cases w1 <;> exact p.elim
end
end Ab

set_option Elab.async false
set_option linter.all false
set_option maxRecDepth 100000
/-! Ab: tests, displays, calls of built-ins, subscripts. -/
namespace Ab
open PySem PySem.Spec L2

/-! ### tests -/
@[reducible] def asB : Val → Store → R Bool
  | .bl b, st => .ok b st
  | _, _ => .bad
@[reducible] def mTest (m : ME) : MT := fun ρ st => (m ρ st).bind asB
section
variable {X : Cx} {e a b c : Expr} {m ma mb mc : ME} {pos : Pos}
theorem JE.test (h : JE X e m) (k : ∀ t, PE X e t → PT X e (tB t)) : JT X e (mTest m) := fun W tk => by
  refine PT.weak (k _ (h W tk)) fun σ H Q ⟨ι, ρ, st, S, sl, p⟩ => ?_
  refine ⟨ι, ρ, st, S, sl, Post.bind p fun w st1 ι1 H1 x l1 S1 r1 p1 => ?_⟩
  cases w with
  | bl k => exact ⟨k, r1.bl_inv, p1.okSame S1 rfl⟩
  | _ => exact p1.elim
/-- an expression whose value is a bool -/
theorem jt_val (h : JE X e m) (he : ∀ whole, isTrue e X.env whole = (do let v ← whole; standAt e.pos; holding [v] (truthy v)) := by intro _; rfl) : JT X e (mTest m) := h.test fun _ q => pt_val q he
theorem jt_cmp {op : CmpOp} {g : Val → Val → Store → R Val} (ho : M2 X (compareOp op) g) (hq : ∀ x y st, Quiet (g x y st)) (ha : JE X a ma) (hb : JE X b mb) (hm : behindInMarks op b = false := by first | exact nomark _ | rfl) :
    JT X (.Compare a [op] [b] pos) (mTest (mBin g ma mb)) := fun W tk => by
  refine PT.weak (pt_cmpR ho (ha W tk) (hb W tk) hm) fun σ H Q ⟨ι, ρ, st, S, sl, p⟩ => ?_
  dsimp only [mTest, mBin] at p
  refine ⟨ι, ρ, st, S, sl, Post.bind (rel := rel1 X.mg) (r := ma ρ st) (f := fun x st1 => ((mb ρ st1).bind fun y st2 => g x y st2).bind asB) (by cases h : ma ρ st <;> rw [h] at p <;> exact p) fun w1 st1 ι1 H1 x l1 S1 r1 p1 => ?_⟩
  refine ⟨ι1, ρ, st1, S1, sl.later l1, Post.bind (rel := rel1 X.mg) (r := mb ρ st1) (f := fun y st2 => (g w1 y st2).bind asB) (by cases h : mb ρ st1 <;> rw [h] at p1 <;> exact p1) fun w2 st2 ι2 H2 y l2 S2 r2 p2 => ?_⟩
  refine ⟨ι2, st2, w1, w2, S2, Rep.later l2 r1, r2, ?_⟩
  have p3 := Post.bind (rel := rel1 X.mg) p2 fun w st3 ι3 H3 z l3 S3 r3 p3 => (show ∃ k, z = V.bl k ∧ Q k H3 from by
    cases w with
    | bl k => exact ⟨k, r3.bl_inv, p3.okSame S3 rfl⟩
    | _ => exact p3.elim)
  exact noExc (hq _ _ _) p3
@[reducible] def mChain (g g' : Val → Val → Store → R Val) (a b c : ME) : ME := fun ρ st => (a ρ st).bind fun x st1 => (b ρ st1).bind fun y st2 => (g x y st2).bind fun z st3 => match z with
  | .bl true => (c ρ st3).bind fun w st4 => g' y w st4
  | .bl false => .ok (.bl false) st3
  | _ => .bad
theorem chain_read {W : WX} {g g' : Val → Val → Store → R Val} (hq : ∀ x y st, Quiet (g x y st)) (hq' : ∀ x y st, Quiet (g' x y st)) (ha : JE X a ma) (hb : JE X b mb) (hc : JE X c mc) {σ : L2.St} {H : Hp} {Q : VK}
    (h : rdG X.K X.mg (rel1 X.mg) W (mChain g g' ma mb mc) σ H Q) : tChain (r2 X.K X.mg g) (r2 X.K X.mg g') (rdG X.K X.mg (rel1 X.mg) W ma) (rdG X.K X.mg (rel1 X.mg) W mb) (rdG X.K X.mg (rel1 X.mg) W mc) σ H Q := by
  obtain ⟨ι, ρ, st, S, sl, p⟩ := h
  refine ⟨ι, ρ, st, S, sl, Post.bind p fun w1 st1 ι1 H1 x l1 S1 r1 p1 => ?_⟩
  have sl1 := sl.later l1
  refine ⟨ι1, ρ, st1, S1, sl1, Post.bind p1 fun w2 st2 ι2 H2 y l2 S2 r2 p2 => ?_⟩
  have sl2 := sl1.later l2
  refine ⟨ι2, st2, w1, w2, S2, Rep.later l2 r1, r2, ?_⟩
  refine noExc (hq _ _ _) (Post.bind p2 fun w3 st3 ι3 H3 z l3 S3 r3 p3 => ?_)
  have sl3 := sl2.later l3
  cases w3 with
  | bl k =>
    refine ⟨k, r3.bl_inv, ?_⟩
    cases k with
    | true =>
      refine iteT ⟨ι3, ρ, st3, S3, sl3, Post.bind p3 fun w4 st4 ι4 H4 u l4 S4 r4 p4 => ?_⟩
      exact ⟨ι4, st4, w2, w4, S4, Rep.later l4 (Rep.later l3 r2), r4, noExc (hq' _ _ _) p4⟩
    | false => exact iteF (p3.okSame S3 Rep.bl)
  | _ => exact p3.elim
theorem je_chain {op op' : CmpOp} {g g' : Val → Val → Store → R Val} (ho : M2 X (compareOp op) g) (hq : ∀ x y st, Quiet (g x y st)) (ho' : M2 X (compareOp op') g') (hq' : ∀ x y st, Quiet (g' x y st)) (ha : JE X a ma) (hb : JE X b mb) (hc : JE X c mc)
    (hm : lastMarks [op, op'] [b, c] = false := by with_unfolding_all rfl) : JE X (.Compare a [op, op'] [b, c] pos) (mChain g g' ma mb mc) := fun W tk =>
  PE.weak (pe_chain ho ho' (ha W tk) (hb W tk) (hc W tk) hm) fun σ H Q h => chain_read hq hq' ha hb hc h
theorem jt_chain {op op' : CmpOp} {g g' : Val → Val → Store → R Val} (ho : M2 X (compareOp op) g) (hq : ∀ x y st, Quiet (g x y st)) (ho' : M2 X (compareOp op') g') (hq' : ∀ x y st, Quiet (g' x y st)) (ha : JE X a ma) (hb : JE X b mb) (hc : JE X c mc)
    (hm : lastMarks [op, op'] [b, c] = false := by with_unfolding_all rfl) : JT X (.Compare a [op, op'] [b, c] pos) (mTest (mChain g g' ma mb mc)) := fun W tk => by
  refine PT.weak (pt_chain ho ho' (ha W tk) (hb W tk) (hc W tk) hm) fun σ H Q ⟨ι, ρ, st, S, sl, p⟩ => ?_
  refine chain_read (W := W) hq hq' ha hb hc ⟨ι, ρ, st, S, sl, ?_⟩
  refine Post.bind p fun w st1 ι1 H1 x l1 S1 r1 p1 => ?_
  cases w with
  | bl k => exact ⟨k, r1.bl_inv, p1.okSame S1 rfl⟩
  | _ => exact p1.elim

/-! ### and, or, not -/
@[reducible] def tAndM (t u : MT) : MT := fun ρ st => (t ρ st).bind fun k st1 => if k = true then u ρ st1 else .ok false st1
@[reducible] def tOrM (t u : MT) : MT := fun ρ st => (t ρ st).bind fun k st1 => if k = true then .ok true st1 else u ρ st1
@[reducible] def tNotM (t : MT) : MT := fun ρ st => (t ρ st).bind fun k st1 => .ok (!k) st1
/-- a test whatever its whole is -/
def JW (X : Cx) (e : Expr) (m : MT) : Prop := ∀ W, Takes X W → PW X e (rdG X.K X.mg relB W m)
theorem PW.weak {t t' : TT} (h : PW X e t) (w : ∀ σ H Q, t' σ H Q → t σ H Q) : PW X e t' := ⟨fun wh pins s σ H Q I q => h.run wh pins s σ H Q I (w σ H Q q)⟩
theorem JW.jt {m : MT} (h : JW X e m) : JT X e m := fun W tk => (h W tk).pt
variable {t u : MT} {rest : List Expr}
theorem jw_and1 (ha : JT X a t) : JW X (.BoolOp .And [a] pos) t := fun W tk => pw_and1 (ha W tk)
theorem jw_or1 (ha : JT X a t) : JW X (.BoolOp .Or [a] pos) t := fun W tk => pw_or1 (ha W tk)
theorem jw_and (ha : JT X a t) (hb : JW X (.BoolOp .And (b :: rest) pos) u) : JW X (.BoolOp .And (a :: b :: rest) pos) (tAndM t u) := fun W tk => by
  refine PW.weak (pw_and (ha W tk) (hb W tk)) fun σ H Q ⟨ι, ρ, st, S, sl, p⟩ => ?_
  refine ⟨ι, ρ, st, S, sl, Post.bind p fun k st1 ι1 H1 k' l1 S1 r1 p1 => ?_⟩
  have r1 : k = k' := r1
  subst r1
  cases k with
  | true => exact iteT ⟨ι1, ρ, st1, S1, sl.later l1, p1⟩
  | false => exact iteF (p1.okSame S1 rfl)
theorem jw_or (ha : JT X a t) (hb : JW X (.BoolOp .Or (b :: rest) pos) u) : JW X (.BoolOp .Or (a :: b :: rest) pos) (tOrM t u) := fun W tk => by
  refine PW.weak (pw_or (ha W tk) (hb W tk)) fun σ H Q ⟨ι, ρ, st, S, sl, p⟩ => ?_
  refine ⟨ι, ρ, st, S, sl, Post.bind p fun k st1 ι1 H1 k' l1 S1 r1 p1 => ?_⟩
  have r1 : k = k' := r1
  subst r1
  cases k with
  | true => exact iteT (p1.okSame S1 rfl)
  | false => exact iteF ⟨ι1, ρ, st1, S1, sl.later l1, p1⟩
theorem jt_not (ha : JT X a t) : JT X (.UnaryOp .Not a pos) (tNotM t) := fun W tk => by
  refine PT.weak (pt_not (ha W tk)) fun σ H Q ⟨ι, ρ, st, S, sl, p⟩ => ?_
  refine ⟨ι, ρ, st, S, sl, Post.bind p fun k st1 ι1 H1 k' l1 S1 r1 p1 => ?_⟩
  have r1 : k = k' := r1
  subst r1
  exact p1.okSame S1 rfl
/-- as values, of bools -/
@[reducible] def mAnd (a b : ME) : ME := fun ρ st => (a ρ st).bind fun x st1 => match x with
  | .bl true => b ρ st1
  | .bl false => .ok (.bl false) st1
  | _ => .bad
@[reducible] def mOr (a b : ME) : ME := fun ρ st => (a ρ st).bind fun x st1 => match x with
  | .bl true => .ok (.bl true) st1
  | .bl false => b ρ st1
  | _ => .bad
@[reducible] def mNot (a : ME) : ME := fun ρ st => (a ρ st).bind fun x st1 => match x with
  | .bl k => .ok (.bl (!k)) st1
  | _ => .bad
theorem je_one {op} (h : JE X a m) : JE X (.BoolOp op [a] pos) m := fun W tk => pe_one (h W tk)
theorem je_and (ha : JE X a ma) (hb : JE X (.BoolOp .And (b :: rest) pos) mb) : JE X (.BoolOp .And (a :: b :: rest) pos) (mAnd ma mb) := fun W tk => by
  refine PE.weak (pe_and (ha W tk) (hb W tk)) fun σ H Q ⟨ι, ρ, st, S, sl, p⟩ => ?_
  refine ⟨ι, ρ, st, S, sl, Post.bind p fun w st1 ι1 H1 x l1 S1 r1 p1 => ?_⟩
  cases w with
  | bl k =>
    refine ⟨k, r1.bl_inv, ?_⟩
    cases k with
    | true => exact iteT ⟨ι1, ρ, st1, S1, sl.later l1, p1⟩
    | false => exact iteF (p1.okSame S1 Rep.bl)
  | _ => exact p1.elim
theorem je_or (ha : JE X a ma) (hb : JE X (.BoolOp .Or (b :: rest) pos) mb) : JE X (.BoolOp .Or (a :: b :: rest) pos) (mOr ma mb) := fun W tk => by
  refine PE.weak (pe_or (ha W tk) (hb W tk)) fun σ H Q ⟨ι, ρ, st, S, sl, p⟩ => ?_
  refine ⟨ι, ρ, st, S, sl, Post.bind p fun w st1 ι1 H1 x l1 S1 r1 p1 => ?_⟩
  cases w with
  | bl k =>
    refine ⟨k, r1.bl_inv, ?_⟩
    cases k with
    | true => exact iteT (p1.okSame S1 Rep.bl)
    | false => exact iteF ⟨ι1, ρ, st1, S1, sl.later l1, p1⟩
  | _ => exact p1.elim
theorem je_not (ha : JE X a ma) : JE X (.UnaryOp .Not a pos) (mNot ma) := fun W tk => by
  refine PE.weak (pe_not (ha W tk)) fun σ H Q ⟨ι, ρ, st, S, sl, p⟩ => ?_
  refine ⟨ι, ρ, st, S, sl, Post.bind p fun w st1 ι1 H1 x l1 S1 r1 p1 => ?_⟩
  cases w with
  | bl k => exact ⟨k, r1.bl_inv, p1.okSame S1 Rep.bl⟩
  | _ => exact p1.elim
@[reducible] def mIf (t : MT) (a b : ME) : ME := fun ρ st => (t ρ st).bind fun k st1 => if k = true then a ρ st1 else b ρ st1
theorem je_if (hc : JT X c t) (ha : JE X a ma) (hb : JE X b mb) : JE X (.IfExp c a b pos) (mIf t ma mb) := fun W tk => by
  refine PE.weak (pe_ifExp (hc W tk) (ha W tk) (hb W tk)) fun σ H Q ⟨ι, ρ, st, S, sl, p⟩ => ?_
  refine ⟨ι, ρ, st, S, sl, Post.bind p fun k st1 ι1 H1 k' l1 S1 r1 p1 => ?_⟩
  have r1 : k = k' := r1
  subst r1
  cases k with
  | true => exact iteT ⟨ι1, ρ, st1, S1, sl.later l1, p1⟩
  | false => exact iteF ⟨ι1, ρ, st1, S1, sl.later l1, p1⟩
end

/-! ### arguments, displays -/
@[reducible] def aNil : MA := fun _ st => .ok [] st
@[reducible] def aCons (m : ME) (t : MA) : MA := fun ρ st => (m ρ st).bind fun x st1 => (t ρ st1).bind fun xs st2 => .ok (x :: xs) st2
@[reducible] def mTup (t : MA) : ME := fun ρ st => (t ρ st).bind fun xs st1 => if xs.length ≤ sizeLine then .ok (.tup xs) st1 else .bad
@[reducible] def mLst (t : MA) : ME := fun ρ st => (t ρ st).bind fun xs st1 => if xs.length ≤ sizeLine then .ok (.ref st1.length) (st1 ++ [.lst xs]) else .bad
section
variable {X : Cx} {e a b c : Expr} {m ma mb mc : ME} {t : MA} {es : List Expr} {pos : Pos}
theorem ja_nil : JA X [] aNil := fun W tk => PA.weak pa_nil fun σ H Q ⟨ι, ρ, st, S, sl, p⟩ => p.okSame S Reps.nil
theorem ja_cons (ha : JE X e m) (hr : JA X es t) (hs : starEach (e :: es) X.env = (false, eval e X.env) :: starEach es X.env := by rfl) : JA X (e :: es) (aCons m t) := fun W tk => by
  refine PA.weak (pa_cons (ha W tk) (hr W tk) hs) fun σ H Q ⟨ι, ρ, st, S, sl, p⟩ => ?_
  refine ⟨ι, ρ, st, S, sl, Post.bind p fun w st1 ι1 H1 x l1 S1 r1 p1 => ?_⟩
  refine ⟨ι1, ρ, st1, S1, sl.later l1, Post.bind p1 fun ws st2 ι2 H2 xs l2 S2 r2 p2 => ?_⟩
  exact p2.okSame S2 (Reps.cons (Rep.later l2 r1) r2)
theorem je_tup {x1} (h : JA X es t) : JE X (.Tuple es x1 pos) (mTup t) := fun W tk => by
  refine PE.weak (pe_tup (h W tk)) fun σ H Q ⟨ι, ρ, st, S, sl, p⟩ => ?_
  refine ⟨ι, ρ, st, S, sl, Post.bind p fun ws st1 ι1 H1 xs l1 S1 r1 p1 => ?_⟩
  split at p1
  · rename_i hl
    exact ⟨by rw [← r1.length]; exact hl, fun q hq => p1.newTup S1 r1 hq⟩
  · exact p1.elim
theorem je_lst (h : JA X es t) : JE X (.List es pos) (mLst t) := fun W tk => by
  refine PE.weak (pe_lst (h W tk)) fun σ H Q ⟨ι, ρ, st, S, sl, p⟩ => ?_
  refine ⟨ι, ρ, st, S, sl, Post.bind p fun ws st1 ι1 H1 xs l1 S1 r1 p1 => ?_⟩
  split at p1
  · rename_i hl
    exact ⟨by rw [← r1.length]; exact hl, fun q hq => p1.newLst S1 r1 hq⟩
  · exact p1.elim
end

/-! ### calls of built-ins -/
def rC (K : PySem.W.Frag) (mg : Str → Option Value) (g : List Val → Store → R Val) : List V → Hp → VK → Prop := fun vs H Q =>
  ∃ ι st ws, Sim K mg ι st H ∧ Reps mg ι H ws vs ∧ Post K mg (rel1 mg) ι H Q (fun _ _ _ => False) (g ws st)
def MC (X : Cx) (f : Value) (g : List Val → Store → R Val) : Prop := CallR X f (rC X.K X.mg g)
@[reducible] def mApp (g : List Val → Store → R Val) (t : MA) : ME := fun ρ st => (t ρ st).bind fun ws st1 => g ws st1
section
variable {X : Cx} {e a b c : Expr} {m ma mb mc : ME} {t : MA} {es : List Expr} {pos p : Pos} {x : Str} {id T : String} {g : List Val → Store → R Val}
theorem app_read {W : WX} (hq : ∀ xs st, Quiet (g xs st)) {σ : L2.St} {H : Hp} {Q : VK} (h : rdG X.K X.mg (rel1 X.mg) W (mApp g t) σ H Q) :
    tCB (rC X.K X.mg g) (rdG X.K X.mg (relL X.mg) W t) σ H Q := by
  obtain ⟨ι, ρ, st, S, sl, p⟩ := h
  exact ⟨ι, ρ, st, S, sl, Post.bind p fun ws st1 ι1 H1 xs l1 S1 r1 p1 => ⟨ι1, st1, ws, S1, r1, noExc (hq _ _) p1⟩⟩
theorem je_callB (hc : MC X (.builtin id) g) (hq : ∀ xs st, Quiet (g xs st)) (hm : X.mg x = none) (hv : bootBuiltins x = some (.builtin id)) (ha : JA X (e :: es) t) (hg : Gl X x := by rfl) (hn : x ≠ "__name__" := by decide) (hdb : (x == ("__debug__" : Str)) = false := by decide)
    (he : starEach (e :: es) X.env = (false, eval e X.env) :: starEach es X.env := by rfl) (hpl : (backTo pos (starEach es X.env)).any (·.1) = false := by rfl) : JE X (.Call (.Name x p) (e :: es) [] pos) (mApp g t) := fun W tk =>
  PE.weak (pe_callB hc hg hm hv (ha W tk) hn hdb he hpl) fun σ H Q h => app_read hq h
theorem je_callTy (hc : MC X (.type T) g) (hq : ∀ xs st, Quiet (g xs st)) (hm : X.mg x = none) (hv : bootBuiltins x = some (.type T)) (ha : JA X (e :: es) t) (hg : Gl X x := by rfl) (hn : x ≠ "__name__" := by decide) (hdb : (x == ("__debug__" : Str)) = false := by decide)
    (he : starEach (e :: es) X.env = (false, eval e X.env) :: starEach es X.env := by rfl) (hpl : (backTo pos (starEach es X.env)).any (·.1) = false := by rfl) : JE X (.Call (.Name x p) (e :: es) [] pos) (mApp g t) := fun W tk =>
  PE.weak (pe_callTy hc hg hm hv (ha W tk) hn hdb he hpl) fun σ H Q h => app_read hq h
end

/-! ### subscripts -/
@[reducible] def vIx : Val → Val → Store → R Val
  | .tup xs, .int i, st => match atI xs i with
    | some w => .ok w st
    | none => .bad
  | .ref n, .int i, st => match seqAt st n with
    | some xs => match atI xs i with
      | some w => .ok w st
      | none => .bad
    | none => .bad
  | .str z, .int i, st => if z.length ≤ sizeLine then match atI z.cps.toList i with
      | some c => .ok (.str ⟨#[c]⟩) st
      | none => .bad
    else .bad
  | _, _, _ => .bad
theorem Reps.atI {mg : Str → Option Value} {ι : List Addr} {H : Hp} {ws : List Val} {vs : List V} (r : Reps mg ι H ws vs) {i : Int} {w : Val} (h : L2.atI ws i = some w) : ∃ v, L2.atI vs i = some v ∧ Rep mg ι H w v := by
  unfold L2.atI at h ⊢
  rw [← r.length]
  cases e : ixN ws.length i with
  | none => rw [e] at h; cases h
  | some j =>
    rw [e] at h
    exact r.get h
section
variable {X : Cx} {e a b c : Expr} {m ma mb mc : ME} {pos p2 : Pos}
theorem ix_all : IxR X (r2 X.K X.mg vIx) := by
  intro value slice pins s σ H x y v u Q I rx ry ⟨ι, st, w1, w2, S, r1, r2, p⟩ hs
  cases w2 with
  | int i =>
    have e2 := r2.int_inv
    subst e2
    cases w1 with
    | tup xs =>
      obtain ⟨q, vs, e1, hq, rr⟩ := r1.tup_inv
      subst e1
      dsimp only [vIx] at p
      split at p
      · rename_i w ew
        obtain ⟨z, ez, rz⟩ := rr.atI ew
        exact ix_tup value slice pins s σ H _ _ v u Q I rx ry ⟨q, vs, i, z, rfl, rfl, SqT.of hq, ez, p.okSame S rz⟩ hs
      · exact p.elim
    | ref n =>
      obtain ⟨q, e1, hq⟩ := r1.ref_inv
      subst e1
      dsimp only [vIx] at p
      cases es : seqAt st n with
      | none => rw [es] at p; exact p.elim
      | some xs =>
        rw [es] at p
        dsimp only at p
        obtain ⟨vs, hl, rr⟩ := S.seqL es hq
        split at p
        · rename_i w ew
          obtain ⟨z, ez, rz⟩ := rr.atI ew
          exact ix_list value slice pins s σ H _ _ v u Q I rx ry ⟨q, vs, i, z, rfl, rfl, hl, ez, p.okSame S rz⟩ hs
        · exact p.elim
    | str z =>
      have e1 := r1.str_inv
      subst e1
      dsimp only [vIx] at p
      split at p
      · rename_i hz
        split at p
        · rename_i c ec
          exact ix_str value slice pins s σ H _ _ v u Q I rx ry ⟨z, i, c, rfl, rfl, hz, ec, p.okSame S Rep.str⟩ hs
        · exact p.elim
      · exact p.elim
    | _ => exact p.elim
  | _ => cases w1 <;> exact p.elim
theorem quiet_ix : ∀ x y st, Quiet (vIx x y st) := by
  intro x y st ex st' h
  unfold vIx at h
  repeat (first | (split at h) | cases h)
theorem je_ix (ha : JE X a ma) (hb : JE X b mb) (hs : PlainIx b := by exact fun _ _ => rfl) : JE X (.Subscript a b pos) (mBin vIx ma mb) := JE.bin quiet_ix ha hb fun _ _ h1 h2 => pe_ix ix_all h1 h2 hs

/-! ### slices -/
abbrev MO := Slots → Store → R (Option Int)
abbrev relO : List Addr → Hp → Option Int → Option Int → Prop := fun _ _ a b => a = b
def JO (X : Cx) (e : Option Expr) (m : MO) : Prop := ∀ W, Takes X W → PO X e (rdG X.K X.mg relO W m)
theorem PO.weak {e : Option Expr} {t t' : TO} (h : PO X e t) (w : ∀ σ H Q, t' σ H Q → t σ H Q) : PO X e t' := ⟨fun pins s σ H Q I q => h.run pins s σ H Q I (w σ H Q q)⟩
@[reducible] def oNone : MO := fun _ st => .ok none st
@[reducible] def asI : Val → Store → R (Option Int)
  | .int i, st => .ok (some i) st
  | _, _ => .bad
@[reducible] def oSome (m : ME) : MO := fun ρ st => (m ρ st).bind asI
theorem jo_none : JO X none oNone := fun W tk => PO.weak po_none fun σ H Q ⟨ι, ρ, st, S, sl, p⟩ => p.okSame S rfl
theorem jo_some (h : JE X e m) : JO X (some e) (oSome m) := fun W tk => by
  refine PO.weak (po_some (h W tk)) fun σ H Q ⟨ι, ρ, st, S, sl, p⟩ => ?_
  refine ⟨ι, ρ, st, S, sl, Post.bind p fun w st1 ι1 H1 x l1 S1 r1 p1 => ?_⟩
  cases w with
  | int i => exact ⟨i, r1.int_inv, p1.okSame S1 rfl⟩
  | _ => exact p1.elim
/-- xs[lo:hi] -/
def cut {α : Type} (xs : List α) (lo hi : Option Int) : List α := (xs.drop (HT.sIx xs.length 0 lo)).take (HT.sIx xs.length xs.length hi - HT.sIx xs.length 0 lo)
theorem Reps.cut {mg : Str → Option Value} {ι : List Addr} {H : Hp} {ws : List Val} {vs : List V} (r : Reps mg ι H ws vs) (lo hi : Option Int) : Reps mg ι H (Ab.cut ws lo hi) (cutV vs lo hi) := by
  unfold Ab.cut cutV
  rw [r.length]
  exact (r.drop _).take _
@[reducible] def vCut : Val → Option Int → Option Int → Store → R Val
  | .tup xs, lo, hi, st => .ok (.tup (cut xs lo hi)) st
  | .ref n, lo, hi, st => match seqAt st n with
    | some xs => .ok (.ref st.length) (st ++ [.lst (cut xs lo hi)])
    | none => .bad
  | _, _, _, _ => .bad
theorem cut_whole {α : Type} {xs : List α} {lo hi : Option Int} (h : HT.sIx xs.length 0 lo = 0 ∧ HT.sIx xs.length xs.length hi = xs.length) : cut xs lo hi = xs := by
  unfold cut
  rw [h.1, h.2]
  simp
def rSl (K : PySem.W.Frag) (mg : Str → Option Value) : V → Option Int → Option Int → Hp → VK → Prop := fun x lo hi H Q =>
  ∃ ι st w, Sim K mg ι st H ∧ Rep mg ι H w x ∧ Post K mg (rel1 mg) ι H Q (fun _ _ _ => False) (vCut w lo hi st)
theorem sl_all : SlR X (rSl X.K X.mg) := by
  intro pins s σ H x v vl vu lo hi sl Q I rx hs pl pu ⟨ι, st, w, S, r, p⟩
  cases w with
  | tup xs =>
    obtain ⟨q, vs, e1, hq, rr⟩ := r.tup_inv
    subst e1
    refine sl_tupA pins s σ H _ v vl vu lo hi sl Q I rx hs pl pu ⟨q, vs, rfl, SqT.of hq, fun hw => ?_, fun _ z hz => p.newTup S (rr.cut lo hi) hz⟩
    rw [← rr.length] at hw
    dsimp only [vCut] at p
    rw [cut_whole hw] at p
    exact p.okSame S (Rep.tup hq rr)
  | ref n =>
    obtain ⟨q, e1, hq⟩ := r.ref_inv
    subst e1
    dsimp only [vCut] at p
    cases es : seqAt st n with
    | none => rw [es] at p; exact p.elim
    | some xs =>
      rw [es] at p
      obtain ⟨vs, hl, rr⟩ := S.seqL es hq
      exact sl_list pins s σ H _ v vl vu lo hi sl Q I rx hs pl pu ⟨q, vs, rfl, hl, fun z hz => p.newLst S (rr.cut lo hi) hz⟩
  | _ => exact p.elim
theorem quiet_cut : ∀ x lo hi st, Quiet (vCut x lo hi st) := by
  intro x lo hi st ex st' h
  unfold vCut at h
  repeat (first | (split at h) | cases h)
@[reducible] def mCut (a : ME) (lo hi : MO) : ME := fun ρ st => (a ρ st).bind fun x st1 => (lo ρ st1).bind fun l st2 => (hi ρ st2).bind fun h st3 => vCut x l h st3
theorem je_cut {lo hi : Option Expr} {mlo mhi : MO} (ha : JE X a ma) (hl : JO X lo mlo) (hh : JO X hi mhi) : JE X (.Subscript a (.Slice lo hi none p2) pos) (mCut ma mlo mhi) := fun W tk => by
  refine PE.weak (pe_slice sl_all (ha W tk) (hl W tk) (hh W tk)) fun σ H Q ⟨ι, ρ, st, S, sl, p⟩ => ?_
  refine ⟨ι, ρ, st, S, sl, Post.bind p fun w st1 ι1 H1 x l1 S1 r1 p1 => ?_⟩
  have sl1 := sl.later l1
  refine ⟨ι1, ρ, st1, S1, sl1, Post.bind p1 fun lo' st2 ι2 H2 lo'' l2 S2 r2 p2 => ?_⟩
  have sl2 := sl1.later l2
  have r2 : lo' = lo'' := r2
  subst r2
  refine ⟨ι2, ρ, st2, S2, sl2, Post.bind p2 fun hi' st3 ι3 H3 hi'' l3 S3 r3 p3 => ?_⟩
  have r3 : hi' = hi'' := r3
  subst r3
  exact ⟨ι3, st3, w, S3, Rep.later l3 (Rep.later l2 r1), noExc (quiet_cut _ _ _ _) p3⟩
end
end Ab

set_option Elab.async false
set_option linter.all false
set_option maxRecDepth 100000
/-! Ab: statements, targets, loops. -/
namespace Ab
open PySem PySem.Spec L2

@[reducible] def R.toO {α : Type} (r : R α) (ρ : Slots) (f : α → Store → O) : O := match r with
  | .ok a st => f a st
  | .exc x st => .exc x ρ st
  | .bad => .bad
@[reducible] def O.then (o : O) (f : Slots → Store → O) : O := match o with
  | .nx ρ st => f ρ st
  | .ret w st => .ret w st
  | .brk ρ st => .brk ρ st
  | .ct ρ st => .ct ρ st
  | .exc x ρ st => .exc x ρ st
  | .bad => .bad
section
variable {α β : Type} {K : PySem.W.Frag} {mg : Str → Option Value} {rel : List Addr → Hp → α → β → Prop} {ι : List Addr} {H : Hp} {W : WX} {D : Ends}
theorem PostO.bind {r : R α} {ρ : Slots} {σ : L2.St} {f : α → Store → O} {Q1 : β → Hp → Prop} (p : PostO K mg W ι H D (r.toO ρ f)) (sl : SlotsOk mg ι H ρ σ)
    (k : ∀ a st1 ι1 H1 b, Later ι H ι1 H1 → Sim K mg ι1 st1 H1 → rel ι1 H1 a b → PostO K mg W ι1 H1 D (f a st1) → Q1 b H1) : Post K mg rel ι H Q1 (fun c d H' => W c d σ H') r := by
  cases r with
  | ok a st1 => exact fun ι1 H1 b l S r => k a st1 ι1 H1 b l S r (PostO.later p l)
  | exc x st1 => exact fun ι1 H1 c d l S r => p ι1 H1 σ c d l S (sl.later l) r
  | bad => exact p
theorem PostO.nx_same {ρ : Slots} {σ : L2.St} {st : Store} (p : PostO K mg W ι H D (.nx ρ st)) (S : Sim K mg ι st H) (sl : SlotsOk mg ι H ρ σ) : D.nx σ H := p ι H σ (Later.refl _ _) S sl
theorem PostO.ret_same {w : Val} {v : V} {st : Store} (p : PostO K mg W ι H D (.ret w st)) (S : Sim K mg ι st H) (r : Rep mg ι H w v) : D.rt v H := p ι H v (Later.refl _ _) S r
end

/-! ### small statements -/
@[reducible] def sNext : MS := fun ρ st => .nx ρ st
@[reducible] def sSeq (a b : MS) : MS := fun ρ st => (a ρ st).then b
@[reducible] def sSet (i : Nat) (m : ME) : MS := fun ρ st => (m ρ st).toO ρ fun w st1 => .nx (ρ.set i (some w)) st1
@[reducible] def sRet (m : ME) : MS := fun ρ st => (m ρ st).toO ρ fun w st1 => .ret w st1
@[reducible] def sDrop (m : ME) : MS := fun ρ st => (m ρ st).toO ρ fun _ st1 => .nx ρ st1
@[reducible] def sIf (t : MT) (a b : MS) : MS := fun ρ st => (t ρ st).toO ρ fun k st1 => if k = true then a ρ st1 else b ρ st1
@[reducible] def sAug (i : Nat) (g : Val → Val → Store → R Val) (m : ME) : MS := fun ρ st => match ρ[i]? with
  | some (some x) => (m ρ st).toO ρ fun y st1 => (g x y st1).toO ρ fun z st2 => .nx (ρ.set i (some z)) st2
  | _ => .bad
@[reducible] def sBreak : MS := fun ρ st => .brk ρ st
@[reducible] def sCont : MS := fun ρ st => .ct ρ st
section
variable {X : Cx} {st : Stmt} {rest : List Stmt} {m1 m2 : MS} {e : Expr} {m : ME} {t : MT} {pos pos' : Pos}
theorem jss_nil : JSs X [] sNext := fun W tk => PSs.weak pss_nil fun D σ H ⟨ι, ρ, st, S, sl, p⟩ => p.nx_same S sl
theorem jss_cons (h1 : JS X st m1) (h2 : JSs X rest m2) : JSs X (st :: rest) (sSeq m1 m2) := fun W tk => by
  refine PSs.weak (pss_cons (h1 W tk) (h2 W tk)) fun D σ H ⟨ι, ρ, s, S, sl, p⟩ => ?_
  refine ⟨ι, ρ, s, S, sl, ?_⟩
  show PostO X.K X.mg W ι H { D with nx := rdS X.K X.mg W m2 D } (m1 ρ s)
  have p : PostO X.K X.mg W ι H D ((m1 ρ s).then m2) := p
  cases h : m1 ρ s with
  | nx ρ1 s1 =>
    rw [h] at p
    exact fun ι1 H1 σ1 l S1 sl1 => ⟨ι1, ρ1, s1, S1, sl1, PostO.later p l⟩
  | _ => rw [h] at p; exact p
theorem jss_one (h1 : JS X st m1) : JSs X [st] m1 := fun W tk => pss_one (h1 W tk)
theorem js_pass : JS X (.Pass pos) sNext := fun W tk => PS.weak ps_pass fun D σ H ⟨ι, ρ, st, S, sl, p⟩ => p.nx_same S sl
theorem js_break : JS X (.Break pos) sBreak := fun W tk => PS.weak ps_break fun D σ H ⟨ι, ρ, st, S, sl, p⟩ => p ι H σ (Later.refl _ _) S sl
theorem js_cont : JS X (.Continue pos) sCont := fun W tk => PS.weak ps_continue fun D σ H ⟨ι, ρ, st, S, sl, p⟩ => p ι H σ (Later.refl _ _) S sl
theorem js_set {i : Nat} {x : Str} (hN : X.N.Nodup) (he : JE X e m) (hi : X.N[i]? = some x := by rfl) (hx : Loc X.env.scope x := by first | exact .inl rfl | exact .inr rfl) (hs : swapsWith e (some (.Name x pos')) pos.line X.env = pure false := by rfl)
    (hf : X.fn x = true ∨ X.env.scope.names.lookup x = some .local := by first | exact .inl rfl | exact .inr rfl | assumption) : JS X (.Assign [.Name x pos'] e pos) (sSet i m) := fun W tk => by
  refine PS.weak (ps_set hN hi hx (he W tk) hs hf) fun D σ H ⟨ι, ρ, st, S, sl, p⟩ => ?_
  refine ⟨ι, ρ, st, S, sl, PostO.bind p sl fun w st1 ι1 H1 v l1 S1 r1 p1 => ?_⟩
  exact p1.nx_same S1 ((sl.later l1).set i r1)
theorem js_ret (he : JE X e m) : JS X (.Return (some e) pos) (sRet m) := fun W tk => by
  refine PS.weak (ps_ret (he W tk)) fun D σ H ⟨ι, ρ, st, S, sl, p⟩ => ?_
  exact ⟨ι, ρ, st, S, sl, PostO.bind p sl fun w st1 ι1 H1 v l1 S1 r1 p1 => p1.ret_same S1 r1⟩
theorem js_retN : JS X (.Return none pos) (sRet (mC .non)) := fun W tk => PS.weak ps_retN fun D σ H ⟨ι, ρ, st, S, sl, p⟩ => PostO.ret_same p S Rep.non
theorem js_expr (he : JE X e m) (hs : swapsWith e none pos.line X.env = pure false := by rfl) : JS X (.Expr e pos) (sDrop m) := fun W tk => by
  refine PS.weak (ps_expr (he W tk) hs) fun D σ H ⟨ι, ρ, st, S, sl, p⟩ => ?_
  exact ⟨ι, ρ, st, S, sl, PostO.bind p sl fun w st1 ι1 H1 v l1 S1 r1 p1 => p1.nx_same S1 (sl.later l1)⟩
theorem js_if {c : Expr} {a b : List Stmt} (hc : JT X c t) (ha : JSs X a m1) (hb : JSs X b m2) : JS X (.If c a b pos) (sIf t m1 m2) := fun W tk => by
  refine PS.weak (ps_if (hc W tk) (ha W tk) (hb W tk)) fun D σ H ⟨ι, ρ, st, S, sl, p⟩ => ?_
  refine ⟨ι, ρ, st, S, sl, PostO.bind p sl fun k st1 ι1 H1 k' l1 S1 r1 p1 => ?_⟩
  have r1 : k = k' := r1
  subst r1
  cases k with
  | true => exact iteT ⟨ι1, ρ, st1, S1, sl.later l1, p1⟩
  | false => exact iteF ⟨ι1, ρ, st1, S1, sl.later l1, p1⟩
/-- x op= e -/
theorem js_aug {i : Nat} {x : Str} {op : Operator} {g : Val → Val → Store → R Val} (hN : X.N.Nodup) (ho : M2 X (inplaceOp op) g) (hq : ∀ x y st, Quiet (g x y st)) (he : JE X e m) (hi : X.N[i]? = some x := by rfl) (hx : Loc X.env.scope x := by first | exact .inl rfl | exact .inr rfl)
    (hf : X.fn x = true ∨ X.env.scope.names.lookup x = some .local := by first | exact .inl rfl | exact .inr rfl | assumption) : JS X (.AugAssign (.Name x pos') op e pos) (sAug i g m) := fun W tk => by
  refine PS.weak (ps_aug hN hi hx (he W tk) (ti := r2 X.K X.mg g) ho hf) fun D σ H ⟨ι, ρ, st, S, sl, p⟩ => ?_
  dsimp only [sAug] at p
  split at p
  · rename_i w ew
    obtain ⟨v, ev, rv⟩ := sl.2 i w ew
    refine ⟨v, ev, ι, ρ, st, S, sl, PostO.bind p sl fun y st1 ι1 H1 yv l1 S1 r1 p1 => ?_⟩
    refine ⟨ι1, st1, w, y, S1, Rep.later l1 rv, r1, noExc (hq _ _ _) (PostO.bind (σ := σ) p1 (sl.later l1) fun z st2 ι2 H2 zv l2 S2 r2 p2 => ?_)⟩
    exact p2.nx_same S2 (((sl.later l1).later l2).set i r2)
  · exact p.elim
end

/-! ### targets -/
abbrev MG := Val → Slots → Store → Option (Slots × Store)
abbrev MGs := List Val → Slots → Store → Option (Slots × Store)
/-- all slots but those are as they were -/
def OutS (vs : List Nat) (σ σ' : L2.St) : Prop := σ'.length = σ.length ∧ ∀ i, i ∉ vs → σ'[i]? = σ[i]?
theorem OutS.refl (vs : List Nat) (σ : L2.St) : OutS vs σ σ := ⟨rfl, fun _ _ => rfl⟩
theorem OutS.mono {vs ws : List Nat} {σ σ' : L2.St} (h : OutS vs σ σ') (hs : ∀ i ∈ vs, i ∈ ws) : OutS ws σ σ' := ⟨h.1, fun i hi => h.2 i fun z => hi (hs i z)⟩
theorem OutS.trans {vs : List Nat} {σ σ1 σ2 : L2.St} (a : OutS vs σ σ1) (b : OutS vs σ1 σ2) : OutS vs σ σ2 := ⟨b.1.trans a.1, fun i hi => (b.2 i hi).trans (a.2 i hi)⟩
def PostG (K : PySem.W.Frag) (mg : Str → Option Value) (vs : List Nat) (ι : List Addr) (H : Hp) (σ : L2.St) (Q : L2.St → Hp → Prop) : Option (Slots × Store) → Prop
  | some (ρ, st) => ∀ ι' H' σ', Later ι H ι' H' → Sim K mg ι' st H' → SlotsOk mg ι' H' ρ σ' → OutS vs σ σ' → Q σ' H'
  | none => False
theorem PostG.later {K : PySem.W.Frag} {mg : Str → Option Value} {vs : List Nat} {σ : L2.St} {ι ι1 : List Addr} {H H1 : Hp} {Q : L2.St → Hp → Prop} {r : Option (Slots × Store)} (p : PostG K mg vs ι H σ Q r) (l : Later ι H ι1 H1) : PostG K mg vs ι1 H1 σ Q r := by
  cases r with
  | none => exact p
  | some x => exact fun ι' H' σ' l' => p ι' H' σ' (l.trans l')
theorem PostG.same {K : PySem.W.Frag} {mg : Str → Option Value} {vs : List Nat} {ι : List Addr} {H : Hp} {Q : L2.St → Hp → Prop} {ρ : Slots} {st : Store} {σ σ' : L2.St} (p : PostG K mg vs ι H σ Q (some (ρ, st))) (S : Sim K mg ι st H) (sl : SlotsOk mg ι H ρ σ') (o : OutS vs σ σ') : Q σ' H := p ι H σ' (Later.refl _ _) S sl o
def rdT (K : PySem.W.Frag) (mg : Str → Option Value) (vs : List Nat) (g : MG) : TG := fun v σ H Q => ∃ ι ρ st w, Sim K mg ι st H ∧ SlotsOk mg ι H ρ σ ∧ Rep mg ι H w v ∧ PostG K mg vs ι H σ Q (g w ρ st)
def rdTs (K : PySem.W.Frag) (mg : Str → Option Value) (is : List Nat) (g : MGs) : TGs := fun vs σ H Q => ∃ ι ρ st ws, Sim K mg ι st H ∧ SlotsOk mg ι H ρ σ ∧ Reps mg ι H ws vs ∧ PostG K mg is ι H σ Q (g ws ρ st)
def JG (X : Cx) (tg : Expr) (vs : List Nat) (g : MG) : Prop := PG X tg (rdT X.K X.mg vs g)
def JGs (X : Cx) (ts : List Expr) (vs : List Nat) (g : MGs) : Prop := PGs X ts (rdTs X.K X.mg vs g)
@[reducible] def gSet (i : Nat) : MG := fun w ρ st => some (ρ.set i (some w), st)
@[reducible] def gsNil : MGs := fun ws ρ st => match ws with
  | [] => some (ρ, st)
  | _ => none
@[reducible] def gsCons (g : MG) (h : MGs) : MGs := fun ws ρ st => match ws with
  | w :: ws => match g w ρ st with
    | some (ρ1, st1) => h ws ρ1 st1
    | none => none
  | [] => none
/-- a, b = a tuple -/
@[reducible] def gTupM (n : Nat) (h : MGs) : MG := fun w ρ st => match w with
  | .tup ws => if ws.length = n then h ws ρ st else none
  | _ => none
section
variable {X : Cx} {pos : Pos} {e : Expr} {es : List Expr} {g : MG} {h : MGs}
theorem PG.weak {tg : Expr} {t t' : TG} (h : PG X tg t) (w : ∀ v σ H Q, t' v σ H Q → t v σ H Q) : PG X tg t' := ⟨fun pins s σ H v u Q I r q => h.run pins s σ H v u Q I r (w v σ H Q q)⟩
theorem PGs.weak {tg : List Expr} {t t' : TGs} (h : PGs X tg t) (w : ∀ v σ H Q, t' v σ H Q → t v σ H Q) : PGs X tg t' := ⟨fun pins s σ H v u Q I r q => h.run pins s σ H v u Q I r (w v σ H Q q)⟩
theorem jg_name {i : Nat} {x : Str} (hN : X.N.Nodup) (hi : X.N[i]? = some x := by rfl) (hx : Loc X.env.scope x := by first | exact .inl rfl | exact .inr rfl) (hf : X.fn x = true ∨ X.env.scope.names.lookup x = some .local := by first | exact .inl rfl | exact .inr rfl | assumption) : JG X (.Name x pos) [i] (gSet i) :=
  PG.weak (pg_name hN hi hx hf) fun v σ H Q ⟨ι, ρ, st, w, S, sl, r, p⟩ => p.same S (sl.set i r) ⟨by simp, fun j hj => List.getElem?_set_ne (fun e => hj (by simp [e]))⟩
theorem jgs_nil : JGs X [] [] gsNil := PGs.weak pgs_nil fun vs σ H Q ⟨ι, ρ, st, ws, S, sl, r, p⟩ => by
  cases ws with
  | nil => exact ⟨r.of_nil, p.same S sl (OutS.refl _ _)⟩
  | cons w ws => exact p.elim
theorem jgs_cons {vs vs2 : List Nat} (h1 : JG X e vs g) (h2 : JGs X es vs2 h) (hs : (assignEach (e :: es) X.env).map (·.2) = assign e X.env :: (assignEach es X.env).map (·.2) := by rfl) : JGs X (e :: es) (vs ++ vs2) (gsCons g h) :=
  PGs.weak (pgs_cons h1 h2 hs) fun us σ H Q ⟨ι, ρ, st, ws, S, sl, r, p⟩ => by
    cases ws with
    | nil => exact p.elim
    | cons w ws =>
      obtain ⟨v, r', e1, r1, r2⟩ := r.of_cons
      refine ⟨v, r', e1, ι, ρ, st, w, S, sl, r1, ?_⟩
      dsimp only [gsCons] at p
      cases q : g w ρ st with
      | none => rw [q] at p; exact p.elim
      | some z =>
        rw [q] at p
        refine fun ι1 H1 σ1 l S1 sl1 o1 => ⟨ι1, z.1, z.2, ws, S1, sl1, r2.later l, ?_⟩
        have p := PostG.later p l
        dsimp only at p
        cases q2 : h ws z.1 z.2 with
        | none => rw [q2] at p; exact p.elim
        | some y =>
          rw [q2] at p
          exact fun ι2 H2 σ2 l2 S2 sl2 o2 => p ι2 H2 σ2 l2 S2 sl2 ((o1.mono fun i hi => List.mem_append_left _ hi).trans (o2.mono fun i hi => List.mem_append_right _ hi))
theorem jg_tup {k n : Nat} {vs : List Nat} (hc : X.calm = true) (hh : JGs X es vs h) (hn : (assignEach es X.env).length = n := by rfl) (hst : (assignEach es X.env).findIdx? (·.1) = none := by rfl) : JG X (.Tuple es k pos) vs (gTupM n h) :=
  PG.weak (pg_tup hc hh hn hst) fun v σ H Q ⟨ι, ρ, st, w, S, sl, r, p⟩ => by
    cases w with
    | tup ws =>
      obtain ⟨a, vs, e1, ha, rr⟩ := r.tup_inv
      dsimp only [gTupM] at p
      split at p
      · rename_i hl
        exact ⟨a, vs, e1, SqT.of ha, by rw [← rr.length]; exact hl, ι, ρ, st, ws, S, sl, rr, p⟩
      · exact p.elim
    | _ => exact p.elim
@[reducible] def sAsg (m : ME) (g : MG) : MS := fun ρ st => (m ρ st).toO ρ fun w st1 => match g w ρ st1 with
  | some (ρ1, st2) => .nx ρ1 st2
  | none => .bad
theorem js_asg {tg : Expr} {m : ME} {vs : List Nat} (he : JE X e m) (hg : JG X tg vs g) (hs : swapsWithSole [tg] e pos.line X.env = pure false := by rfl) (hw : swappedStores [tg] e X.env = pure none := by rfl)
    (h1 : (assignEach [tg] X.env).map (·.2) = [assign tg X.env] := by rfl) : JS X (.Assign [tg] e pos) (sAsg m g) := fun W tk => by
  refine PS.weak (ps_asg (he W tk) hg hs hw h1) fun D σ H ⟨ι, ρ, st, S, sl, p⟩ => ?_
  refine ⟨ι, ρ, st, S, sl, PostO.bind p sl fun w st1 ι1 H1 v l1 S1 r1 p1 => ?_⟩
  refine ⟨ι1, ρ, st1, w, S1, sl.later l1, r1, ?_⟩
  cases q : g w ρ st1 with
  | none => rw [q] at p1; exact p1.elim
  | some z => rw [q] at p1; exact fun ι2 H2 σ2 l2 S2 sl2 _ => p1 ι2 H2 σ2 l2 S2 sl2
/-- a, b = x, y, the names plain locals -/
@[reducible] def sPar (i j : Nat) (t : MA) : MS := fun ρ st => (t ρ st).toO ρ fun ws st1 => match ws with
  | [v, w] => .nx ((ρ.set i (some v)).set j (some w)) st1
  | _ => .bad
theorem js_par {i j : Nat} {x y : Str} {a b : Expr} {t : MA} {px py pt : Pos} {kt k2 pt2} (hc : X.calm = true) (hN : X.N.Nodup) (ha : JA X [a, b] t) (hi : X.N[i]? = some x := by rfl) (hj : X.N[j]? = some y := by rfl) (hij : i ≠ j := by decide)
    (hx : X.env.scope.names.lookup x = some .local := by rfl) (hy : X.env.scope.names.lookup y = some .local := by rfl)
    (hw : swappedStores [.Tuple [.Name x px, .Name y py] kt pt] (.Tuple [a, b] k2 pt2) X.env = pure (some [x, y]) := by rfl)
    (hs : swapsWithSole [.Tuple [.Name x px, .Name y py] kt pt] (.Tuple [a, b] k2 pt2) pos.line X.env = pure false := by rfl) :
    JS X (.Assign [.Tuple [.Name x px, .Name y py] kt pt] (.Tuple [a, b] k2 pt2) pos) (sPar i j t) := fun W tk => by
  refine PS.weak (ps_par hc hN hi hj hij hx hy (ha W tk) hw hs) fun D σ H ⟨ι, ρ, st, S, sl, p⟩ => ?_
  refine ⟨ι, ρ, st, S, sl, PostO.bind p sl fun ws st1 ι1 H1 vs l1 S1 r1 p1 => ?_⟩
  split at p1
  · rename_i v w
    obtain ⟨v', r', e1, q1, q2⟩ := Reps.of_cons r1
    obtain ⟨w', r'', e2, q3, q4⟩ := q2.of_cons
    have e3 := q4.of_nil
    subst e3; subst e2; subst e1
    exact ⟨v', w', rfl, p1.nx_same S1 (((sl.later l1).set i q1).set j q3)⟩
  · exact p1.elim
end

/-! ### what is walked -/
structure IsIt (K : PySem.W.Frag) (mg : Str → Option Value) (items : List Val) (okp : Store → Prop) (ι0 : List Addr) (H0 : Hp) (J : It) : Prop where
  go : ∀ (i : Nat) ι H st, Later ι0 H0 ι H → Sim K mg ι st H → okp st → i < items.length → J.go i H
  yld : ∀ (i : Nat) ι H st x H', Later ι0 H0 ι H → Sim K mg ι st H → okp st → i < items.length → J.yld i H x H' → Later ι H ι H' ∧ Sim K mg ι st H' ∧ ∃ w, items[i]? = some w ∧ Rep mg ι H' w x
  stop : ∀ (i : Nat) ι H st, Later ι0 H0 ι H → Sim K mg ι st H → okp st → i = items.length → J.stop i H
abbrev MI := Slots → Store → R (List Val × (Store → Prop))
abbrev relI (K : PySem.W.Frag) (mg : Str → Option Value) : List Addr → Hp → List Val × (Store → Prop) → It → Prop := fun ι H m J => IsIt K mg m.1 m.2 ι H J
def JI (X : Cx) (tg iter : Expr) (m : MI) : Prop := ∀ W, Takes X W → PI X tg iter (rdG X.K X.mg (relI X.K X.mg) W m)
open Classical in
noncomputable def forM (g : MG) (body : MS) (okp : Store → Prop) : List Val → Slots → Store → O
  | [], ρ, st => if okp st then .nx ρ st else .bad
  | w :: ws, ρ, st => if okp st then match g w ρ st with
      | none => .bad
      | some (ρ1, st1) => match body ρ1 st1 with
        | .nx ρ2 st2 => forM g body okp ws ρ2 st2
        | .ct ρ2 st2 => forM g body okp ws ρ2 st2
        | .brk ρ2 st2 => .nx ρ2 st2
        | o => o
    else .bad
@[reducible] noncomputable def sFor (mi : MI) (g : MG) (body : MS) : MS := fun ρ st => (mi ρ st).toO ρ fun it st1 => forM g body it.2 it.1 ρ st1
section
variable {X : Cx} {pos p : Pos} {iter tg e : Expr} {body : List Stmt} {mi : MI} {g : MG} {mb : MS} {m : ME} {t : MT}
theorem js_for {vs : List Nat} (hp : PassesOwn (model X.prog X.w) X.A X.env X.xe) (hc : X.calm = true) (hi : JI X tg iter mi) (hg : JG X tg vs g) (hb : JSs X body mb)
    (hs : ∀ x, foldedSetIterable iter X.env x = pure x := by intro _; rfl) : JS X (.For tg iter body [] pos) (sFor mi g mb) := fun W tk => by
  refine PS.weak (ps_for hp hc (hi W tk) hg (hb W tk) hs) fun D σ H ⟨ι, ρ, st, S, sl, p⟩ => ?_
  refine ⟨ι, ρ, st, S, sl, PostO.bind p sl fun it st1 ι1 H1 J l1 S1 r1 p1 => ?_⟩
  obtain ⟨items, okp⟩ := it
  have r1 : IsIt X.K X.mg items okp ι1 H1 J := r1
  refine ⟨fun i m σ' H' => ∃ ι' ρ' st', Later ι1 H1 ι' H' ∧ Sim X.K X.mg ι' st' H' ∧ SlotsOk X.mg ι' H' ρ' σ' ∧ m = items.length - i ∧ i ≤ items.length ∧ PostO X.K X.mg W ι' H' D (forM g mb okp (items.drop i) ρ' st'),
    ⟨items.length, ι1, ρ, st1, Later.refl _ _, S1, sl.later l1, by simp, Nat.zero_le _, by simpa using p1⟩, ?_⟩
  rintro i m σ2 H2 ⟨ι2, ρ2, st2, l2, S2, sl2, rfl, hi2, p2⟩
  by_cases hlt : i < items.length
  · rw [List.drop_eq_getElem_cons hlt] at p2
    unfold forM at p2
    split at p2
    · rename_i hok
      refine .inr ⟨r1.go i ι2 H2 st2 l2 S2 hok hlt, fun σ3 H3 => ∃ ι3 ρ3 st3, Later ι1 H1 ι3 H3 ∧ Sim X.K X.mg ι3 st3 H3 ∧ SlotsOk X.mg ι3 H3 ρ3 σ3 ∧ PostO X.K X.mg W ι3 H3 D (forM g mb okp (items.drop (i + 1)) ρ3 st3), ?_, ?_⟩
      · rintro σ3 H3 ⟨ι3, ρ3, st3, l3, S3, sl3, p3⟩
        exact ⟨items.length - (i + 1), by omega, ι3, ρ3, st3, l3, S3, sl3, rfl, hlt, p3⟩
      · intro x H3 hy
        obtain ⟨l3, S3, w, hw, rw_⟩ := r1.yld i ι2 H2 st2 x H3 l2 S2 hok hlt hy
        have hw' : items[i] = w := by rw [List.getElem?_eq_getElem hlt] at hw; exact Option.some.inj hw
        rw [hw'] at p2
        refine ⟨ι2, ρ2, st2, w, S3, sl2.later l3, rw_, ?_⟩
        cases q : g w ρ2 st2 with
        | none => rw [q] at p2; exact p2.elim
        | some z =>
          obtain ⟨ρ4, st4⟩ := z
          rw [q] at p2
          dsimp only at p2
          intro ι4 H4 σ4 l4 S4 sl4 _
          refine ⟨ι4, ρ4, st4, S4, sl4, ?_⟩
          have l14 := (l2.trans l3).trans l4
          have p2 := PostO.later (PostO.later p2 l3) l4
          cases qb : mb ρ4 st4 with
          | nx ρ5 st5 => rw [qb] at p2; exact fun ι5 H5 σ5 l5 S5 sl5 => ⟨ι5, ρ5, st5, l14.trans l5, S5, sl5, PostO.later p2 l5⟩
          | ct ρ5 st5 => rw [qb] at p2; exact fun ι5 H5 σ5 l5 S5 sl5 => ⟨ι5, ρ5, st5, l14.trans l5, S5, sl5, PostO.later p2 l5⟩
          | brk ρ5 st5 => rw [qb] at p2; exact p2
          | ret v5 st5 => rw [qb] at p2; exact p2
          | exc x5 ρ5 st5 => rw [qb] at p2; exact p2
          | bad => rw [qb] at p2; exact p2
    · exact p2.elim
  · have hle : items.length ≤ i := by omega
    rw [List.drop_eq_nil_of_le hle] at p2
    unfold forM at p2
    split at p2
    · rename_i hok
      exact .inl ⟨r1.stop i ι2 H2 st2 l2 S2 hok (by omega), p2.nx_same S2 sl2⟩
    · exact p2.elim

/-- over a list or a tuple -/
theorem isIt_list {K : PySem.W.Frag} {mg : Str → Option Value} {n : Nat} {xs : List Val} {ι : List Addr} {H : Hp} {a : Addr} (ha : ι[n]? = some a) : IsIt K mg xs (fun st => seqAt st n = some xs) ι H (Itl K a) := by
  have at_ : ∀ {ι1 : List Addr} {H1 : Hp} {st : Store}, Later ι H ι1 H1 → Sim K mg ι1 st H1 → seqAt st n = some xs → ∃ vs, SqL K H1 a vs ∧ Reps mg ι1 H1 xs vs := fun l S ok => S.seqL ok (l.get ha)
  refine ⟨fun i ι1 H1 st l S ok hi => ?_, fun i ι1 H1 st x H' l S ok hi hy => ?_, fun i ι1 H1 st l S ok hi => ?_⟩
  · obtain ⟨vs, h1, r⟩ := at_ l S ok
    have hl := r.length
    exact ⟨vs, vs[i], h1, by simp⟩
  · obtain ⟨vs, h1, r⟩ := at_ l S ok
    obtain ⟨e, f⟩ := hy
    subst e
    obtain ⟨w, hw, rr⟩ := r.get' (f vs h1)
    exact ⟨Later.refl _ _, S, w, hw, rr⟩
  · obtain ⟨vs, h1, r⟩ := at_ l S ok
    exact ⟨vs, h1, by rw [← r.length]; exact Nat.le_of_eq hi.symm⟩
theorem isIt_tup {K : PySem.W.Frag} {mg : Str → Option Value} {xs : List Val} {ι : List Addr} {H : Hp} {a : Addr} {vs : List V} (ha : H a = some (.tup vs)) (r : Reps mg ι H xs vs) : IsIt K mg xs (fun _ => True) ι H (Itt K a) := by
  refine ⟨fun i ι1 H1 st l S ok hi => ?_, fun i ι1 H1 st x H' l S ok hi hy => ?_, fun i ι1 H1 st l S ok hi => ?_⟩
  · have hl := r.length
    exact ⟨vs, vs[i], SqT.of (l.tups _ _ ha), by simp⟩
  · obtain ⟨e, f⟩ := hy
    subst e
    obtain ⟨w, hw, rr⟩ := (r.later l).get' (f vs (SqT.of (l.tups _ _ ha)))
    exact ⟨Later.refl _ _, S, w, hw, rr⟩
  · exact ⟨vs, SqT.of (l.tups _ _ ha), by rw [← r.length]; exact Nat.le_of_eq hi.symm⟩
theorem isIt_range {K : PySem.W.Frag} {mg : Str → Option Value} {lo : Int} {n : Nat} {ι : List Addr} {H : Hp} : IsIt K mg ((List.range n).map fun (i : Nat) => Val.int (lo + i)) (fun _ => True) ι H (Itr lo n) := by
  refine ⟨fun i ι1 H1 st l S ok hi => (show i < n by simpa using hi), fun i ι1 H1 st x H' l S ok hi hy => ?_, fun i ι1 H1 st l S ok hi => (show n ≤ i by simp at hi; omega)⟩
  obtain ⟨e1, e2⟩ := hy
  subst e1; subst e2
  have hi : i < n := by simpa using hi
  exact ⟨Later.refl _ _, S, .int (lo + i), by simp [hi], Rep.int⟩
@[reducible] def vIter : Val → Store → R (List Val × (Store → Prop))
  | .tup xs, st => .ok (xs, fun _ => True) st
  | .ref n, st => match seqAt st n with
    | some xs => .ok (xs, fun st' => seqAt st' n = some xs) st
    | none => .bad
  | _, _ => .bad
/-- a tuple, a list: one rule each, chosen by what the value is -/
theorem ji_tup (h : JE X e m) : JI X tg e (fun ρ st => (m ρ st).bind fun w st1 => match w with
    | .tup xs => .ok (xs, fun _ => True) st1
    | _ => .bad) := fun W tk => by
  refine ⟨fun pins s σ H R I hw => (pi_tup (h W tk)).run pins s σ H R I ?_⟩
  obtain ⟨ι, ρ, st, S, sl, p⟩ := hw
  refine ⟨ι, ρ, st, S, sl, Post.bind p fun w st1 ι1 H1 x l1 S1 r1 p1 => ?_⟩
  cases w with
  | tup xs =>
    obtain ⟨a, vs, e1, ha, rr⟩ := r1.tup_inv
    exact ⟨a, e1, ⟨vs, SqT.of ha⟩, p1.okSame S1 (isIt_tup ha rr)⟩
  | _ => exact p1.elim
theorem ji_list (h : JE X e m) : JI X tg e (fun ρ st => (m ρ st).bind fun w st1 => match w with
    | .ref n => match seqAt st1 n with
      | some xs => .ok (xs, fun st' => seqAt st' n = some xs) st1
      | none => .bad
    | _ => .bad) := fun W tk => by
  refine ⟨fun pins s σ H R I hw => (pi_list (h W tk)).run pins s σ H R I ?_⟩
  obtain ⟨ι, ρ, st, S, sl, p⟩ := hw
  refine ⟨ι, ρ, st, S, sl, Post.bind p fun w st1 ι1 H1 x l1 S1 r1 p1 => ?_⟩
  cases w with
  | ref n =>
    obtain ⟨a, e1, ha⟩ := r1.ref_inv
    dsimp only at p1
    cases q : seqAt st1 n with
    | none => rw [q] at p1; exact p1.elim
    | some xs =>
      rw [q] at p1
      obtain ⟨vs, h1, _⟩ := S1.seqL q ha
      exact ⟨a, e1, ⟨vs, h1⟩, p1.okSame S1 (isIt_list ha)⟩
  | _ => exact p1.elim
@[reducible] def iRange1 (t : MA) : MI := fun ρ st => (t ρ st).bind fun ws st1 => match ws with
  | [.int j] => if -(2 ^ 62) ≤ j ∧ j < 2 ^ 62 then .ok ((List.range j.toNat).map fun (i : Nat) => Val.int (0 + i), fun _ => True) st1 else .bad
  | _ => .bad
theorem ji_range1 {a : Expr} {t : MA} (hm : X.mg "range" = none) (ha : JA X [a] t) (hg : Gl X "range" := by rfl) (hs : starEach [a] X.env = [(false, eval a X.env)] := by rfl) : JI X tg (.Call (.Name "range" p) [a] [] pos) (iRange1 t) := fun W tk => by
  refine ⟨fun pins s σ H R I hw => (pi_range1 hg hm (ha W tk) hs).run pins s σ H R I ?_⟩
  obtain ⟨ι, ρ, st, S, sl, p⟩ := hw
  refine ⟨ι, ρ, st, S, sl, Post.bind p fun ws st1 ι1 H1 vs l1 S1 r1 p1 => ?_⟩
  split at p1
  · rename_i j
    split at p1
    · rename_i hj
      obtain ⟨v, r, e1, q1, q2⟩ := Reps.of_cons r1
      have e2 := q1.int_inv
      have e3 := q2.of_nil
      subst e1; subst e2; subst e3
      exact ⟨j, rfl, hj.1, hj.2, p1.okSame S1 isIt_range⟩
    · exact p1.elim
  · exact p1.elim
@[reducible] def iRange2 (t : MA) : MI := fun ρ st => (t ρ st).bind fun ws st1 => match ws with
  | [.int i, .int j] => if -(2 ^ 62) ≤ i ∧ i < 2 ^ 62 ∧ -(2 ^ 62) ≤ j ∧ j < 2 ^ 62 then .ok ((List.range (j - i).toNat).map fun (k : Nat) => Val.int (i + k), fun _ => True) st1 else .bad
  | _ => .bad
theorem ji_range2 {a b : Expr} {t : MA} (hm : X.mg "range" = none) (ha : JA X [a, b] t) (hg : Gl X "range" := by rfl) (hs : starEach [a, b] X.env = [(false, eval a X.env), (false, eval b X.env)] := by rfl) (hs2 : starEach [b] X.env = [(false, eval b X.env)] := by rfl) :
    JI X tg (.Call (.Name "range" p) [a, b] [] pos) (iRange2 t) := fun W tk => by
  refine ⟨fun pins s σ H R I hw => (pi_range2 hg hm (ha W tk) hs hs2).run pins s σ H R I ?_⟩
  obtain ⟨ι, ρ, st, S, sl, p⟩ := hw
  refine ⟨ι, ρ, st, S, sl, Post.bind p fun ws st1 ι1 H1 vs l1 S1 r1 p1 => ?_⟩
  split at p1
  · rename_i i j
    split at p1
    · rename_i hj
      obtain ⟨v, r, e1, q1, q2⟩ := Reps.of_cons r1
      obtain ⟨v', r', e1', q1', q2'⟩ := q2.of_cons
      have e2 := q1.int_inv
      have e2' := q1'.int_inv
      have e3 := q2'.of_nil
      subst e1; subst e1'; subst e2; subst e2'; subst e3
      exact ⟨i, j, rfl, hj, p1.okSame S1 isIt_range⟩
    · exact p1.elim
  · exact p1.elim

/-! ### while -/
def whileN (t : MT) (body : MS) : Nat → Slots → Store → Option O
  | 0, _, _ => none
  | n + 1, ρ, st => match t ρ st with
    | .ok true st1 => match body ρ st1 with
      | .nx ρ2 st2 => whileN t body n ρ2 st2
      | .ct ρ2 st2 => whileN t body n ρ2 st2
      | .brk ρ2 st2 => some (.nx ρ2 st2)
      | o => some o
    | .ok false st1 => some (.nx ρ st1)
    | .exc x st1 => some (.exc x ρ st1)
    | .bad => some .bad
open Classical in
noncomputable def sWhile (t : MT) (body : MS) : MS := fun ρ st => if h : ∃ o n, whileN t body n ρ st = some o then Classical.choose h else .bad
theorem whileN_mono {t : MT} {body : MS} : ∀ {n : Nat} {ρ : Slots} {st : Store} {o : O}, whileN t body n ρ st = some o → whileN t body (n + 1) ρ st = some o
  | 0, _, _, _, h => by cases h
  | n + 1, ρ, st, o, h => by
    unfold whileN at h ⊢
    cases q : t ρ st with
    | exc x s => rw [q] at h; exact h
    | bad => rw [q] at h; exact h
    | ok k s =>
      rw [q] at h
      cases k with
      | false => exact h
      | true =>
        dsimp only at h ⊢
        cases qb : body ρ s with
        | nx ρ2 s2 => rw [qb] at h; exact whileN_mono h
        | ct ρ2 s2 => rw [qb] at h; exact whileN_mono h
        | brk ρ2 s2 => rw [qb] at h; exact h
        | ret v s2 => rw [qb] at h; exact h
        | exc x ρ2 s2 => rw [qb] at h; exact h
        | bad => rw [qb] at h; exact h
theorem whileN_le {t : MT} {body : MS} {n m : Nat} {ρ : Slots} {st : Store} {o : O} (h : whileN t body n ρ st = some o) (hl : n ≤ m) : whileN t body m ρ st = some o := by
  induction hl with
  | refl => exact h
  | step _ ih => exact whileN_mono ih
theorem sWhile_eq {t : MT} {body : MS} {n : Nat} {ρ : Slots} {st : Store} {o : O} (h : whileN t body n ρ st = some o) : sWhile t body ρ st = o := by
  have hx : ∃ o n, whileN t body n ρ st = some o := ⟨o, n, h⟩
  unfold sWhile
  rw [dif_pos hx]
  obtain ⟨m, hm⟩ := Classical.choose_spec hx
  have h1 := whileN_le h (Nat.le_max_left n m)
  have h2 := whileN_le hm (Nat.le_max_right n m)
  rw [h1] at h2
  exact (Option.some.inj h2).symm
theorem js_while {c : Expr} (hp : PassesOwn (model X.prog X.w) X.A X.env X.xe) (hc : JT X c t) (hb : JSs X body mb) : JS X (.While c body [] pos) (sWhile t mb) := fun W tk => by
  refine PS.weak (ps_while hp (hc W tk) (hb W tk)) fun D σ H ⟨ι, ρ, st, S, sl, p⟩ => ?_
  by_cases hx : ∃ o n, whileN t mb n ρ st = some o
  · obtain ⟨o, n, hn⟩ := hx
    rw [sWhile_eq hn] at p
    refine ⟨fun m σ1 H1 => ∃ ι1 ρ1 st1 o, Sim X.K X.mg ι1 st1 H1 ∧ SlotsOk X.mg ι1 H1 ρ1 σ1 ∧ whileN t mb m ρ1 st1 = some o ∧ PostO X.K X.mg W ι1 H1 D o, ⟨n, ι, ρ, st, o, S, sl, hn, p⟩, ?_⟩
    rintro m σ1 H1 ⟨ι1, ρ1, st1, o1, S1, sl1, h1, p1⟩
    refine ⟨ι1, ρ1, st1, S1, sl1, ?_⟩
    cases m with
    | zero => cases h1
    | succ m =>
      unfold whileN at h1
      cases q : t ρ1 st1 with
      | bad => rw [q] at h1; cases h1; exact p1
      | exc x s => rw [q] at h1; cases h1; exact fun ι2 H2 c d l S2 r => p1 ι2 H2 σ1 c d l S2 (sl1.later l) r
      | ok k s =>
        rw [q] at h1
        intro ι2 H2 k' l2 S2 e
        have e : k = k' := e
        subst e
        have sl2 := sl1.later l2
        have p2 := PostO.later p1 l2
        cases k with
        | false =>
          cases h1
          exact iteF (p2.nx_same S2 sl2)
        | true =>
          refine iteT ⟨fun σ3 H3 => ∃ ι3 ρ3 st3 o, Sim X.K X.mg ι3 st3 H3 ∧ SlotsOk X.mg ι3 H3 ρ3 σ3 ∧ whileN t mb m ρ3 st3 = some o ∧ PostO X.K X.mg W ι3 H3 D o, fun σ3 H3 h => ⟨m, Nat.lt_succ_self _, h⟩, ι2, ρ1, s, S2, sl2, ?_⟩
          dsimp only at h1
          cases qb : mb ρ1 s with
          | nx ρ3 s3 => rw [qb] at h1; exact fun ι3 H3 σ3 l3 S3 sl3 => ⟨ι3, ρ3, s3, o1, S3, sl3, h1, PostO.later p2 l3⟩
          | ct ρ3 s3 => rw [qb] at h1; exact fun ι3 H3 σ3 l3 S3 sl3 => ⟨ι3, ρ3, s3, o1, S3, sl3, h1, PostO.later p2 l3⟩
          | brk ρ3 s3 => rw [qb] at h1; cases h1; exact p2
          | ret v s3 => rw [qb] at h1; cases h1; exact p2
          | exc x ρ3 s3 => rw [qb] at h1; cases h1; exact p2
          | bad => rw [qb] at h1; cases h1; exact p2
  · unfold sWhile at p
    rw [dif_neg hx] at p
    exact p.elim
end
end Ab

set_option Elab.async false
set_option linter.all false
set_option maxRecDepth 100000
/-! Ab: attributes, calls of defs, methods, properties, instances. -/
namespace Ab
open PySem PySem.Spec L2

/-! ### attributes -/
/-- the class of that number: its attribute f is the instance's own -/
def FldOk (K : PySem.W.Frag) (mg : Str → Option Value) (C f : Nat) : Prop := f < nmN ∧ ∀ Ca, mg (nm C) = some (.ref Ca) → Cls K Ca ∧ NoAttr K Ca (nm f)
@[reducible] def vFld (cs : List Nat) (f : Nat) : Val → Store → R Val
  | .ref n, st => match st[n]? with
    | some (.ins C fs) => if C ∈ cs then match fs.lookup f with
        | some w => .ok w st
        | none => .bad
      else .bad
    | _ => .bad
  | _, _ => .bad
@[reducible] def mFld (cs : List Nat) (f : Nat) (m : ME) : ME := fun ρ st => (m ρ st).bind (vFld cs f)
@[reducible] def sFldM (cs : List Nat) (f : Nat) (mo mv : ME) : MS := fun ρ st => (mv ρ st).toO ρ fun w st1 => (mo ρ st1).toO ρ fun x st2 => match x with
  | .ref n => match st2[n]? with
    | some (.ins C fs) => if C ∈ cs ∧ fs.length < 1000 then .nx ρ (st2.set n (.ins C (putM f w fs))) else .bad
    | _ => .bad
  | _ => .bad
@[reducible] def sFldAugM (cs : List Nat) (f : Nat) (g : Val → Val → Store → R Val) (mo mv : ME) : MS := fun ρ st => (mo ρ st).toO ρ fun x st1 => match x with
  | .ref n => match st1[n]? with
    | some (.ins C fs) => if C ∈ cs then match fs.lookup f with
        | some w => (mv ρ st1).toO ρ fun y st2 => (g w y st2).toO ρ fun z st3 => match st3[n]? with
          | some (.ins C' fs') => if C' = C ∧ fs'.length < 1000 then .nx ρ (st3.set n (.ins C (putM f z fs'))) else .bad
          | _ => .bad
        | none => .bad
      else .bad
    | _ => .bad
  | _ => .bad
theorem Sim.putIns {K : PySem.W.Frag} {mg : Str → Option Value} {ι : List Addr} {st : Store} {H : Hp} (S : Sim K mg ι st H) {n C f : Nat} {fs : List (Nat × Val)} (h : st[n]? = some (.ins C fs)) {a Ca dx : Addr} (ha : ι[n]? = some a) {vs : List (Str × V)} (hH : H a = some (.ins Ca dx vs)) (hC : mg (nm C) = some (.ref Ca))
    (r : RepF mg ι H fs vs) (hf : f < nmN) {w : Val} {v : V} (rw_ : Rep mg ι H w v) : Sim K mg ι (st.set n (.ins C (putM f w fs))) (upd H a (.ins Ca dx (putF (nm f) v vs))) ∧ Later ι H ι (upd H a (.ins Ca dx (putF (nm f) v vs))) := by
  refine S.write h ha rfl rfl hH (fun _ e => by cases e) (fun _ _ e => by cases e) ⟨Ca, dx, _, hC, upd_same, ?_⟩
  refine (r.put hf rw_).later ⟨⟨[], by simp⟩, fun b xs e => ?_, fun b ob ks e => ?_⟩
  · rw [upd_ne fun q => by subst q; rw [hH] at e; cases e]
    exact e
  · rw [upd_ne fun q => by subst q; rw [hH] at e; cases e]
    exact e
section
variable {X : Cx} {e o value : Expr} {m mo mv : ME} {pos pos' : Pos} {cs : List Nat} {f : Nat} {fN : Str}
theorem je_fld (hc : ∀ C ∈ cs, FldOk X.K X.mg C f) (he : JE X e m) (hn : fN = nm f := by decide +kernel) (hb : attributeBase e fN X.env (eval e X.env) = eval e X.env := by rfl) : JE X (.Attribute e fN pos) (mFld cs f m) := fun W tk => by
  subst hn
  refine PE.weak (pe_fld (he W tk) hb) fun σ H Q ⟨ι, ρ, st, S, sl, p⟩ => ?_
  refine ⟨ι, ρ, st, S, sl, Post.bind p fun w st1 ι1 H1 x l1 S1 r1 p1 => ?_⟩
  cases w with
  | ref n =>
    obtain ⟨a, e1, ha⟩ := r1.ref_inv
    dsimp only [vFld] at p1
    split at p1
    · rename_i C fs ec
      split at p1
      · rename_i hC
        obtain ⟨Ca, dx, vs, e2, e3, rf⟩ := S1.at ec ha
        obtain ⟨hf, hk⟩ := hc C hC
        obtain ⟨c1, c2⟩ := hk Ca e2
        cases q : fs.lookup f with
        | none => rw [q] at p1; exact p1.elim
        | some w =>
          rw [q] at p1
          obtain ⟨v, hv, rv⟩ := rf.lookup hf q
          exact ⟨a, Ca, dx, vs, v, e1, e3, c1, c2, hv, p1.okSame S1 rv⟩
      · exact p1.elim
    · exact p1.elim
  | _ => exact p1.elim
theorem js_fld (hc : ∀ C ∈ cs, FldOk X.K X.mg C f) (ho : JE X o mo) (hv : JE X value mv) (hn : fN = nm f := by decide +kernel) (hs : swapsWith value (some (.Attribute o fN pos')) pos.line X.env = pure false := by rfl) : JS X (.Assign [.Attribute o fN pos'] value pos) (sFldM cs f mo mv) := fun W tk => by
  subst hn
  refine PS.weak (ps_fld (ho W tk) (hv W tk) hs) fun D σ H ⟨ι, ρ, st, S, sl, p⟩ => ?_
  refine ⟨ι, ρ, st, S, sl, PostO.bind p sl fun w st1 ι1 H1 y l1 S1 r1 p1 => ?_⟩
  have sl1 := sl.later l1
  refine ⟨ι1, ρ, st1, S1, sl1, PostO.bind p1 sl1 fun x st2 ι2 H2 xv l2 S2 r2 p2 => ?_⟩
  cases x with
  | ref n =>
    obtain ⟨a, e1, ha⟩ := r2.ref_inv
    dsimp only at p2
    split at p2
    · rename_i C fs ec
      split at p2
      · rename_i hC
        obtain ⟨Ca, dx, vs, e2, e3, rf⟩ := S2.at ec ha
        obtain ⟨hf, hk⟩ := hc C hC.1
        obtain ⟨c1, c2⟩ := hk Ca e2
        obtain ⟨S3, l3⟩ := S2.putIns ec ha e3 e2 rf hf (Rep.later l2 r1)
        exact ⟨a, Ca, dx, vs, e1, e3, c1, c2, by rw [← rf.length]; exact hC.2, p2 ι2 _ σ l3 S3 ((sl1.later l2).later l3)⟩
      · exact p2.elim
    · exact p2.elim
  | _ => exact p2.elim
theorem js_fldaug {op : Operator} {g : Val → Val → Store → R Val} (ho' : M2 X (inplaceOp op) g) (hq : ∀ x y st, Quiet (g x y st)) (hc : ∀ C ∈ cs, FldOk X.K X.mg C f) (ho : JE X o mo) (hv : JE X value mv) (hn : fN = nm f := by decide +kernel) : JS X (.AugAssign (.Attribute o fN pos') op value pos) (sFldAugM cs f g mo mv) := fun W tk => by
  subst hn
  refine PS.weak (ps_fldaug (rd := r2 X.K X.mg g) (ho W tk) (hv W tk) (fun pins s σ H x y u v Q I r1 r2 h => ho' pins s σ H x y u v Q I r1 r2 h)) fun D σ H ⟨ι, ρ, st, S, sl, p⟩ => ?_
  refine ⟨ι, ρ, st, S, sl, PostO.bind p sl fun x st1 ι1 H1 xv l1 S1 r1 p1 => ?_⟩
  have sl1 := sl.later l1
  cases x with
  | ref n =>
    obtain ⟨a, e1, ha⟩ := r1.ref_inv
    dsimp only at p1
    split at p1
    · rename_i C fs ec
      split at p1
      · rename_i hC
        obtain ⟨Ca, dx, vs, e2, e3, rf⟩ := S1.at ec ha
        obtain ⟨hf, hk⟩ := hc C hC
        obtain ⟨c1, c2⟩ := hk Ca e2
        cases q : fs.lookup f with
        | none => rw [q] at p1; exact p1.elim
        | some w =>
          rw [q] at p1
          obtain ⟨v, hv, rv⟩ := rf.lookup hf q
          refine ⟨a, Ca, dx, vs, v, e1, e3, c1, c2, hv, ι1, ρ, st1, S1, sl1, PostO.bind p1 sl1 fun y st2 ι2 H2 yv l2 S2 r2 p2 => ?_⟩
          have sl2 := sl1.later l2
          refine ⟨ι2, st2, w, y, S2, Rep.later l2 rv, r2, noExc (hq _ _ _) (PostO.bind (σ := σ) p2 sl2 fun z st3 ι3 H3 zv l3 S3 r3 p3 => ?_)⟩
          have sl3 := sl2.later l3
          have ha3 := (l2.trans l3).get ha
          split at p3
          · rename_i C' fs' ec'
            split at p3
            · rename_i hl
              obtain ⟨e5, hl⟩ := hl
              subst e5
              obtain ⟨Ca', dx', vs', e2', e3', rf'⟩ := S3.at ec' ha3
              rw [e2] at e2'
              cases e2'
              obtain ⟨S4, l4⟩ := S3.putIns ec' ha3 e3' e2 rf' hf r3
              exact ⟨dx', vs', e3', by rw [← rf'.length]; exact hl, p3 ι3 _ σ l4 S4 (sl3.later l4)⟩
            · exact p3.elim
          · exact p3.elim
      · exact p1.elim
    · exact p1.elim
  | _ => exact p1.elim
end

/-! ### defs -/
/-- the promise: what the mirror computes -/
def spM (K : PySem.W.Frag) (mg : Str → Option Value) (f : MF) : Sp := fun vs H Q E => ∃ ι ws st, Sim K mg ι st H ∧ Reps mg ι H ws vs ∧ Post K mg (rel1 mg) ι H Q E (f ws st)
/-- what a call asks: where one stands -/
structure Wh where
  P : Program
  w : World
  K : PySem.W.Frag
  mg : Str → Option Value
  base : Heap
@[reducible] def Cx.wh (X : Cx) : Wh := ⟨X.prog, X.w, X.K, X.mg, X.base⟩
/-- at f stands a def that keeps the mirror's promise -/
def FnM (T : Wh) (k n : Nat) (f : Addr) (mf : MF) : Prop := ∃ fd ps, ps.length = n ∧ PySem.W.keepIn T.K (.ref f) = true ∧ Binds T.K fd ps [] ∧ FnOk T.P T.w T.K T.mg T.base (L2.CX T.P T.w) k f fd ps (spM T.K T.mg mf)
def Has (T : Wh) (x : Str) (k n : Nat) (mf : MF) : Prop := ∃ f, T.mg x = some (.ref f) ∧ FnM T k n f mf
/-- the class of that number has the method -/
def HasM (T : Wh) (C : Nat) (m : Str) (k n : Nat) (mf : MF) : Prop := m ∉ nmT ∧ ∀ Ca, T.mg (nm C) = some (.ref Ca) → ∃ f, Cls T.K Ca ∧ Meth T.K Ca m f ∧ FnM T k n f mf
def HasP (T : Wh) (C : Nat) (m : Str) (k : Nat) (mf : MF) : Prop := ∀ Ca, T.mg (nm C) = some (.ref Ca) → ∃ p f, Cls T.K Ca ∧ PropOf T.K Ca m p f ∧ FnM T k 1 f mf
/-- the class can be made by an __init__ -/
def HasI (T : Wh) (C : Nat) (k n : Nat) (mf : MF) : Prop := ∃ Ca f, T.mg (nm C) = some (.ref Ca) ∧ Mk T.K Ca f ∧ FnM T k n f mf
section
variable {X : Cx} {k n : Nat} {f C : Addr} {fd : FuncData} {ps : List Str} {sp : Sp} {E : L2.St → XK} {x m : Str} {p pos apos : Pos} {e o : Expr} {es : List Expr} {ta : TE} {t : TA} {CX : CXT}
theorem pe_call0S (F : FnOk X.prog X.w X.K X.mg X.base CX k f fd ps sp) (hr : Room k X.A) (hg : Gl X x) (hm : X.mg x = some (.ref f)) (hk : PySem.W.keepIn X.K (.ref f) = true) (hb : Binds X.K fd ps []) (hx : ∀ σ, PassesAt CX X σ (E σ))
    (hdb : (x == ("__debug__" : Str)) = false := by decide) : PE X (.Call (.Name x p) [] [] pos) (tCallS sp E tNil) := by
  refine ⟨fun pins s σ H Q I h => ?_⟩
  refine PySem.wpAny_Call_Name_kw (ld_glob I hg hm ?_ hdb)
  exact PySem.W.callWith_K0 I.kIn hk (run_fnS (us := []) F hr hb (hx σ) I .nil h)
def tMethS (C : Addr) (m : Str) (sp : Sp) (E : L2.St → XK) (ta : TE) (t : TA) : TE := fun σ H Q => ta σ H fun x H1 => ∃ a dx fs, x = .ref a ∧ H1 a = some (.ins C dx fs) ∧ fs.lookup m = none ∧
  t σ H1 fun vs H2 => sp (x :: vs) H2 Q (E σ)
theorem pe_methS {pl : Sem Bool} (he : PE X o ta) (c : Cls X.K C) (hm : Meth X.K C m f) (F : FnOk X.prog X.w X.K X.mg X.base CX k f fd ps sp) (hr : Room k X.A) (hb : Binds X.K fd ps []) (hx : ∀ σ, PassesAt CX X σ (E σ)) (ha : PA X (e :: es) t)
    (hst : starEach (e :: es) X.env = (false, eval e X.env) :: starEach es X.env := by rfl) (hpl : (backTo pos (starEach es X.env)).any (·.1) = false := by rfl)
    (ht : eval (.Call (.Attribute o m apos) (e :: es) [] pos) X.env = (do
      let ov ← eval o X.env
      standAt apos.atName
      let (f, first) ← holding [ov] (getMethod ov m pl)
      callWith pos f first (backTo pos (starEach (e :: es) X.env)) (backToKw pos (keywordEach [] X.env))) := by rfl) :
    PE X (.Call (.Attribute o m apos) (e :: es) [] pos) (tMethS C m sp E ta t) := by
  refine ⟨fun pins s σ H Q I h => ?_⟩
  refine PySem.W.methodCall_KW (pl := pl) (thn (he.run pins s σ H _ I h) fun u s1 ⟨x, H1, I1, rx, a, dx, fs, ex, ea, l, q⟩ => ?_) ht
  subst ex
  obtain rfl : u = Value.ref a := rx
  refine getmeth_ok I1 ea c hm l ?_
  refine PySem.W.callWith_K (first := [.ref a]) (h₀ := X.base) I.ok.mod.kin hm.kp (thn (ha.run pos pins s1 σ H1 _ I1 q) fun us s2 ⟨vs, H2, I2, r, q2⟩ => ⟨I2.kIn, ?_⟩) hst hpl
  exact run_fnS (us := .ref a :: us) (vs := .ref a :: vs) F hr hb (hx σ) I2 (.cons rfl r) q2
theorem pe_meth0S {pl : Sem Bool} (he : PE X o ta) (c : Cls X.K C) (hm : Meth X.K C m f) (F : FnOk X.prog X.w X.K X.mg X.base CX k f fd ps sp) (hr : Room k X.A) (hb : Binds X.K fd ps []) (hx : ∀ σ, PassesAt CX X σ (E σ))
    (ht : eval (.Call (.Attribute o m apos) [] [] pos) X.env = (do
      let ov ← eval o X.env
      standAt apos.atName
      let (f, first) ← holding [ov] (getMethod ov m pl)
      callWith pos f first (backTo pos (starEach [] X.env)) (backToKw pos (keywordEach [] X.env))) := by rfl) :
    PE X (.Call (.Attribute o m apos) [] [] pos) (tMethS C m sp E ta tNil) := by
  refine ⟨fun pins s σ H Q I h => ?_⟩
  refine PySem.W.methodCall_KW (pl := pl) (thn (he.run pins s σ H _ I h) fun u s1 ⟨x, H1, I1, rx, a, dx, fs, ex, ea, l, q⟩ => ?_) ht
  subst ex
  obtain rfl : u = Value.ref a := rx
  refine getmeth_ok I1 ea c hm l ?_
  exact PySem.W.callWith_K0 (first := [.ref a]) I1.kIn hm.kp (run_fnS (us := [.ref a]) (vs := [.ref a]) F hr hb (hx σ) I1 (.cons rfl .nil) q)
def tMakeS (C : Addr) (sp : Sp) (E : L2.St → XK) (t : TA) : TE := fun σ H Q => t σ H fun vs H1 => ∀ x dx, H1 x = none → H1 dx = none → dx ≠ x →
  sp (.ref x :: vs) (upd (upd H1 dx (.own x)) x (.ins C dx [])) (fun v H2 => v = .non ∧ Q (.ref x) H2) (E σ)
theorem run_makeS {pins : List (Addr × Obj)} {σ : L2.St} {H : Hp} {s : Shared} {Q : VK} {us : List Value} {vs : List V} (M : Mk X.K C f) (F : FnOk X.prog X.w X.K X.mg X.base CX k f fd ps sp) (hr : Room (k + 1) X.A) (hb : Binds X.K fd ps [])
    (hx : PassesAt CX X σ (E σ)) (I : Inv X pins σ H s) (r : Vals vs us)
    (h : ∀ x dx, H x = none → H dx = none → dx ≠ x → sp (.ref x :: vs) (upd (upd H dx (.own x)) x (.ins C dx [])) (fun v H2 => v = .non ∧ Q (.ref x) H2) (E σ)) :
    wpAny (model X.prog X.w) X.A (call (.ref C) us) (EP X pins σ Q) X.xe s := by
  have hq := h (s.heap.objs.size + 1) s.heap.objs.size (I.hok.fresh (Nat.le_succ _)) (I.hok.fresh (Nat.le_refl _)) (Nat.ne_of_lt (Nat.lt_succ_self _))
  have I2 := Inv.made (C := C) I
  have r2 : Vals (V.ref (s.heap.objs.size + 1) :: vs) (Value.ref (s.heap.objs.size + 1) :: us) := .cons rfl r
  have hl : (Value.ref (s.heap.objs.size + 1) :: us).length = ps.length := by
    have e := r2.length
    rw [F.len _ _ _ _ hq] at e
    exact e.symm
  have b := hb { s with heap := (s.heap.push PySem.W.emptyDict).push (PySem.W.instObj C s.heap.objs.size) } (Value.ref (s.heap.objs.size + 1) :: us) I2.kIn (by rw [List.append_nil]; exact hl)
  rw [List.append_nil] at b
  refine wpAny_call (make_map (f := f) I.kIn M.makes M.init (beq_iff_eq.mp M.fn) (codeAny_mono (F.run _ X.stack _ _ ⟨Value.ref (s.heap.objs.size + 1) :: us, []⟩ (Value.ref (s.heap.objs.size + 1) :: us) _ _ (E σ) (hr.make C us [])
    (I2.env0.make C us []) b r2 hq) fun r s' hq' => ?_))
  cases r with
  | error e => exact hx pins _ _ e s' I2 hq'
  | ok fl =>
    cases fl with
    | ret u =>
      obtain ⟨v, H', I3, rv, ev, q3⟩ := I2.after hq'
      subst ev
      exact ⟨rv, ⟨V.ref (s.heap.objs.size + 1), H', I3, rfl, q3⟩⟩
    | next => exact False.elim hq'
    | brk => exact False.elim hq'
    | cont => exact False.elim hq'
theorem pe_makeS (M : Mk X.K C f) (F : FnOk X.prog X.w X.K X.mg X.base CX k f fd ps sp) (hr : Room (k + 1) X.A) (hg : Gl X x) (hm : X.mg x = some (.ref C)) (hb : Binds X.K fd ps []) (hx : ∀ σ, PassesAt CX X σ (E σ))
    (ha : PA X (e :: es) t) (hdb : (x == ("__debug__" : Str)) = false := by decide) (he : starEach (e :: es) X.env = (false, eval e X.env) :: starEach es X.env := by rfl) (hpl : (backTo pos (starEach es X.env)).any (·.1) = false := by rfl) :
    PE X (.Call (.Name x p) (e :: es) [] pos) (tMakeS C sp E t) := by
  refine ⟨fun pins s σ H Q I h => ?_⟩
  refine PySem.wpAny_Call_Name_kw (ld_glob I hg hm ?_ hdb)
  refine PySem.W.callWith_K (h₀ := X.base) I.ok.mod.kin M.kp (thn (ha.run pos pins s σ H _ I h) fun us s1 ⟨vs, H1, I1, r, q⟩ => ⟨I1.kIn, ?_⟩) he hpl
  exact run_makeS M F hr hb (hx σ) I1 r q
end
section
variable {X : Cx} {k n : Nat} {x m : Str} {p pos apos : Pos} {e o : Expr} {es : List Expr} {t : MA} {mf : MF} {mo : ME}
theorem call_read {W : WX} {σ : L2.St} {H : Hp} {Q : VK} (h : rdG X.K X.mg (rel1 X.mg) W (mApp mf t) σ H Q) : tCallS (spM X.K X.mg mf) (WE W) (rdG X.K X.mg (relL X.mg) W t) σ H Q := by
  obtain ⟨ι, ρ, st, S, sl, p⟩ := h
  exact ⟨ι, ρ, st, S, sl, Post.bind p fun ws st1 ι1 H1 vs l1 S1 r1 p1 => ⟨ι1, ws, st1, S1, r1, p1⟩⟩
/-- f(..) -/
theorem je_call (h : Has (Cx.wh X) x k n mf) (hr : Room k X.A) (ha : JA X (e :: es) t) (hg : Gl X x := by rfl) (hdb : (x == ("__debug__" : Str)) = false := by decide) (he : starEach (e :: es) X.env = (false, eval e X.env) :: starEach es X.env := by rfl)
    (hpl : (backTo pos (starEach es X.env)).any (·.1) = false := by rfl) : JE X (.Call (.Name x p) (e :: es) [] pos) (mApp mf t) := fun W tk => by
  obtain ⟨f, hm, fd, ps, hl, hk, hb, F⟩ := h
  exact PE.weak (pe_callS (E := WE W) F hr hg hm hk hb (passAt tk) (ha W tk) hdb he hpl) fun σ H Q h => call_read h
theorem je_call0 (h : Has (Cx.wh X) x k n mf) (hr : Room k X.A) (hg : Gl X x := by rfl) (hdb : (x == ("__debug__" : Str)) = false := by decide) : JE X (.Call (.Name x p) [] [] pos) (mApp mf aNil) := fun W tk => by
  obtain ⟨f, hm, fd, ps, hl, hk, hb, F⟩ := h
  exact PE.weak (pe_call0S (E := WE W) F hr hg hm hk hb (passAt tk) hdb) fun σ H Q ⟨ι, ρ, st, S, sl, p⟩ => ⟨ι, [], st, S, Reps.nil, p⟩

/-- o.m(..): by the class of the object -/
@[reducible] def clsAt (st : Store) : Val → Option Nat
  | .ref n => match st[n]? with
    | some (.ins C _) => some C
    | _ => none
  | _ => none
@[reducible] def mMeth (tbl : List (Nat × MF)) (mo : ME) (t : MA) : ME := fun ρ st => (mo ρ st).bind fun x st1 => match clsAt st1 x with
  | some C => match tbl.lookup C with
    | some mf => (t ρ st1).bind fun ws st2 => mf (x :: ws) st2
    | none => .bad
  | none => .bad
theorem clsAt_some {st : Store} {x : Val} {C : Nat} (h : clsAt st x = some C) : ∃ n fs, x = .ref n ∧ st[n]? = some (.ins C fs) := by
  unfold clsAt at h
  split at h
  · rename_i n
    split at h
    · rename_i C' fs e
      cases h
      exact ⟨n, fs, rfl, e⟩
    · cases h
  · cases h
theorem lookup_mem {β : Type} {tbl : List (Nat × β)} {C : Nat} {b : β} (h : tbl.lookup C = some b) : (C, b) ∈ tbl := by
  induction tbl with
  | nil => cases h
  | cons p r ih =>
    obtain ⟨i, u⟩ := p
    rw [List.lookup_cons] at h
    by_cases q : C = i
    · subst q
      simp only [beq_self_eq_true] at h
      cases h
      exact List.mem_cons_self
    · rw [show (C == i) = false from beq_eq_false_iff_ne.mpr q] at h
      exact List.mem_cons_of_mem _ (ih h)
theorem meth_read {W : WX} {σ : L2.St} {H : Hp} {Q : VK} {ι : List Addr} {ρ : Slots} {st st1 : Store} {x : Val} {C : Nat} {Ca : Addr} (S : Sim X.K X.mg ι st H) (sl : SlotsOk X.mg ι H ρ σ) (h1 : mo ρ st = .ok x st1) (h2 : clsAt st1 x = some C) (hC : X.mg (nm C) = some (.ref Ca)) (hm : m ∉ nmT)
    (p : Post X.K X.mg (rel1 X.mg) ι H Q (fun c d H' => W c d σ H') ((t ρ st1).bind fun ws st2 => mf (x :: ws) st2)) :
    tMethS Ca m (spM X.K X.mg mf) (WE W) (rdG X.K X.mg (rel1 X.mg) W mo) (rdG X.K X.mg (relL X.mg) W t) σ H Q := by
  refine ⟨ι, ρ, st, S, sl, ?_⟩
  rw [h1]
  intro ι1 H1 v l1 S1 r1
  obtain ⟨n, fs, e, ec⟩ := clsAt_some h2
  subst e
  obtain ⟨a, e1, ha⟩ := Rep.ref_inv r1
  obtain ⟨Ca', dx, vs, e2, e3, rf⟩ := S1.at ec ha
  rw [hC] at e2
  cases e2
  refine ⟨a, dx, vs, e1, e3, rf.lookup_other hm, ι1, ρ, st1, S1, sl.later l1, Post.bind (Post.later p l1) fun ws st2 ι2 H2 us l2 S2 r2 p2 => ?_⟩
  exact ⟨ι2, _, st2, S2, Reps.cons (Rep.later l2 r1) r2, p2⟩
theorem cls_there' {K : PySem.W.Frag} {mg : Str → Option Value} {ι : List Addr} {st : Store} {H : Hp} (S : Sim K mg ι st H) {x : Val} {C : Nat} (h : clsAt st x = some C) {v : V} (r : Rep mg ι H x v) : ∃ Ca, mg (nm C) = some (.ref Ca) := by
  obtain ⟨n, fs, e, ec⟩ := clsAt_some h
  subst e
  obtain ⟨a, e1, ha⟩ := Rep.ref_inv r
  obtain ⟨Ca, _, _, e2, _⟩ := S.at ec ha
  exact ⟨Ca, e2⟩
/-- the object's evaluation alone -/
theorem je_pre {W : WX} {e' : Expr} {pins : List (Addr × Obj)} {s : Shared} {σ : L2.St} {H : Hp} {Q : VK} {ι : List Addr} {ρ : Slots} {st : Store} (ho : PE X o (rdG X.K X.mg (rel1 X.mg) W mo)) (I : Inv X pins σ H s) : True := trivial
theorem je_meth {tbl : List (Nat × MF)} {pl : Sem Bool} (h : ∀ C mf, (C, mf) ∈ tbl → (∃ Ca, X.mg (nm C) = some (.ref Ca)) ∧ HasM (Cx.wh X) C m k n mf) (hne : tbl ≠ []) (hr : Room k X.A) (ho : JE X o mo) (ha : JA X (e :: es) t)
    (hst : starEach (e :: es) X.env = (false, eval e X.env) :: starEach es X.env := by rfl) (hpl : (backTo pos (starEach es X.env)).any (·.1) = false := by rfl)
    (ht : eval (.Call (.Attribute o m apos) (e :: es) [] pos) X.env = (do
      let ov ← eval o X.env
      standAt apos.atName
      let (f, first) ← holding [ov] (getMethod ov m pl)
      callWith pos f first (backTo pos (starEach (e :: es) X.env)) (backToKw pos (keywordEach [] X.env))) := by rfl) :
    JE X (.Call (.Attribute o m apos) (e :: es) [] pos) (mMeth tbl mo t) := fun W tk => by
  refine ⟨fun pins s σ H Q I hw => ?_⟩
  obtain ⟨ι, ρ, st, S, sl, p⟩ := hw
  have use : ∀ C mf Ca, (C, mf) ∈ tbl → X.mg (nm C) = some (.ref Ca) → (∃ g, tMethS Ca m (spM X.K X.mg g) (WE W) (rdG X.K X.mg (rel1 X.mg) W mo) (rdG X.K X.mg (relL X.mg) W t) σ H Q ∧ g = mf) → wpAny (model X.prog X.w) X.A (eval (.Call (.Attribute o m apos) (e :: es) [] pos) X.env) (EP X pins σ Q) X.xe s := by
    rintro C mf Ca hmem hC ⟨g, hg, rfl⟩
    obtain ⟨_, _, hk⟩ := h C g hmem
    obtain ⟨f, c, hM, fd, ps, hl, hk, hb, F⟩ := hk Ca hC
    exact (pe_methS (E := WE W) (ho W tk) c hM F hr hb (passAt tk) (ha W tk) hst hpl ht).run pins s σ H Q I hg
  cases q : mo ρ st with
  | bad => dsimp only [mMeth] at p; rw [q] at p; exact p.elim
  | exc x st1 =>
    dsimp only [mMeth] at p; rw [q] at p
    cases tbl with
    | nil => exact absurd rfl hne
    | cons b r =>
      obtain ⟨C, mf⟩ := b
      obtain ⟨⟨Ca, hC⟩, _⟩ := h C mf List.mem_cons_self
      exact use C mf Ca List.mem_cons_self hC ⟨mf, ⟨ι, ρ, st, S, sl, by rw [q]; exact p⟩, rfl⟩
  | ok x st1 =>
    dsimp only [mMeth] at p; rw [q] at p
    dsimp only [R.bind] at p
    cases qc : clsAt st1 x with
    | none => rw [qc] at p; exact p.elim
    | some C =>
      rw [qc] at p
      dsimp only at p
      cases ql : tbl.lookup C with
      | none => rw [ql] at p; exact p.elim
      | some mf =>
        rw [ql] at p
        dsimp only at p
        have hmem := lookup_mem ql
        obtain ⟨⟨Ca, hC⟩, hm, _⟩ := h C mf hmem
        exact use C mf Ca hmem hC ⟨mf, meth_read S sl q qc hC hm p, rfl⟩
theorem je_meth0 {tbl : List (Nat × MF)} {pl : Sem Bool} (h : ∀ C mf, (C, mf) ∈ tbl → (∃ Ca, X.mg (nm C) = some (.ref Ca)) ∧ HasM (Cx.wh X) C m k n mf) (hne : tbl ≠ []) (hr : Room k X.A) (ho : JE X o mo)
    (ht : eval (.Call (.Attribute o m apos) [] [] pos) X.env = (do
      let ov ← eval o X.env
      standAt apos.atName
      let (f, first) ← holding [ov] (getMethod ov m pl)
      callWith pos f first (backTo pos (starEach [] X.env)) (backToKw pos (keywordEach [] X.env))) := by rfl) :
    JE X (.Call (.Attribute o m apos) [] [] pos) (mMeth tbl mo aNil) := fun W tk => by
  refine ⟨fun pins s σ H Q I hw => ?_⟩
  obtain ⟨ι, ρ, st, S, sl, p⟩ := hw
  have use : ∀ C mf Ca, (C, mf) ∈ tbl → X.mg (nm C) = some (.ref Ca) → tMethS Ca m (spM X.K X.mg mf) (WE W) (rdG X.K X.mg (rel1 X.mg) W mo) tNil σ H Q → wpAny (model X.prog X.w) X.A (eval (.Call (.Attribute o m apos) [] [] pos) X.env) (EP X pins σ Q) X.xe s := by
    intro C mf Ca hmem hC hg
    obtain ⟨_, _, hk⟩ := h C mf hmem
    obtain ⟨f, c, hM, fd, ps, hl, hk, hb, F⟩ := hk Ca hC
    exact (pe_meth0S (E := WE W) (ho W tk) c hM F hr hb (passAt tk) ht).run pins s σ H Q I hg
  cases q : mo ρ st with
  | bad => dsimp only [mMeth] at p; rw [q] at p; exact p.elim
  | exc x st1 =>
    dsimp only [mMeth] at p; rw [q] at p
    cases tbl with
    | nil => exact absurd rfl hne
    | cons b r =>
      obtain ⟨C, mf⟩ := b
      obtain ⟨⟨Ca, hC⟩, _⟩ := h C mf List.mem_cons_self
      exact use C mf Ca List.mem_cons_self hC ⟨ι, ρ, st, S, sl, by rw [q]; exact p⟩
  | ok x st1 =>
    dsimp only [mMeth] at p; rw [q] at p
    dsimp only [R.bind] at p
    cases qc : clsAt st1 x with
    | none => rw [qc] at p; exact p.elim
    | some C =>
      rw [qc] at p
      dsimp only at p
      cases ql : tbl.lookup C with
      | none => rw [ql] at p; exact p.elim
      | some mf =>
        rw [ql] at p
        dsimp only at p
        have hmem := lookup_mem ql
        obtain ⟨⟨Ca, hC⟩, hm, _⟩ := h C mf hmem
        refine use C mf Ca hmem hC ⟨ι, ρ, st, S, sl, ?_⟩
        rw [q]
        intro ι1 H1 v l1 S1 r1
        obtain ⟨n, fs, e, ec⟩ := clsAt_some qc
        subst e
        obtain ⟨a, e1, ha⟩ := Rep.ref_inv r1
        obtain ⟨Ca', dx, vs, e2, e3, rf⟩ := S1.at ec ha
        rw [hC] at e2
        cases e2
        exact ⟨a, dx, vs, e1, e3, rf.lookup_other hm, ι1, _, st1, S1, Reps.cons r1 Reps.nil, Post.later p l1⟩
/-- o.f, a property -/
@[reducible] def mProp (tbl : List (Nat × MF)) (mo : ME) : ME := fun ρ st => (mo ρ st).bind fun x st1 => match clsAt st1 x with
  | some C => match tbl.lookup C with
    | some mf => match mf [x] st1 with
      | .exc _ _ => .bad
      | r => r
    | none => .bad
  | none => .bad
theorem je_prop {tbl : List (Nat × MF)} (h : ∀ C mf, (C, mf) ∈ tbl → (∃ Ca, X.mg (nm C) = some (.ref Ca)) ∧ HasP (Cx.wh X) C m k mf) (hne : tbl ≠ []) (hr : Room (k + 1) X.A) (ho : JE X o mo)
    (hab : attributeBase o m X.env (eval o X.env) = eval o X.env := by rfl) : JE X (.Attribute o m pos) (mProp tbl mo) := fun W tk => by
  refine ⟨fun pins s σ H Q I hw => ?_⟩
  obtain ⟨ι, ρ, st, S, sl, p⟩ := hw
  have use : ∀ C mf Ca, (C, mf) ∈ tbl → X.mg (nm C) = some (.ref Ca) → tProp Ca (spM X.K X.mg mf) [] E0 (rdG X.K X.mg (rel1 X.mg) W mo) σ H Q → wpAny (model X.prog X.w) X.A (eval (.Attribute o m pos) X.env) (EP X pins σ Q) X.xe s := by
    intro C mf Ca hmem hC hg
    obtain ⟨_, hk⟩ := h C mf hmem
    obtain ⟨q, f, c, hP, fd, ps, hl, hk, hb, F⟩ := hk Ca hC
    exact (pe_prop (ho W tk) c hP F hr hb .nil passL hab).run pins s σ H Q I hg
  cases q : mo ρ st with
  | bad => dsimp only [mProp] at p; rw [q] at p; exact p.elim
  | exc x st1 =>
    dsimp only [mProp] at p; rw [q] at p
    cases tbl with
    | nil => exact absurd rfl hne
    | cons b r =>
      obtain ⟨C, mf⟩ := b
      obtain ⟨⟨Ca, hC⟩, _⟩ := h C mf List.mem_cons_self
      exact use C mf Ca List.mem_cons_self hC ⟨ι, ρ, st, S, sl, by rw [q]; exact p⟩
  | ok x st1 =>
    dsimp only [mProp] at p; rw [q] at p
    dsimp only [R.bind] at p
    cases qc : clsAt st1 x with
    | none => rw [qc] at p; exact p.elim
    | some C =>
      rw [qc] at p
      dsimp only at p
      cases ql : tbl.lookup C with
      | none => rw [ql] at p; exact p.elim
      | some mf =>
        rw [ql] at p
        dsimp only at p
        have hmem := lookup_mem ql
        obtain ⟨⟨Ca, hC⟩, _⟩ := h C mf hmem
        refine use C mf Ca hmem hC ⟨ι, ρ, st, S, sl, ?_⟩
        rw [q]
        intro ι1 H1 v l1 S1 r1
        obtain ⟨n, fs, e, ec⟩ := clsAt_some qc
        subst e
        obtain ⟨a, e1, ha⟩ := Rep.ref_inv r1
        obtain ⟨Ca', dx, vs, e2, e3, rf⟩ := S1.at ec ha
        rw [hC] at e2
        cases e2
        refine ⟨a, dx, vs, e1, e3, ι1, _, st1, S1, Reps.cons (by rw [← e1]; exact r1) Reps.nil, ?_⟩
        cases qm : mf [.ref n] st1 with
        | ok w s => rw [qm] at p; exact Post.later p l1
        | exc x s => rw [qm] at p; exact p.elim
        | bad => rw [qm] at p; exact p.elim
/-- C(..) -/
@[reducible] def vMake (C : Nat) (mf : MF) : MF := fun ws st => (mf (.ref st.length :: ws) (st ++ [.ins C []])).bind fun v st1 => match v with
  | .non => .ok (.ref st.length) st1
  | _ => .bad
theorem make_sim {K : PySem.W.Frag} {mg : Str → Option Value} {ι : List Addr} {st : Store} {H : Hp} (S : Sim K mg ι st H) {C : Nat} {Ca x dx : Addr} (hC : mg (nm C) = some (.ref Ca)) (hx : H x = none) (hd : H dx = none) (ne : dx ≠ x) :
    Sim K mg (ι ++ [x]) (st ++ [.ins C []]) (upd (upd H dx (.own x)) x (.ins Ca dx [])) ∧ Later ι H (ι ++ [x]) (upd (upd H dx (.own x)) x (.ins Ca dx [])) :=
  S.push hx ((same_new (o := .own x) hd).trans (same_new (by rw [upd_ne (Ne.symm ne)]; exact hx))) ⟨Ca, dx, [], hC, upd_same, .nil⟩
theorem je_make {C : Nat} (h : HasI (Cx.wh X) C k n mf) (hx : x = nm C) (hr : Room (k + 1) X.A) (ha : JA X (e :: es) t) (hg : Gl X x := by rfl) (hdb : (x == ("__debug__" : Str)) = false := by decide) (he : starEach (e :: es) X.env = (false, eval e X.env) :: starEach es X.env := by rfl)
    (hpl : (backTo pos (starEach es X.env)).any (·.1) = false := by rfl) : JE X (.Call (.Name x p) (e :: es) [] pos) (mApp (vMake C mf) t) := fun W tk => by
  obtain ⟨Ca, f, hC, M, fd, ps, hl, hk, hb, F⟩ := h
  refine PE.weak (pe_makeS (E := WE W) M F hr hg (by rw [hx]; exact hC) hb (passAt tk) (ha W tk) hdb he hpl) fun σ H Q ⟨ι, ρ, st, S, sl, p⟩ => ?_
  refine ⟨ι, ρ, st, S, sl, Post.bind p fun ws st1 ι1 H1 vs l1 S1 r1 p1 => fun q dx hq hdx ne => ?_⟩
  obtain ⟨S2, l2⟩ := make_sim S1 hC hq hdx ne
  refine ⟨_, _, _, S2, Reps.cons (Rep.ref (n := st1.length) (a := q) ?_) (Reps.later l2 r1), Post.bind (Post.later p1 l2) fun w st3 ι3 H3 v l3 S3 r3 p3 => ?_⟩
  · rw [← S1.len, List.getElem?_append_right (Nat.le_refl _)]; simp
  · cases w with
    | non =>
      refine ⟨r3.non_inv, p3.okSame S3 (Rep.ref ?_)⟩
      refine l3.get ?_
      rw [← S1.len, List.getElem?_append_right (Nat.le_refl _)]; simp
    | _ => exact p3.elim
end

/-! ### a def's body -/
@[reducible] def O.fin (o : O) : R Val := match o with
  | .nx _ st => .ok .non st
  | .ret w st => .ok w st
  | .exc x _ st => .exc x st
  | _ => .bad
/-- the def with n parameters and m further names -/
def defM (n m : Nat) (body : MS) : MF := fun ws st => if ws.length = n then (body (ws.map some ++ List.replicate m none) st).fin else .bad
theorem defM_eq {n m : Nat} {body : MS} {ws : List Val} {st : Store} (h : ws.length = n) : defM n m body ws st = (body (ws.map some ++ List.replicate m none) st).fin := if_pos h
theorem slots_start {mg : Str → Option Value} {ι : List Addr} {H : Hp} {ws : List Val} {vs : List V} (r : Reps mg ι H ws vs) {N : List Str} {m : Nat} (hN : N.length = ws.length + m) : SlotsOk mg ι H (ws.map some ++ List.replicate m none) (L2.start N vs) := by
  have hl := r.length
  refine ⟨by unfold L2.start; simp [hl]; omega, fun i w e => ?_⟩
  by_cases hi : i < ws.length
  · rw [List.getElem?_append_left (by simpa using hi), List.getElem?_map] at e
    cases q : ws[i]? with
    | none => rw [q] at e; cases e
    | some u =>
      rw [q] at e
      cases e
      obtain ⟨v, ev, rv⟩ := r.get q
      exact ⟨v, by unfold L2.start; rw [List.getElem?_append_left (by simp; omega), List.getElem?_map, ev]; rfl, rv⟩
  · rw [List.getElem?_append_right (by simpa using hi), List.getElem?_replicate] at e
    split at e <;> cases e
/-- THE RULE for a def -/
theorem fnM_of {T : Wh} {x qual : Str} {st : Stmt} {f : Addr} {fd : FuncData} {N ps : List Str} {k n m : Nat} {body : MS} (F : Fun T.K x qual st f fd) (hb : Binds T.K fd ps []) (S : FnScope N ps (defScope st)) (hn : ps.length = n) (hm : N.length = n + m)
    (h : ∀ X : Cx, Cx.wh X = T → X.N = N → X.calm = true → X.env.scope = defScope st → (X.stack = X.env :: X.outer) → (X.env.frame = some X.env.locals) → (X.fn = fun _ => true) → Room k X.A → PassesOwn (model X.prog X.w) X.A X.env X.xe → JSs X (defBody st) body) :
    FnM T (k + 1) n f (defM n m body) := by
  refine ⟨fd, ps, hn, F.kp, hb, F.okX S (fun vs H Q E hsp => ?_) (fun cdv A outer s H vs Q E hr hsp => ?_)⟩
  · obtain ⟨ι, ws, st', S', r, p⟩ := hsp
    unfold defM at p
    split at p
    · rename_i hl
      rw [← r.length, hl, hn]
    · exact p.elim
  · obtain ⟨ι, ws, st', S', r, p⟩ := hsp
    unfold defM at p
    split at p
    · rename_i hl
      have j := h (cxOf (L2.CX T.P T.w) T.P T.w T.K T.mg T.base N qual (defScope st) f cdv A outer s H E) rfl rfl rfl rfl rfl rfl rfl hr (passes_of rfl)
      refine ⟨_, j (fun cls d _ H => E cls d H) (takes_of rfl rfl rfl rfl), ι, _, st', S', slots_start r (by rw [hl]; exact hm), ?_⟩
      show PostO T.K T.mg _ ι H _ (body (ws.map some ++ List.replicate m none) st')
      cases q : body (ws.map some ++ List.replicate m none) st' with
      | nx ρ s1 => rw [q] at p; exact fun ι1 H1 σ1 l S1 sl => p ι1 H1 _ l S1 Rep.non
      | ret w s1 => rw [q] at p; exact p
      | exc x ρ s1 => rw [q] at p; exact fun ι1 H1 σ1 c d l S1 sl r => p ι1 H1 c d l S1 r
      | brk ρ s1 => rw [q] at p; exact p.elim
      | ct ρ s1 => rw [q] at p; exact p.elim
      | bad => rw [q] at p; exact p.elim
    · exact p.elim
end Ab

set_option Elab.async false
set_option linter.all false
set_option maxRecDepth 100000
/-! Ab: list comprehensions; built-in functions and methods. -/
namespace Ab
open PySem PySem.Spec L2

/-- code that is never reached -/
@[reducible] def mBad : ME := fun _ _ => .bad
@[reducible] def sBad : MS := fun _ _ => .bad
theorem je_never {X : Cx} {e : Expr} : JE X e mBad := fun W tk => ⟨fun pins s σ H Q I ⟨ι, ρ, st, S, sl, p⟩ => p.elim⟩
theorem jt_never {X : Cx} {e : Expr} : JT X e (fun _ _ => .bad) := fun W tk => ⟨fun pins s σ H Q I ⟨ι, ρ, st, S, sl, p⟩ => p.elim⟩
theorem js_never {X : Cx} {s : Stmt} : JS X s sBad := fun W tk => PS.weak ps_never fun D σ H ⟨ι, ρ, st, S, sl, p⟩ => p
theorem jss_never {X : Cx} {s : List Stmt} : JSs X s sBad := fun W tk => PSs.weak pss_never fun D σ H ⟨ι, ρ, st, S, sl, p⟩ => p

/-! ### list comprehensions -/
def wipeM (ρ : Slots) : List Nat → Slots
  | [] => ρ
  | v :: vs => (wipeM ρ vs).set v none
theorem wipeM_ok {mg : Str → Option Value} {ι : List Addr} {H : Hp} {ρ : Slots} {σ : L2.St} (h : SlotsOk mg ι H ρ σ) : ∀ vs : List Nat, SlotsOk mg ι H (wipeM ρ vs) (wipe σ vs)
  | [] => h
  | v :: vs => by
    have ih := wipeM_ok h vs
    refine ⟨by unfold wipeM wipe; simp [ih.1], fun i w e => ?_⟩
    unfold wipeM at e
    unfold wipe
    by_cases hv : v = i
    · subst hv
      exfalso
      by_cases hl : v < (wipeM ρ vs).length
      · rw [List.getElem?_set_self hl] at e
        cases e
      · rw [List.getElem?_eq_none (by rw [List.length_set]; omega)] at e
        cases e
    · rw [List.getElem?_set_ne hv] at e ⊢
      exact ih.2 i w e
theorem wipe_out {σ : L2.St} {i : Nat} : ∀ {vs : List Nat}, i ∉ vs → (wipe σ vs)[i]? = σ[i]?
  | [], _ => rfl
  | v :: vs, h => by
    unfold wipe
    rw [List.getElem?_set_ne fun e => h (by simp [e])]
    exact wipe_out fun z => h (List.mem_cons_of_mem _ z)
theorem wipe_in {σ : L2.St} {i : Nat} : ∀ {vs : List Nat}, i ∈ vs → i < σ.length → (wipe σ vs)[i]? = some none
  | v :: vs, h, hl => by
    unfold wipe
    by_cases q : v = i
    · subst q
      rw [List.getElem?_set_self (by rw [wipe_length]; exact hl)]
    · rw [List.getElem?_set_ne q]
      exact wipe_in ((List.mem_cons.mp h).resolve_left (Ne.symm q)) hl
theorem wipe_same {vs : List Nat} {σ σ2 : L2.St} (o : OutS vs (wipe σ vs) σ2) : wipe σ2 vs = wipe σ vs := by
  have hl : σ2.length = σ.length := by rw [o.1, wipe_length]
  apply List.ext_getElem?
  intro i
  by_cases hi : i < σ.length
  · by_cases hm : i ∈ vs
    · rw [wipe_in hm (by omega), wipe_in hm hi]
    · rw [wipe_out hm, o.2 i hm]
  · rw [List.getElem?_eq_none (by rw [wipe_length]; omega), List.getElem?_eq_none (by rw [wipe_length]; omega)]
abbrev ixs (own : List (Str × Nat)) : List Nat := own.map (·.2)
@[reducible] def R.noX {α : Type} (r : R α) : R α := match r with
  | .exc _ _ => .bad
  | r => r
@[reducible] def mYes : MT := fun _ st => .ok true st
open Classical in
noncomputable def lcM (g : MG) (t : MT) (elt : ME) (okp : Store → Prop) (D : Nat) (ρ : Slots) : List Val → Store → R Val
  | [], st => if okp st then .ok (.ref D) st else .bad
  | w :: ws, st => if okp st then match g w ρ st with
      | none => .bad
      | some (ρ1, st1) => ((t ρ1 st1).noX).bind fun k st2 =>
        if k = true then ((elt ρ1 st2).noX).bind fun y st3 => match st3[D]? with
          | some (.lst acc) => if acc.length < sizeLine then lcM g t elt okp D ρ ws (st3.set D (.lst (acc ++ [y]))) else .bad
          | _ => .bad
        else lcM g t elt okp D ρ ws st2
    else .bad
@[reducible] noncomputable def mLc (mi : MI) (g : MG) (t : MT) (elt : ME) (vs : List Nat) : ME := fun ρ st => (mi ρ st).bind fun it st1 => lcM g t elt it.2 st1.length (wipeM ρ vs) it.1 (st1 ++ [.lst []])
abbrev W0 : WX := fun _ _ _ _ => False
def JTs (X : Cx) (es : List Expr) (m : MT) : Prop := ∀ W, Takes X W → PTs X es (rdG X.K X.mg relB W m)
theorem PTs.weak {X : Cx} {e : List Expr} {t t' : TT} (h : PTs X e t) (w : ∀ σ H Q, t' σ H Q → t σ H Q) : PTs X e t' := ⟨fun pins s σ H Q I q => h.run pins s σ H Q I (w σ H Q q)⟩
theorem jts_nil {X : Cx} : JTs X [] mYes := fun W tk => PTs.weak pts_nil fun σ H Q ⟨ι, ρ, st, S, sl, p⟩ => p.okSame S rfl
theorem jts_one {X : Cx} {c : Expr} {t : MT} (h : JT X c t) : JTs X [c] t := fun W tk => pts_one (h W tk)
theorem Post.noX {α β : Type} {K : PySem.W.Frag} {mg : Str → Option Value} {rel : List Addr → Hp → α → β → Prop} {ι : List Addr} {H : Hp} {Q : β → Hp → Prop} {E : Value → Option Addr → Hp → Prop} {r : R α} (p : Post K mg rel ι H Q E r.noX) : Post K mg rel ι H Q (fun _ _ _ => False) r := by
  cases r with
  | ok a st => exact p
  | exc x st => exact p.elim
  | bad => exact p.elim
section
variable {X : Cx} {elt tg iter : Expr} {ifs : List Expr} {scope : Scope} {own : List (Str × Nat)} {pos : Pos} {mi : MI} {g : MG} {t : MT} {me : ME}
theorem lc_read {W : WX} {σ : L2.St} {H : Hp} {Q : VK} (h : rdG X.K X.mg (rel1 X.mg) W (mLc mi g t me (ixs own)) σ H Q) :
    tLc (rdG X.K X.mg (relI X.K X.mg) W mi) (rdT X.K X.mg (ixs own) g) (rdG X.K X.mg relB W0 t) (rdG X.K X.mg (rel1 X.mg) W0 me) (ixs own) σ H Q := by
  obtain ⟨ι, ρ, st, S, sl, p⟩ := h
  refine ⟨ι, ρ, st, S, sl, Post.bind p fun it st1 ι1 H1 J l1 S1 r1 p1 => fun D hD => ?_⟩
  obtain ⟨items, okp⟩ := it
  have r1 : IsIt X.K X.mg items okp ι1 H1 J := r1
  have sl1 := wipeM_ok (sl.later l1) (ixs own)
  have hs := same_new (o := .lst []) hD
  obtain ⟨S2, l2⟩ := S1.push (c := .lst []) hD hs ⟨[], upd_same, Reps.nil⟩
  have hDi : (ι1 ++ [D])[st1.length]? = some D := by rw [← S1.len, List.getElem?_append_right (Nat.le_refl _)]; simp
  refine ⟨fun i m H' => ∃ ι' st', Later (ι1 ++ [D]) (upd H1 D (.lst [])) ι' H' ∧ Sim X.K X.mg ι' st' H' ∧ m = items.length - i ∧ i ≤ items.length ∧ Post X.K X.mg (rel1 X.mg) ι' H' Q (fun c d H' => W c d σ H') (lcM g t me okp st1.length (wipeM ρ (ixs own)) (items.drop i) st'),
    ⟨items.length, ι1 ++ [D], st1 ++ [.lst []], Later.refl _ _, S2, by simp, Nat.zero_le _, by simpa using Post.later p1 l2⟩, ?_⟩
  rintro i m H3 ⟨ι3, st3, l3, S3, rfl, hi, p3⟩
  have l13 := l2.trans l3
  by_cases hlt : i < items.length
  · rw [List.drop_eq_getElem_cons hlt] at p3
    unfold lcM at p3
    split at p3
    · rename_i hok
      refine .inr ⟨r1.go i ι3 H3 st3 l13 S3 hok hlt, fun H4 => ∃ ι4 st4, Later (ι1 ++ [D]) (upd H1 D (.lst [])) ι4 H4 ∧ Sim X.K X.mg ι4 st4 H4 ∧ Post X.K X.mg (rel1 X.mg) ι4 H4 Q (fun c d H' => W c d σ H') (lcM g t me okp st1.length (wipeM ρ (ixs own)) (items.drop (i + 1)) st4), ?_, ?_⟩
      · rintro H4 ⟨ι4, st4, l4, S4, p4⟩
        exact ⟨items.length - (i + 1), by omega, ι4, st4, l4, S4, rfl, hlt, p4⟩
      · intro x H4 hy
        obtain ⟨l4, S4, w, hw, rw_⟩ := r1.yld i ι3 H3 st3 x H4 l13 S3 hok hlt hy
        have hw' : items[i] = w := by rw [List.getElem?_eq_getElem hlt] at hw; exact Option.some.inj hw
        rw [hw'] at p3
        refine ⟨ι3, wipeM ρ (ixs own), st3, w, S4, sl1.later (l13.trans l4), rw_, ?_⟩
        cases q : g w (wipeM ρ (ixs own)) st3 with
        | none => rw [q] at p3; exact p3.elim
        | some z =>
          obtain ⟨ρ5, st5⟩ := z
          rw [q] at p3
          dsimp only at p3
          intro ι5 H5 σ5 l5 S5 sl5 o5
          have l15 := (l3.trans l4).trans l5
          have p5 := Post.later (Post.later p3 l4) l5
          refine ⟨wipe_same o5, ι5, ρ5, st5, S5, sl5, ?_⟩
          refine Post.noX (E := fun c d H' => W c d σ H') (Post.bind p5 fun k st6 ι6 H6 k' l6 S6 r6 p6 => ?_)
          have r6 : k = k' := r6
          subst r6
          have sl6 := sl5.later l6
          have l16 := l15.trans l6
          cases k with
          | false =>
            rw [if_neg Bool.false_ne_true] at p6
            exact iteF ⟨ι6, st6, l16, S6, p6⟩
          | true =>
            rw [if_pos rfl] at p6
            refine iteT ⟨ι6, ρ5, st6, S6, sl6, ?_⟩
            refine Post.noX (E := fun c d H' => W c d σ H') (Post.bind p6 fun y st7 ι7 H7 yv l7 S7 r7 p7 => ?_)
            have l17 := l16.trans l7
            have hD7 := l17.get hDi
            split at p7
            · rename_i acc eacc
              obtain ⟨vs, hvs, rvs⟩ := S7.at eacc hD7
              split at p7
              · rename_i hz
                obtain ⟨S8, l8⟩ := S7.write (c' := .lst (acc ++ [y])) (o' := .lst (vs ++ [yv])) eacc hD7 rfl rfl hvs (fun _ e => by cases e) (fun _ _ e => by cases e)
                  ⟨_, upd_same, (rvs.append (Reps.cons r7 Reps.nil)).later ⟨⟨[], by simp⟩, fun b xs e => by rw [upd_ne fun q => by subst q; rw [hvs] at e; cases e]; exact e, fun b ob ks e => by rw [upd_ne fun q => by subst q; rw [hvs] at e; cases e]; exact e⟩⟩
                exact ⟨vs, hvs, by rw [← rvs.length]; exact hz, ι7, _, l17.trans l8, S8, Post.later p7 l8⟩
              · exact p7.elim
            · exact p7.elim
    · exact p3.elim
  · have hle : items.length ≤ i := by omega
    rw [List.drop_eq_nil_of_le hle] at p3
    unfold lcM at p3
    split at p3
    · rename_i hok
      exact .inl ⟨r1.stop i ι3 H3 st3 l13 S3 hok (by omega), p3.okSame S3 (Rep.ref (l3.get hDi))⟩
    · exact p3.elim
theorem je_lc (hc : X.calm = true) (hN : X.N.Nodup) (own : List (Str × Nat)) (hi : JI X tg iter mi) (ok : blkC X.N X.env.scope scope own = true)
    (hg : ∀ (s : Shared) (H : Hp) (C : Addr) (cl : List (Str × Addr)) (fp : List Addr), JG (X.blk s H scope (compEnvC scope cl C X.env) fp) tg (ixs own) g) (ht : ∀ (s : Shared) (H : Hp) (C : Addr) (cl : List (Str × Addr)) (fp : List Addr), JTs (X.blk s H scope (compEnvC scope cl C X.env) fp) ifs t)
    (he : ∀ (s : Shared) (H : Hp) (C : Addr) (cl : List (Str × Addr)) (fp : List Addr), JE (X.blk s H scope (compEnvC scope cl C X.env) fp) elt me) (hs : ∀ x, foldedSetIterable iter X.env x = pure x := by intro _; rfl) :
    JE X (.ListComp elt [⟨tg, iter, ifs, 0⟩] scope pos) (mLc mi g t me (ixs own)) := fun W tk =>
  PE.weak (pe_lc (wi := rdG X.K X.mg (relI X.K X.mg) W mi) (g := rdT X.K X.mg (ixs own) g) (tt := rdG X.K X.mg relB W0 t) (te := rdG X.K X.mg (rel1 X.mg) W0 me) hc hN (hi W tk) (blkOk_by ok) (fun s H C cl fp => hg s H C cl fp) (fun s H C cl fp => ht s H C cl fp W0 takes0) (fun s H C cl fp => he s H C cl fp W0 takes0) hs) fun σ H Q h => lc_read h
/-- y = [..] on one line -/
theorem js_setLc {i : Nat} {y : Str} {py spos : Pos} (hc : X.calm = true) (hN : X.N.Nodup) (own : List (Str × Nat)) (hi : JI X tg iter mi) (ok : blkC X.N X.env.scope scope own = true)
    (hg : ∀ (s : Shared) (H : Hp) (C : Addr) (cl : List (Str × Addr)) (fp : List Addr), JG (X.blk s H scope (compEnvC scope cl C X.env) fp) tg (ixs own) g) (ht : ∀ (s : Shared) (H : Hp) (C : Addr) (cl : List (Str × Addr)) (fp : List Addr), JTs (X.blk s H scope (compEnvC scope cl C X.env) fp) ifs t)
    (he : ∀ (s : Shared) (H : Hp) (C : Addr) (cl : List (Str × Addr)) (fp : List Addr), JE (X.blk s H scope (compEnvC scope cl C X.env) fp) elt me)
    (hsw : swapsWith (.ListComp elt [⟨tg, iter, ifs, 0⟩] scope pos) (some (.Name y py)) spos.line X.env = pure true)
    (hy : X.N[i]? = some y := by rfl) (hyl : X.env.scope.names.lookup y = some .local := by rfl) (hs : ∀ x, foldedSetIterable iter X.env x = pure x := by intro _; rfl) :
    JS X (.Assign [.Name y py] (.ListComp elt [⟨tg, iter, ifs, 0⟩] scope pos) spos) (sSet i (mLc mi g t me (ixs own))) := fun W tk => by
  refine PS.weak (ps_setLc (wi := rdG X.K X.mg (relI X.K X.mg) W mi) (g := rdT X.K X.mg (ixs own) g) (tt := rdG X.K X.mg relB W0 t) (te := rdG X.K X.mg (rel1 X.mg) W0 me) hc hN hy hyl hsw (hi W tk) (blkOk_by ok) (fun s H C cl fp => hg s H C cl fp) (fun s H C cl fp => ht s H C cl fp W0 takes0) (fun s H C cl fp => he s H C cl fp W0 takes0) hs) fun D σ H ⟨ι, ρ, st, S, sl, p⟩ => ?_
  refine lc_read (W := W) ⟨ι, ρ, st, S, sl, PostO.bind p sl fun w st1 ι1 H1 v l1 S1 r1 p1 => ?_⟩
  exact p1.nx_same S1 ((sl.later l1).set i r1)
end
end Ab

set_option Elab.async false
set_option linter.all false
set_option maxRecDepth 100000
/-! Ab: built-in functions, methods of lists, equality, membership. -/
namespace Ab
open PySem PySem.Spec L2

def asInts : List Val → Option (List Int)
  | [] => some []
  | .int i :: r => (asInts r).map (i :: ·)
  | _ => none
def asBools : List Val → Option (List Bool)
  | [] => some []
  | .bl i :: r => (asBools r).map (i :: ·)
  | _ => none
theorem asInts_map : ∀ ns : List Int, asInts (ns.map .int) = some ns
  | [] => rfl
  | n :: ns => by show (asInts (ns.map .int)).map _ = _; rw [asInts_map ns]; rfl
theorem asBools_map : ∀ ns : List Bool, asBools (ns.map .bl) = some ns
  | [] => rfl
  | n :: ns => by show (asBools (ns.map .bl)).map _ = _; rw [asBools_map ns]; rfl
theorem asInts_some : ∀ {ws : List Val} {ns : List Int}, asInts ws = some ns → ws = ns.map .int
  | [], ns, h => by cases h; rfl
  | w :: ws, ns, h => by
    cases w with
    | int i =>
      have h : (asInts ws).map (i :: ·) = some ns := h
      cases q : asInts ws with
      | none => rw [q] at h; cases h
      | some ms => rw [q] at h; cases h; rw [asInts_some q]; rfl
    | _ => cases h
theorem asBools_some : ∀ {ws : List Val} {ns : List Bool}, asBools ws = some ns → ws = ns.map .bl
  | [], ns, h => by cases h; rfl
  | w :: ws, ns, h => by
    cases w with
    | bl i =>
      have h : (asBools ws).map (i :: ·) = some ns := h
      cases q : asBools ws with
      | none => rw [q] at h; cases h
      | some ms => rw [q] at h; cases h; rw [asBools_some q]; rfl
    | _ => cases h
section
variable {mg : Str → Option Value} {ι : List Addr} {H : Hp}
theorem Reps.ints : ∀ {ns : List Int} {vs : List V}, Reps mg ι H (ns.map .int) vs → vs = ns.map V.int
  | [], vs, h => h.of_nil
  | n :: ns, vs, h => by
    obtain ⟨v, r, e, h1, h2⟩ := Reps.of_cons h
    rw [e, h1.int_inv, Reps.ints h2]; rfl
theorem Reps.bools : ∀ {ns : List Bool} {vs : List V}, Reps mg ι H (ns.map .bl) vs → vs = ns.map V.bl
  | [], vs, h => h.of_nil
  | n :: ns, vs, h => by
    obtain ⟨v, r, e, h1, h2⟩ := Reps.of_cons h
    rw [e, h1.bl_inv, Reps.bools h2]; rfl
theorem Reps.one {w : Val} {vs : List V} (h : Reps mg ι H [w] vs) : ∃ v, vs = [v] ∧ Rep mg ι H w v := by
  obtain ⟨v, r, e, h1, h2⟩ := h.of_cons
  rw [h2.of_nil] at e
  exact ⟨v, e, h1⟩
theorem Reps.two {w u : Val} {vs : List V} (h : Reps mg ι H [w, u] vs) : ∃ v z, vs = [v, z] ∧ Rep mg ι H w v ∧ Rep mg ι H u z := by
  obtain ⟨v, r, e, h1, h2⟩ := h.of_cons
  obtain ⟨z, e2, h3⟩ := Reps.one h2
  rw [e2] at e
  exact ⟨v, z, e, h1, h3⟩
end

/-! ### flat values: in, ==, index -/
@[reducible] def flatW : Val → Bool
  | .non => true
  | .bl _ => true
  | .int _ => true
  | .str _ => true
  | _ => false
def eqW : Val → Val → Bool
  | .non, .non => true
  | .bl a, .bl b => a == b
  | .bl a, .int b => (if a then 1 else 0) == b
  | .int a, .bl b => a == (if b then 1 else 0)
  | .int a, .int b => a == b
  | .str a, .str b => a == b
  | _, _ => false
def inW (x : Val) (xs : List Val) : Bool := xs.any fun y => eqW y x
section
variable {mg : Str → Option Value} {ι : List Addr} {H : Hp}
theorem flatW_rep {w : Val} {v : V} (r : Rep mg ι H w v) (f : flatW w = true) : flatV v = true ∧ ∀ {u : Val} {z : V}, Rep mg ι H u z → flatW u = true → eqV z v = eqW u w := by
  cases w with
  | non =>
    have e := r.non_inv; subst e
    refine ⟨rfl, fun {u z} r2 f2 => ?_⟩
    cases u with
    | non => have e := r2.non_inv; subst e; rfl
    | bl b => have e := r2.bl_inv; subst e; rfl
    | int b => have e := r2.int_inv; subst e; rfl
    | str b => have e := r2.str_inv; subst e; rfl
    | _ => cases f2
  | bl a =>
    have e := r.bl_inv; subst e
    refine ⟨rfl, fun {u z} r2 f2 => ?_⟩
    cases u with
    | non => have e := r2.non_inv; subst e; rfl
    | bl b => have e := r2.bl_inv; subst e; rfl
    | int b => have e := r2.int_inv; subst e; rfl
    | str b => have e := r2.str_inv; subst e; rfl
    | _ => cases f2
  | int a =>
    have e := r.int_inv; subst e
    refine ⟨rfl, fun {u z} r2 f2 => ?_⟩
    cases u with
    | non => have e := r2.non_inv; subst e; rfl
    | bl b => have e := r2.bl_inv; subst e; rfl
    | int b => have e := r2.int_inv; subst e; rfl
    | str b => have e := r2.str_inv; subst e; rfl
    | _ => cases f2
  | str a =>
    have e := r.str_inv; subst e
    refine ⟨rfl, fun {u z} r2 f2 => ?_⟩
    cases u with
    | non => have e := r2.non_inv; subst e; rfl
    | bl b => have e := r2.bl_inv; subst e; rfl
    | int b => have e := r2.int_inv; subst e; rfl
    | str b => have e := r2.str_inv; subst e; rfl
    | _ => cases f2
  | _ => cases f
theorem flats {w : Val} {v : V} (r : Rep mg ι H w v) (f : flatW w = true) : ∀ {ws : List Val} {vs : List V}, Reps mg ι H ws vs → ws.all flatW = true → vs.all flatV = true ∧ inV v vs = inW w ws
  | [], vs, h, _ => by rw [h.of_nil]; exact ⟨rfl, rfl⟩
  | x :: ws, vs, h, fa => by
    obtain ⟨y, r', e, h1, h2⟩ := h.of_cons
    subst e
    rw [List.all_cons, Bool.and_eq_true] at fa
    obtain ⟨i1, i2⟩ := flats r f h2 fa.2
    refine ⟨by rw [List.all_cons, (flatW_rep h1 fa.1).1, i1]; rfl, ?_⟩
    unfold inV inW at i2 ⊢
    rw [List.any_cons, List.any_cons, i2, (flatW_rep r f).2 h1 fa.1]
theorem flats' : ∀ {ws : List Val} {vs : List V}, Reps mg ι H ws vs → ws.all flatW = true → vs.all flatV = true
  | [], vs, h, _ => by rw [h.of_nil]; rfl
  | x :: ws, vs, h, fa => by
    obtain ⟨y, r', e, h1, h2⟩ := h.of_cons
    subst e
    rw [List.all_cons, Bool.and_eq_true] at fa
    rw [List.all_cons, (flatW_rep h1 fa.1).1, flats' h2 fa.2]; rfl
end
@[reducible] def vIn : Val → Val → Store → R Val
  | .str c, .str z, st => match c.cps.toList with
    | [k] => .ok (.bl (decide (k ∈ z.cps.toList))) st
    | _ => .bad
  | x, .tup ys, st => if flatW x && ys.all flatW then .ok (.bl (inW x ys)) st else .bad
  | x, .ref n, st => match seqAt st n with
    | some ys => if flatW x && ys.all flatW then .ok (.bl (inW x ys)) st else .bad
    | none => .bad
  | _, _, _ => .bad
@[reducible] def vNotIn : Val → Val → Store → R Val
  | .str c, .str z, st => match c.cps.toList with
    | [k] => .ok (.bl (!decide (k ∈ z.cps.toList))) st
    | _ => .bad
  | x, .tup ys, st => if flatW x && ys.all flatW then .ok (.bl (!inW x ys)) st else .bad
  | x, .ref n, st => match seqAt st n with
    | some ys => if flatW x && ys.all flatW then .ok (.bl (!inW x ys)) st else .bad
    | none => .bad
  | _, _, _ => .bad
theorem str_one {c : Str} {k : Nat} (h : c.cps.toList = [k]) : c = ⟨#[k]⟩ := by
  obtain ⟨a⟩ := c
  have : a = [k].toArray := by rw [← h]
  rw [this]
section
variable {X : Cx}
theorem m2_in : M2 X (compareOp .In) vIn := by
  rintro pins s σ H x y u1 u2 Q I rx ry ⟨ι, st, w1, w2, S, r1, r2, p⟩
  cases w2 with
  | str z =>
    cases w1 with
    | str c =>
      have e1 := r1.str_inv; have e2 := r2.str_inv
      subst e1 e2
      dsimp only [vIn] at p
      split at p
      · rename_i k ek
        exact op_in_sign pins s σ H _ _ u1 u2 Q I rx ry ⟨k, z, by rw [str_one ek], rfl, p.okSame S Rep.bl⟩
      · exact p.elim
    | _ => exact p.elim
  | tup ys =>
    obtain ⟨a, vs, e, ha, rr⟩ := r2.tup_inv
    subst e
    have p : Post X.K X.mg (rel1 X.mg) ι H Q (fun _ _ _ => False) (if flatW w1 && ys.all flatW then .ok (.bl (inW w1 ys)) st else .bad) := by cases w1 <;> exact p
    split at p
    · rename_i hf
      rw [Bool.and_eq_true] at hf
      obtain ⟨f1, f2⟩ := flats r1 hf.1 rr hf.2
      exact op_in_seq pins s σ H _ _ u1 u2 Q I rx ry ⟨a, vs, rfl, .inr (SqT.of ha), (flatW_rep r1 hf.1).1, f1, by rw [if_neg Bool.false_ne_true, f2]; exact p.okSame S Rep.bl⟩
    · exact p.elim
  | ref n =>
    obtain ⟨a, e, ha⟩ := r2.ref_inv
    subst e
    have p : Post X.K X.mg (rel1 X.mg) ι H Q (fun _ _ _ => False) (match seqAt st n with
      | some ys => if flatW w1 && ys.all flatW then .ok (.bl (inW w1 ys)) st else .bad
      | none => .bad) := by cases w1 <;> exact p
    cases es : seqAt st n with
    | none => rw [es] at p; exact p.elim
    | some ys =>
      rw [es] at p
      dsimp only at p
      obtain ⟨vs, hl, rr⟩ := S.seqL es ha
      split at p
      · rename_i hf
        rw [Bool.and_eq_true] at hf
        obtain ⟨f1, f2⟩ := flats r1 hf.1 rr hf.2
        exact op_in_seq pins s σ H _ _ u1 u2 Q I rx ry ⟨a, vs, rfl, .inl hl, (flatW_rep r1 hf.1).1, f1, by rw [if_neg Bool.false_ne_true, f2]; exact p.okSame S Rep.bl⟩
      · exact p.elim
  | _ => cases w1 <;> exact p.elim
theorem m2_notIn : M2 X (compareOp .NotIn) vNotIn := by
  rintro pins s σ H x y u1 u2 Q I rx ry ⟨ι, st, w1, w2, S, r1, r2, p⟩
  cases w2 with
  | str z =>
    cases w1 with
    | str c =>
      have e1 := r1.str_inv; have e2 := r2.str_inv
      subst e1 e2
      dsimp only [vNotIn] at p
      split at p
      · rename_i k ek
        exact op_notIn_sign pins s σ H _ _ u1 u2 Q I rx ry ⟨k, z, by rw [str_one ek], rfl, p.okSame S Rep.bl⟩
      · exact p.elim
    | _ => exact p.elim
  | tup ys =>
    obtain ⟨a, vs, e, ha, rr⟩ := r2.tup_inv
    subst e
    have p : Post X.K X.mg (rel1 X.mg) ι H Q (fun _ _ _ => False) (if flatW w1 && ys.all flatW then .ok (.bl (!inW w1 ys)) st else .bad) := by cases w1 <;> exact p
    split at p
    · rename_i hf
      rw [Bool.and_eq_true] at hf
      obtain ⟨f1, f2⟩ := flats r1 hf.1 rr hf.2
      exact op_notIn_seq pins s σ H _ _ u1 u2 Q I rx ry ⟨a, vs, rfl, .inr (SqT.of ha), (flatW_rep r1 hf.1).1, f1, by rw [if_pos rfl, f2]; exact p.okSame S Rep.bl⟩
    · exact p.elim
  | ref n =>
    obtain ⟨a, e, ha⟩ := r2.ref_inv
    subst e
    have p : Post X.K X.mg (rel1 X.mg) ι H Q (fun _ _ _ => False) (match seqAt st n with
      | some ys => if flatW w1 && ys.all flatW then .ok (.bl (!inW w1 ys)) st else .bad
      | none => .bad) := by cases w1 <;> exact p
    cases es : seqAt st n with
    | none => rw [es] at p; exact p.elim
    | some ys =>
      rw [es] at p
      dsimp only at p
      obtain ⟨vs, hl, rr⟩ := S.seqL es ha
      split at p
      · rename_i hf
        rw [Bool.and_eq_true] at hf
        obtain ⟨f1, f2⟩ := flats r1 hf.1 rr hf.2
        exact op_notIn_seq pins s σ H _ _ u1 u2 Q I rx ry ⟨a, vs, rfl, .inl hl, (flatW_rep r1 hf.1).1, f1, by rw [if_pos rfl, f2]; exact p.okSame S Rep.bl⟩
      · exact p.elim
  | _ => cases w1 <;> exact p.elim
theorem quiet_in : ∀ x y st, Quiet (vIn x y st) := by
  intro x y st ex st' h
  unfold vIn at h
  repeat (first | (split at h) | cases h)
theorem quiet_notIn : ∀ x y st, Quiet (vNotIn x y st) := by
  intro x y st ex st' h
  unfold vNotIn at h
  repeat (first | (split at h) | cases h)
theorem quiet_add : ∀ x y st, Quiet (vAdd x y st) := by
  intro x y st ex st' h
  unfold vAdd at h
  repeat (first | (split at h) | cases h)
theorem quiet_sub : ∀ x y st, Quiet (vSub x y st) := by
  intro x y st ex st' h
  unfold vSub at h
  repeat (first | (split at h) | cases h)
theorem quiet_mul : ∀ x y st, Quiet (vMul x y st) := by
  intro x y st ex st' h
  unfold vMul at h
  repeat (first | (split at h) | cases h)
theorem quiet_div : ∀ x y st, Quiet (vDiv x y st) := by
  intro x y st ex st' h
  unfold vDiv at h
  repeat (first | (split at h) | cases h)
theorem quiet_mod : ∀ x y st, Quiet (vMod x y st) := by
  intro x y st ex st' h
  unfold vMod at h
  repeat (first | (split at h) | cases h)
theorem quiet_pow : ∀ x y st, Quiet (vPow x y st) := by
  intro x y st ex st' h
  unfold vPow at h
  repeat (first | (split at h) | cases h)
theorem quiet_cmpI (q : Int → Int → Bool) : ∀ x y st, Quiet (vCmpI q x y st) := by
  intro x y st ex st' h
  unfold vCmpI at h
  repeat (first | (split at h) | cases h)
theorem quiet_le : ∀ x y st, Quiet (vLe x y st) := by
  intro x y st ex st' h
  unfold vLe at h
  repeat (first | (split at h) | cases h)
theorem quiet_isN : ∀ x y st, Quiet (vIsN x y st) := by
  intro x y st ex st' h
  unfold vIsN at h
  repeat (first | (split at h) | cases h)
theorem quiet_notN : ∀ x y st, Quiet (vNotN x y st) := by
  intro x y st ex st' h
  unfold vNotN at h
  repeat (first | (split at h) | cases h)
end

/-! ### == of any data -/
def mapO {α β : Type} (f : α → Option β) : List α → Option (List β)
  | [] => some []
  | x :: xs => match f x, mapO f xs with
    | some y, some ys => some (y :: ys)
    | _, _ => none
def deep (st : Store) : Nat → Val → Option PyData
  | 0, _ => none
  | _ + 1, .non => some .none
  | _ + 1, .bl b => some (.bool b)
  | _ + 1, .int i => some (.int i)
  | _ + 1, .str z => if PyData.canLay0 (.str z) = true then some (.str z) else none
  | n + 1, .tup xs => (mapO (deep st n) xs).map .tuple
  | n + 1, .ref k => match seqAt st k with
    | some xs => (mapO (deep st n) xs).map .list
    | none => none
  | _ + 1, .gl _ => none
  | _ + 1, .adr _ => none
theorem deepAll {K : PySem.W.Frag} {mg : Str → Option Value} {ι : List Addr} {H : Hp} {f : Val → Option PyData} {n : Nat}
    (hf : ∀ {w : Val} {d : PyData}, f w = some d → d.canLay0 = true ∧ d.depth ≤ n ∧ ∀ {v : V}, Rep mg ι H w v → Dp K H v d) : ∀ {ws : List Val} {ds : List PyData}, mapO f ws = some ds →
      PyData.canLayAll0 ds = true ∧ PyData.depthAll ds ≤ n ∧ ∀ {vs : List V}, Reps mg ι H ws vs → DpAll K H vs ds
  | [], ds, h => by
    cases h
    refine ⟨rfl, Nat.zero_le _, fun {vs} r => ?_⟩
    rw [r.of_nil]
    exact .nil
  | w :: ws, ds, h => by
    unfold mapO at h
    split at h
    · rename_i d ds' e1 e2
      cases h
      obtain ⟨c1, c2, c3⟩ := hf e1
      obtain ⟨i1, i2, i3⟩ := deepAll hf e2
      refine ⟨by rw [PyData.canLayAll0, c1, i1]; rfl, by rw [PyData.depthAll]; omega, fun {vs} r => ?_⟩
      obtain ⟨v, r', e, h1, h2⟩ := r.of_cons
      subst e
      exact .cons (c3 h1) (i3 h2)
    · cases h
theorem deep_ok {K : PySem.W.Frag} {mg : Str → Option Value} {ι : List Addr} {st : Store} {H : Hp} (S : Sim K mg ι st H) : ∀ {n : Nat} {w : Val} {d : PyData}, deep st n w = some d → d.canLay0 = true ∧ d.depth ≤ n ∧ ∀ {v : V}, Rep mg ι H w v → Dp K H v d
  | 0, _, _, h => by cases h
  | n + 1, w, d, h => by
    cases w with
    | non => cases h; exact ⟨rfl, by simp [PyData.depth], fun r => by rw [r.non_inv]; exact .non⟩
    | bl b => cases h; exact ⟨rfl, by simp [PyData.depth], fun r => by rw [r.bl_inv]; exact .bl b⟩
    | int b => cases h; exact ⟨rfl, by simp [PyData.depth], fun r => by rw [r.int_inv]; exact .int b⟩
    | str b =>
      unfold deep at h
      split at h
      · rename_i hc
        cases h
        exact ⟨hc, by simp [PyData.depth], fun r => by rw [r.str_inv]; exact .str b⟩
      · cases h
    | tup xs =>
      unfold deep at h
      cases q : mapO (deep st n) xs with
      | none => rw [q] at h; cases h
      | some ds =>
        rw [q] at h
        cases h
        obtain ⟨c1, c2, c3⟩ := deepAll (fun e => deep_ok S e) q
        refine ⟨by rw [PyData.canLay0]; exact c1, by rw [PyData.depth]; omega, fun {v} r => ?_⟩
        obtain ⟨a, vs, e, ha, rr⟩ := r.tup_inv
        subst e
        exact .tup (SqT.of ha) (c3 rr)
    | ref k =>
      unfold deep at h
      cases es : seqAt st k with
      | none => rw [es] at h; cases h
      | some xs =>
        rw [es] at h
        dsimp only at h
        cases q : mapO (deep st n) xs with
        | none => rw [q] at h; cases h
        | some ds =>
          rw [q] at h
          cases h
          obtain ⟨c1, c2, c3⟩ := deepAll (fun e => deep_ok S e) q
          refine ⟨by rw [PyData.canLay0]; exact c1, by rw [PyData.depth]; omega, fun {v} r => ?_⟩
          obtain ⟨a, e, ha⟩ := r.ref_inv
          subst e
          obtain ⟨vs, hl, rr⟩ := S.seqL es ha
          exact .lst hl (c3 rr)
    | gl x => cases h
    | adr x => cases h
theorem deep_shaped {K : PySem.W.Frag} {mg : Str → Option Value} {ι : List Addr} {st : Store} {H : Hp} (S : Sim K mg ι st H) {n : Nat} (hn : n ≤ 64) {w : Val} {d : PyData} (h : deep st n w = some d) : SeqAt.shaped d = true := by
  obtain ⟨c1, c2, _⟩ := deep_ok S h
  unfold SeqAt.shaped
  rw [c1, decide_eq_true (Nat.le_trans c2 hn)]
  rfl
@[reducible] def vEq : Val → Val → Store → R Val
  | .int i, .int j, st => .ok (.bl (decide (i = j))) st
  | .str i, .str j, st => .ok (.bl (decide (i = j))) st
  | .bl i, .bl j, st => .ok (.bl (decide (i = j))) st
  | x, y, st => match deep st 16 x, deep st 16 y with
    | some d, some e => .ok (.bl (PyData.eqv d e)) st
    | _, _ => .bad
@[reducible] def vNe : Val → Val → Store → R Val
  | .int i, .int j, st => .ok (.bl (!decide (i = j))) st
  | .str i, .str j, st => .ok (.bl (!decide (i = j))) st
  | .bl i, .bl j, st => .ok (.bl (!decide (i = j))) st
  | x, y, st => match deep st 16 x, deep st 16 y with
    | some d, some e => .ok (.bl (!PyData.eqv d e)) st
    | _, _ => .bad
section
variable {X : Cx}
theorem dec_V {α : Type} [DecidableEq α] {f : α → V} (hf : ∀ a b, f a = f b → a = b) (i j : α) : decide (f i = f j) = decide (i = j) := by
  by_cases h : i = j
  · rw [h, decide_eq_true rfl, decide_eq_true rfl]
  · rw [decide_eq_false h, decide_eq_false fun e => h (hf _ _ e)]
theorem eq_deep {W1 W2 : Val} (hu : X.A.units + 64 < cLine) {pins : List (Addr × Obj)} {s : Shared} {σ : L2.St} {H : Hp} {x y : V} {u1 u2 : Value} {Q : VK} (I : Inv X pins σ H s) (rx : RelV x u1) (ry : RelV y u2) {ι : List Addr} {st : Store} (S : Sim X.K X.mg ι st H)
    (r1 : Rep X.mg ι H W1 x) (r2 : Rep X.mg ι H W2 y) (p : Post X.K X.mg (rel1 X.mg) ι H Q (fun _ _ _ => False) (match deep st 16 W1, deep st 16 W2 with
    | some d, some e => .ok (.bl (PyData.eqv d e)) st
    | _, _ => .bad)) : wpAny (model X.prog X.w) X.A (compareOp .Eq u1 u2) (EP X pins σ Q) X.xe s := by
  cases q1 : deep st 16 W1 with
  | none => rw [q1] at p; exact p.elim
  | some d =>
    cases q2 : deep st 16 W2 with
    | none => rw [q1, q2] at p; exact p.elim
    | some e =>
      rw [q1, q2] at p
      exact op_eqD hu pins s σ H _ _ u1 u2 Q I rx ry ⟨d, e, (deep_ok S q1).2.2 r1, (deep_ok S q2).2.2 r2, deep_shaped S (by decide) q1, deep_shaped S (by decide) q2, p.okSame S Rep.bl⟩
theorem ne_deep {W1 W2 : Val} (hu : X.A.units + 64 < cLine) {pins : List (Addr × Obj)} {s : Shared} {σ : L2.St} {H : Hp} {x y : V} {u1 u2 : Value} {Q : VK} (I : Inv X pins σ H s) (rx : RelV x u1) (ry : RelV y u2) {ι : List Addr} {st : Store} (S : Sim X.K X.mg ι st H)
    (r1 : Rep X.mg ι H W1 x) (r2 : Rep X.mg ι H W2 y) (p : Post X.K X.mg (rel1 X.mg) ι H Q (fun _ _ _ => False) (match deep st 16 W1, deep st 16 W2 with
    | some d, some e => .ok (.bl (!PyData.eqv d e)) st
    | _, _ => .bad)) : wpAny (model X.prog X.w) X.A (compareOp .NotEq u1 u2) (EP X pins σ Q) X.xe s := by
  cases q1 : deep st 16 W1 with
  | none => rw [q1] at p; exact p.elim
  | some d =>
    cases q2 : deep st 16 W2 with
    | none => rw [q1, q2] at p; exact p.elim
    | some e =>
      rw [q1, q2] at p
      exact op_neD hu pins s σ H _ _ u1 u2 Q I rx ry ⟨d, e, (deep_ok S q1).2.2 r1, (deep_ok S q2).2.2 r2, deep_shaped S (by decide) q1, deep_shaped S (by decide) q2, p.okSame S Rep.bl⟩
theorem m2_eq (hu : X.A.units + 64 < cLine) : M2 X (compareOp .Eq) vEq := by
  rintro pins s σ H x y u1 u2 Q I rx ry ⟨ι, st, w1, w2, S, r1, r2, p⟩
  cases w1 with
  | int i =>
    cases w2 with
    | int j =>
      have e1 := r1.int_inv; have e2 := r2.int_inv
      subst e1 e2
      exact op_eq pins s σ H _ _ u1 u2 Q I rx ry ⟨rfl, by rw [dec_V (fun a b h => by cases h; rfl)]; exact p.okSame S Rep.bl⟩
    | _ => exact eq_deep hu I rx ry S r1 r2 p
  | str i =>
    cases w2 with
    | str j =>
      have e1 := r1.str_inv; have e2 := r2.str_inv
      subst e1 e2
      exact op_eq pins s σ H _ _ u1 u2 Q I rx ry ⟨rfl, by rw [dec_V (fun a b h => by cases h; rfl)]; exact p.okSame S Rep.bl⟩
    | _ => exact eq_deep hu I rx ry S r1 r2 p
  | bl i =>
    cases w2 with
    | bl j =>
      have e1 := r1.bl_inv; have e2 := r2.bl_inv
      subst e1 e2
      exact op_eq pins s σ H _ _ u1 u2 Q I rx ry ⟨rfl, by rw [dec_V (fun a b h => by cases h; rfl)]; exact p.okSame S Rep.bl⟩
    | _ => exact eq_deep hu I rx ry S r1 r2 p
  | _ => exact eq_deep hu I rx ry S r1 r2 (by cases w2 <;> exact p)
theorem m2_ne (hu : X.A.units + 64 < cLine) : M2 X (compareOp .NotEq) vNe := by
  rintro pins s σ H x y u1 u2 Q I rx ry ⟨ι, st, w1, w2, S, r1, r2, p⟩
  cases w1 with
  | int i =>
    cases w2 with
    | int j =>
      have e1 := r1.int_inv; have e2 := r2.int_inv
      subst e1 e2
      exact op_ne pins s σ H _ _ u1 u2 Q I rx ry ⟨rfl, by rw [dec_V (fun a b h => by cases h; rfl)]; exact p.okSame S Rep.bl⟩
    | _ => exact ne_deep hu I rx ry S r1 r2 p
  | str i =>
    cases w2 with
    | str j =>
      have e1 := r1.str_inv; have e2 := r2.str_inv
      subst e1 e2
      exact op_ne pins s σ H _ _ u1 u2 Q I rx ry ⟨rfl, by rw [dec_V (fun a b h => by cases h; rfl)]; exact p.okSame S Rep.bl⟩
    | _ => exact ne_deep hu I rx ry S r1 r2 p
  | bl i =>
    cases w2 with
    | bl j =>
      have e1 := r1.bl_inv; have e2 := r2.bl_inv
      subst e1 e2
      exact op_ne pins s σ H _ _ u1 u2 Q I rx ry ⟨rfl, by rw [dec_V (fun a b h => by cases h; rfl)]; exact p.okSame S Rep.bl⟩
    | _ => exact ne_deep hu I rx ry S r1 r2 p
  | _ => exact ne_deep hu I rx ry S r1 r2 (by cases w2 <;> exact p)
theorem quiet_eq : ∀ x y st, Quiet (vEq x y st) := by
  intro x y st ex st' h
  unfold vEq at h
  repeat (first | (split at h) | cases h)
theorem quiet_ne : ∀ x y st, Quiet (vNe x y st) := by
  intro x y st ex st' h
  unfold vNe at h
  repeat (first | (split at h) | cases h)
end

/-! ### functions -/
@[reducible] def bLen : List Val → Store → R Val
  | [.tup xs], st => .ok (.int xs.length) st
  | [.str z], st => if z.length ≤ sizeLine then .ok (.int z.length) st else .bad
  | [.ref n], st => match seqAt st n with
    | some xs => .ok (.int xs.length) st
    | none => .bad
  | _, _ => .bad
@[reducible] def bMax2 : List Val → Store → R Val
  | [.int i, .int j], st => .ok (.int (max i j)) st
  | _, _ => .bad
@[reducible] def bMin2 : List Val → Store → R Val
  | [.int i, .int j], st => .ok (.int (min i j)) st
  | _, _ => .bad
@[reducible] def bIntB : List Val → Store → R Val
  | [.int i], st => .ok (.int i) st
  | [.bl k], st => .ok (.int (if k then 1 else 0)) st
  | _, _ => .bad
/-- of one list of ints -/
@[reducible] def ofInts (f : List Int → Store → R Val) : List Val → Store → R Val
  | [.ref n], st => match seqAt st n with
    | some xs => match asInts xs with
      | some ns => f ns st
      | none => .bad
    | none => .bad
  | _, _ => .bad
@[reducible] def ofBools (f : List Bool → Store → R Val) : List Val → Store → R Val
  | [.ref n], st => match seqAt st n with
    | some xs => match asBools xs with
      | some ns => f ns st
      | none => .bad
    | none => .bad
  | _, _ => .bad
@[reducible] def bSum : List Val → Store → R Val := ofInts fun ns st => .ok (.int ns.sum) st
def maxI : List Int → Int
  | [] => 0
  | [x] => x
  | x :: r => max x (maxI r)
def minI : List Int → Int
  | [] => 0
  | [x] => x
  | x :: r => min x (minI r)
theorem maxI_spec : ∀ {ns : List Int}, ns ≠ [] → maxI ns ∈ ns ∧ ∀ y ∈ ns, y ≤ maxI ns
  | [x], _ => ⟨by simp [maxI], fun y hy => by simp at hy; subst hy; simp [maxI]⟩
  | x :: z :: r, _ => by
    obtain ⟨h1, h2⟩ := maxI_spec (ns := z :: r) (by simp)
    have e : maxI (x :: z :: r) = max x (maxI (z :: r)) := rfl
    refine ⟨?_, fun y hy => ?_⟩
    · rw [e]
      by_cases q : x ≤ maxI (z :: r)
      · rw [Int.max_eq_right q]; exact List.mem_cons_of_mem _ h1
      · rw [Int.max_eq_left (by omega)]; exact List.mem_cons_self
    · rw [e]
      rcases List.mem_cons.mp hy with q | q
      · subst q; omega
      · have := h2 y q; omega
theorem minI_spec : ∀ {ns : List Int}, ns ≠ [] → minI ns ∈ ns ∧ ∀ y ∈ ns, minI ns ≤ y
  | [x], _ => ⟨by simp [minI], fun y hy => by simp at hy; subst hy; simp [minI]⟩
  | x :: z :: r, _ => by
    obtain ⟨h1, h2⟩ := minI_spec (ns := z :: r) (by simp)
    have e : minI (x :: z :: r) = min x (minI (z :: r)) := rfl
    refine ⟨?_, fun y hy => ?_⟩
    · rw [e]
      by_cases q : x ≤ minI (z :: r)
      · rw [Int.min_eq_left q]; exact List.mem_cons_self
      · rw [Int.min_eq_right (by omega)]; exact List.mem_cons_of_mem _ h1
    · rw [e]
      rcases List.mem_cons.mp hy with q | q
      · subst q; omega
      · have := h2 y q; omega
@[reducible] def bMax1 : List Val → Store → R Val := ofInts fun ns st => if ns = [] then .bad else .ok (.int (maxI ns)) st
@[reducible] def bMin1 : List Val → Store → R Val := ofInts fun ns st => if ns = [] then .bad else .ok (.int (minI ns)) st
@[reducible] def bAny : List Val → Store → R Val := ofBools fun ns st => .ok (.bl (ns.any id)) st
@[reducible] def bAll : List Val → Store → R Val := ofBools fun ns st => .ok (.bl (ns.all id)) st
@[reducible] def bList : List Val → Store → R Val
  | [.tup xs], st => .ok (.ref st.length) (st ++ [.lst xs])
  | [.ref n], st => match seqAt st n with
    | some xs => .ok (.ref st.length) (st ++ [.lst xs])
    | none => .bad
  | _, _ => .bad
@[reducible] def bTuple : List Val → Store → R Val
  | [.tup xs], st => .ok (.tup xs) st
  | [.ref n], st => match seqAt st n with
    | some xs => .ok (.tup xs) st
    | none => .bad
  | _, _ => .bad
section
variable {X : Cx}
theorem mc_len : MC X (.builtin "len") bLen := by
  rintro pins s σ H xs us Q I rs ⟨ι, st, ws, S, rr, p⟩
  unfold bLen at p
  split at p
  · rename_i ys
    obtain ⟨v, e, r⟩ := rr.one
    obtain ⟨a, vs, e2, ha, r2⟩ := r.tup_inv
    subst e e2
    exact call_len pins s σ H _ us Q I rs ⟨_, vs.length, rfl, .inr ⟨vs, SqT.of ha, rfl⟩, by rw [← r2.length]; exact p.okSame S Rep.int⟩
  · rename_i z
    obtain ⟨v, e, r⟩ := rr.one
    have e2 := r.str_inv
    subst e e2
    split at p
    · rename_i hz
      exact call_len pins s σ H _ us Q I rs ⟨_, z.length, rfl, ⟨hz, rfl⟩, p.okSame S Rep.int⟩
    · exact p.elim
  · rename_i n
    obtain ⟨v, e, r⟩ := rr.one
    obtain ⟨a, e2, ha⟩ := r.ref_inv
    subst e e2
    cases es : seqAt st n with
    | none => rw [es] at p; exact p.elim
    | some ys =>
      rw [es] at p
      obtain ⟨vs, hl, r2⟩ := S.seqL es ha
      exact call_len pins s σ H _ us Q I rs ⟨_, vs.length, rfl, .inl ⟨vs, hl, rfl⟩, by rw [← r2.length]; exact p.okSame S Rep.int⟩
  · exact p.elim
theorem mc_max2 (hc : X.calm = true) : MC X (.builtin "max") bMax2 := by
  rintro pins s σ H xs us Q I rs ⟨ι, st, ws, S, rr, p⟩
  unfold bMax2 at p
  split at p
  · rename_i i j
    obtain ⟨v, z, e, r1, r2⟩ := rr.two
    have e1 := r1.int_inv; have e2 := r2.int_inv
    subst e e1 e2
    refine call_max2 hc pins s σ H _ us Q I rs ⟨i, j, rfl, ?_⟩
    have : (if j > i then j else i) = max i j := by
      by_cases h : j > i
      · rw [if_pos h, Int.max_eq_right (by omega)]
      · rw [if_neg h, Int.max_eq_left (by omega)]
    rw [this]
    exact p.okSame S Rep.int
  · exact p.elim
theorem mc_min2 (hc : X.calm = true) : MC X (.builtin "min") bMin2 := by
  rintro pins s σ H xs us Q I rs ⟨ι, st, ws, S, rr, p⟩
  unfold bMin2 at p
  split at p
  · rename_i i j
    obtain ⟨v, z, e, r1, r2⟩ := rr.two
    have e1 := r1.int_inv; have e2 := r2.int_inv
    subst e e1 e2
    refine call_min2 hc pins s σ H _ us Q I rs ⟨i, j, rfl, ?_⟩
    have : (if j < i then j else i) = min i j := by
      by_cases h : j < i
      · rw [if_pos h, Int.min_eq_right (by omega)]
      · rw [if_neg h, Int.min_eq_left (by omega)]
    rw [this]
    exact p.okSame S Rep.int
  · exact p.elim
theorem mc_intB : MC X (.type "int") bIntB := by
  rintro pins s σ H xs us Q I rs ⟨ι, st, ws, S, rr, p⟩
  unfold bIntB at p
  split at p
  · rename_i i
    obtain ⟨v, e, r⟩ := rr.one
    have e2 := r.int_inv
    subst e e2
    exact call_int1 pins s σ H _ us Q I rs (.inl ⟨i, rfl, p.okSame S Rep.int⟩)
  · rename_i i
    obtain ⟨v, e, r⟩ := rr.one
    have e2 := r.bl_inv
    subst e e2
    exact call_int1 pins s σ H _ us Q I rs (.inr ⟨i, rfl, p.okSame S Rep.int⟩)
  · exact p.elim
theorem ofInts_inv {f : List Int → Store → R Val} {K : PySem.W.Frag} {mg : Str → Option Value} {ι : List Addr} {st : Store} {H : Hp} {Q : VK} {E : Value → Option Addr → Hp → Prop} {ws : List Val} {vs : List V} (S : Sim K mg ι st H) (rr : Reps mg ι H ws vs) (p : Post K mg (rel1 mg) ι H Q E (ofInts f ws st)) :
    ∃ a ns, vs = [.ref a] ∧ SqL K H a (ns.map V.int) ∧ Post K mg (rel1 mg) ι H Q E (f ns st) := by
  unfold ofInts at p
  split at p
  · rename_i n
    obtain ⟨v, e, r⟩ := rr.one
    obtain ⟨a, e2, ha⟩ := r.ref_inv
    subst e e2
    cases es : seqAt st n with
    | none => rw [es] at p; exact p.elim
    | some ys =>
      rw [es] at p
      dsimp only at p
      cases ei : asInts ys with
      | none => rw [ei] at p; exact p.elim
      | some ns =>
        rw [ei] at p
        obtain ⟨us, hl, r2⟩ := S.seqL es ha
        rw [asInts_some ei] at r2
        rw [r2.ints] at hl
        exact ⟨a, ns, rfl, hl, p⟩
  · exact p.elim
theorem ofBools_inv {f : List Bool → Store → R Val} {K : PySem.W.Frag} {mg : Str → Option Value} {ι : List Addr} {st : Store} {H : Hp} {Q : VK} {E : Value → Option Addr → Hp → Prop} {ws : List Val} {vs : List V} (S : Sim K mg ι st H) (rr : Reps mg ι H ws vs) (p : Post K mg (rel1 mg) ι H Q E (ofBools f ws st)) :
    ∃ a ns, vs = [.ref a] ∧ SqL K H a (ns.map V.bl) ∧ Post K mg (rel1 mg) ι H Q E (f ns st) := by
  unfold ofBools at p
  split at p
  · rename_i n
    obtain ⟨v, e, r⟩ := rr.one
    obtain ⟨a, e2, ha⟩ := r.ref_inv
    subst e e2
    cases es : seqAt st n with
    | none => rw [es] at p; exact p.elim
    | some ys =>
      rw [es] at p
      dsimp only at p
      cases ei : asBools ys with
      | none => rw [ei] at p; exact p.elim
      | some ns =>
        rw [ei] at p
        obtain ⟨us, hl, r2⟩ := S.seqL es ha
        rw [asBools_some ei] at r2
        rw [r2.bools] at hl
        exact ⟨a, ns, rfl, hl, p⟩
  · exact p.elim
theorem mc_sum (hc : X.calm = true) : MC X (.builtin "sum") bSum := by
  rintro pins s σ H xs us Q I rs ⟨ι, st, ws, S, rr, p⟩
  obtain ⟨a, ns, e, hl, p⟩ := ofInts_inv S rr p
  exact cr_sum hc pins s σ H _ us Q I rs ⟨a, ns, e, hl, p.okSame S Rep.int⟩
theorem mc_max1 (hc : X.calm = true) : MC X (.builtin "max") bMax1 := by
  rintro pins s σ H xs us Q I rs ⟨ι, st, ws, S, rr, p⟩
  obtain ⟨a, ns, e, hl, p⟩ := ofInts_inv S rr p
  split at p
  · exact p.elim
  · rename_i hne
    refine cr_max hc pins s σ H _ us Q I rs ⟨a, ns, e, hl, by cases ns with | nil => exact absurd rfl hne | cons x r => simp, fun m hm hle => ?_⟩
    obtain ⟨h1, h2⟩ := maxI_spec hne
    have : m = maxI ns := by have := h2 m hm; have := hle _ h1; omega
    rw [this]
    exact p.okSame S Rep.int
theorem mc_min1 (hc : X.calm = true) : MC X (.builtin "min") bMin1 := by
  rintro pins s σ H xs us Q I rs ⟨ι, st, ws, S, rr, p⟩
  obtain ⟨a, ns, e, hl, p⟩ := ofInts_inv S rr p
  split at p
  · exact p.elim
  · rename_i hne
    refine cr_min hc pins s σ H _ us Q I rs ⟨a, ns, e, hl, by cases ns with | nil => exact absurd rfl hne | cons x r => simp, fun m hm hle => ?_⟩
    obtain ⟨h1, h2⟩ := minI_spec hne
    have : m = minI ns := by have := h2 m hm; have := hle _ h1; omega
    rw [this]
    exact p.okSame S Rep.int
theorem mc_any (hc : X.calm = true) : MC X (.builtin "any") bAny := by
  rintro pins s σ H xs us Q I rs ⟨ι, st, ws, S, rr, p⟩
  obtain ⟨a, ns, e, hl, p⟩ := ofBools_inv S rr p
  exact cr_any hc pins s σ H _ us Q I rs ⟨a, ns, e, hl, p.okSame S Rep.bl⟩
theorem mc_all (hc : X.calm = true) : MC X (.builtin "all") bAll := by
  rintro pins s σ H xs us Q I rs ⟨ι, st, ws, S, rr, p⟩
  obtain ⟨a, ns, e, hl, p⟩ := ofBools_inv S rr p
  exact cr_all hc pins s σ H _ us Q I rs ⟨a, ns, e, hl, p.okSame S Rep.bl⟩
theorem mc_list : MC X (.type "list") bList := by
  rintro pins s σ H xs us Q I rs ⟨ι, st, ws, S, rr, p⟩
  unfold bList at p
  split at p
  · rename_i ys
    obtain ⟨v, e, r⟩ := rr.one
    obtain ⟨a, vs, e2, ha, r2⟩ := r.tup_inv
    subst e e2
    exact call_list_of pins s σ H _ us Q I rs ⟨a, vs, rfl, .inr (SqT.of ha), fun l hl => p.newLst S r2 hl⟩
  · rename_i n
    obtain ⟨v, e, r⟩ := rr.one
    obtain ⟨a, e2, ha⟩ := r.ref_inv
    subst e e2
    cases es : seqAt st n with
    | none => rw [es] at p; exact p.elim
    | some ys =>
      rw [es] at p
      obtain ⟨vs, hl, r2⟩ := S.seqL es ha
      exact call_list_of pins s σ H _ us Q I rs ⟨a, vs, rfl, .inl hl, fun l hl => p.newLst S r2 hl⟩
  · exact p.elim
theorem mc_tuple : MC X (.type "tuple") bTuple := by
  rintro pins s σ H xs us Q I rs ⟨ι, st, ws, S, rr, p⟩
  unfold bTuple at p
  split at p
  · rename_i ys
    obtain ⟨v, e, r⟩ := rr.one
    obtain ⟨a, vs, e2, ha, r2⟩ := r.tup_inv
    subst e e2
    exact call_tuple_of pins s σ H _ us Q I rs ⟨a, vs, rfl, .inr ⟨SqT.of ha, p.okSame S (Rep.tup ha r2)⟩⟩
  · rename_i n
    obtain ⟨v, e, r⟩ := rr.one
    obtain ⟨a, e2, ha⟩ := r.ref_inv
    subst e e2
    cases es : seqAt st n with
    | none => rw [es] at p; exact p.elim
    | some ys =>
      rw [es] at p
      obtain ⟨vs, hl, r2⟩ := S.seqL es ha
      exact call_tuple_of pins s σ H _ us Q I rs ⟨a, vs, rfl, .inl ⟨hl, fun l hl => p.newTup S r2 hl⟩⟩
  · exact p.elim
theorem quiet_len : ∀ xs st, Quiet (bLen xs st) := by
  intro x st ex st' h
  unfold bLen at h
  repeat (first | (split at h) | cases h)
theorem quiet_max2 : ∀ xs st, Quiet (bMax2 xs st) := by
  intro x st ex st' h
  unfold bMax2 at h
  repeat (first | (split at h) | cases h)
theorem quiet_min2 : ∀ xs st, Quiet (bMin2 xs st) := by
  intro x st ex st' h
  unfold bMin2 at h
  repeat (first | (split at h) | cases h)
theorem quiet_intB : ∀ xs st, Quiet (bIntB xs st) := by
  intro x st ex st' h
  unfold bIntB at h
  repeat (first | (split at h) | cases h)
theorem quiet_ofInts {f : List Int → Store → R Val} (hf : ∀ ns st, Quiet (f ns st)) : ∀ xs st, Quiet (ofInts f xs st) := by
  intro x st ex st' h
  unfold ofInts at h
  repeat (first | exact hf _ _ _ _ h | (split at h) | cases h)
theorem quiet_ofBools {f : List Bool → Store → R Val} (hf : ∀ ns st, Quiet (f ns st)) : ∀ xs st, Quiet (ofBools f xs st) := by
  intro x st ex st' h
  unfold ofBools at h
  repeat (first | exact hf _ _ _ _ h | (split at h) | cases h)
theorem quiet_sum : ∀ xs st, Quiet (bSum xs st) := quiet_ofInts fun ns st x s h => by cases h
theorem quiet_max1 : ∀ xs st, Quiet (bMax1 xs st) := quiet_ofInts fun ns st x s h => by split at h <;> cases h
theorem quiet_min1 : ∀ xs st, Quiet (bMin1 xs st) := quiet_ofInts fun ns st x s h => by split at h <;> cases h
theorem quiet_any : ∀ xs st, Quiet (bAny xs st) := quiet_ofBools fun ns st x s h => by cases h
theorem quiet_all : ∀ xs st, Quiet (bAll xs st) := quiet_ofBools fun ns st x s h => by cases h
theorem quiet_list : ∀ xs st, Quiet (bList xs st) := by
  intro x st ex st' h
  unfold bList at h
  repeat (first | (split at h) | cases h)
theorem quiet_tuple : ∀ xs st, Quiet (bTuple xs st) := by
  intro x st ex st' h
  unfold bTuple at h
  repeat (first | (split at h) | cases h)
end
end Ab

set_option Elab.async false
set_option linter.all false
set_option maxRecDepth 100000
/-! Ab: methods of built-in types, stores by place, what else is walked. -/
namespace Ab
open PySem PySem.Spec L2

/-! ### methods of built-in types -/
def rM (K : PySem.W.Frag) (mg : Str → Option Value) (g : Val → List Val → Store → R Val) : V → List V → Hp → VK → Prop := fun x vs H Q =>
  ∃ ι st w ws, Sim K mg ι st H ∧ Rep mg ι H w x ∧ Reps mg ι H ws vs ∧ Post K mg (rel1 mg) ι H Q (fun _ _ _ => False) (g w ws st)
@[reducible] def tyOk (T : String) : Val → Store → Bool
  | .str _, _ => decide (T = "str")
  | .ref n, st => match st[n]? with
    | some (.lst _) => decide (T = "list")
    | some (.frz _) => decide (T = "list")
    | some (.dct _) => decide (T = "dict")
    | _ => false
  | _, _ => false
theorem tyOk_tyV {K : PySem.W.Frag} {mg : Str → Option Value} {ι : List Addr} {st : Store} {H : Hp} (S : Sim K mg ι st H) {T : String} {w : Val} {v : V} (r : Rep mg ι H w v) (h : tyOk T w st = true) : tyV K T v H := by
  cases w with
  | str z =>
    have e := r.str_inv
    subst e
    show T = "str"
    exact of_decide_eq_true h
  | ref n =>
    obtain ⟨a, e, ha⟩ := r.ref_inv
    subst e
    dsimp only [tyOk] at h
    split at h
    · rename_i xs ec
      obtain ⟨vs, h1, _⟩ := S.at ec ha
      exact .inl ⟨of_decide_eq_true h, vs, SqL.of h1⟩
    · rename_i xs ec
      obtain ⟨vs, h1, _⟩ := (S.at ec ha).seq
      exact .inl ⟨of_decide_eq_true h, vs, h1⟩
    · rename_i xs ec
      obtain ⟨vs, h1, _⟩ := S.at ec ha
      exact .inr (.inr (.inl ⟨of_decide_eq_true h, .inl ⟨vs, h1⟩⟩))
    · cases h
  | _ => cases h
@[reducible] def mBM (T : String) (g : Val → List Val → Store → R Val) (mo : ME) (t : MA) : ME := fun ρ st => (mo ρ st).bind fun x st1 => if tyOk T x st1 = true then (t ρ st1).bind fun ws st2 => g x ws st2 else .bad
section
variable {X : Cx} {o e : Expr} {es : List Expr} {mo : ME} {t : MA} {name : Str} {apos cpos : Pos} {T id : String} {g : Val → List Val → Store → R Val}
theorem je_bm (pa : PlainAttrs T) (slot : Slot T name id) (hty : typeOf (.builtin id) = pure (.type "method_descriptor")) (hm : MtR X id (rM X.K X.mg g)) (hq : ∀ x ws st, Quiet (g x ws st)) (ho : JE X o mo) (ha : JA X (e :: es) t)
    (hbase : attributeBase o name X.env (eval o X.env) = eval o X.env := by rfl)
    (hfew : ((backTo cpos (starEach (e :: es) X.env)).all (fun x => !x.1) && (backToKw cpos (keywordEach [] X.env)).all (fun x => x.1.isSome)
      && decide ((e :: es).length + ([] : List Keyword).length + (if ([] : List Keyword).isEmpty then 0 else 1) < 30)) = true := by rfl)
    (hline : (apos.endLine == cpos.line) = true := by rfl) (hs : starEach (e :: es) X.env = (false, eval e X.env) :: starEach es X.env := by rfl) (hplain : (backTo cpos (starEach es X.env)).any (·.1) = false := by rfl) :
    JE X (.Call (.Attribute o name apos) (e :: es) [] cpos) (mBM T g mo t) := fun W tk => by
  refine PE.weak (pe_bm pa slot hty hm (ho W tk) (ha W tk) hbase hfew hline hs hplain) fun σ H Q ⟨ι, ρ, st, S, sl, p⟩ => ?_
  refine ⟨ι, ρ, st, S, sl, Post.bind p fun w st1 ι1 H1 x l1 S1 r1 p1 => ?_⟩
  split at p1
  · rename_i hT
    refine ⟨tyOk_tyV S1 r1 hT, ι1, ρ, st1, S1, sl.later l1, Post.bind p1 fun ws st2 ι2 H2 vs l2 S2 r2 p2 => ?_⟩
    exact ⟨ι2, st2, w, ws, S2, Rep.later l2 r1, r2, noExc (hq _ _ _) p2⟩
  · exact p1.elim
theorem je_bm0 (pa : PlainAttrs T) (slot : Slot T name id) (hty : typeOf (.builtin id) = pure (.type "method_descriptor")) (hm : MtR X id (rM X.K X.mg g)) (hq : ∀ x ws st, Quiet (g x ws st)) (ho : JE X o mo)
    (hbase : attributeBase o name X.env (eval o X.env) = eval o X.env := by rfl) (hline : (apos.endLine == cpos.line) = true := by rfl) :
    JE X (.Call (.Attribute o name apos) [] [] cpos) (mBM T g mo aNil) := fun W tk => by
  refine PE.weak (pe_bm0 pa slot hty hm (ho W tk) hbase hline) fun σ H Q ⟨ι, ρ, st, S, sl, p⟩ => ?_
  refine ⟨ι, ρ, st, S, sl, Post.bind p fun w st1 ι1 H1 x l1 S1 r1 p1 => ?_⟩
  split at p1
  · rename_i hT
    exact ⟨tyOk_tyV S1 r1 hT, ι1, st1, w, [], S1, r1, Reps.nil, noExc (hq _ _ _) p1⟩
  · exact p1.elim
end
/-- a list is written -/
theorem Post.setLst {K : PySem.W.Frag} {mg : Str → Option Value} {ι : List Addr} {st : Store} {H : Hp} (S : Sim K mg ι st H) {n : Nat} {xs ys : List Val} {vs us : List V} {a : Addr} (h : st[n]? = some (.lst xs)) (ha : ι[n]? = some a) (hH : H a = some (.lst vs)) (r : Reps mg ι H ys us)
    {Q : V → Hp → Prop} {E : Value → Option Addr → Hp → Prop} {w : Val} {v : V} (rw_ : Rep mg ι H w v) (p : Post K mg (rel1 mg) ι H Q E (.ok w (st.set n (.lst ys)))) : Q v (upd H a (.lst us)) := by
  have l : Later ι H ι (upd H a (.lst us)) := ⟨⟨[], by simp⟩, fun b xs e => by rw [upd_ne fun q => by subst q; rw [hH] at e; cases e]; exact e, fun b ob ks e => by rw [upd_ne fun q => by subst q; rw [hH] at e; cases e]; exact e⟩
  obtain ⟨S', l'⟩ := S.write (c' := .lst ys) (o' := .lst us) h ha rfl rfl hH (fun _ e => by cases e) (fun _ _ e => by cases e) ⟨us, upd_same, r.later l⟩
  exact p ι _ v l' S' (Rep.later l' rw_)
@[reducible] def vAppend : Val → List Val → Store → R Val
  | .ref n, [y], st => match st[n]? with
    | some (.lst xs) => if xs.length < sizeLine then .ok .non (st.set n (.lst (xs ++ [y]))) else .bad
    | _ => .bad
  | _, _, _ => .bad
@[reducible] def vPop : Val → List Val → Store → R Val
  | .ref n, [], st => match st[n]? with
    | some (.lst xs) => match xs[xs.length - 1]? with
      | some y => .ok y (st.set n (.lst xs.dropLast))
      | none => .bad
    | _ => .bad
  | _, _, _ => .bad
@[reducible] def vExtend : Val → List Val → Store → R Val
  | .ref n, [.ref m], st => match st[n]?, st[m]? with
    | some (.lst xs), some (.lst ys) => if xs.length + ys.length ≤ sizeLine then .ok .non (st.set n (.lst (xs ++ ys))) else .bad
    | _, _ => .bad
  | _, _, _ => .bad
@[reducible] def vReverse : Val → List Val → Store → R Val
  | .ref n, [], st => match st[n]? with
    | some (.lst xs) => .ok .non (st.set n (.lst xs.reverse))
    | _ => .bad
  | _, _, _ => .bad
/-- the first place -/
def placeW (y : Val) : List Val → Option Nat
  | [] => none
  | x :: r => if eqW x y then some 0 else (placeW y r).map (· + 1)
@[reducible] def vIndex : Val → List Val → Store → R Val
  | .ref n, [y], st => match seqAt st n with
    | some xs => if flatW y && xs.all flatW then match placeW y xs with
        | some j => .ok (.int j) st
        | none => .bad
      else .bad
    | none => .bad
  | _, _, _ => .bad
section
variable {X : Cx}
theorem placeW_spec {y : Val} : ∀ {xs : List Val} {j : Nat}, placeW y xs = some j → (∃ z, xs[j]? = some z ∧ eqW z y = true) ∧ ∀ (m : Nat) z, m < j → xs[m]? = some z → eqW z y = false
  | x :: r, j, h => by
    unfold placeW at h
    split at h
    · rename_i hx
      cases h
      exact ⟨⟨x, rfl, hx⟩, fun m z hm => by omega⟩
    · rename_i hx
      cases q : placeW y r with
      | none => rw [q] at h; cases h
      | some k =>
        rw [q] at h
        cases h
        obtain ⟨⟨z, h1, h2⟩, h3⟩ := placeW_spec q
        refine ⟨⟨z, by simpa using h1, h2⟩, fun m z hm hz => ?_⟩
        cases m with
        | zero =>
          simp at hz
          subst hz
          cases q : eqW x y with
          | true => exact absurd q hx
          | false => rfl
        | succ m =>
          have hm : m + 1 < k + 1 := hm
          exact h3 m z (by omega) (by simpa using hz)
theorem mt_append' : MtR X "list.append" (rM X.K X.mg vAppend) := by
  rintro pins s σ H x xs v us Q I rx rs ⟨ι, st, w, ws, S, r1, r2, p⟩
  unfold vAppend at p
  split at p
  · rename_i n y
    obtain ⟨a, e, ha⟩ := r1.ref_inv
    obtain ⟨z, e2, hz⟩ := r2.one
    subst e e2
    split at p
    · rename_i ys ec
      obtain ⟨vs, h1, rr⟩ := S.at ec ha
      split at p
      · rename_i hl
        exact mt_append pins s σ H _ _ v us Q I rx rs ⟨a, vs, z, rfl, rfl, h1, by rw [← rr.length]; exact hl, Post.setLst S ec ha h1 (rr.append (Reps.cons hz Reps.nil)) Rep.non p⟩
      · exact p.elim
    · exact p.elim
  · exact p.elim
theorem mt_pop' : MtR X "list.pop" (rM X.K X.mg vPop) := by
  rintro pins s σ H x xs v us Q I rx rs ⟨ι, st, w, ws, S, r1, r2, p⟩
  unfold vPop at p
  split at p
  · rename_i n
    obtain ⟨a, e, ha⟩ := r1.ref_inv
    have e2 := r2.of_nil
    subst e e2
    split at p
    · rename_i ys ec
      obtain ⟨vs, h1, rr⟩ := S.at ec ha
      split at p
      · rename_i y ey
        obtain ⟨z, ez, rz⟩ := rr.get ey
        rw [rr.length] at ez
        refine mt_pop pins s σ H _ _ v us Q I rx rs ⟨a, vs, z, rfl, rfl, h1, ez, Post.setLst S ec ha h1 ?_ rz p⟩
        rw [List.dropLast_eq_take, List.dropLast_eq_take, rr.length]
        exact rr.take _
      · exact p.elim
    · exact p.elim
  · exact p.elim
theorem mt_reverse' : MtR X "list.reverse" (rM X.K X.mg vReverse) := by
  rintro pins s σ H x xs v us Q I rx rs ⟨ι, st, w, ws, S, r1, r2, p⟩
  unfold vReverse at p
  split at p
  · rename_i n
    obtain ⟨a, e, ha⟩ := r1.ref_inv
    have e2 := r2.of_nil
    subst e e2
    split at p
    · rename_i ys ec
      obtain ⟨vs, h1, rr⟩ := S.at ec ha
      have rev : ∀ {ws : List Val} {vs : List V}, Reps X.mg ι H ws vs → Reps X.mg ι H ws.reverse vs.reverse := by
        intro ws
        induction ws with
        | nil => intro vs h; rw [h.of_nil]; exact Reps.nil
        | cons w ws ih =>
          intro vs h
          obtain ⟨v, r, e, h1, h2⟩ := h.of_cons
          subst e
          rw [List.reverse_cons, List.reverse_cons]
          exact (ih h2).append (Reps.cons h1 Reps.nil)
      exact mt_reverse pins s σ H _ _ v us Q I rx rs ⟨a, vs, rfl, rfl, h1, Post.setLst S ec ha h1 (rev rr) Rep.non p⟩
    · exact p.elim
  · exact p.elim
theorem mt_extend' : MtR X "list.extend" (rM X.K X.mg vExtend) := by
  rintro pins s σ H x xs v us Q I rx rs ⟨ι, st, w, ws, S, r1, r2, p⟩
  unfold vExtend at p
  split at p
  · rename_i n m
    obtain ⟨a, e, ha⟩ := r1.ref_inv
    obtain ⟨z, e2, hz⟩ := r2.one
    obtain ⟨b, e3, hb⟩ := hz.ref_inv
    subst e e2 e3
    split at p
    · rename_i xs ys ec ec2
      obtain ⟨vs, h1, rr⟩ := S.at ec ha
      obtain ⟨vs2, h2, rr2⟩ := S.at ec2 hb
      split at p
      · rename_i hl
        exact mt_extend pins s σ H _ _ v us Q I rx rs ⟨a, b, vs, vs2, rfl, rfl, h1, h2, by rw [← rr.length, ← rr2.length]; exact hl, Post.setLst S ec ha h1 (rr.append rr2) Rep.non p⟩
      · exact p.elim
    · exact p.elim
  · exact p.elim
theorem mt_index' : MtR X "list.index" (rM X.K X.mg vIndex) := by
  rintro pins s σ H x xs v us Q I rx rs ⟨ι, st, w, ws, S, r1, r2, p⟩
  unfold vIndex at p
  split at p
  · rename_i n y
    obtain ⟨a, e, ha⟩ := r1.ref_inv
    obtain ⟨z, e2, hz⟩ := r2.one
    subst e e2
    split at p
    · rename_i ys es
      obtain ⟨vs, hl, rr⟩ := S.seqL es ha
      split at p
      · rename_i hf
        rw [Bool.and_eq_true] at hf
        split at p
        · rename_i j ej
          obtain ⟨⟨u, h1, h2⟩, h3⟩ := placeW_spec ej
          obtain ⟨uv, g1, g2⟩ := rr.get h1
          have fl : ∀ {m : Nat} {q : Val}, ys[m]? = some q → flatW q = true := fun {m q} hq => List.all_eq_true.mp hf.2 q (List.mem_of_getElem? hq)
          refine mt_index pins s σ H _ _ v us Q I rx rs ⟨a, vs, z, j, uv, rfl, rfl, hl, (flatW_rep hz hf.1).1, flats' rr hf.2, g1, ?_, fun m z' hm hz' => ?_, p.okSame S Rep.int⟩
          · rw [(flatW_rep hz hf.1).2 g2 (fl h1)]; exact h2
          · obtain ⟨q, hq, rq⟩ := rr.get' hz'
            rw [(flatW_rep hz hf.1).2 rq (fl hq)]
            exact h3 m q hm hq
        · exact p.elim
      · exact p.elim
    · exact p.elim
  · exact p.elim
theorem quiet_append : ∀ x ws st, Quiet (vAppend x ws st) := by
  intro x y st ex st' h
  unfold vAppend at h
  repeat (first | (split at h) | cases h)
theorem quiet_pop : ∀ x ws st, Quiet (vPop x ws st) := by
  intro x y st ex st' h
  unfold vPop at h
  repeat (first | (split at h) | cases h)
theorem quiet_reverse : ∀ x ws st, Quiet (vReverse x ws st) := by
  intro x y st ex st' h
  unfold vReverse at h
  repeat (first | (split at h) | cases h)
theorem quiet_extend : ∀ x ws st, Quiet (vExtend x ws st) := by
  intro x y st ex st' h
  unfold vExtend at h
  repeat (first | (split at h) | cases h)
theorem quiet_index : ∀ x ws st, Quiet (vIndex x ws st) := by
  intro x y st ex st' h
  unfold vIndex at h
  repeat (first | (split at h) | cases h)
variable {o e : Expr} {mo : ME} {t : MA} {apos cpos : Pos} {me : ME}
theorem je_append (ho : JE X o mo) (he : JE X e me) (hbase : attributeBase o "append" X.env (eval o X.env) = eval o X.env := by rfl)
    (hfew : ((backTo cpos (starEach [e] X.env)).all (fun x => !x.1) && (backToKw cpos (keywordEach [] X.env)).all (fun x => x.1.isSome)
      && decide ([e].length + ([] : List Keyword).length + (if ([] : List Keyword).isEmpty then 0 else 1) < 30)) = true := by rfl)
    (hline : (apos.endLine == cpos.line) = true := by rfl) (hs : starEach [e] X.env = (false, eval e X.env) :: starEach [] X.env := by rfl) : JE X (.Call (.Attribute o "append" apos) [e] [] cpos) (mBM "list" vAppend mo (aCons me aNil)) :=
  je_bm PySem.F.plainAttrs_list PySem.F.slot_list_append PySem.F.type_list_append mt_append' quiet_append ho (ja_cons he ja_nil hs) hbase hfew hline hs rfl
theorem je_extend (ho : JE X o mo) (he : JE X e me) (hbase : attributeBase o "extend" X.env (eval o X.env) = eval o X.env := by rfl)
    (hfew : ((backTo cpos (starEach [e] X.env)).all (fun x => !x.1) && (backToKw cpos (keywordEach [] X.env)).all (fun x => x.1.isSome)
      && decide ([e].length + ([] : List Keyword).length + (if ([] : List Keyword).isEmpty then 0 else 1) < 30)) = true := by rfl)
    (hline : (apos.endLine == cpos.line) = true := by rfl) (hs : starEach [e] X.env = (false, eval e X.env) :: starEach [] X.env := by rfl) : JE X (.Call (.Attribute o "extend" apos) [e] [] cpos) (mBM "list" vExtend mo (aCons me aNil)) :=
  je_bm PySem.F.plainAttrs_list PySem.F.slot_list_extend PySem.F.type_list_extend mt_extend' quiet_extend ho (ja_cons he ja_nil hs) hbase hfew hline hs rfl
theorem je_index (ho : JE X o mo) (he : JE X e me) (hbase : attributeBase o "index" X.env (eval o X.env) = eval o X.env := by rfl)
    (hfew : ((backTo cpos (starEach [e] X.env)).all (fun x => !x.1) && (backToKw cpos (keywordEach [] X.env)).all (fun x => x.1.isSome)
      && decide ([e].length + ([] : List Keyword).length + (if ([] : List Keyword).isEmpty then 0 else 1) < 30)) = true := by rfl)
    (hline : (apos.endLine == cpos.line) = true := by rfl) (hs : starEach [e] X.env = (false, eval e X.env) :: starEach [] X.env := by rfl) : JE X (.Call (.Attribute o "index" apos) [e] [] cpos) (mBM "list" vIndex mo (aCons me aNil)) :=
  je_bm PySem.F.plainAttrs_list PySem.F.slot_list_index PySem.F.type_list_index mt_index' quiet_index ho (ja_cons he ja_nil hs) hbase hfew hline hs rfl
theorem je_pop (ho : JE X o mo) (hbase : attributeBase o "pop" X.env (eval o X.env) = eval o X.env := by rfl) (hline : (apos.endLine == cpos.line) = true := by rfl) : JE X (.Call (.Attribute o "pop" apos) [] [] cpos) (mBM "list" vPop mo aNil) :=
  je_bm0 PySem.F.plainAttrs_list PySem.F.slot_list_pop PySem.F.type_list_pop mt_pop' quiet_pop ho hbase hline
theorem je_reverse (ho : JE X o mo) (hbase : attributeBase o "reverse" X.env (eval o X.env) = eval o X.env := by rfl) (hline : (apos.endLine == cpos.line) = true := by rfl) : JE X (.Call (.Attribute o "reverse" apos) [] [] cpos) (mBM "list" vReverse mo aNil) :=
  je_bm0 PySem.F.plainAttrs_list PySem.F.slot_list_reverse PySem.F.type_list_reverse mt_reverse' quiet_reverse ho hbase hline
end

/-! ### xs[i] = e, as a target -/
@[reducible] def gSubL (mo mi : ME) : MG := fun w ρ st => match mo ρ st with
  | .ok x st1 => match mi ρ st1 with
    | .ok i st2 => match x, i with
      | .ref n, .int k => match st2[n]? with
        | some (.lst xs) => match ixN xs.length k with
          | some j => some (ρ, st2.set n (.lst (xs.set j w)))
          | none => none
        | _ => none
      | _, _ => none
    | _ => none
  | _ => none
theorem jg_sub {X : Cx} {o i : Expr} {mo mi : ME} {pos : Pos} (ho : JE X o mo) (hi : JE X i mi)
    (ha : ∀ v, assign (.Subscript o i pos) X.env v = (do
      let ov ← holding [v] (eval o X.env)
      let iv ← holding [v, ov] (eval i X.env)
      standAt pos
      holding [v, ov, iv] (setItem ov iv v)
      release [v, ov, iv] []) := by intro _; rfl) (tk : Takes X W0 := takes0) : JG X (.Subscript o i pos) [] (gSubL mo mi) :=
  PG.weak (pg_sub (ho W0 tk) (hi W0 tk) set_list ha) fun v σ H Q ⟨ι, ρ, st, w, S, sl, r, p⟩ => by
    dsimp only [gSubL] at p
    refine ⟨ι, ρ, st, S, sl, ?_⟩
    cases q1 : mo ρ st with
    | bad => rw [q1] at p; exact p.elim
    | exc x s => rw [q1] at p; exact p.elim
    | ok x st1 =>
      rw [q1] at p
      intro ι1 H1 xv l1 S1 r1
      have sl1 := sl.later l1
      refine ⟨ι1, ρ, st1, S1, sl1, ?_⟩
      dsimp only at p
      cases q2 : mi ρ st1 with
      | bad => rw [q2] at p; exact p.elim
      | exc x s => rw [q2] at p; exact p.elim
      | ok i st2 =>
        rw [q2] at p
        intro ι2 H2 iv l2 S2 r2
        have sl2 := sl1.later l2
        dsimp only at p
        split at p
        · rename_i n k
          obtain ⟨a, e, hA⟩ := r1.ref_inv
          have e2 := r2.int_inv
          subst e e2
          have hA2 := l2.get hA
          split at p
          · rename_i xs ec
            obtain ⟨vs, h1, rr⟩ := S2.at ec hA2
            split at p
            · rename_i j ej
              refine ⟨a, vs, k, j, rfl, rfl, h1, by rw [← rr.length]; exact ej, ?_⟩
              have l3 : Later ι2 H2 ι2 (upd H2 a (.lst (vs.set j v))) := ⟨⟨[], by simp⟩, fun b xs e => by rw [upd_ne fun q => by subst q; rw [h1] at e; cases e]; exact e, fun b ob ks e => by rw [upd_ne fun q => by subst q; rw [h1] at e; cases e]; exact e⟩
              obtain ⟨S3, l3'⟩ := S2.write (c' := .lst (xs.set j w)) (o' := .lst (vs.set j v)) ec hA2 rfl rfl h1 (fun _ e => by cases e) (fun _ _ e => by cases e) ⟨_, upd_same, (Reps.set (Rep.later (l1.trans l2) r) j rr).later l3⟩
              exact p ι2 _ σ ((l1.trans l2).trans l3') S3 (sl2.later l3') (OutS.refl _ _)
            · exact p.elim
          · exact p.elim
        · exact p.elim
@[reducible] def vNeg : Val → Store → R Val
  | .int i, st => .ok (.int (-i)) st
  | _, _ => .bad
theorem je_neg {X : Cx} {e : Expr} {m : ME} {pos : Pos} (h : JE X e m) : JE X (.UnaryOp .USub e pos) (fun ρ st => (m ρ st).bind vNeg) := fun W tk => by
  refine PE.weak (pe_un un_neg (h W tk)) fun σ H Q ⟨ι, ρ, st, S, sl, p⟩ => ?_
  refine ⟨ι, ρ, st, S, sl, Post.bind p fun w st1 ι1 H1 x l1 S1 r1 p1 => ?_⟩
  cases w with
  | int i => exact ⟨i, r1.int_inv, p1.okSame S1 Rep.int⟩
  | _ => exact p1.elim
end Ab

set_option Elab.async false
set_option linter.all false
set_option maxRecDepth 100000
/-! Ab: enumerate and zip over lists and tuples, in any mix. -/
namespace Ab
open PySem PySem.Spec L2

/-- a walk that hands out new tuples, as a turn of the hand layer -/
theorem turn_gen {P : Program} {w : World} {K : PySem.W.Frag} {elts : List Expr} {kk : Nat} {tpos : Pos} {I : Addr} {J : It} (own : List Addr) (Own : Nat → Heap → Prop) (mem : I ∈ own)
    (obj : ∀ i h, Own i h → ∀ b ∈ own, ∃ o, h.get? b = some o ∧ ∀ v, o.data ≠ .cell v)
    (keep : ∀ i h h', Own i h → (∀ b ∈ own, ∀ o, h.get? b = some o → h'.get? b = some o) → Own i h')
    (self : ∀ (A : Around) (i : Nat) (s : Shared) (Q : Value → Shared → Prop) (E : Value → Shared → Prop), Own i s.heap → Q (.ref I) s → wpAny (model P w) A (pyIter (.ref I)) Q E s)
    (item : ∀ (X : Cx), X.prog = P → X.w = w → X.K = K → X.calm = true → ∀ (i : Nat) (pins : List (Addr × Obj)) (s : Shared) (σ : L2.St) (H : Hp), Inv X pins σ H s → Own i s.heap → J.go i H →
      ∃ fp wr n Pt St Mid, WalksT P w X.A I fp wr n Pt St Mid ∧ i < n ∧ St i s.heap ∧ (∀ b ∈ wr, b ∈ own) ∧ (∀ h, St (i + 1) h → Own (i + 1) h) ∧
        ∀ vals, Pt i vals → ∃ xs, Vals xs vals.toList ∧ xs.length ≤ 2 ∧ ∀ T, H T = none → J.yld i H (.ref T) (upd H T (.tup xs)))
    (done : ∀ (X : Cx), X.prog = P → X.w = w → X.K = K → X.calm = true → ∀ (i : Nat) (pins : List (Addr × Obj)) (s : Shared) (σ : L2.St) (H : Hp), Inv X pins σ H s → Own i s.heap → J.stop i H →
      ∀ (E : Value → Shared → Prop) (Q : Option Value → Shared → Prop), (∀ h' tk, (∀ b o, b ∉ own → s.heap.get? b = some o → h'.get? b = some o) → Q none { s with heap := h', toks := tk }) → wpAny (model P w) X.A (pyNext (.ref I)) Q E s) :
    Turn P w K (.Tuple elts kk tpos) J own I Own where
  mem := mem
  obj := obj
  keep := keep
  item := by
    intro X hP hw hK hc i pins s σ H E I hf st hg
    obtain ⟨fp, wr, n, Pt, St, Mid, W, hi, hSt, hwr, hown, hv⟩ := item X hP hw hK hc i pins s σ H I st hg
    subst hP hw hK
    refine W.item i s _ E hi hSt fun T vals h' tk hPt hT hTup hM hk => ?_
    obtain ⟨xs, rv, hl2, hy⟩ := hv vals hPt
    have hap := W.apart i T h' hM
    refine ⟨.ref T, rfl, W.go elts kk tpos i T { s with heap := h', toks := tk } _ E hM fun h'' hSt' hk' => ?_⟩
    have hTn : H T = none := I.hok.fresh hT
    obtain ⟨oT, e1, e2, n', e3⟩ := hTup
    have eT := hk' T oT hap e1
    have new : ObjOk X.prog X.w (upd H T (.tup xs)) h'' T (.tup xs) :=
      ⟨Nat.le_trans hl2 (by decide), vals.toList, rv, ⟨oT, eT, e2, n', by simpa using e3⟩⟩
    have I1 : Inv X pins σ (upd H T (.tup xs)) { s with heap := h'', toks := tk } :=
      I.turnedNew (ch := own) (fun b ob hb q => hk' b ob (fun z => hb (hwr b z)) (hk b ob (fun z => hb (hwr b z)) q)) hf hT new
    refine ⟨.ref T, _, I1, rfl, hy T hTn, hown h'' hSt', fun b hb => ?_⟩
    obtain ⟨o, ho, _⟩ := obj i s.heap st b hb
    rw [upd_ne fun e => by
      have h1 := Heap.lt_size ho
      rw [e] at h1
      exact absurd (Nat.lt_of_lt_of_le h1 hT) (Nat.lt_irrefl _)]
    exact (hf b hb).1
  done := by
    intro X hP hw hK hc i pins s σ H E I hf st hg
    refine done X hP hw hK hc i pins s σ H I st hg E _ fun h' tk hk => ⟨rfl, I.turnedL (ch := own) (fun b o hb q => hk b o hb q) hf⟩
  self := self

/-! ### a source: a list or a tuple -/
def SqB (isT : Bool) (K : PySem.W.Frag) (H : Hp) (a : Addr) (xs : List V) : Prop := if isT = true then SqT K H a xs else SqL K H a xs
def IterB (isT : Bool) (h : Heap) (it a : Addr) (i : Nat) : Prop := if isT = true then h.IsTupleIter it a i else h.IsListIter it a i
def IsB (isT : Bool) (h : Heap) (a : Addr) (its : Array Value) : Prop := if isT = true then h.IsTuple a its else h.IsList a its
def objB (isT : Bool) (a : Addr) : Obj := if isT = true then { cls := .type "tuple_iterator", data := .fields #[.ref a, .int 0 0] } else { cls := .type "list_iterator", data := .fields #[.ref a, .int 0 0] }
theorem drawsB (isT : Bool) {P : Program} {w : World} {A : Around} (hh : A.handled = none) (it a : Addr) (hne : a ≠ it) (its : Array Value) : Draws P w A it [it, a] its.size (fun i v => its[i]? = some v) (fun i h => IterB isT h it a i ∧ IsB isT h a its) := by
  cases isT with
  | true => exact .tuple hh it a hne its
  | false => exact .list hh it a hne its
theorem beginsB (isT : Bool) (a : Addr) (its : Array Value) : Begins (.ref a) (objB isT a) fun h => IsB isT h a its := by
  cases isT with
  | true => exact begins_tuple a its
  | false => exact begins_list a its
theorem IterB.new {isT : Bool} {h : Heap} {it a : Addr} (e : h.get? it = some (objB isT a)) : IterB isT h it a 0 := by
  cases isT with
  | true => exact ⟨_, e, rfl, rfl⟩
  | false => exact ⟨_, e, rfl, rfl⟩
theorem IterB.at {isT : Bool} {h h' : Heap} {it a : Addr} {i : Nat} (x : IterB isT h it a i) (k : ∀ o, h.get? it = some o → h'.get? it = some o) : IterB isT h' it a i := by
  cases isT with
  | true => exact Heap.IsTupleIter.at (show h.IsTupleIter it a i from x) k
  | false => exact Heap.IsListIter.at (show h.IsListIter it a i from x) k
theorem IterB.obj {isT : Bool} {h : Heap} {it a : Addr} {i : Nat} (x : IterB isT h it a i) : ∃ o, h.get? it = some o ∧ ∀ v, o.data ≠ .cell v := by
  cases isT with
  | true =>
    obtain ⟨o, e, c, d⟩ := (show h.IsTupleIter it a i from x)
    exact ⟨o, e, fun v z => by rw [d] at z; cases z⟩
  | false =>
    obtain ⟨o, e, c, d⟩ := (show h.IsListIter it a i from x)
    exact ⟨o, e, fun v z => by rw [d] at z; cases z⟩
theorem Inv.seqB {X : Cx} {pins : List (Addr × Obj)} {σ : L2.St} {H : Hp} {s : Shared} {isT : Bool} {a : Addr} {xs : List V} (I : Inv X pins σ H s) (h : SqB isT X.K H a xs) : ∃ its : List Value, Vals xs its ∧ IsB isT s.heap a its.toArray ∧ a < s.heap.objs.size := by
  cases isT with
  | true =>
    obtain ⟨its, rv, p, _⟩ := I.tuple (show SqT X.K H a xs from h)
    obtain ⟨o, ho, _⟩ := id p
    exact ⟨its, rv, p, Heap.lt_size ho⟩
  | false =>
    obtain ⟨its, rv, p, _⟩ := I.list (show SqL X.K H a xs from h)
    exact ⟨its, rv, p.isList, p.lt⟩
theorem Inv.seqB_inj {X : Cx} {pins : List (Addr × Obj)} {σ : L2.St} {H : Hp} {s : Shared} {isT : Bool} {a : Addr} {xs ys : List V} (I : Inv X pins σ H s) (h : SqB isT X.K H a xs) (h' : SqB isT X.K H a ys) : xs = ys := by
  cases isT with
  | true => exact I.tuple_inj (show SqT X.K H a xs from h) h'
  | false => exact I.list_inj (show SqL X.K H a xs from h) h'

/-! ### enumerate -/
def IteB (isT : Bool) (K : PySem.W.Frag) (a : Addr) : It :=
  ⟨fun i H => ∃ (xs : List V) (x : V), SqB isT K H a xs ∧ xs[i]? = some x, fun i H v H' => ∃ T x, v = .ref T ∧ H T = none ∧ H' = upd H T (.tup [.int (i : Nat), x]) ∧ ∀ xs, SqB isT K H a xs → xs[i]? = some x, fun i H => ∃ xs : List V, SqB isT K H a xs ∧ i = xs.length⟩
theorem turn_enumB (isT : Bool) {P : Program} {w : World} {K : PySem.W.Frag} {elts : List Expr} {kk : Nat} {tpos : Pos} (a e it : Addr) :
    Turn P w K (.Tuple elts kk tpos) (IteB isT K a) [e, it] e (fun i h => (∃ old, IsEnum h e it ((i : Nat) : Int) old) ∧ IterB isT h it a i ∧ e ≠ it ∧ a ≠ it ∧ a ≠ e) := by
  refine turn_gen [e, it] _ (by simp) (fun i h st b hb => ?_) (fun i h h' st k => ?_) (fun A i s Q E st h => let ⟨⟨_, he⟩, _⟩ := st; wpAny_pyIter_enum he h) ?_ ?_
  · obtain ⟨⟨old, he⟩, hit, _⟩ := st
    have e' : b = e ∨ b = it := by simpa using hb
    rcases e' with z | z
    · rw [z]; exact ⟨_, he, fun v q => nomatch q⟩
    · rw [z]; exact hit.obj
  · obtain ⟨⟨old, he⟩, hi, hne⟩ := st
    exact ⟨⟨old, k e (by simp) _ he⟩, hi.at fun o q => k it (by simp) o q, hne⟩
  · intro X hP hw hK hc i pins s σ H I st hg
    subst hP hw hK
    obtain ⟨⟨old, he⟩, hit, hne, hai, hae⟩ := st
    obtain ⟨xs, x, hq, hx⟩ := hg
    obtain ⟨its, rv, p, hlt⟩ := Inv.seqB I hq
    have D := drawsB isT (P := X.prog) (w := X.w) (A := X.A.in1) (I.ok.hd hc) it a hai its.toArray
    refine ⟨_, _, _, _, _, _, WalksT.enumerateD D e hne (by simp [hne, Ne.symm hae]) (by simp), ?_, ⟨⟨old, he⟩, hit, p⟩, fun b hb => hb, fun h z => ⟨z.1, z.2.1, hne, hai, hae⟩, ?_⟩
    · rw [List.size_toArray, ← rv.length]; exact (List.getElem?_eq_some_iff.mp hx).1
    · rintro vals ⟨t, u, hu, rfl⟩
      obtain ⟨u', hu', ru⟩ := rv.get hx
      have : u = u' := by simpa [hu'] using hu.symm
      subst this
      exact ⟨[.int i, x], .cons ⟨_, rfl⟩ (.cons ru .nil), by simp, fun T hT => ⟨T, x, rfl, hT, rfl, fun ys hy => by rw [Inv.seqB_inj I hy hq]; exact hx⟩⟩
  · intro X hP hw hK hc i pins s σ H I st hg E Q hQ
    subst hP hw hK
    obtain ⟨⟨old, he⟩, hit, hne, hai, hae⟩ := st
    obtain ⟨xs, hq, hx⟩ := hg
    obtain ⟨its, rv, p, hlt⟩ := Inv.seqB I hq
    have D := drawsB isT (P := X.prog) (w := X.w) (A := X.A.in1) (I.ok.hd hc) it a hai its.toArray
    have hl : its.toArray.size = i := by rw [List.size_toArray, ← rv.length, hx]
    have W := WalksT.enumerateD D e hne (by simp [hne, Ne.symm hae]) (by simp)
    refine W.done s Q E (by rw [hl]; exact ⟨⟨old, he⟩, hit, p⟩) fun h' tk hk => hQ h' tk hk
open Sem (wp) in
set_option maxHeartbeats 1000000 in
theorem meets_enumerate_new1 {v : Value} {o : Obj} {H : Heap → Prop} (B : Begins v o H) :
    Meets (Builtin.«enumerate.__new__» ⟨[.type "enumerate", v], []⟩) (fun _ R s => H s.heap ∧
      R (.ok (.ret (.ref (s.heap.push o).objs.size))) { s with heap := (s.heap.push o).push { cls := .type "enumerate", data := .fields #[.none, .bool false, .ref s.heap.objs.size, rawInt 0, .none, .none] } }) :=
  .of_wp fun prog w A R s h => by
    obtain ⟨hp, g, d, tk, os⟩ := s; obtain ⟨h1, h⟩ := h
    have hsub := sub_enumerate
    have q1 : ∀ {A' : Around} {E : Value → Shared → Prop} {Q : Value → Shared → Prop}, Q (.ref hp.objs.size) ⟨hp.push o, g, d, tk, os⟩ → wpAny (model prog w) A' (pyIter v) Q E ⟨hp, g, d, tk, os⟩ :=
      fun q => B.iter prog w _ _ ⟨hp, g, d, tk, os⟩ _ h1 q
    wp_walk using q1
    refine wpAny_stack_any fun st => wpAny_pure ?_
    split
    · rename_i c _ _ _ _ _
      cases (c == Value.type "enumerate")
      · wp_walk using q1
        exact ⟨_, rfl, h⟩
      · wp_walk using q1
        exact ⟨_, rfl, h⟩
    · wp_walk using q1
      exact ⟨_, rfl, h⟩
theorem call_enum1 {P : Program} {w : World} {A : Around} {E : Value → Shared → Prop} {s : Shared} {v : Value} {o : Obj} {H : Heap → Prop} {Q : Value → Shared → Prop} (B : Begins v o H) (h1 : H s.heap)
    (h : ∀ h', IsEnum h' (s.heap.objs.size + 1) s.heap.objs.size 0 .none → h'.get? s.heap.objs.size = some o → (∀ b o, s.heap.get? b = some o → h'.get? b = some o) → Q (.ref (s.heap.objs.size + 1)) { s with heap := h' }) :
    wpAny (model P w) A (call (.type "enumerate") [v]) Q E s := by
  refine callType_new F.called_enumerate (by decide) (F.typeCall_enumerate_1 _) (F.newCall_enumerate_1 _) (fun obj => F.args_object_init_2 obj _) F.entry_enumerate_new
    (meets_enumerate_new1 B) ⟨h1, ?_⟩
  have hz : (s.heap.push o).objs.size = s.heap.objs.size + 1 := Heap.size_push ..
  show _ ∧ _
  rw [hz]
  have he : IsEnum ((s.heap.push o).push { cls := .type "enumerate", data := .fields #[.none, .bool false, .ref s.heap.objs.size, rawInt 0, .none, .none] }) (s.heap.objs.size + 1) s.heap.objs.size 0 .none := by
    have := Heap.get?_push_size (s.heap.push o) (o := { cls := .type "enumerate", data := .fields #[.none, .bool false, .ref s.heap.objs.size, rawInt 0, .none, .none] }) rfl
    rw [hz] at this; exact this
  exact ⟨⟨_, he, rfl⟩, h _ he (Heap.get?_push_of_some _ (Heap.get?_push_size _ B.free)) fun b o x => Heap.get?_push_of_some _ (Heap.get?_push_of_some _ x)⟩
theorem boot_enumerate' : bootBuiltins "enumerate" = some (.type "enumerate") := by decide +kernel
def iEnumB (K : PySem.W.Frag) (ta : TA) : TI := fun σ H R => ta σ H fun vs H1 => ∃ isT a xs, vs = [.ref a] ∧ SqB isT K H1 a xs ∧ R (IteB isT K a) H1
theorem pi_enumB {X : Cx} {e : Expr} {ta : TA} {p pos tpos : Pos} {elts : List Expr} {kk : Nat} (hg : Gl X "enumerate") (hm : X.mg "enumerate" = none) (ha : PA X [e] ta) (hs : starEach [e] X.env = [(false, eval e X.env)] := by rfl) :
    PI X (.Tuple elts kk tpos) (.Call (.Name "enumerate" p) [e] [] pos) (iEnumB X.K ta) := by
  refine ⟨fun pins s σ H R I h => ?_⟩
  refine PyProof.Rows.Call_ (ld_blt I hg hm boot_enumerate' (PyProof.Rows.callWith_type1 (thn (ha.run pos pins s σ H _ I h) fun us s1 ⟨vs, H1, I1, r1, q1⟩ => ?_) hs rfl))
  obtain ⟨isT, a, xs, ex, hq, q⟩ := q1
  subst ex
  cases r1 with
  | cons r rr =>
    cases rr
    cases r
    obtain ⟨its, rv, p', hz⟩ := Inv.seqB I1 hq
    refine call_enum1 (beginsB isT a its.toArray) p' fun h' he hit hk => wpAny_pyIter_enum he ?_
    have I2 : Inv X pins σ H1 { s1 with heap := h' } := I1.kept (t' := s1.toks) hk
    refine ⟨s1.heap.objs.size + 1, [s1.heap.objs.size + 1, s1.heap.objs.size], _, _, H1, rfl, I2, turn_enumB isT a (s1.heap.objs.size + 1) s1.heap.objs.size, ⟨⟨.none, he⟩, .new hit, Nat.succ_ne_self _, Nat.ne_of_lt hz, Nat.ne_of_lt (Nat.lt_succ_of_lt hz)⟩, fun b hb => ?_, q⟩
    have e' : b = s1.heap.objs.size + 1 ∨ b = s1.heap.objs.size := by simpa using hb
    have hle : s1.heap.objs.size ≤ b := by
      rcases e' with z | z
      · rw [z]; exact Nat.le_add_right _ _
      · rw [z]; exact Nat.le_refl _
    exact I1.fpOk hle (I1.hok.fresh hle)

/-! ### zip -/
def ItzB (i1T i2T : Bool) (K : PySem.W.Frag) (a b : Addr) : It :=
  ⟨fun i H => ∃ (xs ys : List V) (x y : V), SqB i1T K H a xs ∧ SqB i2T K H b ys ∧ xs[i]? = some x ∧ ys[i]? = some y,
    fun i H v H' => ∃ T x y, v = .ref T ∧ H T = none ∧ H' = upd H T (.tup [x, y]) ∧ (∀ xs, SqB i1T K H a xs → xs[i]? = some x) ∧ ∀ ys, SqB i2T K H b ys → ys[i]? = some y,
    fun i H => ∃ xs ys : List V, SqB i1T K H a xs ∧ SqB i2T K H b ys ∧ i = min xs.length ys.length⟩
theorem turn_zipB (i1T i2T : Bool) {P : Program} {w : World} {K : PySem.W.Frag} {elts : List Expr} {kk : Nat} {tpos : Pos} {a b z TI TO i1 i2 : Addr} (D : ZipSep2 z TI TO i1 i2 [i1, a] [i2, b]) (hab : a ≠ i1 ∧ b ≠ i2) :
    Turn P w K (.Tuple elts kk tpos) (ItzB i1T i2T K a b) [z, TI, TO, i1, i2] z (fun i h => IsZip h z TI TO .none ∧ IsTupOf2 h TI (.ref i1) (.ref i2) ∧ (∃ x y, IsTupOf2 h TO x y) ∧ IterB i1T h i1 a i ∧ IterB i2T h i2 b i) := by
  have mk : ∀ (X : Cx), X.prog = P → X.w = w → X.calm = true → ∀ {pins : List (Addr × Obj)} {σ : L2.St} {H : Hp} {s : Shared}, Inv X pins σ H s → ∀ (its its2 : Array Value), WalksT P w X.A z (z :: TI :: TO :: ([i1, a] ++ [i2, b])) [z, TO, i1, i2] (min its.size its2.size)
      (fun i vals => ∃ x1 x2, its[i]? = some x1 ∧ its2[i]? = some x2 ∧ vals = #[x1, x2])
      (fun i h => IsZip h z TI TO .none ∧ IsTupOf2 h TI (.ref i1) (.ref i2) ∧ (∃ a1 a2, IsTupOf2 h TO a1 a2) ∧ (IterB i1T h i1 a i ∧ IsB i1T h a its) ∧ (IterB i2T h i2 b i ∧ IsB i2T h b its2))
      (fun i T h => IsZip h z TI TO (rawInt T) ∧ IsTupOf2 h TI (.ref i1) (.ref i2) ∧ (∃ a1 a2, IsTupOf2 h TO a1 a2) ∧ (IterB i1T h i1 a (i + 1) ∧ IsB i1T h a its) ∧ (IterB i2T h i2 b (i + 1) ∧ IsB i2T h b its2) ∧ T ≠ z ∧ T ≠ TO ∧ T ≠ i1 ∧ T ≠ i2) := by
    intro X hP hw hc pins σ H s I its its2
    subst hP hw
    exact WalksT.zipD2 D (drawsB i1T (A := X.A.in1) (I.ok.hd hc) i1 a hab.1 its) (drawsB i2T (A := X.A.in1) (I.ok.hd hc) i2 b hab.2 its2)
  refine turn_gen [z, TI, TO, i1, i2] _ (by simp) (fun i h st c hc => ?_) (fun i h h' st k => ?_) (fun A i s Q E st h => wpAny_pyIter_zip st.1 h) ?_ ?_
  · obtain ⟨hz, hTI, ⟨x, y, hTO⟩, h1, h2⟩ := st
    have e' : c = z ∨ c = TI ∨ c = TO ∨ c = i1 ∨ c = i2 := by simpa using hc
    rcases e' with q | q | q | q | q
    · rw [q]; exact ⟨_, hz, fun v q => nomatch q⟩
    · rw [q]; exact ⟨_, hTI, fun v q => nomatch q⟩
    · rw [q]; exact ⟨_, hTO, fun v q => nomatch q⟩
    · rw [q]; exact h1.obj
    · rw [q]; exact h2.obj
  · obtain ⟨hz, hTI, ⟨x, y, hTO⟩, h1, h2⟩ := st
    exact ⟨k z (by simp) _ hz, k TI (by simp) _ hTI, ⟨x, y, k TO (by simp) _ hTO⟩, h1.at fun o q => k i1 (by simp) o q, h2.at fun o q => k i2 (by simp) o q⟩
  · intro X hP hw hK hc i pins s σ H I st hg
    obtain ⟨hz, hTI, hTO, h1, h2⟩ := st
    obtain ⟨xs, ys, x, y, hqx, hqy, hx, hy⟩ := hg
    subst hK
    obtain ⟨its, rv, p, _⟩ := Inv.seqB I hqx
    obtain ⟨its2, rv2, p2, _⟩ := Inv.seqB I hqy
    refine ⟨_, _, _, _, _, _, mk X hP hw hc I its.toArray its2.toArray, ?_, ⟨hz, hTI, hTO, ⟨h1, p⟩, ⟨h2, p2⟩⟩, fun c hc => ?_, fun h z => ⟨z.1, z.2.1, z.2.2.1, z.2.2.2.1.1, z.2.2.2.2.1⟩, ?_⟩
    · have a1 := (List.getElem?_eq_some_iff.mp hx).1
      have a2 := (List.getElem?_eq_some_iff.mp hy).1
      have b1 := rv.length
      have b2 := rv2.length
      simp only [List.size_toArray]
      omega
    · have e' : c = z ∨ c = TO ∨ c = i1 ∨ c = i2 := by simpa using hc
      rcases e' with q | q | q | q <;> simp [q]
    · rintro vals ⟨u1, u2, hu1, hu2, rfl⟩
      obtain ⟨v1, hv1, r1⟩ := rv.get hx
      obtain ⟨v2, hv2, r2⟩ := rv2.get hy
      have e1 : u1 = v1 := by simpa [hv1] using hu1.symm
      have e2 : u2 = v2 := by simpa [hv2] using hu2.symm
      subst e1 e2
      exact ⟨[x, y], .cons r1 (.cons r2 .nil), by simp, fun T hT => ⟨T, x, y, rfl, hT, rfl, fun l hl => by rw [Inv.seqB_inj I hl hqx]; exact hx, fun l hl => by rw [Inv.seqB_inj I hl hqy]; exact hy⟩⟩
  · intro X hP hw hK hc i pins s σ H I st hg E Q hQ
    obtain ⟨hz, hTI, hTO, h1, h2⟩ := st
    obtain ⟨xs, ys, hqx, hqy, hend⟩ := hg
    subst hK
    obtain ⟨its, rv, p, _⟩ := Inv.seqB I hqx
    obtain ⟨its2, rv2, p2, _⟩ := Inv.seqB I hqy
    have W := mk X hP hw hc I its.toArray its2.toArray
    have hn : min its.toArray.size its2.toArray.size = i := by
      have b1 := rv.length
      have b2 := rv2.length
      simp only [List.size_toArray]
      omega
    refine W.done s Q E (by rw [hn]; exact ⟨hz, hTI, hTO, ⟨h1, p⟩, ⟨h2, p2⟩⟩) fun h' tk hk => hQ h' tk fun c o hc => hk c o fun hm => hc ?_
    have e' : c = z ∨ c = TO ∨ c = i1 ∨ c = i2 := by simpa using hm
    rcases e' with q | q | q | q <;> simp [q]
def iZipB (K : PySem.W.Frag) (ta : TA) : TI := fun σ H R => ta σ H fun vs H1 => ∃ b1 b2 a b xs ys, vs = [.ref a, .ref b] ∧ SqB b1 K H1 a xs ∧ SqB b2 K H1 b ys ∧ R (ItzB b1 b2 K a b) H1
theorem pi_zipB {X : Cx} {e e2 : Expr} {ta : TA} {p pos tpos : Pos} {elts : List Expr} {kk : Nat} (hg : Gl X "zip") (hm : X.mg "zip" = none) (ha : PA X [e, e2] ta)
    (hs : starEach [e, e2] X.env = (false, eval e X.env) :: starEach [e2] X.env := by rfl) (hpl : (backTo pos (starEach [e2] X.env)).any (·.1) = false := by rfl) :
    PI X (.Tuple elts kk tpos) (.Call (.Name "zip" p) [e, e2] [] pos) (iZipB X.K ta) := by
  refine ⟨fun pins s σ H R I h => ?_⟩
  refine PyProof.Rows.Call_ (ld_blt I hg hm PyProof.Rows.boot_zip (PyProof.Rows.callWith_type1 (thn (ha.run pos pins s σ H _ I h) fun us s1 ⟨vs, H1, I1, r1, q1⟩ => ?_) hs hpl))
  obtain ⟨b1, b2, a, b, xs, ys, ex, hqx, hqy, q⟩ := q1
  subst ex
  cases r1 with
  | cons r rr =>
    cases rr with
    | cons r' rr =>
      cases rr
      cases r
      cases r'
      obtain ⟨its, rv, p1, l1⟩ := Inv.seqB I1 hqx
      obtain ⟨its2, rv2, p2, l2⟩ := Inv.seqB I1 hqy
      refine zip_begins2 (beginsB b1 a its.toArray) (beginsB b2 b its2.toArray) p1 p2 fun h' hz hTI hTO h1 h2 hsz hk => wpAny_pyIter_zip hz ?_
      have I2 : Inv X pins σ H1 { s1 with heap := h' } := I1.kept (t' := s1.toks) hk
      refine ⟨s1.heap.objs.size + 4, [s1.heap.objs.size + 4, s1.heap.objs.size + 2, s1.heap.objs.size + 3, s1.heap.objs.size, s1.heap.objs.size + 1], _, _, H1, rfl, I2,
        turn_zipB b1 b2 (zip_sep2 (N := s1.heap.objs.size) (fp1 := [a]) (fp2 := [b]) (fun c hc => by simp at hc; subst hc; exact l1) (fun c hc => by simp at hc; subst hc; exact l2)) ⟨Nat.ne_of_lt l1, Nat.ne_of_lt (Nat.lt_succ_of_lt l2)⟩,
        ⟨hz, hTI, ⟨_, _, hTO⟩, .new h1, .new h2⟩, fun c hcm => ?_, q⟩
      have e' : c = s1.heap.objs.size + 4 ∨ c = s1.heap.objs.size + 2 ∨ c = s1.heap.objs.size + 3 ∨ c = s1.heap.objs.size ∨ c = s1.heap.objs.size + 1 := by simpa using hcm
      have hle : s1.heap.objs.size ≤ c := by
        rcases e' with z | z | z | z | z
        · rw [z]; exact Nat.le_add_right _ _
        · rw [z]; exact Nat.le_add_right _ _
        · rw [z]; exact Nat.le_add_right _ _
        · rw [z]; exact Nat.le_refl _
        · rw [z]; exact Nat.le_add_right _ _
      exact I1.fpOk hle (I1.hok.fresh hle)

/-! ### their mirrors -/
/-- a list or a tuple: its items, and that they stay -/
@[reducible] def itemsOf (st : Store) : Val → Option (List Val × (Store → Prop))
  | .tup xs => some (xs, fun _ => True)
  | .ref n => match seqAt st n with
    | some xs => some (xs, fun st' => seqAt st' n = some xs)
    | none => none
  | _ => none
theorem itemsOf_src {K : PySem.W.Frag} {mg : Str → Option Value} {ι : List Addr} {st : Store} {H : Hp} (S : Sim K mg ι st H) {w : Val} {v : V} (r : Rep mg ι H w v) {xs : List Val} {okp : Store → Prop} (h : itemsOf st w = some (xs, okp)) :
    ∃ isT a, v = .ref a ∧ ∀ ι1 H1 st1, Later ι H ι1 H1 → Sim K mg ι1 st1 H1 → okp st1 → ∃ vs, SqB isT K H1 a vs ∧ Reps mg ι1 H1 xs vs := by
  cases w with
  | tup ys =>
    cases h
    obtain ⟨a, vs, e, ha, rr⟩ := r.tup_inv
    exact ⟨true, a, e, fun ι1 H1 st1 l S1 _ => ⟨vs, SqT.of (l.tups _ _ ha), rr.later l⟩⟩
  | ref n =>
    obtain ⟨a, e, ha⟩ := r.ref_inv
    dsimp only [itemsOf] at h
    cases q : seqAt st n with
    | none => rw [q] at h; cases h
    | some ys =>
      rw [q] at h
      cases h
      exact ⟨false, a, e, fun ι1 H1 st1 l S1 ok => S1.seqL ok (l.get ha)⟩
  | _ => cases h
/-- its own first state is right -/
theorem itemsOf_ok {st : Store} {w : Val} {xs : List Val} {okp : Store → Prop} (h : itemsOf st w = some (xs, okp)) : okp st := by
  cases w with
  | tup ys => cases h; trivial
  | ref n =>
    dsimp only [itemsOf] at h
    cases q : seqAt st n with
    | none => rw [q] at h; cases h
    | some ys => rw [q] at h; cases h; exact q
  | _ => cases h
def enumFrom (k : Nat) : List Val → List Val
  | [] => []
  | x :: r => .tup [.int k, x] :: enumFrom (k + 1) r
theorem enumFrom_length : ∀ (k : Nat) (xs : List Val), (enumFrom k xs).length = xs.length
  | _, [] => rfl
  | k, x :: r => by simp [enumFrom, enumFrom_length (k + 1) r]
theorem enumFrom_get : ∀ (k : Nat) (xs : List Val) (i : Nat) (x : Val), xs[i]? = some x → (enumFrom k xs)[i]? = some (.tup [.int ((k + i : Nat) : Int), x])
  | _, [], i, x, h => by simp at h
  | k, y :: r, 0, x, h => by simp at h; subst h; rfl
  | k, y :: r, i + 1, x, h => by
    have := enumFrom_get (k + 1) r i x (by simpa using h)
    show (enumFrom (k + 1) r)[i]? = _
    rw [this, show k + 1 + i = k + (i + 1) by omega]
def zipW : List Val → List Val → List Val
  | x :: r, y :: q => .tup [x, y] :: zipW r q
  | _, _ => []
theorem zipW_length : ∀ (xs ys : List Val), (zipW xs ys).length = min xs.length ys.length
  | [], ys => by simp [zipW]
  | x :: r, [] => by simp [zipW]
  | x :: r, y :: q => by simp [zipW, zipW_length r q]
theorem zipW_get : ∀ (xs ys : List Val) (i : Nat) (x y : Val), xs[i]? = some x → ys[i]? = some y → (zipW xs ys)[i]? = some (.tup [x, y])
  | [], _, i, x, y, h, _ => by simp at h
  | _ :: _, [], i, x, y, _, h => by simp at h
  | a :: r, b :: q, 0, x, y, h, h2 => by simp at h h2; subst h h2; rfl
  | a :: r, b :: q, i + 1, x, y, h, h2 => by
    have := zipW_get r q i x y (by simpa using h) (by simpa using h2)
    show (zipW r q)[i]? = _
    exact this
theorem isIt_enum {K : PySem.W.Frag} {mg : Str → Option Value} {ι : List Addr} {H : Hp} {isT : Bool} {a : Addr} {xs : List Val} {okp : Store → Prop}
    (src : ∀ ι1 H1 st1, Later ι H ι1 H1 → Sim K mg ι1 st1 H1 → okp st1 → ∃ vs, SqB isT K H1 a vs ∧ Reps mg ι1 H1 xs vs) : IsIt K mg (enumFrom 0 xs) okp ι H (IteB isT K a) := by
  refine ⟨fun i ι1 H1 st l S ok hi => ?_, fun i ι1 H1 st x H' l S ok hi hy => ?_, fun i ι1 H1 st l S ok hi => ?_⟩
  · obtain ⟨vs, h1, r⟩ := src ι1 H1 st l S ok
    rw [enumFrom_length] at hi
    exact ⟨vs, vs[i]'(by rw [← r.length]; exact hi), h1, by simp⟩
  · obtain ⟨vs, h1, r⟩ := src ι1 H1 st l S ok
    obtain ⟨T, y, e1, hT, e2, f⟩ := hy
    subst e1 e2
    obtain ⟨w, hw, rw_⟩ := r.get' (f vs h1)
    have hs := same_new (o := .tup [.int (i : Nat), y]) hT
    refine ⟨Same.laterH hs, S.same hs, _, enumFrom_get 0 xs i w hw, ?_⟩
    rw [Nat.zero_add]
    exact Rep.newTup hT (Reps.cons Rep.int (Reps.cons rw_ Reps.nil))
  · obtain ⟨vs, h1, r⟩ := src ι1 H1 st l S ok
    rw [enumFrom_length] at hi
    exact ⟨vs, h1, by rw [← r.length]; exact hi⟩
theorem isIt_zip {K : PySem.W.Frag} {mg : Str → Option Value} {ι : List Addr} {H : Hp} {b1 b2 : Bool} {a b : Addr} {xs ys : List Val} {okp okq : Store → Prop}
    (src : ∀ ι1 H1 st1, Later ι H ι1 H1 → Sim K mg ι1 st1 H1 → okp st1 → ∃ vs, SqB b1 K H1 a vs ∧ Reps mg ι1 H1 xs vs)
    (src2 : ∀ ι1 H1 st1, Later ι H ι1 H1 → Sim K mg ι1 st1 H1 → okq st1 → ∃ vs, SqB b2 K H1 b vs ∧ Reps mg ι1 H1 ys vs) : IsIt K mg (zipW xs ys) (fun st => okp st ∧ okq st) ι H (ItzB b1 b2 K a b) := by
  refine ⟨fun i ι1 H1 st l S ok hi => ?_, fun i ι1 H1 st x H' l S ok hi hy => ?_, fun i ι1 H1 st l S ok hi => ?_⟩
  · obtain ⟨vs, h1, r⟩ := src ι1 H1 st l S ok.1
    obtain ⟨us, h2, r2⟩ := src2 ι1 H1 st l S ok.2
    rw [zipW_length] at hi
    exact ⟨vs, us, vs[i]'(by rw [← r.length]; omega), us[i]'(by rw [← r2.length]; omega), h1, h2, by simp, by simp⟩
  · obtain ⟨vs, h1, r⟩ := src ι1 H1 st l S ok.1
    obtain ⟨us, h2, r2⟩ := src2 ι1 H1 st l S ok.2
    obtain ⟨T, y, z, e1, hT, e2, f, f2⟩ := hy
    subst e1 e2
    obtain ⟨w, hw, rw_⟩ := r.get' (f vs h1)
    obtain ⟨w2, hw2, rw2⟩ := r2.get' (f2 us h2)
    have hs := same_new (o := .tup [y, z]) hT
    exact ⟨Same.laterH hs, S.same hs, _, zipW_get xs ys i w w2 hw hw2, Rep.newTup hT (Reps.cons rw_ (Reps.cons rw2 Reps.nil))⟩
  · obtain ⟨vs, h1, r⟩ := src ι1 H1 st l S ok.1
    obtain ⟨us, h2, r2⟩ := src2 ι1 H1 st l S ok.2
    rw [zipW_length] at hi
    exact ⟨vs, us, h1, h2, by rw [← r.length, ← r2.length]; exact hi⟩
@[reducible] def iEnumM (m : ME) : MI := fun ρ st => (m ρ st).bind fun w st1 => match itemsOf st1 w with
  | some (xs, okp) => .ok (enumFrom 0 xs, okp) st1
  | none => .bad
@[reducible] def iZipM (m1 m2 : ME) : MI := fun ρ st => (m1 ρ st).bind fun w st1 => (m2 ρ st1).bind fun u st2 => match itemsOf st2 w, itemsOf st2 u with
  | some (xs, okp), some (ys, okq) => .ok (zipW xs ys, fun st => okp st ∧ okq st) st2
  | _, _ => .bad
@[reducible] def iSeqM (m : ME) : MI := fun ρ st => (m ρ st).bind fun w st1 => match itemsOf st1 w with
  | some p => .ok p st1
  | none => .bad
section
variable {X : Cx} {e e2 : Expr} {m m2 : ME} {p pos tpos : Pos} {elts : List Expr} {kk : Nat}
theorem ji_enum (hm : X.mg "enumerate" = none) (he : JE X e m) (hg : Gl X "enumerate" := by rfl) (hs : starEach [e] X.env = [(false, eval e X.env)] := by rfl) : JI X (.Tuple elts kk tpos) (.Call (.Name "enumerate" p) [e] [] pos) (iEnumM m) := fun W tk => by
  refine ⟨fun pins s σ H R I hw => (pi_enumB hg hm (pa_cons (he W tk) pa_nil hs) hs).run pins s σ H R I ?_⟩
  obtain ⟨ι, ρ, st, S, sl, p⟩ := hw
  refine ⟨ι, ρ, st, S, sl, Post.bind p fun w st1 ι1 H1 x l1 S1 r1 p1 => ?_⟩
  cases q : itemsOf st1 w with
  | none => rw [q] at p1; exact p1.elim
  | some z =>
    obtain ⟨xs, okp⟩ := z
    rw [q] at p1
    obtain ⟨isT, a, ea, src⟩ := itemsOf_src S1 r1 q
    obtain ⟨vs, h1, _⟩ := src ι1 H1 st1 (Later.refl _ _) S1 (itemsOf_ok q)
    subst ea
    exact ⟨isT, a, vs, rfl, h1, p1.okSame S1 (isIt_enum src)⟩
theorem ji_zip (hm : X.mg "zip" = none) (he : JE X e m) (he2 : JE X e2 m2) (hg : Gl X "zip" := by rfl) (hs : starEach [e, e2] X.env = (false, eval e X.env) :: starEach [e2] X.env := by rfl) (hs2 : starEach [e2] X.env = (false, eval e2 X.env) :: starEach [] X.env := by rfl)
    (hpl : (backTo pos (starEach [e2] X.env)).any (·.1) = false := by rfl) : JI X (.Tuple elts kk tpos) (.Call (.Name "zip" p) [e, e2] [] pos) (iZipM m m2) := fun W tk => by
  refine ⟨fun pins s σ H R I hw => (pi_zipB hg hm (pa_cons (he W tk) (pa_cons (he2 W tk) pa_nil hs2) hs) hs hpl).run pins s σ H R I ?_⟩
  obtain ⟨ι, ρ, st, S, sl, p⟩ := hw
  refine ⟨ι, ρ, st, S, sl, Post.bind p fun w st1 ι1 H1 x l1 S1 r1 p1 => ?_⟩
  refine ⟨ι1, ρ, st1, S1, sl.later l1, Post.bind p1 fun u st2 ι2 H2 y l2 S2 r2 p2 => ?_⟩
  cases q : itemsOf st2 w with
  | none => rw [q] at p2; exact p2.elim
  | some z =>
    cases q2 : itemsOf st2 u with
    | none => rw [q, q2] at p2; exact p2.elim
    | some z2 =>
      obtain ⟨xs, okp⟩ := z
      obtain ⟨ys, okq⟩ := z2
      rw [q, q2] at p2
      obtain ⟨b1, a, ea, src⟩ := itemsOf_src S2 (Rep.later l2 r1) q
      obtain ⟨b2, b, eb, src2⟩ := itemsOf_src S2 r2 q2
      obtain ⟨vs, h1, _⟩ := src ι2 H2 st2 (Later.refl _ _) S2 (itemsOf_ok q)
      obtain ⟨us, h2, _⟩ := src2 ι2 H2 st2 (Later.refl _ _) S2 (itemsOf_ok q2)
      subst ea eb
      exact ⟨b1, b2, a, b, vs, us, rfl, h1, h2, p2.okSame S2 (isIt_zip src src2)⟩
/-- a list or a tuple itself -/
theorem ji_seq {tg : Expr} (he : JE X e m) : JI X tg e (iSeqM m) := fun W tk => by
  refine ⟨fun pins s σ H R' I hw => ?_⟩
  obtain ⟨ι, ρ, st, S, sl, p⟩ := hw
  cases q : m ρ st with
  | bad => dsimp only [iSeqM] at p; rw [q] at p; exact p.elim
  | exc x s' =>
    dsimp only [iSeqM] at p; rw [q] at p
    exact (pi_tup (he W tk)).run pins s σ H R' I ⟨ι, ρ, st, S, sl, by rw [q]; exact p⟩
  | ok w st1 =>
    dsimp only [iSeqM] at p; rw [q] at p
    dsimp only [Ab.R.bind] at p
    cases w with
    | tup xs =>
      refine (pi_tup (he W tk)).run pins s σ H R' I ⟨ι, ρ, st, S, sl, ?_⟩
      rw [q]
      intro ι1 H1 v l1 S1 r1
      obtain ⟨a, vs, e1, ha, rr⟩ := Rep.tup_inv r1
      exact ⟨a, e1, ⟨vs, SqT.of ha⟩, (Post.later p l1).okSame S1 (isIt_tup ha rr)⟩
    | ref n =>
      refine (pi_list (he W tk)).run pins s σ H R' I ⟨ι, ρ, st, S, sl, ?_⟩
      rw [q]
      intro ι1 H1 v l1 S1 r1
      obtain ⟨a, e1, ha⟩ := Rep.ref_inv r1
      have p1 := Post.later p l1
      dsimp only [itemsOf] at p1
      cases qs : seqAt st1 n with
      | none => rw [qs] at p1; exact p1.elim
      | some xs =>
        rw [qs] at p1
        obtain ⟨vs, h1, _⟩ := S1.seqL qs ha
        exact ⟨a, e1, ⟨vs, h1⟩, p1.okSame S1 (isIt_list ha)⟩
    | _ => exact p.elim
end
/-! ### a text, sign by sign -/
def signsW (x : Str) : List Val := x.cps.toList.map fun c => .str ⟨#[c]⟩
theorem isIt_str {K : PySem.W.Frag} {mg : Str → Option Value} {x : Str} {ι : List Addr} {H : Hp} : IsIt K mg (signsW x) (fun _ => True) ι H (Its x) := by
  have hl : (signsW x).length = x.cps.size := by unfold signsW; simp
  refine ⟨fun i ι1 H1 st l S ok hi => (show i < x.cps.size by omega), fun i ι1 H1 st v H' l S ok hi hy => ?_, fun i ι1 H1 st l S ok hi => (show x.cps.size ≤ i by omega)⟩
  obtain ⟨e1, c, hc, e2⟩ := hy
  subst e1 e2
  refine ⟨Later.refl _ _, S, .str ⟨#[c]⟩, ?_, Rep.str⟩
  unfold signsW
  rw [List.getElem?_map, Array.getElem?_toList, hc]
  rfl
@[reducible] def iStrM (m : ME) : MI := fun ρ st => (m ρ st).bind fun w st1 => match w with
  | .str x => .ok (signsW x, fun _ => True) st1
  | _ => .bad
theorem ji_str {X : Cx} {tg e : Expr} {m : ME} (he : JE X e m) : JI X tg e (iStrM m) := fun W tk => by
  refine ⟨fun pins s σ H R I hw => (pi_str (he W tk)).run pins s σ H R I ?_⟩
  obtain ⟨ι, ρ, st, S, sl, p⟩ := hw
  refine ⟨ι, ρ, st, S, sl, Post.bind p fun w st1 ι1 H1 v l1 S1 r1 p1 => ?_⟩
  cases w with
  | str x => exact ⟨x, r1.str_inv, p1.okSame S1 isIt_str⟩
  | _ => exact p1.elim
end Ab

set_option Elab.async false
set_option linter.all false
set_option maxRecDepth 100000
set_option maxHeartbeats 4000000
/-! Ab: an own exception class made with keywords. -/
namespace PySem
namespace AbX
open PySem PySem.Spec PyProof.Rows PySem.HandSPX PySem.W PySem.Calls
section
variable {M : Model} {A : Around} {E : Value → Shared → Prop} {h : Heap} {g : Array GenState} {d : Drawn} {t : Nat} {os : OsState}
variable {nm q : Str} {C N : Addr} {bs bm bmB : List Value} {hdct : Bool} {sn : List Str} {sub : List Value} {ab : Bool} {col : Option Bool} {dd : Option Addr} {k0 k1 k2 k3 k5 : Option Value} {B newId initId : String}
theorem check_new_ownK (F : ExcBaseFacts B newId initId bmB) (hT : ∀ X : String, bm.contains (.type X) = bmB.contains (.type X)) {kw : List (Str × Value)} {Q : Unit → Shared → Prop}
    (hC : h.get? C = some (excClassObj nm q C N bs bm hdct sn sub ab col dd k0 k1 k2 k3 k5 newId)) (hq : Q () ⟨h, g, d, t, os⟩) : wpAny M A (checkBuiltinCall newId ⟨[.ref C], kw⟩) Q E ⟨h, g, d, t, os⟩ := by
  have hcont : (Value.ref C :: bm).contains (.type B) = true := by rw [List.contains_cons, hT, F.hasB, Bool.or_true]
  have hstar := F.noStar
  simp only [checkBuiltinCall, F.newKind, F.newSplit, F.newRow]
  repeat (first | refine wpAny_loadPart_at hC ?_ | (refine wpAny_isSubtype_exc hC ?_; rw [hcont]) | refine wpAny_staticBase_exc hC ?_ | refine wpAny_madeBy_exc hC ?_ | simp only [bne_self_eq_false, Bool.false_eq_true, if_false] | wp_step)
  exact hq
end
section
variable {prog : Program} {w : World} {A : Around} {E : Value → Shared → Prop} {R : Result → Shared → Prop} {h : Heap} {g : Array GenState} {d : Drawn} {t : Nat} {os : OsState}
variable {nm q : Str} {C N : Addr} {bs bm bmB : List Value} {hdct : Bool} {sn : List Str} {sub : List Value} {ab : Bool} {col : Option Bool} {dd : Option Addr} {k0 k1 k2 k3 k5 : Option Value} {B newId initId : String}
theorem new_ownK (F : ExcBaseFacts B newId initId bmB) (hT : ∀ X : String, bm.contains (.type X) = bmB.contains (.type X)) {kw : List (Str × Value)}
    (hC : h.get? C = some (excClassObj nm q C N bs bm hdct sn sub ab col dd k0 k1 k2 k3 k5 newId))
    (hq : R (.ok (.ret (.ref (h.objs.size + 1)))) ⟨(h.push { cls := .type "tuple", data := .seq ([] : List Value).toArray }).push
      { cls := .ref C, data := .fields #[.ref h.objs.size, .none, .none, .none, .bool false, .none] }, g, d, t, os⟩) :
    codeAny (model prog w) A (.builtin newId ⟨[.ref C], kw⟩) R ⟨h, g, d, t, os⟩ := by
  have hrest : ([] : List Value).length ≤ sizeLine := by simp
  have hends := F.ends
  have hcB : (Value.ref C :: bm).contains (.type B) = true := by rw [List.contains_cons, hT, F.hasB, Bool.or_true]
  have hcA : (Value.ref C :: bm).contains (.type "AttributeError") = false := by rw [List.contains_cons, hT, F.noAttr]; rfl
  have hcN : (Value.ref C :: bm).contains (.type "NameError") = false := by rw [List.contains_cons, hT, F.noName]; rfl
  refine codeAny_builtinAt F.entry ?_
  unfold Builtin.«BaseException.__new__»
  refine wpAt_bind ?_
  show wpAt _ _ _ (stack >>= _) _ _ _
  refine wpAt_bind (wpAt_stack fun p below => wpAt_of_wpAny ?_)
  wp_walk
  refine wpAt_of_wpAny ?_
  rw [F.owner]
  repeat (first | with_reducible refine wpAny_madeHere_exc F.canon hC ?_ | with_reducible refine wpAny_loadPart_at hC ?_ | (with_reducible refine wpAny_isSubtype_exc hC ?_; first | rw [hcB] | rw [hcA] | rw [hcN]) | wp_step)
  show R _ _
  rw [Heap.size_push]
  exact hq
theorem type_call_ownK (F : ExcBaseFacts B newId initId bmB) (hT : ∀ X : String, bm.contains (.type X) = bmB.contains (.type X)) {kw : List (Str × Value)} {fI : Addr} {Q : Fin → Shared → Prop}
    (hC : h.get? C = some (excClassObj nm q C N bs bm hdct sn sub ab col dd k0 k1 k2 k3 k5 newId))
    (hi : W.Looks (model prog w) h (typeLookup (.ref C) "__init__") (some (.ref fI))) (hb : ∀ self, W.Looks (model prog w) h (bindSpecial (.ref fI) self) (.ref fI, [self]))
    (hq : codeAny (model prog w) A (.call (.ref fI) ⟨[.ref (h.objs.size + 1)], kw⟩)
      (fun r s' => match r with | .ok (.ret v) => v = .none ∧ Q (.done (.ret (.ref (h.objs.size + 1)))) s' | .ok _ => False | .error e => E e s')
      ⟨(h.push (W.kdv_tup [])).push (excO C h.objs.size), g, d, t, os⟩) :
    wpAny (model prog w) A (Builtin.«type.__call__» ⟨[.ref C], kw⟩) Q E ⟨h, g, d, t, os⟩ := by
  repeat (first | with_reducible refine wpAny_loadPart_at hC ?_ | with_reducible refine wpAny_madeBy_exc hC ?_ | wp_step)
  refine codeAny_call_builtin_code (Code.quiet_builtin _ F.quiet) (check_new_ownK F hT hC ?_)
  refine new_ownK F hT hC ?_
  show wpAny _ _ _ _ _ _
  have k : ∀ b o, h.get? b = some o → ((h.push (W.kdv_tup [])).push (excO C h.objs.size)).get? b = some o := fun b o e => Heap.get?_push_of_some _ (Heap.get?_push_of_some _ e)
  have hC₁ := k _ _ hC
  have hget : ((h.push (W.kdv_tup [])).push (excO C h.objs.size)).get? (h.objs.size + 1) = some (excO C h.objs.size) := by heap_get
  have hcC : (Value.ref C :: bm).contains (.ref C) = true := by simp
  have i1 := hi.keeps k
  have b1 := (hb (.ref (h.objs.size + 1))).keeps k
  unfold isInstance
  repeat (first | with_reducible refine wpAny_loadPart_at hget ?_ | (with_reducible refine wpAny_isSubtype_exc hC₁ ?_; rw [hcC]) | wp_step)
  show wpAny _ _ (typeLookup (.ref C) _) _ _ _
  refine i1.at ?_
  refine wpAny_holding (wpAny_bind (b1.at ?_))
  refine wpAny_bind (wpAny_call (codeAny_mono hq fun r s' z => ?_))
  rcases r with e | (v | _ | _ | _) <;> first | exact z | exact z.elim | skip
  obtain ⟨rfl, z⟩ := z
  first
    | exact wpAny_pure (wpAny_pure z)
    | (wp_walk; exact z)
theorem call_ownK (F : ExcBaseFacts B newId initId bmB) (hT : ∀ X : String, bm.contains (.type X) = bmB.contains (.type X)) {kw : List (Str × Value)} {fI : Addr}
    (hC : h.get? C = some (excClassObj nm q C N bs bm hdct sn sub ab col dd k0 k1 k2 k3 k5 newId))
    (hi : W.Looks (model prog w) h (typeLookup (.ref C) "__init__") (some (.ref fI))) (hb : ∀ self, W.Looks (model prog w) h (bindSpecial (.ref fI) self) (.ref fI, [self]))
    (hq : codeAny (model prog w) (A.under (.builtin "type.__call__" ⟨[.ref C], kw⟩)) (.call (.ref fI) ⟨[.ref (h.objs.size + 1)], kw⟩) (W.InitBack (h.objs.size + 1) R)
      ⟨(h.push (W.kdv_tup [])).push (excO C h.objs.size), g, d, t, os⟩) :
    codeAny (model prog w) A (.call (.ref C) ⟨[], kw⟩) R ⟨h, g, d, t, os⟩ := by
  have f1 := tc_lookup
  have f2 := tc_bind (.ref C)
  have hTy : (⟨h, g, d, t, os⟩ : Shared).TypeIs (.ref C) "type" := ⟨_, hC, rfl⟩
  refine codeAny_of_tree ?_
  show wpAny _ _ (callAny (.ref C) _) _ _ _
  repeat (any_goals (first | assumption | with_reducible refine wpAny_loadPart_at hC ?_ | wp_step))
  refine ⟨rfl, ?_⟩
  refine codeAny_call_builtin_at (Code.quiet_builtin _ (by decide +kernel)) entry_typeCall (wpAny_check_type_call_sub hC (type_call_ownK F hT hC hi hb ?_))
  refine codeAny_mono hq fun r s' z => ?_
  rcases r with e | (v | _ | _ | _) <;> exact z
/-! the same road, whatever the __init__ is that the class finds (here the base's own) -/
theorem type_call_ownV (F : ExcBaseFacts B newId initId bmB) (hT : ∀ X : String, bm.contains (.type X) = bmB.contains (.type X)) {rest : List Value} {fI : Value} {Q : Fin → Shared → Prop}
    (hC : h.get? C = some (excClassObj nm q C N bs bm hdct sn sub ab col dd k0 k1 k2 k3 k5 newId))
    (hi : W.Looks (model prog w) h (typeLookup (.ref C) "__init__") (some fI)) (hb : ∀ self, W.Looks (model prog w) h (bindSpecial fI self) (fI, [self])) (hrest : rest.length ≤ sizeLine)
    (hq : codeAny (model prog w) A (.call fI ⟨.ref (h.objs.size + 1) :: rest, []⟩)
      (fun r s' => match r with | .ok (.ret v) => v = .none ∧ Q (.done (.ret (.ref (h.objs.size + 1)))) s' | .ok _ => False | .error e => E e s')
      ⟨(h.push (W.kdv_tup rest)).push (excO C h.objs.size), g, d, t, os⟩) :
    wpAny (model prog w) A (Builtin.«type.__call__» ⟨.ref C :: rest, []⟩) Q E ⟨h, g, d, t, os⟩ := by
  repeat (first | with_reducible refine wpAny_loadPart_at hC ?_ | with_reducible refine wpAny_madeBy_exc hC ?_ | wp_step)
  refine codeAny_call_builtin_code (Code.quiet_builtin _ F.quiet) (check_new_own F hT hC ?_)
  refine new_own F hT hC ?_ hrest
  show wpAny _ _ _ _ _ _
  have k : ∀ b o, h.get? b = some o → ((h.push (W.kdv_tup rest)).push (excO C h.objs.size)).get? b = some o := fun b o e => Heap.get?_push_of_some _ (Heap.get?_push_of_some _ e)
  have hC₁ := k _ _ hC
  have hget : ((h.push (W.kdv_tup rest)).push (excO C h.objs.size)).get? (h.objs.size + 1) = some (excO C h.objs.size) := by heap_get
  have hcC : (Value.ref C :: bm).contains (.ref C) = true := by simp
  have i1 := hi.keeps k
  have b1 := (hb (.ref (h.objs.size + 1))).keeps k
  unfold isInstance
  repeat (first | with_reducible refine wpAny_loadPart_at hget ?_ | (with_reducible refine wpAny_isSubtype_exc hC₁ ?_; rw [hcC]) | wp_step)
  show wpAny _ _ (typeLookup (.ref C) _) _ _ _
  refine i1.at ?_
  refine wpAny_holding (wpAny_bind (b1.at ?_))
  refine wpAny_bind (wpAny_call (codeAny_mono hq fun r s' z => ?_))
  rcases r with e | (v | _ | _ | _) <;> first | exact z | exact z.elim | skip
  obtain ⟨rfl, z⟩ := z
  first
    | exact wpAny_pure (wpAny_pure z)
    | (wp_walk; exact z)

theorem call_ownV (F : ExcBaseFacts B newId initId bmB) (hT : ∀ X : String, bm.contains (.type X) = bmB.contains (.type X)) {rest : List Value} {fI : Value}
    (hC : h.get? C = some (excClassObj nm q C N bs bm hdct sn sub ab col dd k0 k1 k2 k3 k5 newId))
    (hi : W.Looks (model prog w) h (typeLookup (.ref C) "__init__") (some fI)) (hb : ∀ self, W.Looks (model prog w) h (bindSpecial fI self) (fI, [self])) (hrest : rest.length ≤ sizeLine)
    (hq : codeAny (model prog w) (A.under (.builtin "type.__call__" ⟨.ref C :: rest, []⟩)) (.call fI ⟨.ref (h.objs.size + 1) :: rest, []⟩) (W.InitBack (h.objs.size + 1) R)
      ⟨(h.push (W.kdv_tup rest)).push (excO C h.objs.size), g, d, t, os⟩) :
    codeAny (model prog w) A (.call (.ref C) ⟨rest, []⟩) R ⟨h, g, d, t, os⟩ := by
  have f1 := tc_lookup
  have f2 := tc_bind (.ref C)
  have hTy : (⟨h, g, d, t, os⟩ : Shared).TypeIs (.ref C) "type" := ⟨_, hC, rfl⟩
  refine codeAny_of_tree ?_
  show wpAny _ _ (callAny (.ref C) _) _ _ _
  repeat (any_goals (first | assumption | with_reducible refine wpAny_loadPart_at hC ?_ | wp_step))
  refine ⟨rfl, ?_⟩
  refine codeAny_call_builtin_at (Code.quiet_builtin _ (by decide +kernel)) entry_typeCall (wpAny_check_type_call_sub hC (type_call_ownV F hT hC hi hb hrest ?_))
  refine codeAny_mono hq fun r s' z => ?_
  rcases r with e | (v | _ | _ | _) <;> exact z
end
end AbX
end PySem

set_option Elab.async false
set_option linter.all false
set_option maxRecDepth 100000
set_option maxHeartbeats 1000000
/-! Ab: own exceptions raised: C("..") and C(k = v, ..). -/
namespace Ab
open PySem PySem.Spec L2
/-! ### the __init__ of such a class -/
/-- what it promises: the fields lie behind one another -/
def spEx (C : Addr) (fs : List Nat) : Sp := fun vs H Q E => ∃ a ws, vs = .ref a :: ws ∧ ws.length = fs.length ∧ H a = some (exo a C none) ∧
  ∀ d H', H d = none → d ≠ a → H' a = some (exo a C (some d)) → H' d = some (exd d ((fs.map nm).zip ws).reverse) → (∀ b, b ≠ a → b ≠ d → H' b = H b) → Q .non H'
/-- the class of that number can be raised by C(k = v, ..) -/
def ExK (T : Wh) (C k : Nat) (fs : List Nat) : Prop := (∀ f ∈ fs, f < nmN) ∧ ∃ Ca fI fd ps, T.mg (nm C) = some (.ref Ca) ∧ OexC T.K Ca ∧ PySem.W.findIn T.K (.ref Ca) "__init__" = some (some (.ref fI)) ∧ PySem.W.typeIn T.K (.ref fI) = some (.type "function") ∧
  KBn T.K fd ps 1 (fs.map nm) (fun us ws => us ++ ws) (fun us ws => us ++ ws) ∧ FnOk T.P T.w T.K T.mg T.base (L2.CX T.P T.w) k fI fd ps (spEx Ca fs)
/-- .. by C("..") -/
def Ex0 (T : Wh) (C : Nat) : Prop := ∃ Ca, T.mg (nm C) = some (.ref Ca) ∧ OexC T.K Ca ∧ PySem.W.findIn T.K (.ref Ca) "__init__" = some (some (.builtin "ValueError.__init__"))
/-- RowError.__init__, read off the class -/
structure SupI (K : PySem.W.Frag) (mg : Str → Option Value) (R : Addr) : Prop where
  at_ : mg "RowError" = some (.ref R)
  rd : PySem.W.readsIn K R (.type "type") = true
  ga : PySem.W.specialIn K (.ref R) "__getattribute__" = some (some (.builtin "type.__getattribute__"))
  fd : PySem.W.findCls K (.ref R) (.type "type") "__init__" = some (.val (.builtin "ValueError.__init__"))
section
variable {X : Cx} {o e : Expr} {es : List Expr} {ta : TA} {p p1 p2 pos : Pos} {R : Addr}
theorem pe_rowinit {pl : Sem Bool} (hS : SupI X.K X.mg R) (ha : PA X (e :: es) ta) (hg : Gl X "RowError" := by rfl)
    (hc : eval (.Call (.Attribute (.Name "RowError" p1) "__init__" p2) (e :: es) [] pos) X.env = (do
      let ov ← eval (.Name "RowError" p1) X.env
      standAt p2.atName
      let (f, first) ← holding [ov] (getMethod ov "__init__" pl)
      callWith pos f first (backTo pos (starEach (e :: es) X.env)) (backToKw pos (keywordEach [] X.env))) := by rfl)
    (he : starEach (e :: es) X.env = (false, eval e X.env) :: starEach es X.env := by rfl) (hpl : (backTo pos (starEach es X.env)).any (·.1) = false := by rfl) :
    PE X (.Call (.Attribute (.Name "RowError" p1) "__init__" p2) (e :: es) [] pos) (tVeI X.K ta) := by
  refine ⟨fun pins s σ H Q I h => ?_⟩
  refine PySem.W.methodCall_KW (ld_glob I hg hS.at_ ?_ (by decide)) hc
  refine PySem.W.method_cls I.kIn hS.ga (PySem.W.cls_value I.kIn hS.rd hS.fd (by decide +kernel) ?_)
  show wpAny _ _ (callWith pos (Value.builtin "ValueError.__init__") [] (backTo pos (starEach (e :: es) X.env)) []) _ _ _
  refine PyProof.Rows.callWith_method1 (thn (ha.run pos pins _ σ H _ (I.tok _) h) fun us s1 ⟨vs, H1, I1, r1, a, C, ws, ev, hl, T, ea, q⟩ => ?_) he hpl
  subst ev
  cases r1 with
  | @cons _ u0 _ ur ra rw' =>
    obtain rfl : u0 = Value.ref a := ra
    have hlen : ur.length ≤ sizeLine := by
      rw [← Paired.length rw', sizeLine_eq]
      omega
    exact oinit_ok T I1 ea hlen fun s' J => ⟨.non, H1, J, rfl, q⟩
end
/-- the body of an __init__ with one field -/
theorem exinit1 {T : Wh} {qn : Str} {st : Stmt} {f1 : Nat} {fI : Addr} {fd : FuncData} {Ca R : Addr} {t : Str} {j : Nat} {p1 p2 p3 p4 p5 p6 p7 p8 p9 p10 : Pos} (F : Fun T.K "__init__" qn st fI fd) (S : FnScope ["self", nm f1] ["self", nm f1] (defScope st))
    (hS : SupI T.K T.mg R) (hO : OexC T.K Ca) (hno : PySem.W.findIn T.K (.ref Ca) (nm f1) = some none) (hgl : (defScope st).names.lookup ("RowError" : Str) = some NameKind.globalImplicit) (hne : (nm f1 == ("__debug__" : Str)) = false) (hcd : (nm f1 == ("__classdict__" : Str)) = false)
    (hb : defBody st = [.Expr (.Call (.Attribute (.Name "RowError" p1) "__init__" p2) [.Name "self" p3, .Constant (.str t) j p4] [] p5) p6, .Assign [.Attribute (.Name "self" p7) (nm f1) p8] (.Name (nm f1) p9) p10])
    (hc : ∀ env : Env, ∃ pl : Sem Bool, eval (.Call (.Attribute (.Name "RowError" p1) "__init__" p2) [.Name "self" p3, .Constant (.str t) j p4] [] p5) env = (do
      let ov ← eval (.Name "RowError" p1) env
      standAt p2.atName
      let (f, first) ← holding [ov] (getMethod ov "__init__" pl)
      callWith p5 f first (backTo p5 (starEach [.Name "self" p3, .Constant (.str t) j p4] env)) (backToKw p5 (keywordEach [] env)))) :
    FnOk T.P T.w T.K T.mg T.base (L2.CX T.P T.w) 1 fI fd ["self", nm f1] (spEx Ca [f1]) := by
  refine F.okX S (fun vs H Q E ⟨a, ws, e, hl, _⟩ => ?_) (fun cdv A outer s H vs Q E hr hsp => ?_)
  · subst e
    simp only [List.length_cons, hl, List.length_nil]
  · obtain ⟨a, ws, e, hl, ha, q⟩ := hsp
    subst e
    obtain ⟨w1, rfl⟩ : ∃ w, ws = [w] := by
      match ws, hl with
      | [w], _ => exact ⟨w, rfl⟩
    rw [hb]
    obtain ⟨pl, hpl⟩ := hc (cxOf (L2.CX T.P T.w) T.P T.w T.K T.mg T.base _ qn (defScope st) fI cdv A outer s H E).env
    have vis : ∀ x ∈ (["self", nm f1] : List Str), Vis (defScope st) x := fun x hx => (S.par x hx).elim .inl fun z => .inr (.inl z)
    refine ⟨_, pss_cons (ps_expr (pe_rowinit (R := R) hS (pa_cons (pe_var (i := 0) (x := "self") rfl (vis "self" List.mem_cons_self)) (pa_cons pe_str pa_nil)) hgl hpl)) (pss_one (ps_ost (pe_var (i := 0) (x := "self") rfl (vis "self" List.mem_cons_self)) (pe_var (i := 1) rfl (vis (nm f1) (List.mem_cons_of_mem _ List.mem_cons_self)) hne hcd))), ?_⟩
    refine ⟨_, rfl, a, Ca, [V.str t], rfl, by simp, hO, ha, ?_⟩
    refine ⟨w1, rfl, .ref a, rfl, a, Ca, rfl, hO, hno, .inl ⟨ha, fun dx hd hda => ?_⟩⟩
    exact q dx _ hd hda upd_same (by rw [upd_ne hda, upd_same]; rfl) fun b h1 h2 => by rw [upd_ne h1, upd_ne h2]
/-- .. with two fields -/
theorem exinit2 {T : Wh} {qn : Str} {st : Stmt} {f1 f2 : Nat} {fI : Addr} {fd : FuncData} {Ca R : Addr} {t : Str} {j : Nat} {p1 p2 p3 p4 p5 p6 p7 p8 p9 p10 q7 q8 q9 q10 : Pos} (F : Fun T.K "__init__" qn st fI fd) (S : FnScope ["self", nm f1, nm f2] ["self", nm f1, nm f2] (defScope st))
    (hS : SupI T.K T.mg R) (hO : OexC T.K Ca) (hno : PySem.W.findIn T.K (.ref Ca) (nm f1) = some none) (hno2 : PySem.W.findIn T.K (.ref Ca) (nm f2) = some none) (hgl : (defScope st).names.lookup ("RowError" : Str) = some NameKind.globalImplicit) (hne : (nm f1 == ("__debug__" : Str)) = false) (hcd : (nm f1 == ("__classdict__" : Str)) = false)
    (hne2 : (nm f2 == ("__debug__" : Str)) = false) (hcd2 : (nm f2 == ("__classdict__" : Str)) = false)
    (hb : defBody st = [.Expr (.Call (.Attribute (.Name "RowError" p1) "__init__" p2) [.Name "self" p3, .Constant (.str t) j p4] [] p5) p6, .Assign [.Attribute (.Name "self" p7) (nm f1) p8] (.Name (nm f1) p9) p10, .Assign [.Attribute (.Name "self" q7) (nm f2) q8] (.Name (nm f2) q9) q10])
    (hc : ∀ env : Env, ∃ pl : Sem Bool, eval (.Call (.Attribute (.Name "RowError" p1) "__init__" p2) [.Name "self" p3, .Constant (.str t) j p4] [] p5) env = (do
      let ov ← eval (.Name "RowError" p1) env
      standAt p2.atName
      let (f, first) ← holding [ov] (getMethod ov "__init__" pl)
      callWith p5 f first (backTo p5 (starEach [.Name "self" p3, .Constant (.str t) j p4] env)) (backToKw p5 (keywordEach [] env)))) :
    FnOk T.P T.w T.K T.mg T.base (L2.CX T.P T.w) 1 fI fd ["self", nm f1, nm f2] (spEx Ca [f1, f2]) := by
  refine F.okX S (fun vs H Q E ⟨a, ws, e, hl, _⟩ => ?_) (fun cdv A outer s H vs Q E hr hsp => ?_)
  · subst e
    simp only [List.length_cons, hl, List.length_nil]
  · obtain ⟨a, ws, e, hl, ha, q⟩ := hsp
    subst e
    obtain ⟨w1, w2, rfl⟩ : ∃ w1 w2, ws = [w1, w2] := by
      match ws, hl with
      | [w1, w2], _ => exact ⟨w1, w2, rfl⟩
    rw [hb]
    obtain ⟨pl, hpl⟩ := hc (cxOf (L2.CX T.P T.w) T.P T.w T.K T.mg T.base _ qn (defScope st) fI cdv A outer s H E).env
    have vis : ∀ x ∈ (["self", nm f1, nm f2] : List Str), Vis (defScope st) x := fun x hx => (S.par x hx).elim .inl fun z => .inr (.inl z)
    refine ⟨_, pss_cons (ps_expr (pe_rowinit (R := R) hS (pa_cons (pe_var (i := 0) (x := "self") rfl (vis "self" List.mem_cons_self)) (pa_cons pe_str pa_nil)) hgl hpl)) (pss_cons (ps_ost (pe_var (i := 0) (x := "self") rfl (vis "self" List.mem_cons_self)) (pe_var (i := 1) rfl (vis (nm f1) (List.mem_cons_of_mem _ List.mem_cons_self)) hne hcd))
      (pss_one (ps_ost (pe_var (i := 0) (x := "self") rfl (vis "self" List.mem_cons_self)) (pe_var (i := 2) rfl (vis (nm f2) (List.mem_cons_of_mem _ (List.mem_cons_of_mem _ List.mem_cons_self))) hne2 hcd2)))), ?_⟩
    refine ⟨_, rfl, a, Ca, [V.str t], rfl, by simp, hO, ha, ?_⟩
    refine ⟨w1, rfl, .ref a, rfl, a, Ca, rfl, hO, hno, .inl ⟨ha, fun dx hd hda => ?_⟩⟩
    refine ⟨w2, rfl, .ref a, rfl, a, Ca, rfl, hO, hno2, .inr ⟨dx, [(nm f1, w1)], upd_same, (by rw [upd_ne hda, upd_same]), by simp, ?_⟩⟩
    exact q dx _ hd hda (by rw [upd_ne (Ne.symm hda), upd_same]) (by rw [upd_same]; rfl) fun b h1 h2 => by rw [upd_ne h2, upd_ne h1, upd_ne h2]

/-! ### the raise -/
/-- keywords -/
def JK (X : Cx) (ks : List Keyword) (m : MA) : Prop := ∀ W, Takes X W → PK X ks (rdG X.K X.mg (relL X.mg) W m)
section
variable {X : Cx} {e : Expr} {kws : List Keyword} {me : ME} {mk : MA} {nmk : Option Str} {kpos p pos pos' : Pos} {C k : Nat} {fs : List Nat} {x : Str}
theorem PK.weak {t t' : TA} (h : PK X kws t) (w : ∀ σ H Q, t' σ H Q → t σ H Q) : PK X kws t' := ⟨fun pos pins s σ H Q I q => h.run pos pins s σ H Q I (w σ H Q q)⟩
theorem jk_nil : JK X [] aNil := fun W tk => PK.weak pk_nil fun σ H Q ⟨ι, ρ, st, S, sl, p⟩ => p.okSame S .nil
theorem jk_cons (ha : JE X e me) (hr : JK X kws mk) : JK X (⟨nmk, e, kpos⟩ :: kws) (aCons me mk) := fun W tk => by
  refine PK.weak (pk_cons (ha W tk) (hr W tk)) fun σ H Q ⟨ι, ρ, st, S, sl, p⟩ => ?_
  refine ⟨ι, ρ, st, S, sl, Post.bind p fun w st1 ι1 H1 x l1 S1 r1 p1 => ?_⟩
  refine ⟨ι1, ρ, st1, S1, sl.later l1, Post.bind p1 fun ws st2 ι2 H2 xs l2 S2 r2 p2 => ?_⟩
  exact p2.okSame S2 (.cons (r1.later l2) r2)
/-- raise C(k = v, ..) -/
@[reducible] def sRaise (C : Nat) (fs : List Nat) (m : MA) : MS := fun ρ st => (m ρ st).toO ρ fun ws st1 => if ws.length = fs.length then .exc ⟨C, (fs.zip ws).reverse⟩ ρ st1 else .bad
/-- the keywords' values, then the exception (raising is the only way on) -/
def tMkK (C : Addr) (fs : List Nat) (ta : TA) : L2.St → Hp → XK → Prop := fun σ H Q => ta σ H fun vs H1 => vs.length = fs.length ∧ ∀ d, H1 d = none → Q (.ref C) (some d) (upd H1 d (.xd ((fs.map nm).zip vs).reverse))
theorem repF_zip {mg : Str → Option Value} {ι : List Addr} {H : Hp} : ∀ {fs : List Nat} {ws : List Val} {vs : List V}, (∀ f ∈ fs, f < nmN) → Reps mg ι H ws vs → RepF mg ι H (fs.zip ws) ((fs.map nm).zip vs)
  | [], _, _, _, _ => by rw [List.zip_nil_left, List.map_nil, List.zip_nil_left]; exact .nil
  | f :: fs, [], _, _, r => by rw [r.of_nil, List.zip_nil_right, List.zip_nil_right]; exact .nil
  | f :: fs, w :: ws, _, hf, r => by
    obtain ⟨v, r', e, h1, h2⟩ := r.of_cons
    subst e
    exact .cons ⟨hf f List.mem_cons_self, rfl, h1⟩ (repF_zip (fun g hg => hf g (List.mem_cons_of_mem _ hg)) h2)
theorem paired_snoc {α β : Type} {R : α → β → Prop} {a : α} {b : β} (h : R a b) : ∀ {xs : List α} {ys : List β}, Paired R xs ys → Paired R (xs ++ [a]) (ys ++ [b])
  | _, _, .nil => .cons h .nil
  | _, _, .cons q t => .cons q (paired_snoc h t)
theorem paired_rev {α β : Type} {R : α → β → Prop} : ∀ {xs : List α} {ys : List β}, Paired R xs ys → Paired R xs.reverse ys.reverse
  | _, _, .nil => .nil
  | _, _, .cons q t => by
    rw [List.reverse_cons, List.reverse_cons]
    exact paired_snoc q (paired_rev t)
theorem pmk_kw {t : TA} (h : ExK (Cx.wh X) C k fs) (hx : x = nm C) (hr : Room (k + 1) X.A) (ha : PK X kws t) (hg : Gl X x)
    (hall : (backToKw pos (keywordEach kws X.env)).all (·.1.isSome) = true) (hks : (backToKw pos (keywordEach kws X.env)).filterMap (·.1) = fs.map nm) (hdb : (x == ("__debug__" : Str)) = false)
    (hpl : ((backTo pos (starEach [] X.env)).any (·.1) || (backToKw pos (keywordEach kws X.env)).any (·.1.isNone)) = false) :
    ∃ Ca, X.mg (nm C) = some (.ref Ca) ∧ PMk X (.Call (.Name x p) [] kws pos) (tMkK Ca fs t) := by
  obtain ⟨_, Ca, fI, fd, ps, hC, T, iC, tI, hb, F1⟩ := h
  refine ⟨Ca, hC, ?_⟩
  intro pins s σ H Q I h
  obtain ⟨nm', q, N, bs, bm, sn, sub, ab, col, dd, k0, k1, k2, k3, k5, hCo, hbm⟩ := T.cls
  refine wpAny_Call_Name_kw (ld_glob I hg (by rw [hx]; exact hC) ?_ hdb)
  refine PySem.W.callWith_KW0 (h₀ := X.base) I.ok.mod.kin T.kC hall (thn (ha.run pos pins s σ H _ I h) fun us s1 ⟨vs, H1, I1, r1, hz, q1⟩ => ⟨I1.kIn, ?_⟩) hpl
  rw [hks]
  show wpAny _ _ (call (.ref Ca) [] ((fs.map nm).zip us)) _ _ _
  obtain ⟨hp, g, dr, tk, os⟩ := s1
  have hsz : hp.objs.size ≤ hp.objs.size + 1 := Nat.le_succ _
  have hn : H1 (hp.objs.size + 1) = none := I1.hok.fresh hsz
  have kk : ∀ b o, hp.get? b = some o → ((hp.push (PySem.W.kdv_tup [])).push (PySem.HandSPX.excO Ca hp.objs.size)).get? b = some o := fun b o e => Heap.get?_push_of_some _ (Heap.get?_push_of_some _ e)
  have hget : ((hp.push (PySem.W.kdv_tup [])).push (PySem.HandSPX.excO Ca hp.objs.size)).get? (hp.objs.size + 1) = some (PySem.HandSPX.excO Ca hp.objs.size) := by heap_get
  have I2 : Inv X pins σ (upd H1 (hp.objs.size + 1) (exo (hp.objs.size + 1) Ca none)) ⟨(hp.push (PySem.W.kdv_tup [])).push (PySem.HandSPX.excO Ca hp.objs.size), g, dr, tk, os⟩ :=
    I1.laid (t' := tk) (a := hp.objs.size + 1) (o := exo (hp.objs.size + 1) Ca none) (h' := (hp.push (PySem.W.kdv_tup [])).push (PySem.HandSPX.excO Ca hp.objs.size)) kk hsz (exo_ok hget)
  have r2 : Vals (V.ref (hp.objs.size + 1) :: vs) (Value.ref (hp.objs.size + 1) :: us) := .cons rfl r1
  have hspx : spEx Ca fs (V.ref (hp.objs.size + 1) :: vs) (upd H1 (hp.objs.size + 1) (exo (hp.objs.size + 1) Ca none))
      (fun v H2 => v = .non ∧ ∃ (d : Addr), H2 (hp.objs.size + 1) = some (exo (hp.objs.size + 1) Ca (some d)) ∧ H2 d = some (exd d ((fs.map nm).zip vs).reverse) ∧ H1 d = none ∧ Q (.ref Ca) (some d) (upd (del H2 (hp.objs.size + 1)) d (.xd ((fs.map nm).zip vs).reverse))) (fun _ _ _ => False) := by
    refine ⟨hp.objs.size + 1, vs, rfl, hz, upd_same, fun d H' hd hda e1 e2 e3 => ⟨rfl, d, e1, e2, ?_, ?_⟩⟩
    · rw [upd_ne hda] at hd
      exact hd
    · rw [upd_ne hda] at hd
      have eq : upd (del H' (hp.objs.size + 1)) d (.xd ((fs.map nm).zip vs).reverse) = upd H1 d (.xd ((fs.map nm).zip vs).reverse) := by
        funext b
        by_cases h1 : b = d
        · rw [h1, upd_same, upd_same]
        · rw [upd_ne h1, upd_ne h1]
          by_cases h2 : b = hp.objs.size + 1
          · rw [h2, del_same, hn]
          · rw [del_ne h2, e3 b h2 h1, upd_ne h2]
      rw [eq]
      exact q1 d hd
  have hbt := hb.to ⟨(hp.push (PySem.W.kdv_tup [])).push (PySem.HandSPX.excO Ca hp.objs.size), g, dr, tk, os⟩ [Value.ref (hp.objs.size + 1)] us I2.kIn rfl (by rw [List.length_map, ← hz, r1.length])
  refine wpAny_call (PySem.AbX.call_ownK F.excBase_ValueError (fun Y => PySem.HandSPX.refsVE_contains Y bm hbm) (I1.kIn _ _ hCo) (PySem.W.looks_findIn I1.kIn iC) (fun self => PySem.W.bind_fn I1.kIn self tI)
    (codeAny_mono (F1.run _ X.stack _ _ ⟨[Value.ref (hp.objs.size + 1)], (fs.map nm).zip us⟩ (Value.ref (hp.objs.size + 1) :: us) _ _ (fun _ _ _ => False) (hr.make Ca [] ((fs.map nm).zip us)) (I2.env0.make Ca [] ((fs.map nm).zip us)) hbt r2 hspx) fun r s' hq' => ?_))
  cases r with
  | error er => exact passL pins σ _ _ er s' I2 hq'
  | ok fl =>
    cases fl with
    | ret u =>
      obtain ⟨v, H2, os2, bare2, un2, hok2, rv, ev, d, ea, ed, hd1, q2⟩ := hq'
      subst ev
      obtain ⟨h2, g2, d2, t2, os'⟩ := s'
      exact ⟨rv, mk_end (raises_own T.exC T.tyC) I1 hsz kk un2 hok2 os2 bare2 ea ed hd1 q2⟩
    | next => exact False.elim hq'
    | brk => exact False.elim hq'
    | cont => exact False.elim hq'
theorem js_raise (h : ExK (Cx.wh X) C k fs) (hc : X.calm = true) (hr : Room (k + 1) X.A) (ha : JK X kws mk) (hx : x = nm C := by decide +kernel) (hg : Gl X x := by rfl)
    (hall : (backToKw pos (keywordEach kws X.env)).all (·.1.isSome) = true := by rfl) (hks : (backToKw pos (keywordEach kws X.env)).filterMap (·.1) = fs.map nm := by rfl) (hdb : (x == ("__debug__" : Str)) = false := by decide)
    (hpl : ((backTo pos (starEach [] X.env)).any (·.1) || (backToKw pos (keywordEach kws X.env)).any (·.1.isNone)) = false := by rfl) :
    JS X (.Raise (some (.Call (.Name x p) [] kws pos)) none pos') (sRaise C fs mk) := fun W tk => by
  obtain ⟨Ca, hC, pm⟩ := pmk_kw (p := p) h hx hr (ha W tk) hg hall hks hdb hpl
  refine PS.weak (ps_raise hc tk pm) fun D σ H ⟨ι, ρ, st, S, sl, p⟩ => ?_
  refine ⟨ι, ρ, st, S, sl, PostO.bind p sl fun ws st1 ι1 H1 vs l1 S1 r1 p1 => ?_⟩
  split at p1
  · rename_i hl
    refine ⟨by rw [← r1.length, hl], fun d hd => ?_⟩
    have hs := same_new (o := .xd ((fs.map nm).zip vs).reverse) hd
    refine p1 ι1 _ σ _ _ (Same.laterH hs) (S1.same hs) ((sl.later l1).later (Same.laterH hs)) ⟨Ca, hC, rfl, .inr ⟨d, _, rfl, upd_same, ?_⟩⟩
    exact paired_rev (repF_zip h.1 (r1.later (Same.laterH hs)))
  · exact p1.elim
/-- raise C("..") -/
@[reducible] def sRaise0 (C : Nat) : MS := fun ρ st => .exc ⟨C, []⟩ ρ st
theorem pmk_one {m : Str} {j : Nat} {p2 : Pos} {Ca : Addr} (T : OexC X.K Ca) (iC : PySem.W.findIn X.K (.ref Ca) "__init__" = some (some (.builtin "ValueError.__init__"))) (hg : Gl X x) (hm : X.mg x = some (.ref Ca)) (hdb : (x == ("__debug__" : Str)) = false) :
    PMk X (.Call (.Name x p) [.Constant (.str m) j p2] [] pos) (fun _ H Q => Q (.ref Ca) none H) := by
  intro pins s σ H Q I h
  obtain ⟨nm', q, N, bs, bm, sn, sub, ab, col, dd, k0, k1, k2, k3, k5, hCo, hbm⟩ := T.cls
  refine wpAny_Call_Name_kw (ld_glob I hg hm ?_ hdb)
  have ha : PA X [.Constant (.str m) j p2] (tCons (tC (.str m)) tNil) := pa_cons pe_str pa_nil
  refine PySem.W.callWith_K (h₀ := X.base) I.ok.mod.kin T.kC (thn (ha.run pos pins s σ H (fun vs H1 => vs = [V.str m] ∧ H = H1) I ⟨rfl, rfl⟩) fun us s1 hh => ?_) (by rfl) (by rfl)
  obtain ⟨vs, H1, I1, r1, ev, eH⟩ := hh
  subst ev
  subst eH
  refine ⟨I1.kIn, ?_⟩
  show wpAny _ _ (call (.ref Ca) us) _ _ _
  obtain ⟨hp, g, dr, tk, os⟩ := s1
  have kk : ∀ b o, hp.get? b = some o → ((hp.push (PySem.W.kdv_tup us)).push (PySem.HandSPX.excO Ca hp.objs.size)).get? b = some o := fun b o e => Heap.get?_push_of_some _ (Heap.get?_push_of_some _ e)
  have hget : ((hp.push (PySem.W.kdv_tup us)).push (PySem.HandSPX.excO Ca hp.objs.size)).get? (hp.objs.size + 1) = some (PySem.HandSPX.excO Ca hp.objs.size) := by heap_get
  have hus : us.length ≤ sizeLine := by
    rw [← Paired.length r1, sizeLine_eq]
    simp
  refine wpAny_call (PySem.AbX.call_ownV F.excBase_ValueError (fun Y => PySem.HandSPX.refsVE_contains Y bm hbm) (I1.kIn _ _ hCo) (PySem.W.looks_findIn I1.kIn iC) (fun self => PySem.W.Looks.of_pure (F.excBase_ValueError.init.bind self)) hus
    (PySem.HandSPX.init_base F.excBase_ValueError (fun Y => PySem.HandSPX.refsVE_contains Y bm hbm) (kk _ _ (I1.kIn _ _ hCo)) hget hus fun h' t1 k hx => ?_))
  refine ⟨rfl, ?_⟩
  refine ⟨hp.objs.size + 1, _, _, ⟨hp, g, dr, tk, os⟩, H, .ref Ca, none, rfl, I1, fun b o e => k b o (Nat.ne_of_lt (Nat.lt_succ_of_lt (Heap.lt_size e))) (kk b o e), ?_, hx, ⟨rfl, rfl⟩, rfl, rfl, I1.hok.fresh (Nat.le_succ _), rfl, I1.bare, raises_own T.exC T.tyC, h⟩
  cases e : hp.get? (hp.objs.size + 1) with
  | none => rfl
  | some o => exact absurd (Heap.lt_size e) (Nat.not_lt.mpr (Nat.le_succ _))
theorem js_raise0 {m : Str} {j : Nat} {p2 : Pos} (h : Ex0 (Cx.wh X) C) (hc : X.calm = true) (hx : x = nm C := by decide +kernel) (hg : Gl X x := by rfl) (hdb : (x == ("__debug__" : Str)) = false := by decide) :
    JS X (.Raise (some (.Call (.Name x p) [.Constant (.str m) j p2] [] pos)) none pos') (sRaise0 C) := fun W tk => by
  obtain ⟨Ca, hC, T, iC⟩ := h
  refine PS.weak (ps_raise hc tk (pmk_one T iC hg (by rw [hx]; exact hC) hdb)) fun D σ H ⟨ι, ρ, st, S, sl, p⟩ => ?_
  exact p ι H σ _ _ (Later.refl _ _) S sl ⟨Ca, hC, rfl, .inl ⟨rfl, rfl⟩⟩
end
end Ab

set_option Elab.async false
set_option linter.all false
set_option maxRecDepth 100000
set_option maxHeartbeats 1000000
/-! Ab: list.count, isinstance, what an except suite reads of its exception. -/
namespace Ab
open PySem PySem.Spec PyProof.Rows L2
/-! ### list.count -/
def countW (y : Val) : List Val → Nat
  | [] => 0
  | x :: r => countW y r + (if eqW x y then 1 else 0)
@[reducible] def vCount : Val → List Val → Store → R Val
  | .ref n, [y], st => match seqAt st n with
    | some xs => if flatW y && xs.all flatW then .ok (.int (countW y xs : Nat)) st else .bad
    | none => .bad
  | _, _, _ => .bad
section
variable {X : Cx}
theorem countW_U {mg : Str → Option Value} {ι : List Addr} {H : Hp} {y : Val} {yv : V} (ry : Rep mg ι H y yv) (hy : flatW y = true) : ∀ {ws : List Val} {vs : List V} {us : List Value}, Reps mg ι H ws vs → Vals vs us → ws.all flatW = true → us.countP (eqU yv) = countW y ws
  | [], _, us, r, rv, _ => by rw [r.of_nil] at rv; cases rv; rfl
  | w :: ws, _, us, r, rv, hf => by
    obtain ⟨v, r', e, h1, h2⟩ := r.of_cons
    subst e
    cases rv with
    | cons q t =>
      rw [List.all_cons, Bool.and_eq_true] at hf
      rw [List.countP_cons, countW_U ry hy h2 t hf.2]
      rw [eqU_of q (flatW_rep h1 hf.1).1, (flatW_rep ry hy).2 h1 hf.1]
      rfl
theorem mt_count' : MtR X "list.count" (rM X.K X.mg vCount) := by
  rintro pins s σ H x xs v us Q I rx rs ⟨ι, st, w, ws, S, r1, r2, p⟩
  unfold vCount at p
  split at p
  · rename_i n y
    obtain ⟨a, e, ha⟩ := r1.ref_inv
    obtain ⟨z, e2, hz⟩ := r2.one
    subst e e2
    split at p
    · rename_i ys es
      obtain ⟨vs, hl, rr⟩ := S.seqL es ha
      split at p
      · rename_i hf
        rw [Bool.and_eq_true] at hf
        cases rx
        obtain ⟨u, rfl, ru⟩ := rs.one
        obtain ⟨its, rv, ⟨⟨cls, dd, data, sl⟩, m, ho, hc, hdn, hd⟩, hlen⟩ := I.list hl
        simp only at hc hd
        subst hc hd
        refine call_meets PySem.F.slot_list_count ⟨_, ho, rfl⟩ PySem.F.entry_list_count (PySem.F.args_list_count_2 _ _)
          (SeqAt.list_countAt a its.toArray m dd sl u (eqU z)) ⟨ho, fun u' hu' => mem_eqAt ru (flatW_rep hz hf.1).1 rv (flats' rr hf.2) u' (by simpa using hu'), ?_⟩
        have ec : its.toArray.toList.countP (eqU z) = countW y ys := countW_U hz hf.1 rr rv hf.2
        refine ⟨.int (countW y ys : Nat), H, I.tok _, ⟨s.toks, ?_⟩, p.okSame S Rep.int⟩
        show Value.int ((its.toArray.toList.countP (eqU z) : Nat) : Int) s.toks = Value.int ((countW y ys : Nat) : Int) s.toks
        rw [ec]
      · exact p.elim
    · exact p.elim
  · exact p.elim
theorem quiet_count (x : Val) (xs : List Val) (st : Store) : Quiet (vCount x xs st) := by
  intro e s' h
  unfold vCount at h
  split at h
  · split at h
    · split at h <;> cases h
    · cases h
  · cases h
theorem je_count {o e : Expr} {mo me : ME} {apos cpos : Pos} (ho : JE X o mo) (he : JE X e me) (hs : starEach [e] X.env = (false, eval e X.env) :: starEach [] X.env := by rfl) (hbase : attributeBase o "count" X.env (eval o X.env) = eval o X.env := by rfl)
    (hfew : ((backTo cpos (starEach [e] X.env)).all (fun x => !x.1) && (backToKw cpos (keywordEach [] X.env)).all (fun x => x.1.isSome)
      && decide ([e].length + ([] : List Keyword).length + (if ([] : List Keyword).isEmpty then 0 else 1) < 30)) = true := by rfl) (hline : (apos.endLine == cpos.line) = true := by rfl) : JE X (.Call (.Attribute o "count" apos) [e] [] cpos) (mBM "list" vCount mo (aCons me aNil)) :=
  je_bm PySem.F.plainAttrs_list PySem.F.slot_list_count PySem.F.type_list_count mt_count' quiet_count ho (ja_cons he ja_nil hs) hbase hfew hline hs rfl
end
/-! ### isinstance of a value: built-in types -/
inductive Ty6 where
  | int | bool | str | list | tuple | dict
  deriving DecidableEq
@[reducible] def Ty6.nm : Ty6 → String
  | .int => "int" | .bool => "bool" | .str => "str" | .list => "list" | .tuple => "tuple" | .dict => "dict"
inductive Kd where
  | non | t (x : Ty6)
@[reducible] def Kd.nm : Kd → String
  | .non => "NoneType" | .t x => x.nm
@[reducible] def kindW (st : Store) : Val → Option Kd
  | .non => some .non
  | .bl _ => some (.t .bool)
  | .int _ => some (.t .int)
  | .str _ => some (.t .str)
  | .tup _ => some (.t .tuple)
  | .ref n => match st[n]? with
    | some (.lst _) => some (.t .list)
    | some (.frz _) => some (.t .list)
    | some (.dct _) => some (.t .dict)
    | _ => none
  | _ => none
@[reducible] def isT : Kd → Ty6 → Bool
  | .non, _ => false
  | .t .bool, .int => true
  | .t x, y => decide (x = y)
theorem kit6 {K : PySem.W.Frag} (k : Kd) (y : Ty6) : PySem.W.kitOne K (.type k.nm) (.type y.nm) = some (isT k y) := by
  refine kit_ty ?_
  cases k with
  | non => cases y <;> decide +kernel
  | t x => cases x <;> cases y <;> decide +kernel
theorem kindW_ty {K : PySem.W.Frag} {mg : Str → Option Value} {ι : List Addr} {st : Store} {H : Hp} (S : Sim K mg ι st H) {w : Val} {v : V} {k : Kd} (h : kindW st w = some k) (r : Rep mg ι H w v) : TyX K H v (.type k.nm) := by
  cases w with
  | non => cases h; rw [r.non_inv]; exact .base .non
  | bl b => cases h; rw [r.bl_inv]; exact .base (.bl b)
  | int i => cases h; rw [r.int_inv]; exact .base (.int i)
  | str i => cases h; rw [r.str_inv]; exact .base (.str i)
  | tup xs => cases h; obtain ⟨a, vs, e, ha, _⟩ := r.tup_inv; rw [e]; exact .base (.tup ha)
  | ref n =>
    obtain ⟨a, e, ha⟩ := r.ref_inv
    rw [e]
    dsimp only [kindW] at h
    split at h
    · rename_i xs q; cases h; obtain ⟨vs, e1, _⟩ := S.at q ha; exact .base (.lst e1)
    · rename_i xs q
      cases h
      obtain ⟨vs, e1, _⟩ := S.at q ha
      rcases e1 with ⟨o, e1⟩ | ⟨o, its, m, e1, e2, _⟩
      · exact .base (.frz e1)
      · exact .kList e1 e2
    · rename_i xs q; cases h; obtain ⟨vs, e1, _⟩ := S.at q ha; exact .base (.dK e1)
    · cases h
  | _ => cases h
/-- isinstance(e, ..) -/
@[reducible] def mIsi (ts : List Ty6) (m : ME) : ME := fun ρ st => (m ρ st).bind fun w st1 => match kindW st1 w with
  | some k => .ok (.bl (ts.any (isT k))) st1
  | none => .bad
section
variable {X : Cx} {e : Expr} {m : ME} {p p2 p3 p4 pos : Pos} {t1 t2 : Ty6} {x1 x2 : Str}
theorem je_isi (h0 : X.mg "isinstance" = none) (h1 : X.mg x1 = none) (he : JE X e m) (t1 : Ty6) (hv1 : bootBuiltins x1 = some (.type t1.nm)) (g0 : Gl X "isinstance" := by rfl) (g1 : Gl X x1 := by rfl) (hn : x1 ≠ "__name__" := by decide) (hd : (x1 == ("__debug__" : Str)) = false := by decide)
    (hs : starEach [e, .Name x1 p2] X.env = (false, eval e X.env) :: starEach [.Name x1 p2] X.env := by rfl) (hpl : (backTo pos (starEach [.Name x1 p2] X.env)).any (·.1) = false := by rfl) :
    JE X (.Call (.Name "isinstance" p) [e, .Name x1 p2] [] pos) (mIsi [t1] m) := fun W tk => by
  refine PE.weak (pe_callB call_isi g0 h0 Boot.isinstance (pa_cons (he W tk) (pa_cons (pe_bltn (v := .ty t1.nm) g1 h1 hv1 rfl hn hd) pa_nil) hs) (by decide) (by decide) hs hpl) fun σ H Q ⟨ι, ρ, st, S, sl, q⟩ => ?_
  refine ⟨ι, ρ, st, S, sl, Post.bind q fun w st1 ι1 H1 v l1 S1 r1 q1 => ?_⟩
  split at q1
  · rename_i k hk
    refine ⟨v, .ty t1.nm, .type k.nm, .type t1.nm, isT k t1, rfl, .ty _, kindW_ty S1 hk r1, kit6 k t1, ?_⟩
    have e1 : [t1].any (isT k) = isT k t1 := by simp
    rw [e1] at q1
    exact q1.okSame S1 Rep.bl
  · exact q1.elim
theorem je_isi2 {j : Nat} (h0 : X.mg "isinstance" = none) (h1 : X.mg x1 = none) (h2 : X.mg x2 = none) (he : JE X e m) (t1 t2 : Ty6) (hv1 : bootBuiltins x1 = some (.type t1.nm)) (hv2 : bootBuiltins x2 = some (.type t2.nm)) (g0 : Gl X "isinstance" := by rfl) (g1 : Gl X x1 := by rfl) (g2 : Gl X x2 := by rfl)
    (hn : x1 ≠ "__name__" := by decide) (hd : (x1 == ("__debug__" : Str)) = false := by decide) (hn2 : x2 ≠ "__name__" := by decide) (hd2 : (x2 == ("__debug__" : Str)) = false := by decide)
    (hs : starEach [e, .Tuple [.Name x1 p2, .Name x2 p3] j p4] X.env = (false, eval e X.env) :: starEach [.Tuple [.Name x1 p2, .Name x2 p3] j p4] X.env := by rfl) (hpl : (backTo pos (starEach [.Tuple [.Name x1 p2, .Name x2 p3] j p4] X.env)).any (·.1) = false := by rfl) :
    JE X (.Call (.Name "isinstance" p) [e, .Tuple [.Name x1 p2, .Name x2 p3] j p4] [] pos) (mIsi [t1, t2] m) := fun W tk => by
  refine PE.weak (pe_callB call_isiT g0 h0 Boot.isinstance (pa_cons (he W tk) (pa_cons (pe_tup (pa_cons (pe_bltn (v := .ty t1.nm) g1 h1 hv1 rfl hn hd) (pa_cons (pe_bltn (v := .ty t2.nm) g2 h2 hv2 rfl hn2 hd2) pa_nil))) pa_nil) hs) (by decide) (by decide) hs hpl) fun σ H Q ⟨ι, ρ, st, S, sl, q⟩ => ?_
  refine ⟨ι, ρ, st, S, sl, Post.bind q fun w st1 ι1 H1 v l1 S1 r1 q1 => ?_⟩
  split at q1
  · rename_i k hk
    refine ⟨by show 2 ≤ sizeLine; rw [sizeLine_eq]; omega, fun tp htp => ?_⟩
    have hsm := same_new (o := .tup [V.ty t1.nm, V.ty t2.nm]) htp
    refine ⟨v, tp, [.ty t1.nm, .ty t2.nm], .type k.nm, [.type t1.nm, .type t2.nm], [t1, t2].any (isT k), rfl, upd_same, .cons (.ty _) (.cons (.ty _) .nil), kindW_ty (S1.same hsm) hk (r1.later (Same.laterH hsm)), ?_, ?_⟩
    · refine kitAny_cons (kit6 k t1) (fun h => kitAny_cons (kit6 k t2) (fun h2 => ?_) fun h2 => ?_) fun h => ?_
      · rw [kitAny_nil]; simp [h, h2]
      · simp [h2]
      · simp [h]
    · exact q1 ι1 _ _ (Same.laterH hsm) (S1.same hsm) Rep.bl
  · exact q1.elim
end
end Ab

set_option Elab.async false
set_option linter.all false
set_option maxRecDepth 100000
set_option maxHeartbeats 1000000
/-! Ab: an except suite's look at its exception; f(lambda: e) where f tries what it got. -/
namespace Ab
open PySem PySem.Spec PyProof.Rows L2
/-! ### in the suite -/
def xOf (d : Addr) : Cell → Option (List (Nat × Val))
  | .xfs d' fs => if d' = d then some fs else none
  | _ => none
def findX (d : Addr) (st : Store) : Option (List (Nat × Val)) := st.reverse.findSome? (xOf d)
theorem findX_at {d : Addr} {st : Store} {fs : List (Nat × Val)} (h : findX d st = some fs) : ∃ n : Nat, st[n]? = some (.xfs d fs) := by
  unfold findX at h
  obtain ⟨c, hc, e⟩ := List.exists_of_findSome?_eq_some h
  obtain ⟨n, hn⟩ := List.mem_iff_getElem?.mp (List.mem_reverse.mp hc)
  cases c with
  | xfs d' fs' =>
    dsimp only [xOf] at e
    split at e
    · rename_i q
      cases e
      subst q
      exact ⟨n, hn⟩
    · cases e
  | _ => cases e
theorem findX_ok {K : PySem.W.Frag} {mg : Str → Option Value} {ι : List Addr} {st : Store} {H : Hp} (S : Sim K mg ι st H) {d : Addr} {fs : List (Nat × Val)} (h : findX d st = some fs) : ∃ vs, H d = some (.xd vs) ∧ RepF mg ι H fs vs := by
  obtain ⟨n, hn⟩ := findX_at h
  have hl : n < ι.length := by rw [S.len]; exact (List.getElem?_eq_some_iff.mp hn).1
  obtain ⟨e, vs, h1, h2⟩ := S.cell n _ _ hn (List.getElem?_eq_getElem hl)
  rw [e] at h1
  exact ⟨vs, h1, h2⟩
def okX (d : Option Addr) (st : Store) : Bool := match d with
  | none => true
  | some dd => (findX dd st).isSome
/-- isinstance(e, c), e at slot i the exception at a -/
@[reducible] def mIsE (i : Nat) (a : Addr) (d : Option Addr) (b : Bool) : ME := fun ρ st => match ρ[i]? with
  | some (some (.adr a')) => if a' = a ∧ okX d st = true then .ok (.bl b) st else .bad
  | _ => .bad
/-- e.f -/
@[reducible] def mXf (i : Nat) (a : Addr) (d : Option Addr) (f : Nat) : ME := fun ρ st => match ρ[i]?, d with
  | some (some (.adr a')), some dd => if a' = a then match findX dd st with
      | some fs => match fs.lookup f with
        | some w => .ok w st
        | none => .bad
      | none => .bad
    else .bad
  | _, _ => .bad
section
variable {X : Cx} {a Da : Addr} {oe : Obj} {d : Option Addr} {pn : List (Addr × Obj)}
def rIsE' (K : PySem.W.Frag) (Da a : Addr) (d : Option Addr) : List V → Hp → VK → Prop := fun xs H Q => ∃ (c : V) (cv : Value) (b : Bool), xs = [.ref a, c] ∧ (∀ dd, d = some dd → ∃ fs, H dd = some (.xd fs)) ∧ (∀ u, RelV c u → u = cv) ∧ PySem.W.kitOne K (.ref Da) cv = some b ∧ Q (.bl b) H
theorem call_isE' (C : ExcC X.K Da) (hz : Zc (.ref Da) d oe) (hf : ∃ vs, oe.data = .fields vs) : CallR (X.suite a ((a, oe) :: pn)) (.builtin "isinstance") (rIsE' X.K Da a d) := by
  intro pins s σ H xs us Q I r h
  obtain ⟨c, cv, b, rfl, hdd, hcv, e, q⟩ := h
  cases r with
  | cons rx rr =>
    cases rr with
    | cons rt rr =>
      cases rr
      cases rx
      have ec := hcv _ rt
      subst ec
      obtain ⟨hget, _⟩ := I.pin (a, oe) (List.mem_append.mpr (.inl List.mem_cons_self))
      obtain ⟨vs, hv⟩ := hf
      have J : ∃ od, PySem.W.InstAt s.heap a oe Da od := by
        cases d with
        | none => exact ⟨none, hget, hz.1, by unfold PySem.W.notCls; rw [hv] <;> rfl, by rw [hz.2]; trivial⟩
        | some dd =>
          obtain ⟨fs, ed⟩ := hdd dd rfl
          have hx : ObjOk X.prog X.w H s.heap dd (.xd fs) := I.hok dd _ ed
          obtain ⟨mA, hns, hr⟩ := hx
          obtain ⟨od, ho, hl⟩ := lookIn_ns hns
          exact ⟨some od, hget, hz.1, by unfold PySem.W.notCls; rw [hv] <;> rfl, by rw [hz.2]; exact ho⟩
      obtain ⟨od, J⟩ := J
      have hcl : (PySem.W.clsIn X.K Da).isSome = true := by
        have := C.hd
        obtain ⟨cd, hc, _⟩ := PySem.W.any_some this
        rw [hc]; rfl
      exact PySem.W.kia_one (PySem.W.kitx_exc hcl C.hg C.hk C.hs C.ha C.hn C.ht C.hm) I.kIn J e (fun z => nomatch z) fun tk => ⟨.bl b, H, I.kept (t' := tk) fun _ _ z => z, rfl, q⟩
theorem je_isE {i : Nat} {x cn : Str} {cv : Value} {b : Bool} {p p2 p3 pos : Pos} (C : ExcC X.K Da) (hz : Zc (.ref Da) d oe) (hf : ∃ vs, oe.data = .fields vs) (h0 : X.mg "isinstance" = none) (hN : X.N[i]? = some x) (hv : Vis X.env.scope x)
    (hc : ∃ v, RelV v cv ∧ (∀ u, RelV v u → u = cv) ∧ PE (X.suite a ((a, oe) :: pn)) (.Name cn p3) (tC v)) (hk : PySem.W.kitOne X.K (.ref Da) cv = some b) (g0 : Gl X "isinstance" := by rfl) (hd : (x == ("__debug__" : Str)) = false := by decide) (hcd : (x == ("__classdict__" : Str)) = false := by decide)
    (hs : starEach [.Name x p2, .Name cn p3] X.env = (false, eval (.Name x p2) X.env) :: starEach [.Name cn p3] X.env := by rfl) (hpl : (backTo pos (starEach [.Name cn p3] X.env)).any (·.1) = false := by rfl) :
    JE (X.suite a ((a, oe) :: pn)) (.Call (.Name "isinstance" p) [.Name x p2, .Name cn p3] [] pos) (mIsE i a d b) := fun W tk => by
  obtain ⟨v, hv1, hv2, he⟩ := hc
  refine PE.weak (pe_callB (X := X.suite a ((a, oe) :: pn)) (call_isE' C hz hf) g0 h0 Boot.isinstance (pa_cons (pe_var (i := i) hN hv hd hcd) (pa_cons he pa_nil) hs) (by decide) (by decide) hs hpl) fun σ H Q ⟨ι, ρ, st, S, sl, q⟩ => ?_
  dsimp only [mIsE] at q
  split at q
  · rename_i a' ea
    split at q
    · rename_i hh
      obtain ⟨e1, e2⟩ := hh
      subst e1
      obtain ⟨v', h1, h2⟩ := sl.2 i _ ea
      rw [Rep] at h2
      subst h2
      refine ⟨_, h1, v, cv, b, rfl, fun dd ed => ?_, hv2, hk, q.okSame S Rep.bl⟩
      subst ed
      unfold okX at e2
      obtain ⟨fs, hfs⟩ := Option.isSome_iff_exists.mp e2
      obtain ⟨vs, h3, _⟩ := findX_ok S hfs
      exact ⟨vs, h3⟩
    · exact q.elim
  · exact q.elim
theorem je_xf {i f : Nat} {x fN : Str} {p pos : Pos} (T : XfC X.K Da) (hno : PySem.W.findIn X.K (.ref Da) (nm f) = some none) (hz : Zc (.ref Da) d oe) (hf : ∃ vs, oe.data = .fields vs) (hN : X.N[i]? = some x) (hv : Vis X.env.scope x) (hfn : f < nmN)
    (hn : fN = nm f := by decide +kernel) (hd : (x == ("__debug__" : Str)) = false := by decide) (hcd : (x == ("__classdict__" : Str)) = false := by decide) (hb : attributeBase (.Name x p) fN X.env (eval (.Name x p) X.env) = eval (.Name x p) X.env := by rfl) :
    JE (X.suite a ((a, oe) :: pn)) (.Attribute (.Name x p) fN pos) (mXf i a d f) := fun W tk => by
  subst hn
  refine PE.weak (pe_xf T hno hz hf (pe_var (i := i) hN hv hd hcd) hb) fun σ H Q ⟨ι, ρ, st, S, sl, q⟩ => ?_
  dsimp only [mXf] at q
  split at q
  · rename_i a' dd ea _
    split at q
    · rename_i e1
      subst e1
      split at q
      · rename_i fs hfs
        split at q
        · rename_i w hw
          obtain ⟨v', h1, h2⟩ := sl.2 i _ ea
          rw [Rep] at h2
          subst h2
          obtain ⟨vs, h3, h4⟩ := findX_ok S hfs
          obtain ⟨v, h5, h6⟩ := h4.lookup hfn hw
          exact ⟨_, h1, rfl, rfl, dd, vs, v, rfl, h3, h5, q.okSame S h6⟩
        · exact q.elim
      · exact q.elim
    · exact q.elim
  · exact q.elim
end
/-! ### f(lambda: e) -/
def outV (x : Exc) : Option (List Val) := match x.cls with
  | 1 => match x.fs.lookup 24, x.fs.lookup 25 with
    | some w, some u => some [.str "row", w, u]
    | _, _ => none
  | 2 => (x.fs.lookup 26).map fun w => [.str "barrel", w]
  | 3 => some [.str "other"]
  | 4 => some [.str "number"]
  | 5 => some [.str "other"]
  | 6 => (x.fs.lookup 24).map fun w => [.str "weather", w]
  | 7 => (x.fs.lookup 25).map fun w => [.str "operation", w]
  | 8 => (x.fs.lookup 27).map fun w => [.str "text", w]
  | 9 => (x.fs.lookup 27).map fun w => [.str "daybook", w]
  | 10 => (x.fs.lookup 28).map fun w => [.str "code", w]
  | _ => none
@[reducible] def mOutcome (mb : ME) : ME := fun ρ st => match mb ρ st with
  | .ok v st1 => .ok (.tup [.str "value", v]) st1
  | .exc x st1 => match outV x with
    | some ws => if ws.all flatW = true then .ok (.tup ws) st1 else .bad
    | none => .bad
  | .bad => .bad
section
variable {mg : Str → Option Value} {ι more : List Addr} {H H' : Hp} {K : PySem.W.Frag}
mutual
theorem Rep.shrink : ∀ {w : Val} {v v' : V}, Rep mg ι H w v → Rep mg (ι ++ more) H' w v' → Rep mg ι H' w v'
  | .non, _, _, _, h => by simpa [Rep] using h
  | .bl _, _, _, _, h => by simpa [Rep] using h
  | .int _, _, _, _, h => by simpa [Rep] using h
  | .str _, _, _, _, h => by simpa [Rep] using h
  | .tup xs, v, v', g, h => by
    rw [Rep] at g h ⊢
    obtain ⟨a, vs, e, ha, hr⟩ := h
    obtain ⟨_, us, _, _, gr⟩ := g
    exact ⟨a, vs, e, ha, Reps.shrink gr hr⟩
  | .ref n, v, v', g, h => by
    rw [Rep] at g h ⊢
    obtain ⟨a, e, ha⟩ := h
    obtain ⟨b, _, hb⟩ := g
    rw [List.getElem?_append_left (List.getElem?_eq_some_iff.mp hb).1] at ha
    exact ⟨a, e, ha⟩
  | .gl x, _, _, _, h => by simpa [Rep] using h
  | .adr x, _, _, _, h => by simpa [Rep] using h
theorem Reps.shrink : ∀ {ws : List Val} {vs vs' : List V}, Reps mg ι H ws vs → Reps mg (ι ++ more) H' ws vs' → Reps mg ι H' ws vs'
  | [], _, _, _, h => by simpa [Reps] using h
  | w :: ws, _, _, g, h => by
    rw [Reps] at g h ⊢
    obtain ⟨v, r, e, h1, h2⟩ := h
    obtain ⟨_, _, _, g1, g2⟩ := g
    exact ⟨v, r, e, Rep.shrink g1 h1, Reps.shrink g2 h2⟩
end
theorem RepF.shrink : ∀ {ws : List (Nat × Val)} {vs vs' : List (Str × V)}, RepF mg ι H ws vs → RepF mg (ι ++ more) H' ws vs' → RepF mg ι H' ws vs'
  | _, _, _, .nil, .nil => .nil
  | _, _, _, .cons g gs, .cons h hs => .cons ⟨h.1, h.2.1, Rep.shrink g.2.2 h.2.2⟩ (RepF.shrink gs hs)
theorem RepK.shrink : ∀ {ws : List (Key × Val)} {vs vs' : List (Key × V)}, RepK mg ι H ws vs → RepK mg (ι ++ more) H' ws vs' → RepK mg ι H' ws vs'
  | _, _, _, .nil, .nil => .nil
  | _, _, _, .cons g gs, .cons h hs => .cons ⟨h.1, Rep.shrink g.2 h.2⟩ (RepK.shrink gs hs)
theorem CellOk.shrink {a : Addr} {c : Cell} (g : CellOk K mg ι H a c) (h : CellOk K mg (ι ++ more) H' a c) : CellOk K mg ι H' a c := by
  cases c with
  | lst xs => obtain ⟨vs, e, r⟩ := h; obtain ⟨_, _, r'⟩ := g; exact ⟨vs, e, r'.shrink r⟩
  | frz xs => obtain ⟨vs, e, r⟩ := h; obtain ⟨_, _, r'⟩ := g; exact ⟨vs, e, r'.shrink r⟩
  | ins C fs => obtain ⟨Ca, dx, vs, e, e2, r⟩ := h; obtain ⟨_, _, _, _, _, r'⟩ := g; exact ⟨Ca, dx, vs, e, e2, RepF.shrink r' r⟩
  | dct kvs => obtain ⟨vs, e, r⟩ := h; obtain ⟨_, _, r'⟩ := g; exact ⟨vs, e, RepK.shrink r' r⟩
  | fdc kvs => obtain ⟨od, vs, e, r⟩ := h; obtain ⟨_, _, _, r'⟩ := g; exact ⟨od, vs, e, RepK.shrink r' r⟩
  | xfs d fs => obtain ⟨ed, vs, e, r⟩ := h; obtain ⟨_, _, _, r'⟩ := g; exact ⟨ed, vs, e, RepF.shrink r' r⟩
theorem Sim.shrink {st junk : Store} (S0 : Sim K mg ι st H) (S : Sim K mg (ι ++ more) (st ++ junk) H') : Sim K mg ι st H' := by
  have get1 : ∀ (n : Nat) (a : Addr), ι[n]? = some a → (ι ++ more)[n]? = some a := fun n a h => by rw [List.getElem?_append_left (List.getElem?_eq_some_iff.mp h).1]; exact h
  have get2 : ∀ (n : Nat) (c : Cell), st[n]? = some c → (st ++ junk)[n]? = some c := fun n a h => by rw [List.getElem?_append_left (List.getElem?_eq_some_iff.mp h).1]; exact h
  exact ⟨S0.len, fun n m a c d h1 h2 h3 h4 => S.inj n m a c d (get1 _ _ h1) (get1 _ _ h2) (get2 _ _ h3) (get2 _ _ h4), fun n c a h1 h2 => (S0.cell n c a h1 h2).shrink (S.cell n c a (get2 _ _ h1) (get1 _ _ h2)), S.tabs⟩
theorem Rep.flat {w : Val} {v : V} (hf : flatW w = true) {ι1 ι2 : List Addr} {H1 H2 : Hp} (h : Rep mg ι1 H1 w v) : Rep mg ι2 H2 w v := by
  cases w with
  | non => simpa [Rep] using h
  | bl _ => simpa [Rep] using h
  | int _ => simpa [Rep] using h
  | str _ => simpa [Rep] using h
  | _ => cases hf
theorem Reps.flat {ι1 ι2 : List Addr} {H1 H2 : Hp} : ∀ {ws : List Val} {vs : List V}, ws.all flatW = true → Reps mg ι1 H1 ws vs → Reps mg ι2 H2 ws vs
  | [], _, _, h => by simpa [Reps] using h
  | w :: ws, _, hf, h => by
    rw [List.all_cons, Bool.and_eq_true] at hf
    obtain ⟨v, r, e, h1, h2⟩ := h.of_cons
    subst e
    exact .cons (h1.flat hf.1) (Reps.flat hf.2 h2)
theorem Sim.addX {st : Store} {dd : Addr} {fs : List (Nat × Val)} {vs : List (Str × V)} (S : Sim K mg ι st H) (hH : H dd = some (.xd vs)) (r : RepF mg ι H fs vs) : Sim K mg (ι ++ [dd]) (st ++ [.xfs dd fs]) H := by
  have L : Later ι H (ι ++ [dd]) H := ⟨⟨[dd], rfl⟩, fun b xs e => e, fun _ _ _ e => e⟩
  have old : ∀ (n : Nat) (a : Addr), (ι ++ [dd])[n]? = some a → n < st.length → ι[n]? = some a := fun n a e hl => by
    rw [List.getElem?_append_left (by rw [S.len]; exact hl)] at e; exact e
  have last : ∀ (n : Nat) (a : Addr), (ι ++ [dd])[n]? = some a → n = st.length → a = dd := fun n a e hl => by
    rw [hl, ← S.len, List.getElem?_append_right (Nat.le_refl _)] at e
    simpa using e.symm
  have split : ∀ (n : Nat) (d : Cell), (st ++ [Cell.xfs dd fs])[n]? = some d → (st[n]? = some d ∧ n < st.length) ∨ (n = st.length ∧ d = .xfs dd fs) := fun n d e => by
    by_cases hl : n < st.length
    · rw [List.getElem?_append_left hl] at e; exact .inl ⟨e, hl⟩
    · rw [List.getElem?_append_right (by omega)] at e
      have : n - st.length = 0 := by
        by_cases q : n - st.length = 0
        · exact q
        · rw [List.getElem?_eq_none (by simp; omega)] at e; cases e
      rw [this] at e
      simp at e
      exact .inr ⟨by omega, e.symm⟩
  refine ⟨by simp [S.len], fun n m a d e h1 h2 h3 h4 l1 l2 => ?_, fun n d a h1 h2 => ?_, S.tabs⟩
  · rcases split n d h3 with ⟨q1, z1⟩ | ⟨q1, z1⟩ <;> rcases split m e h4 with ⟨q2, z2⟩ | ⟨q2, z2⟩
    · exact S.inj n m a d e (old n a h1 z1) (old m a h2 z2) q1 q2 l1 l2
    · subst z2; cases l2
    · subst z1; cases l1
    · omega
  · rcases split n d h1 with ⟨q1, z1⟩ | ⟨q1, z1⟩
    · exact (S.cell n d a q1 (old n a h2 z1)).keep L fun o e => e
    · rw [last n a h2 q1, z1]
      exact ⟨rfl, vs, hH, r.later L⟩
/-- what the try makes of the lambda's reading -/
def TTout (K : PySem.W.Frag) (mg : Str → Option Value) : (XK → Hp → VK → Prop) → Hp → VK → Prop := fun tl H Q =>
  tl (fun cls d H' => ∃ ι st x ws, Sim K mg ι st H' ∧ ExcRep mg ι H' x cls d ∧ outV x = some ws ∧ ws.all flatW = true ∧ ∀ ι' H'' v, Later ι H' ι' H'' → Sim K mg ι' st H'' → Rep mg ι' H'' (.tup ws) v → Q v H'') H
    (fun v H' => ([.str "value", v] : List V).length ≤ sizeLine ∧ ∀ p, H' p = none → Q (.ref p) (upd H' p (.tup [.str "value", v])))
/-- the classes that may come -/
def excs : List Nat := [1, 2, 3, 4, 5, 6, 7, 8, 9, 10]
theorem outV_cls {x : Exc} {ws : List Val} (h : outV x = some ws) : x.cls ∈ excs := by
  unfold outV at h
  split at h <;> first | (rename_i e; rw [e]; decide) | cases h
@[reducible] def xst (x : Exc) : Option Addr → Store
  | none => []
  | some dd => [.xfs dd x.fs]
end
theorem takes_len {X : Cx} {W : WX} (t : Takes X W) : Takes X (fun c d σ H => σ.length = X.N.length → W c d σ H) := fun u s' ⟨a, B, sI, pins, σ, H, cls, d, e, I, nb, up, sky, na, os, ag, w⟩ =>
  t u s' ⟨a, B, sI, pins, σ, H, cls, d, e, I, nb, up, sky, na, os, ag, w I.len⟩
section
variable {X : Cx} {x a e n3 n4 : Str} {st : Stmt} {g RA : Addr} {b₀ : Stmt} {suite : List Stmt} {mS : Addr → Option Addr → Nat → MS} {j jj : Nat} {p1 p2 p3 p4 p5 p6 p7 p8 : Pos} {cdg : Value} {q : Str} {k : Nat}
theorem out_gives (S : FnScope [a, e, n3, n4] [a] (defScope st)) (hb : defBody st = [.Try [.Return (some (.Tuple [.Constant (.str "value") j p1, .Call (.Name a p2) [] [] p3] jj p4)) p5] [.ExceptHandler (some (.Name "RowError" p6)) (some e) (b₀ :: suite) p7] [] [] p8])
    (hln : (defScope st).names.lookup e = some .local) (hge : (defScope st).names.lookup ("RowError" : Str) = some NameKind.globalImplicit) (hme : X.mg "RowError" = some (.ref RA)) (hroom : ∀ s : Shared, Room k (X.A.deeper (envOfC x (defScope st) s.heap.objs.size g cdg)))
    (hsuite : ∀ (A : Around) (outer : List Env) (s : Shared) (H : Hp), Room k (A.deeper (envOfC x (defScope st) s.heap.objs.size g cdg)) → ∀ (aa : Addr) (oe : Obj) (Dn : Nat) (Da : Addr) (d : Option Addr) (pn : List (Addr × Obj)), Dn ∈ excs → X.mg (nm Dn) = some (.ref Da) → Zc (.ref Da) d oe → (∃ vs, oe.data = .fields vs) →
      JSs ((cxOf C8.CX0 X.prog X.w X.K X.mg X.base [a, e, n3, n4] x (defScope st) g cdg A outer s H C8.E0).nox.suite aa ((aa, oe) :: pn)) (b₀ :: suite) (mS aa d Dn))
    (hex : ∀ Dn ∈ excs, ∀ Da, X.mg (nm Dn) = some (.ref Da) → PySem.W.exmOne X.K (.ref Da) (.ref RA) = some true)
    (hrun : ∀ (y : Exc) (ws : List Val), outV y = some ws → ws.all flatW = true → ∀ (aa : Addr) (d : Option Addr) (st1 : Store), (y.fs = [] ∧ d = none ∨ ∃ dd, d = some dd) → ∃ junk, mS aa d y.cls [none, some (.adr aa), none, none] (st1 ++ xst y d) = .ret (.tup ws) (st1 ++ junk)) :
    LamX.GivesTo X [a, e, n3, n4] x (defScope st) g cdg (defBody st) a q (TTout X.K X.mg) := by
  intro f c' s H Q tl act hc h
  rw [hb]
  have hgl : Gl (cxOf C8.CX0 X.prog X.w X.K X.mg X.base [a, e, n3, n4] x (defScope st) g cdg X.A X.stack s H C8.E0).nox "RowError" := hge
  refine ⟨_, pss_one (ps_try_as (X := (cxOf C8.CX0 X.prog X.w X.K X.mg X.base [a, e, n3, n4] x (defScope st) g cdg X.A X.stack s H C8.E0).nox) (i := 1) (c := .ref RA)
      (tb := fun W D σ H => ∃ Ech : XK, (∀ cls d σ' H', Ech cls d H' → (σ'.length = ([a, e, n3, n4] : List Str).length → W cls d σ' H')) ∧ σ[0]? = some (some (.ref f)) ∧ H c' = some (LamX.CodeO c' q) ∧ tl Ech H (fun v H' => ([.str "value", v] : List V).length ≤ sizeLine ∧ ∀ p, H' p = none → D.rt (.ref p) (upd H' p (.tup [.str "value", v]))))
      (ts := fun aa cls d D σ H => ∃ Dn Da, Dn ∈ excs ∧ X.mg (nm Dn) = some (.ref Da) ∧ cls = .ref Da ∧ rdS X.K X.mg (fun _ _ _ _ => False) (mS aa d Dn) D σ H)
      (Wout := fun _ _ _ _ => False)
      rfl rfl S.nd rfl hln ⟨hgl, by decide, .inl hme⟩ LamX.takes0 (fun W pn xe tk _ => ?_) (fun aa oe cls d pn hz hf => ?_)), ?_⟩
  · refine ⟨fun pins s' σ H' D I h' => ?_⟩
    obtain ⟨Ech, hW, h1, h2, h3⟩ := h'
    have hp := act _ pn xe Ech p2 p3 (takes_len tk) hW
    have hq := pss_one (ps_ret (pos := p5) (pe_tup (x1 := jj) (pos := p4) (pa_cons (pe_str (x := "value") (j := j) (pos := p1)) (pa_cons hp pa_nil))))
    exact hq.run pins s' σ H' D I ⟨h1, h2, h3⟩
  · refine ⟨fun pins s' σ H' D I h' => ?_⟩
    obtain ⟨Dn, Da, m1, m2, rfl, h3⟩ := h'
    exact (hsuite X.A X.stack s H (hroom s) aa oe Dn Da d pn m1 m2 hz hf (fun _ _ _ _ => False) LamX.takes0).run pins s' σ H' D I h3
  · refine ⟨_, ?_, rfl, hc, h⟩
    rintro cls d σ' H' ⟨ι, st1, y, ws, S1, er, hout, hfl, fin⟩ hlen
    have hcls := outV_cls hout
    obtain ⟨Da, hD, rfl, hfd⟩ := er
    refine ⟨true, hex _ hcls Da hD, fun _ aa na => ⟨y.cls, Da, hcls, hD, rfl, ?_⟩, fun z => nomatch z⟩
    have hcase : y.fs = [] ∧ d = none ∨ ∃ dd, d = some dd := hfd.elim .inl fun ⟨dd, vs, e1, _⟩ => .inr ⟨dd, e1⟩
    obtain ⟨junk, hjunk⟩ := hrun y ws hout hfl aa d st1 hcase
    have start : ∃ more, Sim X.K X.mg (ι ++ more) (st1 ++ xst y d) H' := by
      rcases hfd with ⟨e1, e2⟩ | ⟨dd, vs, e1, e2, e3⟩
      · subst e2
        exact ⟨[], by simpa [xst] using S1⟩
      · subst e1
        exact ⟨[dd], S1.addX e2 e3⟩
    obtain ⟨more, S2⟩ := start
    refine ⟨ι ++ more, [none, some (.adr aa), none, none], st1 ++ xst y d, S2, ⟨by simp [hlen], fun i w ei => ?_⟩, ?_⟩
    · match i, ei with
      | 0, ei => simp at ei
      | 1, ei =>
        simp at ei
        subst ei
        refine ⟨.ref aa, ?_, by rw [Rep]⟩
        rw [List.getElem?_set]
        simp
        have : ([a, e, n3, n4] : List Str).length = 4 := rfl
        omega
      | 2, ei => simp at ei
      | 3, ei => simp at ei
      | n + 4, ei => simp at ei
    · rw [hjunk]
      intro ι' H'' v l S3 r
      obtain ⟨m2, e2⟩ := l.pre
      rw [e2, List.append_assoc] at S3
      have S4 := Sim.shrink S1 S3
      refine fin ι H'' v ⟨⟨[], by simp⟩, l.tups, l.frzs⟩ S4 ?_
      obtain ⟨b, vs, e3, h3, h4⟩ := r.tup_inv
      subst e3
      rw [Rep]
      exact ⟨b, vs, rfl, h3, h4.flat hfl⟩
/-- x(lambda: body) -/
theorem je_outcome {T : Wh} {c P : Addr} {params : Arguments} {body : Expr} {scope : Scope} {mb : ME} {fd : FuncData} {p lpos pos : Pos} (hT : Cx.wh X = T) (F : Fun T.K x x st g fd) (S : FnScope [a, e, n3, n4] [a] (defScope st))
    (hb0 : ∀ (kV doc pm : Value) (an : Option Addr) (cdv ct : Value) (us : List Value), us.length = 1 → bindArgs (PySem.W.fnOf x x (defArgs st) (defBody st) (defScope st) .none kV doc pm an cdv ct) ⟨us, []⟩ = pure (([a] : List Str).zip us))
    (hG : ∀ cdg, (∀ s : Shared, Room k (X.A.deeper (envOfC x (defScope st) s.heap.objs.size g cdg))) → LamX.GivesTo X [a, e, n3, n4] x (defScope st) g cdg (defBody st) a (X.env.qual ++ "<lambda>") (TTout X.K X.mg))
    (hm : X.mg x = some (.ref g)) (hg : Gl X x) (TB : LamX.TabB X.base X.mg c P) (hcode : X.env.code = .ref c) (hmT : (P, X.env.qual ++ "<lambda>") ∈ tabsOf X.K X.mg) (hu : ∀ p ∈ tabsOf X.K X.mg, p.1 = P → p.2 = X.env.qual ++ "<lambda>")
    (hr : Room (k + 2) X.A) (L : LamX.LamS X.env.scope scope) (hdef : defaultsOf params X.env = ([], []))
    (hbind : ∀ (q : Str) (cl : List (Str × Addr)) (pm cv ctv : Value), bindArgs (PySem.W.kla_fn "<lambda>" q params body scope cl pm cv ctv) ⟨[], []⟩ = pure [])
    (hbody : ∀ (A : Around) (outer : List Env) (s : Shared) (H : Hp) (E : XK) (f c' : Addr), Room k (A.deeper (LamX.lamEnv X scope s.heap.objs.size f c')) → JE (LamX.lamCx X A outer s H E scope f c') body mb)
    (hdb : (x == ("__debug__" : Str)) = false := by decide) (hd : (a == ("__debug__" : Str)) = false := by decide) (hcd : (a == ("__classdict__" : Str)) = false := by decide) :
    JE X (.Call (.Name x p) [.Lambda params body scope lpos] [] pos) (mOutcome mb) := fun W tk => by
  subst hT
  obtain ⟨oc, od, kV, doc, pm, an, cdv, ct, osl, rfl, lk, hcd'⟩ := F.ex
  have vis : Vis (defScope st) a := (S.par a List.mem_cons_self).elim .inl fun z => .inr (.inl z)
  refine PE.weak (LamX.pe_lamcall (T := tabsOf X.K X.mg) (TT := TTout X.K X.mg) (t := fun E => rdG X.K X.mg (rel1 X.mg) (fun cls d _ H => E cls d H) mb) (k := k) hg hm F.kp lk hcd' (F.binds (ps := [a]) fun kV doc pm an cdv ct us hl => hb0 kV doc pm an cdv ct us hl) S rfl vis
      (hG cdv fun s => (hr.mono (by omega)).deeper _) TB hcode hmT hu hr L hdef hbind (fun A outer s H E f c' hr2 => ?_) hdb hd hcd) fun σ H Q ⟨ι, ρ, st0, S0, sl, q⟩ => ?_
  · exact hbody A outer s H E f c' hr2 (fun cls d _ H => E cls d H) (takes_of rfl rfl rfl rfl)
  · refine ⟨S0.tabs, fun H1 eN T1 => ?_⟩
    have L1 : Later ι H ι H1 := ⟨⟨[], by simp⟩, fun b xs e => eN b _ e (fun ps z => by cases z), fun b ob ks e => eN b _ e fun ps z => by cases z⟩
    have S1 : Sim X.K X.mg ι st0 H1 := by
      refine ⟨S0.len, S0.inj, fun n c a h1 h2 => ?_, T1⟩
      have z := S0.cell n c a h1 h2
      cases c with
      | lst xs => obtain ⟨vs, e, r⟩ := z; exact ⟨vs, eN _ _ e (fun ps z => by cases z), r.later L1⟩
      | frz xs =>
        obtain ⟨vs, e, r⟩ := z
        refine ⟨vs, ?_, r.later L1⟩
        rcases e with ⟨o, e⟩ | e
        · exact .inl ⟨o, eN _ _ e (fun ps z => by cases z)⟩
        · exact .inr e
      | ins C fs => obtain ⟨Ca, dx, vs, e1, e2, r⟩ := z; exact ⟨Ca, dx, vs, e1, eN _ _ e2 (fun ps z => by cases z), r.later L1⟩
      | dct kvs => obtain ⟨vs, e, r⟩ := z; exact ⟨vs, eN _ _ e (fun ps z => by cases z), r.later L1⟩
      | fdc kvs => obtain ⟨od, vs, e, r⟩ := z; exact ⟨od, vs, eN _ _ e (fun ps z => by cases z), r.later L1⟩
      | xfs d fs => obtain ⟨e0, vs, e, r⟩ := z; exact ⟨e0, vs, eN _ _ e (fun ps z => by cases z), r.later L1⟩
    refine ⟨ι, ρ, st0, S1, sl.later L1, ?_⟩
    have q := Post.later q L1
    dsimp only [mOutcome] at q
    cases h : mb ρ st0 with
    | ok v st1 =>
      rw [h] at q
      intro ι' H' b l S2 r
      refine ⟨by show 2 ≤ sizeLine; rw [sizeLine_eq]; omega, fun p hp => ?_⟩
      exact (Post.later q l).newTup S2 (.cons Rep.str (.cons r .nil)) hp
    | exc y st1 =>
      rw [h] at q
      dsimp only at q
      intro ι' H' c d l S2 er
      split at q
      · rename_i ws hws
        split at q
        · rename_i hfl
          exact ⟨ι', st1, y, ws, S2, er, hws, hfl, fun ι'' H'' v l2 S3 r => q ι'' H'' v (l.trans l2) S3 r⟩
        · exact q.elim
      · exact q.elim
    | bad => rw [h] at q; exact q.elim
end
end Ab

set_option Elab.async false
set_option linter.all false
set_option maxRecDepth 100000
set_option maxHeartbeats 1000000
/-! Ab: *args, starred arguments, own + and len, class constants. -/
namespace Ab
open PySem PySem.Spec PyProof.Rows L2
/-! ### a def by positional values (perhaps *rest) -/
def FnMR (T : Wh) (k : Nat) (f : Addr) (mf : MF) : Prop := PySem.W.keepIn T.K (.ref f) = true ∧ FnR T.P T.w T.K T.mg T.base (L2.CX T.P T.w) k f (spM T.K T.mg mf)
def HasIR (T : Wh) (C : Nat) (k : Nat) (mf : MF) : Prop := ∃ Ca f, T.mg (nm C) = some (.ref Ca) ∧ Mk T.K Ca f ∧ FnMR T k f mf
/-- the def with n parameters, *rest and m further names -/
def defStarM (n m : Nat) (body : MS) : MF := fun ws st => if n ≤ ws.length ∧ ws.length ≤ 1000 then (body ((ws.take n ++ [Val.tup (ws.drop n)]).map some ++ List.replicate m none) st).fin else .bad
theorem defStarM_eq {n m : Nat} {body : MS} {ws : List Val} {st : Store} (h : n ≤ ws.length ∧ ws.length ≤ 1000) : defStarM n m body ws st = (body ((ws.take n ++ [Val.tup (ws.drop n)]).map some ++ List.replicate m none) st).fin := if_pos h
theorem fnMR_of {T : Wh} {x qual : Str} {st : Stmt} {f : Addr} {fd : FuncData} {N ps : List Str} {pv : Str} {k n m : Nat} {body : MS} (F : Fun T.K x qual st f fd) (S : FnScope N (ps ++ [pv]) (defScope st)) (hn : ps.length = n) (hm : N.length = n + 1 + m)
    (hb : ∀ (kV doc pm : Value) (an : Option Addr) (cdv ct : Value) (us rest : List Value), us.length = ps.length → bindArgs (PySem.W.fnOf x qual (defArgs st) (defBody st) (defScope st) .none kV doc pm an cdv ct) ⟨us ++ rest, []⟩ = (newTuple rest >>= fun t => pure (ps.zip us ++ [(pv, t)])))
    (h : ∀ X : Cx, Cx.wh X = T → X.N = N → X.calm = true → X.env.scope = defScope st → (X.stack = X.env :: X.outer) → (X.env.frame = some X.env.locals) → (X.fn = fun _ => true) → Room k X.A → PassesOwn (model X.prog X.w) X.A X.env X.xe → JSs X (defBody st) body) :
    FnMR T (k + 1) f (defStarM n m body) := by
  obtain ⟨oc, od, kV, doc, pm, an, cdv, ct, osl, rfl, lk, hcd⟩ := F.ex
  refine ⟨F.kp, FnR.imp (StX.fn_star (ps := ps) (pv := pv) (sp := fun vs H Q E => ∃ ι ws st', Sim T.K T.mg ι st' H ∧ Reps T.mg ι H ws vs ∧ ws.length = n + 1 ∧ Post T.K T.mg (rel1 T.mg) ι H Q E (body (ws.map some ++ List.replicate m none) st').fin) lk hcd S StX.cxUp (hb kV doc pm an cdv ct) fun A outer s H vs Q E hr hsp => ?_) fun vs H Q E hsp => ?_⟩
  · obtain ⟨ι, ws, st', S', r, hl, p⟩ := hsp
    have j := h (cxOf (L2.CX T.P T.w) T.P T.w T.K T.mg T.base N qual (defScope st) f cdv A outer s H E) rfl rfl rfl rfl rfl rfl rfl hr (passes_of rfl)
    refine ⟨_, j (fun cls d _ H => E cls d H) (takes_of rfl rfl rfl rfl), ι, _, st', S', slots_start r (by rw [hl]; exact hm), ?_⟩
    show PostO T.K T.mg _ ι H _ (body (ws.map some ++ List.replicate m none) st')
    cases q : body (ws.map some ++ List.replicate m none) st' with
    | nx ρ s1 => rw [q] at p; exact fun ι1 H1 σ1 l S1 sl => p ι1 H1 _ l S1 Rep.non
    | ret w s1 => rw [q] at p; exact p
    | exc x ρ s1 => rw [q] at p; exact fun ι1 H1 σ1 c d l S1 sl r => p ι1 H1 c d l S1 r
    | brk ρ s1 => rw [q] at p; exact p.elim
    | ct ρ s1 => rw [q] at p; exact p.elim
    | bad => rw [q] at p; exact p.elim
  · obtain ⟨ι, ws, st', S', r, p⟩ := hsp
    unfold defStarM at p
    split at p
    · rename_i hl
      have lv := r.length
      have r1 : Reps T.mg ι H (ws.take n) (vs.take n) := r.take n
      have r2 : Reps T.mg ι H (ws.drop n) (vs.drop n) := r.drop n
      refine ⟨vs.take n, vs.drop n, (List.take_append_drop n vs).symm, by rw [List.length_take, hn]; omega, by rw [List.length_drop, sizeLine_eq]; omega, fun q hq => ?_⟩
      have hs := same_new (o := .tup (vs.drop n)) hq
      refine ⟨ι, _, st', S'.same hs, (r1.later (Same.laterH hs)).append (.cons (Rep.newTup hq r2) .nil), by rw [List.length_append, List.length_take]; simp; omega, Post.later p (Same.laterH hs)⟩
    · exact p.elim

/-! ### starred arguments -/
def itemsW (st : Store) : Val → Option (List Val)
  | .tup xs => some xs
  | .ref n => seqAt st n
  | _ => none
@[reducible] def aStar (m : ME) (t : MA) : MA := fun ρ st => (m ρ st).bind fun w st1 => match itemsW st1 w with
  | some xs => (t ρ st1).bind fun ys st2 => .ok (xs ++ ys) st2
  | none => .bad
section
variable {X : Cx} {k : Nat} {x : Str} {e : Expr} {es : List Expr} {m : ME} {t : MA} {p pos : Pos} {mf : MF} {C : Nat}
theorem ja_star (he : JE X e m) (hr : JA X es t) (hs : starEach (.Starred e p :: es) X.env = (true, eval e X.env) :: starEach es X.env := by rfl) : JA X (.Starred e p :: es) (aStar m t) := fun W tk => by
  refine PA.weak (StX.pa_star (he W tk) (hr W tk) hs) fun σ H Q ⟨ι, ρ, st, S, sl, q⟩ => ?_
  refine ⟨ι, ρ, st, S, sl, Post.bind q fun w st1 ι1 H1 v l1 S1 r1 q1 => ?_⟩
  have sl1 := sl.later l1
  split at q1
  · rename_i xs hxs
    have fin : ∀ vs, Reps X.mg ι1 H1 xs vs → rdG X.K X.mg (relL X.mg) W t σ H1 (fun ys H2 => Q (vs ++ ys) H2) := fun vs rv =>
      ⟨ι1, ρ, st1, S1, sl1, Post.bind q1 fun ys st2 ι2 H2 us l2 S2 r2 q2 => q2.okSame S2 ((rv.later l2).append r2)⟩
    cases w with
    | tup zs =>
      cases hxs
      obtain ⟨a, vs, e1, ha, rv⟩ := Rep.tup_inv r1
      exact ⟨a, vs, e1, .inl (SqT.of ha), fin vs rv⟩
    | ref n =>
      obtain ⟨a, e1, ha⟩ := Rep.ref_inv r1
      obtain ⟨vs, hl, rr⟩ := S1.seqL hxs ha
      exact ⟨a, vs, e1, .inr hl, fin vs rr⟩
    | _ => cases hxs
  · exact q1.elim
theorem run_makeRS {CX : CXT} {pins : List (Addr × Obj)} {σ : L2.St} {H : Hp} {s : Shared} {Q : VK} {us : List Value} {vs : List V} {Ca f : Addr} {sp : Sp} {E : XK} (M : Mk X.K Ca f) (F : FnR X.prog X.w X.K X.mg X.base CX k f sp) (hr : Room (k + 1) X.A) (hx : PassesAt CX X σ E) (I : Inv X pins σ H s) (r : Vals vs us)
    (h : ∀ x dx, H x = Option.none → H dx = Option.none → dx ≠ x → sp (V.ref x :: vs) (upd (upd H dx (.own x)) x (.ins Ca dx [])) (fun v H2 => v = .non ∧ Q (.ref x) H2) E) :
    wpAny (model X.prog X.w) X.A (call (.ref Ca) us) (EP X pins σ Q) X.xe s := by
  have hq := h (s.heap.objs.size + 1) s.heap.objs.size (I.hok.fresh (Nat.le_succ _)) (I.hok.fresh (Nat.le_refl _)) (Nat.ne_of_lt (Nat.lt_succ_self _))
  have I2 := Inv.made (C := Ca) I
  have r2 : Vals (V.ref (s.heap.objs.size + 1) :: vs) (Value.ref (s.heap.objs.size + 1) :: us) := .cons rfl r
  refine wpAny_call (make_map (f := f) I.kIn M.makes M.init (beq_iff_eq.mp M.fn) (codeAny_mono (F _ X.stack _ _ (Value.ref (s.heap.objs.size + 1) :: us) _ _ E (hr.make Ca us []) (I2.env0.make Ca us []) r2 hq) fun r s' hq' => ?_))
  cases r with
  | error e => exact hx pins _ _ e s' I2 hq'
  | ok fl =>
    cases fl with
    | ret u =>
      obtain ⟨v, H', I3, rv, ev, q3⟩ := I2.after hq'
      subst ev
      exact ⟨rv, ⟨V.ref (s.heap.objs.size + 1), H', I3, rfl, q3⟩⟩
    | next => exact False.elim hq'
    | brk => exact False.elim hq'
    | cont => exact False.elim hq'
theorem make_read {W : WX} {σ : L2.St} {Q : VK} {ι1 : List Addr} {H1 : Hp} {st1 : Store} {ws : List Val} {vs : List V} {Ca : Addr} (hC : X.mg (nm C) = some (.ref Ca)) (S1 : Sim X.K X.mg ι1 st1 H1) (r1 : Reps X.mg ι1 H1 ws vs)
    (p1 : Post X.K X.mg (rel1 X.mg) ι1 H1 Q (fun c d H' => W c d σ H') (vMake C mf ws st1)) : ∀ x dx, H1 x = Option.none → H1 dx = Option.none → dx ≠ x → spM X.K X.mg mf (V.ref x :: vs) (upd (upd H1 dx (.own x)) x (.ins Ca dx [])) (fun v H2 => v = .non ∧ Q (.ref x) H2) (WE W σ) := by
  intro q dx hq hdx ne
  obtain ⟨S2, l2⟩ := make_sim S1 hC hq hdx ne
  refine ⟨_, _, _, S2, Reps.cons (Rep.ref (n := st1.length) (a := q) ?_) (Reps.later l2 r1), Post.bind (Post.later p1 l2) fun w st3 ι3 H3 v l3 S3 r3 p3 => ?_⟩
  · rw [← S1.len, List.getElem?_append_right (Nat.le_refl _)]; simp
  · cases w with
    | non =>
      refine ⟨Rep.non_inv r3, p3.okSame S3 (Rep.ref ?_)⟩
      refine l3.get ?_
      rw [← S1.len, List.getElem?_append_right (Nat.le_refl _)]; simp
    | _ => exact p3.elim
/-- C(e, ..), C's __init__ with *rest -/
theorem je_makeR (h : HasIR (Cx.wh X) C k mf) (hx : x = nm C) (hr : Room (k + 1) X.A) (ha : JA X (e :: es) t) (hg : Gl X x := by rfl) (hdb : (x == ("__debug__" : Str)) = false := by decide) (he : starEach (e :: es) X.env = (false, eval e X.env) :: starEach es X.env := by rfl)
    (hpl : (backTo pos (starEach es X.env)).any (·.1) = false := by rfl) : JE X (.Call (.Name x p) (e :: es) [] pos) (mApp (vMake C mf) t) := fun W tk => by
  obtain ⟨Ca, f, hC, M, hk, F⟩ := h
  refine ⟨fun pins s σ H Q I ⟨ι, ρ, st, S, sl, q⟩ => ?_⟩
  refine wpAny_Call_Name_kw (ld_glob I hg (by rw [hx]; exact hC) ?_ hdb)
  refine PySem.W.callWith_K (h₀ := X.base) I.ok.mod.kin M.kp (thn ((ha W tk).run pos pins s σ H (fun vs H1 => ∀ y dx, H1 y = Option.none → H1 dx = Option.none → dx ≠ y → spM X.K X.mg mf (V.ref y :: vs) (upd (upd H1 dx (.own y)) y (.ins Ca dx [])) (fun v H2 => v = .non ∧ Q (.ref y) H2) (WE W σ)) I ?_) fun us s1 ⟨vs, H1, I1, r, q⟩ => ⟨I1.kIn, ?_⟩) he hpl
  · exact ⟨ι, ρ, st, S, sl, Post.bind q fun ws st1 ι1 H1 vs l1 S1 r1 p1 => make_read hC S1 r1 p1⟩
  · exact run_makeRS M F hr (passAt tk σ) I1 r q
/-- C(e, .., *y) -/
theorem je_makeS (h : HasIR (Cx.wh X) C k mf) (hx : x = nm C) (hr : Room (k + 1) X.A) (ha : JA X (e :: es) t) (hg : Gl X x := by rfl) (hdb : (x == ("__debug__" : Str)) = false := by decide) (he : starEach (e :: es) X.env = (false, eval e X.env) :: starEach es X.env := by rfl)
    (hst : (backTo pos (starEach es X.env)).any (·.1) = true := by rfl) : JE X (.Call (.Name x p) (e :: es) [] pos) (mApp (vMake C mf) t) := fun W tk => by
  obtain ⟨Ca, f, hC, M, hk, F⟩ := h
  refine ⟨fun pins s σ H Q I ⟨ι, ρ, st, S, sl, q⟩ => ?_⟩
  refine wpAny_Call_Name_kw (ld_glob I hg (by rw [hx]; exact hC) ?_ hdb)
  refine PySem.W.callWith_S2 (h₀ := X.base) I.ok.mod.kin M.kp (thn ((ha W tk).run pos pins s σ H (fun vs H1 => ∀ y dx, H1 y = Option.none → H1 dx = Option.none → dx ≠ y → spM X.K X.mg mf (V.ref y :: vs) (upd (upd H1 dx (.own y)) y (.ins Ca dx [])) (fun v H2 => v = .non ∧ Q (.ref y) H2) (WE W σ)) I ?_) fun us s1 ⟨vs, H1, I1, r, q⟩ => ⟨I1.kIn, ?_⟩) he hst
  · exact ⟨ι, ρ, st, S, sl, Post.bind q fun ws st1 ι1 H1 vs l1 S1 r1 p1 => make_read hC S1 r1 p1⟩
  · exact run_makeRS M F hr (passAt tk σ) I1 r q
end

/-! ### own + and len -/
/-- a operator of the class of that number, both sides of it -/
def HasOp (T : Wh) (C : Nat) (op : Operator) (k : Nat) (mf : MF) : Prop := ∃ Ca f, T.mg (nm C) = some (.ref Ca) ∧ Cls T.K Ca ∧ PySem.W.selfFirst T.K Ca = true ∧ PySem.W.findIn T.K (.ref Ca) (PySem.dunder op.info.2) = some (some (.ref f)) ∧ PySem.W.isFn T.K (.ref f) = true ∧ FnM T k 2 f mf
def isIns (C : Nat) (st : Store) : Val → Bool
  | .ref n => match st[n]? with
    | some (.ins C' _) => decide (C' = C)
    | _ => false
  | _ => false
theorem isIns_at {C : Nat} {st : Store} {w : Val} (h : isIns C st w = true) : ∃ n fs, w = .ref n ∧ st[n]? = some (.ins C fs) := by
  unfold isIns at h
  split at h
  · rename_i n
    split at h
    · rename_i C' fs e
      have := of_decide_eq_true h
      subst this
      exact ⟨n, fs, rfl, e⟩
    · cases h
  · cases h
/-- what own + gives back must be an object (no mark that it is not implemented) -/
@[reducible] def mOp (C : Nat) (mf : MF) (ma mb : ME) : ME := fun ρ st => (ma ρ st).bind fun x st1 => (mb ρ st1).bind fun y st2 => if isIns C st2 x = true ∧ isIns C st2 y = true then mf [x, y] st2 else .bad
section
variable {X : Cx} {k : Nat} {a b e : Expr} {ma mb m : ME} {p pos : Pos} {mf : MF} {C : Nat} {op : Operator}
theorem je_own (h : HasOp (Cx.wh X) C op k mf) (hr : Room k X.A) (ha : JE X a ma) (hb : JE X b mb) : JE X (.BinOp a op b pos) (mOp C mf ma mb) := fun W tk => by
  obtain ⟨Ca, f, hC, cl, hsf, hs, hfn, fd, ps, hl, hkp, hbd, F⟩ := h
  have hC : X.mg (nm C) = some (.ref Ca) := hC
  refine ⟨fun pins s σ H Q I ⟨ι, ρ, st, S, sl, q⟩ => ?_⟩
  refine wpAny_BinOp (binT (R := fun x y H2 => ∃ xa ya dx dy fx fy, x = .ref xa ∧ y = .ref ya ∧ H2 xa = some (.ins Ca dx fx) ∧ H2 ya = some (.ins Ca dy fy) ∧ spM X.K X.mg mf [.ref xa, .ref ya] H2 Q (WE W σ)) (ha W tk) (hb W tk) I ?_ fun v u s2 x y H2 I2 rx ry hq => ?_)
  · refine ⟨ι, ρ, st, S, sl, Post.bind q fun x st1 ι1 H1 xv l1 S1 r1 p1 => ?_⟩
    refine ⟨ι1, ρ, st1, S1, sl.later l1, Post.bind p1 fun y st2 ι2 H2 yv l2 S2 r2 p2 => ?_⟩
    split at p2
    · rename_i hh
      obtain ⟨n, fs, e1, c1⟩ := isIns_at hh.1
      obtain ⟨n2, fs2, e2, c2⟩ := isIns_at hh.2
      have r1' := Rep.later l2 r1
      subst e1 e2
      obtain ⟨xa, f1, g1⟩ := Rep.ref_inv r1'
      obtain ⟨ya, f2, g2⟩ := Rep.ref_inv r2
      obtain ⟨Ca1, dx, vs, i1, i2, i3⟩ := S2.at c1 g1
      obtain ⟨Ca2, dy, us, j1, j2, j3⟩ := S2.at c2 g2
      rw [hC] at i1 j1
      cases i1
      cases j1
      subst f1 f2
      exact ⟨xa, ya, dx, dy, vs, us, rfl, rfl, i2, j2, ι2, _, st2, S2, .cons (Rep.ref g1) (.cons (Rep.ref g2) .nil), p2⟩
    · exact p2.elim
  · obtain ⟨xa, ya, dx, dy, fx, fy, e1, e2, i1, i2, hsp⟩ := hq
    subst e1 e2
    cases rx
    cases ry
    obtain ⟨mA, O, _⟩ := ins_get I2.hok i1
    obtain ⟨od, J, _⟩ := O.look
    obtain ⟨mB, O2, _⟩ := ins_get I2.hok i2
    obtain ⟨od2, J2, _⟩ := O2.look
    obtain ⟨m0, fr⟩ := I2.fr
    refine PySem.W.binop_K fr I2.ok.mod.kin J J2.type hsf hs hfn ?_
    refine thn (run_fnS (us := [.ref xa, .ref ya]) (vs := [.ref xa, .ref ya]) F hr hbd (passAt tk σ) I2 (.cons rfl (.cons rfl .nil)) hsp) fun u s3 hh => ?_
    obtain ⟨v3, H3, I3, r3, q3⟩ := hh
    have z : EP X pins σ Q u s3 := ⟨v3, H3, I3, r3, q3⟩
    cases v3 with
    | non => cases (show u = Value.none from r3); exact z
    | bl y => cases (show u = Value.bool y from r3); exact z
    | int i => obtain ⟨t, e⟩ := (show ∃ t, u = Value.int i t from r3); subst e; exact z
    | str y => obtain ⟨t, e⟩ := (show ∃ t, u = Value.str y t from r3); subst e; exact z
    | byt y => obtain ⟨t, e⟩ := (show ∃ t, u = Value.bytes y t from r3); subst e; exact z
    | flt y => obtain ⟨t, e⟩ := (show ∃ t, u = Value.float y t from r3); subst e; exact z
    | ref y => cases (show u = Value.ref y from r3); exact z
    | ty y => cases (show u = Value.type y from r3); exact z
/-- len(e) by an own __len__ -/
def HasLen (T : Wh) (C : Nat) (k : Nat) (mf : MF) : Prop := ∃ Ca f, T.mg (nm C) = some (.ref Ca) ∧ Cls T.K Ca ∧ PySem.W.findIn T.K (.ref Ca) "__len__" = some (some (.ref f)) ∧ PySem.W.isFn T.K (.ref f) = true ∧ FnM T k 1 f mf
@[reducible] def mLen (C : Nat) (mf : MF) (m : ME) : ME := fun ρ st => (m ρ st).bind fun x st1 => if isIns C st1 x = true then match mf [x] st1 with
    | .ok (.int i) st2 => if 0 ≤ i ∧ i < 1000000 then .ok (.int i) st2 else .bad
    | _ => .bad
  else .bad
theorem je_lenO (h : HasLen (Cx.wh X) C k mf) (hr : Room (k + 1) X.A) (he : JE X e m) (h0 : X.mg "len" = none) (g0 : Gl X "len" := by rfl) (hs : starEach [e] X.env = (false, eval e X.env) :: starEach [] X.env := by rfl) : JE X (.Call (.Name "len" p) [e] [] pos) (mLen C mf m) := fun W tk => by
  obtain ⟨Ca, f, hC, cl, hls, hfn, fd, ps, hl, hkp, hbd, F⟩ := h
  have hC : X.mg (nm C) = some (.ref Ca) := hC
  have hc : CallR X (.builtin "len") (fun xs H Q => ∃ a dx fs, xs = [.ref a] ∧ H a = some (.ins Ca dx fs) ∧ spM X.K X.mg mf [.ref a] H (fun v H' => ∃ i : Int, v = .int i ∧ (0 ≤ i ∧ i < 1000000) ∧ Q v H') (fun _ _ _ => False)) := by
    intro pins s σ H xs us Q I r h
    obtain ⟨a, dx, fs, rfl, ea, hsp⟩ := h
    obtain rfl : us = [.ref a] := by
      cases r with
      | cons r1 r2 => cases r2; cases r1; rfl
    obtain ⟨mA, O, _⟩ := ins_get I.hok ea
    obtain ⟨od, J, _⟩ := O.look
    obtain ⟨m0, fr⟩ := I.fr
    refine PySem.W.len_K fr I.ok.mod.kin J hls hfn (wpAny_call ?_)
    have hlen : ([Value.ref a] : List Value).length = ps.length := by rw [hl]; rfl
    have b := hbd s [.ref a] I.kIn (by rw [List.append_nil]; exact hlen)
    rw [List.append_nil] at b
    refine codeAny_mono (F.run X.A.in1 X.stack s H ⟨[.ref a], []⟩ [.ref a] [.ref a] _ _ hr.in1 I.env0.in1 b (.cons rfl .nil) hsp) fun r s' hq => ?_
    cases r with
    | error er => exact False.elim (passL (X := X.nox) pins σ H s er s' (I.wish _) hq)
    | ok fl =>
      cases fl with
      | ret u =>
        obtain ⟨v, H', I3, rv, i, ev, hi, q3⟩ := I.after hq
        subst ev
        obtain ⟨t, eu⟩ := (show ∃ t, u = Value.int i t from rv)
        subst eu
        exact ⟨⟨hi.1, by omega⟩, .int i, H', I3.tok _, ⟨_, rfl⟩, q3⟩
      | next => exact False.elim hq
      | brk => exact False.elim hq
      | cont => exact False.elim hq
  refine PE.weak (pe_callB hc g0 h0 Boot.len (pa_cons (he W tk) pa_nil hs) (by decide) (by decide) hs rfl) fun σ H Q ⟨ι, ρ, st, S, sl, q⟩ => ?_
  refine ⟨ι, ρ, st, S, sl, Post.bind q fun w st1 ι1 H1 v l1 S1 r1 q1 => ?_⟩
  split at q1
  · rename_i hh
    obtain ⟨n, fs, e1, c1⟩ := isIns_at hh
    subst e1
    obtain ⟨xa, f1, g1⟩ := Rep.ref_inv r1
    obtain ⟨Ca1, dx, vs, i1, i2, i3⟩ := S1.at c1 g1
    rw [hC] at i1
    cases i1
    subst f1
    refine ⟨xa, dx, vs, rfl, i2, ι1, _, st1, S1, .cons (Rep.ref g1) .nil, ?_⟩
    cases hm : mf [.ref n] st1 with
    | ok w st2 =>
      rw [hm] at q1
      intro ι' H' b l S2 r
      cases w with
      | int i =>
        dsimp only at q1
        split at q1
        · rename_i hi
          rw [Rep.int_inv r]
          exact ⟨i, rfl, hi, q1 ι' H' _ l S2 Rep.int⟩
        · exact q1.elim
      | _ => exact q1.elim
    | exc x st2 => rw [hm] at q1; exact q1.elim
    | bad => rw [hm] at q1; exact q1.elim
  · exact q1.elim
/-- C.F, a constant of the class -/
theorem je_ccon {x f : Str} {Ca : Addr} {mc u : Value} {i : Int} {p2 : Pos} (hm : X.mg x = some (.ref Ca)) (r : ClX.CRead X.K Ca mc) (hv : ClX.CVal X.K Ca mc f (.int i) u) (hg : Gl X x := by rfl) (hd : (x == ("__debug__" : Str)) = false := by decide)
    (hb : attributeBase (.Name x p) f X.env (eval (.Name x p) X.env) = eval (.Name x p) X.env := by rfl) : JE X (.Attribute (.Name x p) f p2) (mC (.int i)) := fun W tk => by
  refine PE.weak (ClX.pe_cval (pe_glob (v := .ref Ca) hg hm rfl hd) hb) fun σ H Q ⟨ι, ρ, st, S, sl, q⟩ => ?_
  exact ⟨Ca, mc, .int i, u, rfl, r, hv, q.okSame S Rep.int⟩
end
end Ab

set_option Elab.async false
set_option linter.all false
set_option maxRecDepth 100000
set_option maxHeartbeats 1000000
/-! Ab: dicts with keys that are ints or texts. -/
namespace Ab
open PySem PySem.Spec PyProof.Rows L2
def keyW : Val → Option Key
  | .int i => some (.inl i)
  | .str s => some (.inr s)
  | _ => none
def valW : List (Key × Val) → Key → Option Val
  | [], _ => none
  | (q, w) :: r, k => if q = k then some w else valW r k
def repW (k : Key) (w : Val) : List (Key × Val) → List (Key × Val)
  | [] => []
  | (q, u) :: r => (if q = k then (q, w) else (q, u)) :: repW k w r
def putW (kvs : List (Key × Val)) (k : Key) (w : Val) : List (Key × Val) := if (kvs.any fun kv => decide (kv.1 = k)) = true then repW k w kvs else kvs ++ [(k, w)]
def mergeW (kvs more : List (Key × Val)) : List (Key × Val) := more.foldl (fun acc kv => putW acc kv.1 kv.2) kvs
def unkey : Key → Val
  | .inl i => .int i
  | .inr s => .str s
section
variable {mg : Str → Option Value} {ι : List Addr} {H : Hp} {K : PySem.W.Frag}
theorem keyW_rep {w : Val} {k : Key} {v : V} (h : keyW w = some k) (r : Rep mg ι H w v) : v = kV k := by
  cases w with
  | int i => cases h; exact Rep.int_inv r
  | str s => cases h; exact Rep.str_inv r
  | _ => cases h
theorem unkey_rep {k : Key} : Rep mg ι H (unkey k) (kV k) := by
  cases k with
  | inl i => exact Rep.int
  | inr s => exact Rep.str
theorem RepK.val {k : Key} {w : Val} : ∀ {ws : List (Key × Val)} {vs : List (Key × V)}, RepK mg ι H ws vs → valW ws k = some w → ∃ v, valV vs k = some v ∧ Rep mg ι H w v
  | _, _, .nil, h => by cases h
  | (q, u) :: ws, (q', v) :: vs, .cons h t, e => by
    obtain ⟨h1, h2⟩ := h
    simp only at h1 h2
    subst h1
    unfold valW at e
    by_cases c : q = k
    · rw [if_pos c] at e
      cases e
      exact ⟨v, valV_pos c, h2⟩
    · rw [if_neg c] at e
      rw [valV_neg c]
      exact RepK.val t e
theorem RepK.any {k : Key} : ∀ {ws : List (Key × Val)} {vs : List (Key × V)}, RepK mg ι H ws vs → (ws.any fun kv => decide (kv.1 = k)) = (vs.any fun kv => decide (kv.1 = k))
  | _, _, .nil => rfl
  | (q, u) :: ws, (q', v) :: vs, .cons h t => by
    obtain ⟨h1, h2⟩ := h
    simp only at h1
    subst h1
    rw [List.any_cons, List.any_cons, RepK.any t]
theorem RepK.rep {k : Key} {w : Val} {v : V} (r : Rep mg ι H w v) : ∀ {ws : List (Key × Val)} {vs : List (Key × V)}, RepK mg ι H ws vs → RepK mg ι H (repW k w ws) (vs.map fun kv => if kv.1 = k then (kv.1, v) else kv)
  | _, _, .nil => .nil
  | (q, u) :: ws, (q', z) :: vs, .cons h t => by
    obtain ⟨h1, h2⟩ := h
    simp only at h1 h2
    subst h1
    unfold repW
    rw [List.map_cons]
    refine .cons ?_ (RepK.rep r t)
    by_cases c : q = k
    · rw [if_pos c, if_pos c]; exact ⟨rfl, r⟩
    · rw [if_neg c, if_neg c]; exact ⟨rfl, h2⟩
theorem RepK.append : ∀ {ws ws' : List (Key × Val)} {vs vs' : List (Key × V)}, RepK mg ι H ws vs → RepK mg ι H ws' vs' → RepK mg ι H (ws ++ ws') (vs ++ vs')
  | _, _, _, _, .nil, h => h
  | _, _, _, _, .cons a t, h => .cons a (RepK.append t h)
theorem RepK.put {k : Key} {w : Val} {v : V} {ws : List (Key × Val)} {vs : List (Key × V)} (h : RepK mg ι H ws vs) (r : Rep mg ι H w v) : RepK mg ι H (putW ws k w) (putK vs k v) := by
  unfold putW putK
  rw [h.any]
  split
  · exact h.rep r
  · exact h.append (.cons ⟨rfl, r⟩ .nil)
theorem RepK.merge : ∀ {ws' ws : List (Key × Val)} {vs' vs : List (Key × V)}, RepK mg ι H ws vs → RepK mg ι H ws' vs' → RepK mg ι H (mergeW ws ws') (mergeK vs vs')
  | _, _, _, _, h, .nil => h
  | (q, u) :: ws', _, (q', z) :: vs', _, h, .cons a t => by
    obtain ⟨h1, h2⟩ := a
    simp only at h1 h2
    subst h1
    exact RepK.merge (ws' := ws') (vs' := vs') (h.put h2) t
theorem RepK.length {ws : List (Key × Val)} {vs : List (Key × V)} (h : RepK mg ι H ws vs) : ws.length = vs.length := Paired.length h
theorem Sim.atD {st : Store} {n : Nat} {a : Addr} {kvs : List (Key × Val)} (S : Sim K mg ι st H) (h : st[n]? = some (.dct kvs)) (ha : ι[n]? = some a) : ∃ vs, H a = some (.dK vs) ∧ RepK mg ι H kvs vs := S.cell n _ a h ha
theorem Sim.putD {st : Store} {n : Nat} {a : Addr} {kvs : List (Key × Val)} {kvs' : List (Key × Val)} {vs vs' : List (Key × V)} (S : Sim K mg ι st H) (h : st[n]? = some (.dct kvs)) (ha : ι[n]? = some a) (hH : H a = some (.dK vs)) (r : RepK mg ι H kvs' vs') :
    Sim K mg ι (st.set n (.dct kvs')) (upd H a (.dK vs')) ∧ Later ι H ι (upd H a (.dK vs')) := by
  have l : Later ι H ι (upd H a (.dK vs')) := ⟨⟨[], by simp⟩, fun b xs e => by rw [upd_ne fun q => by subst q; rw [hH] at e; cases e]; exact e, fun b ob ks e => by rw [upd_ne fun q => by subst q; rw [hH] at e; cases e]; exact e⟩
  exact S.write (c' := .dct kvs') (o' := .dK vs') h ha rfl rfl hH (fun _ e => by cases e) (fun _ _ e => by cases e) ⟨vs', upd_same, r.later l⟩
end
/-! ### d[k] -/
/-- the items of a dict that is read -/
@[reducible] def dctAt (st : Store) (n : Nat) : Option (List (Key × Val)) := match st[n]? with
  | some (.dct kvs) => some kvs
  | some (.fdc kvs) => some kvs
  | _ => none
theorem Sim.dctL {K : PySem.W.Frag} {mg : Str → Option Value} {ι : List Addr} {st : Store} {H : Hp} (S : Sim K mg ι st H) {n : Nat} {kvs : List (Key × Val)} (h : dctAt st n = some kvs) {a : Addr} (ha : ι[n]? = some a) : ∃ vs, Rd H a (.dK vs) ∧ RepK mg ι H kvs vs := by
  unfold dctAt at h
  split at h
  · rename_i ys e
    cases h
    obtain ⟨vs, e1, r⟩ := S.cell n _ a e ha
    exact ⟨vs, .inl e1, r⟩
  · rename_i ys e
    cases h
    obtain ⟨od, vs, e1, r⟩ := S.cell n _ a e ha
    exact ⟨vs, .inr ⟨od, e1⟩, r⟩
  · cases h
@[reducible] def vDget (x y : Val) (st : Store) : R Val := match x, keyW y with
  | .ref n, some k => match dctAt st n with
    | some kvs => match valW kvs k with
      | some w => .ok w st
      | none => .bad
    | _ => .bad
  | _, _ => .bad
@[reducible] def mDget (mo mi : ME) : ME := fun ρ st => (mo ρ st).bind fun x st1 => (mi ρ st1).bind fun y st2 => vDget x y st2
section
variable {X : Cx} {o i : Expr} {mo mi : ME} {pos : Pos}
theorem je_dget (hu : X.A.units + 1 < cLine) (ho : JE X o mo) (hi : JE X i mi) (hs : NoSl i := by intro _ _; rfl) : JE X (.Subscript o i pos) (mDget mo mi) := fun W tk => by
  refine PE.weak (pe_dget hu (ho W tk) (hi W tk) hs) fun σ H Q ⟨ι, ρ, st, S, sl, p⟩ => ?_
  refine ⟨ι, ρ, st, S, sl, Post.bind p fun x st1 ι1 H1 xv l1 S1 r1 p1 => ?_⟩
  refine ⟨ι1, ρ, st1, S1, sl.later l1, Post.bind p1 fun y st2 ι2 H2 yv l2 S2 r2 p2 => ?_⟩
  have r1' := Rep.later l2 r1
  unfold vDget at p2
  split at p2
  · rename_i n k hk
    obtain ⟨a, e1, ha⟩ := Rep.ref_inv r1'
    split at p2
    · rename_i kvs ec
      obtain ⟨vs, h1, h2⟩ := S2.dctL ec ha
      split at p2
      · rename_i w hw
        obtain ⟨v, h3, h4⟩ := h2.val hw
        refine ⟨a, v, e1, ?_, p2.okSame S2 h4⟩
        rw [keyW_rep hk r2, ← h3]
        exact .inl ⟨vs, k, h1, rfl, rfl⟩
      · exact p2.elim
    · exact p2.elim
  · exact p2.elim
/-! ### d[k] = v, as a target -/
@[reducible] def gSubD (mo mi : ME) : MG := fun w ρ st => match mo ρ st with
  | .ok x st1 => match mi ρ st1 with
    | .ok y st2 => match x, keyW y with
      | .ref n, some k => match st2[n]? with
        | some (.dct kvs) => if kvs.length < 1000 then some (ρ, st2.set n (.dct (putW kvs k w))) else none
        | _ => none
      | _, _ => none
    | _ => none
  | _ => none
theorem set_dict (hu : X.A.units + 1 < cLine) : PSet X (fun o i v H Q => ∃ a H', o = .ref a ∧ DPut H a i v H' ∧ Q H') := by
  intro pins s σ H o i v ov iv u Q I ro ri rv h
  obtain ⟨a, H', rfl, g, q⟩ := h
  obtain rfl : ov = Value.ref a := ro
  exact d_setItem hu I g ri rv fun s' I' => ⟨H', I', q⟩
theorem jg_dsub (hu : X.A.units + 1 < cLine) (ho : JE X o mo) (hi : JE X i mi)
    (ha : ∀ v, assign (.Subscript o i pos) X.env v = (do
      let ov ← holding [v] (eval o X.env)
      let iv ← holding [v, ov] (eval i X.env)
      standAt pos
      holding [v, ov, iv] (setItem ov iv v)
      release [v, ov, iv] []) := by intro _; rfl) (tk : Takes X W0 := takes0) : JG X (.Subscript o i pos) [] (gSubD mo mi) :=
  PG.weak (pg_sub (ho W0 tk) (hi W0 tk) (set_dict hu) ha) fun v σ H Q ⟨ι, ρ, st, w, S, sl, r, p⟩ => by
    dsimp only [gSubD] at p
    refine ⟨ι, ρ, st, S, sl, ?_⟩
    cases q1 : mo ρ st with
    | bad => rw [q1] at p; exact p.elim
    | exc x s => rw [q1] at p; exact p.elim
    | ok x st1 =>
      rw [q1] at p
      intro ι1 H1 xv l1 S1 r1
      have sl1 := sl.later l1
      refine ⟨ι1, ρ, st1, S1, sl1, ?_⟩
      dsimp only at p
      cases q2 : mi ρ st1 with
      | bad => rw [q2] at p; exact p.elim
      | exc x s => rw [q2] at p; exact p.elim
      | ok i st2 =>
        rw [q2] at p
        intro ι2 H2 iv l2 S2 r2
        have sl2 := sl1.later l2
        dsimp only at p
        split at p
        · rename_i n k hk
          obtain ⟨a, e, hA⟩ := Rep.ref_inv r1
          have e2 := keyW_rep hk r2
          subst e e2
          have hA2 := l2.get hA
          split at p
          · rename_i kvs ec
            obtain ⟨vs, h1, rr⟩ := S2.atD ec hA2
            split at p
            · rename_i hl
              obtain ⟨S3, l3⟩ := S2.putD ec hA2 h1 (rr.put (k := k) (Rep.later (l1.trans l2) r))
              refine ⟨a, _, rfl, .inl ⟨vs, k, h1, rfl, by rw [← rr.length, sizeLine_eq]; omega, rfl⟩, ?_⟩
              exact p ι2 _ σ ((l1.trans l2).trans l3) S3 (sl2.later l3) (OutS.refl _ _)
            · exact p.elim
          · exact p.elim
        · exact p.elim
end
/-! ### {k: v, ..} -/
def pairsM : List (ME × ME) → Slots → Store → R (List (Key × Val))
  | [], _, st => .ok [] st
  | (mk, mv) :: r, ρ, st => (mk ρ st).bind fun x st1 => match keyW x with
    | some k => (mv ρ st1).bind fun y st2 => (pairsM r ρ st2).bind fun ps st3 => .ok ((k, y) :: ps) st3
    | none => .bad
@[reducible] def mDisp (prs : List (ME × ME)) : ME := fun ρ st => (pairsM prs ρ (st ++ [.dct []])).bind fun kvs st2 => match st2[st.length]? with
  | some (.dct []) => if kvs.length ≤ 15 then .ok (.ref st.length) (st2.set st.length (.dct (mergeW [] kvs))) else .bad
  | _ => .bad
def JP (X : Cx) (pos : Pos) (keys : List (Option Expr)) (values : List Expr) (prs : List (ME × ME)) : Prop := ∀ W, Takes X W → PPs X pos keys values (prs.map fun p => (rdG X.K X.mg (rel1 X.mg) W p.1, rdG X.K X.mg (rel1 X.mg) W p.2))
section
variable {X : Cx} {k v : Expr} {ks : List (Option Expr)} {vs : List Expr} {mk mv : ME} {prs : List (ME × ME)} {pos : Pos}
theorem jp_nil : JP X pos [] [] [] := fun W tk => pps_nil
theorem jp_cons (hk : JE X k mk) (hv : JE X v mv) (hr : JP X pos ks vs prs) : JP X pos (some k :: ks) (v :: vs) ((mk, mv) :: prs) := fun W tk => pps_cons (hk W tk) (hv W tk) (hr W tk)
theorem pairs_read {W : WX} {σ : L2.St} : ∀ {prs : List (ME × ME)} {ι : List Addr} {ρ : Slots} {st : Store} {H : Hp} {Q : List (V × V) → Hp → Prop} {Q' : List (Key × V) → Hp → Prop}, Sim X.K X.mg ι st H → SlotsOk X.mg ι H ρ σ →
    Post X.K X.mg (fun ι H => RepK X.mg ι H) ι H Q' (fun c d H' => W c d σ H') (pairsM prs ρ st) → (∀ kvs H', Q' kvs H' → Q (kvs.map fun kv => (kV kv.1, kv.2)) H') →
    tPairs (prs.map fun p => (rdG X.K X.mg (rel1 X.mg) W p.1, rdG X.K X.mg (rel1 X.mg) W p.2)) σ H Q
  | [], ι, ρ, st, H, Q, Q', S, sl, p, hq => hq [] H (p.okSame S .nil)
  | (mk, mv) :: r, ι, ρ, st, H, Q, Q', S, sl, p, hq => by
    refine ⟨ι, ρ, st, S, sl, Post.bind p fun x st1 ι1 H1 xv l1 S1 r1 p1 => ?_⟩
    split at p1
    · rename_i k hk
      refine ⟨ι1, ρ, st1, S1, sl.later l1, Post.bind p1 fun y st2 ι2 H2 yv l2 S2 r2 p2 => ?_⟩
      refine pairs_read (Q' := fun ps H3 => Q' ((k, yv) :: ps) H3) S2 ((sl.later l1).later l2) (Post.bind p2 fun ps st3 ι3 H3 us l3 S3 r3 p3 => ?_) fun kvs H' hh => ?_
      · exact p3.okSame S3 (.cons ⟨rfl, Rep.later l3 r2⟩ r3)
      · rw [keyW_rep hk r1]
        exact hq _ _ hh
    · exact p1.elim
theorem je_disp (h : JP X pos ks vs prs) (hall : ks.all (·.isSome) = true := by rfl) (hl : ks.length = vs.length := by rfl) (h0 : ks ≠ [] := by simp) (h15 : ks.length ≤ 15 := by decide) : JE X (.Dict ks vs pos) (mDisp prs) := fun W tk => by
  refine PE.weak (pe_disp (h W tk) hall hl h0 h15) fun σ H Q ⟨ι, ρ, st, S, sl, p⟩ q hq => ?_
  have hs := same_new (o := .dK []) hq
  obtain ⟨S1, l1⟩ := S.push (c := .dct []) hq hs ⟨[], upd_same, .nil⟩
  have hn : (ι ++ [q])[st.length]? = some q := by rw [← S.len, List.getElem?_append_right (Nat.le_refl _)]; simp
  refine pairs_read (Q' := fun kvs H2 => H2 q = some (.dK []) ∧ kvs.length ≤ 15 ∧ Q (.ref q) (upd H2 q (.dK (mergeK [] kvs)))) S1 (sl.later l1) (Post.bind (Post.later p l1) fun kvs st2 ι2 H2 us l2 S2 r2 p2 => ?_) fun kvs H' hh => ⟨hh.1, kvs, rfl, hh.2.1, hh.2.2⟩
  split at p2
  · rename_i ec
    split at p2
    · rename_i hl15
      have hA := l2.get hn
      obtain ⟨vs0, h1, h2⟩ := S2.atD ec hA
      cases h2
      obtain ⟨S3, l3⟩ := S2.putD ec hA h1 (RepK.merge .nil r2)
      exact ⟨h1, by rw [← r2.length]; exact hl15, p2 ι2 _ _ l3 S3 (Rep.ref hA)⟩
    · exact p2.elim
  · exact p2.elim
end
/-! ### list(d.items()) -/
@[reducible] def mItems (m : ME) : ME := fun ρ st => (m ρ st).bind fun x st1 => match x with
  | .ref n => match st1[n]? with
    | some (.dct kvs) => .ok (.ref st1.length) (st1 ++ [.lst (kvs.map fun kv => .tup [unkey kv.1, kv.2])])
    | _ => .bad
  | _ => .bad

theorem items_rep {mg : Str → Option Value} {ι : List Addr} {H : Hp} : ∀ {kvs : List (Key × Val)} {vs : List (Key × V)} {ts : List Addr}, RepK mg ι H kvs vs → Paired (fun (t : Addr) (q : Key × V) => H t = some (.tup [kV q.1, q.2])) ts vs → Reps mg ι H (kvs.map fun kv => .tup [unkey kv.1, kv.2]) (ts.map V.ref)
  | _, _, _, .nil, .nil => .nil
  | (kk, ww) :: _, _, _, .cons a b, .cons h tl => by
    obtain ⟨a1, a2⟩ := a
    simp only at a1 a2
    refine .cons ?_ (items_rep b tl)
    rw [Rep]
    refine ⟨_, _, rfl, h, .cons ?_ (.cons a2 .nil)⟩
    rw [← a1]
    exact unkey_rep
section
variable {X : Cx} {e : Expr} {m : ME} {p apos cpos pos : Pos}
theorem je_listItems (hc : X.calm = true) (hm : X.mg "list" = none) (he : JE X e m) (hg : Gl X "list" := by rfl) (hbase : attributeBase e "items" X.env (eval e X.env) = eval e X.env := by rfl) (hline : (apos.endLine == cpos.line) = true := by rfl)
    (hs : starEach [.Call (.Attribute e "items" apos) [] [] cpos] X.env = (false, eval (.Call (.Attribute e "items" apos) [] [] cpos) X.env) :: starEach [] X.env := by rfl) :
    JE X (.Call (.Name "list" p) [.Call (.Attribute e "items" apos) [] [] cpos] [] pos) (mItems m) := fun W tk => by
  refine PE.weak (LiI.pe_listItems hc (he W tk) hg hm Boot.list hbase hline hs) fun σ H Q ⟨ι, ρ, st, S, sl, q⟩ => ?_
  refine ⟨ι, ρ, st, S, sl, Post.bind q fun x st1 ι1 H1 xv l1 S1 r1 p1 => ?_⟩
  split at p1
  · rename_i n
    obtain ⟨a, e1, ha⟩ := Rep.ref_inv r1
    split at p1
    · rename_i kvs ec
      obtain ⟨vs, h1, h2⟩ := S1.atD ec ha
      refine ⟨a, vs, e1, h1, fun H' q ts hsm hq hts hqt hl hp => ?_⟩
      have r := items_rep (h2.later (Same.laterH (ι := ι1) hsm)) hp
      obtain ⟨S2, l2⟩ := S1.push (c := .lst (kvs.map fun kv => .tup [unkey kv.1, kv.2])) hq hsm ⟨ts.map V.ref, hl, r.later ⟨⟨[q], rfl⟩, fun b xs e => e, fun _ _ _ e => e⟩⟩
      exact p1 _ H' _ l2 S2 (Rep.ref (by rw [← S1.len, List.getElem?_append_right (Nat.le_refl _)]; simp))
    · exact p1.elim
  · exact p1.elim
end
/-! ### {k: v for ..} -/
open Classical in
noncomputable def dcM (g : MG) (t : MT) (mk mv : ME) (okp : Store → Prop) (D : Nat) (ρ : Slots) : List Val → Store → R Val
  | [], st => if okp st then .ok (.ref D) st else .bad
  | w :: ws, st => if okp st then match g w ρ st with
      | none => .bad
      | some (ρ1, st1) => ((t ρ1 st1).noX).bind fun k st2 =>
        if k = true then ((mk ρ1 st2).noX).bind fun x st3 => ((mv ρ1 st3).noX).bind fun y st4 => match st4[D]?, keyW x with
          | some (.dct acc), some kk => if acc.length < 1000 then dcM g t mk mv okp D ρ ws (st4.set D (.dct (putW acc kk y))) else .bad
          | _, _ => .bad
        else dcM g t mk mv okp D ρ ws st2
    else .bad
@[reducible] noncomputable def mDc (mi : MI) (g : MG) (t : MT) (mk mv : ME) (vs : List Nat) : ME := fun ρ st => (mi ρ st).bind fun it st1 => dcM g t mk mv it.2 st1.length (wipeM ρ vs) it.1 (st1 ++ [.dct []])
section
variable {X : Cx} {kx vx tg iter : Expr} {ifs : List Expr} {scope : Scope} {own : List (Str × Nat)} {pos : Pos} {mi : MI} {g : MG} {t : MT} {mk mv : ME}
theorem dc_read {W : WX} {σ : L2.St} {H : Hp} {Q : VK} (h : rdG X.K X.mg (rel1 X.mg) W (mDc mi g t mk mv (ixs own)) σ H Q) :
    tDc (rdG X.K X.mg (relI X.K X.mg) W mi) (rdT X.K X.mg (ixs own) g) (rdG X.K X.mg relB W0 t) (rdG X.K X.mg (rel1 X.mg) W0 mk) (rdG X.K X.mg (rel1 X.mg) W0 mv) (ixs own) σ H Q := by
  obtain ⟨ι, ρ, st, S, sl, p⟩ := h
  refine ⟨ι, ρ, st, S, sl, Post.bind p fun it st1 ι1 H1 J l1 S1 r1 p1 => fun D hD => ?_⟩
  obtain ⟨items, okp⟩ := it
  have r1 : IsIt X.K X.mg items okp ι1 H1 J := r1
  have sl1 := wipeM_ok (sl.later l1) (ixs own)
  have hs := same_new (o := .dK []) hD
  obtain ⟨S2, l2⟩ := S1.push (c := .dct []) hD hs ⟨[], upd_same, .nil⟩
  have hDi : (ι1 ++ [D])[st1.length]? = some D := by rw [← S1.len, List.getElem?_append_right (Nat.le_refl _)]; simp
  refine ⟨fun i m H' => ∃ ι' st', Later (ι1 ++ [D]) (upd H1 D (.dK [])) ι' H' ∧ Sim X.K X.mg ι' st' H' ∧ m = items.length - i ∧ i ≤ items.length ∧ Post X.K X.mg (rel1 X.mg) ι' H' Q (fun c d H' => W c d σ H') (dcM g t mk mv okp st1.length (wipeM ρ (ixs own)) (items.drop i) st'),
    ⟨items.length, ι1 ++ [D], st1 ++ [.dct []], Later.refl _ _, S2, by simp, Nat.zero_le _, by simpa using Post.later p1 l2⟩, ?_⟩
  rintro i m H3 ⟨ι3, st3, l3, S3, rfl, hi, p3⟩
  have l13 := l2.trans l3
  by_cases hlt : i < items.length
  · rw [List.drop_eq_getElem_cons hlt] at p3
    unfold dcM at p3
    split at p3
    · rename_i hok
      refine .inr ⟨r1.go i ι3 H3 st3 l13 S3 hok hlt, fun H4 => ∃ ι4 st4, Later (ι1 ++ [D]) (upd H1 D (.dK [])) ι4 H4 ∧ Sim X.K X.mg ι4 st4 H4 ∧ Post X.K X.mg (rel1 X.mg) ι4 H4 Q (fun c d H' => W c d σ H') (dcM g t mk mv okp st1.length (wipeM ρ (ixs own)) (items.drop (i + 1)) st4), ?_, ?_⟩
      · rintro H4 ⟨ι4, st4, l4, S4, p4⟩
        exact ⟨items.length - (i + 1), by omega, ι4, st4, l4, S4, rfl, hlt, p4⟩
      · intro x H4 hy
        obtain ⟨l4, S4, w, hw, rw_⟩ := r1.yld i ι3 H3 st3 x H4 l13 S3 hok hlt hy
        have hw' : items[i] = w := by rw [List.getElem?_eq_getElem hlt] at hw; exact Option.some.inj hw
        rw [hw'] at p3
        refine ⟨ι3, wipeM ρ (ixs own), st3, w, S4, sl1.later (l13.trans l4), rw_, ?_⟩
        cases q : g w (wipeM ρ (ixs own)) st3 with
        | none => rw [q] at p3; exact p3.elim
        | some z =>
          obtain ⟨ρ5, st5⟩ := z
          rw [q] at p3
          dsimp only at p3
          intro ι5 H5 σ5 l5 S5 sl5 o5
          have l15 := (l3.trans l4).trans l5
          have p5 := Post.later (Post.later p3 l4) l5
          refine ⟨wipe_same o5, ι5, ρ5, st5, S5, sl5, ?_⟩
          refine Post.noX (E := fun c d H' => W c d σ H') (Post.bind p5 fun k st6 ι6 H6 k' l6 S6 r6 p6 => ?_)
          have r6 : k = k' := r6
          subst r6
          have sl6 := sl5.later l6
          have l16 := l15.trans l6
          cases k with
          | false =>
            rw [if_neg Bool.false_ne_true] at p6
            exact iteF ⟨ι6, st6, l16, S6, p6⟩
          | true =>
            rw [if_pos rfl] at p6
            refine iteT ⟨ι6, ρ5, st6, S6, sl6, ?_⟩
            refine Post.noX (E := fun c d H' => W c d σ H') (Post.bind p6 fun x7 st7 ι7 H7 xv l7 S7 r7 p7 => ?_)
            refine ⟨ι7, ρ5, st7, S7, sl6.later l7, ?_⟩
            refine Post.noX (E := fun c d H' => W c d σ H') (Post.bind p7 fun y st8 ι8 H8 yv l8 S8 r8 p8 => ?_)
            have l18 := (l16.trans l7).trans l8
            have hD8 := l18.get hDi
            split at p8
            · rename_i acc kk eacc ekk
              obtain ⟨vs, hvs, rvs⟩ := S8.atD eacc hD8
              split at p8
              · rename_i hz
                obtain ⟨S9, l9⟩ := S8.putD eacc hD8 hvs (rvs.put (k := kk) r8)
                exact ⟨vs, kk, keyW_rep ekk r7, hvs, by rw [← rvs.length, sizeLine_eq]; omega, ι8, _, l18.trans l9, S9, Post.later p8 l9⟩
              · exact p8.elim
            · exact p8.elim
    · exact p3.elim
  · have hle : items.length ≤ i := by omega
    rw [List.drop_eq_nil_of_le hle] at p3
    unfold dcM at p3
    split at p3
    · rename_i hok
      exact .inl ⟨r1.stop i ι3 H3 st3 l13 S3 hok (by omega), p3.okSame S3 (Rep.ref (l3.get hDi))⟩
    · exact p3.elim
theorem je_dc (hc : X.calm = true) (hN : X.N.Nodup) (own : List (Str × Nat)) (hi : JI X tg iter mi) (ok : blkC X.N X.env.scope scope own = true)
    (hg : ∀ (s : Shared) (H : Hp) (C : Addr) (cl : List (Str × Addr)) (fp : List Addr), JG (X.blk s H scope (compEnvC scope cl C X.env) fp) tg (ixs own) g) (ht : ∀ (s : Shared) (H : Hp) (C : Addr) (cl : List (Str × Addr)) (fp : List Addr), JTs (X.blk s H scope (compEnvC scope cl C X.env) fp) ifs t)
    (hk : ∀ (s : Shared) (H : Hp) (C : Addr) (cl : List (Str × Addr)) (fp : List Addr), JE (X.blk s H scope (compEnvC scope cl C X.env) fp) kx mk)
    (he : ∀ (s : Shared) (H : Hp) (C : Addr) (cl : List (Str × Addr)) (fp : List Addr), JE (X.blk s H scope (compEnvC scope cl C X.env) fp) vx mv) (hs : ∀ x, foldedSetIterable iter X.env x = pure x := by intro _; rfl) :
    JE X (.DictComp kx vx [⟨tg, iter, ifs, 0⟩] scope pos) (mDc mi g t mk mv (ixs own)) := fun W tk =>
  PE.weak (pe_dc (wi := rdG X.K X.mg (relI X.K X.mg) W mi) (g := rdT X.K X.mg (ixs own) g) (tt := rdG X.K X.mg relB W0 t) (tk := rdG X.K X.mg (rel1 X.mg) W0 mk) (tv := rdG X.K X.mg (rel1 X.mg) W0 mv) hc hN (hi W tk) (blkOk_by ok) (fun s H C cl fp => hg s H C cl fp) (fun s H C cl fp => ht s H C cl fp W0 takes0) (fun s H C cl fp => hk s H C cl fp W0 takes0)
    (fun s H C cl fp => he s H C cl fp W0 takes0) hs) fun σ H Q h => dc_read h
end
end Ab

set_option Elab.async false
set_option linter.all false
set_option maxRecDepth 100000
set_option maxHeartbeats 1000000
/-! Ab: a tuple or a list times an int. -/
namespace L2
open PySem PySem.Spec PyProof.Rows
theorem tuple_mul1 (l : Addr) (items : Array Value) (n : Nat) (dd : Option Addr) (sl : Array (Option Value)) (u : Tok) :
    Meets (Builtin.«tuple.__mul__» ⟨[.ref l, .int 1 u], []⟩) (fun _ R s => s.heap.get? l = some { cls := .type "tuple", dict := dd, data := .seq items n, slots := sl } ∧ R (.ok (.ret (Value.ref l))) s) :=
  .of_wp fun prog w A R s h => by
    obtain ⟨hp, g, d, tk, os⟩ := s
    obtain ⟨hl, h⟩ := h
    have f1 := AutoSeq1.idx_int
    have c0 : (decide ((1 : Int) < -(2 ^ 63)) || decide ((1 : Int) ≥ 2 ^ 63)) = false := by decide
    have c1 : (items.isEmpty || (1 : Int) == 1) = true := by simp
    wp_walk using wpAny_loadPart' hl
    repeat (first
      | (refine wpAny_ite_false (decide_eq_false (by rw [c0]; exact Bool.false_ne_true)) ?_; wp_walk using wpAny_loadPart' hl)
      | (refine wpAny_ite_true (decide_eq_true (by rw [c1])) ?_; wp_walk using wpAny_loadPart' hl))
    exact ⟨_, rfl, h⟩

theorem op_repT1 {X : Cx} : OpR X (binaryOp .Mult) (fun x y H Q => ∃ l xs, x = .ref l ∧ y = .int 1 ∧ SqT X.K H l xs ∧ Q (.ref l) H) := by
  intro pins s σ H x y v u Q I rx ry h
  obtain ⟨l, xs, rfl, rfl, hT, q⟩ := h
  cases rx
  obtain ⟨t, rfl⟩ := ry
  obtain ⟨its, r, ⟨⟨cls, dd, data, sl⟩, ho, hc, n, hd⟩, hs⟩ := I.tuple hT
  simp only at hc hd
  subst hc hd
  refine wpAny_binaryOp_repeat_ref (T := "tuple") (U := "int") (by decide) ⟨_, ho, rfl⟩ (fun s' => typeIs_int s' 1 t) noFill_tuple_mul F.fills_int_mul F.slot_int_rmul repeat_tuple F.slot_int_index.lookup
    (call_meets F.slot_int_rmul (typeIs_int s 1 t) F.entry_int_rmul (F.args_int_rmul_2 _ _) (int_rmul_tuple 1 t l its.toArray n dd sl)
      ⟨ho, rfl, ⟨_, ho, rfl⟩, call_meets F.slot_tuple_mul ⟨_, ho, rfl⟩ F.entry_tuple_mul (F.args_tuple_mul_2 _ _) (tuple_mul1 l its.toArray n dd sl t) ⟨ho, ?_⟩⟩)
  exact ⟨.ref l, H, I, rfl, q⟩
end L2
namespace Ab
open PySem PySem.Spec PyProof.Rows L2
def repW' (k : Nat) (xs : List Val) : List Val := (List.replicate k xs).flatten
theorem Reps.rep {mg : Str → Option Value} {ι : List Addr} {H : Hp} {xs : List Val} {vs : List V} (r : Reps mg ι H xs vs) : ∀ k : Nat, Reps mg ι H (repW' k xs) (List.replicate k vs).flatten
  | 0 => .nil
  | k + 1 => by
    unfold repW'
    rw [List.replicate_succ, List.replicate_succ, List.flatten_cons, List.flatten_cons]
    exact r.append (Reps.rep r k)
/-- t * k, t a tuple that is not empty -/
@[reducible] def vRepT : Val → Val → Store → R Val
  | .tup xs, .int k, st => if xs ≠ [] ∧ 1 ≤ k ∧ k ≤ 1000 ∧ xs.length ≤ 1000 then .ok (.tup (repW' k.toNat xs)) st else .bad
  | _, _, _ => .bad
/-- xs * k, xs a list of our own -/
@[reducible] def vRepL : Val → Val → Store → R Val
  | .ref n, .int k, st => match st[n]? with
    | some (.lst xs) => if -1000 ≤ k ∧ k ≤ 1000 ∧ xs.length ≤ 1000 then .ok (.ref st.length) (st ++ [.lst (repW' k.toNat xs)]) else .bad
    | _ => .bad
  | _, _, _ => .bad
theorem quiet_repT (x y : Val) (st : Store) : Quiet (vRepT x y st) := by
  intro e s h
  unfold vRepT at h
  split at h
  · split at h <;> cases h
  · cases h
theorem quiet_repL (x y : Val) (st : Store) : Quiet (vRepL x y st) := by
  intro e s h
  unfold vRepL at h
  split at h
  · split at h
    · split at h <;> cases h
    · cases h
  · cases h
section
variable {X : Cx}
theorem m2_repT : M2 X (binaryOp .Mult) vRepT := by
  rintro pins s σ H x y u1 u2 Q I rx ry ⟨ι, st, w1, w2, S, r1, r2, p⟩
  unfold vRepT at p
  split at p
  · rename_i xs k
    obtain ⟨a, vs, e1, ha, r⟩ := Rep.tup_inv r1
    have e2 := Rep.int_inv r2
    subst e1 e2
    split at p
    · rename_i hh
      obtain ⟨h0, h1, h2, h3⟩ := hh
      by_cases hk : k = 1
      · subst hk
        refine op_repT1 pins s σ H _ _ u1 u2 Q I rx ry ⟨a, vs, rfl, rfl, SqT.of ha, ?_⟩
        have e : repW' (1 : Int).toNat xs = xs := by simp [repW']
        rw [e] at p
        exact p.okSame S r1
      · refine op_repT pins s σ H _ _ u1 u2 Q I rx ry ⟨a, k, vs, rfl, rfl, SqT.of ha, ?_, by omega, h2, by rw [← r.length]; exact h3, fun q hq => ?_⟩
        · intro e
          have := r.length
          rw [e] at this
          exact h0 (List.eq_nil_of_length_eq_zero this)
        · exact p.newTup S (r.rep _) hq
    · exact p.elim
  · exact p.elim
theorem m2_repL : M2 X (binaryOp .Mult) vRepL := by
  rintro pins s σ H x y u1 u2 Q I rx ry ⟨ι, st, w1, w2, S, r1, r2, p⟩
  unfold vRepL at p
  split at p
  · rename_i n k
    obtain ⟨a, e1, ha⟩ := Rep.ref_inv r1
    have e2 := Rep.int_inv r2
    subst e1 e2
    split at p
    · rename_i xs ec
      obtain ⟨vs, h1, rr⟩ := S.at ec ha
      split at p
      · rename_i hh
        obtain ⟨h2, h3, h4⟩ := hh
        refine op_rep pins s σ H _ _ u1 u2 Q I rx ry ⟨a, k, vs, rfl, rfl, h1, by omega, by omega, ?_, fun q hq => ?_⟩
        · rw [← rr.length, sizeLine_eq]
          have a1 : xs.length * k.toNat ≤ 1000 * 1000 := Nat.mul_le_mul h4 (by omega)
          omega
        · exact p.newLst S (rr.rep _) hq
      · exact p.elim
    · exact p.elim
  · exact p.elim
end
end Ab

set_option Elab.async false
set_option linter.all false
set_option maxRecDepth 100000
set_option maxHeartbeats 1000000
/-! Ab: += and -= of ints; an attribute as a target. -/
namespace Ab
open PySem PySem.Spec PyProof.Rows L2
@[reducible] def vIAdd : Val → Val → Store → R Val
  | .int i, .int j, st => .ok (.int (i + j)) st
  | _, _, _ => .bad
@[reducible] def vISub : Val → Val → Store → R Val
  | .int i, .int j, st => .ok (.int (i - j)) st
  | _, _, _ => .bad
theorem quiet_iadd (x y : Val) (st : Store) : Quiet (vIAdd x y st) := by
  intro e s h; unfold vIAdd at h; split at h <;> cases h
theorem quiet_isub (x y : Val) (st : Store) : Quiet (vISub x y st) := by
  intro e s h; unfold vISub at h; split at h <;> cases h
section
variable {X : Cx}
theorem m2_iadd : M2 X (inplaceOp .Add) vIAdd := by
  rintro pins s σ H x y u1 u2 Q I rx ry ⟨ι, st, w1, w2, S, r1, r2, p⟩
  unfold vIAdd at p
  split at p
  · have e1 := Rep.int_inv r1; have e2 := Rep.int_inv r2
    subst e1 e2
    exact iop_add pins s σ H _ _ u1 u2 Q I rx ry ⟨_, _, rfl, rfl, p.okSame S Rep.int⟩
  · exact p.elim
theorem m2_isub : M2 X (inplaceOp .Sub) vISub := by
  rintro pins s σ H x y u1 u2 Q I rx ry ⟨ι, st, w1, w2, S, r1, r2, p⟩
  unfold vISub at p
  split at p
  · have e1 := Rep.int_inv r1; have e2 := Rep.int_inv r2
    subst e1 e2
    exact iop_sub pins s σ H _ _ u1 u2 Q I rx ry ⟨_, _, rfl, rfl, p.okSame S Rep.int⟩
  · exact p.elim
end
/-- o.f as a target -/
@[reducible] def gFld (cs : List Nat) (f : Nat) (mo : ME) : MG := fun w ρ st => match mo ρ st with
  | .ok x st1 => match x with
    | .ref n => match st1[n]? with
      | some (.ins C fs) => if C ∈ cs ∧ fs.length < 1000 then some (ρ, st1.set n (.ins C (putM f w fs))) else none
      | _ => none
    | _ => none
  | _ => none
theorem jg_fld {X : Cx} {o : Expr} {mo : ME} {cs : List Nat} {f : Nat} {fN : Str} {pos : Pos} (hc : ∀ C ∈ cs, FldOk X.K X.mg C f) (ho : JE X o mo) (hn : fN = nm f := by decide +kernel) (tk : Takes X W0 := takes0) : JG X (.Attribute o fN pos) [] (gFld cs f mo) := by
  subst hn
  refine ⟨fun pins s σ H v u Q I r h => ?_⟩
  obtain ⟨ι, ρ, st, w, S, sl, rw_, p⟩ := h
  rw [assign_Attribute]
  dsimp only [gFld] at p
  refine wpAny_bind (wpAny_holding (thn ((ho W0 tk).run pins s σ H (fun x H1 => ∃ a Ca dx fs, x = .ref a ∧ H1 a = some (.ins Ca dx fs) ∧ Cls X.K Ca ∧ NoAttr X.K Ca (nm f) ∧ fs.length < 1000 ∧ Q σ (upd H1 a (.ins Ca dx (putF (nm f) v fs)))) I ?_) fun ov s1 ⟨x, H1, I1, r1, a, Ca, dx, fs, ex, ea, c, n, hl, q1⟩ => ?_))
  · refine ⟨ι, ρ, st, S, sl, ?_⟩
    cases q1 : mo ρ st with
    | bad => rw [q1] at p; exact p.elim
    | exc x s => rw [q1] at p; exact p.elim
    | ok x st1 =>
      rw [q1] at p
      intro ι1 H1 xv l1 S1 r1
      dsimp only at p
      split at p
      · rename_i n
        obtain ⟨a, e, hA⟩ := Rep.ref_inv r1
        subst e
        split at p
        · rename_i C fs ec
          split at p
          · rename_i hC
            obtain ⟨Ca, dx, vs, e2, e3, rf⟩ := S1.at ec hA
            obtain ⟨hf, hk⟩ := hc C hC.1
            obtain ⟨c1, c2⟩ := hk Ca e2
            obtain ⟨S3, l3⟩ := S1.putIns ec hA e3 e2 rf hf (Rep.later l1 rw_)
            refine ⟨a, Ca, dx, vs, rfl, e3, c1, c2, by rw [← rf.length]; exact hC.2, ?_⟩
            exact p ι1 _ σ (l1.trans l3) S3 ((sl.later l1).later l3) (OutS.refl _ _)
          · exact p.elim
        · exact p.elim
      · exact p.elim
  · subst ex
    obtain rfl : ov = Value.ref a := r1
    refine wpAny_bind (wpAny_standAt (wpAny_bind (wpAny_holding (setattr_ok I1 ea c n hl r fun s2 I2 => ?_))))
    exact wpAny_release ⟨σ, _, I2, q1⟩
end Ab
namespace Ab
open PySem PySem.Spec L2
/-- the context of a def's body at its entry -/
abbrev cx1 (T : Wh) (N : List Str) (qual : Str) (st : Stmt) (f : Addr) (cdv : Value) (A : Around) (outer : List Env) (s : Shared) (H : Hp) (E : XK) : Cx := cxOf (L2.CX T.P T.w) T.P T.w T.K T.mg T.base N qual (defScope st) f cdv A outer s H E
theorem cx1_pass {T : Wh} {N : List Str} {qual : Str} {st : Stmt} {f : Addr} {cdv : Value} {A : Around} {outer : List Env} {s : Shared} {H : Hp} {E : XK} : PassesOwn (model (cx1 T N qual st f cdv A outer s H E).prog (cx1 T N qual st f cdv A outer s H E).w) (cx1 T N qual st f cdv A outer s H E).A (cx1 T N qual st f cdv A outer s H E).env (cx1 T N qual st f cdv A outer s H E).xe := passes_of rfl
/-- THE RULE for a def, the context told -/
theorem fnM_of1 {T : Wh} {x qual : Str} {st : Stmt} {f : Addr} {fd : FuncData} {N ps : List Str} {k n m : Nat} {body : MS} (F : Fun T.K x qual st f fd) (hb : Binds T.K fd ps []) (S : FnScope N ps (defScope st)) (hn : ps.length = n) (hm : N.length = n + m)
    (h : ∀ (cdv : Value) (A : Around) (outer : List Env) (s : Shared) (H : Hp) (E : XK), Room k (cx1 T N qual st f cdv A outer s H E).A → JSs (cx1 T N qual st f cdv A outer s H E) (defBody st) body) :
    FnM T (k + 1) n f (defM n m body) := by
  refine ⟨fd, ps, hn, F.kp, hb, F.okX S (fun vs H Q E hsp => ?_) (fun cdv A outer s H vs Q E hr hsp => ?_)⟩
  · obtain ⟨ι, ws, st', S', r, p⟩ := hsp
    unfold defM at p
    split at p
    · rename_i hl
      rw [← r.length, hl, hn]
    · exact p.elim
  · obtain ⟨ι, ws, st', S', r, p⟩ := hsp
    unfold defM at p
    split at p
    · rename_i hl
      have j := h cdv A outer s H E hr
      refine ⟨_, j (fun cls d _ H => E cls d H) (takes_of rfl rfl rfl rfl), ι, _, st', S', slots_start r (by rw [hl]; exact hm), ?_⟩
      show PostO T.K T.mg _ ι H _ (body (ws.map some ++ List.replicate m none) st')
      cases q : body (ws.map some ++ List.replicate m none) st' with
      | nx ρ s1 => rw [q] at p; exact fun ι1 H1 σ1 l S1 sl => p ι1 H1 _ l S1 Rep.non
      | ret w s1 => rw [q] at p; exact p
      | exc x ρ s1 => rw [q] at p; exact fun ι1 H1 σ1 c d l S1 sl r => p ι1 H1 c d l S1 r
      | brk ρ s1 => rw [q] at p; exact p.elim
      | ct ρ s1 => rw [q] at p; exact p.elim
      | bad => rw [q] at p; exact p.elim
    · exact p.elim
theorem tbl1 {P : Nat → MF → Prop} {C : Nat} {mf : MF} (h : P C mf) : ∀ C' mf', (C', mf') ∈ [(C, mf)] → P C' mf' := fun C' mf' hm => by
  cases List.mem_singleton.mp hm
  exact h
theorem fld1 {P : Nat → Prop} {C : Nat} (h : P C) : ∀ D ∈ [C], P D := fun D hm => by
  cases List.mem_singleton.mp hm
  exact h
theorem fnMR_of1 {T : Wh} {x qual : Str} {st : Stmt} {f : Addr} {fd : FuncData} {N ps : List Str} {pv : Str} {k n m : Nat} {body : MS} (F : Fun T.K x qual st f fd) (S : FnScope N (ps ++ [pv]) (defScope st)) (hn : ps.length = n) (hm : N.length = n + 1 + m)
    (hb : ∀ (kV doc pm : Value) (an : Option Addr) (cdv ct : Value) (us rest : List Value), us.length = ps.length → bindArgs (PySem.W.fnOf x qual (defArgs st) (defBody st) (defScope st) .none kV doc pm an cdv ct) ⟨us ++ rest, []⟩ = (newTuple rest >>= fun t => pure (ps.zip us ++ [(pv, t)])))
    (h : ∀ (cdv : Value) (A : Around) (outer : List Env) (s : Shared) (H : Hp) (E : XK), Room k (cx1 T N qual st f cdv A outer s H E).A → JSs (cx1 T N qual st f cdv A outer s H E) (defBody st) body) :
    FnMR T (k + 1) f (defStarM n m body) := by
  obtain ⟨oc, od, kV, doc, pm, an, cdv, ct, osl, rfl, lk, hcd⟩ := F.ex
  refine ⟨F.kp, FnR.imp (StX.fn_star (ps := ps) (pv := pv) (sp := fun vs H Q E => ∃ ι ws st', Sim T.K T.mg ι st' H ∧ Reps T.mg ι H ws vs ∧ ws.length = n + 1 ∧ Post T.K T.mg (rel1 T.mg) ι H Q E (body (ws.map some ++ List.replicate m none) st').fin) lk hcd S StX.cxUp (hb kV doc pm an cdv ct) fun A outer s H vs Q E hr hsp => ?_) fun vs H Q E hsp => ?_⟩
  · obtain ⟨ι, ws, st', S', r, hl, p⟩ := hsp
    have j := h cdv A outer s H E hr
    refine ⟨_, j (fun cls d _ H => E cls d H) (takes_of rfl rfl rfl rfl), ι, _, st', S', slots_start r (by rw [hl]; exact hm), ?_⟩
    show PostO T.K T.mg _ ι H _ (body (ws.map some ++ List.replicate m none) st')
    cases q : body (ws.map some ++ List.replicate m none) st' with
    | nx ρ s1 => rw [q] at p; exact fun ι1 H1 σ1 l S1 sl => p ι1 H1 _ l S1 Rep.non
    | ret w s1 => rw [q] at p; exact p
    | exc x ρ s1 => rw [q] at p; exact fun ι1 H1 σ1 c d l S1 sl r => p ι1 H1 c d l S1 r
    | brk ρ s1 => rw [q] at p; exact p.elim
    | ct ρ s1 => rw [q] at p; exact p.elim
    | bad => rw [q] at p; exact p.elim
  · obtain ⟨ι, ws, st', S', r, p⟩ := hsp
    unfold defStarM at p
    split at p
    · rename_i hl
      have lv := r.length
      have r1 : Reps T.mg ι H (ws.take n) (vs.take n) := r.take n
      have r2 : Reps T.mg ι H (ws.drop n) (vs.drop n) := r.drop n
      refine ⟨vs.take n, vs.drop n, (List.take_append_drop n vs).symm, by rw [List.length_take, hn]; omega, by rw [List.length_drop, sizeLine_eq]; omega, fun q hq => ?_⟩
      have hs := same_new (o := .tup (vs.drop n)) hq
      refine ⟨ι, _, st', S'.same hs, (r1.later (Same.laterH hs)).append (.cons (Rep.newTup hq r2) .nil), by rw [List.length_append, List.length_take]; simp; omega, Post.later p (Same.laterH hs)⟩
    · exact p.elim
end Ab

set_option Elab.async false
set_option linter.all false
set_option maxRecDepth 100000
set_option maxHeartbeats 4000000
/-! Ab: the except suite of _law_outcome, as a mirror, and what it tells. -/
namespace Ab
open PySem PySem.Spec PyProof.Rows L2
/-- what of the text a class of exceptions must have -/
structure ExAll (T : Wh) (D : Nat) (Da : Addr) : Prop where
  ec : ExcC T.K Da
  xf : XfC T.K Da
  nof : ∀ f ∈ [24, 25, 26, 27, 28], PySem.W.findIn T.K (.ref Da) (nm f) = some none
  isC : ∀ C ∈ [1, 2, 4, 6, 7, 8, 9, 10], ∀ Ca, T.mg (nm C) = some (.ref Ca) → PySem.W.kitOne T.K (.ref Da) (.ref Ca) = some (decide (D = C))
  isV : PySem.W.kitOne T.K (.ref Da) (.type "ValueError") = some true
  row : ∀ RA, T.mg "RowError" = some (.ref RA) → PySem.W.exmOne T.K (.ref Da) (.ref RA) = some true
theorem cls_own {X : Cx} {a : Addr} {pn : List (Addr × Obj)} {cn : Str} {Ca : Addr} {p : Pos} (hm : X.mg cn = some (.ref Ca)) (hg : Gl X cn := by rfl) (hd : (cn == ("__debug__" : Str)) = false := by decide) :
    ∃ v, RelV v (.ref Ca) ∧ (∀ u, RelV v u → u = .ref Ca) ∧ PE (X.suite a pn) (.Name cn p) (tC v) := ⟨.ref Ca, rfl, fun u h => h, pe_glob (X := X.suite a pn) hg hm rfl hd⟩
theorem cls_blt {X : Cx} {a : Addr} {pn : List (Addr × Obj)} {cn : Str} {t : String} {p : Pos} (hm : X.mg cn = none) (hv : bootBuiltins cn = some (.type t)) (hg : Gl X cn := by rfl) (hn : cn ≠ "__name__" := by decide) (hd : (cn == ("__debug__" : Str)) = false := by decide) :
    ∃ v, RelV v (.type t) ∧ (∀ u, RelV v u → u = .type t) ∧ PE (X.suite a pn) (.Name cn p) (tC v) := ⟨.ty t, rfl, fun u h => h, pe_bltn (X := X.suite a pn) hg hm hv rfl hn hd⟩
@[reducible] def isD (aa : Addr) (d : Option Addr) (Dn c : Nat) : ME := mIsE 1 aa d (decide (Dn = c))
def mSuite (aa : Addr) (d : Option Addr) (Dn : Nat) : MS :=
  sSeq (sSet 2 (mLst (aCons (isD aa d Dn 9) (aCons (isD aa d Dn 10) (aCons (isD aa d Dn 4) aNil)))))
  (sSeq (sDrop (mBM "list" vExtend (mVar 2) (aCons (mLst (aCons (isD aa d Dn 7) (aCons (isD aa d Dn 1) (aCons (isD aa d Dn 8) aNil)))) aNil)))
  (sSeq (sDrop (mBM "list" vExtend (mVar 2) (aCons (mLst (aCons (isD aa d Dn 6) (aCons (isD aa d Dn 2) aNil))) aNil)))
  (sSeq (sIf (tOrM (mTest (mBin vNe (mBM "list" vCount (mVar 2) (aCons (mC (.bl true)) aNil)) (mC (.int 1)))) (tNotM (mTest (mIsE 1 aa d true)))) (sRet (mTup (aCons (mC (.str "other")) aNil))) sNext)
  (sSeq (sSet 3 (mBin vIx (mLst (aCons (mC (.str "daybook")) (aCons (mC (.str "code")) (aCons (mC (.str "number")) (aCons (mC (.str "operation")) (aCons (mC (.str "row")) (aCons (mC (.str "text")) (aCons (mC (.str "weather")) (aCons (mC (.str "barrel")) aNil))))))))) (mBM "list" vIndex (mVar 2) (aCons (mC (.bl true)) aNil))))
  (sSeq (sIf (mTest (mBin vIn (mVar 3) (mTup (aCons (mC (.str "daybook")) (aCons (mC (.str "text")) aNil))))) (sRet (mTup (aCons (mVar 3) (aCons (mXf 1 aa d 27) aNil)))) sNext)
  (sSeq (sIf (mTest (mBin vEq (mVar 3) (mC (.str "row")))) (sRet (mTup (aCons (mVar 3) (aCons (mXf 1 aa d 24) (aCons (mXf 1 aa d 25) aNil))))) sNext)
  (sSeq (sIf (mTest (mBin vEq (mVar 3) (mC (.str "weather")))) (sRet (mTup (aCons (mVar 3) (aCons (mXf 1 aa d 24) aNil)))) sNext)
  (sSeq (sIf (mTest (mBin vEq (mVar 3) (mC (.str "number")))) (sRet (mTup (aCons (mVar 3) aNil))) sNext)
  (sRet (mTup (aCons (mVar 3) (aCons (mIf (mTest (mBin vEq (mVar 3) (mC (.str "code")))) (mXf 1 aa d 28) (mIf (mTest (mBin vEq (mVar 3) (mC (.str "operation")))) (mXf 1 aa d 25) (mXf 1 aa d 26))) aNil)))))))))))) 

theorem findX_app {dd : Addr} {st1 : Store} {fs : List (Nat × Val)} {ls : List (List Val)} : findX dd (st1 ++ [.xfs dd fs] ++ ls.map .lst) = some fs := by
  unfold findX
  rw [List.reverse_append, List.findSome?_append]
  have h : (ls.map Cell.lst).reverse.findSome? (xOf dd) = none := by
    rw [List.findSome?_eq_none_iff]
    intro x hx
    rw [List.mem_reverse] at hx
    obtain ⟨l, _, e⟩ := List.mem_map.mp hx
    subst e
    rfl
  rw [h, List.reverse_append]
  simp [xOf]
theorem okX_app {y : Exc} {d : Option Addr} {st1 : Store} (ls : List (List Val)) : okX d (st1 ++ xst y d ++ ls.map .lst) = true := by
  cases d with
  | none => rfl
  | some dd =>
    unfold okX
    dsimp only [xst]
    rw [findX_app]; rfl
def k3 (D : Nat) : List Val := [.bl (decide (D = 9)), .bl (decide (D = 10)), .bl (decide (D = 4))]
def k5 (D : Nat) : List Val := [.bl (decide (D = 7)), .bl (decide (D = 1)), .bl (decide (D = 8))]
def k7 (D : Nat) : List Val := [.bl (decide (D = 6)), .bl (decide (D = 2))]
def wordsL : List Val := [.str "daybook", .str "code", .str "number", .str "operation", .str "row", .str "text", .str "weather", .str "barrel"]
theorem at0 {S : Store} {a : Cell} {r : List Cell} : (S ++ a :: r)[S.length]? = some a := by simp
theorem at1 {S : Store} {a b : Cell} {r : List Cell} : (S ++ a :: b :: r)[S.length + 1]? = some b := by simp
theorem at2 {S : Store} {a b c : Cell} {r : List Cell} : (S ++ a :: b :: c :: r)[S.length + 2]? = some c := by simp
theorem at3 {S : Store} {a b c d : Cell} {r : List Cell} : (S ++ a :: b :: c :: d :: r)[S.length + 3]? = some d := by simp
theorem set0 {S : Store} {a b : Cell} {r : List Cell} : (S ++ a :: r).set S.length b = S ++ b :: r := by simp
/-- the first lines -/
theorem suite_head (aa : Addr) (d : Option Addr) (D : Nat) (S : Store) (rest : MS) (ok : ∀ ls : List (List Val), okX d (S ++ ls.map .lst) = true) :
    (sSeq (sSet 2 (mLst (aCons (isD aa d D 9) (aCons (isD aa d D 10) (aCons (isD aa d D 4) aNil)))))
      (sSeq (sDrop (mBM "list" vExtend (mVar 2) (aCons (mLst (aCons (isD aa d D 7) (aCons (isD aa d D 1) (aCons (isD aa d D 8) aNil)))) aNil)))
      (sSeq (sDrop (mBM "list" vExtend (mVar 2) (aCons (mLst (aCons (isD aa d D 6) (aCons (isD aa d D 2) aNil))) aNil))) rest))) [none, some (.adr aa), none, none] S =
    rest [none, some (.adr aa), some (.ref S.length), none] (S ++ [.lst (k3 D ++ k5 D ++ k7 D), .lst (k5 D), .lst (k7 D)]) := by
  have o0 := ok []
  have o1 := ok [k3 D]
  have o2 := ok [k3 D ++ k5 D, k5 D]
  simp only [List.map_cons, List.map_nil, List.append_nil] at o0 o1 o2
  have e : ∀ (S : Store) c, okX d S = true → isD aa d D c [none, some (.adr aa), none, none] S = .ok (.bl (decide (D = c))) S := fun S c h => by
    show (if aa = aa ∧ okX d S = true then R.ok (Val.bl (decide (D = c))) S else .bad) = _
    rw [if_pos ⟨rfl, h⟩]
  have e2 : ∀ (S : Store) c, okX d S = true → isD aa d D c [none, some (.adr aa), some (.ref S.length), none] S = .ok (.bl (decide (D = c))) S := fun S c h => by
    show (if aa = aa ∧ okX d S = true then R.ok (Val.bl (decide (D = c))) S else .bad) = _
    rw [if_pos ⟨rfl, h⟩]
  have e3 : ∀ (n : Nat) (S : Store) c, okX d S = true → isD aa d D c [none, some (.adr aa), some (.ref n), none] S = .ok (.bl (decide (D = c))) S := fun n S c h => by
    show (if aa = aa ∧ okX d S = true then R.ok (Val.bl (decide (D = c))) S else .bad) = _
    rw [if_pos ⟨rfl, h⟩]
  have z3 : (3 : Nat) ≤ sizeLine := by rw [sizeLine_eq]; omega
  have z2 : (2 : Nat) ≤ sizeLine := by rw [sizeLine_eq]; omega
  have z6 : (3 + 3 : Nat) ≤ sizeLine := by rw [sizeLine_eq]; omega
  have z8 : (6 + 2 : Nat) ≤ sizeLine := by rw [sizeLine_eq]; omega
  have s1 : sSet 2 (mLst (aCons (isD aa d D 9) (aCons (isD aa d D 10) (aCons (isD aa d D 4) aNil)))) [none, some (.adr aa), none, none] S = .nx [none, some (.adr aa), some (.ref S.length), none] (S ++ [.lst (k3 D)]) := by
    simp only [sSet, R.toO, mLst, aCons, e S _ o0, R.bind, aNil]
    rw [if_pos (by simpa using z3)]
    rfl
  have s2 : sDrop (mBM "list" vExtend (mVar 2) (aCons (mLst (aCons (isD aa d D 7) (aCons (isD aa d D 1) (aCons (isD aa d D 8) aNil)))) aNil)) [none, some (.adr aa), some (.ref S.length), none] (S ++ [.lst (k3 D)]) =
      .nx [none, some (.adr aa), some (.ref S.length), none] (S ++ [.lst (k3 D ++ k5 D), .lst (k5 D)]) := by
    have t : tyOk "list" (.ref S.length) (S ++ [.lst (k3 D)]) = true := by simp [tyOk]
    have v : mVar 2 [none, some (.adr aa), some (.ref S.length), none] (S ++ [.lst (k3 D)]) = .ok (.ref S.length) (S ++ [.lst (k3 D)]) := rfl
    simp only [sDrop, R.toO, mBM, v, R.bind, t, if_true, mLst, aCons, e3 S.length _ _ o1, aNil]
    rw [if_pos (by simpa using z3)]
    have l : (S ++ [Cell.lst (k3 D)]).length = S.length + 1 := by simp
    have q : S ++ [Cell.lst (k3 D)] ++ [Cell.lst [.bl (decide (D = 7)), .bl (decide (D = 1)), .bl (decide (D = 8))]] = S ++ [Cell.lst (k3 D), Cell.lst (k5 D)] := by rw [List.append_assoc]; rfl
    simp only [q, l, vExtend, at0, at1]
    rw [if_pos (by simpa [k3, k5] using z6), set0]
  have s3 : sDrop (mBM "list" vExtend (mVar 2) (aCons (mLst (aCons (isD aa d D 6) (aCons (isD aa d D 2) aNil))) aNil)) [none, some (.adr aa), some (.ref S.length), none] (S ++ [.lst (k3 D ++ k5 D), .lst (k5 D)]) =
      .nx [none, some (.adr aa), some (.ref S.length), none] (S ++ [.lst (k3 D ++ k5 D ++ k7 D), .lst (k5 D), .lst (k7 D)]) := by
    have t : tyOk "list" (.ref S.length) (S ++ [.lst (k3 D ++ k5 D), .lst (k5 D)]) = true := by simp [tyOk]
    have v : mVar 2 [none, some (.adr aa), some (.ref S.length), none] (S ++ [.lst (k3 D ++ k5 D), .lst (k5 D)]) = .ok (.ref S.length) (S ++ [.lst (k3 D ++ k5 D), .lst (k5 D)]) := rfl
    simp only [sDrop, R.toO, mBM, v, R.bind, t, if_true, mLst, aCons, e3 S.length _ _ o2, aNil]
    rw [if_pos (by simpa using z2)]
    have l : (S ++ [Cell.lst (k3 D ++ k5 D), Cell.lst (k5 D)]).length = S.length + 2 := by simp
    have q : S ++ [Cell.lst (k3 D ++ k5 D), Cell.lst (k5 D)] ++ [Cell.lst [.bl (decide (D = 6)), .bl (decide (D = 2))]] = S ++ [Cell.lst (k3 D ++ k5 D), Cell.lst (k5 D), Cell.lst (k7 D)] := by rw [List.append_assoc]; rfl
    simp only [q, l, vExtend, at0, at2]
    rw [if_pos (by simpa [k3, k5, k7] using z8), set0]
  simp only [sSeq, s1, O.then, s2, s3]

@[reducible] def mEnd (aa : Addr) (d : Option Addr) : MS :=
  (sSeq (sIf (mTest (mBin vIn (mVar 3) (mTup (aCons (mC (.str "daybook")) (aCons (mC (.str "text")) aNil))))) (sRet (mTup (aCons (mVar 3) (aCons (mXf 1 aa d 27) aNil)))) sNext)
  (sSeq (sIf (mTest (mBin vEq (mVar 3) (mC (.str "row")))) (sRet (mTup (aCons (mVar 3) (aCons (mXf 1 aa d 24) (aCons (mXf 1 aa d 25) aNil))))) sNext)
  (sSeq (sIf (mTest (mBin vEq (mVar 3) (mC (.str "weather")))) (sRet (mTup (aCons (mVar 3) (aCons (mXf 1 aa d 24) aNil)))) sNext)
  (sSeq (sIf (mTest (mBin vEq (mVar 3) (mC (.str "number")))) (sRet (mTup (aCons (mVar 3) aNil))) sNext)
  (sRet (mTup (aCons (mVar 3) (aCons (mIf (mTest (mBin vEq (mVar 3) (mC (.str "code")))) (mXf 1 aa d 28) (mIf (mTest (mBin vEq (mVar 3) (mC (.str "operation")))) (mXf 1 aa d 25) (mXf 1 aa d 26))) aNil))))))))
@[reducible] def mTail (aa : Addr) (d : Option Addr) : MS :=
  (sSeq (sIf (tOrM (mTest (mBin vNe (mBM "list" vCount (mVar 2) (aCons (mC (.bl true)) aNil)) (mC (.int 1)))) (tNotM (mTest (mIsE 1 aa d true)))) (sRet (mTup (aCons (mC (.str "other")) aNil))) sNext)
  (sSeq (sSet 3 (mBin vIx (mLst (aCons (mC (.str "daybook")) (aCons (mC (.str "code")) (aCons (mC (.str "number")) (aCons (mC (.str "operation")) (aCons (mC (.str "row")) (aCons (mC (.str "text")) (aCons (mC (.str "weather")) (aCons (mC (.str "barrel")) aNil))))))))) (mBM "list" vIndex (mVar 2) (aCons (mC (.bl true)) aNil))))
  (sSeq (sIf (mTest (mBin vIn (mVar 3) (mTup (aCons (mC (.str "daybook")) (aCons (mC (.str "text")) aNil))))) (sRet (mTup (aCons (mVar 3) (aCons (mXf 1 aa d 27) aNil)))) sNext)
  (sSeq (sIf (mTest (mBin vEq (mVar 3) (mC (.str "row")))) (sRet (mTup (aCons (mVar 3) (aCons (mXf 1 aa d 24) (aCons (mXf 1 aa d 25) aNil))))) sNext)
  (sSeq (sIf (mTest (mBin vEq (mVar 3) (mC (.str "weather")))) (sRet (mTup (aCons (mVar 3) (aCons (mXf 1 aa d 24) aNil)))) sNext)
  (sSeq (sIf (mTest (mBin vEq (mVar 3) (mC (.str "number")))) (sRet (mTup (aCons (mVar 3) aNil))) sNext)
  (sRet (mTup (aCons (mVar 3) (aCons (mIf (mTest (mBin vEq (mVar 3) (mC (.str "code")))) (mXf 1 aa d 28) (mIf (mTest (mBin vEq (mVar 3) (mC (.str "operation")))) (mXf 1 aa d 25) (mXf 1 aa d 26))) aNil))))))))))
theorem end_row {aa : Addr} {d : Option Addr} {ρ : Slots} {S : Store} {w24 w25 : Val} (v : ∀ s, mVar 3 ρ s = .ok (.str "row") s) (h24 : mXf 1 aa d 24 ρ S = .ok w24 S) (h25 : mXf 1 aa d 25 ρ S = .ok w25 S) : mEnd aa d ρ S = .ret (.tup [.str "row", w24, w25]) S := by
  have z1 : (1 : Nat) ≤ sizeLine := by rw [sizeLine_eq]; omega
  have z2 : (2 : Nat) ≤ sizeLine := by rw [sizeLine_eq]; omega
  have z3 : (3 : Nat) ≤ sizeLine := by rw [sizeLine_eq]; omega
  have c0 : inW (.str "row") [.str "daybook", .str "text"] = false := by decide +kernel
  have c1 : decide (("row" : Str) = "row") = true := by decide +kernel
  have c2 : decide (("row" : Str) = "weather") = false := by decide +kernel
  have c3 : decide (("row" : Str) = "number") = false := by decide +kernel
  have c4 : decide (("row" : Str) = "code") = false := by decide +kernel
  have c5 : decide (("row" : Str) = "operation") = false := by decide +kernel
  have f0 : (flatW (.str "row") && List.all [Val.str "daybook", .str "text"] flatW) = true := rfl
  have l1 : [Val.str "row"].length ≤ sizeLine := z1
  have l2 : ∀ a b : Val, [a, b].length ≤ sizeLine := fun _ _ => z2
  have l3 : ∀ a b c : Val, [a, b, c].length ≤ sizeLine := fun _ _ _ => z3
  simp only [mEnd, sSeq, sIf, mTest, mBin, v, R.bind, mTup, aCons, aNil, mC, if_true, vIn, f0, c0, asB, R.toO, Bool.false_eq_true, if_false, sNext, O.then, vEq, c1, c2, c3, c4, c5, decide_true, sRet, mIf, l1, l2, l3, h24, h25]
theorem end_barrel {aa : Addr} {d : Option Addr} {ρ : Slots} {S : Store} {w26 : Val} (v : ∀ s, mVar 3 ρ s = .ok (.str "barrel") s) (h26 : mXf 1 aa d 26 ρ S = .ok w26 S) : mEnd aa d ρ S = .ret (.tup [.str "barrel", w26]) S := by
  have z1 : (1 : Nat) ≤ sizeLine := by rw [sizeLine_eq]; omega
  have z2 : (2 : Nat) ≤ sizeLine := by rw [sizeLine_eq]; omega
  have z3 : (3 : Nat) ≤ sizeLine := by rw [sizeLine_eq]; omega
  have c0 : inW (.str "barrel") [.str "daybook", .str "text"] = false := by decide +kernel
  have c1 : decide (("barrel" : Str) = "row") = false := by decide +kernel
  have c2 : decide (("barrel" : Str) = "weather") = false := by decide +kernel
  have c3 : decide (("barrel" : Str) = "number") = false := by decide +kernel
  have c4 : decide (("barrel" : Str) = "code") = false := by decide +kernel
  have c5 : decide (("barrel" : Str) = "operation") = false := by decide +kernel
  have f0 : (flatW (.str "barrel") && List.all [Val.str "daybook", .str "text"] flatW) = true := rfl
  have l1 : [Val.str "barrel"].length ≤ sizeLine := z1
  have l2 : ∀ a b : Val, [a, b].length ≤ sizeLine := fun _ _ => z2
  have l3 : ∀ a b c : Val, [a, b, c].length ≤ sizeLine := fun _ _ _ => z3
  simp only [mEnd, sSeq, sIf, mTest, mBin, v, R.bind, mTup, aCons, aNil, mC, if_true, vIn, f0, c0, asB, R.toO, Bool.false_eq_true, if_false, sNext, O.then, vEq, c1, c2, c3, c4, c5, decide_true, sRet, mIf, l1, l2, l3, h26]
theorem end_number {aa : Addr} {d : Option Addr} {ρ : Slots} {S : Store} {w0 : Val} (v : ∀ s, mVar 3 ρ s = .ok (.str "number") s)  : mEnd aa d ρ S = .ret (.tup [.str "number"]) S := by
  have z1 : (1 : Nat) ≤ sizeLine := by rw [sizeLine_eq]; omega
  have z2 : (2 : Nat) ≤ sizeLine := by rw [sizeLine_eq]; omega
  have z3 : (3 : Nat) ≤ sizeLine := by rw [sizeLine_eq]; omega
  have c0 : inW (.str "number") [.str "daybook", .str "text"] = false := by decide +kernel
  have c1 : decide (("number" : Str) = "row") = false := by decide +kernel
  have c2 : decide (("number" : Str) = "weather") = false := by decide +kernel
  have c3 : decide (("number" : Str) = "number") = true := by decide +kernel
  have c4 : decide (("number" : Str) = "code") = false := by decide +kernel
  have c5 : decide (("number" : Str) = "operation") = false := by decide +kernel
  have f0 : (flatW (.str "number") && List.all [Val.str "daybook", .str "text"] flatW) = true := rfl
  have l1 : [Val.str "number"].length ≤ sizeLine := z1
  have l2 : ∀ a b : Val, [a, b].length ≤ sizeLine := fun _ _ => z2
  have l3 : ∀ a b c : Val, [a, b, c].length ≤ sizeLine := fun _ _ _ => z3
  simp only [mEnd, sSeq, sIf, mTest, mBin, v, R.bind, mTup, aCons, aNil, mC, if_true, vIn, f0, c0, asB, R.toO, Bool.false_eq_true, if_false, sNext, O.then, vEq, c1, c2, c3, c4, c5, decide_true, sRet, mIf, l1, l2, l3]
theorem end_weather {aa : Addr} {d : Option Addr} {ρ : Slots} {S : Store} {w24 : Val} (v : ∀ s, mVar 3 ρ s = .ok (.str "weather") s) (h24 : mXf 1 aa d 24 ρ S = .ok w24 S) : mEnd aa d ρ S = .ret (.tup [.str "weather", w24]) S := by
  have z1 : (1 : Nat) ≤ sizeLine := by rw [sizeLine_eq]; omega
  have z2 : (2 : Nat) ≤ sizeLine := by rw [sizeLine_eq]; omega
  have z3 : (3 : Nat) ≤ sizeLine := by rw [sizeLine_eq]; omega
  have c0 : inW (.str "weather") [.str "daybook", .str "text"] = false := by decide +kernel
  have c1 : decide (("weather" : Str) = "row") = false := by decide +kernel
  have c2 : decide (("weather" : Str) = "weather") = true := by decide +kernel
  have c3 : decide (("weather" : Str) = "number") = false := by decide +kernel
  have c4 : decide (("weather" : Str) = "code") = false := by decide +kernel
  have c5 : decide (("weather" : Str) = "operation") = false := by decide +kernel
  have f0 : (flatW (.str "weather") && List.all [Val.str "daybook", .str "text"] flatW) = true := rfl
  have l1 : [Val.str "weather"].length ≤ sizeLine := z1
  have l2 : ∀ a b : Val, [a, b].length ≤ sizeLine := fun _ _ => z2
  have l3 : ∀ a b c : Val, [a, b, c].length ≤ sizeLine := fun _ _ _ => z3
  simp only [mEnd, sSeq, sIf, mTest, mBin, v, R.bind, mTup, aCons, aNil, mC, if_true, vIn, f0, c0, asB, R.toO, Bool.false_eq_true, if_false, sNext, O.then, vEq, c1, c2, c3, c4, c5, decide_true, sRet, mIf, l1, l2, l3, h24]
theorem end_operation {aa : Addr} {d : Option Addr} {ρ : Slots} {S : Store} {w25 : Val} (v : ∀ s, mVar 3 ρ s = .ok (.str "operation") s) (h25 : mXf 1 aa d 25 ρ S = .ok w25 S) : mEnd aa d ρ S = .ret (.tup [.str "operation", w25]) S := by
  have z1 : (1 : Nat) ≤ sizeLine := by rw [sizeLine_eq]; omega
  have z2 : (2 : Nat) ≤ sizeLine := by rw [sizeLine_eq]; omega
  have z3 : (3 : Nat) ≤ sizeLine := by rw [sizeLine_eq]; omega
  have c0 : inW (.str "operation") [.str "daybook", .str "text"] = false := by decide +kernel
  have c1 : decide (("operation" : Str) = "row") = false := by decide +kernel
  have c2 : decide (("operation" : Str) = "weather") = false := by decide +kernel
  have c3 : decide (("operation" : Str) = "number") = false := by decide +kernel
  have c4 : decide (("operation" : Str) = "code") = false := by decide +kernel
  have c5 : decide (("operation" : Str) = "operation") = true := by decide +kernel
  have f0 : (flatW (.str "operation") && List.all [Val.str "daybook", .str "text"] flatW) = true := rfl
  have l1 : [Val.str "operation"].length ≤ sizeLine := z1
  have l2 : ∀ a b : Val, [a, b].length ≤ sizeLine := fun _ _ => z2
  have l3 : ∀ a b c : Val, [a, b, c].length ≤ sizeLine := fun _ _ _ => z3
  simp only [mEnd, sSeq, sIf, mTest, mBin, v, R.bind, mTup, aCons, aNil, mC, if_true, vIn, f0, c0, asB, R.toO, Bool.false_eq_true, if_false, sNext, O.then, vEq, c1, c2, c3, c4, c5, decide_true, sRet, mIf, l1, l2, l3, h25]
theorem end_text {aa : Addr} {d : Option Addr} {ρ : Slots} {S : Store} {w27 : Val} (v : ∀ s, mVar 3 ρ s = .ok (.str "text") s) (h27 : mXf 1 aa d 27 ρ S = .ok w27 S) : mEnd aa d ρ S = .ret (.tup [.str "text", w27]) S := by
  have z1 : (1 : Nat) ≤ sizeLine := by rw [sizeLine_eq]; omega
  have z2 : (2 : Nat) ≤ sizeLine := by rw [sizeLine_eq]; omega
  have z3 : (3 : Nat) ≤ sizeLine := by rw [sizeLine_eq]; omega
  have c0 : inW (.str "text") [.str "daybook", .str "text"] = true := by decide +kernel
  have c1 : decide (("text" : Str) = "row") = false := by decide +kernel
  have c2 : decide (("text" : Str) = "weather") = false := by decide +kernel
  have c3 : decide (("text" : Str) = "number") = false := by decide +kernel
  have c4 : decide (("text" : Str) = "code") = false := by decide +kernel
  have c5 : decide (("text" : Str) = "operation") = false := by decide +kernel
  have f0 : (flatW (.str "text") && List.all [Val.str "daybook", .str "text"] flatW) = true := rfl
  have l1 : [Val.str "text"].length ≤ sizeLine := z1
  have l2 : ∀ a b : Val, [a, b].length ≤ sizeLine := fun _ _ => z2
  have l3 : ∀ a b c : Val, [a, b, c].length ≤ sizeLine := fun _ _ _ => z3
  simp only [mEnd, sSeq, sIf, mTest, mBin, v, R.bind, mTup, aCons, aNil, mC, if_true, vIn, f0, c0, asB, R.toO, Bool.false_eq_true, if_false, sNext, O.then, vEq, c1, c2, c3, c4, c5, decide_true, sRet, mIf, l1, l2, l3, h27]
theorem end_daybook {aa : Addr} {d : Option Addr} {ρ : Slots} {S : Store} {w27 : Val} (v : ∀ s, mVar 3 ρ s = .ok (.str "daybook") s) (h27 : mXf 1 aa d 27 ρ S = .ok w27 S) : mEnd aa d ρ S = .ret (.tup [.str "daybook", w27]) S := by
  have z1 : (1 : Nat) ≤ sizeLine := by rw [sizeLine_eq]; omega
  have z2 : (2 : Nat) ≤ sizeLine := by rw [sizeLine_eq]; omega
  have z3 : (3 : Nat) ≤ sizeLine := by rw [sizeLine_eq]; omega
  have c0 : inW (.str "daybook") [.str "daybook", .str "text"] = true := by decide +kernel
  have c1 : decide (("daybook" : Str) = "row") = false := by decide +kernel
  have c2 : decide (("daybook" : Str) = "weather") = false := by decide +kernel
  have c3 : decide (("daybook" : Str) = "number") = false := by decide +kernel
  have c4 : decide (("daybook" : Str) = "code") = false := by decide +kernel
  have c5 : decide (("daybook" : Str) = "operation") = false := by decide +kernel
  have f0 : (flatW (.str "daybook") && List.all [Val.str "daybook", .str "text"] flatW) = true := rfl
  have l1 : [Val.str "daybook"].length ≤ sizeLine := z1
  have l2 : ∀ a b : Val, [a, b].length ≤ sizeLine := fun _ _ => z2
  have l3 : ∀ a b c : Val, [a, b, c].length ≤ sizeLine := fun _ _ _ => z3
  simp only [mEnd, sSeq, sIf, mTest, mBin, v, R.bind, mTup, aCons, aNil, mC, if_true, vIn, f0, c0, asB, R.toO, Bool.false_eq_true, if_false, sNext, O.then, vEq, c1, c2, c3, c4, c5, decide_true, sRet, mIf, l1, l2, l3, h27]
theorem end_code {aa : Addr} {d : Option Addr} {ρ : Slots} {S : Store} {w28 : Val} (v : ∀ s, mVar 3 ρ s = .ok (.str "code") s) (h28 : mXf 1 aa d 28 ρ S = .ok w28 S) : mEnd aa d ρ S = .ret (.tup [.str "code", w28]) S := by
  have z1 : (1 : Nat) ≤ sizeLine := by rw [sizeLine_eq]; omega
  have z2 : (2 : Nat) ≤ sizeLine := by rw [sizeLine_eq]; omega
  have z3 : (3 : Nat) ≤ sizeLine := by rw [sizeLine_eq]; omega
  have c0 : inW (.str "code") [.str "daybook", .str "text"] = false := by decide +kernel
  have c1 : decide (("code" : Str) = "row") = false := by decide +kernel
  have c2 : decide (("code" : Str) = "weather") = false := by decide +kernel
  have c3 : decide (("code" : Str) = "number") = false := by decide +kernel
  have c4 : decide (("code" : Str) = "code") = true := by decide +kernel
  have c5 : decide (("code" : Str) = "operation") = false := by decide +kernel
  have f0 : (flatW (.str "code") && List.all [Val.str "daybook", .str "text"] flatW) = true := rfl
  have l1 : [Val.str "code"].length ≤ sizeLine := z1
  have l2 : ∀ a b : Val, [a, b].length ≤ sizeLine := fun _ _ => z2
  have l3 : ∀ a b c : Val, [a, b, c].length ≤ sizeLine := fun _ _ _ => z3
  simp only [mEnd, sSeq, sIf, mTest, mBin, v, R.bind, mTup, aCons, aNil, mC, if_true, vIn, f0, c0, asB, R.toO, Bool.false_eq_true, if_false, sNext, O.then, vEq, c1, c2, c3, c4, c5, decide_true, sRet, mIf, l1, l2, l3, h28]
theorem suite_run (y : Exc) (ws : List Val) (h : outV y = some ws) (hf : ws.all flatW = true) (aa : Addr) (d : Option Addr) (st1 : Store) (hd : y.fs = [] ∧ d = none ∨ ∃ dd, d = some dd) :
    ∃ junk, mSuite aa d y.cls [none, some (.adr aa), none, none] (st1 ++ xst y d) = .ret (.tup ws) (st1 ++ junk) := by
  have ok : ∀ ls : List (List Val), okX d (st1 ++ xst y d ++ ls.map .lst) = true := fun ls => okX_app ls
  have hl : ∀ dd, d = some dd → ∀ ls : List (List Val), findX dd (st1 ++ xst y d ++ ls.map .lst) = some y.fs := fun dd e ls => by subst e; exact findX_app
  obtain ⟨cls, fs⟩ := y
  dsimp only at hd hl
  suffices z : ∃ ls : List (List Val), mSuite aa d cls [none, some (.adr aa), none, none] (st1 ++ xst ⟨cls, fs⟩ d) = .ret (.tup ws) (st1 ++ xst ⟨cls, fs⟩ d ++ ls.map .lst) by
    obtain ⟨ls, z⟩ := z
    exact ⟨xst ⟨cls, fs⟩ d ++ ls.map .lst, by rw [z, List.append_assoc]⟩
  generalize hS : st1 ++ xst ⟨cls, fs⟩ d = S at *
  have hm := outV_cls h
  simp only [excs, List.mem_cons, List.not_mem_nil, or_false] at hm
  have step : mSuite aa d cls [none, some (.adr aa), none, none] S = mTail aa d [none, some (.adr aa), some (.ref S.length), none] (S ++ [.lst (k3 cls ++ k5 cls ++ k7 cls), .lst (k5 cls), .lst (k7 cls)]) := suite_head aa d cls S _ ok
  rw [step]
  have okT := ok [k3 cls ++ k5 cls ++ k7 cls, k5 cls, k7 cls]
  simp only [List.map_cons, List.map_nil] at okT
  have hV : mIsE 1 aa d true [none, some (.adr aa), some (.ref S.length), none] (S ++ [.lst (k3 cls ++ k5 cls ++ k7 cls), .lst (k5 cls), .lst (k7 cls)]) = .ok (.bl true) (S ++ [.lst (k3 cls ++ k5 cls ++ k7 cls), .lst (k5 cls), .lst (k7 cls)]) := by
    show (if aa = aa ∧ okX d _ = true then R.ok (Val.bl true) _ else .bad) = _
    rw [if_pos ⟨rfl, okT⟩]
  have hi : ∀ (w : Option Val) (r : List Cell), mVar 2 [none, some (.adr aa), some (.ref S.length), w] (S ++ r) = .ok (.ref S.length) (S ++ r) := fun w r => rfl
  have hT : ∀ a r, tyOk "list" (.ref S.length) (S ++ Cell.lst a :: r) = true := fun a r => by simp [tyOk]
  have hq : ∀ a r, seqAt (S ++ Cell.lst a :: r) S.length = some a := fun a r => by simp [seqAt]
  have z1 : (1 : Nat) ≤ sizeLine := by rw [sizeLine_eq]; omega
  have z2 : (2 : Nat) ≤ sizeLine := by rw [sizeLine_eq]; omega
  have z3 : (3 : Nat) ≤ sizeLine := by rw [sizeLine_eq]; omega
  have z8 : (8 : Nat) ≤ sizeLine := by rw [sizeLine_eq]; omega
  have L : (S ++ [Cell.lst (k3 cls ++ k5 cls ++ k7 cls), .lst (k5 cls), .lst (k7 cls)]).length = S.length + 3 := by simp
  have ap : ∀ c, S ++ [Cell.lst (k3 cls ++ k5 cls ++ k7 cls), .lst (k5 cls), .lst (k7 cls)] ++ [c] = S ++ [Cell.lst (k3 cls ++ k5 cls ++ k7 cls), .lst (k5 cls), .lst (k7 cls), c] := fun c => by rw [List.append_assoc]; rfl
  have cnt : mBM "list" vCount (mVar 2) (aCons (mC (.bl true)) aNil) [none, some (.adr aa), some (.ref S.length), none] (S ++ [.lst (k3 cls ++ k5 cls ++ k7 cls), .lst (k5 cls), .lst (k7 cls)]) = .ok (.int (countW (.bl true) (k3 cls ++ k5 cls ++ k7 cls) : Nat)) (S ++ [.lst (k3 cls ++ k5 cls ++ k7 cls), .lst (k5 cls), .lst (k7 cls)]) := by
    simp only [mBM, hi, R.bind, hT, if_true, aCons, aNil, mC, vCount, hq]
    rw [if_pos (by simp [k3, k5, k7, flatW])]
  by_cases h1 : countW (.bl true) (k3 cls ++ k5 cls ++ k7 cls) = 1
  · have g : (!decide (((countW (.bl true) (k3 cls ++ k5 cls ++ k7 cls) : Nat) : Int) = 1)) = false := by
      rw [h1]; rfl
    have words : mLst (aCons (mC (.str "daybook")) (aCons (mC (.str "code")) (aCons (mC (.str "number")) (aCons (mC (.str "operation")) (aCons (mC (.str "row")) (aCons (mC (.str "text")) (aCons (mC (.str "weather")) (aCons (mC (.str "barrel")) aNil)))))))) [none, some (.adr aa), some (.ref S.length), none] (S ++ [.lst (k3 cls ++ k5 cls ++ k7 cls), .lst (k5 cls), .lst (k7 cls)]) =
        .ok (.ref (S.length + 3)) (S ++ [.lst (k3 cls ++ k5 cls ++ k7 cls), .lst (k5 cls), .lst (k7 cls), .lst wordsL]) := by
      simp only [mLst, aCons, mC, aNil, R.bind]
      rw [if_pos (by simpa using z8), L, ap]; rfl
    have ix : ∀ (j : Nat) (w : Str), placeW (.bl true) (k3 cls ++ k5 cls ++ k7 cls) = some j → wordsL[j]? = some (.str w) →
        mBin vIx (mLst (aCons (mC (.str "daybook")) (aCons (mC (.str "code")) (aCons (mC (.str "number")) (aCons (mC (.str "operation")) (aCons (mC (.str "row")) (aCons (mC (.str "text")) (aCons (mC (.str "weather")) (aCons (mC (.str "barrel")) aNil))))))))) (mBM "list" vIndex (mVar 2) (aCons (mC (.bl true)) aNil)) [none, some (.adr aa), some (.ref S.length), none] (S ++ [.lst (k3 cls ++ k5 cls ++ k7 cls), .lst (k5 cls), .lst (k7 cls)]) =
        .ok (.str w) (S ++ [.lst (k3 cls ++ k5 cls ++ k7 cls), .lst (k5 cls), .lst (k7 cls), .lst wordsL]) := by
      intro j w e1 e2
      have hj : j < 8 := (List.getElem?_eq_some_iff.mp e2).1
      simp only [mBin, words, R.bind, mBM, hi, hT, if_true, aCons, aNil, mC, vIndex, hq]
      rw [if_pos (by simp [k3, k5, k7, flatW]), e1]
      dsimp only [vIx]
      have q : seqAt (S ++ [.lst (k3 cls ++ k5 cls ++ k7 cls), .lst (k5 cls), .lst (k7 cls), .lst wordsL]) (S.length + 3) = some wordsL := by unfold seqAt; rw [at3]
      have a : L2.atI wordsL ((j : Nat) : Int) = some (.str w) := by
        unfold L2.atI L2.ixN
        rw [if_pos (by omega), if_pos (by show ((j : Nat) : Int) < ((wordsL.length : Nat) : Int); exact_mod_cast hj)]
        simpa using e2
      simp only [q, a]
    have fx : ∀ f w, fs.lookup f = some w → d ≠ none ∧ ∀ (o : Option Val) (r : List (List Val)), mXf 1 aa d f [none, some (.adr aa), some (.ref S.length), o] (S ++ r.map .lst) = .ok w (S ++ r.map .lst) := by
      intro f w e
      rcases hd with ⟨e1, _⟩ | ⟨dd, e1⟩
      · rw [e1] at e; cases e
      · subst e1
        refine ⟨by simp, fun o r => ?_⟩
        show (if aa = aa then (match findX dd (S ++ r.map Cell.lst) with | some fs => (match fs.lookup f with | some w => R.ok w (S ++ r.map Cell.lst) | none => .bad) | none => .bad) else .bad) = _
        rw [if_pos rfl, hl dd rfl r]
        simp only [e]
    refine ⟨[k3 cls ++ k5 cls ++ k7 cls, k5 cls, k7 cls, wordsL], ?_⟩
    have fin : ∀ (j : Nat) (w : Str), placeW (.bl true) (k3 cls ++ k5 cls ++ k7 cls) = some j → wordsL[j]? = some (.str w) →
        mTail aa d [none, some (.adr aa), some (.ref S.length), none] (S ++ [.lst (k3 cls ++ k5 cls ++ k7 cls), .lst (k5 cls), .lst (k7 cls)]) =
        mEnd aa d [none, some (.adr aa), some (.ref S.length), some (.str w)] (S ++ [.lst (k3 cls ++ k5 cls ++ k7 cls), .lst (k5 cls), .lst (k7 cls), .lst wordsL]) := by
      intro j w e1 e2
      have c1 : sIf (tOrM (mTest (mBin vNe (mBM "list" vCount (mVar 2) (aCons (mC (.bl true)) aNil)) (mC (.int 1)))) (tNotM (mTest (mIsE 1 aa d true)))) (sRet (mTup (aCons (mC (.str "other")) aNil))) sNext [none, some (.adr aa), some (.ref S.length), none] (S ++ [.lst (k3 cls ++ k5 cls ++ k7 cls), .lst (k5 cls), .lst (k7 cls)]) =
          .nx [none, some (.adr aa), some (.ref S.length), none] (S ++ [.lst (k3 cls ++ k5 cls ++ k7 cls), .lst (k5 cls), .lst (k7 cls)]) := by
        simp only [sIf, tOrM, mTest, mBin, cnt, R.bind, mC, vNe, asB, g, Bool.false_eq_true, if_false, tNotM, hV, Bool.not_true, R.toO, sNext]
      have c2 := ix j w e1 e2
      have c3 : sSet 3 (mBin vIx (mLst (aCons (mC (.str "daybook")) (aCons (mC (.str "code")) (aCons (mC (.str "number")) (aCons (mC (.str "operation")) (aCons (mC (.str "row")) (aCons (mC (.str "text")) (aCons (mC (.str "weather")) (aCons (mC (.str "barrel")) aNil))))))))) (mBM "list" vIndex (mVar 2) (aCons (mC (.bl true)) aNil))) [none, some (.adr aa), some (.ref S.length), none] (S ++ [.lst (k3 cls ++ k5 cls ++ k7 cls), .lst (k5 cls), .lst (k7 cls)]) =
          .nx [none, some (.adr aa), some (.ref S.length), some (.str w)] (S ++ [.lst (k3 cls ++ k5 cls ++ k7 cls), .lst (k5 cls), .lst (k7 cls), .lst wordsL]) := by
        unfold sSet
        rw [c2]
        rfl
      show O.then (sIf _ _ _ _ _) _ = _
      rw [c1]
      show O.then (sSet 3 _ _ _) _ = _
      rw [c3]
    have z2' := z2
    rcases hm with e | e | e | e | e | e | e | e | e | e <;> subst e
    case inr.inr.inl => exact absurd h1 (by decide +kernel)
    case inr.inr.inr.inr.inl => exact absurd h1 (by decide +kernel)
    case inl => exact (fin 4 "row" (by decide +kernel) rfl).trans (by
      have h : (match fs.lookup 24, fs.lookup 25 with | some w, some u => some [.str "row", w, u] | _, _ => none) = some ws := h
      cases e1 : fs.lookup 24 with
      | none => rw [e1] at h; cases h
      | some w =>
        cases e2 : fs.lookup 25 with
        | none => rw [e1, e2] at h; cases h
        | some u =>
          rw [e1, e2] at h
          cases h
          exact end_row (fun s => rfl) ((fx 24 w e1).2 _ [k3 1 ++ k5 1 ++ k7 1, k5 1, k7 1, wordsL]) ((fx 25 u e2).2 _ [k3 1 ++ k5 1 ++ k7 1, k5 1, k7 1, wordsL]))
    case inr.inl => exact (fin 7 "barrel" (by decide +kernel) rfl).trans (by
      have h : (fs.lookup 26).map (fun w => [.str "barrel", w]) = some ws := h
      obtain ⟨w, e1, rfl⟩ := Option.map_eq_some_iff.mp h
      exact end_barrel (fun s => rfl) ((fx 26 w e1).2 _ [k3 2 ++ k5 2 ++ k7 2, k5 2, k7 2, wordsL]))
    case inr.inr.inr.inl => exact (fin 2 "number" (by decide +kernel) rfl).trans (by
      have h : some [Val.str "number"] = some ws := h
      cases h
      exact end_number (w0 := .non) (fun s => rfl))
    case inr.inr.inr.inr.inr.inl => exact (fin 6 "weather" (by decide +kernel) rfl).trans (by
      have h : (fs.lookup 24).map (fun w => [.str "weather", w]) = some ws := h
      obtain ⟨w, e1, rfl⟩ := Option.map_eq_some_iff.mp h
      exact end_weather (fun s => rfl) ((fx 24 w e1).2 _ [k3 6 ++ k5 6 ++ k7 6, k5 6, k7 6, wordsL]))
    case inr.inr.inr.inr.inr.inr.inl => exact (fin 3 "operation" (by decide +kernel) rfl).trans (by
      have h : (fs.lookup 25).map (fun w => [.str "operation", w]) = some ws := h
      obtain ⟨w, e1, rfl⟩ := Option.map_eq_some_iff.mp h
      exact end_operation (fun s => rfl) ((fx 25 w e1).2 _ [k3 7 ++ k5 7 ++ k7 7, k5 7, k7 7, wordsL]))
    case inr.inr.inr.inr.inr.inr.inr.inl => exact (fin 5 "text" (by decide +kernel) rfl).trans (by
      have h : (fs.lookup 27).map (fun w => [.str "text", w]) = some ws := h
      obtain ⟨w, e1, rfl⟩ := Option.map_eq_some_iff.mp h
      exact end_text (fun s => rfl) ((fx 27 w e1).2 _ [k3 8 ++ k5 8 ++ k7 8, k5 8, k7 8, wordsL]))
    case inr.inr.inr.inr.inr.inr.inr.inr.inl => exact (fin 0 "daybook" (by decide +kernel) rfl).trans (by
      have h : (fs.lookup 27).map (fun w => [.str "daybook", w]) = some ws := h
      obtain ⟨w, e1, rfl⟩ := Option.map_eq_some_iff.mp h
      exact end_daybook (fun s => rfl) ((fx 27 w e1).2 _ [k3 9 ++ k5 9 ++ k7 9, k5 9, k7 9, wordsL]))
    case inr.inr.inr.inr.inr.inr.inr.inr.inr => exact (fin 1 "code" (by decide +kernel) rfl).trans (by
      have h : (fs.lookup 28).map (fun w => [.str "code", w]) = some ws := h
      obtain ⟨w, e1, rfl⟩ := Option.map_eq_some_iff.mp h
      exact end_code (fun s => rfl) ((fx 28 w e1).2 _ [k3 10 ++ k5 10 ++ k7 10, k5 10, k7 10, wordsL]))
  · -- the other kinds
    have e0 : ws = [.str "other"] := by
      rcases hm with e | e | e | e | e | e | e | e | e | e <;> subst e <;> first | (exfalso; exact h1 (by decide +kernel)) | (unfold outV at h; exact (Option.some.inj h).symm)
    subst e0
    refine ⟨[k3 cls ++ k5 cls ++ k7 cls, k5 cls, k7 cls], ?_⟩
    have g : (!decide (((countW (.bl true) (k3 cls ++ k5 cls ++ k7 cls) : Nat) : Int) = 1)) = true := by
      rw [decide_eq_false (by exact_mod_cast h1)]; rfl
    simp only [mTail, sSeq, sIf, tOrM, mTest, mBin, cnt, R.bind, mC, vNe, asB, g, if_true, R.toO, sRet, mTup, aCons, aNil]
    rw [if_pos (by simpa using z1)]
    rfl
end Ab

set_option Elab.async false
set_option linter.all false
set_option maxRecDepth 100000
set_option maxHeartbeats 1000000
/-! Ab: calls of objects (own __call__). -/
namespace Ab
open PySem PySem.Spec PyProof.Rows L2
theorem callWith_obj {M : Model} {A : Around} {E : Value → Shared → Prop} {s : Shared} {pos : Pos} {x : Addr} {first : List Value} {Q : Value → Shared → Prop} {args : List (Bool × Sem Value)} {keywords : List (Option Str × Sem Value)} (hplain : (args.any (·.1) || keywords.any (·.1.isNone)) = false)
    (h : wpAny M A (evalArgs (.ref x) true args keywords) (fun a s₁ => (∃ C ox od, ox.data = .plain ∧ PySem.W.InstAt s₁.heap x ox C od) ∧ wpAny M A (call (.ref x) (first ++ a.pos) a.kw) Q E s₁) E s) : wpAny M A (callWith pos (.ref x) first args keywords) Q E s := by
  unfold callWith
  refine wpAny_bind (wpAny_holding (wpAny_mono h (fun a s₁ h₁ => wpAny_bind (wpAny_standAt ?_)) fun _ _ y => y))
  obtain ⟨⟨C, ox, od, hd, I⟩, h2⟩ := h₁
  have L := PySem.W.kco_keeper (M := M) I hd
  simp only [hplain]
  refine wpAny_bind (L.here ?_)
  have tail : ∀ {t : Sem Value}, wpAny M A t Q E s₁ → wpAny M A (t >>= fun r => holding [r] point >>= fun _ => pure r) Q E s₁ :=
    fun ht => wpAny_bind (wpAny_mono ht (fun r s₂ hr => wpAny_bind (wpAny_holding (wpAny_point (wpAny_pure hr)))) fun _ _ y => y)
  exact tail (wpAny_operateT h2)
/-- a __call__ of the class of that number -/
def HasCall (T : Wh) (C : Nat) (k n : Nat) (mf : MF) : Prop := ∃ Ca f, T.mg (nm C) = some (.ref Ca) ∧ PySem.W.findIn T.K (.ref Ca) "__call__" = some (some (.ref f)) ∧ PySem.W.isFn T.K (.ref f) = true ∧ PySem.W.fnIn T.K f = true ∧ FnM T k n f mf
@[reducible] def mCall (C : Nat) (mf : MF) (mo : ME) (t : MA) : ME := fun ρ st => (mo ρ st).bind fun x st1 => if isIns C st1 x = true then (t ρ st1).bind fun vs st2 => if isIns C st2 x = true then mf (x :: vs) st2 else .bad else .bad
section
variable {X : Cx} {k n : Nat} {x : Str} {e : Expr} {es : List Expr} {mo : ME} {t : MA} {p pos : Pos} {mf : MF} {C : Nat}
theorem je_callO (h : HasCall (Cx.wh X) C k n mf) (hr : Room k X.A) (ho : JE X (.Name x p) mo) (ha : JA X (e :: es) t)
    (he : starEach (e :: es) X.env = (false, eval e X.env) :: starEach es X.env := by rfl) (hpl : (backTo pos (starEach es X.env)).any (·.1) = false := by rfl) : JE X (.Call (.Name x p) (e :: es) [] pos) (mCall C mf mo t) := fun W tk => by
  obtain ⟨Ca, f, hC, hs, hf, hfn, fd, ps, hl, hkp, hbd, F⟩ := h
  have hC : X.mg (nm C) = some (.ref Ca) := hC
  refine ⟨fun pins s σ H Q I ⟨ι, ρ, st, S, sl, q⟩ => ?_⟩
  refine wpAny_Call_Name_kw (thn ((ho W tk).run pins s σ H (fun v H1 => ∃ a, v = .ref a ∧ rdG X.K X.mg (relL X.mg) W t σ H1 (fun vs H2 => (∃ dx fs, H2 a = some (.ins Ca dx fs)) ∧ spM X.K X.mg mf (.ref a :: vs) H2 Q (WE W σ))) I ⟨ι, ρ, st, S, sl, Post.bind q fun v st1 ι1 H1 xv l1 S1 r1 p1 => ?_⟩) fun u s1 ⟨v, H1, I1, r1, a, ev, q1⟩ => ?_)
  · split at p1
    · rename_i hh
      obtain ⟨m, fs, e1, c1⟩ := isIns_at hh
      subst e1
      obtain ⟨xa, f1, g1⟩ := Rep.ref_inv r1
      subst f1
      refine ⟨xa, rfl, ι1, ρ, st1, S1, sl.later l1, Post.bind p1 fun vs st2 ι2 H2 us l2 S2 r2 p2 => ?_⟩
      split at p2
      · rename_i hh2
        obtain ⟨m2, fs2, e2, c2⟩ := isIns_at hh2
        cases e2
        obtain ⟨ya, f2, g2⟩ := Rep.ref_inv (Rep.later l2 (Rep.ref (mg := X.mg) g1))
        cases f2
        obtain ⟨Ca1, dx, vs1, i1, i2, i3⟩ := S2.at c2 g2
        rw [hC] at i1
        cases i1
        exact ⟨⟨dx, vs1, i2⟩, ι2, _, st2, S2, .cons (Rep.ref g2) r2, p2⟩
      · exact p2.elim
    · exact p1.elim
  · subst ev
    obtain rfl : u = Value.ref a := r1
    rw [he]
    refine callWith_obj (by show ((false || (backTo pos (starEach es X.env)).any (·.1)) || false) = false; rw [hpl]; rfl) (PySem.Calls.evalArgs_plain ?_)
    have := (ha W tk).run pos pins s1 σ H1 _ I1 q1
    rw [he] at this
    refine thn this fun us s2 ⟨vs, H2, I2, r, ⟨dx, fs, ea⟩, q2⟩ => ?_
    obtain ⟨mA, O, _⟩ := ins_get I2.hok ea
    obtain ⟨od, J, _⟩ := O.look
    refine ⟨⟨Ca, _, _, rfl, J⟩, ?_⟩
    have r' : Vals (V.ref a :: vs) (Value.ref a :: us) := .cons rfl r
    have hl2 : (Value.ref a :: us).length = ps.length := by rw [← r'.length]; exact F.len _ _ _ _ q2
    have b := hbd s2 (Value.ref a :: us) I2.kIn (by rw [List.append_nil]; exact hl2)
    rw [List.append_nil] at b
    refine wpAny_call (PySem.W.kco_code I2.kIn J rfl hs hf hfn (codeAny_mono (F.run X.A X.stack s2 H2 ⟨Value.ref a :: us, []⟩ (Value.ref a :: us) _ Q (WE W σ) hr I2.env0 b r' q2) fun r s' hq => ?_))
    cases r with
    | error er => exact passAt tk σ pins H2 s2 er s' I2 hq
    | ok fl =>
      cases fl with
      | ret u => exact I2.after hq
      | next => exact False.elim hq
      | brk => exact False.elim hq
      | cont => exact False.elim hq
end
end Ab

set_option Elab.async false
set_option linter.all false
set_option maxRecDepth 100000
set_option maxHeartbeats 1000000
/-! Ab: sums of tuples; own in, [], - (a text on the right), == and !=. -/
namespace Ab
open PySem PySem.Spec PyProof.Rows L2
def bSumT : List Val → Store → R Val
  | [.tup xs], st => match asInts xs with
    | some ns => .ok (.int ns.sum) st
    | none => .bad
  | _, _ => .bad
theorem quiet_sumT : ∀ xs st, Quiet (bSumT xs st) := by
  intro xs st x s h
  unfold bSumT at h
  split at h
  · split at h <;> cases h
  · cases h
section
variable {X : Cx}
theorem mc_sumT (hc : X.calm = true) : MC X (.builtin "sum") bSumT := by
  rintro pins s σ H xs us Q I rs ⟨ι, st, ws, S, rr, p⟩
  unfold bSumT at p
  split at p
  · rename_i ys
    obtain ⟨v, e, r⟩ := rr.one
    obtain ⟨a, vs, e2, ha, r2⟩ := r.tup_inv
    subst e e2
    split at p
    · rename_i ns hn
      have := asInts_some hn
      subst this
      have := Reps.ints r2
      subst this
      obtain ⟨its, rv, hl, _⟩ := I.tuple (SqT.of ha)
      rw [Vals.ref1 rs]
      obtain ⟨zs, e⟩ := rv.ints.allInts.items
      have hn' : numsOf (intItems zs).toList = ns := by rw [← e]; exact rv.ints.numsOf
      rw [nums_intItems] at hn'
      rw [e] at hl
      refine PySem.W.ktm_sumG (I.ok.hd hc) hl fun h' tk t' hk => ?_
      have : PySem.preSum (numAt zs) zs.size = ns.sum := by rw [preSum_eq, List.take_of_length_le (by simp), hn']
      rw [this]
      exact ⟨.int _, H, I.kept hk, ⟨_, rfl⟩, p.okSame S Rep.int⟩
    · exact p.elim
  · exact p.elim
end

/-! ### own in, [], - with a text, == and != -/
/-- a dunder of the class of that number -/
def HasDun (T : Wh) (C : Nat) (d : Str) (k n : Nat) (mf : MF) : Prop := ∃ Ca f, T.mg (nm C) = some (.ref Ca) ∧ PySem.W.findIn T.K (.ref Ca) d = some (some (.ref f)) ∧ PySem.W.isFn T.K (.ref f) = true ∧ PySem.W.fnIn T.K f = true ∧ FnM T k n f mf
/-- an own method of two that raises nothing and hands back a truth -/
def truR (C : Nat) (mf : MF) (neg : Bool) (x y : Val) (st : Store) : R Val := if isIns C st x = true then match mf [x, y] st with
    | .ok (.bl b) st2 => .ok (.bl (if neg then !b else b)) st2
    | _ => .bad
  else .bad
def vInO (C : Nat) (mf : MF) : Val → Val → Store → R Val := fun x y st => truR C mf false y x st
def vNinO (C : Nat) (mf : MF) : Val → Val → Store → R Val := fun x y st => truR C mf true y x st
def vEqO (C : Nat) (mf : MF) : Val → Val → Store → R Val := fun x y st => if isIns C st y = true then truR C mf false x y st else .bad
def vNeO (C : Nat) (mf : MF) : Val → Val → Store → R Val := fun x y st => if isIns C st y = true then truR C mf true x y st else .bad
theorem quiet_truR {C : Nat} {mf : MF} {neg : Bool} {x y : Val} {st : Store} : Quiet (truR C mf neg x y st) := by
  intro z s h
  unfold truR at h
  split at h
  · split at h <;> cases h
  · cases h
theorem quiet_inO (C : Nat) (mf : MF) : ∀ x y st, Quiet (vInO C mf x y st) := fun _ _ _ => quiet_truR
theorem quiet_ninO (C : Nat) (mf : MF) : ∀ x y st, Quiet (vNinO C mf x y st) := fun _ _ _ => quiet_truR
theorem quiet_eqO (C : Nat) (mf : MF) : ∀ x y st, Quiet (vEqO C mf x y st) := by
  intro x y st z s h
  unfold vEqO at h
  split at h
  · exact quiet_truR _ _ h
  · cases h
theorem quiet_neO (C : Nat) (mf : MF) : ∀ x y st, Quiet (vNeO C mf x y st) := by
  intro x y st z s h
  unfold vNeO at h
  split at h
  · exact quiet_truR _ _ h
  · cases h
section
variable {X : Cx} {k : Nat} {mf : MF} {C : Nat}
/-- the call of an own method of two that hands back a truth -/
theorem tru_call {neg : Bool} {A' : Around} {f : Addr} {pins : List (Addr × Obj)} {s : Shared} {σ : L2.St} {H : Hp} {ι : List Addr} {st : Store} {w1 w2 : Val} {x y : V} {u1 u2 : Value} {Q : VK} (F : FnM (Cx.wh X) k 2 f mf)
    (hrun : ∀ (fd : FuncData) (ps : List Str), FnOk X.prog X.w X.K X.mg X.base (L2.CX X.prog X.w) k f fd ps (spM X.K X.mg mf) → Binds X.K fd ps [] → ∀ (Q' : VK), spM X.K X.mg mf [x, y] H Q' (fun _ _ _ => False) → wpAny (model X.prog X.w) A' (call (.ref f) [u1, u2]) (EP X pins σ Q') X.xe s)
    (S : Sim X.K X.mg ι st H) (r1 : Rep X.mg ι H w1 x) (r2 : Rep X.mg ι H w2 y) (hh : isIns C st w1 = true)
    (p : Post X.K X.mg (rel1 X.mg) ι H Q (fun _ _ _ => False) (truR C mf neg w1 w2 st)) :
    wpAny (model X.prog X.w) A' (call (.ref f) [u1, u2]) (fun r s' => ∃ b, r = .bool b ∧ EP X pins σ Q (.bool (if neg then !b else b)) s') X.xe s := by
  obtain ⟨fd, ps, hl, hkp, hbd, F⟩ := F
  unfold truR at p
  rw [if_pos hh] at p
  refine thn (hrun fd ps F hbd (fun v H' => ∃ b, v = .bl b ∧ Q (.bl (if neg then !b else b)) H') ⟨ι, _, st, S, .cons r1 (.cons r2 .nil), ?_⟩) fun u s' hu => ?_
  · cases hm : mf [w1, w2] st with
    | ok w st2 =>
      rw [hm] at p
      intro ι' H' b l S2 r
      cases w with
      | bl c => exact ⟨c, Rep.bl_inv r, p ι' H' _ l S2 Rep.bl⟩
      | _ => exact p.elim
    | exc z st2 => rw [hm] at p; exact p.elim
    | bad => rw [hm] at p; exact p.elim
  · obtain ⟨v, H', I3, rv, b, ev, q⟩ := hu
    subst ev
    cases (show u = Value.bool b from rv)
    exact ⟨b, rfl, .bl _, H', I3, rfl, q⟩
theorem run0 {pins : List (Addr × Obj)} {s : Shared} {σ : L2.St} {H : Hp} {f : Addr} {x y : V} {u1 u2 : Value} (hr : Room k X.A) (I : Inv X pins σ H s) (r1 : RelV x u1) (r2 : RelV y u2) :
    ∀ (fd : FuncData) (ps : List Str), FnOk X.prog X.w X.K X.mg X.base (L2.CX X.prog X.w) k f fd ps (spM X.K X.mg mf) → Binds X.K fd ps [] → ∀ (Q' : VK), spM X.K X.mg mf [x, y] H Q' (fun _ _ _ => False) → wpAny (model X.prog X.w) X.A (call (.ref f) [u1, u2]) (EP X pins σ Q') X.xe s :=
  fun fd ps F hb Q' h => run_fnS (E := fun _ => E0) F hr hb (fun pins H s e s' I c => (passL (X := X)) pins σ H s e s' I c) I (.cons r1 (.cons r2 .nil)) h
theorem m2_inG (neg : Bool) {op : CmpOp} (hop : (neg = false ∧ op = .In) ∨ (neg = true ∧ op = .NotIn)) (h : HasDun (Cx.wh X) C "__contains__" k 2 mf) (hr : Room k X.A) : M2 X (compareOp op) (fun x y st => truR C mf neg y x st) := by
  obtain ⟨Ca, f, hC, hs, hf, hfn, F⟩ := h
  have hC : X.mg (nm C) = some (.ref Ca) := hC
  rintro pins s σ H x y u1 u2 Q I rx ry ⟨ι, st, w1, w2, S, r1, r2, p⟩
  by_cases hh : isIns C st w2 = true
  · obtain ⟨n, fs, e1, c1⟩ := isIns_at hh
    subst e1
    obtain ⟨a, e2, g⟩ := Rep.ref_inv r2
    subst e2
    obtain ⟨Ca1, dx, vs, i1, i2, i3⟩ := S.at c1 g
    rw [hC] at i1
    cases i1
    obtain rfl : u2 = Value.ref a := ry
    obtain ⟨mA, O, _⟩ := ins_get I.hok i2
    obtain ⟨od, J, _⟩ := O.look
    obtain ⟨m0, fr⟩ := I.fr
    have key := tru_call (neg := neg) F (run0 (x := V.ref a) (y := x) (u1 := Value.ref a) hr I rfl rx) S r2 r1 hh p
    rcases hop with ⟨rfl, rfl⟩ | ⟨rfl, rfl⟩
    · refine PySem.W.in_K fr I.ok.mod.kin J hs hf (thn key fun r s' hq => ?_)
      obtain ⟨b, rfl, q⟩ := hq
      exact wpAny_truthy_bool q
    · refine PySem.W.notIn_K fr I.ok.mod.kin J hs hf (thn key fun r s' hq => ?_)
      obtain ⟨b, rfl, q⟩ := hq
      exact wpAny_truthy_bool q
  · dsimp only at p
    unfold truR at p
    rw [if_neg hh] at p
    exact p.elim
theorem m2_inO (h : HasDun (Cx.wh X) C "__contains__" k 2 mf) (hr : Room k X.A) : M2 X (compareOp .In) (vInO C mf) := m2_inG false (.inl ⟨rfl, rfl⟩) h hr
theorem m2_ninO (h : HasDun (Cx.wh X) C "__contains__" k 2 mf) (hr : Room k X.A) : M2 X (compareOp .NotIn) (vNinO C mf) := m2_inG true (.inr ⟨rfl, rfl⟩) h hr
theorem m2_eqO (hu : X.A.units < cLine) (h : HasDun (Cx.wh X) C "__eq__" k 2 mf) (hr : Room k X.A) : M2 X (compareOp .Eq) (vEqO C mf) := by
  obtain ⟨Ca, f, hC, hs, hf, hfn, F⟩ := h
  have hC : X.mg (nm C) = some (.ref Ca) := hC
  rintro pins s σ H x y u1 u2 Q I rx ry ⟨ι, st, w1, w2, S, r1, r2, p⟩
  unfold vEqO at p
  split at p
  · rename_i hh2
    by_cases hh : isIns C st w1 = true
    · obtain ⟨n, fs, e1, c1⟩ := isIns_at hh
      subst e1
      obtain ⟨a, e2, g⟩ := Rep.ref_inv r1
      subst e2
      obtain ⟨Ca1, dx, vs, i1, i2, i3⟩ := S.at c1 g
      rw [hC] at i1
      cases i1
      obtain rfl : u1 = Value.ref a := rx
      obtain ⟨mA, O, _⟩ := ins_get I.hok i2
      obtain ⟨od, J, _⟩ := O.look
      obtain ⟨n', fs', e1', c1'⟩ := isIns_at hh2
      subst e1'
      obtain ⟨a', e2', g'⟩ := Rep.ref_inv r2
      subst e2'
      obtain ⟨Ca2, dx', vs', j1, j2, j3⟩ := S.at c1' g'
      rw [hC] at j1
      cases j1
      obtain rfl : u2 = Value.ref a' := ry
      obtain ⟨mA', O', _⟩ := ins_get I.hok j2
      obtain ⟨od', J', _⟩ := O'.look
      obtain ⟨m0, fr⟩ := I.fr
      have key := tru_call (neg := false) F (run0 (x := V.ref a) (y := V.ref a') (u1 := Value.ref a) (u2 := Value.ref a') hr I rfl rfl) S r1 r2 hh p
      show wpAny _ _ (richCompare .Eq _ _) _ _ _
      refine PySem.W.cmp_K (op := .Eq) hu fr I.ok.mod.kin J J'.type (by unfold PySem.W.notFirst; simp) hs hf (thn key fun r s' hq => ?_)
      obtain ⟨b, rfl, q⟩ := hq
      exact q
    · unfold truR at p
      rw [if_neg hh] at p
      exact p.elim
  · exact p.elim
end
/-- e[i] by an own __getitem__ -/
@[reducible] def mGetO (C : Nat) (mf : MF) (ma mb : ME) : ME := fun ρ st => (ma ρ st).bind fun x st1 => (mb ρ st1).bind fun y st2 => if isIns C st2 x = true then mf [x, y] st2 else .bad
section
variable {X : Cx} {k : Nat} {mf : MF} {C : Nat} {a b : Expr} {ma mb : ME} {pos : Pos} {op : Operator}
theorem je_getO (h : HasDun (Cx.wh X) C "__getitem__" k 2 mf) (hr : Room (k + 1) X.A) (ha : JE X a ma) (hb : JE X b mb)
    (hsl : ∀ x i, subscripted b true (.ref x) i = runValue (.builtin "lifetime.subscript" ⟨[.ref x, i], []⟩) := by exact fun _ _ => by with_unfolding_all rfl) : JE X (.Subscript a b pos) (mGetO C mf ma mb) := fun W tk => by
  obtain ⟨Ca, f, hC, hs, hf, hfn, fd, ps, hl, hkp, hbd, F⟩ := h
  have hC : X.mg (nm C) = some (.ref Ca) := hC
  refine ⟨fun pins s σ H Q I ⟨ι, ρ, st, S, sl, q⟩ => ?_⟩
  refine Subscript_ (binT (R := fun x y H2 => ∃ xa dx fx, x = .ref xa ∧ H2 xa = some (.ins Ca dx fx) ∧ spM X.K X.mg mf [.ref xa, y] H2 Q (WE W σ)) (ha W tk) (hb W tk) I ?_ fun v u s2 x y H2 I2 rx ry hq => ?_)
  · refine ⟨ι, ρ, st, S, sl, Post.bind q fun x st1 ι1 H1 xv l1 S1 r1 p1 => ?_⟩
    refine ⟨ι1, ρ, st1, S1, sl.later l1, Post.bind p1 fun y st2 ι2 H2 yv l2 S2 r2 p2 => ?_⟩
    split at p2
    · rename_i hh
      obtain ⟨n, fs, e1, c1⟩ := isIns_at hh
      have r1' := Rep.later l2 r1
      subst e1
      obtain ⟨xa, f1, g1⟩ := Rep.ref_inv r1'
      obtain ⟨Ca1, dx, vs, i1, i2, i3⟩ := S2.at c1 g1
      rw [hC] at i1
      cases i1
      subst f1
      exact ⟨xa, dx, vs, rfl, i2, ι2, _, st2, S2, .cons (Rep.ref g1) (.cons r2 .nil), p2⟩
    · exact p2.elim
  · obtain ⟨xa, dx, fx, e1, i1, hsp⟩ := hq
    subst e1
    cases rx
    obtain ⟨mA, O, _⟩ := ins_get I2.hok i1
    obtain ⟨od, J, _⟩ := O.look
    obtain ⟨m0, fr⟩ := I2.fr
    refine PySem.W.sub_K fr I2.ok.mod.kin J hs hfn hf ?_ (hsl _ _)
    have r' : Vals [V.ref xa, y] [Value.ref xa, u] := .cons rfl (.cons ry .nil)
    have hl2 : ([Value.ref xa, u] : List Value).length = ps.length := by rw [hl]; rfl
    have b := hbd s2 [Value.ref xa, u] I2.kIn (by rw [List.append_nil]; exact hl2)
    rw [List.append_nil] at b
    refine wpAny_call (codeAny_mono (F.run X.A.in1 X.stack s2 H2 ⟨[Value.ref xa, u], []⟩ [Value.ref xa, u] [V.ref xa, y] _ (WE W σ) hr.in1 I2.env0.in1 b r' hsp) fun r s' hq => ?_)
    cases r with
    | error er => exact passAt tk σ pins H2 s2 er s' I2 hq
    | ok fl =>
      cases fl with
      | ret u => exact I2.after hq
      | next => exact False.elim hq
      | brk => exact False.elim hq
      | cont => exact False.elim hq
/-- a - b with a text on the right, a's own operator -/
def HasOpT (T : Wh) (C : Nat) (op : Operator) (k : Nat) (mf : MF) : Prop := ∃ (Ca f : Addr) (fo ro rc : Option Value), T.mg (nm C) = some (.ref Ca) ∧ PySem.W.selfFirst T.K Ca = true ∧ PySem.W.findIn T.K (.ref Ca) (PySem.dunder op.info.2) = some (some (.ref f)) ∧ PySem.W.isFn T.K (.ref f) = true ∧
  PySem.W.findIn T.K (.ref Ca) (dunderR op.info.2) = some rc ∧ (rc = none ∨ ∃ g : Addr, rc = some (.ref g)) ∧ PySem.W.findIn T.K (.type "str") (PySem.dunder op.info.2) = some fo ∧ PySem.W.findIn T.K (.type "str") (dunderR op.info.2) = some ro ∧ PySem.W.subIn T.K (.type "str") (.ref Ca) = some false ∧ FnM T k 2 f mf
def isStr : Val → Bool
  | .str _ => true
  | _ => false
@[reducible] def mOpT (C : Nat) (mf : MF) (ma mb : ME) : ME := fun ρ st => (ma ρ st).bind fun x st1 => (mb ρ st1).bind fun y st2 => if isIns C st2 x = true ∧ isStr y = true then mf [x, y] st2 else .bad
theorem je_ownT (h : HasOpT (Cx.wh X) C op k mf) (hr : Room k X.A) (ha : JE X a ma) (hb : JE X b mb) : JE X (.BinOp a op b pos) (mOpT C mf ma mb) := fun W tk => by
  obtain ⟨Ca, f, fo, ro, rc, hC, hsf, hs, hfn, hrc, hp, h1, h2, hsub, fd, ps, hl, hkp, hbd, F⟩ := h
  have hC : X.mg (nm C) = some (.ref Ca) := hC
  refine ⟨fun pins s σ H Q I ⟨ι, ρ, st, S, sl, q⟩ => ?_⟩
  refine wpAny_BinOp (binT (R := fun x y H2 => ∃ xa dx fx z, x = .ref xa ∧ y = .str z ∧ H2 xa = some (.ins Ca dx fx) ∧ spM X.K X.mg mf [.ref xa, .str z] H2 Q (WE W σ)) (ha W tk) (hb W tk) I ?_ fun v u s2 x y H2 I2 rx ry hq => ?_)
  · refine ⟨ι, ρ, st, S, sl, Post.bind q fun x st1 ι1 H1 xv l1 S1 r1 p1 => ?_⟩
    refine ⟨ι1, ρ, st1, S1, sl.later l1, Post.bind p1 fun y st2 ι2 H2 yv l2 S2 r2 p2 => ?_⟩
    split at p2
    · rename_i hh
      obtain ⟨n, fs, e1, c1⟩ := isIns_at hh.1
      have r1' := Rep.later l2 r1
      subst e1
      cases y with
      | str z =>
        obtain ⟨xa, f1, g1⟩ := Rep.ref_inv r1'
        have f2 := Rep.str_inv r2
        obtain ⟨Ca1, dx, vs, i1, i2, i3⟩ := S2.at c1 g1
        rw [hC] at i1
        cases i1
        subst f1 f2
        exact ⟨xa, dx, vs, z, rfl, rfl, i2, ι2, _, st2, S2, .cons (Rep.ref g1) (.cons Rep.str .nil), p2⟩
      | _ => cases hh.2
    · exact p2.elim
  · obtain ⟨xa, dx, fx, z, e1, e2, i1, hsp⟩ := hq
    subst e1 e2
    cases rx
    obtain ⟨t, rfl⟩ := ry
    obtain ⟨mA, O, _⟩ := ins_get I2.hok i1
    obtain ⟨od, J, _⟩ := O.look
    obtain ⟨m0, fr⟩ := I2.fr
    refine PySem.W.ksp_binT (T := "str") (fo := fo) (ro := ro) (rc := rc) fr I2.ok.mod.kin J rfl hsf hs hfn hrc hp h1 h2 hsub ?_
    refine thn (run_fnS (us := [.ref xa, .str z t]) (vs := [.ref xa, .str z]) F hr hbd (passAt tk σ) I2 (.cons rfl (.cons ⟨t, rfl⟩ .nil)) hsp) fun u s3 hh => ?_
    obtain ⟨v3, H3, I3, r3, q3⟩ := hh
    have zz : EP X pins σ Q u s3 := ⟨v3, H3, I3, r3, q3⟩
    cases v3 with
    | non => cases (show u = Value.none from r3); exact zz
    | bl y => cases (show u = Value.bool y from r3); exact zz
    | int i => obtain ⟨t, e⟩ := (show ∃ t, u = Value.int i t from r3); subst e; exact zz
    | str y => obtain ⟨t, e⟩ := (show ∃ t, u = Value.str y t from r3); subst e; exact zz
    | byt y => obtain ⟨t, e⟩ := (show ∃ t, u = Value.bytes y t from r3); subst e; exact zz
    | flt y => obtain ⟨t, e⟩ := (show ∃ t, u = Value.float y t from r3); subst e; exact zz
    | ref y => cases (show u = Value.ref y from r3); exact zz
    | ty y => cases (show u = Value.type y from r3); exact zz
end

section
open PySem.W
variable {prog : Program} {w : World} {A : Around} {E : Value → Shared → Prop} {s : Shared} {K : PySem.W.Frag} {x y C L f : Addr} {h₀ : Heap} {m : Str → Option Value} {ox oy : Obj} {od od' : Option Obj}
/-- object.__ne__ of an object whose class has its own __eq__ -/
theorem ne_call {Q : Value → Shared → Prop} (hu : A.units + 1 < cLine) (X : K.In s.heap) (I : InstAt s.heap x ox C od) (heq : findIn K (.ref C) "__eq__" = some (some (.ref f))) (hf : isFn K (.ref f) = true) (hob : subIn K (.ref C) (.type "object") = some true)
    (h : wpAny (model prog w) A.in1 (call (.ref f) [.ref x, .ref y]) (fun v s' => ∃ b, v = .bool b ∧ Q (.bool (!b)) s') E s) : wpAny (model prog w) A (call (.builtin "object.__ne__") [.ref x, .ref y]) Q E s := by
  refine wpAny_call (codeAny_call_builtin F.cmp_object.ne.plain F.cmpEntry_ne ?_)
  have body : wpAny (model prog w) A.in1 (Builtin.«object.__ne__» ⟨[.ref x, .ref y], []⟩) (fun fin s' => match fin with
      | .done f => wants Q E (.ok f) s'
      | .again c' => c'.quiet = true ∧ codeAny (model prog w) A c' (wants Q E) s') (fun e s' => wants Q E (.error e) s') s := by
    obtain ⟨hp, g, d, t, os⟩ := s
    unfold Builtin.«object.__ne__»
    repeat (first
      | with_reducible refine wpAny_cRoomFor (show A.in1.units < cLine from hu) ?_
      | (refine wpAny_bind (m := callSpecialIfBound? (.ref x) (Str.ofString "__eq__") [.ref y])
          (ifBound_K X I heq hf (wpAny_mono h (fun r s' hr => by
            obtain ⟨b, rfl, hq⟩ := hr
            repeat (first | exact hq | exact wpAny_pure hq | exact wpAny_truthy_bool hq | (refine wpAny_bind (m := truthy (.bool _)) (wpAny_truthy_bool ?_)) | wp_step)) fun _ _ e => e)))
      | wp_step)
  simp only [checkBuiltinCall, F.cmpKind_ne, F.cmpSplit_ne]
  refine wpAny_bind ?_
  unfold isInstance
  refine wpAny_bind (I.type.here ((looks_subIn X hob).here ?_))
  simp only [Bool.not_true, Bool.false_eq_true, if_false]
  have ha := F.cmpArgs_ne (.ref x) (.ref y)
  cases hsig : Manifest.signature? "object.__ne__" with
  | none => exact wpAny_pure body
  | some sig =>
    simp only [argsOk, hsig] at ha
    have h2 : Bind.checkArgs "object.__ne__" sig ⟨[.ref x, .ref y], []⟩ = pure () := ha
    show wpAny _ _ (Bind.checkArgs "object.__ne__" sig ⟨[.ref x, .ref y], []⟩) _ _ _
    rw [h2]; exact wpAny_pure body
theorem ne_K {Q : Value → Shared → Prop} (hu : A.units + 2 < cLine) (X : K.In s.heap) (I : InstAt s.heap x ox C od) (I2 : InstAt s.heap y oy C od') (hne : findIn K (.ref C) "__ne__" = some (some (.builtin "object.__ne__")))
    (heq : findIn K (.ref C) "__eq__" = some (some (.ref f))) (hf : isFn K (.ref f) = true) (hob : subIn K (.ref C) (.type "object") = some true)
    (h : wpAny (model prog w) A.in1 (call (.ref f) [.ref x, .ref y]) (fun v s' => ∃ b, v = .bool b ∧ Q (.bool (!b)) s') E s) : wpAny (model prog w) A (compareOp .NotEq (.ref x) (.ref y)) Q E s := by
  have one : wpAny (model prog w) A (tryCompare (.ref x) "__ne__" (.ref y)) (fun r s' => ∃ v, r = some v ∧ Q v s') E s := by
    unfold tryCompare
    refine wpAny_bind ?_
    simp only [callSpecialIfBound?, bindSpecialIfBound?]
    refine wpAny_holding (wpAny_bind (wpAny_bind (wpAny_bind (I.type.here ((looks_findIn X hne).here ?_)))))
    simp only [F.cmp_object.ne.bind]
    refine wpAny_bind (wpAny_askSetting (wpAny_ite ?_))
    have got : wpAny (model prog w) A (call (.builtin "object.__ne__") [.ref x, .ref y]) (fun v s' => ∃ b, v = .bool b ∧ Q v s') E s :=
      ne_call (Q := fun v s' => ∃ b, v = .bool b ∧ Q v s') (by omega) X I heq hf hob (wpAny_mono h (fun v s' hv => by
        obtain ⟨b, rfl, q⟩ := hv
        exact ⟨b, rfl, _, rfl, q⟩) fun _ _ e => e)
    split
    · refine wpAny_bind (wpAny_pure (wpAny_pure ?_))
      refine wpAny_bind (wpAny_mono got (fun v s' hv => ?_) fun _ _ e => e)
      obtain ⟨b, rfl, q⟩ := hv
      exact wpAny_pure (wpAny_pure ⟨_, rfl, q⟩)
    · refine wpAny_tryCatch (wpAny_bind (wpAny_pure (wpAny_pure ?_)))
      refine wpAny_bind (wpAny_mono got (fun v s' hv => ?_) fun _ _ e => e)
      obtain ⟨b, rfl, q⟩ := hv
      exact wpAny_pure (wpAny_pure ⟨_, rfl, q⟩)
  unfold compareOp richCompare
  simp only [oneThing_ref]
  refine wpAny_holding (wpAny_bind (wpAny_cRoomFor (by omega) ?_))
  refine wpAny_bind (I.type.here (wpAny_bind (I2.type.here ?_)))
  rw [cmpInfo_NotEq]
  dsimp only
  rw [show (Value.ref C != Value.ref C) = false from by simp]
  simp only [Bool.false_eq_true, if_false]
  refine wpAny_bind (wpAny_pure ?_)
  simp only [Bool.false_eq_true, if_false]
  refine wpAny_bind (wpAny_mono one (fun r s' z => ?_) fun _ _ e => e)
  obtain ⟨v, rfl, hq⟩ := z
  exact wpAny_pure hq
end
/-- an own __eq__, and object's __ne__ -/
def HasNe (T : Wh) (C : Nat) (k : Nat) (mf : MF) : Prop := HasDun T C "__eq__" k 2 mf ∧ ∀ Ca, T.mg (nm C) = some (.ref Ca) → PySem.W.findIn T.K (.ref Ca) "__ne__" = some (some (.builtin "object.__ne__")) ∧ PySem.W.subIn T.K (.ref Ca) (.type "object") = some true
theorem m2_neO {X : Cx} {k : Nat} {mf : MF} {C : Nat} (hu : X.A.units + 2 < cLine) (h : HasNe (Cx.wh X) C k mf) (hr : Room (k + 1) X.A) : M2 X (compareOp .NotEq) (vNeO C mf) := by
  obtain ⟨⟨Ca, f, hC, hs, hf, hfn, F⟩, hne⟩ := h
  have hC : X.mg (nm C) = some (.ref Ca) := hC
  obtain ⟨hne1, hob⟩ := hne Ca hC
  rintro pins s σ H x y u1 u2 Q I rx ry ⟨ι, st, w1, w2, S, r1, r2, p⟩
  unfold vNeO at p
  split at p
  · rename_i hh2
    by_cases hh : isIns C st w1 = true
    · obtain ⟨n, fs, e1, c1⟩ := isIns_at hh
      subst e1
      obtain ⟨a, e2, g⟩ := Rep.ref_inv r1
      subst e2
      obtain ⟨Ca1, dx, vs, i1, i2, i3⟩ := S.at c1 g
      rw [hC] at i1
      cases i1
      obtain rfl : u1 = Value.ref a := rx
      obtain ⟨mA, O, _⟩ := ins_get I.hok i2
      obtain ⟨od, J, _⟩ := O.look
      obtain ⟨n', fs', e1', c1'⟩ := isIns_at hh2
      subst e1'
      obtain ⟨a', e2', g'⟩ := Rep.ref_inv r2
      subst e2'
      obtain ⟨Ca2, dx', vs', j1, j2, j3⟩ := S.at c1' g'
      rw [hC] at j1
      cases j1
      obtain rfl : u2 = Value.ref a' := ry
      obtain ⟨mA', O', _⟩ := ins_get I.hok j2
      obtain ⟨od', J', _⟩ := O'.look
      have key := tru_call (neg := true) (A' := X.A.in1) F (fun fd ps F hb Q' h => by
        have hl : ([Value.ref a, Value.ref a'] : List Value).length = ps.length := by
          have := F.len _ _ _ _ h; simpa using this
        have b := hb s [Value.ref a, Value.ref a'] I.kIn (by rw [List.append_nil]; exact hl)
        rw [List.append_nil] at b
        refine wpAny_call (codeAny_mono (F.run X.A.in1 X.stack s H ⟨[Value.ref a, Value.ref a'], []⟩ [Value.ref a, Value.ref a'] [V.ref a, V.ref a'] _ E0 hr.in1 I.env0.in1 b (.cons rfl (.cons rfl .nil)) h) fun r s' hq => ?_)
        cases r with
        | error er => exact (passL (X := X)) pins σ H s er s' I hq
        | ok fl =>
          cases fl with
          | ret u => exact I.after hq
          | next => exact False.elim hq
          | brk => exact False.elim hq
          | cont => exact False.elim hq) S r1 r2 hh p
      refine ne_K hu I.kIn J J' hne1 hs hf hob (thn key fun r s' hq => ?_)
      obtain ⟨b, rfl, q⟩ := hq
      exact ⟨b, rfl, q⟩
    · unfold truR at p
      rw [if_neg hh] at p
      exact p.elim
  · exact p.elim
end Ab

set_option Elab.async false
set_option linter.all false
set_option maxRecDepth 100000
set_option maxHeartbeats 1000000
/-! Ab: targets with a star at the end: a, b, *rest = a tuple. -/
namespace Ab
open PySem PySem.Spec PyProof.Rows L2
theorem unp_raw {prog : Program} {w : World} {A : Around} {E : Value → Shared → Prop} {s : Shared} {l : Addr} {items : Array Value} {i : Nat} {Q : List Value → Shared → Prop} (hl : IsTup s.heap l items) (hh : A.handled = none) (hn : i ≤ items.size) (hz : items.size ≤ 16384)
    (h : ∀ (h' : Heap) (tk : Nat), (∀ b o, s.heap.get? b = some o → h'.get? b = some o) → Q (items.toList.take i ++ [.ref h'.objs.size]) { s with heap := h'.push { cls := .type "list", data := .seq (items.toList.drop i).toArray }, toks := tk }) : wpAny (model prog w) A (unpackItems (.ref l) (i + 1) (some i)) Q E s := by
  have hlt : l ≠ s.heap.objs.size := by obtain ⟨o, ho, _⟩ := hl; exact Nat.ne_of_lt (Heap.lt_size ho)
  have hll : l < s.heap.objs.size := by obtain ⟨o, ho, _⟩ := hl; exact Heap.lt_size ho
  unfold unpackItems
  refine wpAny_bind ?_
  unfold notIterableAtAll
  refine wpAny_bind (wpAny_specialOf hl.typeIs slot_tuple_iter.lookup ?_)
  refine wpAny_pure ?_
  simp only [Bool.false_eq_true, if_false]
  refine wpAny_bind (wpAny_holding (iter_tuple hl ?_))
  refine wpAny_bind (wpAny_holding (draw_tuple hlt i 0 _ _ ⟨_, Heap.get?_push_size _ rfl, rfl, rfl⟩ (hl.push _) (by omega) fun h₁ hit₁ hs₁ => ?_))
  have hl₁ : IsTup h₁ l items := (hl.push _).extBut hs₁.extBut hlt
  rw [Nat.zero_add] at hit₁
  have hit₁' := hit₁
  obtain ⟨oi, hoi, _⟩ := hit₁'
  have hl₁' := hl₁
  obtain ⟨ol, hol, _⟩ := hl₁'
  rw [List.drop_zero]
  have hfl : (items.toList.take i).length = i := by rw [List.length_take, Array.length_toList]; omega
  rw [if_neg (show ¬ ((items.toList.take i).length < i) by rw [hfl]; omega)]
  refine wpAny_bind (wpAny_holding (PySem.W.kun_collect (s := { s with heap := h₁ }) (T := "tuple_iterator") (.inr (.inr (.inr rfl))) (Walks.tuple (A := A.in1) hh s.heap.objs.size l hlt items) (fun j u st => st.1.typeIs) (k := i) (by omega) ⟨hit₁, hl₁⟩ (Heap.lt_size hoi) (Heap.lt_size hol) (fun h₂ tk hk => ?_) (by rw [sizeLine_eq]; omega)))
  have hrl : (items.toList.drop i).length = items.size - i := by rw [List.length_drop, Array.length_toList]
  show wpAny _ _ (if (items.toList.drop i).length < i + 1 - 1 - i then _ else _) _ _ _
  rw [if_neg (by rw [hrl]; omega)]
  show wpAny _ _ (newList ((items.toList.drop i).take ((items.toList.drop i).length - (i + 1 - 1 - i))) >>= fun d => pure (items.toList.take i ++ [d] ++ (items.toList.drop i).drop ((items.toList.drop i).length - (i + 1 - 1 - i)))) _ _ _
  have e0 : (items.toList.drop i).length - (i + 1 - 1 - i) = (items.toList.drop i).length := by omega
  rw [e0, List.take_of_length_le (Nat.le_refl _), List.drop_of_length_le (Nat.le_refl _)]
  have he : ∀ b o, s.heap.get? b = some o → h₂.get? b = some o := fun b o e => hk b o (Nat.ne_of_lt (Heap.lt_size e)) (hs₁.extBut b o (Nat.ne_of_lt (Heap.lt_size e)) (Heap.get?_push_of_some _ e))
  refine wpAny_bind (wpAny_newList (s := { s with heap := h₂, toks := tk }) (wpAny_pure ?_) (by rw [hrl, sizeLine_eq]; omega))
  rw [List.append_nil]
  exact h h₂ tk he
/-- a, b, *rest = a tuple: n names, then a new list -/
@[reducible] def gTupS (n : Nat) (h : MGs) : MG := fun w ρ st => match w with
  | .tup ws => if n ≤ ws.length ∧ ws.length ≤ 1000 then h (ws.take n ++ [.ref st.length]) ρ (st ++ [.lst (ws.drop n)]) else none
  | _ => none
section
variable {X : Cx} {pos p : Pos} {e : Expr} {es : List Expr} {g : MG} {h : MGs}
theorem jgs_star {vs : List Nat} (h1 : JG X e vs g) (hs : (assignEach [.Starred e p] X.env).map (·.2) = [assign e X.env] := by rfl) : JGs X [.Starred e p] vs (gsCons g gsNil) := by
  refine ⟨fun pins s σ H us ws Q I r q => ?_⟩
  obtain ⟨ι, ρ, st, ws', S, sl, rr, p⟩ := q
  rw [hs]
  cases ws' with
  | nil => exact p.elim
  | cons w r' =>
    obtain ⟨v, r2, e1, q1, q2⟩ := rr.of_cons
    subst e1
    cases r with
    | cons ra rb =>
      refine assignInOrder_cons ?_
      dsimp only [gsCons] at p
      cases hg : g w ρ st with
      | none => rw [hg] at p; exact p.elim
      | some z =>
        rw [hg] at p
        cases r' with
        | nil =>
          have := q2.of_nil
          subst this
          cases rb
          refine thn (h1.run pins s σ H _ _ (fun σ1 H1 => Q σ1 H1) I ra ⟨ι, ρ, st, w, S, sl, q1, ?_⟩) fun _ s1 ⟨σ1, H1, I1, qq⟩ => assignInOrder_nil ⟨σ1, H1, I1, qq⟩
          rw [hg]
          exact p
        | cons _ _ => exact p.elim
theorem jg_tupS {k n : Nat} {vs : List Nat} (hc : X.calm = true) (hh : JGs X es vs h) (hn : (assignEach es X.env).length = n + 1 := by rfl) (hst : (assignEach es X.env).findIdx? (·.1) = some n := by rfl) : JG X (.Tuple es k pos) vs (gTupS n h) := by
  refine ⟨fun pins s σ H v u Q I r q => ?_⟩
  obtain ⟨ι, ρ, st, w, S, sl, rr, p⟩ := q
  cases w with
  | tup ws =>
    obtain ⟨a, xs, e1, ha, rx⟩ := rr.tup_inv
    subst e1
    cases r
    dsimp only [gTupS] at p
    split at p
    · rename_i hl
      obtain ⟨its, rv, ht, hz⟩ := I.tuple (SqT.of ha)
      have hil : its.length = ws.length := by rw [← rv.length, rx.length]
      rw [assign_Tuple]
      refine wpAny_bind (wpAny_standAt ?_)
      unfold unpack
      rw [hn, hst]
      refine wpAny_bind (wpAny_holding (unp_raw ht (I.ok.hd hc) (by rw [List.size_toArray]; omega) (by rw [List.size_toArray]; omega) fun h' tk hk => ?_))
      have I1 : Inv X pins σ H { s with heap := h' } := I.kept (t' := s.toks) hk
      have hp : H h'.objs.size = none := I1.hok.fresh (Nat.le_refl _)
      have hd : xs.length ≤ 1000 := by rw [← rx.length]; exact hl.2
      have I2 : Inv X pins σ (upd H h'.objs.size (.lst (xs.drop n))) { s with heap := h'.push { cls := .type "list", data := .seq (its.drop n).toArray }, toks := tk } :=
        I1.laid (t' := tk) (o := .lst (xs.drop n)) (fun b ob q => Heap.get?_push_of_some _ q) (Nat.le_refl _) ⟨by rw [List.length_drop, sizeLine_eq]; omega, its.drop n, 0, rv.drop n, Heap.get?_push_size _ rfl⟩
      have hs := same_new (o := .lst (xs.drop n)) hp
      obtain ⟨S', L⟩ := S.push (p := h'.objs.size) (c := .lst (ws.drop n)) hp hs ⟨xs.drop n, upd_same, (rx.drop n).later ⟨⟨[_], rfl⟩, fun b ys e => hs b _ e, fun b o ks e => hs b _ e⟩⟩
      refine hh.run pins _ σ _ (xs.take n ++ [V.ref h'.objs.size]) _ Q I2 ?_ ⟨_, ρ, _, _, S', sl.later L, ((rx.take n).later L).append (.cons (Rep.ref (n := st.length) ?_) .nil), PostG.later p L⟩
      · have := rv.take n
        exact (show Vals (xs.take n) (its.toArray.toList.take n) by simpa using this).append (.cons rfl .nil)
      · rw [← S.len, List.getElem?_append_right (Nat.le_refl _)]; simp
    · exact p.elim
  | _ => exact p.elim
end
end Ab
namespace Ab
open PySem PySem.Spec PyProof.Rows L2
/-- what isinstance asks of an object's class -/
def OwnTy (K : PySem.W.Frag) (Ca : Addr) : Prop := Cls K Ca ∧ PySem.W.findIn K (.ref Ca) "__class__" = some (some (.builtin "object.__class__")) ∧ PySem.W.specialIn K (.builtin "object.__class__") "__get__" = some (some (.builtin "getset_descriptor.__get__")) ∧ PySem.W.takesIn K (.builtin "object.__class__") = some true ∧ PySem.W.mroIn K Ca (.type "object") = some true
/-- isinstance(e, C), a class of the program -/
def isiW (tbl : List (Nat × Bool)) (st : Store) (w : Val) : Option Bool := match w with
  | .tup _ => some false
  | w => match clsAt st w with
    | some C' => tbl.lookup C'
    | none => none
@[reducible] def mIsiO (tbl : List (Nat × Bool)) (m : ME) : ME := fun ρ st => (m ρ st).bind fun w st1 => match isiW tbl st1 w with
  | some b => .ok (.bl b) st1
  | none => .bad
section
variable {X : Cx} {e : Expr} {m : ME} {p p2 pos : Pos} {x : Str} {C : Nat} {tbl : List (Nat × Bool)}
theorem je_isiO (h0 : X.mg "isinstance" = none) (he : JE X e m) (hx : x = nm C) (hC : ∃ Ca, X.mg (nm C) = some (.ref Ca) ∧ PySem.W.kitOne X.K (.type "tuple") (.ref Ca) = some false ∧ ∀ C' b, (C', b) ∈ tbl → ∀ Ca', X.mg (nm C') = some (.ref Ca') → OwnTy X.K Ca' ∧ PySem.W.kitOne X.K (.ref Ca') (.ref Ca) = some b)
    (g0 : Gl X "isinstance" := by rfl) (g1 : Gl X x := by rfl) (hd : (x == ("__debug__" : Str)) = false := by decide)
    (hs : starEach [e, .Name x p2] X.env = (false, eval e X.env) :: starEach [.Name x p2] X.env := by rfl) (hpl : (backTo pos (starEach [.Name x p2] X.env)).any (·.1) = false := by rfl) :
    JE X (.Call (.Name "isinstance" p) [e, .Name x p2] [] pos) (mIsiO tbl m) := fun W tk => by
  obtain ⟨Ca, hCa, htup, htbl⟩ := hC
  refine PE.weak (pe_callB call_isi g0 h0 Boot.isinstance (pa_cons (he W tk) (pa_cons (pe_glob (v := .ref Ca) g1 (by rw [hx]; exact hCa) rfl hd) pa_nil) hs) (by decide) (by decide) hs hpl) fun σ H Q ⟨ι, ρ, st, S, sl, q⟩ => ?_
  refine ⟨ι, ρ, st, S, sl, Post.bind q fun w st1 ι1 H1 v l1 S1 r1 q1 => ?_⟩
  split at q1
  · rename_i b hb
    unfold isiW at hb
    split at hb
    · rename_i xs
      cases hb
      obtain ⟨a, vs, e1, ha, rr⟩ := r1.tup_inv
      subst e1
      exact ⟨.ref a, .ref Ca, .type "tuple", .ref Ca, false, rfl, .own _, .base (.tup ha), htup, q1.okSame S1 Rep.bl⟩
    · split at hb
      · rename_i C' hC'
        obtain ⟨n, fs, e1, hc⟩ := clsAt_some hC'
        subst e1
        obtain ⟨a, e2, g⟩ := r1.ref_inv
        subst e2
        obtain ⟨Ca', dx, vs, i1, i2, i3⟩ := S1.at hc g
        obtain ⟨⟨o1, o2, o3, o4, o5⟩, hk⟩ := htbl C' b (lookup_mem hb) Ca' i1
        exact ⟨.ref a, .ref Ca, .ref Ca', .ref Ca, b, rfl, .own _, .base (.ins i2 o1 o2 o3 o4 o5), hk, q1.okSame S1 Rep.bl⟩
      · cases hb
  · exact q1.elim
end
end Ab

set_option Elab.async false
set_option linter.all false
set_option maxRecDepth 100000
set_option maxHeartbeats 1000000
/-! Ab: dicts that are walked (they stay locked), the empty dict. -/
namespace Ab
open PySem PySem.Spec PyProof.Rows L2
/-- a dict is locked for good -/
@[reducible] def mFrz (m : ME) : ME := fun ρ st => (m ρ st).bind fun x st1 => match x with
  | .ref n => match st1[n]? with
    | some (.dct kvs) => .ok (.ref n) (st1.set n (.fdc kvs))
    | some (.fdc kvs) => .ok (.ref n) st1
    | _ => .bad
  | _ => .bad
@[reducible] def fdcAt (x : Val) (st : Store) : Option (Nat × List (Key × Val)) := match x with
  | .ref n => match st[n]? with
    | some (.fdc kvs) => some (n, kvs)
    | _ => none
  | _ => none
theorem fdcAt_some {x : Val} {st : Store} {n : Nat} {kvs : List (Key × Val)} (h : fdcAt x st = some (n, kvs)) : x = .ref n ∧ st[n]? = some (.fdc kvs) := by
  unfold fdcAt at h
  split at h
  · split at h
    · cases h; exact ⟨rfl, by assumption⟩
    · cases h
  · cases h
/-- its keys -/
@[reducible] def iKeysM (m : ME) : MI := fun ρ st => (mFrz m ρ st).bind fun w st1 => match fdcAt w st1 with
  | some (n, kvs) => .ok (kvs.map fun kv => unkey kv.1, fun st' => st'[n]? = some (.fdc kvs)) st1
  | none => .bad
/-- its values -/
@[reducible] def iValsM (m : ME) : MI := fun ρ st => (mFrz m ρ st).bind fun w st1 => match fdcAt w st1 with
  | some (n, kvs) => .ok (kvs.map (·.2), fun st' => st'[n]? = some (.fdc kvs)) st1
  | none => .bad
section
variable {X : Cx} {e tg : Expr} {m : ME} {apos cpos pos : Pos}
theorem je_frz (he : JE X e m) : JE X e (mFrz m) := fun W tk => by
  refine ⟨fun pins s σ H Q I ⟨ι, ρ, st, S, sl, q⟩ => ?_⟩
  refine thn ((he W tk).run pins s σ H (fun v H1 => ∃ a, v = .ref a ∧ ((∃ vs, H1 a = some (.dK vs) ∧ ∀ od, Q (.ref a) (upd H1 a (.frz od (.dK vs)))) ∨ Q (.ref a) H1)) I ⟨ι, ρ, st, S, sl, Post.bind q fun x st1 ι1 H1 xv l1 S1 r1 p1 => ?_⟩) fun u s1 ⟨v, H1, I1, rx, a, ev, hq⟩ => ?_
  · split at p1
    · rename_i n
      obtain ⟨a, e1, ha⟩ := Rep.ref_inv r1
      split at p1
      · rename_i kvs ec
        obtain ⟨vs, h1, h2⟩ := S1.cell n _ a ec ha
        refine ⟨a, e1, .inl ⟨vs, h1, fun od => ?_⟩⟩
        have l : Later ι1 H1 ι1 (upd H1 a (.frz od (.dK vs))) := ⟨⟨[], by simp⟩, fun b xs e => by rw [upd_ne fun q => by subst q; rw [h1] at e; cases e]; exact e, fun b ob ks e => by rw [upd_ne fun q => by subst q; rw [h1] at e; cases e]; exact e⟩
        obtain ⟨S2, l2⟩ := S1.write (c' := .fdc kvs) (o' := .frz od (.dK vs)) ec ha rfl rfl h1 (fun _ e => by cases e) (fun _ _ e => by cases e) ⟨od, vs, upd_same, h2.later l⟩
        exact p1 ι1 _ _ l2 S2 (Rep.ref ha)
      · exact ⟨a, e1, .inr (p1.okSame S1 (Rep.ref ha))⟩
      · exact p1.elim
    · exact p1.elim
  · subst ev
    rcases hq with ⟨vs, h1, hq⟩ | hq
    · obtain ⟨od, I2⟩ := I1.lock h1 trivial
      exact ⟨.ref a, _, I2, rx, hq od⟩
    · exact ⟨.ref a, _, I1, rx, hq⟩
theorem RepK.get' {mg : Str → Option Value} {ι : List Addr} {H : Hp} : ∀ {ws : List (Key × Val)} {vs : List (Key × V)} {i : Nat} {k : Key} {v : V}, RepK mg ι H ws vs → vs[i]? = some (k, v) → ∃ w, ws[i]? = some (k, w) ∧ Rep mg ι H w v
  | _, _, _, _, _, .nil, h => by simp at h
  | (k', w) :: _, (k2, v2) :: _, 0, k, v, .cons h t, e => by
    simp at e
    obtain ⟨rfl, rfl⟩ := e
    obtain ⟨h1, h2⟩ := h
    simp only at h1 h2
    subst h1
    exact ⟨w, rfl, h2⟩
  | _ :: _, _ :: _, i + 1, k, v, .cons h t, e => by
    obtain ⟨w, e1, r⟩ := RepK.get' (i := i) t (by simpa using e)
    exact ⟨w, by simpa using e1, r⟩
theorem isIt_keys {K : PySem.W.Frag} {mg : Str → Option Value} {okp : Store → Prop} {kvs : List (Key × Val)} {ι : List Addr} {H : Hp} {a : Addr} {od : Obj} {vs : List (Key × V)} (hH : H a = some (.frz od (.dK vs))) (r : RepK mg ι H kvs vs) : IsIt K mg (kvs.map fun kv => unkey kv.1) okp ι H (Itk a od vs) := by
  have hl : kvs.length = vs.length := RepK.length r
  refine ⟨fun i ι1 H1 st l S ok hi => ⟨l.frzs _ _ _ hH, by rw [List.length_map] at hi; omega⟩, fun i ι1 H1 st x H' l S ok hi hy => ?_, fun i ι1 H1 st l S ok hi => ⟨l.frzs _ _ _ hH, by rw [List.length_map] at hi; omega⟩⟩
  obtain ⟨rfl, k, v, hk, rfl⟩ := hy
  obtain ⟨w, e, _⟩ := RepK.get' r hk
  exact ⟨Later.refl _ _, S, unkey k, by rw [List.getElem?_map, e]; rfl, unkey_rep⟩
theorem isIt_vals {K : PySem.W.Frag} {mg : Str → Option Value} {okp : Store → Prop} {kvs : List (Key × Val)} {ι : List Addr} {H : Hp} {a : Addr} {od : Obj} {vs : List (Key × V)} (hH : H a = some (.frz od (.dK vs))) (r : RepK mg ι H kvs vs) : IsIt K mg (kvs.map (·.2)) okp ι H (Itd a od vs) := by
  have hl : kvs.length = vs.length := RepK.length r
  refine ⟨fun i ι1 H1 st l S ok hi => ⟨l.frzs _ _ _ hH, by rw [List.length_map] at hi; omega⟩, fun i ι1 H1 st x H' l S ok hi hy => ?_, fun i ι1 H1 st l S ok hi => ⟨l.frzs _ _ _ hH, by rw [List.length_map] at hi; omega⟩⟩
  obtain ⟨rfl, k, hk⟩ := hy
  obtain ⟨w, e, r2⟩ := RepK.get' (r.later l) hk
  exact ⟨Later.refl _ _, S, w, by rw [List.getElem?_map, e]; rfl, r2⟩
theorem ji_keys (he : JE X e m) : JI X tg e (iKeysM m) := fun W tk => by
  refine ⟨fun pins s σ H R I hw => (pi_keys (je_frz he W tk)).run pins s σ H R I ?_⟩
  obtain ⟨ι, ρ, st, S, sl, p⟩ := hw
  refine ⟨ι, ρ, st, S, sl, Post.bind p fun w st1 ι1 H1 v l1 S1 r1 p1 => ?_⟩
  split at p1
  · rename_i n kvs hf
    obtain ⟨rfl, ec⟩ := fdcAt_some hf
    obtain ⟨a, e1, ha⟩ := Rep.ref_inv r1
    obtain ⟨od, vs, h1, h2⟩ := S1.cell n _ a ec ha
    exact ⟨a, od, e1, .inl ⟨vs, h1, p1.okSame S1 (isIt_keys h1 h2)⟩⟩
  · exact p1.elim
theorem ji_vals (he : JE X e m) (hbase : attributeBase e "values" X.env (eval e X.env) = eval e X.env := by rfl) (hline : (apos.endLine == cpos.line) = true := by rfl) : JI X tg (.Call (.Attribute e "values" apos) [] [] cpos) (iValsM m) := fun W tk => by
  refine ⟨fun pins s σ H R I hw => (pi_values (je_frz he W tk) hbase hline).run pins s σ H R I ?_⟩
  obtain ⟨ι, ρ, st, S, sl, p⟩ := hw
  refine ⟨ι, ρ, st, S, sl, Post.bind p fun w st1 ι1 H1 v l1 S1 r1 p1 => ?_⟩
  split at p1
  · rename_i n kvs hf
    obtain ⟨rfl, ec⟩ := fdcAt_some hf
    obtain ⟨a, e1, ha⟩ := Rep.ref_inv r1
    obtain ⟨od, vs, h1, h2⟩ := S1.cell n _ a ec ha
    exact ⟨a, od, vs, e1, h1, p1.okSame S1 (isIt_vals h1 h2)⟩
  · exact p1.elim
/-- {} -/
@[reducible] def mDisp0 : ME := fun _ st => .ok (.ref st.length) (st ++ [.dct []])
theorem je_disp0 : JE X (.Dict [] [] pos) mDisp0 := fun W tk => by
  refine ⟨fun pins s σ H Q I ⟨ι, ρ, st, S, sl, p⟩ => ?_⟩
  have hn := I.hok.fresh (Nat.le_refl s.heap.objs.size)
  have I1 := I.laid (a := s.heap.objs.size) (o := .dK []) (h' := s.heap.push { cls := .type "dict", data := .dict #[] }) (t' := s.toks) (fun _ _ q => Heap.get?_push_of_some _ q) (Nat.le_refl _) (dk_empty s.heap I.big)
  have hs := same_new (o := .dK []) hn
  obtain ⟨S1, l1⟩ := S.push (c := .dct []) hn hs ⟨[], upd_same, .nil⟩
  refine wpAny_Dict_empty ⟨.ref s.heap.objs.size, _, I1, rfl, p _ _ _ l1 S1 (Rep.ref ?_)⟩
  rw [← S.len, List.getElem?_append_right (Nat.le_refl _)]; simp
end
section
variable {X : Cx} {k n : Nat} {o e : Expr} {es : List Expr} {mo : ME} {t : MA} {pos : Pos} {mf : MF} {C : Nat}
theorem je_callG (h : HasCall (Cx.wh X) C k n mf) (hr : Room k X.A) (ho : JE X o mo) (ha : JA X (e :: es) t)
    (he : starEach (e :: es) X.env = (false, eval e X.env) :: starEach es X.env := by rfl) (harm : eval (.Call o (e :: es) [] pos) X.env = (do callWith pos (← eval o X.env) [] (backTo pos (starEach (e :: es) X.env)) (backToKw pos (keywordEach [] X.env))) := by rfl) (hpl : (backTo pos (starEach es X.env)).any (·.1) = false := by rfl) : JE X (.Call o (e :: es) [] pos) (mCall C mf mo t) := fun W tk => by
  obtain ⟨Ca, f, hC, hs, hf, hfn, fd, ps, hl, hkp, hbd, F⟩ := h
  have hC : X.mg (nm C) = some (.ref Ca) := hC
  refine ⟨fun pins s σ H Q I ⟨ι, ρ, st, S, sl, q⟩ => ?_⟩
  rw [harm]
  refine wpAny_bind (thn ((ho W tk).run pins s σ H (fun v H1 => ∃ a, v = .ref a ∧ rdG X.K X.mg (relL X.mg) W t σ H1 (fun vs H2 => (∃ dx fs, H2 a = some (.ins Ca dx fs)) ∧ spM X.K X.mg mf (.ref a :: vs) H2 Q (WE W σ))) I ⟨ι, ρ, st, S, sl, Post.bind q fun v st1 ι1 H1 xv l1 S1 r1 p1 => ?_⟩) fun u s1 ⟨v, H1, I1, r1, a, ev, q1⟩ => ?_)
  · split at p1
    · rename_i hh
      obtain ⟨m, fs, e1, c1⟩ := isIns_at hh
      subst e1
      obtain ⟨xa, f1, g1⟩ := Rep.ref_inv r1
      subst f1
      refine ⟨xa, rfl, ι1, ρ, st1, S1, sl.later l1, Post.bind p1 fun vs st2 ι2 H2 us l2 S2 r2 p2 => ?_⟩
      split at p2
      · rename_i hh2
        obtain ⟨m2, fs2, e2, c2⟩ := isIns_at hh2
        cases e2
        obtain ⟨ya, f2, g2⟩ := Rep.ref_inv (Rep.later l2 (Rep.ref (mg := X.mg) g1))
        cases f2
        obtain ⟨Ca1, dx, vs1, i1, i2, i3⟩ := S2.at c2 g2
        rw [hC] at i1
        cases i1
        exact ⟨⟨dx, vs1, i2⟩, ι2, _, st2, S2, .cons (Rep.ref g2) r2, p2⟩
      · exact p2.elim
    · exact p1.elim
  · subst ev
    obtain rfl : u = Value.ref a := r1
    rw [he]
    refine callWith_obj (by show ((false || (backTo pos (starEach es X.env)).any (·.1)) || false) = false; rw [hpl]; rfl) (PySem.Calls.evalArgs_plain ?_)
    have := (ha W tk).run pos pins s1 σ H1 _ I1 q1
    rw [he] at this
    refine thn this fun us s2 ⟨vs, H2, I2, r, ⟨dx, fs, ea⟩, q2⟩ => ?_
    obtain ⟨mA, O, _⟩ := ins_get I2.hok ea
    obtain ⟨od, J, _⟩ := O.look
    refine ⟨⟨Ca, _, _, rfl, J⟩, ?_⟩
    have r' : Vals (V.ref a :: vs) (Value.ref a :: us) := .cons rfl r
    have hl2 : (Value.ref a :: us).length = ps.length := by rw [← r'.length]; exact F.len _ _ _ _ q2
    have b := hbd s2 (Value.ref a :: us) I2.kIn (by rw [List.append_nil]; exact hl2)
    rw [List.append_nil] at b
    refine wpAny_call (PySem.W.kco_code I2.kIn J rfl hs hf hfn (codeAny_mono (F.run X.A X.stack s2 H2 ⟨Value.ref a :: us, []⟩ (Value.ref a :: us) _ Q (WE W σ) hr I2.env0 b r' q2) fun r s' hq => ?_))
    cases r with
    | error er => exact passAt tk σ pins H2 s2 er s' I2 hq
    | ok fl =>
      cases fl with
      | ret u => exact I2.after hq
      | next => exact False.elim hq
      | brk => exact False.elim hq
      | cont => exact False.elim hq
end
end Ab

set_option Elab.async false
set_option linter.all false
set_option maxRecDepth 100000
set_option maxHeartbeats 1000000
/-! Ab: f(lambda: e) where f gives what it got, or words of the one class that it catches. -/
namespace Ab
open PySem PySem.Spec PyProof.Rows L2
def TTone (out : Exc → Option (List Val)) (K : PySem.W.Frag) (mg : Str → Option Value) : (XK → Hp → VK → Prop) → Hp → VK → Prop := fun tl H Q =>
  tl (fun cls d H' => ∃ ι st x ws, Sim K mg ι st H' ∧ ExcRep mg ι H' x cls d ∧ out x = some ws ∧ ws.all flatW = true ∧ ∀ ι' H'' v, Later ι H' ι' H'' → Sim K mg ι' st H'' → Rep mg ι' H'' (.tup ws) v → Q v H'') H
    (fun v H' => Q v H')
@[reducible] def mOutOne (out : Exc → Option (List Val)) (mb : ME) : ME := fun ρ st => match mb ρ st with
  | .ok v st1 => .ok v st1
  | .exc x st1 => match out x with
    | some ws => if ws.all flatW = true then .ok (.tup ws) st1 else .bad
    | none => .bad
  | .bad => .bad
section
variable {X : Cx} {x a e cn : Str} {st : Stmt} {g RA : Addr} {b₀ : Stmt} {suite : List Stmt} {mS : Addr → Option Addr → Nat → MS} {j jj : Nat} {p1 p2 p3 p4 p5 p6 p7 p8 : Pos} {cdg : Value} {q : Str} {k : Nat} {out : Exc → Option (List Val)} {L : List Nat}
theorem one_gives (S : FnScope [a, e] [a] (defScope st)) (hb : defBody st = [.Try [.Return (some (.Call (.Name a p2) [] [] p3)) p5] [.ExceptHandler (some (.Name cn p6)) (some e) (b₀ :: suite) p7] [] [] p8])
    (hln : (defScope st).names.lookup e = some .local) (hdb : (cn == ("__debug__" : Str)) = false) (hLo : ∀ (y : Exc) (ws : List Val), out y = some ws → y.cls ∈ L) (hge : (defScope st).names.lookup cn = some NameKind.globalImplicit) (hme : X.mg cn = some (.ref RA)) (hroom : ∀ s : Shared, Room k (X.A.deeper (envOfC x (defScope st) s.heap.objs.size g cdg)))
    (hsuite : ∀ (A : Around) (outer : List Env) (s : Shared) (H : Hp), Room k (A.deeper (envOfC x (defScope st) s.heap.objs.size g cdg)) → ∀ (aa : Addr) (oe : Obj) (Dn : Nat) (Da : Addr) (d : Option Addr) (pn : List (Addr × Obj)), Dn ∈ L → X.mg (nm Dn) = some (.ref Da) → Zc (.ref Da) d oe → (∃ vs, oe.data = .fields vs) →
      JSs ((cxOf C8.CX0 X.prog X.w X.K X.mg X.base [a, e] x (defScope st) g cdg A outer s H C8.E0).nox.suite aa ((aa, oe) :: pn)) (b₀ :: suite) (mS aa d Dn))
    (hex : ∀ Dn ∈ L, ∀ Da, X.mg (nm Dn) = some (.ref Da) → PySem.W.exmOne X.K (.ref Da) (.ref RA) = some true)
    (hrun : ∀ (y : Exc) (ws : List Val), out y = some ws → ws.all flatW = true → ∀ (aa : Addr) (d : Option Addr) (st1 : Store), (y.fs = [] ∧ d = none ∨ ∃ dd, d = some dd) → ∃ junk, mS aa d y.cls [none, some (.adr aa)] (st1 ++ xst y d) = .ret (.tup ws) (st1 ++ junk)) :
    LamX.GivesTo X [a, e] x (defScope st) g cdg (defBody st) a q (TTone out X.K X.mg) := by
  intro f c' s H Q tl act hc h
  rw [hb]
  have hgl : Gl (cxOf C8.CX0 X.prog X.w X.K X.mg X.base [a, e] x (defScope st) g cdg X.A X.stack s H C8.E0).nox cn := hge
  refine ⟨_, pss_one (ps_try_as (X := (cxOf C8.CX0 X.prog X.w X.K X.mg X.base [a, e] x (defScope st) g cdg X.A X.stack s H C8.E0).nox) (i := 1) (c := .ref RA)
      (tb := fun W D σ H => ∃ Ech : XK, (∀ cls d σ' H', Ech cls d H' → (σ'.length = ([a, e] : List Str).length → W cls d σ' H')) ∧ σ[0]? = some (some (.ref f)) ∧ H c' = some (LamX.CodeO c' q) ∧ tl Ech H (fun v H' => D.rt v H'))
      (ts := fun aa cls d D σ H => ∃ Dn Da, Dn ∈ L ∧ X.mg (nm Dn) = some (.ref Da) ∧ cls = .ref Da ∧ rdS X.K X.mg (fun _ _ _ _ => False) (mS aa d Dn) D σ H)
      (Wout := fun _ _ _ _ => False)
      rfl rfl S.nd rfl hln ⟨hgl, hdb, .inl hme⟩ LamX.takes0 (fun W pn xe tk _ => ?_) (fun aa oe cls d pn hz hf => ?_)), ?_⟩
  · refine ⟨fun pins s' σ H' D I h' => ?_⟩
    obtain ⟨Ech, hW, h1, h2, h3⟩ := h'
    have hp := act _ pn xe Ech p2 p3 (takes_len tk) hW
    have hq := pss_one (ps_ret (pos := p5) hp)
    exact hq.run pins s' σ H' D I ⟨h1, h2, h3⟩
  · refine ⟨fun pins s' σ H' D I h' => ?_⟩
    obtain ⟨Dn, Da, m1, m2, rfl, h3⟩ := h'
    exact (hsuite X.A X.stack s H (hroom s) aa oe Dn Da d pn m1 m2 hz hf (fun _ _ _ _ => False) LamX.takes0).run pins s' σ H' D I h3
  · refine ⟨_, ?_, rfl, hc, h⟩
    rintro cls d σ' H' ⟨ι, st1, y, ws, S1, er, hout, hfl, fin⟩ hlen
    have hcls := hLo _ _ hout
    obtain ⟨Da, hD, rfl, hfd⟩ := er
    refine ⟨true, hex _ hcls Da hD, fun _ aa na => ⟨y.cls, Da, hcls, hD, rfl, ?_⟩, fun z => nomatch z⟩
    have hcase : y.fs = [] ∧ d = none ∨ ∃ dd, d = some dd := hfd.elim .inl fun ⟨dd, vs, e1, _⟩ => .inr ⟨dd, e1⟩
    obtain ⟨junk, hjunk⟩ := hrun y ws hout hfl aa d st1 hcase
    have start : ∃ more, Sim X.K X.mg (ι ++ more) (st1 ++ xst y d) H' := by
      rcases hfd with ⟨e1, e2⟩ | ⟨dd, vs, e1, e2, e3⟩
      · subst e2
        exact ⟨[], by simpa [xst] using S1⟩
      · subst e1
        exact ⟨[dd], S1.addX e2 e3⟩
    obtain ⟨more, S2⟩ := start
    refine ⟨ι ++ more, [none, some (.adr aa)], st1 ++ xst y d, S2, ⟨by simp [hlen], fun i w ei => ?_⟩, ?_⟩
    · match i, ei with
      | 0, ei => simp at ei
      | 1, ei =>
        simp at ei
        subst ei
        refine ⟨.ref aa, ?_, by rw [Rep]⟩
        rw [List.getElem?_set]
        simp
        have : ([a, e] : List Str).length = 2 := rfl
        omega
      | n + 2, ei => simp at ei
    · rw [hjunk]
      intro ι' H'' v l S3 r
      obtain ⟨m2, e2⟩ := l.pre
      rw [e2, List.append_assoc] at S3
      have S4 := Sim.shrink S1 S3
      refine fin ι H'' v ⟨⟨[], by simp⟩, l.tups, l.frzs⟩ S4 ?_
      obtain ⟨b, vs, e3, h3, h4⟩ := r.tup_inv
      subst e3
      rw [Rep]
      exact ⟨b, vs, rfl, h3, h4.flat hfl⟩
/-- x(lambda: body) -/
theorem je_outOne {T : Wh} {c P : Addr} {params : Arguments} {body : Expr} {scope : Scope} {mb : ME} {fd : FuncData} {p lpos pos : Pos} (hT : Cx.wh X = T) (F : Fun T.K x x st g fd) (S : FnScope [a, e] [a] (defScope st))
    (hb0 : ∀ (kV doc pm : Value) (an : Option Addr) (cdv ct : Value) (us : List Value), us.length = 1 → bindArgs (PySem.W.fnOf x x (defArgs st) (defBody st) (defScope st) .none kV doc pm an cdv ct) ⟨us, []⟩ = pure (([a] : List Str).zip us))
    (hG : ∀ cdg, (∀ s : Shared, Room k (X.A.deeper (envOfC x (defScope st) s.heap.objs.size g cdg))) → LamX.GivesTo X [a, e] x (defScope st) g cdg (defBody st) a (X.env.qual ++ "<lambda>") (TTone out X.K X.mg))
    (hm : X.mg x = some (.ref g)) (hg : Gl X x) (TB : LamX.TabB X.base X.mg c P) (hcode : X.env.code = .ref c) (hmT : (P, X.env.qual ++ "<lambda>") ∈ tabsOf X.K X.mg) (hu : ∀ p ∈ tabsOf X.K X.mg, p.1 = P → p.2 = X.env.qual ++ "<lambda>")
    (hr : Room (k + 2) X.A) (L : LamX.LamS X.env.scope scope) (hdef : defaultsOf params X.env = ([], []))
    (hbind : ∀ (q : Str) (cl : List (Str × Addr)) (pm cv ctv : Value), bindArgs (PySem.W.kla_fn "<lambda>" q params body scope cl pm cv ctv) ⟨[], []⟩ = pure [])
    (hbody : ∀ (A : Around) (outer : List Env) (s : Shared) (H : Hp) (E : XK) (f c' : Addr), Room k (A.deeper (LamX.lamEnv X scope s.heap.objs.size f c')) → JE (LamX.lamCx X A outer s H E scope f c') body mb)
    (hdb : (x == ("__debug__" : Str)) = false := by decide) (hd : (a == ("__debug__" : Str)) = false := by decide) (hcd : (a == ("__classdict__" : Str)) = false := by decide) :
    JE X (.Call (.Name x p) [.Lambda params body scope lpos] [] pos) (mOutOne out mb) := fun W tk => by
  subst hT
  obtain ⟨oc, od, kV, doc, pm, an, cdv, ct, osl, rfl, lk, hcd'⟩ := F.ex
  have vis : Vis (defScope st) a := (S.par a List.mem_cons_self).elim .inl fun z => .inr (.inl z)
  refine PE.weak (LamX.pe_lamcall (T := tabsOf X.K X.mg) (TT := TTone out X.K X.mg) (t := fun E => rdG X.K X.mg (rel1 X.mg) (fun cls d _ H => E cls d H) mb) (k := k) hg hm F.kp lk hcd' (F.binds (ps := [a]) fun kV doc pm an cdv ct us hl => hb0 kV doc pm an cdv ct us hl) S rfl vis
      (hG cdv fun s => (hr.mono (by omega)).deeper _) TB hcode hmT hu hr L hdef hbind (fun A outer s H E f c' hr2 => ?_) hdb hd hcd) fun σ H Q ⟨ι, ρ, st0, S0, sl, q⟩ => ?_
  · exact hbody A outer s H E f c' hr2 (fun cls d _ H => E cls d H) (takes_of rfl rfl rfl rfl)
  · refine ⟨S0.tabs, fun H1 eN T1 => ?_⟩
    have L1 : Later ι H ι H1 := ⟨⟨[], by simp⟩, fun b xs e => eN b _ e (fun ps z => by cases z), fun b ob ks e => eN b _ e fun ps z => by cases z⟩
    have S1 : Sim X.K X.mg ι st0 H1 := by
      refine ⟨S0.len, S0.inj, fun n c a h1 h2 => ?_, T1⟩
      have z := S0.cell n c a h1 h2
      cases c with
      | lst xs => obtain ⟨vs, e, r⟩ := z; exact ⟨vs, eN _ _ e (fun ps z => by cases z), r.later L1⟩
      | frz xs =>
        obtain ⟨vs, e, r⟩ := z
        refine ⟨vs, ?_, r.later L1⟩
        rcases e with ⟨o, e⟩ | e
        · exact .inl ⟨o, eN _ _ e (fun ps z => by cases z)⟩
        · exact .inr e
      | ins C fs => obtain ⟨Ca, dx, vs, e1, e2, r⟩ := z; exact ⟨Ca, dx, vs, e1, eN _ _ e2 (fun ps z => by cases z), r.later L1⟩
      | dct kvs => obtain ⟨vs, e, r⟩ := z; exact ⟨vs, eN _ _ e (fun ps z => by cases z), r.later L1⟩
      | fdc kvs => obtain ⟨od, vs, e, r⟩ := z; exact ⟨od, vs, eN _ _ e (fun ps z => by cases z), r.later L1⟩
      | xfs d fs => obtain ⟨e0, vs, e, r⟩ := z; exact ⟨e0, vs, eN _ _ e (fun ps z => by cases z), r.later L1⟩
    refine ⟨ι, ρ, st0, S1, sl.later L1, ?_⟩
    have q := Post.later q L1
    dsimp only [mOutOne] at q
    cases h : mb ρ st0 with
    | ok v st1 =>
      rw [h] at q
      intro ι' H' b l S2 r
      exact q ι' H' b l S2 r
    | exc y st1 =>
      rw [h] at q
      dsimp only at q
      intro ι' H' c d l S2 er
      split at q
      · rename_i ws hws
        split at q
        · rename_i hfl
          exact ⟨ι', st1, y, ws, S2, er, hws, hfl, fun ι'' H'' v l2 S3 r => q ι'' H'' v (l.trans l2) S3 r⟩
        · exact q.elim
      · exact q.elim
    | bad => rw [h] at q; exact q.elim
end
/-- the class UnknownBarrel alone -/
def outBarrel (x : Exc) : Option (List Val) := if x.cls = 2 then (x.fs.lookup 26).map fun w => [.str "UnknownBarrel", w] else none
/-- the class InvalidRow alone -/
def outRow (x : Exc) : Option (List Val) := if x.cls = 1 then match x.fs.lookup 24, x.fs.lookup 25 with
    | some w, some u => some [.str "InvalidRow", w, u]
    | _, _ => none
  else none
def mOneBarrel (aa : Addr) (d : Option Addr) (_ : Nat) : MS := sRet (mTup (aCons (mC (.str "UnknownBarrel")) (aCons (mXf 1 aa d 26) aNil)))
def mOneRow (aa : Addr) (d : Option Addr) (_ : Nat) : MS := sRet (mTup (aCons (mC (.str "InvalidRow")) (aCons (mXf 1 aa d 24) (aCons (mXf 1 aa d 25) aNil))))
theorem outBarrel_cls (y : Exc) (ws : List Val) (h : outBarrel y = some ws) : y.cls ∈ [2] := by
  unfold outBarrel at h
  split at h
  · rename_i e; rw [e]; decide
  · cases h
theorem outRow_cls (y : Exc) (ws : List Val) (h : outRow y = some ws) : y.cls ∈ [1] := by
  unfold outRow at h
  split at h
  · rename_i e; rw [e]; decide
  · cases h
theorem mXf_at {aa dd : Addr} {f : Nat} {w : Val} {fs : List (Nat × Val)} {st1 : Store} (hw : fs.lookup f = some w) : mXf 1 aa (some dd) f [none, some (.adr aa)] (st1 ++ [.xfs dd fs]) = .ok w (st1 ++ [.xfs dd fs]) := by
  have e : findX dd (st1 ++ [.xfs dd fs]) = some fs := by
    have := findX_app (dd := dd) (st1 := st1) (fs := fs) (ls := [])
    simpa using this
  simp [mXf, e, hw]
theorem oneBarrel_run (y : Exc) (ws : List Val) (h : outBarrel y = some ws) (_ : ws.all flatW = true) (aa : Addr) (d : Option Addr) (st1 : Store) (hd : y.fs = [] ∧ d = none ∨ ∃ dd, d = some dd) :
    ∃ junk, mOneBarrel aa d y.cls [none, some (.adr aa)] (st1 ++ xst y d) = .ret (.tup ws) (st1 ++ junk) := by
  unfold outBarrel at h
  split at h
  · cases hl : y.fs.lookup 26 with
    | none => rw [hl] at h; cases h
    | some w =>
      rw [hl] at h
      cases h
      rcases hd with ⟨e, _⟩ | ⟨dd, rfl⟩
      · rw [e] at hl; cases hl
      · refine ⟨xst y (some dd), ?_⟩
        have g := mXf_at (aa := aa) (dd := dd) (st1 := st1) hl
        have z : (2 : Nat) ≤ sizeLine := by rw [sizeLine_eq]; omega
        unfold mOneBarrel
        simp only [sRet, mTup, aCons, aNil, xst, g, R.bind, mC]
        rw [if_pos (by simpa using z)]
  · cases h
theorem oneRow_run (y : Exc) (ws : List Val) (h : outRow y = some ws) (_ : ws.all flatW = true) (aa : Addr) (d : Option Addr) (st1 : Store) (hd : y.fs = [] ∧ d = none ∨ ∃ dd, d = some dd) :
    ∃ junk, mOneRow aa d y.cls [none, some (.adr aa)] (st1 ++ xst y d) = .ret (.tup ws) (st1 ++ junk) := by
  unfold outRow at h
  split at h
  · cases hl : y.fs.lookup 24 with
    | none => rw [hl] at h; cases h
    | some w =>
      cases hl2 : y.fs.lookup 25 with
      | none => rw [hl, hl2] at h; cases h
      | some u =>
        rw [hl, hl2] at h
        cases h
        rcases hd with ⟨e, _⟩ | ⟨dd, rfl⟩
        · rw [e] at hl; cases hl
        · refine ⟨xst y (some dd), ?_⟩
          have g := mXf_at (aa := aa) (dd := dd) (st1 := st1) hl
          have g2 := mXf_at (aa := aa) (dd := dd) (st1 := st1) hl2
          have z : (3 : Nat) ≤ sizeLine := by rw [sizeLine_eq]; omega
          unfold mOneRow
          simp only [sRet, mTup, aCons, aNil, xst, g, g2, R.bind, mC]
          rw [if_pos (by simpa using z)]
  · cases h
/-- what reading an own exception's fields needs -/
structure ExOne (T : Wh) (Da : Addr) : Prop where
  xf : XfC T.K Da
  nof : ∀ f ∈ [24, 25, 26, 27, 28], PySem.W.findIn T.K (.ref Da) (nm f) = some none
  self : PySem.W.exmOne T.K (.ref Da) (.ref Da) = some true
/-! ### t.index(text) -/
def strsV : List Val → Option (List Str)
  | [] => some []
  | .str s :: r => (strsV r).map (s :: ·)
  | _ => none
theorem strsV_map : ∀ ys : List Str, strsV (ys.map .str) = some ys
  | [] => rfl
  | y :: ys => by rw [List.map_cons, strsV, strsV_map ys]; rfl
theorem strsV_inv : ∀ {xs : List Val} {ys : List Str}, strsV xs = some ys → xs = ys.map .str
  | [], _, h => by cases h; rfl
  | .str s :: r, ys, h => by
    rw [strsV] at h
    cases q : strsV r with
    | none => rw [q] at h; cases h
    | some zs => rw [q] at h; cases h; rw [strsV_inv q]; rfl
theorem idx_first {a : Str} : ∀ {ys : List Str}, a ∈ ys → ys[ys.idxOf a]? = some a ∧ ∀ m, m < ys.idxOf a → ys[m]? ≠ some a
  | [], h => by cases h
  | y :: ys, h => by
    by_cases e : y = a
    · subst e; simp
    · rw [List.idxOf_cons, beq_eq_false_iff_ne.mpr e, cond_false]
      have := idx_first (List.mem_of_ne_of_mem (Ne.symm e) h)
      refine ⟨by simpa using this.1, fun m hm => ?_⟩
      cases m with
      | zero => simpa using e
      | succ m => simpa using this.2 m (by omega)
@[reducible] def vIndexT : Val → List Val → Store → R Val
  | .tup xs, [.str a], st => match strsV xs with
    | some ys => if a ∈ ys then .ok (.int (ys.idxOf a : Nat)) st else .bad
    | none => .bad
  | _, _, _ => .bad
section
variable {X : Cx}
theorem Reps.strs {mg : Str → Option Value} {ι : List Addr} {H : Hp} : ∀ {ys : List Str} {vs : List V}, Reps mg ι H (ys.map .str) vs → vs = ys.map V.str
  | [], _, h => by simpa [Reps] using h
  | y :: ys, _, h => by
    obtain ⟨v, r, e, h1, h2⟩ := Reps.of_cons h
    subst e
    have e1 : v = V.str y := by simpa [Rep] using h1
    rw [e1, Reps.strs h2]; rfl
theorem mt_indexT' : MtR X "tuple.index" (rM X.K X.mg vIndexT) := by
  rintro pins s σ H x xs v us Q I rx rs ⟨ι, st, w, ws, S, r1, r2, p⟩
  unfold vIndexT at p
  split at p
  · rename_i zs a
    obtain ⟨b, vs, e, h3, h4⟩ := r1.tup_inv
    obtain ⟨z, e2, hz⟩ := r2.one
    subst e e2
    have ez : z = V.str a := by simpa [Rep] using hz
    subst ez
    split at p
    · rename_i ys ey
      split at p
      · rename_i hm
        rw [strsV_inv ey] at h4
        rw [Reps.strs h4] at h3
        obtain ⟨h5, h6⟩ := idx_first hm
        exact mt_tup_index pins s σ H _ _ v us Q I rx rs ⟨b, ys, a, _, rfl, rfl, SqT.of h3, h5, h6, p.okSame S Rep.int⟩
      · exact p.elim
    · exact p.elim
  · exact p.elim
theorem quiet_indexT : ∀ x ws st, Quiet (vIndexT x ws st) := by
  intro x y st ex st' h
  unfold vIndexT at h
  repeat (first | (split at h) | cases h)
variable {o e : Expr} {mo : ME} {t : MA} {apos cpos : Pos} {me : ME}
theorem je_indexT (ho : JE X o mo) (he : JE X e me) (hbase : attributeBase o "index" X.env (eval o X.env) = eval o X.env := by rfl)
    (hfew : ((backTo cpos (starEach [e] X.env)).all (fun x => !x.1) && (backToKw cpos (keywordEach [] X.env)).all (fun x => x.1.isSome)
      && decide ([e].length + ([] : List Keyword).length + (if ([] : List Keyword).isEmpty then 0 else 1) < 30)) = true := by rfl)
    (hline : (apos.endLine == cpos.line) = true := by rfl) (hs : starEach [e] X.env = (false, eval e X.env) :: starEach [] X.env := by rfl) : JE X (.Call (.Attribute o "index" apos) [e] [] cpos) (mBM "tuple" vIndexT mo (aCons me aNil)) :=
  je_bm PySem.F.plainAttrs_tuple PySem.F.slot_tuple_index PySem.F.type_tuple_index mt_indexT' quiet_indexT ho (ja_cons he ja_nil hs) hbase hfew hline hs rfl
end
end Ab

set_option Elab.async false
set_option linter.all false
set_option maxRecDepth 100000
set_option maxHeartbeats 1000000
/-! Ab: row.names.index(x): the tuple that a property makes by tuple([..]) is known to the object, so a method of it may be called. -/
namespace Ab
open PySem PySem.Spec PyProof.Rows L2
/-- a tuple whose object is known -/
def PTup (H : Hp) (v : V) (vs : List V) : Prop := ∃ p o, v = .ref p ∧ H p = some (.frz o (.tup vs)) ∧ o.cls = .type "tuple" ∧ o.dict = none
abbrev relN (mg : Str → Option Value) : List Addr → Hp → Val → V → Prop := fun ι H a b => ∃ xs vs, a = .tup xs ∧ PTup H b vs ∧ Reps mg ι H xs vs
theorem call_tuple_frz {X : Cx} : CallR X (.type "tuple") (fun xs H Q => ∃ p ys, xs = [.ref p] ∧ SqL X.K H p ys ∧ ∀ (l : Addr) (o : Obj), H l = none → o.cls = .type "tuple" → o.dict = none → Q (.ref l) (upd H l (.frz o (.tup ys)))) := by
  intro pins s σ H xs us Q I r h
  obtain ⟨p, ys, rfl, hq, q⟩ := h
  obtain ⟨u, rfl, rx⟩ := vals1 r
  cases rx
  obtain ⟨its, r', pl, hz⟩ := I.list hq
  have hlen := r'.length
  refine call_tuple_list pl.isList (fun h' kp => ?_) (by simp only [List.size_toArray] <;> omega)
  have I1 : Inv X pins σ H { s with heap := h' } := I.kept (t' := s.toks) kp
  have I2 : Inv X pins σ (upd H h'.objs.size (.frz { cls := .type "tuple", data := .seq its.toArray } (.tup ys))) { s with heap := h'.push { cls := .type "tuple", data := .seq its.toArray } } :=
    I1.laid (t' := s.toks) (fun b o e => Heap.get?_push_of_some _ e) (Nat.le_refl _) (show ObjOk X.prog X.w _ _ _ (.frz _ (.tup ys)) from ⟨Heap.get?_push_size _ rfl, hz, its, r', IsTup.new _ _⟩)
  exact ⟨.ref h'.objs.size, _, I2, rfl, q _ _ (I1.hok.fresh (Nat.le_refl _)) rfl rfl⟩
def spN (K : PySem.W.Frag) (mg : Str → Option Value) (f : MF) : Sp := fun vs H Q E => ∃ ι ws st, Sim K mg ι st H ∧ Reps mg ι H ws vs ∧ Post K mg (relN mg) ι H Q E (f ws st)
def FnN (T : Wh) (k : Nat) (f : Addr) (mf : MF) : Prop := ∃ fd ps, ps.length = 1 ∧ PySem.W.keepIn T.K (.ref f) = true ∧ Binds T.K fd ps [] ∧ FnOk T.P T.w T.K T.mg T.base (L2.CX T.P T.w) k f fd ps (spN T.K T.mg mf)
def HasPN (T : Wh) (C : Nat) (m : Str) (k : Nat) (mf : MF) : Prop := ∀ Ca, T.mg (nm C) = some (.ref Ca) → ∃ p f, Cls T.K Ca ∧ PropOf T.K Ca m p f ∧ FnN T k f mf
theorem fnN_of1 {T : Wh} {x qual : Str} {st : Stmt} {f : Addr} {fd : FuncData} {N ps : List Str} {k m : Nat} {e : Expr} {mt : ME} {p pos rp : Pos} (F : Fun T.K x qual st f fd) (hb : Binds T.K fd ps []) (S : FnScope N ps (defScope st)) (hn : ps.length = 1) (hm : N.length = 1 + m)
    (hbody : defBody st = [.Return (some (.Call (.Name "tuple" p) [e] [] pos)) rp]) (hmg : T.mg "tuple" = none) (hgl : (defScope st).names.lookup ("tuple" : Str) = some NameKind.globalImplicit)
    (href : ∀ ρ s w s1, mt ρ s = .ok w s1 → ∃ n, w = .ref n)
    (he : ∀ (cdv : Value) (A : Around) (outer : List Env) (s : Shared) (H : Hp) (E : XK), starEach [e] (cx1 T N qual st f cdv A outer s H E).env = (false, eval e (cx1 T N qual st f cdv A outer s H E).env) :: starEach [] (cx1 T N qual st f cdv A outer s H E).env)
    (h : ∀ (cdv : Value) (A : Around) (outer : List Env) (s : Shared) (H : Hp) (E : XK), Room k (cx1 T N qual st f cdv A outer s H E).A → JE (cx1 T N qual st f cdv A outer s H E) e mt) :
    FnN T (k + 1) f (defM 1 m (sRet (mApp bTuple (aCons mt aNil)))) := by
  refine ⟨fd, ps, hn, F.kp, hb, F.okX S (fun vs H Q E hsp => ?_) (fun cdv A outer s H vs Q E hr hsp => ?_)⟩
  · obtain ⟨ι, ws, st', S', r, q⟩ := hsp
    unfold defM at q
    split at q
    · rename_i hl
      rw [← r.length, hl, hn]
    · exact q.elim
  · obtain ⟨ι, ws, st', S', r, q⟩ := hsp
    unfold defM at q
    split at q
    · rename_i hl
      have j := h cdv A outer s H E hr
      have hg : Gl (cx1 T N qual st f cdv A outer s H E) "tuple" := hgl
      rw [hbody]
      refine ⟨_, pss_one (ps_ret (pe_callTy (X := cx1 T N qual st f cdv A outer s H E) call_tuple_frz hg hmg PyProof.Rows.Boot.tuple ((ja_cons j ja_nil (he cdv A outer s H E)) (fun cls d _ H => E cls d H) (takes_of rfl rfl rfl rfl)) (by decide) (by decide) (he cdv A outer s H E) rfl)), ?_⟩
      refine ⟨ι, _, st', S', slots_start r (by rw [hl]; exact hm), ?_⟩
      show Post T.K T.mg (relL T.mg) ι H _ _ (aCons mt aNil (ws.map some ++ List.replicate m none) st')
      cases qm : mt (ws.map some ++ List.replicate m none) st' with
      | ok w s1 =>
        obtain ⟨n, rfl⟩ := href _ _ _ _ qm
        dsimp only [sRet, mApp, aCons, aNil] at q ⊢
        rw [qm] at q ⊢
        dsimp only [R.bind, bTuple] at q ⊢
        intro ι1 H1 vs1 l1 S1 r1
        obtain ⟨v, rfl, hv⟩ := r1.one
        obtain ⟨a, rfl, ha⟩ := hv.ref_inv
        cases es : seqAt s1 n with
        | none => rw [es] at q; exact q.elim
        | some ys =>
          rw [es] at q
          obtain ⟨us, hs, r2⟩ := S1.seqL es ha
          refine ⟨a, us, rfl, hs, fun l o hl ec ed => ?_⟩
          have hs2 := same_new (o := .frz o (.tup us)) hl
          exact q ι1 _ _ (l1.trans (Same.laterH hs2)) (S1.same hs2) ⟨ys, us, rfl, ⟨l, o, rfl, upd_same, ec, ed⟩, r2.later (Same.laterH hs2)⟩
      | exc y s1 =>
        dsimp only [sRet, mApp, aCons, aNil] at q ⊢
        rw [qm] at q ⊢
        exact fun ι1 H1 c d l1 S1 er => q ι1 H1 c d l1 S1 er
      | bad =>
        dsimp only [sRet, mApp, aCons, aNil] at q
        rw [qm] at q
        exact q.elim
    · exact q.elim
theorem lcM_ref {g : MG} {t : MT} {elt : ME} {okp : Store → Prop} {a : Nat} : ∀ (ws : List Val) (ρ : Slots) (st : Store) (w : Val) (s1 : Store), lcM g t elt okp a ρ ws st = .ok w s1 → ∃ n, w = .ref n := by
  intro ws
  induction ws with
  | nil => intro ρ st w s1 h; unfold lcM at h; repeat (first | (split at h) | cases h | exact ⟨_, rfl⟩)
  | cons x ws ih =>
    intro ρ st w s1 h
    unfold lcM at h
    split at h
    · split at h
      · cases h
      · rename_i ρ1 st1 eg
        cases et : t ρ1 st1 with
        | ok k st2 =>
          rw [et] at h
          dsimp only [R.noX, R.bind] at h
          split at h
          · cases ee : elt ρ1 st2 with
            | ok y st3 =>
              rw [ee] at h
              dsimp only at h
              split at h
              · split at h
                · exact ih _ _ _ _ h
                · cases h
              · cases h
            | exc _ _ => rw [ee] at h; cases h
            | bad => rw [ee] at h; cases h
          · exact ih _ _ _ _ h
        | exc _ _ => rw [et] at h; cases h
        | bad => rw [et] at h; cases h
    · cases h
theorem mLc_ref {mi : MI} {g : MG} {t : MT} {elt : ME} {vs : List Nat} (ρ : Slots) (s : Store) (w : Val) (s1 : Store) (h : mLc mi g t elt vs ρ s = .ok w s1) : ∃ n, w = .ref n := by
  dsimp only [mLc] at h
  cases q : mi ρ s with
  | ok a b => rw [q] at h; exact lcM_ref _ _ _ _ _ h
  | exc a b => rw [q] at h; cases h
  | bad => rw [q] at h; cases h
/-- o.names.index(x) -/
def vIx2 (x y : Val) (st : Store) : R Val := vIndexT x [y] st
theorem je_indexN {X : Cx} {k i C : Nat} {m y : Str} {mf : MF} {o : Expr} {mo : ME} {p0 apos yp cpos : Pos} (hCa : ∃ Ca, X.mg (nm C) = some (.ref Ca)) (h : HasPN (Cx.wh X) C m k mf) (hr : Room (k + 1) X.A) (ho : JE X o mo)
    (hN : X.N[i]? = some y := by rfl) (hv : Vis X.env.scope y := by first | exact Or.inl rfl | exact Or.inr (Or.inl rfl) | exact Or.inr (Or.inr rfl)) (hd : (y == ("__debug__" : Str)) = false := by decide)
    (hcd : (y == ("__classdict__" : Str)) = false := by decide)
    (hab : attributeBase o m X.env (eval o X.env) = eval o X.env := by rfl)
    (hbase : attributeBase (.Attribute o m p0) "index" X.env (eval (.Attribute o m p0) X.env) = eval (.Attribute o m p0) X.env := by rfl)
    (hfew : ((backTo cpos (starEach [.Name y yp] X.env)).all (fun x => !x.1) && (backToKw cpos (keywordEach [] X.env)).all (fun x => x.1.isSome)
      && decide (([.Name y yp] : List Expr).length + ([] : List Keyword).length + (if ([] : List Keyword).isEmpty then 0 else 1) < 30)) = true := by rfl)
    (hline : (apos.endLine == cpos.line) = true := by rfl) (hs : starEach [.Name y yp] X.env = (false, eval (.Name y yp) X.env) :: starEach [] X.env := by rfl) :
    JE X (.Call (.Attribute (.Attribute o m p0) "index" apos) [.Name y yp] [] cpos) (mBin vIx2 (mProp [(C, mf)] mo) (mVar i)) := fun W tk => by
  refine ⟨fun pins s σ H Q I hw => ?_⟩
  obtain ⟨ι, ρ, st, S, sl, p⟩ := hw
  obtain ⟨Ca, hC⟩ := hCa
  obtain ⟨q, f, c, hP, fd, ps, hl, hk, hb, F⟩ := h Ca hC
  have use : tProp Ca (spN X.K X.mg mf) [] E0 (rdG X.K X.mg (rel1 X.mg) W mo) σ H (fun v H1 => ∃ (p : Addr) (ob : Obj) (ys : List Str) (z : Str) (j : Nat), v = .ref p ∧ H1 p = some (.frz ob (.tup (ys.map V.str))) ∧ ob.cls = .type "tuple" ∧ ob.dict = none ∧
      σ[i]? = some (some (.str z)) ∧ ys[j]? = some z ∧ (∀ m, m < j → ys[m]? ≠ some z) ∧ Q (.int (j : Nat)) H1) → wpAny (model X.prog X.w) X.A (eval (.Call (.Attribute (.Attribute o m p0) "index" apos) [.Name y yp] [] cpos) X.env) (EP X pins σ Q) X.xe s := by
    intro hg
    refine wpAny_Call_method_late hbase hfew hline rfl (thn ((pe_prop (pos := p0) (ho W tk) c hP F hr hb .nil passL hab).run pins s σ H _ I hg) fun v s1 ⟨x, H1, I1, r1, pa, ob, ys, z, j, ex, hH, ec, ed, hz, hj, hno, fin⟩ => ?_)
    subst ex
    cases r1
    obtain ⟨hob, _⟩ := I1.hok pa _ hH
    refine ⟨"tuple", "tuple.index", PySem.F.plainAttrs_tuple, PySem.F.slot_tuple_index, PySem.F.type_tuple_index, ⟨ob, hob, ec⟩, fun a e2 => by cases e2; exact ⟨ob, hob, ed⟩, ?_⟩
    have hA := (pa_cons (pe_var (pos := yp) hN hv hd hcd) pa_nil hs).run cpos pins s1 σ H1 (fun vs H2 => vs = [.str z] ∧ H2 = H1) I1 ⟨_, hz, rfl, rfl⟩
    rw [hs] at hA ⊢
    refine Calls.callWith_builtin (by rfl) (Calls.evalArgs_plain ?_)
    refine thn hA fun us s2 ⟨vs, H2, I2, r2, e1, e2⟩ => ?_
    subst e1 e2
    exact mt_tup_index pins s2 σ H2 (.ref pa) [.str z] _ us Q I2 rfl r2 ⟨pa, ys, z, j, rfl, rfl, .inl (.inr ⟨ob, hH⟩), hj, hno, fin⟩
  cases qm : mo ρ st with
  | bad => dsimp only [mBin, mVar, vIx2, mProp] at p; rw [qm] at p; exact p.elim
  | exc x st1 =>
    dsimp only [mBin, mVar, vIx2, mProp] at p; rw [qm] at p
    exact use ⟨ι, ρ, st, S, sl, by rw [qm]; exact p⟩
  | ok x st1 =>
    dsimp only [mBin, mVar, vIx2, mProp] at p; rw [qm] at p
    dsimp only [R.bind] at p
    cases qc : clsAt st1 x with
    | none => rw [qc] at p; exact p.elim
    | some C' =>
      rw [qc] at p
      dsimp only at p
      by_cases hCC : C' = C
      · subst hCC
        rw [show ([(C', mf)] : List (Nat × MF)).lookup C' = some mf from by simp] at p
        dsimp only at p
        refine use ⟨ι, ρ, st, S, sl, ?_⟩
        rw [qm]
        intro ι1 H1 v l1 S1 r1
        obtain ⟨n, fs, e, ecc⟩ := clsAt_some qc
        subst e
        obtain ⟨a, e1, ha⟩ := Rep.ref_inv r1
        obtain ⟨Ca', dx, vs, e2, e3, rf⟩ := S1.at ecc ha
        rw [hC] at e2
        cases e2
        refine ⟨a, dx, vs, e1, e3, ι1, _, st1, S1, Reps.cons (by rw [← e1]; exact r1) Reps.nil, ?_⟩
        cases qf : mf [.ref n] st1 with
        | ok w s3 =>
          rw [qf] at p
          dsimp only at p
          intro ι2 H2 b l2 S2 rn
          obtain ⟨xs, vs2, rfl, ⟨pp, ob, rfl, hH, ec, ed⟩, rr⟩ := rn
          cases qi : ρ[i]? with
          | none => rw [qi] at p; exact p.elim
          | some oy =>
            cases oy with
            | none => rw [qi] at p; exact p.elim
            | some yv =>
              rw [qi] at p
              dsimp only at p
              unfold vIndexT at p
              split at p
              · rename_i zs a2 eza eyb
                cases eza
                cases eyb
                obtain ⟨vy, hvy, ry⟩ := sl.2 i _ qi
                have e5 : vy = V.str a2 := by simpa [Rep] using ry
                subst e5
                split at p
                · rename_i ys eys
                  split at p
                  · rename_i hmem
                    rw [strsV_inv eys] at rr
                    rw [Reps.strs rr] at hH
                    obtain ⟨h5, h6⟩ := idx_first hmem
                    refine ⟨pp, ob, ys, a2, ys.idxOf a2, rfl, hH, ec, ed, hvy, h5, h6, ?_⟩
                    exact p ι2 H2 _ (l1.trans l2) S2 Rep.int
                  · exact p.elim
                · exact p.elim
              · exact p.elim
        | exc x s3 => rw [qf] at p; exact p.elim
        | bad => rw [qf] at p; exact p.elim
      · rw [show ([(C, mf)] : List (Nat × MF)).lookup C' = none from by rw [List.lookup_cons, beq_eq_false_iff_ne.mpr hCC]; rfl] at p
        exact p.elim
end Ab

set_option Elab.async false
set_option linter.all false
set_option maxRecDepth 100000
set_option maxHeartbeats 1000000
/-! Ab: dict == dict, values of any depth. -/
namespace Ab
open PySem PySem.Spec PyProof.Rows L2
def dEq (st : Store) (kb : List (Key × Val)) : List (Key × Val) → Option Bool
  | [] => some true
  | (k, v) :: r => match valW kb k with
    | none => some false
    | some w => match deep st 15 v, deep st 15 w, dEq st kb r with
      | some d, some e, some b => some (PyData.eqv d e && b)
      | _, _, _ => none
def vEqD (x y : Val) (st : Store) : R Val := match x, y with
  | .ref n, .ref m => match st[n]?, st[m]? with
    | some (.dct ka), some (.dct kb) => match dEq st kb ka with
      | some b => .ok (.bl (ka.length == kb.length && b)) st
      | none => .bad
    | _, _ => .bad
  | _, _ => .bad
def vNeD (x y : Val) (st : Store) : R Val := match x, y with
  | .ref n, .ref m => match st[n]?, st[m]? with
    | some (.dct ka), some (.dct kb) => match dEq st kb ka with
      | some b => .ok (.bl (!(ka.length == kb.length && b))) st
      | none => .bad
    | _, _ => .bad
  | _, _ => .bad
section
variable {mg : Str → Option Value} {ι : List Addr} {H : Hp}
theorem RepK.valN {k : Key} : ∀ {ws : List (Key × Val)} {vs : List (Key × V)}, RepK mg ι H ws vs → valW ws k = none → valV vs k = none
  | _, _, .nil, _ => rfl
  | (q, w) :: ws, (q', v) :: vs, .cons h hs, e => by
    obtain ⟨h1, h2⟩ := h
    simp only at h1
    subst h1
    rw [valW] at e
    by_cases z : q = k
    · rw [if_pos z] at e; cases e
    · rw [if_neg z] at e
      have := RepK.valN hs e
      unfold valV at this ⊢
      rw [List.find?_cons_of_neg (by simpa using z)]
      exact this
end
section
variable {X : Cx} {pins : List (Addr × Obj)} {s : Shared} {σ : L2.St} {H : Hp} {ι : List Addr} {st : Store}
theorem deq_hits (hu : X.A.units + 64 < cLine) (I : Inv X pins σ H s) (S : Sim X.K X.mg ι st H) {kb : List (Key × Val)} {vb : List (Key × V)} {ub : List (Key × Value)} (rb : RepK X.mg ι H kb vb) (qb : KV vb ub) :
    ∀ {ka : List (Key × Val)} {va : List (Key × V)} {ua : List (Key × Value)} {b : Bool}, RepK X.mg ι H ka va → KV va ua → dEq st kb ka = some b → PySem.W.KeqHits X.A.in1 s ub ua b
  | _, _, _, _, .nil, .nil, h => by cases h; exact .nil
  | (k, v) :: ka, (k', x) :: va, (k'', u) :: ua, b, .cons h hs, .cons g gs, e => by
    obtain ⟨h1, h2⟩ := h
    obtain ⟨g1, g2⟩ := g
    simp only at h1 h2 g1 g2
    subst h1 g1
    rw [dEq] at e
    cases ew : valW kb k with
    | none =>
      rw [ew] at e
      cases e
      refine .miss ?_
      have z := KV.val qb k
      rw [rb.valN ew] at z
      cases ev : valueAt ub k with
      | none => rfl
      | some y => rw [ev] at z; exact z.elim
    | some w =>
      rw [ew] at e
      dsimp only at e
      obtain ⟨y, e1, e2⟩ := rb.val ew
      have z := KV.val qb k
      rw [e1] at z
      cases ev : valueAt ub k with
      | none => rw [ev] at z; exact z.elim
      | some yv =>
        rw [ev] at z
        cases q1 : deep st 15 v with
        | none => rw [q1] at e; cases e
        | some d =>
          cases q2 : deep st 15 w with
          | none => rw [q1, q2] at e; cases e
          | some d2 =>
            cases q3 : dEq st kb ka with
            | none => rw [q1, q2, q3] at e; cases e
            | some b' =>
              rw [q1, q2, q3] at e
              cases e
              obtain ⟨as, p1⟩ := Dp.reads I d x u ((deep_ok S q1).2.2 h2) g2
              obtain ⟨bs, p2⟩ := Dp.reads I d2 y yv ((deep_ok S q2).2.2 e2) z
              have l1 : d.depth ≤ 15 := (deep_ok S q1).2.1
              refine .hit ev (SeqAt.eqAt_reads d d2 X.A.in1 s u yv as bs p1 p2 (SeqAt.canLay_of_shaped (deep_shaped S (by decide) q1)) (SeqAt.canLay_of_shaped (deep_shaped S (by decide) q2)) ?_) (deq_hits hu I S rb qb hs gs q3)
              show X.A.units + 1 + min d.depth d2.depth < cLine
              omega
theorem m2_neD (hu : X.A.units + 64 < cLine) : M2 X (compareOp .NotEq) vNeD := by
  rintro pins s σ H x y u1 u2 Q I rx ry ⟨ι, st, w1, w2, S, r1, r2, p⟩
  unfold vNeD at p
  split at p
  · rename_i n m
    obtain ⟨a, e1, ha⟩ := Rep.ref_inv r1
    obtain ⟨b, e2, hb⟩ := Rep.ref_inv r2
    subst e1 e2
    split at p
    · rename_i ka kb ca cb
      obtain ⟨va, h1, h2⟩ := S.at ca ha
      obtain ⟨vb, g1, g2⟩ := S.at cb hb
      obtain ⟨_, la, ua, ka1, ka2⟩ := I.hok a _ h1
      obtain ⟨_, lb, ub, kb1, kb2⟩ := I.hok b _ g1
      split at p
      · rename_i bb hbb
        obtain rfl : u1 = Value.ref a := rx
        obtain rfl : u2 = Value.ref b := ry
        have el : (ua.length == ub.length) = (ka.length == kb.length) := by rw [← KV.length ka1, ← KV.length kb1, ← h2.length, ← g2.length]
        refine PySem.W.keq_ne la lb ka2 kb2 (by omega) (fun _ => deq_hits hu I S g2 kb1 h2 ka1 hbb) ?_
        rw [el]
        exact ⟨.bl _, H, I, rfl, p.okSame S Rep.bl⟩
      · exact p.elim
    · exact p.elim
  · exact p.elim
theorem m2_eqD (hu : X.A.units + 64 < cLine) : M2 X (compareOp .Eq) vEqD := by
  rintro pins s σ H x y u1 u2 Q I rx ry ⟨ι, st, w1, w2, S, r1, r2, p⟩
  unfold vEqD at p
  split at p
  · rename_i n m
    obtain ⟨a, e1, ha⟩ := Rep.ref_inv r1
    obtain ⟨b, e2, hb⟩ := Rep.ref_inv r2
    subst e1 e2
    split at p
    · rename_i ka kb ca cb
      obtain ⟨va, h1, h2⟩ := S.at ca ha
      obtain ⟨vb, g1, g2⟩ := S.at cb hb
      obtain ⟨_, la, ua, ka1, ka2⟩ := I.hok a _ h1
      obtain ⟨_, lb, ub, kb1, kb2⟩ := I.hok b _ g1
      split at p
      · rename_i bb hbb
        obtain rfl : u1 = Value.ref a := rx
        obtain rfl : u2 = Value.ref b := ry
        have el : (ua.length == ub.length) = (ka.length == kb.length) := by rw [← KV.length ka1, ← KV.length kb1, ← h2.length, ← g2.length]
        refine PySem.W.keq_eq la lb ka2 kb2 (by omega) (fun _ => deq_hits hu I S g2 kb1 h2 ka1 hbb) ?_
        rw [el]
        exact ⟨.bl _, H, I, rfl, p.okSame S Rep.bl⟩
      · exact p.elim
    · exact p.elim
  · exact p.elim
theorem quiet_eqD : ∀ x y st, Quiet (vEqD x y st) := by
  intro x y st ex st' h
  unfold vEqD at h
  repeat (first | (split at h) | cases h)
theorem quiet_neD : ∀ x y st, Quiet (vNeD x y st) := by
  intro x y st ex st' h
  unfold vNeD at h
  repeat (first | (split at h) | cases h)
end
end Ab

set_option Elab.async false
set_option linter.all false
set_option maxRecDepth 100000
set_option maxHeartbeats 1000000
/-! Ab: the end of a law: from the walk of its body and the plain law to what the head asks. -/
namespace Ab
open PySem PySem.Spec PyProof.Rows L2
/-- the cell of the script: a list that may be read -/
def IsScript (ns : List Int) (c : Cell) : Prop := c = .frz (ns.map Val.int) ∨ c = .lst (ns.map Val.int)
theorem reps_ints {mg : Str → Option Value} {ι : List Addr} {H : Hp} : ∀ ns : List Int, Reps mg ι H (ns.map Val.int) (ns.map V.int)
  | [] => .nil
  | n :: r => .cons Rep.int (reps_ints r)
theorem tabsOf_law {K : PySem.W.Frag} {mg : Str → Option Value} {fa c P : Addr} {oc : Value} {od : Option Addr} {fd : FuncData} {osl : Array (Option Value)} {e : Value} {dd : Option Addr} {vs : Array Value} {sl : Array (Option Value)} (hmg : mg "law" = some (.ref fa)) (h1 : mg "_law_refused" = none) (h2 : mg "_law_changed" = none)
    (lk : K.lookup fa = some ⟨oc, od, .func fd, osl⟩) (hc : fd.code = .ref c) (lc : K.lookup c = some ⟨e, dd, .fields vs, sl⟩) (h11 : vs[11]? = some (.ref P)) : tabsOf K mg = [(P, ("law" : Str) ++ ".<locals>." ++ "<lambda>")] := by
  have t0 : tabOf K mg "law" = some (P, ("law" : Str) ++ ".<locals>." ++ "<lambda>") := by unfold tabOf; rw [hmg]; dsimp only; rw [lk]; dsimp only; rw [hc]; dsimp only; rw [lc]; dsimp only; rw [h11]
  have t1 : tabOf K mg "_law_refused" = none := by unfold tabOf; rw [h1]
  have t2 : tabOf K mg "_law_changed" = none := by unfold tabOf; rw [h2]
  unfold tabsOf lamNames
  simp only [List.filterMap_cons, t0, t1, t2, List.filterMap_nil]
theorem law_at {l : PySem.W.OpenLaw} {w : World} {K : PySem.W.Frag} {mg : Str → Option Value} {fa c P : Addr} {h : Heap} {st : Stmt} {x : Str} {N : List Str} {m lev : Nat} {body : MS} {kV doc pm ct oc : Value} {an od : Option Addr} {osl : Array (Option Value)} {e : Value} {dd : Option Addr} {vs : Array Value} {sl : Array (Option Value)}
    (X : K.In h) (own : LamX.OwnTab K fa h) (hmg : mg "law" = some (.ref fa)) (h1 : mg "_law_refused" = none) (h2 : mg "_law_changed" = none)
    (lk : K.lookup fa = some ⟨oc, od, .func (PySem.W.fnOf "law" "law" (defArgs st) (defBody st) (defScope st) .none kV doc pm an (.ref c) ct), osl⟩) (hcd : PySem.W.codeIn K (.ref c) "law" = true) (lc : K.lookup c = some ⟨e, dd, .fields vs, sl⟩) (h11 : vs[11]? = some (.ref P)) (nP : K.lookup P = none) (hh : PySem.W.codeHdIn K c P = true)
    (S : FnScope N [x] (defScope st)) (hm : N.length = 1 + m)
    (hb : ∀ (s : Shared) (u : Value), BindsTo s (PySem.W.fnOf "law" "law" (defArgs st) (defBody st) (defScope st) .none kV doc pm an (.ref c) ct) ⟨[u], []⟩ [(x, u)])
    (hj : ∀ base : Heap, K.In base → base.Ns mainGlobals mg → LamX.TabB base mg c P → (P, ("law" : Str) ++ ".<locals>." ++ "<lambda>") ∈ tabsOf K mg → (∀ p ∈ tabsOf K mg, p.1 = P → p.2 = ("law" : Str) ++ ".<locals>." ++ "<lambda>") →
      ∀ (A : Around) (outer : List Env) (s : Shared) (H : Hp) (E : XK), Room lev (cx1 ⟨l.prog, w, K, mg, base⟩ N "law" st fa (.ref c) A outer s H E).A → JSs (cx1 ⟨l.prog, w, K, mg, base⟩ N "law" st fa (.ref c) A outer s H E) (defBody st) body)
    (plain : ∀ (ns : List Int) (cell : Cell), IsScript ns cell → ns.length ≤ 63 → (∀ z ∈ ns, Builtin.Int.intBits z ≤ 1048576) → ∃ st', defM 1 m body [.ref 0] [cell] = .ok (.bl true) st') :
    LamX.LawAtS l w K (L2.CX l.prog w) (lev + 1) 63 x mg fa h := by
  have hT := tabsOf_law hmg h1 h2 lk rfl lc h11
  refine ⟨_, [(c, P)], spM K mg (defM 1 m body), ?_, ?_, ?_, hb, ?_, ?_⟩
  · intro p hp
    rw [List.mem_singleton.mp hp]
    exact own c P _ _ _ _ _ _ lk rfl rfl lc h11
  · intro p hp
    rw [List.mem_singleton.mp hp]
    exact nP
  · intro p hp
    rw [List.mem_singleton.mp hp]
    exact PySem.W.codeHd_of_K X hh
  · intro H a ns hl hbits hcs hS
    have tabs : LamX.Tabs (tabsOf K mg) H := fun p hp => by
      rw [hT] at hp
      rw [List.mem_singleton.mp hp]
      exact LamX.TabS.nil (hcs (c, P) List.mem_cons_self)
    have go : ∀ cell, IsScript ns cell → CellOk K mg [a] H a cell → spM K mg (defM 1 m body) [.ref a] H (fun v _ => v = .bl true) fun _ _ _ => False := by
      intro cell hc hok
      obtain ⟨st', e'⟩ := plain ns cell hc hl hbits
      refine ⟨[a], [.ref 0], [cell], ⟨rfl, fun n m' b c' d' q1 q2 q3 q4 _ _ => ?_, fun n c' b q1 q2 => ?_, tabs⟩, .cons (Rep.ref rfl) .nil, ?_⟩
      · have := (List.getElem?_eq_some_iff.mp q1).1
        have := (List.getElem?_eq_some_iff.mp q2).1
        simp at *
        omega
      · have z := (List.getElem?_eq_some_iff.mp q1).1
        have z0 : n = 0 := by simp at z; omega
        subst z0
        simp at q1 q2
        subst q1 q2
        exact hok
      · rw [e']
        intro ι' H' v l' S' r
        exact Rep.bl_inv r
    rcases hS with (hS | ⟨o, hS⟩) | ⟨o, its, n, k1, k2, k3, k4, k5, k6⟩
    · exact go _ (.inr rfl) ⟨_, hS, reps_ints ns⟩
    · exact go _ (.inl rfl) ⟨_, .inl ⟨o, hS⟩, reps_ints ns⟩
    · exact go _ (.inl rfl) ⟨_, .inr ⟨o, its, n, k1, k2, k3, k4, k5, k6⟩, reps_ints ns⟩
  · intro base hK hNs hTB
    refine fn_of lk hcd S (fun vs H Q E hsp => ?_) fun A outer s H vs Q E hr hsp => ?_
    · obtain ⟨ι, ws, st', S', r, p⟩ := hsp
      unfold defM at p
      split at p
      · rename_i hl
        rw [← r.length, hl]; rfl
      · exact p.elim
    · obtain ⟨ι, ws, st', S', r, p⟩ := hsp
      unfold defM at p
      split at p
      · rename_i hl
        have j := hj base hK hNs (hTB (c, P) List.mem_cons_self) (by rw [hT]; exact List.mem_cons_self) (fun p hp _ => by rw [hT] at hp; rw [List.mem_singleton.mp hp]) A outer s H E hr
        refine ⟨_, j (fun cls d _ H => E cls d H) (takes_of rfl rfl rfl rfl), ι, _, st', S', slots_start r (by rw [hl]; exact hm), ?_⟩
        show PostO K mg _ ι H _ (body (ws.map some ++ List.replicate m none) st')
        cases q : body (ws.map some ++ List.replicate m none) st' with
        | nx ρ s1 => rw [q] at p; exact fun ι1 H1 σ1 l S1 sl => p ι1 H1 _ l S1 Rep.non
        | ret w s1 => rw [q] at p; exact p
        | exc x ρ s1 => rw [q] at p; exact fun ι1 H1 σ1 c d l S1 sl r => p ι1 H1 c d l S1 r
        | brk ρ s1 => rw [q] at p; exact p.elim
        | ct ρ s1 => rw [q] at p; exact p.elim
        | bad => rw [q] at p; exact p.elim
      · exact p.elim
end Ab
namespace Ab
open PySem PySem.Spec PyProof.Rows L2
theorem nof5 {K : PySem.W.Frag} {Da : Addr} (h1 : PySem.W.findIn K (.ref Da) "part" = some none) (h2 : PySem.W.findIn K (.ref Da) "index" = some none) (h3 : PySem.W.findIn K (.ref Da) "name" = some none) (h4 : PySem.W.findIn K (.ref Da) "line" = some none) (h5 : PySem.W.findIn K (.ref Da) "offset" = some none) :
    ∀ f ∈ [24, 25, 26, 27, 28], PySem.W.findIn K (.ref Da) (nm f) = some none := by
  intro f hf
  simp only [List.mem_cons, List.not_mem_nil, or_false] at hf
  rcases hf with e | e | e | e | e <;> subst e
  · exact h1
  · exact h2
  · exact h3
  · exact h4
  · exact h5
theorem isc8 {K : PySem.W.Frag} {h : Heap} {mg : Str → Option Value} {Da C1 C2 C3 C4 C5 C6 C7 C8 : Addr} {b1 b2 b3 b4 b5 b6 b7 b8 : Bool} {D : Nat} (X : K.In h) (G : h.Ns mainGlobals mg)
    (a1 : PySem.W.nsIn K mainGlobals "InvalidRow" = some (some (.ref C1))) (a2 : PySem.W.nsIn K mainGlobals "UnknownBarrel" = some (some (.ref C2))) (a3 : PySem.W.nsIn K mainGlobals "InvalidNumber" = some (some (.ref C3))) (a4 : PySem.W.nsIn K mainGlobals "InvalidWeather" = some (some (.ref C4)))
    (a5 : PySem.W.nsIn K mainGlobals "InvalidOperation" = some (some (.ref C5))) (a6 : PySem.W.nsIn K mainGlobals "InvalidText" = some (some (.ref C6))) (a7 : PySem.W.nsIn K mainGlobals "DaybookError" = some (some (.ref C7))) (a8 : PySem.W.nsIn K mainGlobals "DecodeError" = some (some (.ref C8)))
    (k1 : PySem.W.kitOne K (.ref Da) (.ref C1) = some b1) (k2 : PySem.W.kitOne K (.ref Da) (.ref C2) = some b2) (k3 : PySem.W.kitOne K (.ref Da) (.ref C3) = some b3) (k4 : PySem.W.kitOne K (.ref Da) (.ref C4) = some b4)
    (k5 : PySem.W.kitOne K (.ref Da) (.ref C5) = some b5) (k6 : PySem.W.kitOne K (.ref Da) (.ref C6) = some b6) (k7 : PySem.W.kitOne K (.ref Da) (.ref C7) = some b7) (k8 : PySem.W.kitOne K (.ref Da) (.ref C8) = some b8)
    (e1 : b1 = decide (D = 1) := by rfl) (e2 : b2 = decide (D = 2) := by rfl) (e3 : b3 = decide (D = 4) := by rfl) (e4 : b4 = decide (D = 6) := by rfl) (e5 : b5 = decide (D = 7) := by rfl) (e6 : b6 = decide (D = 8) := by rfl) (e7 : b7 = decide (D = 9) := by rfl) (e8 : b8 = decide (D = 10) := by rfl) :
    ∀ C ∈ [1, 2, 4, 6, 7, 8, 9, 10], ∀ Ca, mg (nm C) = some (.ref Ca) → PySem.W.kitOne K (.ref Da) (.ref Ca) = some (decide (D = C)) := by
  intro C hC Ca h
  simp only [List.mem_cons, List.not_mem_nil, or_false] at hC
  rcases hC with e | e | e | e | e | e | e | e <;> subst e
  · cases (PySem.W.mg_of X G a1).symm.trans h; rw [k1, e1]
  · cases (PySem.W.mg_of X G a2).symm.trans h; rw [k2, e2]
  · cases (PySem.W.mg_of X G a3).symm.trans h; rw [k3, e3]
  · cases (PySem.W.mg_of X G a4).symm.trans h; rw [k4, e4]
  · cases (PySem.W.mg_of X G a5).symm.trans h; rw [k5, e5]
  · cases (PySem.W.mg_of X G a6).symm.trans h; rw [k6, e6]
  · cases (PySem.W.mg_of X G a7).symm.trans h; rw [k7, e7]
  · cases (PySem.W.mg_of X G a8).symm.trans h; rw [k8, e8]
/-- codeHdIn, told of the code object's fields -/
def codeHdB (e : Value) (vs : Array Value) (c P : Addr) : Bool := match e with
  | .type "code" => (match (vs[11]? : Option Value) with | some (.ref P') => P' == P | _ => false) &&
      (match vs.getD 18 .none with | .str _ _ => true | _ => false) && (match vs.getD 7 .none with | .int _ _ => true | _ => false) &&
      (match vs.getD 9 .none with | .bool _ => true | _ => false) && (match vs.getD 10 .none with | .int _ _ => true | _ => false) && c != P
  | _ => false
theorem codeHd_by {K : PySem.W.Frag} {c P : Addr} {e : Value} {dd : Option Addr} {vs : Array Value} {sl : Array (Option Value)} (lc : K.lookup c = some ⟨e, dd, .fields vs, sl⟩) (h : codeHdB e vs c P = true) : PySem.W.codeHdIn K c P = true := by
  unfold codeHdB at h
  split at h
  · unfold PySem.W.codeHdIn
    rw [lc]
    exact h
  · cases h
end Ab

set_option Elab.async false
set_option linter.all false
set_option maxRecDepth 100000
set_option maxHeartbeats 1000000
/-! Ab: what a mirror's run asks, written as a wish on its end (for the plain laws). -/
namespace Ab
open PySem PySem.Spec PyProof.Rows L2
/-- a run that ends well wishes Q, one that raises wishes X -/
def WpR {α : Type} (r : R α) (Q : α → Store → Prop) (X : Exc → Store → Prop) : Prop := match r with
  | .ok a st => Q a st
  | .exc x st => X x st
  | .bad => False
/-- what a statement's ends wish -/
structure Wish where
  nx : Slots → Store → Prop := fun _ _ => False
  rt : Val → Store → Prop := fun _ _ => False
  bk : Slots → Store → Prop := fun _ _ => False
  ct : Slots → Store → Prop := fun _ _ => False
  ex : Exc → Store → Prop := fun _ _ => False
def WpO (o : O) (W : Wish) : Prop := match o with
  | .nx ρ st => W.nx ρ st
  | .ret w st => W.rt w st
  | .brk ρ st => W.bk ρ st
  | .ct ρ st => W.ct ρ st
  | .exc x ρ st => W.ex x st
  | .bad => False
section
variable {α β : Type} {Q : α → Store → Prop} {X : Exc → Store → Prop} {W : Wish} {st : Store} {ρ : Slots}
@[simp] theorem wp_ok {a : α} : WpR (.ok a st) Q X = Q a st := rfl
@[simp] theorem wp_exc {x : Exc} : WpR (α := α) (.exc x st) Q X = X x st := rfl
@[simp] theorem wp_bad : WpR (α := α) .bad Q X = False := rfl
@[simp] theorem wpo_nx : WpO (.nx ρ st) W = W.nx ρ st := rfl
@[simp] theorem wpo_ret {w : Val} : WpO (.ret w st) W = W.rt w st := rfl
@[simp] theorem wpo_brk : WpO (.brk ρ st) W = W.bk ρ st := rfl
@[simp] theorem wpo_ct : WpO (.ct ρ st) W = W.ct ρ st := rfl
@[simp] theorem wpo_exc {x : Exc} : WpO (.exc x ρ st) W = W.ex x st := rfl
@[simp] theorem wpo_bad : WpO .bad W = False := rfl
theorem WpR.mono {r : R α} {Q' : α → Store → Prop} {X' : Exc → Store → Prop} (h : WpR r Q X) (hq : ∀ a st, Q a st → Q' a st) (hx : ∀ x st, X x st → X' x st) : WpR r Q' X' := by
  cases r with
  | ok a st => exact hq a st h
  | exc x st => exact hx x st h
  | bad => exact h
theorem WpO.mono {o : O} {W' : Wish} (h : WpO o W) (h1 : ∀ ρ st, W.nx ρ st → W'.nx ρ st) (h2 : ∀ w st, W.rt w st → W'.rt w st) (h3 : ∀ ρ st, W.bk ρ st → W'.bk ρ st) (h4 : ∀ ρ st, W.ct ρ st → W'.ct ρ st) (h5 : ∀ x st, W.ex x st → W'.ex x st) : WpO o W' := by
  cases o with
  | nx ρ st => exact h1 _ _ h
  | ret w st => exact h2 _ _ h
  | brk ρ st => exact h3 _ _ h
  | ct ρ st => exact h4 _ _ h
  | exc x ρ st => exact h5 _ _ h
  | bad => exact h
theorem wp_bind {r : R α} {f : α → Store → R β} {Q : β → Store → Prop} : WpR (r.bind f) Q X = WpR r (fun a st => WpR (f a st) Q X) X := by
  cases r <;> rfl
theorem wp_toO {r : R α} {f : α → Store → O} : WpO (r.toO ρ f) W = WpR r (fun a st => WpO (f a st) W) W.ex := by
  cases r <;> rfl
theorem wpo_then {o : O} {f : Slots → Store → O} : WpO (o.then f) W = WpO o { W with nx := fun ρ st => WpO (f ρ st) W } := by
  cases o <;> rfl
theorem wp_fin {o : O} {Q : Val → Store → Prop} : WpR o.fin Q X = WpO o { nx := fun _ st => Q .non st, rt := Q, ex := X } := by
  cases o <;> rfl
theorem wp_def {n m : Nat} {body : MS} {ws : List Val} {Q : Val → Store → Prop} (h : ws.length = n) : WpR (defM n m body ws st) Q X = WpO (body (ws.map some ++ List.replicate m none) st) { nx := fun _ st => Q .non st, rt := Q, ex := X } := by
  rw [defM_eq h, wp_fin]
theorem wp_eq {r : R α} (h : WpR r Q fun _ _ => False) : ∃ a st', r = .ok a st' ∧ Q a st' := by
  cases r with
  | ok a st => exact ⟨a, st, rfl, h⟩
  | exc x st => exact h.elim
  | bad => exact h.elim
end
/-! ### the combinators -/
section
variable {Q : Val → Store → Prop} {QB : Bool → Store → Prop} {QL : List Val → Store → Prop} {X : Exc → Store → Prop} {W : Wish} {st : Store} {ρ : Slots} {a b m : ME} {t u : MT} {ta : MA} {s s1 s2 : MS}
theorem w_var {i : Nat} {v : Val} (h : ρ[i]? = some (some v)) : WpR (mVar i ρ st) Q X = Q v st := by unfold mVar; rw [h]; rfl
theorem w_C {v : Val} : WpR (mC v ρ st) Q X = Q v st := rfl
theorem w_bin {g : Val → Val → Store → R Val} : WpR (mBin g a b ρ st) Q X = WpR (a ρ st) (fun x st1 => WpR (b ρ st1) (fun y st2 => WpR (g x y st2) Q X) X) X := by
  unfold mBin; rw [wp_bind]; simp only [wp_bind]
theorem w_test : WpR (mTest m ρ st) QB X = WpR (m ρ st) (fun x st1 => WpR (asB x st1) QB X) X := by unfold mTest; rw [wp_bind]
theorem w_not : WpR (tNotM t ρ st) QB X = WpR (t ρ st) (fun k st1 => QB (!k) st1) X := by unfold tNotM; rw [wp_bind]; rfl
theorem w_aNil : WpR (aNil ρ st) QL X = QL [] st := rfl
theorem w_aCons : WpR (aCons m ta ρ st) QL X = WpR (m ρ st) (fun x st1 => WpR (ta ρ st1) (fun xs st2 => QL (x :: xs) st2) X) X := by
  unfold aCons; rw [wp_bind]; simp only [wp_bind, wp_ok]
theorem w_app {f : MF} : WpR (mApp f ta ρ st) Q X = WpR (ta ρ st) (fun xs st1 => WpR (f xs st1) Q X) X := by unfold mApp; rw [wp_bind]
theorem w_if : WpR (mIf t a b ρ st) Q X = WpR (t ρ st) (fun k st1 => if k = true then WpR (a ρ st1) Q X else WpR (b ρ st1) Q X) X := by
  unfold mIf; rw [wp_bind]; congr 1; funext k st1; split <;> rfl
theorem w_seq : WpO (sSeq s1 s2 ρ st) W = WpO (s1 ρ st) { W with nx := fun ρ st => WpO (s2 ρ st) W } := by unfold sSeq; rw [wpo_then]
theorem w_set {i : Nat} : WpO (sSet i m ρ st) W = WpR (m ρ st) (fun w st1 => W.nx (ρ.set i (some w)) st1) W.ex := by unfold sSet; rw [wp_toO]; rfl
theorem w_ret : WpO (sRet m ρ st) W = WpR (m ρ st) (fun w st1 => W.rt w st1) W.ex := by unfold sRet; rw [wp_toO]; rfl
theorem w_drop : WpO (sDrop m ρ st) W = WpR (m ρ st) (fun _ st1 => W.nx ρ st1) W.ex := by unfold sDrop; rw [wp_toO]; rfl
theorem w_sif : WpO (sIf t s1 s2 ρ st) W = WpR (t ρ st) (fun k st1 => if k = true then WpO (s1 ρ st1) W else WpO (s2 ρ st1) W) W.ex := by
  unfold sIf; rw [wp_toO]; congr 1; funext k st1; split <;> rfl
theorem w_next : WpO (sNext ρ st) W = W.nx ρ st := rfl
theorem w_lst : WpR (mLst ta ρ st) Q X = WpR (ta ρ st) (fun xs st1 => xs.length ≤ sizeLine ∧ Q (.ref st1.length) (st1 ++ [.lst xs])) X := by
  unfold mLst; rw [wp_bind]; congr 1; funext xs st1
  by_cases h : xs.length ≤ sizeLine <;> simp [h]
theorem w_tup : WpR (mTup ta ρ st) Q X = WpR (ta ρ st) (fun xs st1 => xs.length ≤ sizeLine ∧ Q (.tup xs) st1) X := by
  unfold mTup; rw [wp_bind]; congr 1; funext xs st1
  by_cases h : xs.length ≤ sizeLine <;> simp [h]
end

/-! ### loops -/
section
variable {g : MG} {body : MS} {okp : Store → Prop} {W : Wish} {X : Exc → Store → Prop}
theorem w_for {mi : MI} {ρ : Slots} {st : Store} : WpO (sFor mi g body ρ st) W = WpR (mi ρ st) (fun it st1 => WpO (forM g body it.2 it.1 ρ st1) W) W.ex := by unfold sFor; rw [wp_toO]
/-- a loop by an invariant told of the number of turns behind it -/
theorem forM_wp {items : List Val} (Inv : Nat → Slots → Store → Prop) (hok : ∀ i ρ st, i ≤ items.length → Inv i ρ st → okp st)
    (step : ∀ i w ρ st, items[i]? = some w → Inv i ρ st → ∃ ρ1 st1, g w ρ st = some (ρ1, st1) ∧ WpO (body ρ1 st1) { nx := Inv (i + 1), ct := Inv (i + 1), bk := W.nx, rt := W.rt, ex := W.ex })
    (fin : ∀ ρ st, Inv items.length ρ st → W.nx ρ st) {ρ : Slots} {st : Store} (h : Inv 0 ρ st) : WpO (forM g body okp items ρ st) W := by
  have key : ∀ (k i : Nat) (ρ : Slots) (st : Store), items.length - i = k → i ≤ items.length → Inv i ρ st → WpO (forM g body okp (items.drop i) ρ st) W := by
    intro k
    induction k with
    | zero =>
      intro i ρ st hk hi h
      have e : i = items.length := by omega
      subst e
      rw [List.drop_length]
      unfold forM
      rw [if_pos (hok _ _ _ hi h)]
      exact fin ρ st h
    | succ k ih =>
      intro i ρ st hk hi h
      have hlt : i < items.length := by omega
      rw [List.drop_eq_getElem_cons hlt]
      unfold forM
      rw [if_pos (hok _ _ _ hi h)]
      obtain ⟨ρ1, st1, hg, hb⟩ := step i _ ρ st (List.getElem?_eq_getElem hlt) h
      rw [hg]
      dsimp only
      cases q : body ρ1 st1 with
      | nx ρ2 st2 => rw [q] at hb; exact ih (i + 1) ρ2 st2 (by omega) hlt hb
      | ct ρ2 st2 => rw [q] at hb; exact ih (i + 1) ρ2 st2 (by omega) hlt hb
      | brk ρ2 st2 => rw [q] at hb; exact hb
      | ret w st2 => rw [q] at hb; exact hb
      | exc x ρ2 st2 => rw [q] at hb; exact hb
      | bad => rw [q] at hb; exact hb
  have z := key _ 0 ρ st rfl (Nat.zero_le _) h
  rwa [List.drop_zero] at z
/-- a comprehension by an invariant told of the turns behind it and of what was gathered -/
theorem lcM_wp {t : MT} {elt : ME} {D : Nat} {ρ : Slots} {items : List Val} {Q : Val → Store → Prop} (Inv : Nat → List Val → Store → Prop) (hok : ∀ i acc st, i ≤ items.length → Inv i acc st → okp st)
    (step : ∀ i w acc st, items[i]? = some w → Inv i acc st → ∃ ρ1 st1, g w ρ st = some (ρ1, st1) ∧ WpR (t ρ1 st1) (fun k st2 => if k = true then WpR (elt ρ1 st2) (fun y st3 => st3[D]? = some (.lst acc) ∧ acc.length < sizeLine ∧ Inv (i + 1) (acc ++ [y]) (st3.set D (.lst (acc ++ [y])))) (fun _ _ => False) else Inv (i + 1) acc st2) (fun _ _ => False))
    (fin : ∀ acc st, Inv items.length acc st → Q (.ref D) st) {st : Store} (h : Inv 0 [] st) : WpR (lcM g t elt okp D ρ items st) Q X := by
  have key : ∀ (k i : Nat) (acc : List Val) (st : Store), items.length - i = k → i ≤ items.length → Inv i acc st → WpR (lcM g t elt okp D ρ (items.drop i) st) Q X := by
    intro k
    induction k with
    | zero =>
      intro i acc st hk hi h
      have e : i = items.length := by omega
      subst e
      rw [List.drop_length]
      unfold lcM
      rw [if_pos (hok _ _ _ hi h)]
      exact fin acc st h
    | succ k ih =>
      intro i acc st hk hi h
      have hlt : i < items.length := by omega
      rw [List.drop_eq_getElem_cons hlt]
      unfold lcM
      rw [if_pos (hok _ _ _ hi h)]
      obtain ⟨ρ1, st1, hg, hb⟩ := step i _ acc st (List.getElem?_eq_getElem hlt) h
      rw [hg]
      dsimp only
      cases q : t ρ1 st1 with
      | exc x st2 => rw [q] at hb; exact hb.elim
      | bad => rw [q] at hb; exact hb.elim
      | ok k st2 =>
        rw [q] at hb
        dsimp only [R.noX, R.bind, wp_ok] at hb ⊢
        cases k with
        | false =>
          rw [if_neg Bool.false_ne_true] at hb ⊢
          exact ih (i + 1) acc st2 (by omega) hlt hb
        | true =>
          rw [if_pos rfl] at hb ⊢
          cases q2 : elt ρ1 st2 with
          | exc x st3 => rw [q2] at hb; exact hb.elim
          | bad => rw [q2] at hb; exact hb.elim
          | ok y st3 =>
            rw [q2] at hb
            obtain ⟨b1, b2, b3⟩ := hb
            dsimp only
            rw [b1]
            dsimp only
            rw [if_pos b2]
            exact ih (i + 1) _ _ (by omega) hlt b3
  have z := key _ 0 [] st rfl (Nat.zero_le _) h
  rwa [List.drop_zero] at z
end
end Ab

set_option Elab.async false
set_option linter.all false
set_option maxRecDepth 100000
set_option maxHeartbeats 1000000
/-! Ab: the laws' draws (_law_mix, _law_next of k41 to k48), once for all. -/
namespace Ab
open PySem PySem.Spec PyProof.Rows L2
/-- all cells but those of S are as they were -/
def Keep (S : List Nat) (st st' : Store) : Prop := st.length ≤ st'.length ∧ ∀ i : Nat, i < st.length → i ∉ S → st'[i]? = st[i]?
theorem Keep.refl {S : List Nat} {st : Store} : Keep S st st := ⟨Nat.le_refl _, fun _ _ _ => rfl⟩
theorem Keep.trans {S : List Nat} {a b c : Store} (h : Keep S a b) (k : Keep S b c) : Keep S a c :=
  ⟨Nat.le_trans h.1 k.1, fun i hi hn => (k.2 i (Nat.lt_of_lt_of_le hi h.1) hn).trans (h.2 i hi hn)⟩
theorem Keep.push {S : List Nat} {st : Store} {c : Cell} : Keep S st (st ++ [c]) := ⟨by simp, fun i hi _ => List.getElem?_append_left hi⟩
theorem Keep.set {S : List Nat} {st : Store} {n : Nat} {c : Cell} (h : n ∈ S) : Keep S st (st.set n c) := ⟨by simp, fun i _ hn => List.getElem?_set_ne fun e => hn (by rw [← e]; exact h)⟩
theorem Keep.mono {S S' : List Nat} {a b : Store} (h : Keep S a b) (k : ∀ i ∈ S, i ∈ S') : Keep S' a b := ⟨h.1, fun i hi hn => h.2 i hi fun z => hn (k i z)⟩
theorem Keep.get {S : List Nat} {a b : Store} (h : Keep S a b) {i : Nat} {c : Cell} (e : a[i]? = some c) (hn : i ∉ S) : b[i]? = some c := (h.2 i (List.getElem?_eq_some_iff.mp e).1 hn).trans e
/-- the draws' state: [mixed, cells, place] at h, the cells at c -/
def Draws (h c : Nat) (st : Store) : Prop := ∃ (a : Int) (cs : List Int) (p : Int), st[h]? = some (.lst [.int a, .ref c, .int p]) ∧ st[c]? = some (.lst (cs.map .int)) ∧ 0 ≤ a ∧ a < 2147483647 ∧ 0 ≤ p ∧ cs.length ≤ 63 ∧ h ≠ c
theorem Draws.keep {S : List Nat} {h c : Nat} {st st' : Store} (d : Draws h c st) (k : Keep S st st') (h1 : h ∉ S) (h2 : c ∉ S) : Draws h c st' := by
  obtain ⟨a, cs, p, e1, e2, r⟩ := d
  exact ⟨a, cs, p, k.get e1 h1, k.get e2 h2, r⟩
def mNext : MS := sSeq (sSet 2 (mBin vIx (mBin vAdd (mBin vIx (mVar 0) (mC (.int 1))) (mLst (aCons (mC (.int 0)) (aNil)))) (mBin vMod (mBin vIx (mVar 0) (mC (.int 2))) (mApp bMax2 (aCons (mC (.int 1)) (aCons (mApp bLen (aCons (mBin vIx (mVar 0) (mC (.int 1))) (aNil))) (aNil))))))) (sSeq (sIf (mTest (mBin vGe (mVar 2) (mBin vPow (mC (.int 10)) (mC (.int 18))))) (sSeq (sAsg (mBin vDiv (mVar 2) (mVar 1)) (gSubL (mBin vIx (mVar 0) (mC (.int 1))) (mBin vMod (mBin vIx (mVar 0) (mC (.int 2))) (mApp bLen (aCons (mBin vIx (mVar 0) (mC (.int 1))) (aNil)))))) (sRet (mBin vMod (mVar 2) (mVar 1)))) (sNext)) (sSeq (sAsg (mBin vMod (mBin vAdd (mBin vAdd (mBin vMul (mBin vIx (mVar 0) (mC (.int 0))) (mC (.int 48271))) (mBin vMul (mVar 2) (mC (.int 69621)))) (mC (.int 11))) (mC (.int 2147483647))) (gSubL (mVar 0) (mC (.int 0)))) (sSeq (sAsg (mBin vAdd (mBin vIx (mVar 0) (mC (.int 2))) (mC (.int 1))) (gSubL (mVar 0) (mC (.int 2)))) (sRet (mBin vMod (mBin vDiv (mBin vIx (mVar 0) (mC (.int 0))) (mC (.int 7))) (mVar 1))))))
theorem ix_ref {n : Nat} {i : Int} {xs : List Val} {w : Val} {st : Store} {Q : Val → Store → Prop} {X : Exc → Store → Prop} (h : seqAt st n = some xs) (hi : L2.atI xs i = some w) : WpR (vIx (.ref n) (.int i) st) Q X = Q w st := by
  dsimp only [vIx]; rw [h]; dsimp only; rw [hi]; rfl
theorem seqAt_lst {st : Store} {n : Nat} {xs : List Val} (h : st[n]? = some (.lst xs)) : seqAt st n = some xs := by unfold seqAt; rw [h]
theorem w_asg {m : ME} {g : MG} {ρ : Slots} {st : Store} {W : Wish} : WpO (sAsg m g ρ st) W = WpR (m ρ st) (fun w st1 => match g w ρ st1 with | some (ρ', st') => W.nx ρ' st' | none => False) W.ex := by
  unfold sAsg; rw [wp_toO]; congr 1; funext w st1
  split <;> rename_i q <;> first | rfl | (rw [q] <;> rfl)
/-- a list is laid -/
theorem lst_push {xs : List Val} {st : Store} {P : Nat → Store → Prop} (h : ∀ (n : Nat) (s' : Store), s'[n]? = some (.lst xs) → Keep [] st s' → st.length ≤ n → P n s') : P st.length (st ++ [.lst xs]) := h _ _ (by simp) .push (Nat.le_refl _)
theorem add_lst {n m : Nat} {xs ys : List Val} {st : Store} {Q : Val → Store → Prop} {X : Exc → Store → Prop} (h1 : st[n]? = some (.lst xs)) (h2 : st[m]? = some (.lst ys)) (hl : xs.length + ys.length ≤ 100000)
    (hq : ∀ (k : Nat) (s' : Store), s'[k]? = some (.lst (xs ++ ys)) → Keep [] st s' → st.length ≤ k → Q (.ref k) s') : WpR (vAdd (.ref n) (.ref m) st) Q X := by
  dsimp only [vAdd]
  rw [h1, h2]
  dsimp only
  rw [if_pos (by rw [sizeLine_eq]; omega), wp_ok]
  exact lst_push (P := fun k s => Q (.ref k) s) hq
theorem Keep.nil {S : List Nat} {a b : Store} (h : Keep [] a b) : Keep S a b := h.mono fun _ z => by cases z
theorem g_subL {mo mi : ME} {w : Val} {ρ : Slots} {st : Store} {n j : Nat} {k : Int} {xs : List Val} (h1 : mo ρ st = .ok (.ref n) st) (h2 : mi ρ st = .ok (.int k) st) (h3 : st[n]? = some (.lst xs)) (h4 : L2.ixN xs.length k = some j) : gSubL mo mi w ρ st = some (ρ, st.set n (.lst (xs.set j w))) := by
  unfold gSubL
  rw [h1]; dsimp only
  rw [h2]; dsimp only
  rw [h3]; dsimp only
  rw [h4]
theorem ev_ix {mo : ME} {n : Nat} {i : Int} {xs : List Val} {w : Val} {ρ : Slots} {st : Store} (h1 : mo ρ st = .ok (.ref n) st) (h : seqAt st n = some xs) (hi : L2.atI xs i = some w) : mBin vIx mo (mC (.int i)) ρ st = .ok w st := by
  unfold mBin
  rw [h1]
  dsimp only [R.bind, mC, vIx]
  rw [h]; dsimp only; rw [hi]
theorem ev_bin {g : Val → Val → Store → R Val} {a b : ME} {x y : Val} {ρ : Slots} {st s1 s2 : Store} (h1 : a ρ st = .ok x s1) (h2 : b ρ s1 = .ok y s2) : mBin g a b ρ st = g x y s2 := by
  unfold mBin; rw [h1]; dsimp only [R.bind]; rw [h2]
theorem ev_one {m : ME} {x : Val} {ρ : Slots} {st s1 : Store} (h : m ρ st = .ok x s1) : aCons m aNil ρ st = .ok [x] s1 := by
  unfold aCons; rw [h]
theorem ev_app {f : MF} {t : MA} {xs : List Val} {ρ : Slots} {st s1 : Store} (h : t ρ st = .ok xs s1) : mApp f t ρ st = f xs s1 := by
  unfold mApp; rw [h]
theorem vmul_r {i j : Int} {st : Store} (h : -(2 ^ 64) < j ∧ j < 2 ^ 64) : vMul (.int i) (.int j) st = .ok (.int (i * j)) st := by
  dsimp only [vMul]
  rw [if_pos]
  unfold mulOk
  rw [decide_eq_true h.1, decide_eq_true h.2]
  simp
theorem vmod_i {i j : Int} {st : Store} (h : 0 < j) : vMod (.int i) (.int j) st = .ok (.int (i % j)) st := by dsimp only [vMod]; rw [if_pos h]
theorem vdiv_i {i j : Int} {st : Store} (h : 0 < j) (h1 : j < 2 ^ 100) : vDiv (.int i) (.int j) st = .ok (.int (i / j)) st := by dsimp only [vDiv]; rw [if_pos ⟨h, h1⟩]
theorem next_spec {h c : Nat} {st : Store} {lim : Int} (d : Draws h c st) (h0 : 0 < lim) (h1 : lim < 2 ^ 64) :
    WpR (defM 2 1 mNext [.ref h, .int lim] st) (fun v st' => (∃ r : Int, v = .int r ∧ 0 ≤ r ∧ r < lim) ∧ Draws h c st' ∧ Keep [h, c] st st') (fun _ _ => False) := by
  obtain ⟨a, cs, p, e1, e2, ha0, ha1, hp, hl, hne⟩ := d
  rw [wp_def (n := 2) (ws := [Val.ref h, Val.int lim]) rfl]
  have hh := seqAt_lst e1
  have hcs := seqAt_lst e2
  unfold mNext
  simp only [w_seq, w_set, w_bin, List.map_cons, List.map_nil, List.cons_append, List.nil_append, List.replicate]
  rw [w_var (v := .ref h) rfl, w_C, ix_ref hh (w := .ref c) rfl]
  rw [w_lst, w_aCons, w_C, w_aNil]
  refine ⟨by show 1 ≤ sizeLine; rw [sizeLine_eq]; omega, ?_⟩
  refine lst_push (P := fun n s => WpR (vAdd (.ref c) (.ref n) s) _ _) fun n1 s1 g1 k1 _ => ?_
  have e1' := k1.get e1 (by simp)
  have e2' := k1.get e2 (by simp)
  refine add_lst e2' g1 (by simp; omega) fun n2 s2 g2 k2 _ => ?_
  have k := k1.trans k2
  have e1'' := k2.get e1' (by simp)
  have e2'' := k2.get e2' (by simp)
  have hh2 := seqAt_lst e1''
  have hc2 := seqAt_lst e2''
  have hg2 := seqAt_lst g2
  rw [w_var (v := .ref h) rfl, w_C, ix_ref hh2 (w := .int p) rfl]
  rw [w_app, w_aCons, w_C, w_aCons, w_app, w_aCons, w_bin, w_var (v := .ref h) rfl, w_C, ix_ref hh2 (w := .ref c) rfl, w_aNil]
  have hlen : bLen [.ref c] s2 = .ok (.int cs.length) s2 := by dsimp only [bLen]; rw [hc2]; simp
  rw [hlen, wp_ok, w_aNil]
  have hm : 0 < max (1 : Int) cs.length := by omega
  have hmod : vMod (.int p) (.int (max 1 (cs.length : Int))) s2 = .ok (.int (p % max 1 (cs.length : Int))) s2 := by dsimp only [vMod]; rw [if_pos hm]
  dsimp only [bMax2]
  rw [wp_ok, hmod, wp_ok]
  -- the cell
  have r0 : 0 ≤ p % max 1 (cs.length : Int) := Int.emod_nonneg _ (by omega)
  have r1 : p % max 1 (cs.length : Int) < max 1 (cs.length : Int) := Int.emod_lt_of_pos _ hm
  obtain ⟨z, hz, hz0⟩ : ∃ z : Int, L2.atI (cs.map Val.int ++ [Val.int 0]) (p % max 1 (cs.length : Int)) = some (.int z) ∧ (cs = [] → z = 0) := by
    have hr : (p % max 1 (cs.length : Int)).toNat < (cs ++ [0]).length := by simp; omega
    refine ⟨(cs ++ [0])[(p % max 1 (cs.length : Int)).toNat], ?_, fun e => ?_⟩
    · unfold L2.atI L2.ixN
      rw [if_pos r0, if_pos (by simp; omega), Option.bind_some]
      rw [show cs.map Val.int ++ [Val.int 0] = (cs ++ [0]).map Val.int by simp, List.getElem?_map, List.getElem?_eq_getElem hr]
      rfl
    · subst e
      simp
  rw [ix_ref hg2 hz]
  show WpO (sIf _ _ _ [some (.ref h), some (.int lim), some (.int z)] s2) _
  rw [w_sif, w_test, w_bin, w_var (v := .int z) rfl, w_bin, w_C, w_C]
  have hpow : vPow (.int 10) (.int 18) s2 = .ok (.int (10 ^ 18)) s2 := by dsimp only [vPow]; rw [if_pos (by decide)]; rfl
  rw [hpow, wp_ok]
  show (if decide ((10 : Int) ^ 18 ≤ z) = true then _ else _)
  by_cases hb : (10 : Int) ^ 18 ≤ z
  · rw [if_pos (by simpa using hb)]
    have hcs0 : cs ≠ [] := fun e => by have := hz0 e; subst this; exact absurd hb (by decide)
    have hl0 : 0 < cs.length := List.length_pos_iff.mpr hcs0
    rw [w_seq, w_asg, w_bin, w_var (v := .int z) rfl, w_var (v := .int lim) rfl]
    have hdiv : vDiv (.int z) (.int lim) s2 = .ok (.int (z / lim)) s2 := by dsimp only [vDiv]; rw [if_pos ⟨h0, by omega⟩]
    rw [hdiv, wp_ok]
    have v0 : mVar 0 [some (.ref h), some (.int lim), some (.int z)] s2 = .ok (.ref h) s2 := rfl
    have o1 : mBin vIx (mVar 0) (mC (.int 1)) [some (.ref h), some (.int lim), some (.int z)] s2 = .ok (.ref c) s2 := ev_ix v0 hh2 rfl
    have o2 : mBin vIx (mVar 0) (mC (.int 2)) [some (.ref h), some (.int lim), some (.int z)] s2 = .ok (.int p) s2 := ev_ix v0 hh2 rfl
    have o3 : mBin vMod (mBin vIx (mVar 0) (mC (.int 2))) (mApp bLen (aCons (mBin vIx (mVar 0) (mC (.int 1))) aNil)) [some (.ref h), some (.int lim), some (.int z)] s2 = .ok (.int (p % cs.length)) s2 := by
      rw [ev_bin o2 ((ev_app (ev_one o1)).trans hlen)]
      exact vmod_i (by omega)
    have q0 : 0 ≤ p % (cs.length : Int) := Int.emod_nonneg _ (by omega)
    have q1 : p % (cs.length : Int) < cs.length := Int.emod_lt_of_pos _ (by omega)
    have o4 : L2.ixN (cs.map Val.int).length (p % cs.length) = some (p % (cs.length : Int)).toNat := by
      unfold L2.ixN
      rw [if_pos q0, if_pos (by simpa using q1)]
    rw [g_subL o1 o3 e2'' o4]
    dsimp only
    rw [w_ret, w_bin, w_var (v := .int z) rfl, w_var (v := .int lim) rfl, vmod_i h0, wp_ok]
    have hc : c < s2.length := (List.getElem?_eq_some_iff.mp e2'').1
    refine ⟨⟨_, rfl, Int.emod_nonneg _ (by omega), Int.emod_lt_of_pos _ h0⟩, ⟨a, cs.set (p % (cs.length : Int)).toNat (z / lim), p, ?_, ?_, ha0, ha1, hp, by simpa using hl, hne⟩, ?_⟩
    · rw [List.getElem?_set_ne (Ne.symm hne)]; exact e1''
    · rw [List.getElem?_set_self hc, List.map_set]
    · exact k.nil.trans (.set (by simp))
  · rw [if_neg (by simpa using hb)]
    show WpO (sNext [some (.ref h), some (.int lim), some (.int z)] s2) _
    rw [w_next]
    show WpO (sAsg _ _ [some (.ref h), some (.int lim), some (.int z)] s2) _
    have v0 : ∀ s, mVar 0 [some (.ref h), some (.int lim), some (.int z)] s = .ok (.ref h) s := fun _ => rfl
    rw [w_asg, w_bin, w_bin, w_bin, w_bin, w_bin, w_var (v := .ref h) rfl, w_C, ix_ref hh2 (w := .int a) rfl, w_C, vmul_r (by decide), wp_ok, w_bin, w_var (v := .int z) rfl, w_C, vmul_r (by decide), wp_ok]
    rw [show ∀ i j s, vAdd (.int i) (.int j) s = .ok (.int (i + j)) s from fun _ _ _ => rfl, wp_ok, w_C, show ∀ i j s, vAdd (.int i) (.int j) s = .ok (.int (i + j)) s from fun _ _ _ => rfl, wp_ok, w_C, vmod_i (by decide), wp_ok]
    rw [g_subL (v0 s2) rfl e1'' (j := 0) rfl]
    dsimp only
    generalize ha' : (a * 48271 + z * 69621 + 11) % 2147483647 = a'
    have b0 : 0 ≤ a' := by rw [← ha']; exact Int.emod_nonneg _ (by decide)
    have b1 : a' < 2147483647 := by rw [← ha']; exact Int.emod_lt_of_pos _ (by decide)
    have hhl : h < s2.length := (List.getElem?_eq_some_iff.mp e1'').1
    have e3 : (s2.set h (.lst ([Val.int a, .ref c, .int p].set 0 (.int a'))))[h]? = some (.lst [.int a', .ref c, .int p]) := by rw [List.getElem?_set_self hhl]; rfl
    have e3c : (s2.set h (.lst ([Val.int a, .ref c, .int p].set 0 (.int a'))))[c]? = some (.lst (cs.map .int)) := by rw [List.getElem?_set_ne hne]; exact e2''
    have k3 : Keep [h, c] st (s2.set h (.lst ([Val.int a, .ref c, .int p].set 0 (.int a')))) := k.nil.trans (.set (by simp))
    generalize s2.set h (.lst ([Val.int a, .ref c, .int p].set 0 (.int a'))) = s3 at *
    have hh3 := seqAt_lst e3
    rw [w_asg, w_bin, w_bin, w_var (v := .ref h) rfl, w_C, ix_ref hh3 (w := .int p) rfl, w_C, show ∀ i j s, vAdd (.int i) (.int j) s = .ok (.int (i + j)) s from fun _ _ _ => rfl, wp_ok]
    rw [g_subL (v0 s3) rfl e3 (j := 2) rfl]
    dsimp only
    have hhl3 : h < s3.length := (List.getElem?_eq_some_iff.mp e3).1
    have e4 : (s3.set h (.lst ([Val.int a', .ref c, .int p].set 2 (.int (p + 1)))))[h]? = some (.lst [.int a', .ref c, .int (p + 1)]) := by rw [List.getElem?_set_self hhl3]; rfl
    have e4c : (s3.set h (.lst ([Val.int a', .ref c, .int p].set 2 (.int (p + 1)))))[c]? = some (.lst (cs.map .int)) := by rw [List.getElem?_set_ne hne]; exact e3c
    have k4 : Keep [h, c] st (s3.set h (.lst ([Val.int a', .ref c, .int p].set 2 (.int (p + 1))))) := k3.trans (.set (by simp))
    generalize s3.set h (.lst ([Val.int a', .ref c, .int p].set 2 (.int (p + 1)))) = s4 at *
    have hh4 := seqAt_lst e4
    rw [w_ret, w_bin, w_bin, w_bin, w_var (v := .ref h) rfl, w_C, ix_ref hh4 (w := .int a') rfl, w_C, vdiv_i (by decide) (by decide), wp_ok, w_var (v := .int lim) rfl, vmod_i h0, wp_ok]
    exact ⟨⟨_, rfl, Int.emod_nonneg _ (by omega), Int.emod_lt_of_pos _ h0⟩, ⟨a', cs, p + 1, e4, e4c, b0, b1, by omega, hl, hne⟩, k4⟩
end Ab
namespace Ab
open PySem PySem.Spec PyProof.Rows L2
noncomputable def mMix : MS := sSeq (sSet 2 (mVar 1)) (sSeq (sFor (iSeqM (mVar 0)) (gSet 3) (sSet 2 (mBin vMod (mBin vAdd (mBin vAdd (mBin vMul (mVar 2) (mC (.int 48271))) (mBin vMod (mVar 3) (mC (.int 2147483629)))) (mC (.int 1))) (mC (.int 2147483647))))) (sRet (mLst (aCons (mVar 2) (aCons (mApp bList (aCons (mVar 0) (aNil))) (aCons (mC (.int 0)) (aNil)))))))
theorem mix_spec {n : Nat} {st : Store} {ns : List Int} {seed : Int} (hs : seqAt st n = some (ns.map .int)) (hl : ns.length ≤ 63) (h0 : 0 ≤ seed) (h1 : seed < 2147483647) :
    WpR (defM 2 2 mMix [.ref n, .int seed] st) (fun v st' => ∃ h c, v = .ref h ∧ Draws h c st' ∧ Keep [] st st') (fun _ _ => False) := by
  rw [wp_def (n := 2) (ws := [Val.ref n, Val.int seed]) rfl]
  show WpO (mMix [some (.ref n), some (.int seed), none, none] st) _
  unfold mMix
  rw [w_seq, w_set, w_var (v := .int seed) rfl]
  show WpO (sSeq _ _ [some (.ref n), some (.int seed), some (.int seed), none] st) _
  rw [w_seq, w_for]
  have hit : iSeqM (mVar 0) [some (.ref n), some (.int seed), some (.int seed), none] st = .ok (ns.map .int, fun st' => seqAt st' n = some (ns.map .int)) st := by
    have v0 : mVar 0 [some (.ref n), some (.int seed), some (.int seed), none] st = .ok (.ref n) st := rfl
    unfold iSeqM
    rw [v0]
    dsimp only [R.bind, itemsOf]
    rw [hs]
  rw [hit, wp_ok]
  refine forM_wp (fun _ ρ s => s = st ∧ ∃ (x : Int) (y : Option Val), ρ = [some (.ref n), some (.int seed), some (.int x), y] ∧ 0 ≤ x ∧ x < 2147483647) (fun i ρ s _ ⟨e, _⟩ => by subst e; exact hs) ?_ ?_ ⟨rfl, seed, none, rfl, h0, h1⟩
  · rintro i w ρ s hi ⟨rfl, x, y, rfl, x0, x1⟩
    rw [List.getElem?_map] at hi
    cases e : ns[i]? with
    | none => rw [e] at hi; cases hi
    | some z =>
      rw [e] at hi
      cases hi
      refine ⟨_, _, rfl, ?_⟩
      show WpO (sSet _ _ [some (.ref n), some (.int seed), some (.int x), some (.int z)] s) _
      rw [w_set, w_bin, w_bin, w_bin, w_bin, w_var (v := .int x) rfl, w_C, vmul_r (by decide), wp_ok, w_bin, w_var (v := .int z) rfl, w_C, vmod_i (by decide), wp_ok]
      rw [show ∀ i j s, vAdd (.int i) (.int j) s = .ok (.int (i + j)) s from fun _ _ _ => rfl, wp_ok, w_C, show ∀ i j s, vAdd (.int i) (.int j) s = .ok (.int (i + j)) s from fun _ _ _ => rfl, wp_ok, w_C, vmod_i (by decide), wp_ok]
      exact ⟨rfl, _, _, rfl, Int.emod_nonneg _ (by decide), Int.emod_lt_of_pos _ (by decide)⟩
  · rintro ρ s ⟨rfl, x, y, rfl, x0, x1⟩
    show WpO (sRet _ [some (.ref n), some (.int seed), some (.int x), y] s) _
    rw [w_ret, w_lst, w_aCons, w_var (v := .int x) rfl, w_aCons, w_app, w_aCons, w_var (v := .ref n) rfl, w_aNil]
    dsimp only [bList]
    rw [hs]
    dsimp only
    rw [wp_ok]
    rw [w_aCons, w_C, w_aNil]
    have k1 : Keep [] s (s ++ [Cell.lst (ns.map .int)]) := .push
    have g1 : (s ++ [Cell.lst (ns.map .int)])[s.length]? = some (.lst (ns.map .int)) := by simp
    generalize s ++ [Cell.lst (ns.map .int)] = s1 at *
    generalize s.length = c at *
    refine ⟨by show 3 ≤ sizeLine; rw [sizeLine_eq]; omega, ?_⟩
    refine lst_push (P := fun k t => ∃ h c, Val.ref k = .ref h ∧ Draws h c t ∧ Keep [] s t) fun h s2 g2 k2 hh => ?_
    have hcl : c < s1.length := (List.getElem?_eq_some_iff.mp g1).1
    exact ⟨h, c, rfl, ⟨x, ns, 0, g2, k2.get g1 (by simp), x0, x1, Int.le_refl _, hl, by omega⟩, k1.trans k2⟩
end Ab

set_option Elab.async false
set_option linter.all false
set_option maxRecDepth 100000
/-! Ab: the combinators once more, sealed (not reducible), for the plain laws. -/
namespace Ab
open PySem PySem.Spec
def mNeg (m : ME) : ME := fun ρ st => (m ρ st).bind vNeg
end Ab
namespace Se
noncomputable def sWhile := @Ab.sWhile
noncomputable def mVar := @Ab.mVar
noncomputable def mC := @Ab.mC
noncomputable def mBin := @Ab.mBin
noncomputable def mTest := @Ab.mTest
noncomputable def mChain := @Ab.mChain
noncomputable def tAndM := @Ab.tAndM
noncomputable def tOrM := @Ab.tOrM
noncomputable def tNotM := @Ab.tNotM
noncomputable def mAnd := @Ab.mAnd
noncomputable def mOr := @Ab.mOr
noncomputable def mNot := @Ab.mNot
noncomputable def mIf := @Ab.mIf
noncomputable def aNil := @Ab.aNil
noncomputable def aCons := @Ab.aCons
noncomputable def mTup := @Ab.mTup
noncomputable def mLst := @Ab.mLst
noncomputable def mApp := @Ab.mApp
noncomputable def mCut := @Ab.mCut
noncomputable def oNone := @Ab.oNone
noncomputable def oSome := @Ab.oSome
noncomputable def sNext := @Ab.sNext
noncomputable def sSeq := @Ab.sSeq
noncomputable def sSet := @Ab.sSet
noncomputable def sRet := @Ab.sRet
noncomputable def sDrop := @Ab.sDrop
noncomputable def sIf := @Ab.sIf
noncomputable def sAug := @Ab.sAug
noncomputable def sBreak := @Ab.sBreak
noncomputable def sCont := @Ab.sCont
noncomputable def gSet := @Ab.gSet
noncomputable def gsNil := @Ab.gsNil
noncomputable def gsCons := @Ab.gsCons
noncomputable def gTupM := @Ab.gTupM
noncomputable def sAsg := @Ab.sAsg
noncomputable def sPar := @Ab.sPar
noncomputable def sFor := @Ab.sFor
noncomputable def iRange1 := @Ab.iRange1
noncomputable def iRange2 := @Ab.iRange2
noncomputable def mFld := @Ab.mFld
noncomputable def sFldM := @Ab.sFldM
noncomputable def sFldAugM := @Ab.sFldAugM
noncomputable def mMeth := @Ab.mMeth
noncomputable def mProp := @Ab.mProp
noncomputable def vMake := @Ab.vMake
noncomputable def iEnumM := @Ab.iEnumM
noncomputable def iZipM := @Ab.iZipM
noncomputable def iSeqM := @Ab.iSeqM
noncomputable def iStrM := @Ab.iStrM
noncomputable def mYes := @Ab.mYes
noncomputable def mLc := @Ab.mLc
noncomputable def mBM := @Ab.mBM
noncomputable def gSubL := @Ab.gSubL
noncomputable def mIsi := @Ab.mIsi
noncomputable def sRaise := @Ab.sRaise
noncomputable def sRaise0 := @Ab.sRaise0
noncomputable def aStar := @Ab.aStar
noncomputable def mOp := @Ab.mOp
noncomputable def mLen := @Ab.mLen
noncomputable def mDget := @Ab.mDget
noncomputable def gSubD := @Ab.gSubD
noncomputable def mDisp := @Ab.mDisp
noncomputable def mItems := @Ab.mItems
noncomputable def mDc := @Ab.mDc
noncomputable def gFld := @Ab.gFld
noncomputable def mOutcome := @Ab.mOutcome
noncomputable def mBad := @Ab.mBad
noncomputable def sBad := @Ab.sBad
noncomputable def mNeg := @Ab.mNeg
noncomputable def mCall := @Ab.mCall
noncomputable def mGetO := @Ab.mGetO
noncomputable def mOpT := @Ab.mOpT
noncomputable def mIsiO := @Ab.mIsiO
noncomputable def gTupS := @Ab.gTupS
noncomputable def iKeysM := @Ab.iKeysM
noncomputable def iValsM := @Ab.iValsM
noncomputable def mDisp0 := @Ab.mDisp0
noncomputable def mOutOne := @Ab.mOutOne
end Se

set_option Elab.async false
set_option linter.all false
set_option maxRecDepth 100000
set_option maxHeartbeats 1000000
/-! Ab: wishes on sealed mirrors, backward: one rule for each combinator. -/
namespace Ab
open PySem PySem.Spec PyProof.Rows L2
/-- a target's wish -/
def WpG (r : Option (Slots × Store)) (n : Slots → Store → Prop) : Prop := match r with
  | some (ρ, st) => n ρ st
  | none => False
/-- what an optional chain of comparisons goes on with -/
def Chk (z : Val) (P N : Prop) : Prop := match z with
  | .bl true => P
  | .bl false => N
  | _ => False
/-- a cell is laid -/
def New (d : Cell) (st : Store) (P : Nat → Store → Prop) : Prop := ∀ (n : Nat) (s : Store), s[n]? = some d → Keep [] st s → st.length ≤ n → P n s
/-- a cell is written -/
def Wr (n : Nat) (d : Cell) (st : Store) (P : Store → Prop) : Prop := ∀ s : Store, s[n]? = some d → Keep [n] st s → P s
/-- a truth that is worked out -/
def TruB (b : Bool) (P : Bool → Prop) : Prop := P b
/-- a slot is set -/
def NF (ρ : Slots) (i : Nat) (x : Option Val) (n : Slots → Prop) : Prop := n (ρ.set i x)
theorem New.at {d : Cell} {st : Store} {P : Nat → Store → Prop} (h : New d st P) : P st.length (st ++ [d]) := h _ _ (by simp) .push (Nat.le_refl _)
theorem Wr.at {n : Nat} {c d : Cell} {st : Store} {P : Store → Prop} (h : Wr n d st P) (e : st[n]? = some c) : P (st.set n d) := h _ (by rw [List.getElem?_set_self (List.getElem?_eq_some_iff.mp e).1]) (.set (by simp))
end Ab
namespace Vc
open PySem PySem.Spec PyProof.Rows L2
open Ab (Val Cell Store Slots R O ME MT MA MS MF MG MGs MI MO Chk Wish Exc seqAt Keep vIx vFld vAdd New Wr NF TruB)
@[irreducible] def WpR {α : Type} (r : R α) (Q : α → Store → Prop) (X : Exc → Store → Prop) : Prop := Ab.WpR r Q X
@[irreducible] def WpO (o : O) (W : Wish) : Prop := Ab.WpO o W
@[irreducible] def WpG (r : Option (Slots × Store)) (n : Slots → Store → Prop) : Prop := Ab.WpG r n
theorem uR {α : Type} {r : R α} {Q : α → Store → Prop} {X : Exc → Store → Prop} : WpR r Q X = Ab.WpR r Q X := by unfold WpR; rfl
theorem uO {o : O} {W : Wish} : WpO o W = Ab.WpO o W := by unfold WpO; rfl
theorem uG {r : Option (Slots × Store)} {n : Slots → Store → Prop} : WpG r n = Ab.WpG r n := by unfold WpG; rfl
section
variable {α : Type} {Q : Val → Store → Prop} {QB : Bool → Store → Prop} {QL : List Val → Store → Prop} {QO : Option Int → Store → Prop} {QA : α → Store → Prop} {X : Exc → Store → Prop} {st : Store} {ρ : Slots} {a b c m : ME} {t u : MT} {ta : MA} {s1 s2 : MS} {n : Slots → Store → Prop} {r : Val → Store → Prop} {k l : Slots → Store → Prop}
theorem b_ok {x : α} (h : QA x st) : WpR (.ok x st) QA X := by
  simp only [uR, uO, uG] at *
  exact h
theorem b_ifok {p : Prop} [Decidable p] {x : α} {s' : Store} (h : p) (q : QA x s') : WpR (if p then .ok x s' else .bad) QA X := by
  simp only [uR, uO, uG] at *
  rw [if_pos h]; exact q
theorem b_exc {x : Exc} (h : X x st) : WpR (α := α) (.exc x st) QA X := by
  simp only [uR, uO, uG] at *
  exact h
theorem b_var {i : Nat} {v : Val} (h : ρ[i]? = some (some v)) (q : Q v st) : WpR (Se.mVar i ρ st) Q X := by
  simp only [uR, uO, uG] at *
  exact (Ab.w_var h).mpr q
theorem b_C {v : Val} (q : Q v st) : WpR (Se.mC v ρ st) Q X := by
  simp only [uR, uO, uG] at *
  exact q
theorem b_bin {g : Val → Val → Store → R Val} (q : WpR (a ρ st) (fun x st1 => WpR (b ρ st1) (fun y st2 => WpR (g x y st2) Q X) X) X) : WpR (Se.mBin g a b ρ st) Q X := by
  simp only [uR, uO, uG] at *
  exact Ab.w_bin.mpr q
theorem b_test (q : WpR (m ρ st) (fun x st1 => WpR (Ab.asB x st1) QB X) X) : WpR (Se.mTest m ρ st) QB X := by
  simp only [uR, uO, uG] at *
  exact Ab.w_test.mpr q
theorem b_not (q : WpR (t ρ st) (fun k st1 => QB (!k) st1) X) : WpR (Se.tNotM t ρ st) QB X := by
  simp only [uR, uO, uG] at *
  exact Ab.w_not.mpr q
theorem b_tand (q : WpR (t ρ st) (fun k st1 => if k = true then WpR (u ρ st1) QB X else QB false st1) X) : WpR (Se.tAndM t u ρ st) QB X := by
  simp only [uR, uO, uG] at *
  show Ab.WpR (Ab.tAndM t u ρ st) QB X
  unfold Ab.tAndM; rw [Ab.wp_bind]
  refine Ab.WpR.mono q (fun k s h => ?_) fun _ _ h => h
  cases k <;> exact h
theorem b_tor (q : WpR (t ρ st) (fun k st1 => if k = true then QB true st1 else WpR (u ρ st1) QB X) X) : WpR (Se.tOrM t u ρ st) QB X := by
  simp only [uR, uO, uG] at *
  show Ab.WpR (Ab.tOrM t u ρ st) QB X
  unfold Ab.tOrM; rw [Ab.wp_bind]
  refine Ab.WpR.mono q (fun k s h => ?_) fun _ _ h => h
  cases k <;> exact h
theorem b_and (q : WpR (a ρ st) (fun x st1 => Chk x (WpR (b ρ st1) Q X) (Q (.bl false) st1)) X) : WpR (Se.mAnd a b ρ st) Q X := by
  simp only [uR, uO, uG] at *
  show Ab.WpR (Ab.mAnd a b ρ st) Q X
  unfold Ab.mAnd; rw [Ab.wp_bind]
  refine Ab.WpR.mono q (fun k s h => ?_) fun _ _ h => h
  unfold Chk at h
  split at h <;> first | exact h | exact h.elim
theorem b_or (q : WpR (a ρ st) (fun x st1 => Chk x (Q (.bl true) st1) (WpR (b ρ st1) Q X)) X) : WpR (Se.mOr a b ρ st) Q X := by
  simp only [uR, uO, uG] at *
  show Ab.WpR (Ab.mOr a b ρ st) Q X
  unfold Ab.mOr; rw [Ab.wp_bind]
  refine Ab.WpR.mono q (fun k s h => ?_) fun _ _ h => h
  unfold Chk at h
  split at h <;> first | exact h | exact h.elim
theorem b_mnot (q : WpR (a ρ st) (fun x st1 => Chk x (Q (.bl false) st1) (Q (.bl true) st1)) X) : WpR (Se.mNot a ρ st) Q X := by
  simp only [uR, uO, uG] at *
  show Ab.WpR (Ab.mNot a ρ st) Q X
  unfold Ab.mNot; rw [Ab.wp_bind]
  refine Ab.WpR.mono q (fun k s h => ?_) fun _ _ h => h
  unfold Chk at h
  split at h <;> first | exact h | exact h.elim
theorem b_chain {g g' : Val → Val → Store → R Val} (q : WpR (a ρ st) (fun x st1 => WpR (b ρ st1) (fun y st2 => WpR (g x y st2) (fun z st3 => Chk z (WpR (c ρ st3) (fun w st4 => WpR (g' y w st4) Q X) X) (Q (.bl false) st3)) X) X) X) : WpR (Se.mChain g g' a b c ρ st) Q X := by
  simp only [uR, uO, uG] at *
  show Ab.WpR (Ab.mChain g g' a b c ρ st) Q X
  unfold Ab.mChain; simp only [Ab.wp_bind]
  refine Ab.WpR.mono q (fun x s h => ?_) fun _ _ h => h
  refine Ab.WpR.mono h (fun y s h => ?_) fun _ _ h => h
  refine Ab.WpR.mono h (fun z s h => ?_) fun _ _ h => h
  unfold Chk at h
  split at h <;> first | (rw [Ab.wp_bind]; exact h) | exact h | exact h.elim
/-- i <= j <= k of ints, the last expression told whatever the first says -/
theorem b_chainI (q : WpR (a ρ st) (fun x st1 => WpR (b ρ st1) (fun y st2 => WpR (c ρ st2) (fun w st3 => ∃ i j k, x = .int i ∧ y = .int j ∧ w = .int k ∧ st3 = st2 ∧ Q (.bl (decide (i ≤ j ∧ j ≤ k))) st2) fun _ _ => False) X) X) : WpR (Se.mChain Ab.vLe Ab.vLe a b c ρ st) Q X := by
  refine b_chain ?_
  simp only [uR] at *
  refine Ab.WpR.mono q (fun x s h => ?_) fun _ _ h => h
  refine Ab.WpR.mono h (fun y s h => ?_) fun _ _ h => h
  cases hc : c ρ s with
  | bad => rw [hc] at h; exact h.elim
  | exc e s' => rw [hc] at h; exact h.elim
  | ok w s' =>
    rw [hc] at h
    obtain ⟨i, j, k, rfl, rfl, rfl, rfl, h⟩ := h
    show Chk (.bl (decide (i ≤ j))) _ _
    by_cases q : i ≤ j
    · rw [decide_eq_true q]
      simp only [q, true_and] at h
      show Ab.WpR (c ρ s') _ X
      rw [hc]; exact h
    · rw [decide_eq_false q]
      simp only [q, false_and, decide_false] at h
      exact h
theorem b_if (q : WpR (t ρ st) (fun k st1 => if k = true then WpR (a ρ st1) Q X else WpR (b ρ st1) Q X) X) : WpR (Se.mIf t a b ρ st) Q X := by
  simp only [uR, uO, uG] at *
  exact Ab.w_if.mpr q
theorem b_aNil (q : QL [] st) : WpR (Se.aNil ρ st) QL X := by
  simp only [uR, uO, uG] at *
  exact q
theorem b_aCons (q : WpR (m ρ st) (fun x st1 => WpR (ta ρ st1) (fun xs st2 => QL (x :: xs) st2) X) X) : WpR (Se.aCons m ta ρ st) QL X := by
  simp only [uR, uO, uG] at *
  exact Ab.w_aCons.mpr q
theorem b_tup (q : WpR (ta ρ st) (fun xs st1 => xs.length ≤ 100000 ∧ Q (.tup xs) st1) X) : WpR (Se.mTup ta ρ st) Q X := by
  simp only [uR, uO, uG] at *
  exact Ab.w_tup.mpr (Ab.WpR.mono q (fun _ _ h => ⟨Nat.le_trans h.1 (by rw [sizeLine_eq]; omega), h.2⟩) fun _ _ h => h)
theorem b_lst (q : WpR (ta ρ st) (fun xs st1 => xs.length ≤ 100000 ∧ New (.lst xs) st1 fun n s => Q (.ref n) s) X) : WpR (Se.mLst ta ρ st) Q X := by
  simp only [uR, uO, uG] at *
  exact Ab.w_lst.mpr (Ab.WpR.mono q (fun _ _ h => ⟨Nat.le_trans h.1 (by rw [sizeLine_eq]; omega), h.2.at⟩) fun _ _ h => h)
theorem b_app {f : MF} (q : WpR (ta ρ st) (fun xs st1 => WpR (f xs st1) Q X) X) : WpR (Se.mApp f ta ρ st) Q X := by
  simp only [uR, uO, uG] at *
  exact Ab.w_app.mpr q
theorem b_neg (q : WpR (m ρ st) (fun x st1 => WpR (Ab.vNeg x st1) Q X) X) : WpR (Se.mNeg m ρ st) Q X := by
  simp only [uR, uO, uG] at *
  show Ab.WpR ((m ρ st).bind Ab.vNeg) Q X
  rw [Ab.wp_bind]; exact q
theorem b_cut {lo hi : MO} (q : WpR (a ρ st) (fun x st1 => WpR (lo ρ st1) (fun i st2 => WpR (hi ρ st2) (fun j st3 => WpR (Ab.vCut x i j st3) Q X) X) X) X) : WpR (Se.mCut a lo hi ρ st) Q X := by
  simp only [uR, uO, uG] at *
  show Ab.WpR (Ab.mCut a lo hi ρ st) Q X
  unfold Ab.mCut; simp only [Ab.wp_bind]; exact q
theorem b_oNone (q : QO none st) : WpR (Se.oNone ρ st) QO X := by
  simp only [uR, uO, uG] at *
  exact q
theorem b_oSome (q : WpR (m ρ st) (fun x st1 => WpR (Ab.asI x st1) QO X) X) : WpR (Se.oSome m ρ st) QO X := by
  simp only [uR, uO, uG] at *
  show Ab.WpR (Ab.oSome m ρ st) QO X
  unfold Ab.oSome; rw [Ab.wp_bind]; exact q
theorem b_fld {cs : List Nat} {f : Nat} (q : WpR (m ρ st) (fun x st1 => WpR (vFld cs f x st1) Q X) X) : WpR (Se.mFld cs f m ρ st) Q X := by
  simp only [uR, uO, uG] at *
  show Ab.WpR (Ab.mFld cs f m ρ st) Q X
  unfold Ab.mFld; rw [Ab.wp_bind]; exact q
theorem v_fld {cs : List Nat} {f n C : Nat} {fs : List (Nat × Val)} {w : Val} (h : st[n]? = some (.ins C fs)) (hC : C ∈ cs) (hf : fs.lookup f = some w) (q : Q w st) : WpR (vFld cs f (.ref n) st) Q X := by
  simp only [uR, uO, uG] at *
  unfold vFld; dsimp only
  rw [h]; dsimp only; rw [if_pos hC, hf]; exact q
theorem b_BM {T : String} {g : Val → List Val → Store → R Val} (q : WpR (m ρ st) (fun x st1 => Ab.tyOk T x st1 = true ∧ WpR (ta ρ st1) (fun ws st2 => WpR (g x ws st2) Q X) X) X) : WpR (Se.mBM T g m ta ρ st) Q X := by
  simp only [uR, uO, uG] at *
  show Ab.WpR (Ab.mBM T g m ta ρ st) Q X
  unfold Ab.mBM; rw [Ab.wp_bind]
  refine Ab.WpR.mono q (fun x s h => ?_) fun _ _ h => h
  rw [if_pos h.1, Ab.wp_bind]; exact h.2
theorem ty_lst {n : Nat} {xs : List Val} (h : st[n]? = some (.lst xs)) : Ab.tyOk "list" (.ref n) st = true := by
  unfold Ab.tyOk; dsimp only; rw [h]; rfl
theorem b_meth {tbl : List (Nat × MF)} (q : WpR (m ρ st) (fun x st1 => ∃ C mf, Ab.clsAt st1 x = some C ∧ tbl.lookup C = some mf ∧ WpR (ta ρ st1) (fun ws st2 => WpR (mf (x :: ws) st2) Q X) X) X) : WpR (Se.mMeth tbl m ta ρ st) Q X := by
  simp only [uR, uO, uG] at *
  show Ab.WpR (Ab.mMeth tbl m ta ρ st) Q X
  unfold Ab.mMeth; rw [Ab.wp_bind]
  refine Ab.WpR.mono q (fun x s h => ?_) fun _ _ h => h
  obtain ⟨C, mf, h1, h2, h3⟩ := h
  rw [h1]; dsimp only; rw [h2]; dsimp only; rw [Ab.wp_bind]; exact h3
theorem cls_at {n C : Nat} {fs : List (Nat × Val)} (h : st[n]? = some (.ins C fs)) : Ab.clsAt st (.ref n) = some C := by
  unfold Ab.clsAt; dsimp only; rw [h]
theorem b_prop {tbl : List (Nat × MF)} (q : WpR (m ρ st) (fun x st1 => ∃ C mf, Ab.clsAt st1 x = some C ∧ tbl.lookup C = some mf ∧ WpR (mf [x] st1) Q (fun _ _ => False)) X) : WpR (Se.mProp tbl m ρ st) Q X := by
  simp only [uR, uO, uG] at *
  show Ab.WpR (Ab.mProp tbl m ρ st) Q X
  unfold Ab.mProp; rw [Ab.wp_bind]
  refine Ab.WpR.mono q (fun x s h => ?_) fun _ _ h => h
  obtain ⟨C, mf, h1, h2, h3⟩ := h
  rw [h1]; dsimp only; rw [h2]; dsimp only
  cases hm : mf [x] s with
  | bad => rw [hm] at h3; exact h3
  | exc e s' => rw [hm] at h3; exact h3
  | ok w s' => rw [hm] at h3; exact h3
theorem b_make {C : Nat} {mf : MF} {ws : List Val} (q : New (.ins C []) st fun n s => WpR (mf (.ref n :: ws) s) (fun v st1 => v = .non ∧ Q (.ref n) st1) X) : WpR (Se.vMake C mf ws st) Q X := by
  simp only [uR, uO, uG] at *
  replace q := q.at
  show Ab.WpR (Ab.vMake C mf ws st) Q X
  unfold Ab.vMake; rw [Ab.wp_bind]
  refine Ab.WpR.mono q (fun x s h => ?_) fun _ _ h => h
  rw [h.1]; exact h.2
theorem b_dget (q : WpR (a ρ st) (fun x st1 => WpR (b ρ st1) (fun y st2 => WpR (Ab.vDget x y st2) Q X) X) X) : WpR (Se.mDget a b ρ st) Q X := by
  simp only [uR, uO, uG] at *
  show Ab.WpR (Ab.mDget a b ρ st) Q X
  unfold Ab.mDget; simp only [Ab.wp_bind]; exact q
theorem v_dget {n : Nat} {s : Str} {kvs : List (Key × Val)} {w : Val} (h : st[n]? = some (.dct kvs)) (hk : Ab.valW kvs (.inr s) = some w) (q : Q w st) : WpR (Ab.vDget (.ref n) (.str s) st) Q X := by
  simp only [uR, uO, uG] at *
  show Ab.WpR (match Ab.dctAt st n with | some kvs => (match Ab.valW kvs (.inr s) with | some w => .ok w st | none => .bad) | _ => .bad) Q X
  unfold Ab.dctAt
  rw [h]; dsimp only; rw [hk]; exact q
theorem v_dgetF {n : Nat} {s : Str} {kvs : List (Key × Val)} {w : Val} (h : st[n]? = some (.fdc kvs)) (hk : Ab.valW kvs (.inr s) = some w) (q : Q w st) : WpR (Ab.vDget (.ref n) (.str s) st) Q X := by
  simp only [uR, uO, uG] at *
  show Ab.WpR (match Ab.dctAt st n with | some kvs => (match Ab.valW kvs (.inr s) with | some w => .ok w st | none => .bad) | _ => .bad) Q X
  unfold Ab.dctAt
  rw [h]; dsimp only; rw [hk]; exact q
theorem b_disp {prs : List (ME × ME)} (q : New (.dct []) st fun n s => WpR (Ab.pairsM prs ρ s) (fun kvs st2 => st2[n]? = some (.dct []) ∧ kvs.length ≤ 15 ∧ Wr n (.dct (Ab.mergeW [] kvs)) st2 fun s => Q (.ref n) s) X) : WpR (Se.mDisp prs ρ st) Q X := by
  simp only [uR, uO, uG] at *
  replace q := q.at
  show Ab.WpR (Ab.mDisp prs ρ st) Q X
  unfold Ab.mDisp; rw [Ab.wp_bind]
  refine Ab.WpR.mono q (fun x s h => ?_) fun _ _ h => h
  rw [h.1]; dsimp only; rw [if_pos h.2.1]; exact h.2.2.at h.1
theorem b_pnil {QP : List (Key × Val) → Store → Prop} (q : QP [] st) : WpR (Ab.pairsM [] ρ st) QP X := by
  simp only [uR, uO, uG] at *
  exact q
theorem b_pcons {QP : List (Key × Val) → Store → Prop} {prs : List (ME × ME)} (q : WpR (a ρ st) (fun x st1 => ∃ k, Ab.keyW x = some k ∧ WpR (b ρ st1) (fun y st2 => WpR (Ab.pairsM prs ρ st2) (fun ps st3 => QP ((k, y) :: ps) st3) X) X) X) : WpR (Ab.pairsM ((a, b) :: prs) ρ st) QP X := by
  simp only [uR, uO, uG] at *
  rw [Ab.pairsM, Ab.wp_bind]
  refine Ab.WpR.mono q (fun x s h => ?_) fun _ _ h => h
  obtain ⟨k, h1, h2⟩ := h
  rw [h1]; dsimp only; simp only [Ab.wp_bind, Ab.wp_ok]; exact h2
theorem b_items (q : WpR (m ρ st) (fun x st1 => ∃ n kvs, x = .ref n ∧ st1[n]? = some (.dct kvs) ∧ New (.lst (kvs.map fun kv => .tup [Ab.unkey kv.1, kv.2])) st1 fun m s => Q (.ref m) s) X) : WpR (Se.mItems m ρ st) Q X := by
  simp only [uR, uO, uG] at *
  show Ab.WpR (Ab.mItems m ρ st) Q X
  unfold Ab.mItems; rw [Ab.wp_bind]
  refine Ab.WpR.mono q (fun x s h => ?_) fun _ _ h => h
  obtain ⟨n, kvs, rfl, h1, h2⟩ := h
  dsimp only; rw [h1]; exact h2.at
theorem b_isi {ts : List Ab.Ty6} (q : WpR (m ρ st) (fun w st1 => ∃ k, Ab.kindW st1 w = some k ∧ TruB (ts.any (Ab.isT k)) fun b => Q (.bl b) st1) X) : WpR (Se.mIsi ts m ρ st) Q X := by
  simp only [uR, uO, uG] at *
  show Ab.WpR (Ab.mIsi ts m ρ st) Q X
  unfold Ab.mIsi; rw [Ab.wp_bind]
  refine Ab.WpR.mono q (fun x s h => ?_) fun _ _ h => h
  obtain ⟨k, h1, h2⟩ := h
  rw [h1]; exact h2
theorem b_star (q : WpR (m ρ st) (fun w st1 => ∃ xs, Ab.itemsW st1 w = some xs ∧ WpR (ta ρ st1) (fun ys st2 => QL (xs ++ ys) st2) X) X) : WpR (Se.aStar m ta ρ st) QL X := by
  simp only [uR, uO, uG] at *
  show Ab.WpR (Ab.aStar m ta ρ st) QL X
  unfold Ab.aStar; rw [Ab.wp_bind]
  refine Ab.WpR.mono q (fun x s h => ?_) fun _ _ h => h
  obtain ⟨xs, h1, h2⟩ := h
  rw [h1]; dsimp only; rw [Ab.wp_bind]; exact h2
theorem b_op {C : Nat} {mf : MF} (q : WpR (a ρ st) (fun x st1 => WpR (b ρ st1) (fun y st2 => Ab.isIns C st2 x = true ∧ Ab.isIns C st2 y = true ∧ WpR (mf [x, y] st2) Q X) X) X) : WpR (Se.mOp C mf a b ρ st) Q X := by
  simp only [uR, uO, uG] at *
  show Ab.WpR (Ab.mOp C mf a b ρ st) Q X
  unfold Ab.mOp; simp only [Ab.wp_bind]
  refine Ab.WpR.mono q (fun x s h => ?_) fun _ _ h => h
  refine Ab.WpR.mono h (fun x s h => ?_) fun _ _ h => h
  rw [if_pos ⟨h.1, h.2.1⟩]; exact h.2.2
theorem b_call {C : Nat} {mf : MF} (q : WpR (a ρ st) (fun x st1 => Ab.isIns C st1 x = true ∧ WpR (ta ρ st1) (fun vs st2 => Ab.isIns C st2 x = true ∧ WpR (mf (x :: vs) st2) Q X) X) X) : WpR (Se.mCall C mf a ta ρ st) Q X := by
  simp only [uR, uO, uG] at *
  show Ab.WpR (Ab.mCall C mf a ta ρ st) Q X
  unfold Ab.mCall; rw [Ab.wp_bind]
  refine Ab.WpR.mono q (fun x s h => ?_) fun _ _ h => h
  rw [if_pos h.1, Ab.wp_bind]
  refine Ab.WpR.mono h.2 (fun vs s h => ?_) fun _ _ h => h
  rw [if_pos h.1]; exact h.2
theorem b_getO {C : Nat} {mf : MF} (q : WpR (a ρ st) (fun x st1 => WpR (b ρ st1) (fun y st2 => Ab.isIns C st2 x = true ∧ WpR (mf [x, y] st2) Q X) X) X) : WpR (Se.mGetO C mf a b ρ st) Q X := by
  simp only [uR, uO, uG] at *
  show Ab.WpR (Ab.mGetO C mf a b ρ st) Q X
  unfold Ab.mGetO; simp only [Ab.wp_bind]
  refine Ab.WpR.mono q (fun x s h => ?_) fun _ _ h => h
  refine Ab.WpR.mono h (fun x s h => ?_) fun _ _ h => h
  rw [if_pos h.1]; exact h.2
theorem b_opT {C : Nat} {mf : MF} (q : WpR (a ρ st) (fun x st1 => WpR (b ρ st1) (fun y st2 => Ab.isIns C st2 x = true ∧ Ab.isStr y = true ∧ WpR (mf [x, y] st2) Q X) X) X) : WpR (Se.mOpT C mf a b ρ st) Q X := by
  simp only [uR, uO, uG] at *
  show Ab.WpR (Ab.mOpT C mf a b ρ st) Q X
  unfold Ab.mOpT; simp only [Ab.wp_bind]
  refine Ab.WpR.mono q (fun x s h => ?_) fun _ _ h => h
  refine Ab.WpR.mono h (fun x s h => ?_) fun _ _ h => h
  rw [if_pos ⟨h.1, h.2.1⟩]; exact h.2.2
theorem v_tru {C : Nat} {mf : MF} {neg : Bool} {x y : Val} (h1 : Ab.isIns C st x = true) (h2 : WpR (mf [x, y] st) (fun v s => ∃ c : Bool, v = .bl c ∧ Q (.bl (if neg then !c else c)) s) fun _ _ => False) : WpR (Ab.truR C mf neg x y st) Q X := by
  simp only [uR, uO, uG] at *
  unfold Ab.truR
  rw [if_pos h1]
  cases hm : mf [x, y] st with
  | bad => rw [hm] at h2; exact h2
  | exc e s' => rw [hm] at h2; exact h2.elim
  | ok w s' =>
    rw [hm] at h2
    obtain ⟨c, rfl, h3⟩ := h2
    exact h3
theorem b_isiO {tbl : List (Nat × Bool)} (q : WpR (m ρ st) (fun w st1 => ∃ b, Ab.isiW tbl st1 w = some b ∧ Q (.bl b) st1) X) : WpR (Se.mIsiO tbl m ρ st) Q X := by
  simp only [uR, uO, uG] at *
  show Ab.WpR (Ab.mIsiO tbl m ρ st) Q X
  unfold Ab.mIsiO; rw [Ab.wp_bind]
  refine Ab.WpR.mono q (fun x s h => ?_) fun _ _ h => h
  obtain ⟨b, h1, h2⟩ := h
  rw [h1]; exact h2
theorem g_tupS {j : Nat} {h : MGs} {ws : List Val} (hl : j ≤ ws.length ∧ ws.length ≤ 1000) (q : New (.lst (ws.drop j)) st fun k s => WpG (h (ws.take j ++ [.ref k]) ρ s) n) : WpG (Se.gTupS j h (.tup ws) ρ st) n := by
  simp only [uR, uO, uG] at *
  show Ab.WpG (Ab.gTupS j h (.tup ws) ρ st) n
  dsimp only [Ab.gTupS]
  rw [if_pos hl]
  exact q.at
theorem b_disp0 (q : New (.dct []) st fun n s => Q (.ref n) s) : WpR (Se.mDisp0 ρ st) Q X := by
  simp only [uR, uO, uG] at *
  exact q.at
theorem is_ins {n C : Nat} {fs : List (Nat × Val)} (h : st[n]? = some (.ins C fs)) : Ab.isIns C st (.ref n) = true := by
  unfold Ab.isIns; dsimp only; rw [h]; simp
theorem b_len {C : Nat} {mf : MF} (q : WpR (m ρ st) (fun x st1 => Ab.isIns C st1 x = true ∧ WpR (mf [x] st1) (fun v st2 => ∃ i, v = .int i ∧ 0 ≤ i ∧ i < 1000000 ∧ Q (.int i) st2) (fun _ _ => False)) X) : WpR (Se.mLen C mf m ρ st) Q X := by
  simp only [uR, uO, uG] at *
  show Ab.WpR (Ab.mLen C mf m ρ st) Q X
  unfold Ab.mLen; rw [Ab.wp_bind]
  refine Ab.WpR.mono q (fun x s h => ?_) fun _ _ h => h
  rw [if_pos h.1]
  have h2 := h.2
  cases hm : mf [x] s with
  | bad => rw [hm] at h2; exact h2
  | exc e s' => rw [hm] at h2; exact h2.elim
  | ok w s' =>
    rw [hm] at h2
    obtain ⟨i, rfl, h3, h4, h5⟩ := h2
    dsimp only; rw [if_pos ⟨h3, h4⟩]; exact h5
theorem b_outcome (q : WpR (m ρ st) (fun v st1 => Q (.tup [.str "value", v]) st1) (fun x st1 => ∃ ws, Ab.outV x = some ws ∧ ws.all Ab.flatW = true ∧ Q (.tup ws) st1)) : WpR (Se.mOutcome m ρ st) Q X := by
  simp only [uR, uO, uG] at *
  show Ab.WpR (Ab.mOutcome m ρ st) Q X
  unfold Ab.mOutcome
  cases hm : m ρ st with
  | bad => rw [hm] at q; exact q
  | exc e s' =>
    rw [hm] at q
    obtain ⟨ws, h1, h2, h3⟩ := q
    dsimp only; rw [h1]; dsimp only; rw [if_pos h2]; exact h3
  | ok w s' => rw [hm] at q; exact q
theorem b_outOne {out : Exc → Option (List Val)} (q : WpR (m ρ st) (fun v st1 => Q v st1) (fun x st1 => ∃ ws, out x = some ws ∧ ws.all Ab.flatW = true ∧ Q (.tup ws) st1)) : WpR (Se.mOutOne out m ρ st) Q X := by
  simp only [uR, uO, uG] at *
  show Ab.WpR (Ab.mOutOne out m ρ st) Q X
  unfold Ab.mOutOne
  cases hm : m ρ st with
  | bad => rw [hm] at q; exact q
  | exc e s' =>
    rw [hm] at q
    obtain ⟨ws, h1, h2, h3⟩ := q
    dsimp only; rw [h1]; dsimp only; rw [if_pos h2]; exact h3
  | ok w s' => rw [hm] at q; exact q
/-! statements -/
theorem b_next (q : n ρ st) : WpO (Se.sNext ρ st) ⟨n, r, k, l, X⟩ := by
  simp only [uR, uO, uG] at *
  exact q
theorem b_seq (q : WpO (s1 ρ st) ⟨fun ρ st => WpO (s2 ρ st) ⟨n, r, k, l, X⟩, r, k, l, X⟩) : WpO (Se.sSeq s1 s2 ρ st) ⟨n, r, k, l, X⟩ := by
  simp only [uR, uO, uG] at *
  exact Ab.w_seq.mpr q
theorem b_set {i : Nat} (q : WpR (m ρ st) (fun w st1 => NF ρ i (some w) fun ρ => n ρ st1) X) : WpO (Se.sSet i m ρ st) ⟨n, r, k, l, X⟩ := by
  simp only [uR, uO, uG] at *
  exact Ab.w_set.mpr q
theorem b_ret (q : WpR (m ρ st) (fun w st1 => r w st1) X) : WpO (Se.sRet m ρ st) ⟨n, r, k, l, X⟩ := by
  simp only [uR, uO, uG] at *
  exact Ab.w_ret.mpr q
theorem b_drop (q : WpR (m ρ st) (fun _ st1 => n ρ st1) X) : WpO (Se.sDrop m ρ st) ⟨n, r, k, l, X⟩ := by
  simp only [uR, uO, uG] at *
  exact Ab.w_drop.mpr q
theorem b_sif (q : WpR (t ρ st) (fun b st1 => if b = true then WpO (s1 ρ st1) ⟨n, r, k, l, X⟩ else WpO (s2 ρ st1) ⟨n, r, k, l, X⟩) X) : WpO (Se.sIf t s1 s2 ρ st) ⟨n, r, k, l, X⟩ := by
  simp only [uR, uO, uG] at *
  exact Ab.w_sif.mpr q
theorem b_break (q : k ρ st) : WpO (Se.sBreak ρ st) ⟨n, r, k, l, X⟩ := by
  simp only [uR, uO, uG] at *
  exact q
theorem b_cont (q : l ρ st) : WpO (Se.sCont ρ st) ⟨n, r, k, l, X⟩ := by
  simp only [uR, uO, uG] at *
  exact q
theorem b_aug {i : Nat} {g : Val → Val → Store → R Val} {x : Val} (hx : ρ[i]? = some (some x)) (q : WpR (m ρ st) (fun y st1 => WpR (g x y st1) (fun z st2 => NF ρ i (some z) fun ρ => n ρ st2) X) X) : WpO (Se.sAug i g m ρ st) ⟨n, r, k, l, X⟩ := by
  simp only [uR, uO, uG] at *
  show Ab.WpO (Ab.sAug i g m ρ st) _
  unfold Ab.sAug; rw [hx]; dsimp only; rw [Ab.wp_toO]
  refine Ab.WpR.mono q (fun y s h => ?_) fun _ _ h => h
  rw [Ab.wp_toO]; exact h
theorem b_asg {g : MG} (q : WpR (m ρ st) (fun w st1 => WpG (g w ρ st1) n) X) : WpO (Se.sAsg m g ρ st) ⟨n, r, k, l, X⟩ := by
  simp only [uR, uO, uG] at *
  exact Ab.w_asg.mpr q
theorem b_par {i j : Nat} (q : WpR (ta ρ st) (fun ws st1 => ∃ v w, ws = [v, w] ∧ NF ρ i (some v) fun ρ => NF ρ j (some w) fun ρ => n ρ st1) X) : WpO (Se.sPar i j ta ρ st) ⟨n, r, k, l, X⟩ := by
  simp only [uR, uO, uG] at *
  show Ab.WpO (Ab.sPar i j ta ρ st) _
  unfold Ab.sPar; rw [Ab.wp_toO]
  refine Ab.WpR.mono q (fun y s h => ?_) fun _ _ h => h
  obtain ⟨v, w, rfl, h⟩ := h; exact h
theorem b_fldm {cs : List Nat} {f : Nat} (q : WpR (b ρ st) (fun w st1 => WpR (a ρ st1) (fun x st2 => ∃ nn C fs, x = .ref nn ∧ st2[nn]? = some (.ins C fs) ∧ C ∈ cs ∧ fs.length < 1000 ∧ Wr nn (.ins C (Ab.putM f w fs)) st2 fun s => n ρ s) X) X) : WpO (Se.sFldM cs f a b ρ st) ⟨n, r, k, l, X⟩ := by
  simp only [uR, uO, uG] at *
  show Ab.WpO (Ab.sFldM cs f a b ρ st) _
  unfold Ab.sFldM; rw [Ab.wp_toO]
  refine Ab.WpR.mono q (fun y s h => ?_) fun _ _ h => h
  rw [Ab.wp_toO]
  refine Ab.WpR.mono h (fun y s h => ?_) fun _ _ h => h
  obtain ⟨nn, C, fs, rfl, h1, h2, h3, h4⟩ := h
  dsimp only; rw [h1]; dsimp only; rw [if_pos ⟨h2, h3⟩]; exact h4.at h1
theorem b_fldaug {cs : List Nat} {f : Nat} {g : Val → Val → Store → R Val} (q : WpR (a ρ st) (fun x st1 => ∃ nn C fs w, x = .ref nn ∧ st1[nn]? = some (.ins C fs) ∧ C ∈ cs ∧ fs.lookup f = some w ∧ WpR (b ρ st1) (fun y st2 => WpR (g w y st2) (fun z st3 => ∃ fs', st3[nn]? = some (.ins C fs') ∧ fs'.length < 1000 ∧ Wr nn (.ins C (Ab.putM f z fs')) st3 fun s => n ρ s) X) X) X) : WpO (Se.sFldAugM cs f g a b ρ st) ⟨n, r, k, l, X⟩ := by
  simp only [uR, uO, uG] at *
  show Ab.WpO (Ab.sFldAugM cs f g a b ρ st) _
  unfold Ab.sFldAugM; rw [Ab.wp_toO]
  refine Ab.WpR.mono q (fun y s h => ?_) fun _ _ h => h
  obtain ⟨nn, C, fs, w, rfl, h1, h2, h3, h4⟩ := h
  dsimp only; rw [h1]; dsimp only; rw [if_pos h2, h3]; dsimp only; rw [Ab.wp_toO]
  refine Ab.WpR.mono h4 (fun y s h => ?_) fun _ _ h => h
  rw [Ab.wp_toO]
  refine Ab.WpR.mono h (fun y s h => ?_) fun _ _ h => h
  obtain ⟨fs', h1, h2, h3⟩ := h
  rw [h1]; dsimp only; rw [if_pos ⟨rfl, h2⟩]; exact h3.at h1
theorem b_raise {C : Nat} {fs : List Nat} (q : WpR (ta ρ st) (fun ws st1 => ws.length = fs.length ∧ X ⟨C, (fs.zip ws).reverse⟩ st1) X) : WpO (Se.sRaise C fs ta ρ st) ⟨n, r, k, l, X⟩ := by
  simp only [uR, uO, uG] at *
  show Ab.WpO (Ab.sRaise C fs ta ρ st) _
  unfold Ab.sRaise; rw [Ab.wp_toO]
  refine Ab.WpR.mono q (fun y s h => ?_) fun _ _ h => h
  rw [if_pos h.1]; exact h.2
theorem b_raise0 {C : Nat} (q : X ⟨C, []⟩ st) : WpO (Se.sRaise0 C ρ st) ⟨n, r, k, l, X⟩ := by
  simp only [uR, uO, uG] at *
  exact q
theorem b_for {mi : MI} {g : MG} {body : MS} (q : WpR (mi ρ st) (fun it st1 => WpO (Ab.forM g body it.2 it.1 ρ st1) ⟨n, r, k, l, X⟩) X) : WpO (Se.sFor mi g body ρ st) ⟨n, r, k, l, X⟩ := by
  simp only [uR, uO, uG] at *
  exact Ab.w_for.mpr q
/-! targets -/
theorem g_set {i : Nat} {w : Val} (q : NF ρ i (some w) fun ρ => n ρ st) : WpG (Se.gSet i w ρ st) n := by
  simp only [uR, uO, uG] at *
  exact q
theorem g_nil (q : n ρ st) : WpG (Se.gsNil [] ρ st) n := by
  simp only [uR, uO, uG] at *
  exact q
theorem g_cons {g : MG} {h : MGs} {w : Val} {ws : List Val} (q : WpG (g w ρ st) (fun ρ1 st1 => WpG (h ws ρ1 st1) n)) : WpG (Se.gsCons g h (w :: ws) ρ st) n := by
  simp only [uR, uO, uG] at *
  show Ab.WpG (Ab.gsCons g h (w :: ws) ρ st) n
  dsimp only [Ab.gsCons]
  cases hg : g w ρ st with
  | none => rw [hg] at q; exact q
  | some p => rw [hg] at q; exact q
theorem g_tup {j : Nat} {h : MGs} {ws : List Val} (hl : ws.length = j) (q : WpG (h ws ρ st) n) : WpG (Se.gTupM j h (.tup ws) ρ st) n := by
  simp only [uR, uO, uG] at *
  show Ab.WpG (Ab.gTupM j h (.tup ws) ρ st) n
  dsimp only [Ab.gTupM]
  rw [if_pos hl]; exact q
theorem g_fld {cs : List Nat} {f : Nat} {w : Val} (q : WpR (m ρ st) (fun x st1 => ∃ nn C fs, x = .ref nn ∧ st1[nn]? = some (.ins C fs) ∧ C ∈ cs ∧ fs.length < 1000 ∧ Wr nn (.ins C (Ab.putM f w fs)) st1 fun s => n ρ s) fun _ _ => False) : WpG (Se.gFld cs f m w ρ st) n := by
  simp only [uR, uO, uG] at *
  show Ab.WpG (Ab.gFld cs f m w ρ st) n
  unfold Ab.gFld
  cases hm : m ρ st with
  | bad => rw [hm] at q; exact q.elim
  | exc e s' => rw [hm] at q; exact q.elim
  | ok x s' =>
    rw [hm] at q
    obtain ⟨nn, C, fs, rfl, h1, h2, h3, h4⟩ := q
    dsimp only; rw [h1]; dsimp only; rw [if_pos ⟨h2, h3⟩]; exact h4.at h1
theorem g_subL {w : Val} (q : WpR (a ρ st) (fun x st1 => WpR (b ρ st1) (fun i st2 => ∃ nn z xs j, x = .ref nn ∧ i = .int z ∧ st2[nn]? = some (.lst xs) ∧ L2.ixN xs.length z = some j ∧ Wr nn (.lst (xs.set j w)) st2 fun s => n ρ s) fun _ _ => False) fun _ _ => False) : WpG (Se.gSubL a b w ρ st) n := by
  simp only [uR, uO, uG] at *
  show Ab.WpG (Ab.gSubL a b w ρ st) n
  unfold Ab.gSubL
  cases hm : a ρ st with
  | bad => rw [hm] at q; exact q.elim
  | exc e s' => rw [hm] at q; exact q.elim
  | ok x s' =>
    rw [hm] at q
    dsimp only [Ab.WpR] at q ⊢
    cases hb : b ρ s' with
    | bad => rw [hb] at q; exact q.elim
    | exc e s' => rw [hb] at q; exact q.elim
    | ok y s2 =>
      rw [hb] at q
      obtain ⟨nn, z, xs, j, rfl, rfl, h1, h2, h3⟩ := q
      dsimp only; rw [h1]; dsimp only; rw [h2]; exact h3.at h1
theorem g_subD {w : Val} (q : WpR (a ρ st) (fun x st1 => WpR (b ρ st1) (fun i st2 => ∃ nn z kvs, x = .ref nn ∧ Ab.keyW i = some z ∧ st2[nn]? = some (.dct kvs) ∧ kvs.length < 1000 ∧ Wr nn (.dct (Ab.putW kvs z w)) st2 fun s => n ρ s) fun _ _ => False) fun _ _ => False) : WpG (Se.gSubD a b w ρ st) n := by
  simp only [uR, uO, uG] at *
  show Ab.WpG (Ab.gSubD a b w ρ st) n
  unfold Ab.gSubD
  cases hm : a ρ st with
  | bad => rw [hm] at q; exact q.elim
  | exc e s' => rw [hm] at q; exact q.elim
  | ok x s' =>
    rw [hm] at q
    dsimp only [Ab.WpR] at q ⊢
    cases hb : b ρ s' with
    | bad => rw [hb] at q; exact q.elim
    | exc e s' => rw [hb] at q; exact q.elim
    | ok y s2 =>
      rw [hb] at q
      obtain ⟨nn, z, xs, rfl, h0, h1, h2, h3⟩ := q
      dsimp only; rw [h0]; dsimp only; rw [h1]; dsimp only; rw [if_pos h2]; exact h3.at h1
/-! what is gone through -/
section
variable {QI : List Val × (Store → Prop) → Store → Prop}
theorem i_seq (q : WpR (m ρ st) (fun w st1 => ∃ p, Ab.itemsOf st1 w = some p ∧ QI p st1) X) : WpR (Se.iSeqM m ρ st) QI X := by
  simp only [uR, uO, uG] at *
  show Ab.WpR (Ab.iSeqM m ρ st) QI X
  unfold Ab.iSeqM; rw [Ab.wp_bind]
  refine Ab.WpR.mono q (fun y s h => ?_) fun _ _ h => h
  obtain ⟨p, h1, h2⟩ := h
  rw [h1]; exact h2
theorem i_keys (q : WpR (m ρ st) (fun w st1 => ∃ j kvs, w = .ref j ∧ st1[j]? = some (.dct kvs) ∧ Wr j (.fdc kvs) st1 fun s => QI (kvs.map fun kv => Ab.unkey kv.1, fun st' => st'[j]? = some (.fdc kvs)) s) X) : WpR (Se.iKeysM m ρ st) QI X := by
  simp only [uR, uO, uG] at *
  show Ab.WpR (Ab.iKeysM m ρ st) QI X
  unfold Ab.iKeysM Ab.mFrz; simp only [Ab.wp_bind]
  refine Ab.WpR.mono q (fun x s h => ?_) fun _ _ h => h
  obtain ⟨j, kvs, rfl, h1, h2⟩ := h
  dsimp only; rw [h1]; dsimp only
  rw [Ab.wp_ok]
  unfold Ab.fdcAt; dsimp only
  rw [List.getElem?_set_self (List.getElem?_eq_some_iff.mp h1).1]
  exact h2.at h1
theorem i_vals (q : WpR (m ρ st) (fun w st1 => ∃ j kvs, w = .ref j ∧ st1[j]? = some (.dct kvs) ∧ Wr j (.fdc kvs) st1 fun s => QI (kvs.map (·.2), fun st' => st'[j]? = some (.fdc kvs)) s) X) : WpR (Se.iValsM m ρ st) QI X := by
  simp only [uR, uO, uG] at *
  show Ab.WpR (Ab.iValsM m ρ st) QI X
  unfold Ab.iValsM Ab.mFrz; simp only [Ab.wp_bind]
  refine Ab.WpR.mono q (fun x s h => ?_) fun _ _ h => h
  obtain ⟨j, kvs, rfl, h1, h2⟩ := h
  dsimp only; rw [h1]; dsimp only
  rw [Ab.wp_ok]
  unfold Ab.fdcAt; dsimp only
  rw [List.getElem?_set_self (List.getElem?_eq_some_iff.mp h1).1]
  exact h2.at h1
theorem i_enum (q : WpR (m ρ st) (fun w st1 => ∃ xs okp, Ab.itemsOf st1 w = some (xs, okp) ∧ QI (Ab.enumFrom 0 xs, okp) st1) X) : WpR (Se.iEnumM m ρ st) QI X := by
  simp only [uR, uO, uG] at *
  show Ab.WpR (Ab.iEnumM m ρ st) QI X
  unfold Ab.iEnumM; rw [Ab.wp_bind]
  refine Ab.WpR.mono q (fun y s h => ?_) fun _ _ h => h
  obtain ⟨p, okp, h1, h2⟩ := h
  rw [h1]; exact h2
theorem i_zip (q : WpR (a ρ st) (fun w st1 => WpR (b ρ st1) (fun u st2 => ∃ xs okp ys okq, Ab.itemsOf st2 w = some (xs, okp) ∧ Ab.itemsOf st2 u = some (ys, okq) ∧ QI (Ab.zipW xs ys, fun st => okp st ∧ okq st) st2) X) X) : WpR (Se.iZipM a b ρ st) QI X := by
  simp only [uR, uO, uG] at *
  show Ab.WpR (Ab.iZipM a b ρ st) QI X
  unfold Ab.iZipM; simp only [Ab.wp_bind]
  refine Ab.WpR.mono q (fun y s h => ?_) fun _ _ h => h
  refine Ab.WpR.mono h (fun y s h => ?_) fun _ _ h => h
  obtain ⟨p, okp, ys, okq, h1, h2, h3⟩ := h
  rw [h1, h2]; exact h3
theorem i_str (q : WpR (m ρ st) (fun w st1 => ∃ x, w = .str x ∧ QI (Ab.signsW x, fun _ => True) st1) X) : WpR (Se.iStrM m ρ st) QI X := by
  simp only [uR, uO, uG] at *
  show Ab.WpR (Ab.iStrM m ρ st) QI X
  unfold Ab.iStrM; rw [Ab.wp_bind]
  refine Ab.WpR.mono q (fun y s h => ?_) fun _ _ h => h
  obtain ⟨x, rfl, h⟩ := h; exact h
theorem i_range1 (q : WpR (ta ρ st) (fun ws st1 => ∃ j : Int, ws = [.int j] ∧ (-(2 ^ 62) ≤ j ∧ j < 2 ^ 62) ∧ QI ((List.range j.toNat).map fun (i : Nat) => Val.int i, fun _ => True) st1) X) : WpR (Se.iRange1 ta ρ st) QI X := by
  simp only [uR, uO, uG] at *
  show Ab.WpR (Ab.iRange1 ta ρ st) QI X
  unfold Ab.iRange1; rw [Ab.wp_bind]
  refine Ab.WpR.mono q (fun y s h => ?_) fun _ _ h => h
  obtain ⟨j, rfl, h1, h2⟩ := h
  dsimp only; rw [if_pos h1]
  simpa only [Int.zero_add, Ab.wp_ok] using h2
theorem i_range2 (q : WpR (ta ρ st) (fun ws st1 => ∃ i j : Int, ws = [.int i, .int j] ∧ (-(2 ^ 62) ≤ i ∧ i < 2 ^ 62 ∧ -(2 ^ 62) ≤ j ∧ j < 2 ^ 62) ∧ QI ((List.range (j - i).toNat).map fun (k : Nat) => Val.int (i + k), fun _ => True) st1) X) : WpR (Se.iRange2 ta ρ st) QI X := by
  simp only [uR, uO, uG] at *
  show Ab.WpR (Ab.iRange2 ta ρ st) QI X
  unfold Ab.iRange2; rw [Ab.wp_bind]
  refine Ab.WpR.mono q (fun y s h => ?_) fun _ _ h => h
  obtain ⟨i, j, rfl, h1, h2⟩ := h
  dsimp only; rw [if_pos h1]; exact h2
theorem items_lst {n : Nat} {xs : List Val} (h : st[n]? = some (.lst xs)) : Ab.itemsOf st (.ref n) = some (xs, fun st' => seqAt st' n = some xs) := by
  unfold Ab.itemsOf; dsimp only; rw [Ab.seqAt_lst h]
end
theorem b_lc {mi : MI} {g : MG} {vs : List Nat} (q : WpR (mi ρ st) (fun it st1 => WpR (Ab.lcM g t m it.2 st1.length (Ab.wipeM ρ vs) it.1 (st1 ++ [.lst []])) Q X) X) : WpR (Se.mLc mi g t m vs ρ st) Q X := by
  simp only [uR, uO, uG] at *
  show Ab.WpR (Ab.mLc mi g t m vs ρ st) Q X
  unfold Ab.mLc; rw [Ab.wp_bind]; exact q
theorem b_dc {mi : MI} {g : MG} {vs : List Nat} (q : WpR (mi ρ st) (fun it st1 => WpR (Ab.dcM g t a b it.2 st1.length (Ab.wipeM ρ vs) it.1 (st1 ++ [.dct []])) Q X) X) : WpR (Se.mDc mi g t a b vs ρ st) Q X := by
  simp only [uR, uO, uG] at *
  show Ab.WpR (Ab.mDc mi g t a b vs ρ st) Q X
  unfold Ab.mDc; rw [Ab.wp_bind]; exact q
theorem b_yes (q : QB true st) : WpR (Se.mYes ρ st) QB X := by
  simp only [uR, uO, uG] at *
  exact q
theorem b_def {j i : Nat} {body : MS} {ws : List Val} (h : ws.length = j) (q : WpO (body (ws.map some ++ List.replicate i none) st) ⟨fun _ st => Q .non st, Q, fun _ _ => False, fun _ _ => False, X⟩) : WpR (Ab.defM j i body ws st) Q X := by
  simp only [uR, uO, uG] at *
  exact (Ab.wp_def h).mpr q
theorem b_defS {j i : Nat} {body : MS} {ws : List Val} (h : j ≤ ws.length ∧ ws.length ≤ 1000) (q : WpO (body ((ws.take j ++ [Val.tup (ws.drop j)]).map some ++ List.replicate i none) st) ⟨fun _ st => Q .non st, Q, fun _ _ => False, fun _ _ => False, X⟩) : WpR (Ab.defStarM j i body ws st) Q X := by
  simp only [uR, uO, uG] at *
  unfold Ab.defStarM; rw [if_pos h, Ab.wp_fin]; exact q
/-! ops that look at the store -/
theorem v_ixL {i : Nat} {z : Int} {xs : List Val} {w : Val} (h : st[i]? = some (.lst xs)) (hi : L2.atI xs z = some w) (q : Q w st) : WpR (vIx (.ref i) (.int z) st) Q X := by
  simp only [uR, uO, uG] at *
  exact (Ab.ix_ref (Ab.seqAt_lst h) hi).mpr q
theorem v_ixT {z : Int} {xs : List Val} {w : Val} (hi : L2.atI xs z = some w) (q : Q w st) : WpR (vIx (.tup xs) (.int z) st) Q X := by
  simp only [uR, uO, uG] at *
  dsimp only [vIx]; rw [hi]; exact q
theorem v_lenL {i : Nat} {xs : List Val} (h : st[i]? = some (.lst xs)) (q : Q (.int xs.length) st) : WpR (Ab.bLen [.ref i] st) Q X := by
  simp only [uR, uO, uG] at *
  dsimp only [Ab.bLen]; rw [Ab.seqAt_lst h]; exact q
theorem v_tupL {i : Nat} {xs : List Val} (h : st[i]? = some (.lst xs)) (q : Q (.tup xs) st) : WpR (Ab.bTuple [.ref i] st) Q X := by
  simp only [uR, uO, uG] at *
  dsimp only [Ab.bTuple]; rw [Ab.seqAt_lst h]; exact q
theorem v_lstL {i : Nat} {xs : List Val} (h : st[i]? = some (.lst xs)) (q : New (.lst xs) st fun n s => Q (.ref n) s) : WpR (Ab.bList [.ref i] st) Q X := by
  simp only [uR, uO, uG] at *
  dsimp only [Ab.bList]; rw [Ab.seqAt_lst h]; exact q.at
theorem v_addL {i j : Nat} {xs ys : List Val} (h1 : st[i]? = some (.lst xs)) (h2 : st[j]? = some (.lst ys)) (hl : xs.length + ys.length ≤ 100000) (q : New (.lst (xs ++ ys)) st fun n s => Q (.ref n) s) : WpR (vAdd (.ref i) (.ref j) st) Q X := by
  simp only [uR, uO, uG] at *
  dsimp only [vAdd]; rw [h1, h2]; dsimp only; rw [if_pos (by rw [sizeLine_eq]; omega)]; exact q.at
theorem v_addT {xs ys : List Val} (hl : xs.length + ys.length ≤ 100000) (q : Q (.tup (xs ++ ys)) st) : WpR (vAdd (.tup xs) (.tup ys) st) Q X := by
  simp only [uR, uO, uG] at *
  dsimp only [vAdd]; rw [if_pos (by rw [sizeLine_eq]; omega)]; exact q
theorem v_app {i : Nat} {xs : List Val} {y : Val} (h : st[i]? = some (.lst xs)) (hl : xs.length < 100000) (q : Wr i (.lst (xs ++ [y])) st fun s => Q .non s) : WpR (Ab.vAppend (.ref i) [y] st) Q X := by
  simp only [uR, uO, uG] at *
  dsimp only [Ab.vAppend]; rw [h]; dsimp only; rw [if_pos (by rw [sizeLine_eq]; omega)]; exact q.at h
theorem v_pop {i : Nat} {xs : List Val} {y : Val} (h : st[i]? = some (.lst (xs ++ [y]))) (q : Wr i (.lst xs) st fun s => Q y s) : WpR (Ab.vPop (.ref i) [] st) Q X := by
  simp only [uR, uO, uG] at *
  dsimp only [Ab.vPop]; rw [h]; dsimp only
  rw [show (xs ++ [y])[(xs ++ [y]).length - 1]? = some y by simp, List.dropLast_concat]; exact q.at h
theorem v_mul {i j : Int} (h : (-(2 ^ 64) < i ∧ i < 2 ^ 64) ∨ (-(2 ^ 64) < j ∧ j < 2 ^ 64)) (q : Q (.int (i * j)) st) : WpR (Ab.vMul (.int i) (.int j) st) Q X := by
  simp only [uR, uO, uG] at *
  dsimp only [Ab.vMul]
  rw [if_pos]; exact q
  unfold Ab.mulOk
  rcases h with h | h
  · rw [decide_eq_true h.1, decide_eq_true h.2]; simp
  · rw [decide_eq_true h.1, decide_eq_true h.2]; simp
theorem v_mod {i j : Int} (h : 0 < j) (q : Q (.int (i % j)) st) : WpR (Ab.vMod (.int i) (.int j) st) Q X := by
  simp only [uR, uO, uG] at *
  rw [Ab.vmod_i h]; exact q
theorem v_div {i j : Int} (h : 0 < j ∧ j < 2 ^ 100) (q : Q (.int (i / j)) st) : WpR (Ab.vDiv (.int i) (.int j) st) Q X := by
  simp only [uR, uO, uG] at *
  rw [Ab.vdiv_i h.1 h.2]; exact q
theorem v_pow {i j k : Int} (h : 0 ≤ j ∧ j ≤ 1000000 ∧ i.natAbs < 2 ^ 64) (hk : i ^ j.toNat = k) (q : Q (.int k) st) : WpR (Ab.vPow (.int i) (.int j) st) Q X := by
  simp only [uR, uO, uG] at *
  dsimp only [Ab.vPow]; rw [if_pos h, hk]; exact q
theorem v_lt {i j : Int} (q : Q (.bl (decide (i < j))) st) : WpR (Ab.vLt (.int i) (.int j) st) Q X := by
  simp only [uR, uO, uG] at *
  exact q
theorem v_gt {i j : Int} (q : Q (.bl (decide (j < i))) st) : WpR (Ab.vGt (.int i) (.int j) st) Q X := by
  simp only [uR, uO, uG] at *
  exact q
theorem v_ge {i j : Int} (q : Q (.bl (decide (j ≤ i))) st) : WpR (Ab.vGe (.int i) (.int j) st) Q X := by
  simp only [uR, uO, uG] at *
  exact q
/-- both ways are read off -/
theorem ite_both {p : Prop} [Decidable p] {i j : Int} {A B : R Val} (hA : A = .ok (.int i) st) (hB : B = .ok (.int j) st) (q : Q (.int (if p then i else j)) st) : if decide p = true then WpR A Q X else WpR B Q X := by
  simp only [uR, uO, uG] at *
  by_cases h : p
  · rw [if_pos (by simpa using h), hA]; rw [if_pos h] at q; exact q
  · rw [if_neg (by simpa using h), hB]; rw [if_neg h] at q; exact q
theorem v_inT {x : Val} {ys : List Val} {s : Str} (hx : x = .str s) (hf : ys.all Ab.flatW = true) (q : Q (.bl (Ab.inW x ys)) st) : WpR (Ab.vIn x (.tup ys) st) Q X := by
  simp only [uR, uO, uG] at *
  subst hx; dsimp only [Ab.vIn]; rw [if_pos (by simpa [Ab.flatW] using hf)]; exact q
theorem v_inL {x : Val} {i : Nat} {ys : List Val} {s : Str} (hx : x = .str s) (h : st[i]? = some (.lst ys)) (hf : ys.all Ab.flatW = true) (q : Q (.bl (Ab.inW x ys)) st) : WpR (Ab.vIn x (.ref i) st) Q X := by
  simp only [uR, uO, uG] at *
  subst hx; dsimp only [Ab.vIn]; rw [Ab.seqAt_lst h]; dsimp only; rw [if_pos (by simpa [Ab.flatW] using hf)]; exact q
theorem v_ninT {x : Val} {ys : List Val} {s : Str} (hx : x = .str s) (hf : ys.all Ab.flatW = true) (q : Q (.bl (!Ab.inW x ys)) st) : WpR (Ab.vNotIn x (.tup ys) st) Q X := by
  simp only [uR, uO, uG] at *
  subst hx; dsimp only [Ab.vNotIn]; rw [if_pos (by simpa [Ab.flatW] using hf)]; exact q
theorem v_ninL {x : Val} {i : Nat} {ys : List Val} {s : Str} (hx : x = .str s) (h : st[i]? = some (.lst ys)) (hf : ys.all Ab.flatW = true) (q : Q (.bl (!Ab.inW x ys)) st) : WpR (Ab.vNotIn x (.ref i) st) Q X := by
  simp only [uR, uO, uG] at *
  subst hx; dsimp only [Ab.vNotIn]; rw [Ab.seqAt_lst h]; dsimp only; rw [if_pos (by simpa [Ab.flatW] using hf)]; exact q
theorem chk_bl {b : Bool} {P N : Prop} (h : if b = true then P else N) : Chk (.bl b) P N := by cases b <;> exact h
theorem ite_t {P N : Prop} (h : P) : if true = true then P else N := by rw [if_pos rfl]; exact h
theorem ite_f {P N : Prop} (h : N) : if false = true then P else N := by rw [if_neg Bool.false_ne_true]; exact h
theorem ite_nt {P N : Prop} (h : N) : if (!true) = true then P else N := by rw [if_neg (by decide)]; exact h
theorem ite_nf {P N : Prop} (h : P) : if (!false) = true then P else N := by rw [if_pos (by decide)]; exact h
theorem ite_rfl {α : Type} [DecidableEq α] {a : α} {P N : Prop} (h : P) : if decide (a = a) = true then P else N := by rw [if_pos (by simp)]; exact h
theorem ite_nrfl {α : Type} [DecidableEq α] {a : α} {P N : Prop} (h : N) : if (!decide (a = a)) = true then P else N := by rw [if_neg (by simp)]; exact h
theorem ite_d {p : Prop} [Decidable p] {P N : Prop} (h1 : p → P) (h2 : ¬p → N) : if decide p = true then P else N := by
  by_cases q : p
  · rw [if_pos (by simpa using q)]; exact h1 q
  · rw [if_neg (by simpa using q)]; exact h2 q
theorem ite_nd {p : Prop} [Decidable p] {P N : Prop} (h1 : p → N) (h2 : ¬p → P) : if (!decide p) = true then P else N := by
  by_cases q : p
  · rw [if_neg (by simpa using q)]; exact h1 q
  · rw [if_pos (by simpa using q)]; exact h2 q
theorem ite_dp {p : Prop} [Decidable p] {P N : Prop} (q : p) (h : P) : if decide p = true then P else N := by rw [if_pos (by simpa using q)]; exact h
theorem ite_dn {p : Prop} [Decidable p] {P N : Prop} (q : ¬p) (h : N) : if decide p = true then P else N := by rw [if_neg (by simpa using q)]; exact h
theorem ite_ndp {p : Prop} [Decidable p] {P N : Prop} (q : p) (h : N) : if (!decide p) = true then P else N := by rw [if_neg (by simpa using q)]; exact h
theorem ite_ndn {p : Prop} [Decidable p] {P N : Prop} (q : ¬p) (h : P) : if (!decide p) = true then P else N := by rw [if_pos (by simpa using q)]; exact h
/-! look-ups -/
theorem get_last {s : Store} {d : Cell} : (s ++ [d])[s.length]? = some d := by simp
theorem get_push {s : Store} {i : Nat} {c d : Cell} (h : s[i]? = some c) : (s ++ [d])[i]? = some c := by
  rw [List.getElem?_append_left (List.getElem?_eq_some_iff.mp h).1]; exact h
theorem get_set {s : Store} {i : Nat} {c d : Cell} (h : s[i]? = some c) : (s.set i d)[i]? = some d := by
  rw [List.getElem?_set_self (List.getElem?_eq_some_iff.mp h).1]
theorem get_setL {s : Store} {i : Nat} {d : Cell} (h : i < s.length) : (s.set i d)[i]? = some d := List.getElem?_set_self h
theorem get_other {s : Store} {i j : Nat} {c d : Cell} (h : s[i]? = some c) (hn : j ≠ i) : (s.set j d)[i]? = some c := by
  rw [List.getElem?_set_ne hn]; exact h
theorem lt_of {s : Store} {i : Nat} {c : Cell} (h : s[i]? = some c) : i < s.length := (List.getElem?_eq_some_iff.mp h).1
theorem lt_ne {s : Store} {i : Nat} {c : Cell} (h : s[i]? = some c) : s.length ≠ i := Nat.ne_of_gt (List.getElem?_eq_some_iff.mp h).1
theorem cell_ne {s : Store} {i j : Nat} {c d : Cell} (h : s[i]? = some c) (h' : s[j]? = some d) (hn : c ≠ d) : i ≠ j := fun e => by
  subst e; rw [h] at h'; exact hn (Option.some.inj h')
/-! what is kept -/
theorem k_push {S : List Nat} {a b : Store} {c : Cell} (h : Keep S a b) : Keep S a (b ++ [c]) := h.trans .push
theorem k_set {S : List Nat} {a b : Store} {i : Nat} {c : Cell} (h : Keep S a b) (hi : i ∈ S) : Keep S a (b.set i c) := h.trans (.set hi)
theorem k_new {S : List Nat} {a b : Store} {i : Nat} {c : Cell} (h : Keep S a b) (hi : a.length ≤ i) : Keep S a (b.set i c) := ⟨by rw [List.length_set]; exact h.1, fun j hj hn => by
  rw [List.getElem?_set_ne (by omega)]; exact h.2 j hj hn⟩
theorem k_seq {S S' : List Nat} {a b c : Store} (h : Keep S a b) (h' : Keep S' b c) (hs : ∀ i ∈ S', i ∈ S ∨ a.length ≤ i) : Keep S a c := ⟨Nat.le_trans h.1 h'.1, fun j hj hn => by
  rw [h'.2 j (Nat.lt_of_lt_of_le hj h.1) fun z => (hs j z).elim hn fun w => absurd hj (by omega)]; exact h.2 j hj hn⟩
theorem k_nil {S : List Nat} {a b c : Store} (h : Keep S a b) (h' : Keep [] b c) : Keep S a c := k_seq h h' fun _ z => by cases z
end
section
variable {α : Type} {X : Exc → Store → Prop} {n : Slots → Store → Prop} {r : Val → Store → Prop} {k l : Slots → Store → Prop}
/-- a loop, by an invariant told of what is done -/
theorem for_l {xs : List α} {F : α → Val} {g : MG} {body : MS} {okp : Store → Prop} (Inv : List α → Slots → Store → Prop) (hok : ∀ d ρ st, Inv d ρ st → okp st)
    (step : ∀ d x rest ρ st, xs = d ++ x :: rest → Inv d ρ st → WpG (g (F x) ρ st) (fun ρ1 st1 => WpO (body ρ1 st1) ⟨Inv (d ++ [x]), r, n, Inv (d ++ [x]), X⟩))
    (fin : ∀ ρ st, Inv xs ρ st → n ρ st) {ρ : Slots} {st : Store} (h : Inv [] ρ st) : WpO (Ab.forM g body okp (xs.map F) ρ st) ⟨n, r, k, l, X⟩ := by
  simp only [uR, uO, uG] at *
  have key : ∀ (rest d : List α) (ρ : Slots) (st : Store), xs = d ++ rest → Inv d ρ st → Ab.WpO (Ab.forM g body okp (rest.map F) ρ st) ⟨n, r, k, l, X⟩ := by
    intro rest
    induction rest with
    | nil =>
      intro d ρ st e hI
      rw [List.append_nil] at e; subst e
      unfold Ab.forM
      rw [List.map_nil]; dsimp only
      rw [if_pos (hok _ _ _ hI)]
      exact fin ρ st hI
    | cons x rest ih =>
      intro d ρ st e hI
      rw [List.map_cons]
      unfold Ab.forM
      rw [if_pos (hok _ _ _ hI)]
      have hs := step d x rest ρ st e hI
      cases hg : g (F x) ρ st with
      | none => rw [hg] at hs; exact hs.elim
      | some p =>
        obtain ⟨ρ1, st1⟩ := p
        rw [hg] at hs
        dsimp only [Ab.WpG] at hs ⊢
        have e' : xs = (d ++ [x]) ++ rest := by rw [e]; simp
        cases q : body ρ1 st1 with
        | nx ρ2 st2 => rw [q] at hs; exact ih _ ρ2 st2 e' hs
        | ct ρ2 st2 => rw [q] at hs; exact ih _ ρ2 st2 e' hs
        | brk ρ2 st2 => rw [q] at hs; exact hs
        | ret w st2 => rw [q] at hs; exact hs
        | exc x ρ2 st2 => rw [q] at hs; exact hs
        | bad => rw [q] at hs; exact hs
  exact key xs [] ρ st rfl h
/-- a comprehension that only reads -/
theorem lc_pure {xs : List α} {F : α → Val} {g : MG} {t : MT} {elt : ME} {okp : Store → Prop} {ρ : Slots} {Q : Val → Store → Prop} {st : Store} (p : α → Bool) (f : α → Val) (hok : ∀ acc, okp (st ++ [.lst acc])) (hl : xs.length ≤ 100000)
    (step : ∀ x ∈ xs, ∀ acc, WpG (g (F x) ρ (st ++ [.lst acc])) (fun ρ1 st1 => st1 = st ++ [.lst acc] ∧ WpR (t ρ1 (st ++ [.lst acc])) (fun b s => b = p x ∧ s = st ++ [.lst acc] ∧ (b = true → WpR (elt ρ1 (st ++ [.lst acc])) (fun y s => y = f x ∧ s = st ++ [.lst acc]) fun _ _ => False)) fun _ _ => False))
    (q : New (.lst ((xs.filter p).map f)) st fun n s => Q (.ref n) s) : WpR (Ab.lcM g t elt okp st.length ρ (xs.map F) (st ++ [.lst []])) Q X := by
  simp only [uR, uO, uG] at *
  have key : ∀ (rest d : List α), xs = d ++ rest → ∀ acc : List Val, acc.length ≤ d.length → Ab.lcM g t elt okp st.length ρ (rest.map F) (st ++ [.lst acc]) = .ok (.ref st.length) (st ++ [.lst (acc ++ (rest.filter p).map f)]) := by
    intro rest
    induction rest with
    | nil =>
      intro d e acc ha
      unfold Ab.lcM
      rw [List.map_nil]; dsimp only
      rw [if_pos (hok _)]
      simp
    | cons x rest ih =>
      intro d e acc ha
      have e' : xs = (d ++ [x]) ++ rest := by rw [e]; simp
      have hlen : xs.length = d.length + (rest.length + 1) := by rw [e]; simp
      rw [List.map_cons]
      unfold Ab.lcM
      rw [if_pos (hok _)]
      have hs := step x (by rw [e]; simp) acc
      cases hg : g (F x) ρ (st ++ [.lst acc]) with
      | none => rw [hg] at hs; exact hs.elim
      | some pr =>
        obtain ⟨ρ1, st1⟩ := pr
        rw [hg] at hs
        obtain ⟨rfl, hs⟩ := hs
        dsimp only
        cases ht : t ρ1 (st ++ [.lst acc]) with
        | bad => rw [ht] at hs; exact hs.elim
        | exc e s => rw [ht] at hs; exact hs.elim
        | ok b s =>
          rw [ht] at hs
          obtain ⟨hb, rfl, hs⟩ := hs
          dsimp only [R.noX, R.bind]
          cases b with
          | false =>
            rw [if_neg Bool.false_ne_true, ih _ e' acc (by simp; omega), List.filter_cons, ← hb]
            rfl
          | true =>
            rw [if_pos rfl]
            have hs := hs rfl
            cases hel : elt ρ1 (st ++ [.lst acc]) with
            | bad => rw [hel] at hs; exact hs.elim
            | exc e s => rw [hel] at hs; exact hs.elim
            | ok y s =>
              rw [hel] at hs
              obtain ⟨rfl, rfl⟩ := hs
              dsimp only [R.noX, R.bind]
              rw [get_last]; dsimp only
              rw [if_pos (by rw [sizeLine_eq]; omega)]
              rw [show (st ++ [Cell.lst acc]).set st.length (.lst (acc ++ [f x])) = st ++ [Cell.lst (acc ++ [f x])] by simp]
              rw [ih _ e' _ (by simp; omega), List.filter_cons, ← hb]
              simp
  rw [key xs [] rfl [] (Nat.zero_le _)]
  exact q.at
theorem lc_map {xs : List α} {F : α → Val} {g : MG} {elt : ME} {okp : Store → Prop} {ρ : Slots} {Q : Val → Store → Prop} {st : Store} (f : α → Val) (hok : ∀ acc, okp (st ++ [.lst acc])) (hl : xs.length ≤ 100000)
    (step : ∀ x ∈ xs, ∀ acc, WpG (g (F x) ρ (st ++ [.lst acc])) (fun ρ1 st1 => st1 = st ++ [.lst acc] ∧ WpR (elt ρ1 (st ++ [.lst acc])) (fun y s => y = f x ∧ s = st ++ [.lst acc]) fun _ _ => False))
    (q : New (.lst (xs.map f)) st fun n s => Q (.ref n) s) : WpR (Ab.lcM g Se.mYes elt okp st.length ρ (xs.map F) (st ++ [.lst []])) Q X := by
  refine lc_pure (fun _ => true) f hok hl (fun x hx acc => ?_) ?_
  · have h := step x hx acc
    simp only [uR, uG] at h ⊢
    cases hg : g (F x) ρ (st ++ [.lst acc]) with
    | none => rw [hg] at h; exact h.elim
    | some pr =>
      rw [hg] at h
      exact ⟨h.1, rfl, rfl, fun _ => h.2⟩
  · rw [List.filter_eq_self.mpr (fun _ _ => rfl)]; exact q
end
/-! shapes of goals that the steppers close -/
section
variable {α : Type} {Q : Val → Store → Prop} {QA : α → Store → Prop} {X X' : Exc → Store → Prop} {st : Store} {P : Prop}
theorem len_and {xs : List Val} (h : Nat.ble xs.length 100000 = true) (q : P) : xs.length ≤ 100000 ∧ P := ⟨Nat.le_of_ble_eq_true h, q⟩
theorem ex_par {P : Val → Val → Prop} {a b : Val} (q : P a b) : ∃ v w, [a, b] = [v, w] ∧ P v w := ⟨a, b, rfl, q⟩
theorem ex_chain {P : Int → Int → Int → Prop} {i j k : Int} (q : P i j k) : ∃ i' j' k' : Int, Val.int i = .int i' ∧ Val.int j = .int j' ∧ Val.int k = .int k' ∧ st = st ∧ P i' j' k' := ⟨i, j, k, rfl, rfl, rfl, rfl, q⟩
theorem ex_meth {P : MF → Prop} {tbl : List (Nat × MF)} {x : Val} {C : Nat} {mf : MF} (h : Ab.clsAt st x = some C) (h2 : tbl.lookup C = some mf) (q : P mf) : ∃ C mf, Ab.clsAt st x = some C ∧ tbl.lookup C = some mf ∧ P mf := ⟨C, mf, h, h2, q⟩
theorem ex_fld {P : Nat → Nat → List (Nat × Val) → Prop} {cs : List Nat} {n C : Nat} {fs : List (Nat × Val)} (h : st[n]? = some (.ins C fs)) (hC : cs.contains C = true) (hl : Nat.blt fs.length 1000 = true) (q : P n C fs) : ∃ nn C fs, Val.ref n = .ref nn ∧ st[nn]? = some (.ins C fs) ∧ C ∈ cs ∧ fs.length < 1000 ∧ P nn C fs := ⟨n, C, fs, rfl, h, by simpa using hC, Nat.lt_of_lt_of_le (Nat.lt_succ_self _) (Nat.le_of_ble_eq_true hl), q⟩
theorem v_fld' {cs : List Nat} {f n C : Nat} {fs : List (Nat × Val)} {w : Val} (h : st[n]? = some (.ins C fs)) (hC : cs.contains C = true) (hf : fs.lookup f = some w) (q : Q w st) : WpR (vFld cs f (.ref n) st) Q X := v_fld h (by simpa using hC) hf q
theorem ex_subL {P : Nat → Int → List Val → Nat → Prop} {i : Nat} {z : Int} {xs : List Val} {j : Nat} (h : st[i]? = some (.lst xs)) (hj : L2.ixN xs.length z = some j) (q : P i z xs j) : ∃ nn z' xs j, Val.ref i = .ref nn ∧ Val.int z = .int z' ∧ st[nn]? = some (.lst xs) ∧ L2.ixN xs.length z' = some j ∧ P nn z' xs j := ⟨i, z, xs, j, rfl, rfl, h, hj, q⟩
theorem ex_subD {P : Nat → Key → List (Key × Val) → Prop} {i : Nat} {s : Str} {kvs : List (Key × Val)} (h : st[i]? = some (.dct kvs)) (hl : Nat.blt kvs.length 1000 = true) (q : P i (.inr s) kvs) : ∃ nn z kvs, Val.ref i = .ref nn ∧ Ab.keyW (.str s) = some z ∧ st[nn]? = some (.dct kvs) ∧ kvs.length < 1000 ∧ P nn z kvs := ⟨i, .inr s, kvs, rfl, rfl, h, Nat.lt_of_lt_of_le (Nat.lt_succ_self _) (Nat.le_of_ble_eq_true hl), q⟩
theorem ex_items {P : Nat → List (Key × Val) → Prop} {i : Nat} {kvs : List (Key × Val)} (h : st[i]? = some (.dct kvs)) (q : P i kvs) : ∃ n kvs, Val.ref i = .ref n ∧ st[n]? = some (.dct kvs) ∧ P n kvs := ⟨i, kvs, rfl, h, q⟩
theorem ex_key {P : Key → Prop} {s : Str} (q : P (.inr s)) : ∃ k, Ab.keyW (.str s) = some k ∧ P k := ⟨_, rfl, q⟩
theorem ex_seqL {i : Nat} {xs : List Val} {P : List Val × (Store → Prop) → Prop} (h : st[i]? = some (.lst xs)) (q : P (xs, fun st' => seqAt st' i = some xs)) : ∃ p, Ab.itemsOf st (.ref i) = some p ∧ P p := ⟨_, items_lst h, q⟩
theorem ex_seqT {xs : List Val} {P : List Val × (Store → Prop) → Prop} (q : P (xs, fun _ => True)) : ∃ p, Ab.itemsOf st (.tup xs) = some p ∧ P p := ⟨_, rfl, q⟩
theorem ex_enumT {xs : List Val} {P : List Val → (Store → Prop) → Prop} (q : P xs fun _ => True) : ∃ xs' okp, Ab.itemsOf st (.tup xs) = some (xs', okp) ∧ P xs' okp := ⟨_, _, rfl, q⟩
theorem ex_zipT {xs ys : List Val} {P : List Val → (Store → Prop) → List Val → (Store → Prop) → Prop} (q : P xs (fun _ => True) ys fun _ => True) : ∃ xs' okp ys' okq, Ab.itemsOf st (.tup xs) = some (xs', okp) ∧ Ab.itemsOf st (.tup ys) = some (ys', okq) ∧ P xs' okp ys' okq := ⟨_, _, _, _, rfl, rfl, q⟩
theorem ex_isiL {i : Nat} {xs : List Val} {P : Ab.Kd → Prop} (h : st[i]? = some (.lst xs)) (q : P (.t .list)) : ∃ k, Ab.kindW st (.ref i) = some k ∧ P k := ⟨_, by unfold Ab.kindW; dsimp only; rw [h], q⟩
theorem ex_starT {xs : List Val} {P : List Val → Prop} (q : P xs) : ∃ xs', Ab.itemsW st (.tup xs) = some xs' ∧ P xs' := ⟨_, rfl, q⟩
theorem ex_starL {i : Nat} {xs : List Val} {P : List Val → Prop} (h : st[i]? = some (.lst xs)) (q : P xs) : ∃ xs', Ab.itemsW st (.ref i) = some xs' ∧ P xs' := ⟨_, Ab.seqAt_lst h, q⟩
theorem ex_range1 {j : Int} {P : Int → Prop} (h : -(2 ^ 62) ≤ j ∧ j < 2 ^ 62) (q : P j) : ∃ j' : Int, [Val.int j] = [.int j'] ∧ (-(2 ^ 62) ≤ j' ∧ j' < 2 ^ 62) ∧ P j' := ⟨j, rfl, h, q⟩
theorem v_inO {C n : Nat} {mf : MF} {x : Val} {fs : List (Nat × Val)} (h : st[n]? = some (.ins C fs)) (q : WpR (mf [.ref n, x] st) (fun v s => ∃ c : Bool, v = .bl c ∧ Q (.bl c) s) fun _ _ => False) : WpR (Ab.vInO C mf x (.ref n) st) Q X := v_tru (is_ins h) q
theorem v_ninO {C n : Nat} {mf : MF} {x : Val} {fs : List (Nat × Val)} (h : st[n]? = some (.ins C fs)) (q : WpR (mf [.ref n, x] st) (fun v s => ∃ c : Bool, v = .bl c ∧ Q (.bl (!c)) s) fun _ _ => False) : WpR (Ab.vNinO C mf x (.ref n) st) Q X := v_tru (is_ins h) q
theorem v_eqO {C n m : Nat} {mf : MF} {fs gs : List (Nat × Val)} (h : st[n]? = some (.ins C fs)) (h' : st[m]? = some (.ins C gs)) (q : WpR (mf [.ref n, .ref m] st) (fun v s => ∃ c : Bool, v = .bl c ∧ Q (.bl c) s) fun _ _ => False) : WpR (Ab.vEqO C mf (.ref n) (.ref m) st) Q X := by
  unfold Ab.vEqO
  rw [if_pos (is_ins h')]
  exact v_tru (is_ins h) q
theorem v_neO {C n m : Nat} {mf : MF} {fs gs : List (Nat × Val)} (h : st[n]? = some (.ins C fs)) (h' : st[m]? = some (.ins C gs)) (q : WpR (mf [.ref n, .ref m] st) (fun v s => ∃ c : Bool, v = .bl c ∧ Q (.bl (!c)) s) fun _ _ => False) : WpR (Ab.vNeO C mf (.ref n) (.ref m) st) Q X := by
  unfold Ab.vNeO
  rw [if_pos (is_ins h')]
  exact v_tru (is_ins h) q
theorem v_sumT {ns : List Int} (q : Q (.int ns.sum) st) : WpR (Ab.bSumT [.tup (ns.map .int)] st) Q X := by
  simp only [uR] at *
  dsimp only [Ab.bSumT]; rw [Ab.asInts_map]; exact q
theorem ex_isiO {n C : Nat} {fs : List (Nat × Val)} {tbl : List (Nat × Bool)} {b : Bool} {P : Bool → Prop} (h : st[n]? = some (.ins C fs)) (hb : tbl.lookup C = some b) (q : P b) : ∃ b, Ab.isiW tbl st (.ref n) = some b ∧ P b :=
  ⟨b, by unfold Ab.isiW Ab.clsAt; dsimp only; rw [h]; exact hb, q⟩
theorem ex_isiT {xs : List Val} {tbl : List (Nat × Bool)} {P : Bool → Prop} (q : P false) : ∃ b, Ab.isiW tbl st (.tup xs) = some b ∧ P b := ⟨false, rfl, q⟩
theorem two_ins {n m C : Nat} {fs gs : List (Nat × Val)} (h : st[n]? = some (.ins C fs)) (h' : st[m]? = some (.ins C gs)) (q : P) : Ab.isIns C st (.ref n) = true ∧ Ab.isIns C st (.ref m) = true ∧ P := ⟨is_ins h, is_ins h', q⟩
theorem one_ins {n C : Nat} {fs : List (Nat × Val)} (h : st[n]? = some (.ins C fs)) (q : P) : Ab.isIns C st (.ref n) = true ∧ P := ⟨is_ins h, q⟩
theorem ex_int {P : Int → Prop} {i : Int} (h : 0 ≤ i ∧ i < 1000000) (q : P i) : ∃ j, Val.int i = .int j ∧ 0 ≤ j ∧ j < 1000000 ∧ P j := ⟨i, rfl, h.1, h.2, q⟩
theorem v_repT {xs : List Val} {k : Int} (h : xs ≠ [] ∧ 1 ≤ k ∧ k ≤ 1000 ∧ xs.length ≤ 1000) (q : Q (.tup (Ab.repW' k.toNat xs)) st) : WpR (Ab.vRepT (.tup xs) (.int k) st) Q X := by
  simp only [uR, uO, uG] at *
  dsimp only [Ab.vRepT]; rw [if_pos h]; exact q
theorem v_repL {i : Nat} {xs : List Val} {k : Int} (hx : st[i]? = some (.lst xs)) (h : -1000 ≤ k ∧ k ≤ 1000 ∧ xs.length ≤ 1000) (q : New (.lst (Ab.repW' k.toNat xs)) st fun n s => Q (.ref n) s) : WpR (Ab.vRepL (.ref i) (.int k) st) Q X := by
  simp only [uR, uO, uG] at *
  dsimp only [Ab.vRepL]; rw [hx]; dsimp only; rw [if_pos h]; exact q.at
theorem nf0 {a x : Option Val} {l : Slots} {n : Slots → Prop} (q : n (x :: l)) : NF (a :: l) 0 x n := q
theorem nf1 {a x : Option Val} {l : Slots} {i : Nat} {n : Slots → Prop} (q : NF l i x fun l => n (a :: l)) : NF (a :: l) (i + 1) x n := q
theorem nf4 {a b c d x : Option Val} {l : Slots} {i : Nat} {n : Slots → Prop} (q : NF l i x fun l => n (a :: b :: c :: d :: l)) : NF (a :: b :: c :: d :: l) (i + 4) x n := q
theorem isb_t {b : Bool} {P : Bool → Prop} (h : b = true) (q : P true) : TruB b P := by subst h; exact q
theorem isb_f {b : Bool} {P : Bool → Prop} (h : b = false) (q : P false) : TruB b P := by subst h; exact q
theorem ex_isi {w : Val} {k : Ab.Kd} {P : Ab.Kd → Prop} (h : Ab.kindW st w = some k) (q : P k) : ∃ k, Ab.kindW st w = some k ∧ P k := ⟨k, h, q⟩
theorem and_wp {s : Store} {r : R α} (q : WpR r QA X) : s = s ∧ WpR r QA X := ⟨rfl, q⟩
theorem v_pow6 (q : Q (.int 1000000) st) : WpR (Ab.vPow (.int 10) (.int 6) st) Q X := v_pow (by decide) rfl q
theorem v_pow9 (q : Q (.int 1000000000) st) : WpR (Ab.vPow (.int 10) (.int 9) st) Q X := v_pow (by decide) rfl q
theorem v_pow18 (q : Q (.int 1000000000000000000) st) : WpR (Ab.vPow (.int 10) (.int 18) st) Q X := v_pow (by decide) rfl q
theorem new_by {d : Cell} {P : Nat → Store → Prop} (q : ∀ (n : Nat) (s : Store), s[n]? = some d → Keep [] st s → st.length ≤ n → P n s) : New d st P := q
theorem wr_by {n : Nat} {d : Cell} {P : Store → Prop} (q : ∀ s : Store, s[n]? = some d → Keep [n] st s → P s) : Wr n d st P := q
theorem ne_new {i n : Nat} {c : Cell} (hn : st.length ≤ n) (h : st[i]? = some c) : n ≠ i := fun e => by
  have := lt_of h
  omega
theorem ne_new' {i n : Nat} {c : Cell} (hn : st.length ≤ n) (h : st[i]? = some c) : i ≠ n := (ne_new hn h).symm
theorem nin_cons {i a : Nat} {S : List Nat} (h : i ≠ a) (t : i ∉ S) : i ∉ a :: S := fun z => (List.mem_cons.mp z).elim h t
theorem hs_nil {S : List Nat} {m : Nat} : ∀ i ∈ ([] : List Nat), i ∈ S ∨ m ≤ i := fun _ z => by cases z
theorem hs_cons {S S' : List Nat} {m n : Nat} (h : n ∈ S ∨ m ≤ n) (t : ∀ i ∈ S', i ∈ S ∨ m ≤ i) : ∀ i ∈ n :: S', i ∈ S ∨ m ≤ i := fun i z => (List.mem_cons.mp z).elim (fun e => by subst e; exact h) (t i)
theorem k_len {S : List Nat} {a b c : Store} (h : Keep S b c) (h0 : a.length ≤ b.length) : a.length ≤ c.length := Nat.le_trans h0 h.1
theorem chk_lst {kvs : List (Key × Val)} {n : Nat} (h : st[n]? = some (.dct [])) (hl : Nat.ble kvs.length 15 = true) (q : P) : st[n]? = some (.dct []) ∧ kvs.length ≤ 15 ∧ P := ⟨h, Nat.le_of_ble_eq_true hl, q⟩
/-- what is told of a run is used -/
theorem via {r : R α} {Q' : α → Store → Prop} (h : WpR r Q' X') (q : ∀ a s, Q' a s → QA a s) (x : ∀ e s, X' e s → X e s) : WpR r QA X := by
  simp only [uR, uO, uG] at *
  exact Ab.WpR.mono h q x
theorem via0 {r : R α} {Q' : α → Store → Prop} (h : WpR r Q' fun _ _ => False) (q : ∀ a s, Q' a s → QA a s) : WpR r QA X := by
  simp only [uR, uO, uG] at *
  exact Ab.WpR.mono h q fun _ _ h => h.elim
end
end Vc

set_option Elab.async false
set_option linter.all false
set_option maxRecDepth 100000
set_option maxHeartbeats 1000000
/-! Ab: plain facts for the plain laws: lists told by data. -/
namespace Vc
open PySem PySem.Spec PyProof.Rows L2
open Ab (Val Cell Store Slots R O ME MT MA MS MF MG MGs MI MO Chk Wish Exc seqAt Keep vIx vFld vAdd New Wr)
section
variable {α β : Type} {Q : Val → Store → Prop} {X : Exc → Store → Prop} {st : Store}
theorem enum_map (f : α → Val) : ∀ (xs : List α) (k : Nat), Ab.enumFrom k (xs.map f) = (xs.zipIdx k).map fun p => .tup [.int p.2, f p.1]
  | [], _ => rfl
  | x :: xs, k => by rw [List.map_cons, Ab.enumFrom, List.zipIdx_cons, List.map_cons, enum_map f xs (k + 1)]
theorem zip_map (f : α → Val) (g : β → Val) : ∀ (xs : List α) (ys : List β), Ab.zipW (xs.map f) (ys.map g) = (xs.zip ys).map fun p => .tup [f p.1, g p.2]
  | [], _ => by simp [Ab.zipW]
  | _ :: _, [] => by simp [Ab.zipW]
  | x :: xs, y :: ys => by rw [List.map_cons, List.map_cons, Ab.zipW, List.zip_cons_cons, List.map_cons, zip_map f g xs ys]
theorem idx_split {xs : List α} {d rest : List (α × Nat)} {p : α × Nat} (h : xs.zipIdx = d ++ p :: rest) : xs[d.length]? = some p.1 ∧ p.2 = d.length ∧ d.map (·.1) = xs.take d.length ∧ d.length < xs.length := by
  have h0 : xs.zipIdx[d.length]? = some p := by rw [h]; simp
  rw [List.getElem?_zipIdx] at h0
  have hl : d.length < xs.length := by
    have := congrArg List.length h
    simp at this
    omega
  have h1 : d.map (·.1) = xs.take d.length := by
    have := congrArg (fun z => (z.map (·.1)).take d.length) h
    simp only [List.zipIdx_map_fst] at this
    rw [this]
    simp
  cases e : xs[d.length]? with
  | none => rw [e] at h0; cases h0
  | some x =>
    rw [e] at h0
    have := Option.some.inj h0
    subst this
    exact ⟨rfl, by simp, h1, hl⟩
theorem zip_split {xs : List α} {ys : List β} {d rest : List (α × β)} {p : α × β} (h : xs.zip ys = d ++ p :: rest) : xs[d.length]? = some p.1 ∧ ys[d.length]? = some p.2 := by
  have h0 : (xs.zip ys)[d.length]? = some p := by rw [h]; simp
  rw [List.getElem?_zip_eq_some] at h0
  exact h0
theorem map_split {xs : List α} {d rest : List α} {x : α} (h : xs = d ++ x :: rest) : xs[d.length]? = some x ∧ d = xs.take d.length ∧ d.length < xs.length := by
  subst h; simp
theorem range_split {n : Nat} {d rest : List Nat} {x : Nat} (h : List.range n = d ++ x :: rest) : x = d.length ∧ d = List.range d.length ∧ x < n := by
  have hl := congrArg List.length h
  simp at hl
  have h0 : (List.range n)[d.length]? = some x := by rw [h]; simp
  rw [List.getElem?_range (by omega)] at h0
  have h1 : d = (List.range n).take d.length := by rw [h]; simp
  have hx : x = d.length := (Option.some.inj h0).symm
  refine ⟨hx, ?_, by omega⟩
  rw [h1]
  simp [List.take_range]
theorem cut_take (xs : List α) (i : Nat) : Ab.cut xs none (some (i : Int)) = xs.take i := by
  unfold Ab.cut
  rw [HT.sIx_none, HT.sIx_nat, List.drop_zero, Nat.sub_zero]
  by_cases h : i ≤ xs.length
  · rw [Nat.min_eq_left h]
  · rw [Nat.min_eq_right (by omega), List.take_of_length_le (Nat.le_refl _), List.take_of_length_le (by omega)]
theorem cut_drop (xs : List α) (i : Nat) : Ab.cut xs (some (i : Int)) none = xs.drop i := by
  unfold Ab.cut
  rw [HT.sIx_none, HT.sIx_nat]
  by_cases h : i ≤ xs.length
  · rw [Nat.min_eq_left h, List.take_of_length_le (by rw [List.length_drop]; omega)]
  · rw [Nat.min_eq_right (by omega), List.drop_of_length_le (Nat.le_refl _), List.drop_of_length_le (by omega)]; simp
theorem v_allL {i : Nat} {bs : List Bool} (h : st[i]? = some (.lst (bs.map .bl))) (q : Q (.bl (bs.all id)) st) : WpR (Ab.bAll [.ref i] st) Q X := by
  simp only [uR, uO, uG] at *
  dsimp only [Ab.bAll, Ab.ofBools]; rw [Ab.seqAt_lst h]; dsimp only; rw [Ab.asBools_map]; exact q
theorem v_anyL {i : Nat} {bs : List Bool} (h : st[i]? = some (.lst (bs.map .bl))) (q : Q (.bl (bs.any id)) st) : WpR (Ab.bAny [.ref i] st) Q X := by
  simp only [uR, uO, uG] at *
  dsimp only [Ab.bAny, Ab.ofBools]; rw [Ab.seqAt_lst h]; dsimp only; rw [Ab.asBools_map]; exact q
theorem v_max1L {i : Nat} {ns : List Int} (h : st[i]? = some (.lst (ns.map .int))) (hn : ns ≠ []) (q : Q (.int (Ab.maxI ns)) st) : WpR (Ab.bMax1 [.ref i] st) Q X := by
  simp only [uR, uO, uG] at *
  dsimp only [Ab.bMax1, Ab.ofInts]; rw [Ab.seqAt_lst h]; dsimp only; rw [Ab.asInts_map]; dsimp only; rw [if_neg hn]; exact q
theorem v_sumL {i : Nat} {ns : List Int} (h : st[i]? = some (.lst (ns.map .int))) (q : Q (.int ns.sum) st) : WpR (Ab.bSum [.ref i] st) Q X := by
  simp only [uR, uO, uG] at *
  dsimp only [Ab.bSum, Ab.ofInts]; rw [Ab.seqAt_lst h]; dsimp only; rw [Ab.asInts_map]; exact q
theorem inW_str (a : Str) (xs : List Str) : Ab.inW (.str a) (xs.map .str) = decide (a ∈ xs) := by
  unfold Ab.inW
  induction xs with
  | nil => simp
  | cons x xs ih =>
    rw [List.map_cons, List.any_cons, ih]
    simp only [Ab.eqW, List.mem_cons, Bool.decide_or]
    congr 1
    by_cases h : x = a
    · subst h; simp
    · rw [beq_eq_false_iff_ne.mpr h, decide_eq_false fun e => h e.symm]
theorem flat_str (xs : List Str) : (xs.map Val.str).all Ab.flatW = true := by
  rw [List.all_map]; exact List.all_eq_true.mpr fun _ _ => rfl
theorem place_str (a : Str) (xs : List Str) : Ab.placeW (.str a) (xs.map .str) = if a ∈ xs then some (xs.idxOf a) else none := by
  induction xs with
  | nil => simp [Ab.placeW]
  | cons x xs ih =>
    rw [List.map_cons, Ab.placeW, ih]
    by_cases h : x = a
    · subst h; simp [Ab.eqW]
    · have e : Ab.eqW (.str x) (.str a) = false := beq_eq_false_iff_ne.mpr h
      rw [if_neg (by rw [e]; exact Bool.false_ne_true), List.idxOf_cons, beq_eq_false_iff_ne.mpr h, cond_false]
      have m : a ∈ x :: xs ↔ a ∈ xs := ⟨fun z => (List.mem_cons.mp z).elim (fun e => absurd e.symm h) id, fun z => List.mem_cons_of_mem _ z⟩
      by_cases hm : a ∈ xs
      · rw [if_pos hm, if_pos (m.mpr hm)]; rfl
      · rw [if_neg hm, if_neg fun z => hm (m.mp z)]; rfl
theorem v_idxL {i : Nat} {a : Str} {xs : List Str} (h : st[i]? = some (.lst (xs.map .str))) (ha : a ∈ xs) (q : Q (.int (xs.idxOf a : Nat)) st) : WpR (Ab.vIndex (.ref i) [.str a] st) Q X := by
  simp only [uR, uO, uG] at *
  dsimp only [Ab.vIndex]; rw [Ab.seqAt_lst h]; dsimp only
  rw [flat_str, if_pos (by rfl), place_str, if_pos ha]; exact q
theorem v_inLs {a : Str} {i : Nat} {ys : List Str} (h : st[i]? = some (.lst (ys.map .str))) (q : Q (.bl (decide (a ∈ ys))) st) : WpR (Ab.vIn (.str a) (.ref i) st) Q X := v_inL rfl h (flat_str ys) (by rw [inW_str]; exact q)
theorem v_ninLs {a : Str} {i : Nat} {ys : List Str} (h : st[i]? = some (.lst (ys.map .str))) (q : Q (.bl (!decide (a ∈ ys))) st) : WpR (Ab.vNotIn (.str a) (.ref i) st) Q X := v_ninL rfl h (flat_str ys) (by rw [inW_str]; exact q)
theorem v_inTs {a : Str} {ys : List Str} (q : Q (.bl (decide (a ∈ ys))) st) : WpR (Ab.vIn (.str a) (.tup (ys.map .str)) st) Q X := v_inT rfl (flat_str ys) (by rw [inW_str]; exact q)
theorem v_ninTs {a : Str} {ys : List Str} (q : Q (.bl (!decide (a ∈ ys))) st) : WpR (Ab.vNotIn (.str a) (.tup (ys.map .str)) st) Q X := v_ninT rfl (flat_str ys) (by rw [inW_str]; exact q)
theorem v_ixTn {xs : List α} {f : α → Val} {i : Nat} {x : α} (h : xs[i]? = some x) (q : Q (f x) st) : WpR (vIx (.tup (xs.map f)) (.int i) st) Q X := v_ixT (atI_nat (by rw [List.getElem?_map, h]; rfl)) q
theorem v_ixLn {n : Nat} {xs : List α} {f : α → Val} {i : Nat} {x : α} (hs : st[n]? = some (.lst (xs.map f))) (h : xs[i]? = some x) (q : Q (f x) st) : WpR (vIx (.ref n) (.int i) st) Q X := v_ixL hs (atI_nat (by rw [List.getElem?_map, h]; rfl)) q
theorem v_lenT {xs : List α} {f : α → Val} (q : Q (.int xs.length) st) : WpR (Ab.bLen [.tup (xs.map f)] st) Q X := by
  simp only [uR] at *
  show Q (.int (xs.map f).length) st
  rw [List.length_map]; exact q
theorem v_lenLn {n : Nat} {xs : List α} {f : α → Val} (hs : st[n]? = some (.lst (xs.map f))) (q : Q (.int xs.length) st) : WpR (Ab.bLen [.ref n] st) Q X := v_lenL hs (by rw [List.length_map]; exact q)
/-- from and to the plain wish -/
theorem of_ab {r : R α} {QA : α → Store → Prop} (h : Ab.WpR r QA X) : WpR r QA X := by rw [uR]; exact h
theorem to_ab {r : R α} {QA : α → Store → Prop} (h : WpR r QA X) : Ab.WpR r QA X := by rwa [uR] at h
/-! equality of nested data -/
theorem deep_map {f : α → Val} {g : α → PyData} {n : Nat} : ∀ {xs : List α}, (∀ x ∈ xs, Ab.deep st n (f x) = some (g x)) → Ab.mapO (Ab.deep st n) (xs.map f) = some (xs.map g)
  | [], _ => rfl
  | x :: xs, h => by
    rw [List.map_cons, Ab.mapO, h x (by simp), deep_map (xs := xs) fun y hy => h y (by simp [hy])]; rfl
theorem deep_tup {f : α → Val} {g : α → PyData} {n : Nat} {xs : List α} (h : ∀ x ∈ xs, Ab.deep st n (f x) = some (g x)) : Ab.deep st (n + 1) (.tup (xs.map f)) = some (.tuple (xs.map g)) := by
  rw [Ab.deep, deep_map h]; rfl
theorem deep_ints {n : Nat} {xs : List Int} : Ab.deep st (n + 2) (.tup (xs.map .int)) = some (.tuple (xs.map .int)) := deep_tup fun x _ => by rw [Ab.deep]
theorem eqv_ints : ∀ xs ys : List Int, PyData.eqvAll (xs.map .int) (ys.map .int) = decide (xs = ys)
  | [], [] => rfl
  | [], _ :: _ => rfl
  | _ :: _, [] => rfl
  | x :: xs, y :: ys => by
    rw [List.map_cons, List.map_cons, PyData.eqvAll, eqv_ints xs ys]
    simp only [PyData.eqv, List.cons.injEq, Bool.decide_and]
    congr 1
theorem v_eqTT {xs ys : List Val} {d e : PyData} (h1 : Ab.deep st 16 (.tup xs) = some d) (h2 : Ab.deep st 16 (.tup ys) = some e) (q : Q (.bl (PyData.eqv d e)) st) : WpR (Ab.vEq (.tup xs) (.tup ys) st) Q X := by
  simp only [uR, uO, uG] at *
  show Ab.WpR (match Ab.deep st 16 (.tup xs), Ab.deep st 16 (.tup ys) with | some d, some e => .ok (.bl (PyData.eqv d e)) st | _, _ => .bad) Q X
  rw [h1, h2]; exact q
theorem v_neTT {xs ys : List Val} {d e : PyData} (h1 : Ab.deep st 16 (.tup xs) = some d) (h2 : Ab.deep st 16 (.tup ys) = some e) (q : Q (.bl (!PyData.eqv d e)) st) : WpR (Ab.vNe (.tup xs) (.tup ys) st) Q X := by
  simp only [uR, uO, uG] at *
  show Ab.WpR (match Ab.deep st 16 (.tup xs), Ab.deep st 16 (.tup ys) with | some d, some e => .ok (.bl (!PyData.eqv d e)) st | _, _ => .bad) Q X
  rw [h1, h2]; exact q
theorem v_eqTI {xs ys : List Int} (q : Q (.bl (decide (xs = ys))) st) : WpR (Ab.vEq (.tup (xs.map .int)) (.tup (ys.map .int)) st) Q X := v_eqTT deep_ints deep_ints (by
  show Q (.bl (PyData.eqvAll _ _)) st
  rw [eqv_ints]; exact q)
theorem v_neTI {xs ys : List Int} (q : Q (.bl (!decide (xs = ys))) st) : WpR (Ab.vNe (.tup (xs.map .int)) (.tup (ys.map .int)) st) Q X := v_neTT deep_ints deep_ints (by
  show Q (.bl (!PyData.eqvAll _ _)) st
  rw [eqv_ints]; exact q)
theorem v_eqNN (q : Q (.bl true) st) : WpR (Ab.vEq .non .non st) Q X := by
  simp only [uR] at *
  show Ab.WpR (match Ab.deep st 16 .non, Ab.deep st 16 .non with | some d, some e => .ok (.bl (PyData.eqv d e)) st | _, _ => .bad) Q X
  rw [show Ab.deep st 16 .non = some .none from rfl]; exact q
/-- a tuple of data against () -/
theorem v_eqT0 {f : α → Val} {g : α → PyData} {xs : List α} (h : ∀ x ∈ xs, Ab.deep st 15 (f x) = some (g x)) (q : Q (.bl (decide (xs = []))) st) : WpR (Ab.vEq (.tup (xs.map f)) (.tup []) st) Q X := v_eqTT (deep_tup h) rfl (by
  show Q (.bl (PyData.eqvAll (xs.map g) [])) st
  cases xs with
  | nil => exact q
  | cons x xs =>
    rw [List.map_cons, PyData.eqvAll]
    rwa [decide_eq_false (by simp)] at q)
theorem v_eqTI0 {xs : List Int} (q : Q (.bl (decide (xs = []))) st) : WpR (Ab.vEq (.tup (xs.map .int)) (.tup []) st) Q X := v_eqT0 (g := .int) (fun x _ => by rw [Ab.deep]) q
end
section
variable {α : Type} {X : Exc → Store → Prop} {Q : Val → Store → Prop} {st : Store}
theorem lc_new {g : MG} {t : MT} {elt : ME} {okp : Store → Prop} {ρ : Slots} {items : List Val} (q : New (.lst []) st fun D s => WpR (Ab.lcM g t elt okp D ρ items s) Q X) : WpR (Ab.lcM g t elt okp st.length ρ items (st ++ [.lst []])) Q X := by
  simp only [uR, uO, uG] at *
  exact q.at
/-- a comprehension without a test that may write, by an invariant -/
theorem lcY_l {xs : List α} {F : α → Val} {g : MG} {elt : ME} {okp : Store → Prop} {D : Nat} {ρ : Slots} (Inv : List α → List Val → Store → Prop) (hok : ∀ d acc s, Inv d acc s → okp s)
    (step : ∀ d x rest acc s, xs = d ++ x :: rest → Inv d acc s → s[D]? = some (.lst acc) → WpG (g (F x) ρ s) (fun ρ1 s1 => WpR (elt ρ1 s1) (fun y s3 => s3[D]? = some (.lst acc) ∧ acc.length < 100000 ∧ Wr D (.lst (acc ++ [y])) s3 fun s4 => Inv (d ++ [x]) (acc ++ [y]) s4) fun _ _ => False))
    (fin : ∀ acc s, Inv xs acc s → s[D]? = some (.lst acc) → Q (.ref D) s) (h : Inv [] [] st) (hD : st[D]? = some (.lst [])) : WpR (Ab.lcM g Se.mYes elt okp D ρ (xs.map F) st) Q X := by
  simp only [uR, uO, uG] at *
  have key : ∀ (rest d : List α) (acc : List Val) (s : Store), xs = d ++ rest → Inv d acc s → s[D]? = some (.lst acc) → Ab.WpR (Ab.lcM g Se.mYes elt okp D ρ (rest.map F) s) Q X := by
    intro rest
    induction rest with
    | nil =>
      intro d acc s e hI hs
      rw [List.append_nil] at e; subst e
      unfold Ab.lcM
      rw [List.map_nil]; dsimp only
      rw [if_pos (hok _ _ _ hI)]
      exact fin acc s hI hs
    | cons x rest ih =>
      intro d acc s e hI hs
      rw [List.map_cons]
      unfold Ab.lcM
      rw [if_pos (hok _ _ _ hI)]
      have h1 := step d x rest acc s e hI hs
      cases hg : g (F x) ρ s with
      | none => rw [hg] at h1; exact h1.elim
      | some p =>
        obtain ⟨ρ1, s1⟩ := p
        rw [hg] at h1
        dsimp only [Ab.WpG] at h1 ⊢
        rw [show Se.mYes ρ1 s1 = .ok true s1 from rfl]
        dsimp only [R.noX, R.bind]
        rw [if_pos rfl]
        cases q : elt ρ1 s1 with
        | bad => rw [q] at h1; exact h1.elim
        | exc x s2 => rw [q] at h1; exact h1.elim
        | ok y s3 =>
          rw [q] at h1
          obtain ⟨h2, h3, h4⟩ := h1
          dsimp only [R.noX, R.bind]
          rw [h2]; dsimp only
          rw [if_pos (by rw [sizeLine_eq]; omega)]
          exact ih (d ++ [x]) _ _ (by rw [e]; simp) (h4.at h2) (by rw [List.getElem?_set_self (lt_of h2)])
  exact key xs [] [] st rfl h hD
/-- a comprehension whose test never holds -/
theorem lc_none {xs : List α} {F : α → Val} {g : MG} {t : MT} {elt : ME} {okp : Store → Prop} {D : Nat} {ρ : Slots} (hok : ∀ s, Keep [] st s → okp s)
    (step : ∀ x ∈ xs, ∀ s, Keep [] st s → WpG (g (F x) ρ s) (fun ρ1 s1 => WpR (t ρ1 s1) (fun b s2 => b = false ∧ Keep [] s s2) fun _ _ => False))
    (q : ∀ s, Keep [] st s → Q (.ref D) s) : WpR (Ab.lcM g t elt okp D ρ (xs.map F) st) Q X := by
  simp only [uR, uO, uG] at *
  have key : ∀ (rest : List α) (s : Store), (∀ x ∈ rest, x ∈ xs) → Keep [] st s → Ab.WpR (Ab.lcM g t elt okp D ρ (rest.map F) s) Q X := by
    intro rest
    induction rest with
    | nil =>
      intro s _ k
      unfold Ab.lcM
      rw [List.map_nil]; dsimp only
      rw [if_pos (hok _ k)]
      exact q s k
    | cons x rest ih =>
      intro s hm k
      rw [List.map_cons]
      unfold Ab.lcM
      rw [if_pos (hok _ k)]
      have h1 := step x (hm x (by simp)) s k
      cases hg : g (F x) ρ s with
      | none => rw [hg] at h1; exact h1.elim
      | some p =>
        obtain ⟨ρ1, s1⟩ := p
        rw [hg] at h1
        dsimp only [Ab.WpG] at h1 ⊢
        cases q : t ρ1 s1 with
        | bad => rw [q] at h1; exact h1.elim
        | exc x s2 => rw [q] at h1; exact h1.elim
        | ok y s3 =>
          rw [q] at h1
          obtain ⟨rfl, h2⟩ := h1
          dsimp only [R.noX, R.bind]
          rw [if_neg Bool.false_ne_true]
          exact ih s3 (fun y hy => hm y (by simp [hy])) (k.trans h2)
  exact key xs st (fun _ h => h) .refl
theorem v_eq00 {a b : Nat} (h1 : st[a]? = some (.lst [])) (h2 : st[b]? = some (.lst [])) (q : Q (.bl true) st) : WpR (Ab.vEq (.ref a) (.ref b) st) Q X := by
  simp only [uR, uO, uG] at *
  have d : ∀ {n : Nat}, st[n]? = some (.lst []) → Ab.deep st 16 (.ref n) = some (.list []) := fun h => by rw [Ab.deep, Ab.seqAt_lst h]; rfl
  show Ab.WpR (match Ab.deep st 16 (.ref a), Ab.deep st 16 (.ref b) with | some d, some e => .ok (.bl (PyData.eqv d e)) st | _, _ => .bad) Q X
  rw [d h1, d h2]; exact q
/-- two values alike, down to a depth -/
def Alike (st : Store) : Nat → Val → Val → Prop
  | 0, _, _ => False
  | n + 1, x, y => match x, y with
    | .non, .non => True
    | .bl a, .bl b => a = b
    | .int a, .int b => a = b
    | .str a, .str b => a = b
    | .tup xs, .tup ys => xs.length = ys.length ∧ xs.length ≤ 100000 ∧ ∀ (i : Nat) (x y : Val), xs[i]? = some x → ys[i]? = some y → Alike st n x y
    | .ref a, .ref b => ∃ xs ys, st[a]? = some (.lst xs) ∧ st[b]? = some (.lst ys) ∧ xs.length = ys.length ∧ xs.length ≤ 100000 ∧ ∀ (i : Nat) (x y : Val), xs[i]? = some x → ys[i]? = some y → Alike st n x y
    | _, _ => False
theorem Alike.keep {st s : Store} (k : Keep [] st s) : ∀ {n : Nat} {x y : Val}, Alike st n x y → Alike s n x y
  | 0, _, _, h => h.elim
  | n + 1, x, y, h => by
    unfold Alike at h ⊢
    split at h <;> first | exact h | skip
    · exact ⟨h.1, h.2.1, fun i x y hx hy => Alike.keep k (h.2.2 i x y hx hy)⟩
    · obtain ⟨xs, ys, h1, h2, h3, h4, h5⟩ := h
      exact ⟨xs, ys, k.get h1 (by simp), k.get h2 (by simp), h3, h4, fun i x y hx hy => Alike.keep k (h5 i x y hx hy)⟩
theorem put_new {kvs : List (Key × Val)} {k : Key} {w : Val} (h : ∀ p ∈ kvs, p.1 ≠ k) : Ab.putW kvs k w = kvs ++ [(k, w)] := by
  unfold Ab.putW
  rw [if_neg]
  rw [List.any_eq_true]
  rintro ⟨p, hp, e⟩
  exact h p hp (by simpa using e)
/-- a dict comprehension that only reads, of names that differ -/
theorem dc_pure {xs : List α} {F : α → Val} {g : MG} {mk mv : ME} {okp : Store → Prop} {ρ : Slots} (kf : α → Str) (vf : α → Val) (nd : (xs.map kf).Nodup) (hok : ∀ acc, okp (st ++ [.dct acc])) (hl : xs.length ≤ 900)
    (step : ∀ x ∈ xs, ∀ acc, WpG (g (F x) ρ (st ++ [.dct acc])) (fun ρ1 st1 => st1 = st ++ [.dct acc] ∧ WpR (mk ρ1 (st ++ [.dct acc])) (fun y s => y = .str (kf x) ∧ s = st ++ [.dct acc] ∧ WpR (mv ρ1 (st ++ [.dct acc])) (fun z s => z = vf x ∧ s = st ++ [.dct acc]) fun _ _ => False) fun _ _ => False))
    (q : New (.dct (xs.map fun x => (.inr (kf x), vf x))) st fun n s => Q (.ref n) s) : WpR (Ab.dcM g Se.mYes mk mv okp st.length ρ (xs.map F) (st ++ [.dct []])) Q X := by
  simp only [uR, uG] at *
  have key : ∀ (rest d : List α), xs = d ++ rest → Ab.dcM g Se.mYes mk mv okp st.length ρ (rest.map F) (st ++ [.dct (d.map fun x => (.inr (kf x), vf x))]) = .ok (.ref st.length) (st ++ [.dct (xs.map fun x => (.inr (kf x), vf x))]) := by
    intro rest
    induction rest with
    | nil =>
      intro d e
      rw [List.append_nil] at e; subst e
      unfold Ab.dcM
      rw [List.map_nil]; dsimp only
      rw [if_pos (hok _)]
    | cons x rest ih =>
      intro d e
      have e' : xs = (d ++ [x]) ++ rest := by rw [e]; simp
      have hlen : xs.length = d.length + (rest.length + 1) := by rw [e]; simp
      rw [List.map_cons]
      unfold Ab.dcM
      rw [if_pos (hok _)]
      have hs := step x (by rw [e]; simp) (d.map fun x => (.inr (kf x), vf x))
      cases hg : g (F x) ρ (st ++ [.dct (d.map fun x => (.inr (kf x), vf x))]) with
      | none => rw [hg] at hs; exact hs.elim
      | some pr =>
        obtain ⟨ρ1, st1⟩ := pr
        rw [hg] at hs
        obtain ⟨rfl, hs⟩ := hs
        dsimp only
        rw [show ∀ s, Se.mYes ρ1 s = .ok true s from fun _ => rfl]
        dsimp only [R.noX, R.bind]
        rw [if_pos rfl]
        cases hm : mk ρ1 (st ++ [.dct (d.map fun x => (.inr (kf x), vf x))]) with
        | bad => rw [hm] at hs; exact hs.elim
        | exc e s => rw [hm] at hs; exact hs.elim
        | ok y s =>
          rw [hm] at hs
          obtain ⟨rfl, rfl, hs⟩ := hs
          dsimp only [R.noX, R.bind]
          cases hv : mv ρ1 (st ++ [.dct (d.map fun x => (.inr (kf x), vf x))]) with
          | bad => rw [hv] at hs; exact hs.elim
          | exc e s => rw [hv] at hs; exact hs.elim
          | ok z s =>
            rw [hv] at hs
            obtain ⟨rfl, rfl⟩ := hs
            dsimp only [R.noX, R.bind]
            rw [get_last]
            dsimp only [Ab.keyW]
            rw [if_pos (by rw [List.length_map]; omega)]
            rw [put_new (fun p hp => by
              obtain ⟨y, hy, rfl⟩ := List.mem_map.mp hp
              intro e2
              have e3 : kf y = kf x := Sum.inr.inj e2
              rw [e, List.map_append, List.map_cons] at nd
              exact (List.nodup_append.mp nd).2.2 _ (List.mem_map_of_mem hy) _ (by simp) e3)]
            rw [show (st ++ [Cell.dct (d.map fun x => (.inr (kf x), vf x))]).set st.length (.dct ((d.map fun x => (.inr (kf x), vf x)) ++ [(.inr (kf x), vf x)])) = st ++ [Cell.dct ((d ++ [x]).map fun x => (.inr (kf x), vf x))] by simp]
            exact ih _ e'
  have k0 := key xs [] rfl
  rw [List.map_nil] at k0
  rw [k0]
  exact q.at
theorem alike_flat {n : Nat} {x : Val} (h : Ab.flatW x = true) : Alike st (n + 1) x x := by
  unfold Alike
  cases x <;> first | trivial | rfl | (simp [Ab.flatW] at h)
theorem alike_tup {n : Nat} {xs : List Val} (hl : xs.length ≤ 100000) (h : ∀ x ∈ xs, Alike st n x x) : Alike st (n + 1) (.tup xs) (.tup xs) :=
  ⟨rfl, hl, fun i x y hx hy => by rw [hx] at hy; cases hy; exact h x (List.mem_of_getElem? hx)⟩
theorem alike_flats {n : Nat} {xs : List Val} (hl : xs.length ≤ 100000) (h : xs.all Ab.flatW = true) : Alike st (n + 2) (.tup xs) (.tup xs) := alike_tup hl fun x hx => alike_flat (List.all_eq_true.mp h x hx)
theorem alike_lst {n a b : Nat} {xs : List Val} (h1 : st[a]? = some (.lst xs)) (h2 : st[b]? = some (.lst xs)) (hl : xs.length ≤ 100000) (h : ∀ x ∈ xs, Alike st n x x) : Alike st (n + 1) (.ref a) (.ref b) :=
  ⟨xs, xs, h1, h2, rfl, hl, fun i x y hx hy => by rw [hx] at hy; cases hy; exact h x (List.mem_of_getElem? hx)⟩
theorem alike_two {n a b : Nat} {xs ys : List Val} (h1 : st[a]? = some (.lst xs)) (h2 : st[b]? = some (.lst ys)) (hl : xs.length ≤ 100000) (h : Paired (fun x y => Alike st n x y) xs ys) : Alike st (n + 1) (.ref a) (.ref b) := by
  have key : ∀ {xs ys : List Val}, Paired (fun x y => Alike st n x y) xs ys → xs.length = ys.length ∧ ∀ (i : Nat) (x y : Val), xs[i]? = some x → ys[i]? = some y → Alike st n x y := by
    intro xs ys h
    induction h with
    | nil => exact ⟨rfl, fun i x y h => by simp at h⟩
    | cons h t ih =>
      refine ⟨by simp [ih.1], fun i x y hx hy => ?_⟩
      cases i with
      | zero => simp at hx hy; subst hx hy; exact h
      | succ i => exact ih.2 i x y (by simpa using hx) (by simpa using hy)
  exact ⟨xs, ys, h1, h2, (key h).1, hl, (key h).2⟩
theorem viaN {o : O} {n n' : Slots → Store → Prop} {r : Val → Store → Prop} {k l : Slots → Store → Prop} (h : WpO o { nx := n' }) (q : ∀ ρ s, n' ρ s → n ρ s) : WpO o ⟨n, r, k, l, X⟩ := by
  simp only [uO] at *
  exact Ab.WpO.mono h q (fun _ _ h => h.elim) (fun _ _ h => h.elim) (fun _ _ h => h.elim) (fun _ _ h => h.elim)
theorem viaW {o : O} {n n' : Slots → Store → Prop} {r r' : Val → Store → Prop} {k l : Slots → Store → Prop} (h : WpO o ⟨n', r', fun _ _ => False, fun _ _ => False, fun _ _ => False⟩) (q : ∀ ρ s, n' ρ s → n ρ s) (q2 : ∀ v s, r' v s → r v s) : WpO o ⟨n, r, k, l, X⟩ := by
  simp only [uO] at *
  exact Ab.WpO.mono h q q2 (fun _ _ h => h.elim) (fun _ _ h => h.elim) (fun _ _ h => h.elim)
/-- sets of cells that have none in common -/
def Dis (xs ys : List Nat) : Prop := ∀ x ∈ xs, x ∉ ys
theorem Dis.symm {xs ys : List Nat} (h : Dis xs ys) : Dis ys xs := fun y hy hx => h y hx hy
theorem Dis.repl {xs ys ys' : List Nat} {m : Nat} (h : Dis xs ys) (hx : ∀ x ∈ xs, x < m) (hy : ∀ y ∈ ys', y ∈ ys ∨ m ≤ y) : Dis xs ys' := fun x hx' hy' => by
  rcases hy x hy' with z | z
  · exact h x hx' z
  · have := hx x hx'; omega
theorem Dis.sub {xs ys ys' : List Nat} (h : Dis xs ys) (hy : ∀ y ∈ ys', y ∈ ys) : Dis xs ys' := fun x hx hy' => h x hx (hy x hy')
end
section
variable {X : Exc → Store → Prop} {n : Slots → Store → Prop} {r : Val → Store → Prop} {k l : Slots → Store → Prop}
/-- a while by a number that becomes less -/
theorem b_while {t : MT} {body : MS} (Inv : Nat → Slots → Store → Prop)
    (step : ∀ m ρ st, Inv m ρ st → WpR (t ρ st) (fun b st1 => if b = true then WpO (body ρ st1) ⟨fun ρ' s' => ∃ j, j < m ∧ Inv j ρ' s', r, n, fun ρ' s' => ∃ j, j < m ∧ Inv j ρ' s', X⟩ else n ρ st1) X)
    {m : Nat} {ρ : Slots} {st : Store} (h : Inv m ρ st) : WpO (Se.sWhile t body ρ st) ⟨n, r, k, l, X⟩ := by
  simp only [uR, uO] at *
  have key : ∀ (m : Nat) (ρ : Slots) (st : Store), Inv m ρ st → ∃ o i, Ab.whileN t body i ρ st = some o ∧ Ab.WpO o ⟨n, r, k, l, X⟩ := by
    intro m
    induction m using Nat.strongRecOn with
    | _ m ih =>
      intro ρ st hI
      have hs := step m ρ st hI
      cases ht : t ρ st with
      | bad => rw [ht] at hs; exact hs.elim
      | exc x s => rw [ht] at hs; exact ⟨.exc x ρ s, 1, by unfold Ab.whileN; rw [ht], hs⟩
      | ok b s =>
        rw [ht] at hs
        cases b with
        | false =>
          dsimp only [Ab.WpR] at hs
          rw [if_neg Bool.false_ne_true] at hs
          exact ⟨.nx ρ s, 1, by unfold Ab.whileN; rw [ht], hs⟩
        | true =>
          dsimp only [Ab.WpR] at hs
          rw [if_pos rfl] at hs
          cases hb : body ρ s with
          | bad => rw [hb] at hs; exact hs.elim
          | exc x ρ2 s2 => rw [hb] at hs; exact ⟨_, 1, by unfold Ab.whileN; rw [ht]; dsimp only; rw [hb], hs⟩
          | ret v s2 => rw [hb] at hs; exact ⟨_, 1, by unfold Ab.whileN; rw [ht]; dsimp only; rw [hb], hs⟩
          | brk ρ2 s2 => rw [hb] at hs; exact ⟨_, 1, by unfold Ab.whileN; rw [ht]; dsimp only; rw [hb], hs⟩
          | nx ρ2 s2 =>
            rw [hb] at hs
            obtain ⟨j, hj, hI2⟩ := hs
            obtain ⟨o, i, h1, h2⟩ := ih j hj ρ2 s2 hI2
            exact ⟨o, i + 1, by unfold Ab.whileN; rw [ht]; dsimp only; rw [hb]; exact h1, h2⟩
          | ct ρ2 s2 =>
            rw [hb] at hs
            obtain ⟨j, hj, hI2⟩ := hs
            obtain ⟨o, i, h1, h2⟩ := ih j hj ρ2 s2 hI2
            exact ⟨o, i + 1, by unfold Ab.whileN; rw [ht]; dsimp only; rw [hb]; exact h1, h2⟩
  obtain ⟨o, i, h1, h2⟩ := key m ρ st h
  rw [show Se.sWhile t body ρ st = o from Ab.sWhile_eq h1]
  exact h2
end
section
variable {α : Type} {X : Exc → Store → Prop} {Q : Val → Store → Prop} {st : Store}
theorem deep_lst {f : α → Val} {g : α → PyData} {n a : Nat} {xs : List α} (hs : st[a]? = some (.lst (xs.map f))) (h : ∀ x ∈ xs, Ab.deep st n (f x) = some (g x)) : Ab.deep st (n + 1) (.ref a) = some (.list (xs.map g)) := by
  rw [Ab.deep, Ab.seqAt_lst hs]; dsimp only; rw [deep_map h]; rfl
theorem v_eqLL {a b : Nat} {d e : PyData} (h1 : Ab.deep st 16 (.ref a) = some d) (h2 : Ab.deep st 16 (.ref b) = some e) (q : Q (.bl (PyData.eqv d e)) st) : WpR (Ab.vEq (.ref a) (.ref b) st) Q X := by
  simp only [uR] at *
  show Ab.WpR (match Ab.deep st 16 (.ref a), Ab.deep st 16 (.ref b) with | some d, some e => .ok (.bl (PyData.eqv d e)) st | _, _ => .bad) Q X
  rw [h1, h2]; exact q
theorem v_cutL {n : Nat} {xs : List Val} {lo hi : Option Int} (h : st[n]? = some (.lst xs)) (q : New (.lst (Ab.cut xs lo hi)) st fun m s => Q (.ref m) s) : WpR (Ab.vCut (.ref n) lo hi st) Q X := by
  simp only [uR] at *
  dsimp only [Ab.vCut]; rw [Ab.seqAt_lst h]; exact q.at
theorem v_neLL {a b : Nat} {d e : PyData} (h1 : Ab.deep st 16 (.ref a) = some d) (h2 : Ab.deep st 16 (.ref b) = some e) (q : Q (.bl (!PyData.eqv d e)) st) : WpR (Ab.vNe (.ref a) (.ref b) st) Q X := by
  simp only [uR] at *
  show Ab.WpR (match Ab.deep st 16 (.ref a), Ab.deep st 16 (.ref b) with | some d, some e => .ok (.bl (!PyData.eqv d e)) st | _, _ => .bad) Q X
  rw [h1, h2]; exact q
/-- a dict comprehension of names that differ, by an invariant -/
theorem dcY_l {α : Type} {xs : List α} {F : α → Val} {g : MG} {mk mv : ME} {okp : Store → Prop} {D : Nat} {ρ : Slots} (kf : α → Str) (vf : α → Val) (nd : (xs.map kf).Nodup) (Inv : List α → Store → Prop) (hok : ∀ d s, Inv d s → okp s) (hl : xs.length ≤ 900)
    (step : ∀ d x rest s, xs = d ++ x :: rest → Inv d s → s[D]? = some (.dct (d.map fun x => (.inr (kf x), vf x))) → WpG (g (F x) ρ s) (fun ρ1 s1 => WpR (mk ρ1 s1) (fun y s2 => y = .str (kf x) ∧ WpR (mv ρ1 s2) (fun z s3 => z = vf x ∧ s3[D]? = some (.dct (d.map fun x => (.inr (kf x), vf x))) ∧ ∀ s4, s4[D]? = some (.dct ((d ++ [x]).map fun x => (.inr (kf x), vf x))) → Keep [D] s3 s4 → Inv (d ++ [x]) s4) fun _ _ => False) fun _ _ => False))
    (fin : ∀ s, Inv xs s → s[D]? = some (.dct (xs.map fun x => (.inr (kf x), vf x))) → Q (.ref D) s) (h : Inv [] st) (hD : st[D]? = some (.dct [])) : WpR (Ab.dcM g Se.mYes mk mv okp D ρ (xs.map F) st) Q X := by
  simp only [uR, uG] at *
  have key : ∀ (rest d : List α) (s : Store), xs = d ++ rest → Inv d s → s[D]? = some (.dct (d.map fun x => (.inr (kf x), vf x))) → Ab.WpR (Ab.dcM g Se.mYes mk mv okp D ρ (rest.map F) s) Q X := by
    intro rest
    induction rest with
    | nil =>
      intro d s e hI hs
      rw [List.append_nil] at e; subst e
      unfold Ab.dcM
      rw [List.map_nil]; dsimp only
      rw [if_pos (hok _ _ hI)]
      exact fin s hI hs
    | cons x rest ih =>
      intro d s e hI hs
      have hlen : xs.length = d.length + (rest.length + 1) := by rw [e]; simp
      rw [List.map_cons]
      unfold Ab.dcM
      rw [if_pos (hok _ _ hI)]
      have h1 := step d x rest s e hI hs
      cases hg : g (F x) ρ s with
      | none => rw [hg] at h1; exact h1.elim
      | some p =>
        obtain ⟨ρ1, s1⟩ := p
        rw [hg] at h1
        dsimp only [Ab.WpG] at h1 ⊢
        rw [show Se.mYes ρ1 s1 = .ok true s1 from rfl]
        dsimp only [R.noX, R.bind]
        rw [if_pos rfl]
        cases q : mk ρ1 s1 with
        | bad => rw [q] at h1; exact h1.elim
        | exc x s2 => rw [q] at h1; exact h1.elim
        | ok y s2 =>
          rw [q] at h1
          obtain ⟨rfl, h1⟩ := h1
          dsimp only [R.noX, R.bind]
          cases q2 : mv ρ1 s2 with
          | bad => rw [q2] at h1; exact h1.elim
          | exc x s3 => rw [q2] at h1; exact h1.elim
          | ok z s3 =>
            rw [q2] at h1
            obtain ⟨rfl, h2, h3⟩ := h1
            dsimp only [R.noX, R.bind]
            rw [h2]
            dsimp only [Ab.keyW]
            rw [if_pos (by rw [List.length_map]; omega)]
            rw [put_new (fun p hp => by
              obtain ⟨y, hy, rfl⟩ := List.mem_map.mp hp
              intro e2
              have e3 : kf y = kf x := Sum.inr.inj e2
              rw [e, List.map_append, List.map_cons] at nd
              exact (List.nodup_append.mp nd).2.2 _ (List.mem_map_of_mem hy) _ (by simp) e3)]
            have e4 : (d.map fun x => ((.inr (kf x) : Key), vf x)) ++ [(.inr (kf x), vf x)] = (d ++ [x]).map fun x => (.inr (kf x), vf x) := by simp
            rw [e4]
            have g4 : (s3.set D (.dct ((d ++ [x]).map fun x => (.inr (kf x), vf x))))[D]? = some (.dct ((d ++ [x]).map fun x => (.inr (kf x), vf x))) := by rw [List.getElem?_set_self (lt_of h2)]
            exact ih (d ++ [x]) _ (by rw [e]; simp) (h3 _ g4 (.set (by simp))) g4
  exact key xs [] st rfl h hD
/-- a dict comprehension with a test, of names that differ, by an invariant -/
theorem dcF_l {α : Type} {xs : List α} {F : α → Val} {g : MG} {t : MT} {mk mv : ME} {okp : Store → Prop} {D : Nat} {ρ : Slots} (p : α → Bool) (kf : α → Str) (vf : α → Val) (nd : (xs.map kf).Nodup) (Inv : List α → Store → Prop) (hok : ∀ d s, Inv d s → okp s) (hl : xs.length ≤ 900)
    (step : ∀ d x rest s, xs = d ++ x :: rest → Inv d s → s[D]? = some (.dct ((d.filter p).map fun x => (.inr (kf x), vf x))) → WpG (g (F x) ρ s) (fun ρ1 s1 => WpR (t ρ1 s1) (fun b s2 => b = p x ∧ (p x = false → s2[D]? = some (.dct ((d.filter p).map fun x => (.inr (kf x), vf x))) ∧ Inv (d ++ [x]) s2) ∧ (p x = true → WpR (mk ρ1 s2) (fun y s3 => y = .str (kf x) ∧ WpR (mv ρ1 s3) (fun z s4 => z = vf x ∧ s4[D]? = some (.dct ((d.filter p).map fun x => (.inr (kf x), vf x))) ∧
      ∀ s5, s5[D]? = some (.dct (((d ++ [x]).filter p).map fun x => (.inr (kf x), vf x))) → Keep [D] s4 s5 → Inv (d ++ [x]) s5) fun _ _ => False) fun _ _ => False)) fun _ _ => False))
    (fin : ∀ s, Inv xs s → s[D]? = some (.dct ((xs.filter p).map fun x => (.inr (kf x), vf x))) → Q (.ref D) s) (h : Inv [] st) (hD : st[D]? = some (.dct [])) : WpR (Ab.dcM g t mk mv okp D ρ (xs.map F) st) Q X := by
  simp only [uR, uG] at *
  have key : ∀ (rest d : List α) (s : Store), xs = d ++ rest → Inv d s → s[D]? = some (.dct ((d.filter p).map fun x => (.inr (kf x), vf x))) → Ab.WpR (Ab.dcM g t mk mv okp D ρ (rest.map F) s) Q X := by
    intro rest
    induction rest with
    | nil =>
      intro d s e hI hs
      rw [List.append_nil] at e; subst e
      unfold Ab.dcM
      rw [List.map_nil]; dsimp only
      rw [if_pos (hok _ _ hI)]
      exact fin s hI hs
    | cons x rest ih =>
      intro d s e hI hs
      have hlen : xs.length = d.length + (rest.length + 1) := by rw [e]; simp
      rw [List.map_cons]
      unfold Ab.dcM
      rw [if_pos (hok _ _ hI)]
      have h1 := step d x rest s e hI hs
      cases hg : g (F x) ρ s with
      | none => rw [hg] at h1; exact h1.elim
      | some pr =>
        obtain ⟨ρ1, s1⟩ := pr
        rw [hg] at h1
        dsimp only [Ab.WpG] at h1 ⊢
        cases q0 : t ρ1 s1 with
        | bad => rw [q0] at h1; exact h1.elim
        | exc x s2 => rw [q0] at h1; exact h1.elim
        | ok b s2 =>
          rw [q0] at h1
          obtain ⟨rfl, hf, ht⟩ := h1
          dsimp only [R.noX, R.bind]
          cases hp : p x with
          | false =>
            obtain ⟨h2, h3⟩ := hf hp
            rw [if_neg Bool.false_ne_true]
            have e4 : (d ++ [x]).filter p = d.filter p := by rw [List.filter_append, List.filter_cons, hp]; simp
            exact ih (d ++ [x]) _ (by rw [e]; simp) h3 (by rw [e4]; exact h2)
          | true =>
            have h1 := ht hp
            rw [if_pos rfl]
            cases q : mk ρ1 s2 with
            | bad => rw [q] at h1; exact h1.elim
            | exc x s2 => rw [q] at h1; exact h1.elim
            | ok y s3 =>
              rw [q] at h1
              obtain ⟨rfl, h1⟩ := h1
              dsimp only [R.noX, R.bind]
              cases q2 : mv ρ1 s3 with
              | bad => rw [q2] at h1; exact h1.elim
              | exc x s3 => rw [q2] at h1; exact h1.elim
              | ok z s4 =>
                rw [q2] at h1
                obtain ⟨rfl, h2, h3⟩ := h1
                dsimp only [R.noX, R.bind]
                rw [h2]
                dsimp only [Ab.keyW]
                rw [if_pos (by have := List.length_filter_le p d; rw [List.length_map]; omega)]
                rw [put_new (fun pp hpp => by
                  obtain ⟨y, hy, rfl⟩ := List.mem_map.mp hpp
                  intro e2
                  have e3 : kf y = kf x := Sum.inr.inj e2
                  rw [e, List.map_append, List.map_cons] at nd
                  exact (List.nodup_append.mp nd).2.2 _ (List.mem_map_of_mem (List.mem_filter.mp hy).1) _ (by simp) e3)]
                have e4 : ((d.filter p).map fun x => ((.inr (kf x) : Key), vf x)) ++ [(.inr (kf x), vf x)] = ((d ++ [x]).filter p).map fun x => (.inr (kf x), vf x) := by rw [List.filter_append, List.filter_cons, hp]; simp
                rw [e4]
                have g4 : (s4.set D (.dct (((d ++ [x]).filter p).map fun x => (.inr (kf x), vf x))))[D]? = some (.dct (((d ++ [x]).filter p).map fun x => (.inr (kf x), vf x))) := by rw [List.getElem?_set_self (lt_of h2)]
                exact ih (d ++ [x]) _ (by rw [e]; simp) (h3 _ g4 (.set (by simp))) g4
  exact key xs [] st rfl h hD
theorem dc_new {g : MG} {mk mv : ME} {t : MT} {okp : Store → Prop} {ρ : Slots} {items : List Val} (q : New (.dct []) st fun D s => WpR (Ab.dcM g t mk mv okp D ρ items s) Q X) : WpR (Ab.dcM g t mk mv okp st.length ρ items (st ++ [.dct []])) Q X := by
  simp only [uR] at *
  exact q.at
theorem zip_range {α β : Type} {f : α → Val} {g : β → Val} {xs : List α} {ys : List β} (a : α) (b : β) (h : ys.length = xs.length) : Ab.zipW (xs.map f) (ys.map g) = (List.range xs.length).map fun k => .tup [f (xs.getD k a), g (ys.getD k b)] := by
  rw [zip_map]
  apply List.ext_getElem
  · simp [h]
  · intro i h1 h2
    have hi : i < xs.length := by simpa using h2
    simp [List.getD_eq_getElem?_getD, List.getElem?_eq_getElem hi, List.getElem?_eq_getElem (show i < ys.length by omega)]
theorem valW_map {α : Type} {xs : List α} {kf : α → Str} {vf : α → Val} (nd : (xs.map kf).Nodup) {x : α} (hx : x ∈ xs) : Ab.valW (xs.map fun x => (.inr (kf x), vf x)) (.inr (kf x)) = some (vf x) := by
  induction xs with
  | nil => cases hx
  | cons y ys ih =>
    rw [List.map_cons, Ab.valW]
    rw [List.map_cons, List.nodup_cons] at nd
    by_cases e : kf y = kf x
    · rw [if_pos (by rw [e])]
      rcases List.mem_cons.mp hx with h | h
      · rw [h]
      · exact absurd (e ▸ List.mem_map_of_mem h) nd.1
    · rw [if_neg fun z => e (Sum.inr.inj z)]
      rcases List.mem_cons.mp hx with h | h
      · exact absurd (by rw [h]) e
      · exact ih nd.2 h
end
end Vc

set_option Elab.async false
set_option linter.all false
set_option maxRecDepth 100000
set_option maxHeartbeats 1000000
/-! Ab: C.m(..) of a classmethod; cls(..) of a local that holds a class; lambdas in further defs. -/
namespace Ab
open PySem PySem.Spec PyProof.Rows L2
/-- a classmethod of the class of that number -/
def HasCM (T : Wh) (C : Nat) (m : Str) (k : Nat) (mf : MF) : Prop := ∃ Ca mc p g, T.mg (nm C) = some (.ref Ca) ∧ ClX.CRead T.K Ca mc ∧ ClX.CMet T.K Ca mc m p g ∧ FnMR T k g mf
@[reducible] def R.noE {α : Type} (r : R α) : R α := match r with
  | .exc _ _ => .bad
  | r => r
@[reducible] def mCm (C : Nat) (mf : MF) (t : MA) : ME := fun ρ st => (t ρ st).bind fun ws st1 => (mf (.gl C :: ws) st1).noE
@[reducible] def mMakeV (C : Nat) (mf : MF) (i : Nat) (t : MA) : ME := fun ρ st => match ρ[i]? with
  | some (some (.gl C')) => if C' = C then mApp (vMake C mf) t ρ st else .bad
  | _ => .bad
section
variable {X : Cx} {k i C : Nat} {x m : Str} {e : Expr} {es : List Expr} {t : MA} {p pos apos : Pos} {mf : MF}
theorem je_cmeth {pl : Sem Bool} (h : HasCM (Cx.wh X) C m k mf) (hx : x = nm C) (hr : Room k X.A) (ha : JA X (e :: es) t) (hg : Gl X x := by rfl) (hdb : (x == ("__debug__" : Str)) = false := by decide)
    (hst : starEach (e :: es) X.env = (false, eval e X.env) :: starEach es X.env := by rfl) (hpl : (backTo pos (starEach es X.env)).any (·.1) = false := by rfl)
    (ht : eval (.Call (.Attribute (.Name x p) m apos) (e :: es) [] pos) X.env = (do
      let ov ← eval (.Name x p) X.env
      standAt apos.atName
      let (f, first) ← holding [ov] (getMethod ov m pl)
      callWith pos f first (backTo pos (starEach (e :: es) X.env)) (backToKw pos (keywordEach [] X.env))) := by rfl) :
    JE X (.Call (.Attribute (.Name x p) m apos) (e :: es) [] pos) (mCm C mf t) := fun W tk => by
  obtain ⟨Ca, mc, pp, g, hC, r, c, kp, F⟩ := h
  have hC' : X.mg x = some (.ref Ca) := by rw [hx]; exact hC
  refine PE.weak (ClX.pe_cmeth (pl := pl) (E := E0) (pe_glob (v := .ref Ca) (pos := p) hg hC' rfl hdb) r c F hr passL (ha W tk) hst hpl ht) fun σ H Q ⟨ι, ρ, st, S, sl, q⟩ => ?_
  refine ⟨rfl, ι, ρ, st, S, sl, Post.bind q fun ws st1 ι1 H1 vs l1 S1 r1 q1 => ?_⟩
  refine ⟨ι1, _, st1, S1, .cons (Rep.gl hC) r1, ?_⟩
  cases qm : mf (.gl C :: ws) st1 with
  | ok w s1 => rw [qm] at q1; exact q1
  | exc y s1 => rw [qm] at q1; exact q1.elim
  | bad => rw [qm] at q1; exact q1.elim
/-- cls(e, .., *y) -/
theorem je_makeVS (h : HasIR (Cx.wh X) C k mf) (hr : Room (k + 1) X.A) (ha : JA X (e :: es) t)
    (hN : X.N[i]? = some x := by rfl) (hv : Vis X.env.scope x := by first | exact Or.inl rfl | exact Or.inr (Or.inl rfl) | exact Or.inr (Or.inr rfl)) (hdb : (x == ("__debug__" : Str)) = false := by decide) (hcd : (x == ("__classdict__" : Str)) = false := by decide)
    (he : starEach (e :: es) X.env = (false, eval e X.env) :: starEach es X.env := by rfl)
    (hst : (backTo pos (starEach es X.env)).any (·.1) = true := by rfl) : JE X (.Call (.Name x p) (e :: es) [] pos) (mMakeV C mf i t) := fun W tk => by
  obtain ⟨Ca, f, hC, M, hk, F⟩ := h
  refine ⟨fun pins s σ H Q I ⟨ι, ρ, st, S, sl, q⟩ => ?_⟩
  dsimp only [mMakeV] at q
  split at q
  · rename_i C' eC
    split at q
    · rename_i hCC
      subst hCC
      obtain ⟨v, ev, rv⟩ := sl.2 i _ eC
      obtain ⟨Ca', e2, e3⟩ := Rep.gl_inv rv
      have hC2 : X.mg (nm C') = some (.ref Ca) := hC
      rw [hC2] at e3
      cases e3
      subst e2
      refine wpAny_Call_Name_kw (thn ((pe_var (pos := p) hN hv hdb hcd).run pins s σ H (fun v H1 => v = .ref Ca ∧ H1 = H) I ⟨_, ev, rfl, rfl⟩) fun u s1 ⟨v, H1, I1, r1, ee, eh⟩ => ?_)
      subst ee eh
      obtain rfl : u = Value.ref Ca := r1
      refine PySem.W.callWith_S2 (h₀ := X.base) I1.ok.mod.kin M.kp (thn ((ha W tk).run pos pins s1 σ H1 (fun vs H1 => ∀ y dx, H1 y = Option.none → H1 dx = Option.none → dx ≠ y → spM X.K X.mg mf (V.ref y :: vs) (upd (upd H1 dx (.own y)) y (.ins Ca dx [])) (fun v H2 => v = .non ∧ Q (.ref y) H2) (WE W σ)) I1 ?_) fun us s1 ⟨vs, H1, I1, r, q⟩ => ⟨I1.kIn, ?_⟩) he hst
      · exact ⟨ι, ρ, st, S, sl, Post.bind q fun ws st1 ι1 H1 vs l1 S1 r1 p1 => make_read hC S1 r1 p1⟩
      · exact run_makeRS M F hr (passAt tk σ) I1 r q
    · exact q.elim
  · exact q.elim
end
/-! ### lambdas in further defs -/
def codeOf (K : PySem.W.Frag) (mg : Str → Option Value) (x : Str) : Option Value := match mg x with
  | some (.ref f) => match K.lookup f with
    | some ⟨_, _, .func fd, _⟩ => some fd.code
    | _ => none
  | _ => none
/-- the table of the def x is there for lambdas -/
def LamTB (T : Wh) (x : Str) : Prop := ∃ c P, codeOf T.K T.mg x = some (.ref c) ∧ LamX.TabB T.base T.mg c P ∧ (P, x ++ ".<locals>." ++ "<lambda>") ∈ tabsOf T.K T.mg ∧ ∀ p ∈ tabsOf T.K T.mg, p.1 = P → p.2 = x ++ ".<locals>." ++ "<lambda>"
/-- a def whose code object is known -/
theorem fnM_ofC {T : Wh} {x qual : Str} {st : Stmt} {f c : Addr} {N ps : List Str} {k n m : Nat} {body : MS} {oc kV doc pm ct : Value} {an od : Option Addr} {osl : Array (Option Value)} (kp : PySem.W.keepIn T.K (.ref f) = true)
    (lk : T.K.lookup f = some ⟨oc, od, .func (PySem.W.fnOf x qual (defArgs st) (defBody st) (defScope st) .none kV doc pm an (.ref c) ct), osl⟩) (hcd : PySem.W.codeIn T.K (.ref c) qual = true)
    (hb : Binds T.K (PySem.W.fnOf x qual (defArgs st) (defBody st) (defScope st) .none kV doc pm an (.ref c) ct) ps []) (S : FnScope N ps (defScope st)) (hn : ps.length = n) (hm : N.length = n + m)
    (h : ∀ (A : Around) (outer : List Env) (s : Shared) (H : Hp) (E : XK), Room k (cx1 T N qual st f (.ref c) A outer s H E).A → JSs (cx1 T N qual st f (.ref c) A outer s H E) (defBody st) body) :
    FnM T (k + 1) n f (defM n m body) := by
  refine ⟨_, ps, hn, kp, hb, fn_of lk hcd S (fun vs H Q E hsp => ?_) (fun A outer s H vs Q E hr hsp => ?_)⟩
  · obtain ⟨ι, ws, st', S', r, p⟩ := hsp
    unfold defM at p
    split at p
    · rename_i hl
      rw [← r.length, hl, hn]
    · exact p.elim
  · obtain ⟨ι, ws, st', S', r, p⟩ := hsp
    unfold defM at p
    split at p
    · rename_i hl
      have j := h A outer s H E hr
      refine ⟨_, j (fun cls d _ H => E cls d H) (takes_of rfl rfl rfl rfl), ι, _, st', S', slots_start r (by rw [hl]; exact hm), ?_⟩
      show PostO T.K T.mg _ ι H _ (body (ws.map some ++ List.replicate m none) st')
      cases q : body (ws.map some ++ List.replicate m none) st' with
      | nx ρ s1 => rw [q] at p; exact fun ι1 H1 σ1 l S1 sl => p ι1 H1 _ l S1 Rep.non
      | ret w s1 => rw [q] at p; exact p
      | exc x ρ s1 => rw [q] at p; exact fun ι1 H1 σ1 c d l S1 sl r => p ι1 H1 c d l S1 r
      | brk ρ s1 => rw [q] at p; exact p.elim
      | ct ρ s1 => rw [q] at p; exact p.elim
      | bad => rw [q] at p; exact p.elim
    · exact p.elim
/-- the end, with the empty table of each def -/
theorem walk_ofOwns {l : PySem.W.OpenLaw} {n k : Nat} {q : Program} {loose : List Str} {XP : (Str → Option Value) → Heap → Prop} {YP : World → Heap → Prop} {d : DefRec} {K : Params → PySem.W.Frag} {CX : World → CXT} {x : Str} (L : List Str)
    (hn : l.most = some n) (hn2 : n ≤ sizeLine) (hdf : d.params.defaults = []) (hr : Room k callerA) (hrec : ∀ y ∈ L, ((recsOf q).any fun e => e.name == y) = true) (hY : ∀ (w : World) (h : Heap), YP w h → (K w.params).In h)
    (F : ∀ (w : World) (mg : Str → Option Value) (fa : Addr) (h : Heap), YP w h → (K w.params).In h → h.Ns mainGlobals mg → mg d.name = some (.ref fa) → (∀ y ∈ L, ∀ fb, mg y = some (.ref fb) → LamX.OwnTab (K w.params) fb h) → LamX.LawAtS l w (K w.params) (CX w) k n x mg fa h)
    (hCX : ∀ (w : World) (H : Hp) (s : Shared) (e : Value) (s' : Shared), CX w [] H s (fun _ _ _ => False) e s' → False) :
    PySem.W.WalkO q loose XP YP l.row.toRowW d [] (fun f vs => PySem.call f vs) := by
  refine _root_.Att.attach_callB hn hdf fun w s₀ s₁ mg mb fa o pm cd doc a vs ns G Y ho hd hcd hmg hobj hints hlen hbits hg => ?_
  have KX := hY w _ Y
  have own : ∀ y ∈ L, ∀ fb, mg y = some (.ref fb) → LamX.OwnTab (K w.params) fb s₁.heap := fun y hy fb hmy c P o1 fd1 e dd vs1 sl k1 k2 k3 k4 k5 => by
    obtain ⟨dL, hm, hn1⟩ := List.any_eq_true.mp (hrec y hy)
    have hn2 : dL.name = y := beq_iff_eq.mp hn1
    obtain ⟨a', o', fd', c', P', h1, h2, h3, h4, h5, h6⟩ := G.T.tab dL hm
    rw [hn2, hmy] at h1
    cases h1
    have g1 := KX _ _ k1
    rw [g1] at h2
    cases h2
    rw [k2] at h3
    cases h3
    rw [k3] at h4
    cases h4
    obtain ⟨⟨oc, vc, e1, _, e3, e4⟩, hP⟩ := h6
    have g2 := KX _ _ k4
    rw [g2] at e1
    cases e1
    cases e3
    rw [k5] at e4
    cases e4
    exact hP
  obtain ⟨fd, cs, sp, hT, nT, C, hb, hsp, hF⟩ := F w mg fa _ Y KX G.T.g hmg own
  exact LamX.law_callTs KX G.T.g G.T.b G.T.builtins G.T.nolimit hg hT nT C G.T.bmain hobj hints (Nat.le_trans hlen hn2) hr hF hb (fun H hH hS => hsp H a ns hlen hbits hH hS) fun H e s' => hCX w H s₁ e s'
/-- a def with lambdas: its name, its code object, the code object's table -/
structure LamD (K : PySem.W.Frag) (mg : Str → Option Value) (h : Heap) (x : Str) (c P : Addr) : Prop where
  code : codeOf K mg x = some (.ref c)
  tab : tabOf K mg x = some (P, x ++ ".<locals>." ++ "<lambda>")
  own : h.get? P = some { cls := .none, data := .fields #[] }
  nP : K.lookup P = none
  hd : PySem.W.CodeHd h c P
theorem LamD.mk' {K : PySem.W.Frag} {mg : Str → Option Value} {h : Heap} {x : Str} {c P fa : Addr} {oc : Value} {od : Option Addr} {fd : FuncData} {osl : Array (Option Value)} {e : Value} {dd : Option Addr} {vs : Array Value} {sl : Array (Option Value)} (X : K.In h) (hmg : mg x = some (.ref fa)) (own : LamX.OwnTab K fa h)
    (lk : K.lookup fa = some ⟨oc, od, .func fd, osl⟩) (hc : fd.code = .ref c) (lc : K.lookup c = some ⟨e, dd, .fields vs, sl⟩) (h11 : vs[11]? = some (.ref P)) (nP : K.lookup P = none) (hh : PySem.W.codeHdIn K c P = true) : LamD K mg h x c P :=
  ⟨by unfold codeOf; rw [hmg]; dsimp only; rw [lk]; dsimp only; rw [hc], by unfold tabOf; rw [hmg]; dsimp only; rw [lk]; dsimp only; rw [hc]; dsimp only; rw [lc]; dsimp only; rw [h11], own c P _ _ _ _ _ _ lk rfl hc lc h11, nP, PySem.W.codeHd_of_K X hh⟩
theorem tabOf_none {K : PySem.W.Frag} {mg : Str → Option Value} {x : Str} (h : mg x = none) : tabOf K mg x = none := by unfold tabOf; rw [h]
theorem law_atG {l : PySem.W.OpenLaw} {w : World} {K : PySem.W.Frag} {mg : Str → Option Value} {fa c : Addr} {h : Heap} {st : Stmt} {x : Str} {N : List Str} {m lev : Nat} {body : MS} {kV doc pm ct oc : Value} {an od : Option Addr} {osl : Array (Option Value)} (ts : List (Str × Addr × Addr))
    (X : K.In h) (hts : ∀ t ∈ ts, LamD K mg h t.1 t.2.1 t.2.2) (hT : tabsOf K mg = ts.map fun t => (t.2.2, t.1 ++ (".<locals>." : Str) ++ ("<lambda>" : Str))) (hnd : (ts.map fun t => t.2.2).Nodup)
    (lk : K.lookup fa = some ⟨oc, od, .func (PySem.W.fnOf "law" "law" (defArgs st) (defBody st) (defScope st) .none kV doc pm an (.ref c) ct), osl⟩) (hcd : PySem.W.codeIn K (.ref c) "law" = true)
    (S : FnScope N [x] (defScope st)) (hm : N.length = 1 + m)
    (hb : ∀ (s : Shared) (u : Value), BindsTo s (PySem.W.fnOf "law" "law" (defArgs st) (defBody st) (defScope st) .none kV doc pm an (.ref c) ct) ⟨[u], []⟩ [(x, u)])
    (hj : ∀ base : Heap, K.In base → base.Ns mainGlobals mg → (∀ t ∈ ts, LamTB ⟨l.prog, w, K, mg, base⟩ t.1) →
      ∀ (A : Around) (outer : List Env) (s : Shared) (H : Hp) (E : XK), Room lev (cx1 ⟨l.prog, w, K, mg, base⟩ N "law" st fa (.ref c) A outer s H E).A → JSs (cx1 ⟨l.prog, w, K, mg, base⟩ N "law" st fa (.ref c) A outer s H E) (defBody st) body)
    (plain : ∀ (ns : List Int) (cell : Cell), IsScript ns cell → ns.length ≤ 63 → (∀ z ∈ ns, Builtin.Int.intBits z ≤ 1048576) → ∃ st', defM 1 m body [.ref 0] [cell] = .ok (.bl true) st') :
    LamX.LawAtS l w K (L2.CX l.prog w) (lev + 1) 63 x mg fa h := by
  have mem : ∀ p ∈ ts.map (fun t => (t.2.1, t.2.2)), ∃ t ∈ ts, p = (t.2.1, t.2.2) := fun p hp => by
    obtain ⟨t, ht, e⟩ := List.mem_map.mp hp
    exact ⟨t, ht, e.symm⟩
  refine ⟨_, ts.map (fun t => (t.2.1, t.2.2)), spM K mg (defM 1 m body), ?_, ?_, ?_, hb, ?_, ?_⟩
  · intro p hp
    obtain ⟨t, ht, e⟩ := mem p hp
    rw [e]; exact (hts t ht).own
  · intro p hp
    obtain ⟨t, ht, e⟩ := mem p hp
    rw [e]; exact (hts t ht).nP
  · intro p hp
    obtain ⟨t, ht, e⟩ := mem p hp
    rw [e]; exact (hts t ht).hd
  · intro H a ns hl hbits hcs hS
    have tabs : LamX.Tabs (tabsOf K mg) H := fun p hp => by
      rw [hT] at hp
      obtain ⟨t, ht, e⟩ := List.mem_map.mp hp
      rw [← e]
      exact LamX.TabS.nil (hcs (t.2.1, t.2.2) (List.mem_map_of_mem ht))
    have go : ∀ cell, IsScript ns cell → CellOk K mg [a] H a cell → spM K mg (defM 1 m body) [.ref a] H (fun v _ => v = .bl true) fun _ _ _ => False := by
      intro cell hc hok
      obtain ⟨st', e'⟩ := plain ns cell hc hl hbits
      refine ⟨[a], [.ref 0], [cell], ⟨rfl, fun n m' b c' d' q1 q2 q3 q4 _ _ => ?_, fun n c' b q1 q2 => ?_, tabs⟩, .cons (Rep.ref rfl) .nil, ?_⟩
      · have := (List.getElem?_eq_some_iff.mp q1).1
        have := (List.getElem?_eq_some_iff.mp q2).1
        simp at *
        omega
      · have z := (List.getElem?_eq_some_iff.mp q1).1
        have z0 : n = 0 := by simp at z; omega
        subst z0
        simp at q1 q2
        subst q1 q2
        exact hok
      · rw [e']
        intro ι' H' v l' S' r
        exact Rep.bl_inv r
    rcases hS with (hS | ⟨o, hS⟩) | ⟨o, its, n, k1, k2, k3, k4, k5, k6⟩
    · exact go _ (.inr rfl) ⟨_, hS, reps_ints ns⟩
    · exact go _ (.inl rfl) ⟨_, .inl ⟨o, hS⟩, reps_ints ns⟩
    · exact go _ (.inl rfl) ⟨_, .inr ⟨o, its, n, k1, k2, k3, k4, k5, k6⟩, reps_ints ns⟩
  · intro base hK hNs hTB
    have hLT : ∀ t ∈ ts, LamTB ⟨l.prog, w, K, mg, base⟩ t.1 := fun t ht => by
      refine ⟨t.2.1, t.2.2, (hts t ht).code, hTB (t.2.1, t.2.2) (List.mem_map_of_mem ht), ?_, ?_⟩
      · show _ ∈ tabsOf K mg
        rw [hT]; exact List.mem_map.mpr ⟨t, ht, rfl⟩
      · intro p hp ep
        have hp : p ∈ tabsOf K mg := hp
        rw [hT] at hp
        obtain ⟨t', ht', e'⟩ := List.mem_map.mp hp
        have e1 : t'.2.2 = t.2.2 := by rw [← ep, ← e']
        obtain ⟨i, hi, e2⟩ := List.getElem_of_mem ht
        obtain ⟨j, hj', e3⟩ := List.getElem_of_mem ht'
        have : i = j := by
          have a1 : (ts.map fun t => t.2.2)[i]'(by simpa using hi) = (ts.map fun t => t.2.2)[j]'(by simpa using hj') := by
            rw [List.getElem_map, List.getElem_map, e2, e3, e1]
          exact (List.getElem_inj hnd).mp a1
        subst this
        have : t = t' := e2.symm.trans e3
        subst this
        rw [← e']
    refine fn_of lk hcd S (fun vs H Q E hsp => ?_) fun A outer s H vs Q E hr hsp => ?_
    · obtain ⟨ι, ws, st', S', r, p⟩ := hsp
      unfold defM at p
      split at p
      · rename_i hl
        rw [← r.length, hl]; rfl
      · exact p.elim
    · obtain ⟨ι, ws, st', S', r, p⟩ := hsp
      unfold defM at p
      split at p
      · rename_i hl
        have j := hj base hK hNs hLT A outer s H E hr
        refine ⟨_, j (fun cls d _ H => E cls d H) (takes_of rfl rfl rfl rfl), ι, _, st', S', slots_start r (by rw [hl]; exact hm), ?_⟩
        show PostO K mg _ ι H _ (body (ws.map some ++ List.replicate m none) st')
        cases q : body (ws.map some ++ List.replicate m none) st' with
        | nx ρ s1 => rw [q] at p; exact fun ι1 H1 σ1 l S1 sl => p ι1 H1 _ l S1 Rep.non
        | ret w s1 => rw [q] at p; exact p
        | exc x ρ s1 => rw [q] at p; exact fun ι1 H1 σ1 c d l S1 sl r => p ι1 H1 c d l S1 r
        | brk ρ s1 => rw [q] at p; exact p.elim
        | ct ρ s1 => rw [q] at p; exact p.elim
        | bad => rw [q] at p; exact p.elim
      · exact p.elim
end Ab
namespace Ab
open PySem PySem.Spec PyProof.Rows L2
theorem bind_star3 {B : List Value → Sem (List (Str × Value))} {p1 p2 p3 pv : Str} (h0 : ∀ a b c, B [a, b, c] = (newTuple [] >>= fun t => pure [(p1, a), (p2, b), (p3, c), (pv, t)])) (h1 : ∀ a b c r rs, B (a :: b :: c :: r :: rs) = (newTuple (r :: rs) >>= fun t => pure [(p1, a), (p2, b), (p3, c), (pv, t)])) :
    ∀ us rest : List Value, us.length = [p1, p2, p3].length → B (us ++ rest) = (newTuple rest >>= fun t => pure ([p1, p2, p3].zip us ++ [(pv, t)]))
  | [a, b, c], [], _ => h0 a b c
  | [a, b, c], r :: rs, _ => h1 a b c r rs
theorem code_eq {K : PySem.W.Frag} {mg : Str → Option Value} {x : Str} {f c c' : Addr} {oc : Value} {od : Option Addr} {fd : FuncData} {osl : Array (Option Value)} (hm : mg x = some (.ref f)) (lk : K.lookup f = some ⟨oc, od, .func fd, osl⟩) (hc : fd.code = .ref c) (h : codeOf K mg x = some (.ref c')) : c' = c := by
  unfold codeOf at h
  rw [hm] at h
  dsimp only at h
  rw [lk] at h
  dsimp only at h
  rw [hc] at h
  cases h
  rfl
end Ab

set_option Elab.async false
set_option linter.all false
set_option maxRecDepth 100000
/-! Ab: rules of the second part (classmethods, cls(..)). -/
namespace Se
noncomputable def mCm := @Ab.mCm
noncomputable def mMakeV := @Ab.mMakeV
end Se
namespace Vc
open PySem PySem.Spec Ab
section
variable {st : Store} {ρ : Slots} {ta : MA} {Q : Val → Store → Prop} {X : Exc → Store → Prop}
theorem b_cm {C : Nat} {mf : MF} (q : WpR (ta ρ st) (fun ws st1 => WpR (mf (.gl C :: ws) st1) Q (fun _ _ => False)) X) : WpR (Se.mCm C mf ta ρ st) Q X := by
  simp only [uR, uO, uG] at *
  show Ab.WpR (Ab.mCm C mf ta ρ st) Q X
  unfold Ab.mCm; rw [Ab.wp_bind]
  refine Ab.WpR.mono q (fun y s h => ?_) fun _ _ h => h
  cases e : mf (.gl C :: y) s with
  | ok v s' => rw [e] at h; exact h
  | exc x s' => rw [e] at h; exact h.elim
  | bad => rw [e] at h; exact h.elim
theorem b_makeV {C i : Nat} {mf : MF} (h : ρ[i]? = some (some (.gl C))) (q : WpR (Se.mApp (Se.vMake C mf) ta ρ st) Q X) : WpR (Se.mMakeV C mf i ta ρ st) Q X := by
  simp only [uR, uO, uG] at *
  show Ab.WpR (Ab.mMakeV C mf i ta ρ st) Q X
  unfold Ab.mMakeV
  rw [h]
  dsimp only
  rw [if_pos rfl]
  exact q
end
end Vc

set_option Elab.async false
set_option linter.all false
set_option maxRecDepth 100000
set_option maxHeartbeats 2000000
/-! Ab: super().__init__(..) as the first statement of an __init__. -/
namespace Ab
open PySem PySem.Spec PyProof.Rows L2
abbrev nfOf (x qual : Str) (st : Stmt) (cc c : Addr) : NdefX.NF := ⟨x, qual, defArgs st, defBody st, defScope st, [("__class__", cc)], c⟩
/-- what of the text such a def must have -/
structure SupF (T : Wh) (x qual : Str) (st : Stmt) (f c cc D f2 : Addr) (ps : List Str) : Prop where
  kp : PySem.W.keepIn T.K (.ref f) = true
  lk : ∃ (oc kV doc pm ct : Value) (an od : Option Addr) (osl : Array (Option Value)), T.K.lookup f = some ⟨oc, od, .func (PySem.W.fnX x qual (defArgs st) (defBody st) (defScope st) [("__class__", cc)] .none kV doc pm an (.ref c) ct), osl⟩
  hcd : PySem.W.codeIn T.K (.ref c) qual = true
  lc : ∃ (ccl : Value) (cdd : Option Addr) (vs : Array Value) (ccs : Array (Option Value)) (file : Str) (tf : Tok), T.K.lookup c = some ⟨ccl, cdd, .fields vs, ccs⟩ ∧ vs[2]? = some (.str file tf) ∧ ((T.P.main.file : Str) == file) = true
  cell : ∃ (cl : Value) (cld : Option Addr) (csl : Array (Option Value)), T.K.lookup cc = some ⟨cl, cld, .cell (some (.ref D)), csl⟩
  cls : (PySem.W.clsIn T.K D).isSome = true
  mro : PySem.W.mroIn T.K D (.ref D) = some true
  sup : PySem.W.ks_superIn T.K D D "__init__" = some (some (.ref f2))
  ty : PySem.W.typeIn T.K (.ref f2) = some (.type "function")
  fi : PySem.W.fnIn T.K f2 = true
  any_ : PySem.W.nsIn T.K PySem.cStatics "thirdparty.any" = some none
  sg : T.mg "super" = none
  top : (T.P.main.scope.names.lookup ("super" : Str)).isSome = false
/-- super().__init__(..): C the class of the object, mf the __init__ above it -/
@[reducible] def mSup (C : Nat) (mf : MF) (t : MA) : ME := fun ρ st => match ρ[0]? with
  | some (some x) => if isIns C st x = true then (t ρ st).bind fun ws st1 => mf (x :: ws) st1 else .bad
  | _ => .bad
section
variable {T : Wh} {x qual : Str} {st : Stmt} {f c cc D f2 : Addr} {N ps : List Str}
/-- the body's context -/
abbrev ncS (T : Wh) (N : List Str) (x qual : Str) (st : Stmt) (cc c f : Addr) (A : Around) (outer : List Env) (s : Shared) (H : Hp) (E : XK) : Cx := NdefX.ncx (L2.CX T.P T.w) T.P T.w T.K T.mg T.base N (nfOf x qual st cc c) f A outer s H E
theorem run_bm {X : Cx} {pins : List (Addr × Obj)} {σ : L2.St} {H : Hp} {s : Shared} {k : Nat} {q xa g : Addr} {fd : FuncData} {ps : List Str} {sp : Sp} {E : XK} {Q : VK} {us : List Value} {vs : List V} (F : FnOk X.prog X.w X.K X.mg X.base (L2.CX X.prog X.w) k g fd ps sp) (hb : Binds X.K fd ps []) (hr : Room k X.A)
    (hx : PassesAt (L2.CX X.prog X.w) X σ E) (I : L2.Inv X ((q, PySem.W.methodObj (.ref g) (.ref xa)) :: pins) σ H s) (r : Vals vs us) (h : sp (.ref xa :: vs) H Q E) : wpAny (model X.prog X.w) X.A (call (.ref q) us) (EP X pins σ Q) X.xe s := by
  have r' : Vals (V.ref xa :: vs) (Value.ref xa :: us) := .cons rfl r
  have hl2 : (Value.ref xa :: us).length = ps.length := by rw [← r'.length]; exact F.len _ _ _ _ h
  have b := hb s (Value.ref xa :: us) I.kIn (by rw [List.append_nil]; exact hl2)
  rw [List.append_nil] at b
  have z : wpAny (model X.prog X.w) X.A (call (.ref q) us) (EP X ((q, PySem.W.methodObj (.ref g) (.ref xa)) :: pins) σ Q) X.xe s := by
    refine wpAny_call (PySem.W.method_call (ClX.pin_at I) (codeAny_mono (F.run X.A X.stack s H ⟨Value.ref xa :: us, []⟩ (Value.ref xa :: us) _ Q E hr I.env0 b r' h) fun r s' hq => ?_))
    cases r with
    | error er => exact hx _ H s er s' I hq
    | ok fl =>
      cases fl with
      | ret u => exact I.after hq
      | next => exact False.elim hq
      | brk => exact False.elim hq
      | cont => exact False.elim hq
  exact thn z fun _ _ y => ClX.unpinE y
/-- super() -/
theorem super_obj (S : SupF T x qual st f c cc D f2 ps) {A : Around} {outer : List Env} {s0 : Shared} {H0 : Hp} {E0' : XK} {pins : List (Addr × Obj)} {σ : L2.St} {H : Hp} {s : Shared} {xa dx : Addr} {fs : List (Str × V)} {ar : Arg} {p0 p1 : Pos} {whole : Sem Value} {body0 : List Stmt} {Q : Value → Shared → Prop} {E : Value → Shared → Prop} (I : L2.Inv (ncS T N x qual st cc c f A outer s0 H0 E0') pins σ H s)
    (hN : N[0]? = some ar.arg) (hσ : σ[0]? = some (some (.ref xa))) (ea : H xa = some (.ins D dx fs)) (hp : ((defArgs st).posonlyargs ++ (defArgs st).args).head? = some ar)
    (hk : (defScope st).kind = .function) (hks : (defScope st).names.lookup ("super" : Str) = some .globalImplicit) (hkc : (defScope st).names.lookup ("__class__" : Str) = some .free) (hka : (defScope st).names.lookup ar.arg = some .local)
    (h : ∀ so s', L2.Inv (ncS T N x qual st cc c f A outer s0 H0 E0') ((so, PySem.W.ks_superObj D xa D) :: pins) σ H s' → T.base.get? so = none → Q (.ref so) s') :
    _root_.PySem.wpAt (model T.P T.w) (ncS T N x qual st cc c f A outer s0 H0 E0').A (.func body0 (ncS T N x qual st cc c f A outer s0 H0 E0').env) (attributeBase (.Call (.Name "super" p0) [] [] p1) "__init__" (ncS T N x qual st cc c f A outer s0 H0 E0').env whole) Q E s := by
  obtain ⟨oc, kV, doc, pm, ct, an, od, osl, lk⟩ := S.lk
  obtain ⟨ccl, cdd, vs, ccs, file, tf, lc, hvs, hfile⟩ := S.lc
  obtain ⟨cl, cld, csl, lcell⟩ := S.cell
  obtain ⟨cdD, hcD⟩ := Option.isSome_iff_exists.mp S.cls
  have KI : T.K.In s.heap := I.kIn
  obtain ⟨mA, O, _⟩ := ins_get I.hok ea
  obtain ⟨odx, J, _⟩ := O.look
  obtain ⟨oD, hD1, hD2⟩ : ∃ oD, s.heap.get? D = some oD ∧ oD.data = .cls cdD := by
    unfold PySem.W.clsIn at hcD
    split at hcD
    · rename_i c1 d1 cd' sl1 ho
      cases hcD
      exact ⟨_, KI _ _ ho, rfl⟩
    · cases hcD
  obtain ⟨m, hn, hl⟩ := I.loc
  obtain ⟨u, r, l⟩ := hl 0 ar.arg (.ref xa) hN hσ (.inl hka)
  obtain rfl : u = Value.ref xa := r
  have hm : m ar.arg = some (.ref xa) := by
    rcases l with ⟨_, hm⟩ | ⟨hk', _⟩
    · exact hm
    · have e : (ncS T N x qual st cc c f A outer s0 H0 E0').env.kindOf ar.arg = some .local := hka
      rw [e] at hk'
      rcases hk' with z | z <;> cases z
  obtain ⟨mb, h1, h2⟩ := I.mod.blt
  refine PySem.ks_wpAt_super_base (env := (ncS T N x qual st cc c f A outer s0 H0 E0').env) hks hkc (by decide +kernel) rfl (KI _ _ lk) rfl hp rfl (KI _ _ lc) rfl hvs hfile S.top ?_
  refine PySem.W.ks_loadName_global I.ok.kind hks (Calls.loadGlobal_builtin (by rw [I.ok.glob]; exact I.mod.glob.keeps I.bk) S.sg (by rw [I.ok.blt]; exact h1.keeps I.bk) ((h2 "super" (by decide +kernel)).trans PyProof.Rows.Boot.«super») ⟨rfl, ?_⟩)
  refine wpAny_loadName_free I.ok.kind hkc (c := cc) (by show ([(("__class__" : Str), cc)] : List (Str × Addr)).lookup ("__class__" : Str) = some cc; simp [List.lookup]) ⟨_, KI _ _ lcell, rfl⟩ ?_
  refine wpAny_loadName_local I.ok.kind hka hn hm ?_
  refine PySem.ks_wpAny_isType_cls hD1 hD2 ⟨rfl, ?_⟩
  obtain ⟨hh, g, d, t, os⟩ := s
  refine PySem.ks_wpAny_call_super hD1 hD2 J.at_ J.cls (fun c e => ?_) (PySem.W.looks_mroIn KI S.mro) (fun h' e k => ?_)
  · have := J.no
    unfold PySem.W.notCls at this
    rw [e] at this
    exact Bool.noConfusion this
  · exact h _ _ (ClX.pin_new (t' := t) I k (Nat.le_refl _) e (fun v z => nomatch z)) (ClX.base_none I (Nat.le_refl _))
/-- .. .__init__, bound -/
theorem super_init (S : SupF T x qual st f c cc D f2 ps) {X : Cx} (hX : X.K = T.K) (hP : X.prog = T.P) {pins : List (Addr × Obj)} {σ : L2.St} {H : Hp} {s : Shared} {xa dx so : Addr} {fs : List (Str × V)} {pl : Sem Bool} {A : Around} {E : Value → Shared → Prop} {Q : Value × List Value → Shared → Prop} (I : L2.Inv X ((so, PySem.W.ks_superObj D xa D) :: pins) σ H s) (ea : H xa = some (.ins D dx fs))
    (h : ∀ q s', L2.Inv X ((q, PySem.W.methodObj (.ref f2) (.ref xa)) :: (so, PySem.W.ks_superObj D xa D) :: pins) σ H s' → X.base.get? q = none → Q (.ref q, []) s') : wpAny (model X.prog X.w) A (getMethod (.ref so) "__init__" pl) Q E s := by
  have KI : T.K.In s.heap := hX ▸ I.kIn
  obtain ⟨mA, O, _⟩ := ins_get I.hok ea
  obtain ⟨odx, J, _⟩ := O.look
  have hso := ClX.pin_at I
  obtain ⟨cd, hc⟩ := Option.isSome_iff_exists.mp S.cls
  have hm := S.sup
  unfold PySem.W.ks_superIn at hm
  rw [hc] at hm
  obtain ⟨hh, g, d, t, os⟩ := s
  obtain ⟨of, hof, hofc⟩ : ∃ of, hh.get? f2 = some of ∧ of.cls = .type "function" := by
    have ht' : (T.K.lookup f2).map (·.cls) = some (.type "function") := S.ty
    cases z : T.K.lookup f2 with
    | none => rw [z] at ht'; cases ht'
    | some of => rw [z] at ht'; exact ⟨of, KI _ _ z, Option.some.inj ht'⟩
  refine PySem.ks_wpAny_getMethod_super hso (PySem.W.looks_opaque KI S.any_) (l₀ := cd.mro) ?_ rfl KI hm hof hofc (PySem.W.ks_ne KI J hc) (by decide +kernel) ?_
  · exact fun A Q E s k q => wpAny_bind ((PySem.W.looks_clsIn KI hc) A _ E s k (wpAny_pure q))
  · exact h _ _ (ClX.pin_new (t' := t + 1) I (fun b o e => Heap.get?_push_of_some _ e) (Nat.le_refl _) (Heap.get?_push_size _ rfl) (fun v z => nomatch z)) (ClX.base_none I (Nat.le_refl _))
theorem post_fin {K : PySem.W.Frag} {mg : Str → Option Value} {ι : List Addr} {H : Hp} {Q : VK} {E : Value → Option Addr → Hp → Prop} {o : O} (p : Post K mg (rel1 mg) ι H Q E o.fin) : PostO K mg (fun cls d _ H => E cls d H) ι H { nx := fun _ H' => Q .non H', rt := Q } o := by
  cases o with
  | nx ρ s1 => exact fun ι1 H1 σ1 l S1 sl => p ι1 H1 _ l S1 Rep.non
  | ret w s1 => exact p
  | exc x ρ s1 => exact fun ι1 H1 σ1 c d l S1 sl r => p ι1 H1 c d l S1 r
  | brk ρ s1 => exact p.elim
  | ct ρ s1 => exact p.elim
  | bad => exact p.elim
theorem fnS_of {k n n2 m C : Nat} {mf : MF} {ta : MA} {m2 : MS} {ar : Arg} {e : Expr} {es : List Expr} {rest : List Stmt} {p0 p1 apos pos epos : Pos} (S : SupF T x qual st f c cc D f2 ps) (hC : T.mg (nm C) = some (.ref D)) (h2 : FnM T k n2 f2 mf)
    (SN : NdefX.NScope N ps ["__class__"] (defScope st)) (hn : ps.length = n) (hm : N.length = n + (m + 1)) (hN : N[0]? = some ar.arg) (hn0 : 0 < n)
    (hbody : defBody st = .Expr (.Call (.Attribute (.Call (.Name "super" p0) [] [] p1) "__init__" apos) (e :: es) [] pos) epos :: rest)
    (hp : ((defArgs st).posonlyargs ++ (defArgs st).args).head? = some ar) (hks : (defScope st).names.lookup ("super" : Str) = some .globalImplicit)
    (hb : ∀ (kV doc pm ct : Value) (an : Option Addr) (us : List Value), us.length = ps.length → bindArgs (PySem.W.fnX x qual (defArgs st) (defBody st) (defScope st) [("__class__", cc)] .none kV doc pm an (.ref c) ct) ⟨us, []⟩ = pure (ps.zip us))
    (hst : ∀ (A : Around) (outer : List Env) (s : Shared) (H : Hp) (E : XK), starEach (e :: es) (ncS T N x qual st cc c f A outer s H E).env = (false, eval e (ncS T N x qual st cc c f A outer s H E).env) :: starEach es (ncS T N x qual st cc c f A outer s H E).env)
    (hpl : ∀ (A : Around) (outer : List Env) (s : Shared) (H : Hp) (E : XK), (backTo pos (starEach es (ncS T N x qual st cc c f A outer s H E).env)).any (·.1) = false)
    (hms : ∀ (A : Around) (outer : List Env) (s : Shared) (H : Hp) (E : XK), ∃ pl : Sem Bool, eval (.Call (.Attribute (.Call (.Name "super" p0) [] [] p1) "__init__" apos) (e :: es) [] pos) (ncS T N x qual st cc c f A outer s H E).env = (do
      let ov ← attributeBase (.Call (.Name "super" p0) [] [] p1) "__init__" (ncS T N x qual st cc c f A outer s H E).env (eval (.Call (.Name "super" p0) [] [] p1) (ncS T N x qual st cc c f A outer s H E).env)
      standAt apos.atName
      let (f', first) ← holding [ov] (getMethod ov "__init__" pl)
      callWith pos f' first (backTo pos (starEach (e :: es) (ncS T N x qual st cc c f A outer s H E).env)) []))
    (hsw : ∀ (A : Around) (outer : List Env) (s : Shared) (H : Hp) (E : XK), swapsWith (.Call (.Attribute (.Call (.Name "super" p0) [] [] p1) "__init__" apos) (e :: es) [] pos) none epos.line (ncS T N x qual st cc c f A outer s H E).env = pure false)
    (hint : ∀ (A : Around) (outer : List Env) (s : Shared) (H : Hp) (E : XK), interactive (ncS T N x qual st cc c f A outer s H E).env = false)
    (ha : ∀ (A : Around) (outer : List Env) (s : Shared) (H : Hp) (E : XK), JA (ncS T N x qual st cc c f A outer s H E) (e :: es) ta)
    (hrest : ∀ (A : Around) (outer : List Env) (s : Shared) (H : Hp) (E : XK), Room k (ncS T N x qual st cc c f A outer s H E).A → JSs (ncS T N x qual st cc c f A outer s H E) rest m2) :
    FnM T (k + 1) n f (defM n (m + 1) (sSeq (sDrop (mSup C mf ta)) m2)) := by
  obtain ⟨fd2, ps2, hl2, hk2, hb2, F2⟩ := h2
  have lkS := S.lk
  obtain ⟨oc, kV, doc, pm, ct, an, od, osl, lk⟩ := lkS
  obtain ⟨cl, cld, csl, lcell⟩ := S.cell
  have len : ∀ vs H Q E, spM T.K T.mg (defM n (m + 1) (sSeq (sDrop (mSup C mf ta)) m2)) vs H Q E → vs.length = ps.length := fun vs H Q E hsp => by
    obtain ⟨ι, ws, st', S', r, q⟩ := hsp
    unfold defM at q
    split at q
    · rename_i hl
      rw [← r.length, hl, hn]
    · exact q.elim
  refine ⟨_, ps, hn, S.kp, Binds.all (fun us hl => hb kV doc pm ct an us hl), len, fun A outer s H args us vs Q E hr e0 hbi r hsp => ?_⟩
  have hl := len _ _ _ _ hsp
  have KX : T.K.In s.heap := e0.mod.kin.keeps fun b o e => (e0.bs b o e).1
  have lim : s.heap.NoLimit := e0.mod.nolimit.keeps fun b o e => (e0.bs b o e).1
  have Cs : NdefX.CellsAt [(("__class__" : Str), cc)] ["__class__"] [none] s.heap H := by
    have one : ∀ y c', ([(("__class__" : Str), cc)] : List (Str × Addr)).lookup y = some c' → y = "__class__" ∧ c' = cc := fun y c' h => by
      rw [List.lookup_cons] at h
      split at h
      · rename_i q
        cases h
        exact ⟨by simpa using q, rfl⟩
      · cases h
    have hH : H cc = none := (e0.bs cc _ (e0.mod.kin _ _ lcell)).2
    refine ⟨rfl, fun y c' h => ?_, fun x y c' h1 h2 => by rw [(one x c' h1).1, (one y c' h2).1], fun i y h => ?_⟩
    · rw [(one y c' h).2]
      exact ⟨hH, _, _, KX _ _ lcell, rfl⟩
    · cases i with
      | zero =>
        cases h
        exact ⟨cc, by simp [List.lookup], fun v hv => by simp at hv⟩
      | succ i => simp at h
  refine codeAny_call_function hr.depth (KX _ _ lk) rfl SN.co SN.gen rfl (PySem.W.codeRec_of KX S.hcd) (hbi _ _ _ _ ?_)
  refine wpAny_newFunctionEnv SN.nocell (fun ⟨n, _⟩ hy => SN.par n (List.of_mem_zip hy).1) (fun h₁ hns hsb => ⟨lim.fresh _ hsb, ?_⟩) SN.kind
  show codeAny _ _ (.func (defBody st) (NdefX.envF (nfOf x qual st cc c) f s.heap.objs.size)) _ _
  have kp : ∀ b o, s.heap.get? b = some o → h₁.get? b = some o := fun b o e => hsb.extBut b o (Nat.ne_of_lt (Heap.lt_size e)) (Heap.get?_push_of_some _ e)
  have I : L2.Inv (ncS T N x qual st cc c f A outer s H E) [] (NdefX.startF N vs [none]) H { s with heap := h₁, toks := s.toks + (ps.zip us).length } := NdefX.inv_startN SN hr.hd e0 hl r Cs hns kp
  have hr1 : Room k (ncS T N x qual st cc c f A outer s H E).A := hr.deeper _
  refine PySem.ks_codeAny_funcAt ?_
  have fin : ∀ {σ' : L2.St} {H' : Hp} {s' : Shared} {v : V} {u : Value}, L2.Inv (ncS T N x qual st cc c f A outer s H E) [] σ' H' s' → L2.RelV v u → Q v H' → CE outer T.P T.w H s Q u s' :=
    fun {σ' H' s' v u} J rv q => ⟨v, H', J.os, J.bare, J.base, J.hok, rv, q⟩
  have done : ∀ (fl : Flow) (s' : Shared), SP (ncS T N x qual st cc c f A outer s H E) [] { nx := fun _ H' => Q .non H', rt := Q } fl s' → CR (L2.CX T.P T.w) outer T.P T.w H s Q E (.ok (.ret (match fl with | .ret v => v | _ => .none))) s' := fun fl s' hs => by
    cases fl with
    | ret u =>
      obtain ⟨v, σ', H', J, rv, q⟩ := hs
      exact fin J rv q
    | next =>
      obtain ⟨σ', H', J, q⟩ := hs
      exact fin (v := V.non) (u := Value.none) J rfl q
    | brk =>
      obtain ⟨_, _, _, q⟩ := hs
      exact False.elim q
    | cont =>
      obtain ⟨_, _, _, q⟩ := hs
      exact False.elim q
  obtain ⟨ι, ws, st', S', r2, q⟩ := hsp
  unfold defM at q
  split at q
  case isFalse => exact q.elim
  rename_i hlw
  replace q := post_fin q
  have eσ : NdefX.startF N vs [none] = L2.start N vs := by
    unfold NdefX.startF L2.start
    rw [show N.length - vs.length = (m + 1) by rw [hm, hl, hn]; omega, List.replicate_succ]
    rfl
  have sl : SlotsOk T.mg ι H (ws.map some ++ List.replicate (m + 1) none) (NdefX.startF N vs [none]) := by
    rw [eσ]
    exact slots_start r2 (by rw [hlw]; exact hm)
  generalize hρ : ws.map some ++ List.replicate (m + 1) none = ρ at q sl
  generalize hσ : NdefX.startF N vs [none] = σ at I sl
  have tk : Takes (ncS T N x qual st cc c f A outer s H E) (fun cls d _ H => E cls d H) := takes_of rfl rfl rfl rfl
  have q1 : Post T.K T.mg (rel1 T.mg) ι H (fun _ H3 => rdS T.K T.mg (fun cls d _ H => E cls d H) m2 { nx := fun _ H' => Q .non H', rt := Q } σ H3) (fun c d H' => E c d H') (mSup C mf ta ρ st') := by
    dsimp only [sSeq, sDrop] at q
    cases e1 : mSup C mf ta ρ st' with
    | ok v st1 =>
      rw [e1] at q
      exact fun ι1 H1 b l S1 r => ⟨ι1, ρ, st1, S1, sl.later l, PostO.later q l⟩
    | exc y st1 =>
      rw [e1] at q
      exact fun ι1 H1 c d l S1 er => q ι1 H1 σ c d l S1 (sl.later l) er
    | bad => rw [e1] at q; exact q.elim
  dsimp only [mSup] at q1
  split at q1
  case h_2 => exact q1.elim
  rename_i xv e0'
  split at q1
  case isFalse => exact q1.elim
  rename_i hins
  obtain ⟨n0, fs, ex, ec⟩ := isIns_at hins
  subst ex
  obtain ⟨v0, hv0, rv0⟩ := sl.2 0 _ e0'
  obtain ⟨xa, f1, g1⟩ := Rep.ref_inv rv0
  subst f1
  obtain ⟨Ca, dx, vsx, i1, ea, i3⟩ := S'.at ec g1
  rw [hC] at i1
  cases i1
  have q2 : Post T.K T.mg (relL T.mg) ι H (fun vs2 H2 => spM T.K T.mg mf (.ref xa :: vs2) H2 (fun _ H3 => rdS T.K T.mg (fun cls d _ H => E cls d H) m2 { nx := fun _ H' => Q .non H', rt := Q } σ H3) (WE (fun cls d _ H => E cls d H) σ)) (fun c d H' => E c d H') (ta ρ st') :=
    Post.bind q1 fun ws1 st1 ι1 H1 vs2 l1 S1 r1 p1 => ⟨ι1, _, st1, S1, .cons (Rep.later l1 rv0) r1, p1⟩
  rw [hbody]
  refine PySem.ks_wpAt_execs_cons ?_
  refine PySem.ks_wpAt_Expr_any (env := (ncS T N x qual st cc c f A outer s H E).env) ?_ (hint A outer s H E) (hsw A outer s H E)
  obtain ⟨pl, hev⟩ := hms A outer s H E
  refine PySem.ks_wpAt_MethodCall (pl := pl) ?_ hev
  have hkc : (defScope st).names.lookup ("__class__" : Str) = some .free := SN.frk _ List.mem_cons_self
  have hka : (defScope st).names.lookup ar.arg = some .local := SN.par _ (by
    have hz : (N.take (ps.length + 1))[0]? = some ar.arg := by rw [List.getElem?_take_of_lt (by omega)]; exact hN
    have pre := SN.pre
    rw [show (["__class__"] : List Str).length = 1 from rfl] at pre
    rw [pre, List.getElem?_append_left (by omega)] at hz
    exact List.mem_of_getElem? hz)
  refine super_obj S I hN hv0 ea hp SN.kind hks hkc hka fun so s2 I2 hbso => ?_
  refine super_init S (X := ncS T N x qual st cc c f A outer s H E) rfl rfl I2 ea fun qm s3 I3 hbq => ?_
  have hA := ((ha A outer s H E) (fun cls d _ H => E cls d H) tk).run pos _ s3 σ H _ I3 ⟨ι, ρ, st', S', sl, q2⟩
  refine ClX.callwith_cm I3 hbq S.fi (thn hA fun us2 s4 ⟨vs2, H2, I4, rv, hq2⟩ => ⟨⟨ClX.pin_at I4, I4.kIn⟩, ?_⟩) (hst A outer s H E) (hpl A outer s H E)
  refine thn (run_bm F2 hb2 hr1 (passAt tk σ) I4 rv hq2) fun u s5 ⟨v5, H5, I5, r5, hrd⟩ => ?_
  refine _root_.PySem.wpAt_of_wpAny (wpAny_mono ((hrest A outer s H E hr1 (fun cls d _ H => E cls d H) tk).run [] s5 σ H5 _ (ClX.unpin I5) hrd) (fun fl s' hs => done fl s' hs) fun e s' hs => hs)
end
end Ab

set_option Elab.async false
set_option linter.all false
set_option maxRecDepth 100000
set_option maxHeartbeats 2000000
namespace PySem
open PySem.W PySem.Calls PyProof.Rows
section
variable {prog : Program} {w : World} {A : Around} {E : Value → Shared → Prop} {s : Shared} {K : W.Frag} {C : Addr} {name : Str}
theorem raiseAE {α : Type} {msg : Str} {Q : α → Shared → Prop} (hh : A.handled = none)
    (h : ∀ h' tk e, (∀ b o, s.heap.get? b = some o → h'.get? b = some o) → (∃ o, h'.get? e = some o ∧ o.cls = .type "AttributeError") → E (.ref e) { s with heap := h', toks := tk }) (hm : msg.length ≤ sizeLine) :
    wpAny (model prog w) A (raiseErrorStr "AttributeError" msg : Sem α) Q E s := by
  unfold raiseErrorStr
  refine wpAny_bind (wpAny_mkStr (wpAny_bind ?_) hm)
  unfold newExc newTuple
  refine wpAny_bind (wpAny_newObj_type ?_ (by size_fits))
  refine wpAny_bind (m := firstArgMember _ _) (wpAny_of_eq (a := Value.none) (by simp only [firstArgMember, attrError_no_first]; rfl) ?_)
  rw [ownMembersOf_AttributeError]
  refine wpAny_newObj_type ?_ (by size_fits)
  obtain ⟨hp, g, d, tk, os⟩ := s
  unfold raiseNew
  refine wpAny_bind (wpAny_handled ?_)
  rw [hh]
  first
    | refine wpAny_throw ?_
    | refine wpAny_bind (wpAny_pure (wpAny_throw ?_))
  dsimp only
  exact h _ _ _ (fun b ob hb => Heap.get?_push_of_some _ (Heap.get?_push_of_some _ hb)) ⟨_, Heap.get?_push_size _ rfl, rfl⟩
end
end PySem
namespace PySem
open PySem.W PySem.Calls PyProof.Rows
/-- the words of the error, short enough -/
def missMsg (n name : Str) : Bool := decide (n.cps.foldl (fun k c => k + (Str.utf8Of c).length) 0 ≤ 100) && decide (((s!"type object '{n.toString}' has no attribute '" : Str) ++ name ++ "'").length ≤ 1000)
section
variable {prog : Program} {w : World} {A : Around} {E : Value → Shared → Prop} {s : Shared} {K : W.Frag} {C : Addr} {name : Str}
theorem type_hook : typeLookup (.type "type") "__getattr__" = pure none := by rw [typeLookup_type, builtinLookup_eq_fast]; kernel_rfl
theorem miss_cls {cd : ClassData} {Q : Option Value → Shared → Prop} {tk : Tok} (X : K.In s.heap) (hr : readsIn K C (.type "type") = true) (hm0 : findIn K (.type "type") name = some none) (hmc : findIn K (.ref C) name = some none) (hcl : clsIn K C = some cd) (hmsg : missMsg cd.name name = true) (hA : A.handled = none)
    (h : ∀ h' t', (∀ b o, s.heap.get? b = some o → h'.get? b = some o) → Q none { s with heap := h', toks := t' }) : wpAny (model prog w) A (getAttrBy? (.ref C) (.str name tk)) Q E s := by
  simp only [readsIn, Bool.and_eq_true, beq_iff_eq] at hr
  obtain ⟨⟨⟨⟨a, b⟩, c'⟩, d⟩, f⟩ := hr
  unfold missMsg at hmsg
  rw [Bool.and_eq_true, decide_eq_true_iff, decide_eq_true_iff] at hmsg
  have ho := looks_opaque (M := model prog w) (C := C) X a
  have ht := looks_typeIn (M := model prog w) X b
  obtain ⟨hh, g, dr, t, os⟩ := s
  have f1 := sub_AttributeError
  unfold getAttrBy? getAttrBy
  refine wpAny_bind (wpAny_attempt (wpAny_holding (wpAny_bind (ht.at (wpAny_bind ((looks_findIn X c').at ?_))))))
  dsimp only
  rw [show (onTheHeap (.type "type") && Value.builtin "type.__getattribute__" == Value.builtin "object.__getattribute__") = false from rfl, if_neg (by decide)]
  unfold getAttrByItsOwn
  refine wpAny_bind (wpAny_pure (wpAny_bind (wpAny_attempt (wpAny_holding ?_))))
  unfold callGetattribute
  rw [show (false && onTheHeap (Value.builtin "type.__getattribute__")) = false from rfl, if_neg (by decide)]
  unfold boundAndCalled
  rw [KF.slot_tga.bind]
  refine wpAny_bind (wpAny_pure ?_)
  show wpAny _ _ (call (.builtin "type.__getattribute__") [.ref C, .str name tk]) _ _ _
  refine wpAny_call ?_
  refine codeAny_call_builtin KF.slot_tga.plain KF.entry_tga ?_
  refine @check_slot (model prog w) _ _ ⟨hh, g, dr, t, os⟩ "type.__getattribute__" "type" "__getattribute__" (.ref C) [.str name tk] [] _ (by decide +kernel) (by decide +kernel) (ht.andThen (looks_subIn X f)) (KF.args_tga (.ref C) (.str name tk)) ?_
  unfold Builtin.«type.__getattribute__»
  refine wpAny_bind (wpAny_pure (wpAny_bind (ho.at (wpAny_bind (ht.at (wpAny_bind ((looks_findIn X hm0).at ?_)))))))
  refine wpAny_bind (wpAny_pure (wpAny_bind ((looks_findIn X hmc).at ?_)))
  refine wpAny_bind (wpAny_rule ?_)
  unfold typeNameCut
  refine wpAny_bind (wpAny_bind ((looks_clsIn X hcl).at ?_))
  rw [if_pos hmsg.1]
  refine wpAny_pure ?_
  refine raiseAE (show A.handled = none from hA) (fun h' tk' e kp he => ?_) (Nat.le_trans hmsg.2 (by rw [sizeLine_eq]; omega))
  dsimp only
  have hT : (⟨h', g, dr, tk', os⟩ : Shared).TypeIs (.ref e) "AttributeError" := he
  have f2 := type_hook
  show wpAny _ _ (getattributeRaised _ _ _ _ _ _ _) _ _ _
  unfold getattributeRaised
  repeat (any_goals (first | assumption | wp_step))
  exact h _ _ kp
end
end PySem
namespace PySem
open PySem.W PySem.Calls PyProof.Rows
section
variable {prog : Program} {w : World} {A : Around} {E : Value → Shared → Prop} {s : Shared} {K : W.Frag} {x y C C2 f f2 : Addr} {ox oy : Obj} {od od2 : Option Obj}
theorem InstAt.kept' {h h' : Heap} {x C : Addr} {ox : Obj} {od : Option Obj} (I : InstAt h x ox C od) (k : ∀ b o, h.get? b = some o → h'.get? b = some o) : InstAt h' x ox C od := by
  refine ⟨k _ _ I.at_, I.cls, I.no, ?_⟩
  have := I.dict
  revert this
  cases ox.dict <;> cases od <;> intro this <;> first | exact this | exact k _ _ this
theorem rd_false {nm : String} {cd : ClassData} {Q : Bool → Shared → Prop} (X : K.In s.heap) (hs : findIn K (.ref C) (PySem.dunder nm) = some (some (.ref f))) (hr : findIn K (.ref C) (dunderR nm) = some none) (hs2 : findIn K (.ref C2) (PySem.dunder nm) = some (some (.ref f2))) (hr2 : findIn K (.ref C2) (dunderR nm) = some none)
    (hread : readsIn K C2 (.type "type") = true) (hm0 : findIn K (.type "type") (dunderR nm) = some none) (hcl : clsIn K C2 = some cd) (hmsg : missMsg cd.name (dunderR nm) = true) (hA : A.handled = none) (hsz : (dunderR nm).length ≤ sizeLine)
    (h : ∀ h' t', (∀ b o, s.heap.get? b = some o → h'.get? b = some o) → Q false { s with heap := h', toks := t' }) : wpAny (model prog w) A (reflectedDiffers (.ref C) (.ref C2) nm) Q E s := by
  have L6 : Looks (model prog w) s.heap (numberSlotInPython (.ref C) nm) true := ksp_inPy X hs hr (.inl rfl)
  have L7 : Looks (model prog w) s.heap (numberSlotInPython (.ref C2) nm) true := ksp_inPy X hs2 hr2 (.inl rfl)
  obtain ⟨hh, g, d, t, os⟩ := s
  unfold reflectedDiffers
  refine wpAny_bind (L6.at ?_)
  refine wpAny_bind (L7.at ?_)
  refine wpAny_bind (wpAny_mkStr ?_ hsz)
  refine wpAny_bind (miss_cls (s := ⟨hh, g, d, t + 1, os⟩) X hread hm0 hr2 hcl hmsg hA fun h' t' k => ?_)
  exact wpAny_pure (h h' t' k)
theorem binop_two {op : Operator} {b : Bool} {cd : ClassData} {Q : Value → Shared → Prop} (X : K.In s.heap) (I : InstAt s.heap x ox C od) (I2 : InstAt s.heap y oy C2 od2) (hne : C ≠ C2) (hc : selfFirst K C = true) (hc2 : selfFirst K C2 = true)
    (hs : findIn K (.ref C) (PySem.dunder op.info.2) = some (some (.ref f))) (hr : findIn K (.ref C) (dunderR op.info.2) = some none) (hs2 : findIn K (.ref C2) (PySem.dunder op.info.2) = some (some (.ref f2))) (hr2 : findIn K (.ref C2) (dunderR op.info.2) = some none) (hf : isFn K (.ref f) = true)
    (hsub : subIn K (.ref C2) (.ref C) = some b) (hread : readsIn K C2 (.type "type") = true) (hm0 : findIn K (.type "type") (dunderR op.info.2) = some none) (hcl : clsIn K C2 = some cd) (hmsg : missMsg cd.name (dunderR op.info.2) = true) (hA : A.handled = none) (hsz : (dunderR op.info.2).length ≤ sizeLine)
    (h : ∀ (h' : Heap) (t' : Nat), (∀ b o, s.heap.get? b = some o → h'.get? b = some o) → wpAny (model prog w) A (call (.ref f) [.ref x, .ref y]) (PySem.W.CmpBack Q) E { s with heap := h', toks := t' }) : wpAny (model prog w) A (binaryOp op (.ref x) (.ref y)) Q E s := by
  obtain ⟨cdC, rest, hcdC, hmC⟩ := ksp_first hc
  obtain ⟨cd2, rest2, hcd2, hm2⟩ := ksp_first hc2
  rcases hi : op.info with ⟨sym, nm'⟩
  rw [hi] at hs hr hs2 hr2 hm0 hmsg hsz
  dsimp only at hs hr hs2 hr2 hm0 hmsg hsz
  have hneV : (Value.ref C == Value.ref C2) = false := by simp [hne]
  -- from where the reflected question is answered
  have go : ∀ (h' : Heap) (t' : Nat), (∀ b o, s.heap.get? b = some o → h'.get? b = some o) → wpAny (model prog w) A (tryMethod (.ref x) (PySem.dunder nm') (.ref y)) (fun r s' => ∃ v, r = some v ∧ Q v s') E { s with heap := h', toks := t' } := fun h' t' k =>
    ksp_try (s := { s with heap := h', toks := t' }) (X.keeps k) (InstAt.kept' I k) hs hf (h h' t' k)
  have L6 : ∀ {h' : Heap}, (∀ b o, s.heap.get? b = some o → h'.get? b = some o) → Looks (model prog w) h' (numberSlotInPython (.ref C) nm') true := fun k => ksp_inPy (X.keeps k) hs hr (.inl rfl)
  have L7 : ∀ {h' : Heap}, (∀ b o, s.heap.get? b = some o → h'.get? b = some o) → Looks (model prog w) h' (numberSlotInPython (.ref C2) nm') true := fun k => ksp_inPy (X.keeps k) hs2 hr2 (.inl rfl)
  have L1 : Looks (model prog w) s.heap (typeOf (.ref x)) (.ref C) := I.type
  have L2 : Looks (model prog w) s.heap (typeOf (.ref y)) (.ref C2) := I2.type
  have L3 : Looks (model prog w) s.heap (fillsNumberSlot (.ref C) nm') true := fills_K X hcdC hmC hs
  have L4 : Looks (model prog w) s.heap (fillsNumberSlot (.ref C2) nm') true := fills_K X hcd2 hm2 hs2
  have L5 : Looks (model prog w) s.heap (isSubtype (.ref C2) (.ref C)) b := looks_subIn X hsub
  have RD : b = true → ∀ Q' : Bool → Shared → Prop, (∀ h' t', (∀ b o, s.heap.get? b = some o → h'.get? b = some o) → Q' false { s with heap := h', toks := t' }) → wpAny (model prog w) A (reflectedDiffers (.ref C) (.ref C2) nm') Q' E s := fun _ Q' q => rd_false X hs hr hs2 hr2 hread hm0 hcl hmsg hA hsz q
  obtain ⟨hh, g, d, tt, os⟩ := s
  simp only [binaryOp, hi]
  refine wpAny_holding (wpAny_bind ?_)
  unfold binaryOp1
  refine wpAny_bind (L1.at (wpAny_bind (L2.at (wpAny_bind (L3.at ?_)))))
  simp only [hneV, Bool.false_eq_true, if_false]
  refine wpAny_bind (L4.at ?_)
  rw [if_pos (show (true && true) = true from rfl)]
  refine wpAny_bind (L5.at ?_)
  cases b
  · rw [if_neg Bool.false_ne_true]
    simp only [Bool.false_eq_true, if_false, Bool.not_false, Bool.and_true, if_true, if_false]
    refine wpAny_bind ((L6 (fun _ _ q => q)).at ?_)
    simp only [if_true]
    refine wpAny_bind ((L7 (fun _ _ q => q)).at ?_)
    simp only [Bool.not_true, Bool.false_eq_true, if_false]
    refine wpAny_bind (wpAny_mono (go _ _ (fun _ _ q => q)) (fun r s' hv => ?_) fun _ _ e => e)
    obtain ⟨v, rfl, hv⟩ := hv
    exact wpAny_pure (wpAny_pure hv)
  · rw [if_pos rfl]
    refine wpAny_bind (RD rfl _ fun h' t' k => ?_)
    simp only [Bool.false_eq_true, if_false, Bool.not_false, Bool.and_true, if_true, if_false]
    refine wpAny_bind ((L6 k).at ?_)
    simp only [if_true]
    refine wpAny_bind ((L7 k).at ?_)
    simp only [Bool.not_true, Bool.false_eq_true, if_false]
    refine wpAny_bind (wpAny_mono (go _ _ k) (fun r s' hv => ?_) fun _ _ e => e)
    obtain ⟨v, rfl, hv⟩ := hv
    exact wpAny_pure (wpAny_pure hv)
end
end PySem

set_option Elab.async false
set_option linter.all false
set_option maxRecDepth 100000
set_option maxHeartbeats 2000000
/-! Ab: classes above each other: C() without an own __init__, constants of the class through an instance, own + between classes. -/
namespace Ab
open PySem PySem.Spec PyProof.Rows L2
/-! ### C() -/
def HasI0 (T : Wh) (C : Nat) : Prop := ∃ Ca, T.mg (nm C) = some (.ref Ca) ∧ PySem.W.makesIn T.K Ca = true ∧ PySem.W.findIn T.K (.ref Ca) "__init__" = some (some (.builtin "object.__init__")) ∧ PySem.W.keepIn T.K (.ref Ca) = true
@[reducible] def mMake0 (C : Nat) : ME := fun _ st => .ok (.ref st.length) (st ++ [.ins C []])
section
variable {X : Cx} {k : Nat} {a b e : Expr} {ma mb m : ME} {p pos : Pos} {mf : MF} {C : Nat} {op : Operator} {x f : Str}
theorem je_make0 (h : HasI0 (Cx.wh X) C) (hx : x = nm C) (hg : Gl X x := by rfl) (hdb : (x == ("__debug__" : Str)) = false := by decide) : JE X (.Call (.Name x p) [] [] pos) (mMake0 C) := fun W tk => by
  obtain ⟨Ca, hC, hm, hi, hk⟩ := h
  have hC : X.mg (nm C) = some (.ref Ca) := hC
  refine ⟨fun pins s σ H Q I ⟨ι, ρ, st, S, sl, q⟩ => ?_⟩
  refine wpAny_Call_Name_kw (ld_glob I hg (by rw [hx]; exact hC) ?_ hdb)
  refine PySem.W.callWith_K0 I.kIn hk ?_
  have I2 := Inv.made (C := Ca) I
  have hq : H (s.heap.objs.size + 1) = none := I.hok.fresh (Nat.le_succ _)
  have hdx : H s.heap.objs.size = none := I.hok.fresh (Nat.le_refl _)
  obtain ⟨S2, l2⟩ := make_sim S hC hq hdx (Nat.ne_of_lt (Nat.lt_succ_self _))
  have e2 : ((s.heap.push PySem.W.emptyDict).push (PySem.W.instObj Ca s.heap.objs.size)).get? (s.heap.objs.size + 1) = some (PySem.W.instObj Ca s.heap.objs.size) := by
    have := Heap.get?_push_size (s.heap.push PySem.W.emptyDict) (o := PySem.W.instObj Ca s.heap.objs.size) rfl
    rwa [Heap.size_push] at this
  refine wpAny_call (make_map0 I.kIn hm hi (fun self => PySem.W.Looks.of_pure (PySem.W.oi_bind self)) ?_)
  have Y := PySem.W.makes_of (M := model X.prog X.w) I.kIn hm
  have t1 : PySem.W.Looks (model X.prog X.w) ((s.heap.push PySem.W.emptyDict).push (PySem.W.instObj Ca s.heap.objs.size)) (typeOf (.ref (s.heap.objs.size + 1))) (.ref Ca) := (PySem.W.Looks.ld e2).andThen .now
  have t2 : PySem.W.Looks (model X.prog X.w) ((s.heap.push PySem.W.emptyDict).push (PySem.W.instObj Ca s.heap.objs.size)) (isInstance (.ref (s.heap.objs.size + 1)) (.type "object")) true := t1.andThen (Y.top.keeps fun b o e => Heap.get?_push_of_some _ (Heap.get?_push_of_some _ e))
  refine codeAny_call_builtin PySem.W.oi_plain PySem.W.entry_oi (@PySem.W.check_slot (model X.prog X.w) _ _ _ "object.__init__" "object" "__init__" (.ref (s.heap.objs.size + 1)) [] [] _ PySem.W.oi_kind PySem.W.oi_split t2 (PySem.W.oi_args (.ref (s.heap.objs.size + 1))) ?_)
  rw [PySem.W.oi_run]
  refine wpAny_pure (And.intro rfl ?_)
  exact ⟨V.ref (s.heap.objs.size + 1), _, I2, rfl, q _ _ _ l2 S2 (Rep.ref (by rw [← S.len, List.getElem?_append_right (Nat.le_refl _)]; simp))⟩
/-! ### a constant of the class -/
def HasCon (T : Wh) (C : Nat) (f v : Str) : Prop := f ∉ nmT ∧ ∀ Ca, T.mg (nm C) = some (.ref Ca) → Cls T.K Ca ∧ ∃ t, Con T.K Ca f (.str v) (.str v t)
@[reducible] def mCon (tbl : List (Nat × Str)) (m : ME) : ME := fun ρ st => (m ρ st).bind fun x st1 => match clsAt st1 x with
  | some C => match tbl.lookup C with
    | some v => .ok (.str v) st1
    | none => .bad
  | none => .bad
theorem je_con {tbl : List (Nat × Str)} (h : ∀ C v, (C, v) ∈ tbl → HasCon (Cx.wh X) C f v) (he : JE X e m) (hb : attributeBase e f X.env (eval e X.env) = eval e X.env := by rfl) : JE X (.Attribute e f pos) (mCon tbl m) := fun W tk => by
  refine PE.weak (pe_con (he W tk) hb) fun σ H Q ⟨ι, ρ, st, S, sl, p⟩ => ?_
  refine ⟨ι, ρ, st, S, sl, Post.bind p fun w st1 ι1 H1 x l1 S1 r1 p1 => ?_⟩
  split at p1
  · rename_i C hC
    split at p1
    · rename_i v hv
      obtain ⟨hf, hh⟩ := h C v (lookup_mem hv)
      obtain ⟨n, fs, e, ec⟩ := clsAt_some hC
      subst e
      obtain ⟨a, e1, ha⟩ := Rep.ref_inv r1
      obtain ⟨Ca, dx, vs, i1, i2, i3⟩ := S1.at ec ha
      obtain ⟨c, t, k⟩ := hh Ca i1
      exact ⟨a, Ca, dx, vs, _, _, e1, i2, c, k, i3.lookup_other hf, p1 ι1 H1 _ (Later.refl _ _) S1 Rep.str⟩
    · exact p1.elim
  · exact p1.elim
/-- C.F, a text -/
theorem je_cconS {v : Str} {Ca : Addr} {mc u : Value} {p2 : Pos} (hm : X.mg x = some (.ref Ca)) (r : ClX.CRead X.K Ca mc) (hv : ClX.CVal X.K Ca mc f (.str v) u) (hg : Gl X x := by rfl) (hd : (x == ("__debug__" : Str)) = false := by decide)
    (hb : attributeBase (.Name x p) f X.env (eval (.Name x p) X.env) = eval (.Name x p) X.env := by rfl) : JE X (.Attribute (.Name x p) f p2) (mC (.str v)) := fun W tk => by
  refine PE.weak (ClX.pe_cval (pe_glob (v := .ref Ca) hg hm rfl hd) hb) fun σ H Q ⟨ι, ρ, st, S, sl, q⟩ => ?_
  exact ⟨Ca, mc, .str v, u, rfl, r, hv, q.okSame S Rep.str⟩
/-! ### own + between classes -/
def missB (K : PySem.W.Frag) (C : Addr) (name : Str) : Bool := match PySem.W.clsIn K C with
  | some cd => missMsg cd.name name
  | none => false
theorem missB_of {K : PySem.W.Frag} {C : Addr} {name : Str} {cd : ClassData} (h : PySem.W.clsIn K C = some cd) (q : missMsg cd.name name = true) : missB K C name = true := by unfold missB; rw [h]; exact q
structure OneG (K : PySem.W.Frag) (op : Operator) (f Ca : Addr) : Prop where
  self : PySem.W.selfFirst K Ca = true
  at_ : PySem.W.findIn K (.ref Ca) (PySem.dunder op.info.2) = some (some (.ref f))
  no : PySem.W.findIn K (.ref Ca) (dunderR op.info.2) = some none
  rd : PySem.W.readsIn K Ca (.type "type") = true
  ms : missB K Ca (dunderR op.info.2) = true
def HasOpG (T : Wh) (L : List Nat) (op : Operator) (k : Nat) (mf : MF) : Prop := ∃ f, PySem.W.isFn T.K (.ref f) = true ∧ FnM T k 2 f mf ∧ PySem.W.findIn T.K (.type "type") (dunderR op.info.2) = some none ∧ (dunderR op.info.2).length ≤ sizeLine ∧
  (∀ C ∈ L, ∀ Ca, T.mg (nm C) = some (.ref Ca) → OneG T.K op f Ca) ∧ ∀ C ∈ L, ∀ C2 ∈ L, ∀ Ca Ca2, T.mg (nm C) = some (.ref Ca) → T.mg (nm C2) = some (.ref Ca2) → (PySem.W.subIn T.K (.ref Ca2) (.ref Ca)).isSome = true
@[reducible] def mOpG (L : List Nat) (mf : MF) (ma mb : ME) : ME := fun ρ st => (ma ρ st).bind fun x st1 => (mb ρ st1).bind fun y st2 => match clsAt st2 x, clsAt st2 y with
  | some C, some C2 => if C ∈ L ∧ C2 ∈ L then mf [x, y] st2 else .bad
  | _, _ => .bad
theorem je_ownG {L : List Nat} (h : HasOpG (Cx.wh X) L op k mf) (hr : Room k X.A) (ha : JE X a ma) (hb : JE X b mb) : JE X (.BinOp a op b pos) (mOpG L mf ma mb) := fun W tk => by
  obtain ⟨f, hfn, ⟨fd, ps, hl, hkp, hbd, F⟩, hm0, hsz, hone, hsub⟩ := h
  refine ⟨fun pins s σ H Q I ⟨ι, ρ, st, S, sl, q⟩ => ?_⟩
  refine wpAny_BinOp (binT (R := fun x y H2 => ∃ xa ya Ca Cb dx dy fx fy, x = .ref xa ∧ y = .ref ya ∧ OneG X.K op f Ca ∧ OneG X.K op f Cb ∧ (PySem.W.subIn X.K (.ref Cb) (.ref Ca)).isSome = true ∧ H2 xa = some (.ins Ca dx fx) ∧ H2 ya = some (.ins Cb dy fy) ∧ spM X.K X.mg mf [.ref xa, .ref ya] H2 Q (WE W σ)) (ha W tk) (hb W tk) I ?_ fun v u s2 x y H2 I2 rx ry hq => ?_)
  · refine ⟨ι, ρ, st, S, sl, Post.bind q fun x st1 ι1 H1 xv l1 S1 r1 p1 => ?_⟩
    refine ⟨ι1, ρ, st1, S1, sl.later l1, Post.bind p1 fun y st2 ι2 H2 yv l2 S2 r2 p2 => ?_⟩
    split at p2
    · rename_i C C2 h1 h2
      split at p2
      · rename_i hh
        obtain ⟨n, fs, e1, c1⟩ := clsAt_some h1
        obtain ⟨n2, fs2, e2, c2⟩ := clsAt_some h2
        have r1' := Rep.later l2 r1
        subst e1 e2
        obtain ⟨xa, f1, g1⟩ := Rep.ref_inv r1'
        obtain ⟨ya, f2, g2⟩ := Rep.ref_inv r2
        obtain ⟨Ca1, dx, vs, i1, i2, i3⟩ := S2.at c1 g1
        obtain ⟨Ca2, dy, us, j1, j2, j3⟩ := S2.at c2 g2
        subst f1 f2
        exact ⟨xa, ya, Ca1, Ca2, dx, dy, vs, us, rfl, rfl, hone _ hh.1 _ i1, hone _ hh.2 _ j1, hsub _ hh.1 _ hh.2 _ _ i1 j1, i2, j2, ι2, _, st2, S2, .cons (Rep.ref g1) (.cons (Rep.ref g2) .nil), p2⟩
      · exact p2.elim
    · exact p2.elim
  · obtain ⟨xa, ya, Ca, Cb, dx, dy, fx, fy, e1, e2, O1, O2, hs, i1, i2, hsp⟩ := hq
    subst e1 e2
    cases rx
    cases ry
    obtain ⟨mA, O, _⟩ := ins_get I2.hok i1
    obtain ⟨od, J, _⟩ := O.look
    obtain ⟨mB, Ob, _⟩ := ins_get I2.hok i2
    obtain ⟨od2, J2, _⟩ := Ob.look
    obtain ⟨m0, fr⟩ := I2.fr
    have back : ∀ (u : Value) (s3 : Shared), EP X pins σ Q u s3 → PySem.W.CmpBack (EP X pins σ Q) u s3 := fun u s3 hh => by
      obtain ⟨v3, H3, I3, r3, q3⟩ := hh
      have zz : EP X pins σ Q u s3 := ⟨v3, H3, I3, r3, q3⟩
      cases v3 with
      | non => cases (show u = Value.none from r3); exact zz
      | bl y => cases (show u = Value.bool y from r3); exact zz
      | int i => obtain ⟨t, e⟩ := (show ∃ t, u = Value.int i t from r3); subst e; exact zz
      | str y => obtain ⟨t, e⟩ := (show ∃ t, u = Value.str y t from r3); subst e; exact zz
      | byt y => obtain ⟨t, e⟩ := (show ∃ t, u = Value.bytes y t from r3); subst e; exact zz
      | flt y => obtain ⟨t, e⟩ := (show ∃ t, u = Value.float y t from r3); subst e; exact zz
      | ref y => cases (show u = Value.ref y from r3); exact zz
      | ty y => cases (show u = Value.type y from r3); exact zz
    by_cases hne : Ca = Cb
    · subst hne
      refine PySem.W.binop_K fr I2.ok.mod.kin J J2.type O1.self O1.at_ hfn ?_
      exact thn (run_fnS (us := [.ref xa, .ref ya]) (vs := [.ref xa, .ref ya]) F hr hbd (passAt tk σ) I2 (.cons rfl (.cons rfl .nil)) hsp) back
    · obtain ⟨bb, hbb⟩ := Option.isSome_iff_exists.mp hs
      have hms := O2.ms
      unfold missB at hms
      split at hms
      · rename_i cd hcd
        refine binop_two I2.kIn J J2 hne O1.self O2.self O1.at_ O1.no O2.at_ O2.no hfn hbb O2.rd hm0 hcd hms hr.hd hsz fun h' t' kp => ?_
        exact thn (run_fnS (us := [.ref xa, .ref ya]) (vs := [.ref xa, .ref ya]) F hr hbd (passAt tk σ) (I2.kept (t' := t') kp) (.cons rfl (.cons rfl .nil)) hsp) back
      · cases hms
end
/-! ### tables -/
theorem FnM.mono {T : Wh} {j k n : Nat} {f : Addr} {mf : MF} (h : FnM T j n f mf) (hj : j ≤ k) : FnM T k n f mf := let ⟨fd, ps, a, b, c, F⟩ := h; ⟨fd, ps, a, b, c, F.mono hj⟩
theorem HasM.mono {T : Wh} {C j k n : Nat} {m : Str} {mf : MF} (h : HasM T C m j n mf) (hj : j ≤ k) : HasM T C m k n mf := ⟨h.1, fun Ca hC => let ⟨f, a, b, c⟩ := h.2 Ca hC; ⟨f, a, b, c.mono hj⟩⟩
theorem tblC {P : Nat → MF → Prop} {C : Nat} {mf : MF} {tl : List (Nat × MF)} (h : P C mf) (r : ∀ C' mf', (C', mf') ∈ tl → P C' mf') : ∀ C' mf', (C', mf') ∈ (C, mf) :: tl → P C' mf' := fun C' mf' hm => by
  rcases List.mem_cons.mp hm with e | e
  · cases e; exact h
  · exact r _ _ e
theorem tblN {P : Nat → MF → Prop} : ∀ C' mf', (C', mf') ∈ ([] : List (Nat × MF)) → P C' mf' := fun _ _ h => nomatch h
theorem conC {P : Nat → Str → Prop} {C : Nat} {v : Str} {tl : List (Nat × Str)} (h : P C v) (r : ∀ C' v', (C', v') ∈ tl → P C' v') : ∀ C' v', (C', v') ∈ (C, v) :: tl → P C' v' := fun C' v' hm => by
  rcases List.mem_cons.mp hm with e | e
  · cases e; exact h
  · exact r _ _ e
theorem conN {P : Nat → Str → Prop} : ∀ C' v', (C', v') ∈ ([] : List (Nat × Str)) → P C' v' := fun _ _ h => nomatch h
theorem fldC {P : Nat → Prop} {C : Nat} {tl : List Nat} (h : P C) (r : ∀ D ∈ tl, P D) : ∀ D ∈ C :: tl, P D := fun D hm => by
  rcases List.mem_cons.mp hm with e | e
  · cases e; exact h
  · exact r _ e
theorem fldN {P : Nat → Prop} : ∀ D ∈ ([] : List Nat), P D := fun _ h => nomatch h
theorem HasI.at {T : Wh} {C k n : Nat} {mf : MF} {Cb f2 : Addr} (h : HasI T C k n mf) (hC : T.mg (nm C) = some (.ref Cb)) (hi : PySem.W.findIn T.K (.ref Cb) "__init__" = some (some (.ref f2))) : FnM T k n f2 mf := by
  obtain ⟨Ca, f, h1, M, F⟩ := h
  cases hC.symm.trans h1
  have e := hi.symm.trans M.init
  cases e
  exact F
def argOf (st : Stmt) (h : ((defArgs st).posonlyargs ++ (defArgs st).args) ≠ []) : Arg := ((defArgs st).posonlyargs ++ (defArgs st).args).head h
end Ab

set_option Elab.async false
set_option linter.all false
set_option maxRecDepth 100000
/-! Ab: rules of the second part (super, classes above each other). -/
namespace Se
noncomputable def mSup := @Ab.mSup
noncomputable def mMake0 := @Ab.mMake0
noncomputable def mCon := @Ab.mCon
noncomputable def mOpG := @Ab.mOpG
end Se
namespace Vc
open PySem PySem.Spec Ab
section
variable {st : Store} {ρ : Slots} {ta : MA} {a b m : ME} {Q : Val → Store → Prop} {X : Exc → Store → Prop}
theorem b_sup {C : Nat} {mf : MF} {x : Val} (h : ρ[0]? = some (some x)) (q : Ab.isIns C st x = true ∧ WpR (ta ρ st) (fun ws st1 => WpR (mf (x :: ws) st1) Q X) X) : WpR (Se.mSup C mf ta ρ st) Q X := by
  simp only [uR, uO, uG] at *
  show Ab.WpR (Ab.mSup C mf ta ρ st) Q X
  unfold Ab.mSup
  rw [h]
  dsimp only
  rw [if_pos q.1, Ab.wp_bind]
  exact q.2
theorem b_make0 {C : Nat} (q : New (.ins C []) st fun n s => Q (.ref n) s) : WpR (Se.mMake0 C ρ st) Q X := by
  simp only [uR, uO, uG] at *
  replace q := q.at
  show Ab.WpR (Ab.mMake0 C ρ st) Q X
  exact q
theorem b_con {tbl : List (Nat × Str)} (q : WpR (m ρ st) (fun x st1 => ∃ C v, Ab.clsAt st1 x = some C ∧ tbl.lookup C = some v ∧ Q (.str v) st1) X) : WpR (Se.mCon tbl m ρ st) Q X := by
  simp only [uR, uO, uG] at *
  show Ab.WpR (Ab.mCon tbl m ρ st) Q X
  unfold Ab.mCon; rw [Ab.wp_bind]
  refine Ab.WpR.mono q (fun x s h => ?_) fun _ _ h => h
  obtain ⟨C, v, h1, h2, h3⟩ := h
  rw [h1]; dsimp only; rw [h2]; exact h3
theorem b_opG {L : List Nat} {mf : MF} (q : WpR (a ρ st) (fun x st1 => WpR (b ρ st1) (fun y st2 => ∃ C C2, Ab.clsAt st2 x = some C ∧ Ab.clsAt st2 y = some C2 ∧ C ∈ L ∧ C2 ∈ L ∧ WpR (mf [x, y] st2) Q X) X) X) : WpR (Se.mOpG L mf a b ρ st) Q X := by
  simp only [uR, uO, uG] at *
  show Ab.WpR (Ab.mOpG L mf a b ρ st) Q X
  unfold Ab.mOpG; simp only [Ab.wp_bind]
  refine Ab.WpR.mono q (fun x s h => ?_) fun _ _ h => h
  refine Ab.WpR.mono h (fun x s h => ?_) fun _ _ h => h
  obtain ⟨C, C2, h1, h2, h3, h4, h5⟩ := h
  rw [h1, h2]; dsimp only; rw [if_pos ⟨h3, h4⟩]; exact h5
end
end Vc

set_option Elab.async false
set_option linter.all false
set_option maxRecDepth 100000
set_option maxHeartbeats 2000000
namespace K41
open PySem PySem.Spec PyProof.Rows L2
open Ab hiding sWhile mVar mC mBin mTest mChain tAndM tOrM tNotM mAnd mOr mNot mIf aNil aCons mTup mLst mApp mCut oNone oSome sNext sSeq sSet sRet sDrop sIf sAug sBreak sCont gSet gsNil gsCons gTupM sAsg sPar sFor iRange1 iRange2 mFld sFldM sFldAugM mMeth mProp vMake iEnumM iZipM iSeqM iStrM mYes mLc mBM gSubL mIsi sRaise sRaise0 aStar mOp mLen mDget gSubD mDisp mItems mDc gFld mOutcome mBad sBad mNeg mCall mGetO mOpT mIsiO gTupS iKeysM iValsM mDisp0 mOutOne mCm mMakeV mSup mMake0 mCon mOpG
open Se
noncomputable def m_law_mix : MS := sSeq (sSet 2 (mVar 1)) (sSeq (sFor (iSeqM (mVar 0)) (gSet 3) (sSet 2 (mBin vMod (mBin vAdd (mBin vAdd (mBin vMul (mVar 2) (mC (.int 48271))) (mBin vMod (mVar 3) (mC (.int 2147483629)))) (mC (.int 1))) (mC (.int 2147483647))))) (sRet (mLst (aCons (mVar 2) (aCons (mApp bList (aCons (mVar 0) (aNil))) (aCons (mC (.int 0)) (aNil)))))))
noncomputable def f_law_mix : MF := defM 2 2 m_law_mix
noncomputable def m_law_next : MS := sSeq (sSet 2 (mBin vIx (mBin vAdd (mBin vIx (mVar 0) (mC (.int 1))) (mLst (aCons (mC (.int 0)) (aNil)))) (mBin vMod (mBin vIx (mVar 0) (mC (.int 2))) (mApp bMax2 (aCons (mC (.int 1)) (aCons (mApp bLen (aCons (mBin vIx (mVar 0) (mC (.int 1))) (aNil))) (aNil))))))) (sSeq (sIf (mTest (mBin vGe (mVar 2) (mBin vPow (mC (.int 10)) (mC (.int 18))))) (sSeq (sAsg (mBin vDiv (mVar 2) (mVar 1)) (gSubL (mBin vIx (mVar 0) (mC (.int 1))) (mBin vMod (mBin vIx (mVar 0) (mC (.int 2))) (mApp bLen (aCons (mBin vIx (mVar 0) (mC (.int 1))) (aNil)))))) (sRet (mBin vMod (mVar 2) (mVar 1)))) (sNext)) (sSeq (sAsg (mBin vMod (mBin vAdd (mBin vAdd (mBin vMul (mBin vIx (mVar 0) (mC (.int 0))) (mC (.int 48271))) (mBin vMul (mVar 2) (mC (.int 69621)))) (mC (.int 11))) (mC (.int 2147483647))) (gSubL (mVar 0) (mC (.int 0)))) (sSeq (sAsg (mBin vAdd (mBin vIx (mVar 0) (mC (.int 2))) (mC (.int 1))) (gSubL (mVar 0) (mC (.int 2)))) (sRet (mBin vMod (mBin vDiv (mBin vIx (mVar 0) (mC (.int 0))) (mC (.int 7))) (mVar 1))))))
noncomputable def f_law_next : MF := defM 2 1 m_law_next
noncomputable def m_law_spec : MS := sSeq (sSet 1 (mBin vIx (mLst (aCons (mC (.str "dry")) (aCons (mC (.str "steady")) (aCons (mC (.str "spells")) (aCons (mC (.str "storms")) (aNil)))))) (mApp f_law_next (aCons (mVar 0) (aCons (mC (.int 4)) (aNil)))))) (sSeq (sSet 2 (mBin vIx (mLst (aCons (mApp f_law_next (aCons (mVar 0) (aCons (mC (.int 9)) (aNil)))) (aCons (mApp f_law_next (aCons (mVar 0) (aCons (mBin vAdd (mBin vPow (mC (.int 10)) (mC (.int 6))) (mC (.int 1))) (aNil)))) (aNil)))) (mApp f_law_next (aCons (mVar 0) (aCons (mC (.int 2)) (aNil)))))) (sRet (mTup (aCons (mVar 1) (aCons (mTup (aCons (mVar 2) (aCons (mBin vAdd (mApp f_law_next (aCons (mVar 0) (aCons (mC (.int 5)) (aNil)))) (mApp bIntB (aCons (mBin vEq (mVar 1) (mC (.str "spells"))) (aNil)))) (aCons (mBin vAdd (mC (.int 1)) (mApp f_law_next (aCons (mVar 0) (aCons (mC (.int 6)) (aNil))))) (aNil))))) (aNil))))))
noncomputable def f_law_spec : MF := defM 1 2 m_law_spec
noncomputable def m_validate_part : MS := sIf (tNotM (mTest (mChain vLe vLe (mVar 2) (mVar 1) (mVar 3)))) (sRaise 6 [24] (aCons (mVar 0) (aNil))) (sNext)
noncomputable def f_validate_part : MF := defM 4 0 m_validate_part
noncomputable def m_SteadyWeather_init : MS := sSeq (sDrop (mApp f_validate_part (aCons (mC (.str "amount")) (aCons (mVar 1) (aCons (mC (.int 0)) (aCons (mC (.int 1000000)) (aNil))))))) (sFldM [17, 18, 19] 44 (mVar 0) (mVar 1))
noncomputable def f_SteadyWeather_init : MF := defM 2 0 m_SteadyWeather_init
noncomputable def m_SpellWeather_init : MS := sSeq (sDrop (mSup 18 f_SteadyWeather_init (aCons (mVar 1) (aNil)))) (sSeq (sDrop (mApp f_validate_part (aCons (mC (.str "wet")) (aCons (mVar 2) (aCons (mC (.int 1)) (aCons (mC (.int 1000)) (aNil))))))) (sSeq (sDrop (mApp f_validate_part (aCons (mC (.str "dry")) (aCons (mVar 3) (aCons (mC (.int 1)) (aCons (mC (.int 1000)) (aNil))))))) (sSeq (sFldM [18] 45 (mVar 0) (mVar 2)) (sFldM [18] 46 (mVar 0) (mVar 3)))))
noncomputable def f_SpellWeather_init : MF := defM 4 1 m_SpellWeather_init
noncomputable def m_StormWeather_init : MS := sSeq (sDrop (mSup 19 f_SteadyWeather_init (aCons (mVar 1) (aNil)))) (sSeq (sDrop (mApp f_validate_part (aCons (mC (.str "first")) (aCons (mVar 2) (aCons (mC (.int 0)) (aCons (mC (.int 1000)) (aNil))))))) (sSeq (sDrop (mApp f_validate_part (aCons (mC (.str "every")) (aCons (mVar 3) (aCons (mC (.int 1)) (aCons (mC (.int 1000)) (aNil))))))) (sSeq (sFldM [19] 47 (mVar 0) (mVar 2)) (sFldM [19] 48 (mVar 0) (mVar 3)))))
noncomputable def f_StormWeather_init : MF := defM 4 1 m_StormWeather_init
noncomputable def m_law_weather : MS := sSeq (sAsg (mVar 0) (gTupM 2 (gsCons (gSet 1) (gsCons (gSet 2) (gsNil))))) (sSeq (sIf (mTest (mBin vEq (mVar 1) (mC (.str "dry")))) (sRet (mMake0 15)) (sNext)) (sSeq (sIf (mTest (mBin vEq (mVar 1) (mC (.str "steady")))) (sRet (mApp (vMake 17 f_SteadyWeather_init) (aCons (mBin vIx (mVar 2) (mC (.int 0))) (aNil)))) (sNext)) (sSeq (sIf (mTest (mBin vEq (mVar 1) (mC (.str "spells")))) (sRet (mApp (vMake 18 f_SpellWeather_init) (aCons (mBin vIx (mVar 2) (mC (.int 0))) (aCons (mBin vIx (mVar 2) (mC (.int 1))) (aCons (mBin vIx (mVar 2) (mC (.int 2))) (aNil)))))) (sNext)) (sRet (mApp (vMake 19 f_StormWeather_init) (aCons (mBin vIx (mVar 2) (mC (.int 0))) (aCons (mBin vIx (mVar 2) (mC (.int 1))) (aCons (mBin vIx (mVar 2) (mC (.int 2))) (aNil)))))))))
noncomputable def f_law_weather : MF := defM 1 2 m_law_weather
noncomputable def m_SumWeather_init : MS := sSeq (sFldM [16] 49 (mVar 0) (mVar 1)) (sFldM [16] 50 (mVar 0) (mVar 2))
noncomputable def f_SumWeather_init : MF := defM 3 0 m_SumWeather_init
noncomputable def m_Weather_add : MS := sRet (mApp (vMake 16 f_SumWeather_init) (aCons (mVar 0) (aCons (mVar 1) (aNil))))
noncomputable def f_Weather_add : MF := defM 2 0 m_Weather_add
noncomputable def m_law_fall : MS := sSeq (sAsg (mVar 0) (gTupM 2 (gsCons (gSet 2) (gsCons (gTupM 3 (gsCons (gSet 3) (gsCons (gSet 4) (gsCons (gSet 5) (gsNil))))) (gsNil))))) (sSeq (sIf (mTest (mBin vEq (mVar 2) (mC (.str "dry")))) (sRet (mC (.int 0))) (sNext)) (sSeq (sIf (mTest (mBin vEq (mVar 2) (mC (.str "spells")))) (sRet (mIf (mTest (mBin vLt (mBin vMod (mVar 1) (mBin vAdd (mVar 4) (mVar 5))) (mVar 4))) (mVar 3) (mC (.int 0)))) (sNext)) (sSeq (sIf (mTest (mBin vEq (mVar 2) (mC (.str "storms")))) (sRet (mIf (tAndM (mTest (mBin vGe (mVar 1) (mVar 4))) (mTest (mBin vEq (mBin vMod (mBin vSub (mVar 1) (mVar 4)) (mVar 5)) (mC (.int 0))))) (mVar 3) (mC (.int 0)))) (sNext)) (sRet (mVar 3)))))
noncomputable def f_law_fall : MF := defM 2 4 m_law_fall
noncomputable def m_validate_number : MS := sIf (tNotM (mTest (mChain vLe vLe (mVar 1) (mVar 0) (mVar 2)))) (sRaise0 4) (sNext)
noncomputable def f_validate_number : MF := defM 3 0 m_validate_number
noncomputable def m_Weather_amount_in : MS := sRet (mC (.int 0))
noncomputable def f_Weather_amount_in : MF := defM 2 0 m_Weather_amount_in
noncomputable def m_SteadyWeather_amount_in : MS := sRet (mFld [17, 18, 19] 44 (mVar 0))
noncomputable def f_SteadyWeather_amount_in : MF := defM 2 0 m_SteadyWeather_amount_in
noncomputable def m_SpellWeather_amount_in : MS := sRet (mIf (mTest (mBin vLt (mBin vMod (mApp bIntB (aCons (mVar 1) (aNil))) (mBin vAdd (mFld [18] 45 (mVar 0)) (mFld [18] 46 (mVar 0)))) (mFld [18] 45 (mVar 0)))) (mFld [17, 18, 19] 44 (mVar 0)) (mC (.int 0)))
noncomputable def f_SpellWeather_amount_in : MF := defM 2 0 m_SpellWeather_amount_in
noncomputable def m_StormWeather_amount_in : MS := sSeq (sIf (tOrM (mTest (mBin vLt (mVar 1) (mFld [19] 47 (mVar 0)))) (mTest (mBin vNe (mBin vMod (mApp bIntB (aCons (mBin vSub (mVar 1) (mFld [19] 47 (mVar 0))) (aNil))) (mFld [19] 48 (mVar 0))) (mC (.int 0))))) (sRet (mC (.int 0))) (sNext)) (sRet (mFld [17, 18, 19] 44 (mVar 0)))
noncomputable def f_StormWeather_amount_in : MF := defM 2 0 m_StormWeather_amount_in
noncomputable def m_SumWeather_amount_in : MS := sRet (mBin vAdd (mMeth [(15, f_Weather_amount_in), (17, f_SteadyWeather_amount_in), (18, f_SpellWeather_amount_in), (19, f_StormWeather_amount_in)] (mFld [16] 49 (mVar 0)) (aCons (mVar 1) (aNil))) (mMeth [(15, f_Weather_amount_in), (17, f_SteadyWeather_amount_in), (18, f_SpellWeather_amount_in), (19, f_StormWeather_amount_in)] (mFld [16] 50 (mVar 0)) (aCons (mVar 1) (aNil))))
noncomputable def f_SumWeather_amount_in : MF := defM 2 0 m_SumWeather_amount_in
noncomputable def m_Weather_fall_in : MS := sSeq (sDrop (mApp f_validate_number (aCons (mVar 1) (aCons (mC (.int 0)) (aCons (mC (.int 1000000000000000000)) (aNil)))))) (sRet (mMeth [(15, f_Weather_amount_in), (16, f_SumWeather_amount_in), (17, f_SteadyWeather_amount_in), (18, f_SpellWeather_amount_in), (19, f_StormWeather_amount_in)] (mVar 0) (aCons (mVar 1) (aNil))))
noncomputable def f_Weather_fall_in : MF := defM 2 0 m_Weather_fall_in
noncomputable def m_law_alike (rec : MF) : MS := sSeq (sIf (mTest (mIsi [.dict] (mVar 1))) (sBad) (sNext)) (sSeq (sIf (mTest (mIsi [.tuple, .list] (mVar 1))) (sSeq (sIf (tOrM (tNotM (mTest (mIsi [.tuple, .list] (mVar 0)))) (mTest (mBin vNe (mIsi [.list] (mVar 0)) (mIsi [.list] (mVar 1))))) (sRet (mC (.bl false))) (sNext)) (sSeq (sIf (mTest (mBin vNe (mApp bLen (aCons (mVar 0) (aNil))) (mApp bLen (aCons (mVar 1) (aNil))))) (sRet (mC (.bl false))) (sNext)) (sRet (mBin vEq (mLc (iRange1 (aCons (mApp bLen (aCons (mVar 1) (aNil))) (aNil))) (gSet 2) (tNotM (mTest (mApp rec (aCons (mBin vIx (mVar 0) (mVar 2)) (aCons (mBin vIx (mVar 1) (mVar 2)) (aNil)))))) (mVar 2) [2]) (mLst (aNil)))))) (sNext)) (sSeq (sIf (tOrM (mTest (mBin vIsN (mVar 1) (mC .non))) (mTest (mIsi [.str] (mVar 1)))) (sRet (mAnd (mBin vEq (mVar 0) (mVar 1)) (mBin vEq (mIsi [.str] (mVar 0)) (mIsi [.str] (mVar 1))))) (sNext)) (sRet (mAnd (mIsi [.int] (mVar 0)) (mAnd (mBin vEq (mIsi [.bool] (mVar 0)) (mIsi [.bool] (mVar 1))) (mBin vEq (mVar 0) (mVar 1)))))))
noncomputable def f_law_alike : Nat → MF
  | 0 => defM 2 1 sBad
  | n + 1 => defM 2 1 (m_law_alike (f_law_alike n))
noncomputable def m_law_due : MS := sSeq (sSet 2 (mBin vRepL (mLst (aCons (mTup (aCons (mC (.str "amount")) (aCons (mC (.int 0)) (aCons (mBin vPow (mC (.int 10)) (mC (.int 6))) (aNil))))) (aNil))) (mApp bIntB (aCons (mBin vNe (mVar 0) (mC (.str "dry"))) (aNil))))) (sSeq (sIf (mTest (mBin vEq (mVar 0) (mC (.str "spells")))) (sSet 2 (mBin vAdd (mVar 2) (mLst (aCons (mTup (aCons (mC (.str "wet")) (aCons (mC (.int 1)) (aCons (mC (.int 1000)) (aNil))))) (aCons (mTup (aCons (mC (.str "dry")) (aCons (mC (.int 1)) (aCons (mC (.int 1000)) (aNil))))) (aNil)))))) (sNext)) (sSeq (sIf (mTest (mBin vEq (mVar 0) (mC (.str "storms")))) (sSet 2 (mBin vAdd (mVar 2) (mLst (aCons (mTup (aCons (mC (.str "first")) (aCons (mC (.int 0)) (aCons (mC (.int 1000)) (aNil))))) (aCons (mTup (aCons (mC (.str "every")) (aCons (mC (.int 1)) (aCons (mC (.int 1000)) (aNil))))) (aNil)))))) (sNext)) (sSeq (sFor (iRange1 (aCons (mApp bLen (aCons (mVar 2) (aNil))) (aNil))) (gSet 3) (sSeq (sAsg (mBin vIx (mVar 2) (mVar 3)) (gTupM 3 (gsCons (gSet 4) (gsCons (gSet 5) (gsCons (gSet 6) (gsNil)))))) (sIf (tNotM (mTest (mChain vLe vLe (mVar 5) (mBin vIx (mVar 1) (mVar 3)) (mVar 6)))) (sRet (mTup (aCons (mC (.str "weather")) (aCons (mVar 4) (aNil))))) (sNext)))) (sRet (mTup (aCons (mC (.str "none")) (aNil)))))))
noncomputable def f_law_due : MF := defM 2 5 m_law_due
noncomputable def m_law : MS := sSeq (sSet 1 (mApp f_law_mix (aCons (mVar 0) (aCons (mC (.int 41)) (aNil))))) (sSeq (sFor (iRange1 (aCons (mC (.int 4)) (aNil))) (gSet 2) (sSeq (sAsg (mTup (aCons (mApp f_law_spec (aCons (mVar 1) (aNil))) (aCons (mApp f_law_spec (aCons (mVar 1) (aNil))) (aNil)))) (gTupM 2 (gsCons (gSet 3) (gsCons (gSet 4) (gsNil))))) (sSeq (sSet 5 (mApp f_law_weather (aCons (mVar 3) (aNil)))) (sSeq (sSet 6 (mOpG [15, 17, 18, 19] f_Weather_add (mVar 5) (mApp f_law_weather (aCons (mVar 4) (aNil))))) (sSeq (sFor (iSeqM (mTup (aCons (mC (.int 0)) (aCons (mApp f_law_next (aCons (mVar 1) (aCons (mC (.int 30)) (aNil)))) (aCons (mApp f_law_next (aCons (mVar 1) (aCons (mBin vPow (mC (.int 10)) (mC (.int 18))) (aNil)))) (aCons (mBin vPow (mC (.int 10)) (mC (.int 18))) (aNil))))))) (gSet 7) (sSeq (sIf (tNotM (mTest (mApp (f_law_alike 3) (aCons (mMeth [(15, f_Weather_fall_in), (16, f_Weather_fall_in), (17, f_Weather_fall_in), (18, f_Weather_fall_in), (19, f_Weather_fall_in)] (mVar 5) (aCons (mVar 7) (aNil))) (aCons (mApp f_law_fall (aCons (mVar 3) (aCons (mVar 7) (aNil)))) (aNil)))))) (sRet (mC (.bl false))) (sNext)) (sIf (tNotM (mTest (mApp (f_law_alike 3) (aCons (mMeth [(15, f_Weather_fall_in), (16, f_Weather_fall_in), (17, f_Weather_fall_in), (18, f_Weather_fall_in), (19, f_Weather_fall_in)] (mVar 6) (aCons (mVar 7) (aNil))) (aCons (mBin vAdd (mApp f_law_fall (aCons (mVar 3) (aCons (mVar 7) (aNil)))) (mApp f_law_fall (aCons (mVar 4) (aCons (mVar 7) (aNil))))) (aNil)))))) (sRet (mC (.bl false))) (sNext)))) (sSeq (sIf (mTest (mBin vNe (mLst (aCons (mCon [(15, "dry"), (16, "sum"), (17, "steady"), (18, "spells"), (19, "storms")] (mVar 5)) (aCons (mCon [(15, "dry"), (16, "sum"), (17, "steady"), (18, "spells"), (19, "storms")] (mVar 6)) (aCons (mIsiO [(16, true)] (mVar 6)) (aNil))))) (mLst (aCons (mBin vIx (mVar 3) (mC (.int 0))) (aCons (mC (.str "sum")) (aCons (mC (.bl true)) (aNil))))))) (sRet (mC (.bl false))) (sNext)) (sSeq (sSet 8 (mBin vIx (mLst (aCons (mNeg (mC (.int 1))) (aCons (mBin vAdd (mBin vPow (mC (.int 10)) (mC (.int 18))) (mC (.int 1))) (aNil)))) (mApp f_law_next (aCons (mVar 1) (aCons (mC (.int 2)) (aNil)))))) (sSeq (sIf (mTest (mBin vNe (mOutcome (mMeth [(15, f_Weather_fall_in), (16, f_Weather_fall_in), (17, f_Weather_fall_in), (18, f_Weather_fall_in), (19, f_Weather_fall_in)] (mVar 6) (aCons (mVar 8) (aNil)))) (mTup (aCons (mC (.str "number")) (aNil))))) (sRet (mC (.bl false))) (sNext)) (sSeq (sPar 9 10 (aCons (mApp f_law_next (aCons (mVar 1) (aCons (mC (.int 3)) (aNil)))) (aCons (mBin vIx (mLst (aCons (mNeg (mC (.int 1))) (aCons (mC (.int 0)) (aCons (mC (.int 1)) (aCons (mC (.int 1000)) (aCons (mC (.int 1001)) (aCons (mBin vPow (mC (.int 10)) (mC (.int 6))) (aCons (mBin vAdd (mBin vPow (mC (.int 10)) (mC (.int 6))) (mC (.int 1))) (aNil))))))))) (mApp f_law_next (aCons (mVar 1) (aCons (mC (.int 7)) (aNil))))) (aNil)))) (sSeq (sSet 11 (mBin vAdd (mBin vAdd (mCut (mBin vIx (mVar 3) (mC (.int 1))) oNone (oSome (mVar 9))) (mTup (aCons (mVar 10) (aNil)))) (mCut (mBin vIx (mVar 3) (mC (.int 1))) (oSome (mBin vAdd (mVar 9) (mC (.int 1)))) oNone))) (sSeq (sSet 12 (mOutcome (mApp f_law_weather (aCons (mTup (aCons (mBin vIx (mVar 3) (mC (.int 0))) (aCons (mVar 11) (aNil)))) (aNil))))) (sSeq (sSet 13 (mApp f_law_due (aCons (mBin vIx (mVar 3) (mC (.int 0))) (aCons (mVar 11) (aNil))))) (sIf (mTest (mBin vNe (mIf (mTest (mBin vEq (mBin vIx (mVar 12) (mC (.int 0))) (mC (.str "value")))) (mTup (aCons (mC (.str "none")) (aNil))) (mVar 12)) (mVar 13))) (sRet (mC (.bl false))) (sNext)))))))))))))) (sRet (mAnd (mBin vEq (mC (.str "dry")) (mC (.str "dry"))) (mBin vEq (mMeth [(15, f_Weather_fall_in), (16, f_Weather_fall_in), (17, f_Weather_fall_in), (18, f_Weather_fall_in), (19, f_Weather_fall_in)] (mMake0 15) (aCons (mC (.int 5)) (aNil))) (mC (.int 0))))))
noncomputable def f_law : MF := defM 1 13 m_law
end K41

set_option Elab.async false
set_option linter.all false
set_option maxRecDepth 100000
set_option maxHeartbeats 2000000
namespace K41
open PySem PySem.Spec PyProof.Rows L2 Ab
def top (i : Nat) : Stmt := PySem.Challenge.pw_barrelrow_k41_whole_weather.main.body.getD i (.Pass ⟨0, 0, 0, 0⟩)
abbrev s_x_InvalidWeather : Stmt := inClass (top 5) 0
abbrev s_law_mix : Stmt := top 23
abbrev s_law_next : Stmt := top 24
abbrev s_law_spec : Stmt := top 27
abbrev s_validate_part : Stmt := top 16
abbrev s_SteadyWeather_init : Stmt := inClass (top 19) 1
abbrev s_SpellWeather_init : Stmt := inClass (top 20) 1
abbrev s_StormWeather_init : Stmt := inClass (top 21) 1
abbrev s_law_weather : Stmt := top 28
abbrev s_SumWeather_init : Stmt := inClass (top 18) 1
abbrev s_Weather_add : Stmt := inClass (top 17) 3
abbrev s_law_fall : Stmt := top 29
abbrev s_validate_number : Stmt := top 13
abbrev s_Weather_amount_in : Stmt := inClass (top 17) 1
abbrev s_SteadyWeather_amount_in : Stmt := inClass (top 19) 2
abbrev s_SpellWeather_amount_in : Stmt := inClass (top 20) 2
abbrev s_StormWeather_amount_in : Stmt := inClass (top 21) 2
abbrev s_SumWeather_amount_in : Stmt := inClass (top 18) 2
abbrev s_Weather_fall_in : Stmt := inClass (top 17) 2
abbrev s_law_alike : Stmt := top 25
abbrev s_law_outcome : Stmt := top 26
abbrev s_law_due : Stmt := top 30
abbrev s_law : Stmt := top 31
/-- what the top has written, as the walk asks it -/
structure Fx (T : Wh) : Prop where
  b_list : T.mg "list" = none
  fn_law_mix : ∃ f fd, T.mg "_law_mix" = some (.ref f) ∧ Fun T.K "_law_mix" "_law_mix" s_law_mix f fd ∧ Binds T.K fd ["_law_script", "_law_seed"] []
  b_range : T.mg "range" = none
  b_len : T.mg "len" = none
  b_max : T.mg "max" = none
  fn_law_next : ∃ f fd, T.mg "_law_next" = some (.ref f) ∧ Fun T.K "_law_next" "_law_next" s_law_next f fd ∧ Binds T.K fd ["_law_h", "_law_limit"] []
  b_int : T.mg "int" = none
  fn_law_spec : ∃ f fd, T.mg "_law_spec" = some (.ref f) ∧ Fun T.K "_law_spec" "_law_spec" s_law_spec f fd ∧ Binds T.K fd ["_law_h"] []
  i0_Weather : HasI0 T 15
  g_MAX_RAIN : ∃ t, T.mg "MAX_RAIN" = some (.int 1000000 t)
  fn_validate_part : ∃ f fd, T.mg "validate_part" = some (.ref f) ∧ Fun T.K "validate_part" "validate_part" s_validate_part f fd ∧ Binds T.K fd ["part", "number", "smallest", "largest"] []
  fo_SteadyWeather_amount : FldOk T.K T.mg 17 44
  fo_SpellWeather_amount : FldOk T.K T.mg 18 44
  fo_StormWeather_amount : FldOk T.K T.mg 19 44
  in_SteadyWeather : ∃ Ca f fd, T.mg (nm 17) = some (.ref Ca) ∧ Mk T.K Ca f ∧ Fun T.K "__init__" "SteadyWeather.__init__" s_SteadyWeather_init f fd ∧ Binds T.K fd ["self", "amount"] []
  g_MAX_TICKS : ∃ t, T.mg "MAX_TICKS" = some (.int 1000 t)
  fo_SpellWeather_wet : FldOk T.K T.mg 18 45
  fo_SpellWeather_dry : FldOk T.K T.mg 18 46
  su_SpellWeather : ∃ D f c cc f2 Cb, T.mg (nm 18) = some (.ref D) ∧ Mk T.K D f ∧ SupF T "__init__" "SpellWeather.__init__" s_SpellWeather_init f c cc D f2 ["self", "amount", "wet", "dry"] ∧ T.mg (nm 17) = some (.ref Cb) ∧ PySem.W.findIn T.K (.ref Cb) "__init__" = some (some (.ref f2))
  fo_StormWeather_first : FldOk T.K T.mg 19 47
  fo_StormWeather_every : FldOk T.K T.mg 19 48
  su_StormWeather : ∃ D f c cc f2 Cb, T.mg (nm 19) = some (.ref D) ∧ Mk T.K D f ∧ SupF T "__init__" "StormWeather.__init__" s_StormWeather_init f c cc D f2 ["self", "amount", "first", "every"] ∧ T.mg (nm 17) = some (.ref Cb) ∧ PySem.W.findIn T.K (.ref Cb) "__init__" = some (some (.ref f2))
  fn_law_weather : ∃ f fd, T.mg "_law_weather" = some (.ref f) ∧ Fun T.K "_law_weather" "_law_weather" s_law_weather f fd ∧ Binds T.K fd ["_law_spec_here"] []
  fo_SumWeather_one : FldOk T.K T.mg 16 49
  fo_SumWeather_other : FldOk T.K T.mg 16 50
  in_SumWeather : ∃ Ca f fd, T.mg (nm 16) = some (.ref Ca) ∧ Mk T.K Ca f ∧ Fun T.K "__init__" "SumWeather.__init__" s_SumWeather_init f fd ∧ Binds T.K fd ["self", "one", "other"] []
  og_Weather_add : ∃ f fd, PySem.W.isFn T.K (.ref f) = true ∧ PySem.W.findIn T.K (.type "type") (dunderR Operator.Add.info.2) = some none ∧ (∀ C ∈ ([15, 17, 18, 19] : List Nat), ∀ Ca, T.mg (nm C) = some (.ref Ca) → OneG T.K .Add f Ca) ∧ (∀ C ∈ ([15, 17, 18, 19] : List Nat), ∀ C2 ∈ ([15, 17, 18, 19] : List Nat), ∀ Ca Ca2, T.mg (nm C) = some (.ref Ca) → T.mg (nm C2) = some (.ref Ca2) → (PySem.W.subIn T.K (.ref Ca2) (.ref Ca)).isSome = true) ∧ Fun T.K "__add__" "Weather.__add__" s_Weather_add f fd ∧ Binds T.K fd ["self", "other"] []
  fn_law_fall : ∃ f fd, T.mg "_law_fall" = some (.ref f) ∧ Fun T.K "_law_fall" "_law_fall" s_law_fall f fd ∧ Binds T.K fd ["_law_spec_here", "_law_tick"] []
  g_MAX_TICK : ∃ t, T.mg "MAX_TICK" = some (.int 1000000000000000000 t)
  x0_InvalidNumber : Ex0 T 4
  fn_validate_number : ∃ f fd, T.mg "validate_number" = some (.ref f) ∧ Fun T.K "validate_number" "validate_number" s_validate_number f fd ∧ Binds T.K fd ["number", "smallest", "largest"] []
  me_Weather_amount_in : ∃ f fd, (∀ Ca, T.mg (nm 15) = some (.ref Ca) → Cls T.K Ca ∧ Meth T.K Ca "amount_in" f) ∧ Fun T.K "amount_in" "Weather.amount_in" s_Weather_amount_in f fd ∧ Binds T.K fd ["self", "tick"] []
  cl_Weather : ∃ Ca, T.mg (nm 15) = some (.ref Ca)
  me_SteadyWeather_amount_in : ∃ f fd, (∀ Ca, T.mg (nm 17) = some (.ref Ca) → Cls T.K Ca ∧ Meth T.K Ca "amount_in" f) ∧ Fun T.K "amount_in" "SteadyWeather.amount_in" s_SteadyWeather_amount_in f fd ∧ Binds T.K fd ["self", "tick"] []
  cl_SteadyWeather : ∃ Ca, T.mg (nm 17) = some (.ref Ca)
  me_SpellWeather_amount_in : ∃ f fd, (∀ Ca, T.mg (nm 18) = some (.ref Ca) → Cls T.K Ca ∧ Meth T.K Ca "amount_in" f) ∧ Fun T.K "amount_in" "SpellWeather.amount_in" s_SpellWeather_amount_in f fd ∧ Binds T.K fd ["self", "tick"] []
  cl_SpellWeather : ∃ Ca, T.mg (nm 18) = some (.ref Ca)
  me_StormWeather_amount_in : ∃ f fd, (∀ Ca, T.mg (nm 19) = some (.ref Ca) → Cls T.K Ca ∧ Meth T.K Ca "amount_in" f) ∧ Fun T.K "amount_in" "StormWeather.amount_in" s_StormWeather_amount_in f fd ∧ Binds T.K fd ["self", "tick"] []
  cl_StormWeather : ∃ Ca, T.mg (nm 19) = some (.ref Ca)
  me_SumWeather_amount_in : ∃ f fd, (∀ Ca, T.mg (nm 16) = some (.ref Ca) → Cls T.K Ca ∧ Meth T.K Ca "amount_in" f) ∧ Fun T.K "amount_in" "SumWeather.amount_in" s_SumWeather_amount_in f fd ∧ Binds T.K fd ["self", "tick"] []
  cl_SumWeather : ∃ Ca, T.mg (nm 16) = some (.ref Ca)
  me_Weather_fall_in : ∃ f fd, (∀ Ca, T.mg (nm 15) = some (.ref Ca) → Cls T.K Ca ∧ Meth T.K Ca "fall_in" f) ∧ Fun T.K "fall_in" "Weather.fall_in" s_Weather_fall_in f fd ∧ Binds T.K fd ["self", "tick"] []
  mi_SumWeather__Weather_fall_in : ∃ f fd, (∀ Ca, T.mg (nm 16) = some (.ref Ca) → Cls T.K Ca ∧ Meth T.K Ca "fall_in" f) ∧ Fun T.K "fall_in" "Weather.fall_in" s_Weather_fall_in f fd ∧ Binds T.K fd ["self", "tick"] []
  mi_SteadyWeather__Weather_fall_in : ∃ f fd, (∀ Ca, T.mg (nm 17) = some (.ref Ca) → Cls T.K Ca ∧ Meth T.K Ca "fall_in" f) ∧ Fun T.K "fall_in" "Weather.fall_in" s_Weather_fall_in f fd ∧ Binds T.K fd ["self", "tick"] []
  mi_SpellWeather__Weather_fall_in : ∃ f fd, (∀ Ca, T.mg (nm 18) = some (.ref Ca) → Cls T.K Ca ∧ Meth T.K Ca "fall_in" f) ∧ Fun T.K "fall_in" "Weather.fall_in" s_Weather_fall_in f fd ∧ Binds T.K fd ["self", "tick"] []
  mi_StormWeather__Weather_fall_in : ∃ f fd, (∀ Ca, T.mg (nm 19) = some (.ref Ca) → Cls T.K Ca ∧ Meth T.K Ca "fall_in" f) ∧ Fun T.K "fall_in" "Weather.fall_in" s_Weather_fall_in f fd ∧ Binds T.K fd ["self", "tick"] []
  b_isinstance : T.mg "isinstance" = none
  b_dict : T.mg "dict" = none
  b_tuple : T.mg "tuple" = none
  b_str : T.mg "str" = none
  b_bool : T.mg "bool" = none
  fn_law_alike : ∃ f fd, T.mg "_law_alike" = some (.ref f) ∧ Fun T.K "_law_alike" "_law_alike" s_law_alike f fd ∧ Binds T.K fd ["_law_found", "_law_due_here"] []
  isi_Weather__SumWeather : ∃ Ca, T.mg (nm 15) = some (.ref Ca) ∧ PySem.W.kitOne T.K (.type "tuple") (.ref Ca) = some false ∧ ∀ C' b, (C', b) ∈ ([(16, true)] : List (Nat × Bool)) → ∀ Ca', T.mg (nm C') = some (.ref Ca') → OwnTy T.K Ca' ∧ PySem.W.kitOne T.K (.ref Ca') (.ref Ca) = some b
  co_StormWeather_KIND : HasCon T 19 "KIND" "storms"
  co_SpellWeather_KIND : HasCon T 18 "KIND" "spells"
  co_SteadyWeather_KIND : HasCon T 17 "KIND" "steady"
  co_SumWeather_KIND : HasCon T 16 "KIND" "sum"
  co_Weather_KIND : HasCon T 15 "KIND" "dry"
  ca_InvalidNumber : ∃ Ca, T.mg "InvalidNumber" = some (.ref Ca)
  ca_DecodeError : ∃ Ca, T.mg "DecodeError" = some (.ref Ca)
  ca_DaybookError : ∃ Ca, T.mg "DaybookError" = some (.ref Ca)
  ca_InvalidText : ∃ Ca, T.mg "InvalidText" = some (.ref Ca)
  ca_InvalidRow : ∃ Ca, T.mg "InvalidRow" = some (.ref Ca)
  ca_InvalidOperation : ∃ Ca, T.mg "InvalidOperation" = some (.ref Ca)
  ca_UnknownBarrel : ∃ Ca, T.mg "UnknownBarrel" = some (.ref Ca)
  ca_InvalidWeather : ∃ Ca, T.mg "InvalidWeather" = some (.ref Ca)
  b_ValueError : T.mg "ValueError" = none
  fn_law_outcome : ∃ f fd, T.mg "_law_outcome" = some (.ref f) ∧ Fun T.K "_law_outcome" "_law_outcome" s_law_outcome f fd ∧ Binds T.K fd ["_law_call"] []
  ca_RowError : ∃ Ca, T.mg "RowError" = some (.ref Ca)
  ex_all : ∀ Dn ∈ excs, ∀ Da, T.mg (nm Dn) = some (.ref Da) → ExAll T Dn Da
  fn_law_due : ∃ f fd, T.mg "_law_due" = some (.ref f) ∧ Fun T.K "_law_due" "_law_due" s_law_due f fd ∧ Binds T.K fd ["_law_kind", "_law_numbers"] []
  cc_Weather_KIND : ∃ Ca mc u, T.mg "Weather" = some (.ref Ca) ∧ ClX.CRead T.K Ca mc ∧ ClX.CVal T.K Ca mc "KIND" (.str "dry") u
  xi_InvalidWeather : ∃ Ca f fd R, T.mg (nm 6) = some (.ref Ca) ∧ SupI T.K T.mg R ∧ OexC T.K Ca ∧ PySem.W.findIn T.K (.ref Ca) "__init__" = some (some (.ref f)) ∧ PySem.W.typeIn T.K (.ref f) = some (.type "function") ∧ PySem.W.findIn T.K (.ref Ca) "part" = some none ∧ Fun T.K "__init__" "InvalidWeather.__init__" s_x_InvalidWeather f fd

theorem sc_x_InvalidWeather : FnScope ["self", "part"] ["self", "part"] (defScope s_x_InvalidWeather) := ⟨rfl, rfl, rfl, by decide +kernel, rfl, by decide +kernel, by decide +kernel⟩
theorem h_x_InvalidWeather {T : Wh} (F : Fx T) : ExK T 6 1 [24] := by
  refine ⟨by decide, ?_⟩
  obtain ⟨Ca, f, fd, R, hm, hS, hO, hi, ht, n0, hF⟩ := F.xi_InvalidWeather
  refine ⟨Ca, f, fd, ["self", "part"], hm, hO, hi, ht, ?_, exinit1 (f1 := 24) hF sc_x_InvalidWeather hS hO n0 rfl (by decide +kernel) (by decide +kernel) rfl fun env => ⟨_, rfl⟩⟩
  obtain ⟨oc, od, kV, doc, pm, an, cdv, ct, osl, rfl, lk, hcd⟩ := hF.ex
  exact ⟨fun s us ws _ h1 h2 => match us, ws, h1, h2 with | [a], [b0], _, _ => .of_eq rfl, fun r1 r2 => r1.append r2⟩
/-! ### _law_mix -/
abbrev N_law_mix : List Str := ["_law_script", "_law_seed", "_law_mixed", "_law_cell"]
theorem sc_law_mix : FnScope N_law_mix ["_law_script", "_law_seed"] (defScope s_law_mix) := ⟨rfl, rfl, rfl, by decide +kernel, rfl, by decide +kernel, by decide +kernel⟩
theorem h_law_mix {T : Wh} (F : Fx T) : Has T "_law_mix" 1 2 f_law_mix := by
  obtain ⟨f, fd, hm, hF, hB⟩ := F.fn_law_mix
  exact ⟨f, hm, fnM_of1 (k := 0) (N := N_law_mix) (m := 2) (body := m_law_mix) hF hB sc_law_mix rfl rfl (fun cdv A outer s H E hr => (by have hu := hr.units; have hu1 : _ + 1 < cLine := Nat.lt_of_le_of_lt (Nat.add_le_add_left (by decide) _) hu; have hu2 : _ + 2 < cLine := Nat.lt_of_le_of_lt (Nat.add_le_add_left (by decide) _) hu; delta m_law_mix; delta Se.sWhile Se.mVar Se.mC Se.mBin Se.mTest Se.mChain Se.tAndM Se.tOrM Se.tNotM Se.mAnd Se.mOr Se.mNot Se.mIf Se.aNil Se.aCons Se.mTup Se.mLst Se.mApp Se.mCut Se.oNone Se.oSome Se.sNext Se.sSeq Se.sSet Se.sRet Se.sDrop Se.sIf Se.sAug Se.sBreak Se.sCont Se.gSet Se.gsNil Se.gsCons Se.gTupM Se.sAsg Se.sPar Se.sFor Se.iRange1 Se.iRange2 Se.mFld Se.sFldM Se.sFldAugM Se.mMeth Se.mProp Se.vMake Se.iEnumM Se.iZipM Se.iSeqM Se.iStrM Se.mYes Se.mLc Se.mBM Se.gSubL Se.mIsi Se.sRaise Se.sRaise0 Se.aStar Se.mOp Se.mLen Se.mDget Se.gSubD Se.mDisp Se.mItems Se.mDc Se.gFld Se.mOutcome Se.mBad Se.sBad Se.mNeg Se.mCall Se.mGetO Se.mOpT Se.mIsiO Se.gTupS Se.iKeysM Se.iValsM Se.mDisp0 Se.mOutOne Se.mCm Se.mMakeV Se.mSup Se.mMake0 Se.mCon Se.mOpG Ab.mNeg; exact (jss_cons (js_set sc_law_mix.nd (je_var (i := 1))) (jss_cons (js_for cx1_pass rfl (ji_seq (je_var (i := 0))) (jg_name (i := 3) sc_law_mix.nd) (jss_one (js_set sc_law_mix.nd (je_op m2_mod quiet_mod (je_op m2_add quiet_add (je_op m2_add quiet_add (je_op m2_mul quiet_mul (je_var (i := 2)) (je_int)) (je_op m2_mod quiet_mod (je_var (i := 3)) (je_int))) (je_int)) (je_int))))) (jss_one (js_ret (je_lst (ja_cons (je_var (i := 2)) (ja_cons (je_callTy mc_list quiet_list F.b_list Boot.list (ja_cons (je_var (i := 0)) (ja_nil))) (ja_cons (je_int) (ja_nil)))))))))))⟩
/-! ### _law_next -/
abbrev N_law_next : List Str := ["_law_h", "_law_limit", "_law_cell"]
theorem sc_law_next : FnScope N_law_next ["_law_h", "_law_limit"] (defScope s_law_next) := ⟨rfl, rfl, rfl, by decide +kernel, rfl, by decide +kernel, by decide +kernel⟩
theorem h_law_next {T : Wh} (F : Fx T) : Has T "_law_next" 1 2 f_law_next := by
  obtain ⟨f, fd, hm, hF, hB⟩ := F.fn_law_next
  exact ⟨f, hm, fnM_of1 (k := 0) (N := N_law_next) (m := 1) (body := m_law_next) hF hB sc_law_next rfl rfl (fun cdv A outer s H E hr => (by have hu := hr.units; have hu1 : _ + 1 < cLine := Nat.lt_of_le_of_lt (Nat.add_le_add_left (by decide) _) hu; have hu2 : _ + 2 < cLine := Nat.lt_of_le_of_lt (Nat.add_le_add_left (by decide) _) hu; delta m_law_next; delta Se.sWhile Se.mVar Se.mC Se.mBin Se.mTest Se.mChain Se.tAndM Se.tOrM Se.tNotM Se.mAnd Se.mOr Se.mNot Se.mIf Se.aNil Se.aCons Se.mTup Se.mLst Se.mApp Se.mCut Se.oNone Se.oSome Se.sNext Se.sSeq Se.sSet Se.sRet Se.sDrop Se.sIf Se.sAug Se.sBreak Se.sCont Se.gSet Se.gsNil Se.gsCons Se.gTupM Se.sAsg Se.sPar Se.sFor Se.iRange1 Se.iRange2 Se.mFld Se.sFldM Se.sFldAugM Se.mMeth Se.mProp Se.vMake Se.iEnumM Se.iZipM Se.iSeqM Se.iStrM Se.mYes Se.mLc Se.mBM Se.gSubL Se.mIsi Se.sRaise Se.sRaise0 Se.aStar Se.mOp Se.mLen Se.mDget Se.gSubD Se.mDisp Se.mItems Se.mDc Se.gFld Se.mOutcome Se.mBad Se.sBad Se.mNeg Se.mCall Se.mGetO Se.mOpT Se.mIsiO Se.gTupS Se.iKeysM Se.iValsM Se.mDisp0 Se.mOutOne Se.mCm Se.mMakeV Se.mSup Se.mMake0 Se.mCon Se.mOpG Ab.mNeg; exact (jss_cons (js_set sc_law_next.nd (je_ix (je_op m2_add quiet_add (je_ix (je_var (i := 0)) (je_int)) (je_lst (ja_cons (je_int) (ja_nil)))) (je_op m2_mod quiet_mod (je_ix (je_var (i := 0)) (je_int)) (je_callB (mc_max2 rfl) quiet_max2 F.b_max Boot.max (ja_cons (je_int) (ja_cons (je_callB mc_len quiet_len F.b_len Boot.len (ja_cons (je_ix (je_var (i := 0)) (je_int)) (ja_nil))) (ja_nil))))))) (jss_cons (js_if (jt_cmp m2_ge (quiet_cmpI _) (je_var (i := 2)) (je_op m2_pow quiet_pow (je_int) (je_int))) (jss_cons (js_asg (je_op m2_div quiet_div (je_var (i := 2)) (je_var (i := 1))) (jg_sub (je_ix (je_var (i := 0)) (je_int)) (je_op m2_mod quiet_mod (je_ix (je_var (i := 0)) (je_int)) (je_callB mc_len quiet_len F.b_len Boot.len (ja_cons (je_ix (je_var (i := 0)) (je_int)) (ja_nil)))))) (jss_one (js_ret (je_op m2_mod quiet_mod (je_var (i := 2)) (je_var (i := 1)))))) (jss_nil)) (jss_cons (js_asg (je_op m2_mod quiet_mod (je_op m2_add quiet_add (je_op m2_add quiet_add (je_op m2_mul quiet_mul (je_ix (je_var (i := 0)) (je_int)) (je_int)) (je_op m2_mul quiet_mul (je_var (i := 2)) (je_int))) (je_int)) (je_int)) (jg_sub (je_var (i := 0)) (je_int))) (jss_cons (js_asg (je_op m2_add quiet_add (je_ix (je_var (i := 0)) (je_int)) (je_int)) (jg_sub (je_var (i := 0)) (je_int))) (jss_one (js_ret (je_op m2_mod quiet_mod (je_op m2_div quiet_div (je_ix (je_var (i := 0)) (je_int)) (je_int)) (je_var (i := 1)))))))))))⟩
/-! ### _law_spec -/
abbrev N_law_spec : List Str := ["_law_h", "_law_kind", "_law_amount"]
theorem sc_law_spec : FnScope N_law_spec ["_law_h"] (defScope s_law_spec) := ⟨rfl, rfl, rfl, by decide +kernel, rfl, by decide +kernel, by decide +kernel⟩
theorem h_law_spec {T : Wh} (F : Fx T) : Has T "_law_spec" 2 1 f_law_spec := by
  obtain ⟨f, fd, hm, hF, hB⟩ := F.fn_law_spec
  exact ⟨f, hm, fnM_of1 (k := 1) (N := N_law_spec) (m := 2) (body := m_law_spec) hF hB sc_law_spec rfl rfl (fun cdv A outer s H E hr => (by have hu := hr.units; have hu1 : _ + 1 < cLine := Nat.lt_of_le_of_lt (Nat.add_le_add_left (by decide) _) hu; have hu2 : _ + 2 < cLine := Nat.lt_of_le_of_lt (Nat.add_le_add_left (by decide) _) hu; delta m_law_spec; delta Se.sWhile Se.mVar Se.mC Se.mBin Se.mTest Se.mChain Se.tAndM Se.tOrM Se.tNotM Se.mAnd Se.mOr Se.mNot Se.mIf Se.aNil Se.aCons Se.mTup Se.mLst Se.mApp Se.mCut Se.oNone Se.oSome Se.sNext Se.sSeq Se.sSet Se.sRet Se.sDrop Se.sIf Se.sAug Se.sBreak Se.sCont Se.gSet Se.gsNil Se.gsCons Se.gTupM Se.sAsg Se.sPar Se.sFor Se.iRange1 Se.iRange2 Se.mFld Se.sFldM Se.sFldAugM Se.mMeth Se.mProp Se.vMake Se.iEnumM Se.iZipM Se.iSeqM Se.iStrM Se.mYes Se.mLc Se.mBM Se.gSubL Se.mIsi Se.sRaise Se.sRaise0 Se.aStar Se.mOp Se.mLen Se.mDget Se.gSubD Se.mDisp Se.mItems Se.mDc Se.gFld Se.mOutcome Se.mBad Se.sBad Se.mNeg Se.mCall Se.mGetO Se.mOpT Se.mIsiO Se.gTupS Se.iKeysM Se.iValsM Se.mDisp0 Se.mOutOne Se.mCm Se.mMakeV Se.mSup Se.mMake0 Se.mCon Se.mOpG Ab.mNeg; exact (jss_cons (js_set sc_law_spec.nd (je_ix (je_lst (ja_cons (je_str) (ja_cons (je_str) (ja_cons (je_str) (ja_cons (je_str) (ja_nil)))))) (je_call (h_law_next F) (hr.mono (by decide)) (ja_cons (je_var (i := 0)) (ja_cons (je_int) (ja_nil)))))) (jss_cons (js_set sc_law_spec.nd (je_ix (je_lst (ja_cons (je_call (h_law_next F) (hr.mono (by decide)) (ja_cons (je_var (i := 0)) (ja_cons (je_int) (ja_nil)))) (ja_cons (je_call (h_law_next F) (hr.mono (by decide)) (ja_cons (je_var (i := 0)) (ja_cons (je_op m2_add quiet_add (je_op m2_pow quiet_pow (je_int) (je_int)) (je_int)) (ja_nil)))) (ja_nil)))) (je_call (h_law_next F) (hr.mono (by decide)) (ja_cons (je_var (i := 0)) (ja_cons (je_int) (ja_nil)))))) (jss_one (js_ret (je_tup (ja_cons (je_var (i := 1)) (ja_cons (je_tup (ja_cons (je_var (i := 2)) (ja_cons (je_op m2_add quiet_add (je_call (h_law_next F) (hr.mono (by decide)) (ja_cons (je_var (i := 0)) (ja_cons (je_int) (ja_nil)))) (je_callTy mc_intB quiet_intB F.b_int Boot.int (ja_cons (je_cmp (m2_eq hu) quiet_eq (je_var (i := 1)) (je_str)) (ja_nil)))) (ja_cons (je_op m2_add quiet_add (je_int) (je_call (h_law_next F) (hr.mono (by decide)) (ja_cons (je_var (i := 0)) (ja_cons (je_int) (ja_nil))))) (ja_nil))))) (ja_nil))))))))))⟩
/-! ### validate_part -/
abbrev N_validate_part : List Str := ["part", "number", "smallest", "largest"]
theorem sc_validate_part : FnScope N_validate_part ["part", "number", "smallest", "largest"] (defScope s_validate_part) := ⟨rfl, rfl, rfl, by decide +kernel, rfl, by decide +kernel, by decide +kernel⟩
theorem h_validate_part {T : Wh} (F : Fx T) : Has T "validate_part" 3 4 f_validate_part := by
  obtain ⟨f, fd, hm, hF, hB⟩ := F.fn_validate_part
  exact ⟨f, hm, fnM_of1 (k := 2) (N := N_validate_part) (m := 0) (body := m_validate_part) hF hB sc_validate_part rfl rfl (fun cdv A outer s H E hr => (by have hu := hr.units; have hu1 : _ + 1 < cLine := Nat.lt_of_le_of_lt (Nat.add_le_add_left (by decide) _) hu; have hu2 : _ + 2 < cLine := Nat.lt_of_le_of_lt (Nat.add_le_add_left (by decide) _) hu; delta m_validate_part; delta Se.sWhile Se.mVar Se.mC Se.mBin Se.mTest Se.mChain Se.tAndM Se.tOrM Se.tNotM Se.mAnd Se.mOr Se.mNot Se.mIf Se.aNil Se.aCons Se.mTup Se.mLst Se.mApp Se.mCut Se.oNone Se.oSome Se.sNext Se.sSeq Se.sSet Se.sRet Se.sDrop Se.sIf Se.sAug Se.sBreak Se.sCont Se.gSet Se.gsNil Se.gsCons Se.gTupM Se.sAsg Se.sPar Se.sFor Se.iRange1 Se.iRange2 Se.mFld Se.sFldM Se.sFldAugM Se.mMeth Se.mProp Se.vMake Se.iEnumM Se.iZipM Se.iSeqM Se.iStrM Se.mYes Se.mLc Se.mBM Se.gSubL Se.mIsi Se.sRaise Se.sRaise0 Se.aStar Se.mOp Se.mLen Se.mDget Se.gSubD Se.mDisp Se.mItems Se.mDc Se.gFld Se.mOutcome Se.mBad Se.sBad Se.mNeg Se.mCall Se.mGetO Se.mOpT Se.mIsiO Se.gTupS Se.iKeysM Se.iValsM Se.mDisp0 Se.mOutOne Se.mCm Se.mMakeV Se.mSup Se.mMake0 Se.mCon Se.mOpG Ab.mNeg; exact (jss_one (js_if (jt_not (jt_chain m2_le quiet_le m2_le quiet_le (je_var (i := 2)) (je_var (i := 1)) (je_var (i := 3)))) (jss_one (js_raise (h_x_InvalidWeather F) rfl (hr.mono (by decide)) (jk_cons (je_var (i := 0)) (jk_nil)))) (jss_nil)))))⟩
/-! ### SteadyWeather.__init__ -/
abbrev N_SteadyWeather_init : List Str := ["self", "amount"]
theorem sc_SteadyWeather_init : FnScope N_SteadyWeather_init ["self", "amount"] (defScope s_SteadyWeather_init) := ⟨rfl, rfl, rfl, by decide +kernel, rfl, by decide +kernel, by decide +kernel⟩
theorem h_SteadyWeather_init {T : Wh} (F : Fx T) : HasI T 17 4 2 f_SteadyWeather_init := by
  obtain ⟨Ca, f, fd, hm, hM, hF, hB⟩ := F.in_SteadyWeather
  exact ⟨Ca, f, hm, hM, fnM_of1 (k := 3) (N := N_SteadyWeather_init) (m := 0) (body := m_SteadyWeather_init) hF hB sc_SteadyWeather_init rfl rfl (fun cdv A outer s H E hr => (by have hu := hr.units; have hu1 : _ + 1 < cLine := Nat.lt_of_le_of_lt (Nat.add_le_add_left (by decide) _) hu; have hu2 : _ + 2 < cLine := Nat.lt_of_le_of_lt (Nat.add_le_add_left (by decide) _) hu; delta m_SteadyWeather_init; delta Se.sWhile Se.mVar Se.mC Se.mBin Se.mTest Se.mChain Se.tAndM Se.tOrM Se.tNotM Se.mAnd Se.mOr Se.mNot Se.mIf Se.aNil Se.aCons Se.mTup Se.mLst Se.mApp Se.mCut Se.oNone Se.oSome Se.sNext Se.sSeq Se.sSet Se.sRet Se.sDrop Se.sIf Se.sAug Se.sBreak Se.sCont Se.gSet Se.gsNil Se.gsCons Se.gTupM Se.sAsg Se.sPar Se.sFor Se.iRange1 Se.iRange2 Se.mFld Se.sFldM Se.sFldAugM Se.mMeth Se.mProp Se.vMake Se.iEnumM Se.iZipM Se.iSeqM Se.iStrM Se.mYes Se.mLc Se.mBM Se.gSubL Se.mIsi Se.sRaise Se.sRaise0 Se.aStar Se.mOp Se.mLen Se.mDget Se.gSubD Se.mDisp Se.mItems Se.mDc Se.gFld Se.mOutcome Se.mBad Se.sBad Se.mNeg Se.mCall Se.mGetO Se.mOpT Se.mIsiO Se.gTupS Se.iKeysM Se.iValsM Se.mDisp0 Se.mOutOne Se.mCm Se.mMakeV Se.mSup Se.mMake0 Se.mCon Se.mOpG Ab.mNeg; exact (jss_cons (js_expr (je_call (h_validate_part F) (hr.mono (by decide)) (ja_cons (je_str) (ja_cons (je_var (i := 1)) (ja_cons (je_int) (ja_cons (je_globI F.g_MAX_RAIN) (ja_nil))))))) (jss_one (js_fld (fldC F.fo_SteadyWeather_amount (fldC F.fo_SpellWeather_amount (fldC F.fo_StormWeather_amount fldN))) (je_var (i := 0)) (je_var (i := 1)))))))⟩
/-! ### SpellWeather.__init__ -/
abbrev N_SpellWeather_init : List Str := ["self", "amount", "wet", "dry", "__class__"]
theorem h_SpellWeather_init {T : Wh} (F : Fx T) : HasI T 18 5 4 f_SpellWeather_init := by
  obtain ⟨D, f, c, cc, f2, Cb, hC, hM, S, hb1, i2⟩ := F.su_SpellWeather
  have F2 := (h_SteadyWeather_init F).at hb1 i2
  refine ⟨D, f, hC, hM, ?_⟩
  delta f_SpellWeather_init m_SpellWeather_init
  delta Se.sWhile Se.mVar Se.mC Se.mBin Se.mTest Se.mChain Se.tAndM Se.tOrM Se.tNotM Se.mAnd Se.mOr Se.mNot Se.mIf Se.aNil Se.aCons Se.mTup Se.mLst Se.mApp Se.mCut Se.oNone Se.oSome Se.sNext Se.sSeq Se.sSet Se.sRet Se.sDrop Se.sIf Se.sAug Se.sBreak Se.sCont Se.gSet Se.gsNil Se.gsCons Se.gTupM Se.sAsg Se.sPar Se.sFor Se.iRange1 Se.iRange2 Se.mFld Se.sFldM Se.sFldAugM Se.mMeth Se.mProp Se.vMake Se.iEnumM Se.iZipM Se.iSeqM Se.iStrM Se.mYes Se.mLc Se.mBM Se.gSubL Se.mIsi Se.sRaise Se.sRaise0 Se.aStar Se.mOp Se.mLen Se.mDget Se.gSubD Se.mDisp Se.mItems Se.mDc Se.gFld Se.mOutcome Se.mBad Se.sBad Se.mNeg Se.mCall Se.mGetO Se.mOpT Se.mIsiO Se.gTupS Se.iKeysM Se.iValsM Se.mDisp0 Se.mOutOne Se.mCm Se.mMakeV Se.mSup Se.mMake0 Se.mCon Se.mOpG Ab.mNeg
  exact fnS_of (k := 4) (N := N_SpellWeather_init) (ar := argOf s_SpellWeather_init (by decide)) S hC (F2.mono (by decide)) (NdefX.nscope_by (by decide +kernel)) rfl rfl rfl (by decide) rfl rfl rfl (fun kV doc pm ct an us hl => match us, hl with | [_, _, _, _], _ => rfl) (fun A outer s H E => rfl) (fun A outer s H E => rfl) (fun A outer s H E => ⟨_, rfl⟩) (fun A outer s H E => rfl) (fun A outer s H E => rfl) (fun A outer s H E => ja_cons (je_var (i := 1)) (ja_nil)) (fun A outer s H E hr => (by have hu := hr.units; have hu1 : _ + 1 < cLine := Nat.lt_of_le_of_lt (Nat.add_le_add_left (by decide) _) hu; have hu2 : _ + 2 < cLine := Nat.lt_of_le_of_lt (Nat.add_le_add_left (by decide) _) hu; exact (jss_cons (js_expr (je_call (h_validate_part F) (hr.mono (by decide)) (ja_cons (je_str) (ja_cons (je_var (i := 2)) (ja_cons (je_int) (ja_cons (je_globI F.g_MAX_TICKS) (ja_nil))))))) (jss_cons (js_expr (je_call (h_validate_part F) (hr.mono (by decide)) (ja_cons (je_str) (ja_cons (je_var (i := 3)) (ja_cons (je_int) (ja_cons (je_globI F.g_MAX_TICKS) (ja_nil))))))) (jss_cons (js_fld (fld1 F.fo_SpellWeather_wet) (je_var (i := 0)) (je_var (i := 2))) (jss_one (js_fld (fld1 F.fo_SpellWeather_dry) (je_var (i := 0)) (je_var (i := 3)))))))))
/-! ### StormWeather.__init__ -/
abbrev N_StormWeather_init : List Str := ["self", "amount", "first", "every", "__class__"]
theorem h_StormWeather_init {T : Wh} (F : Fx T) : HasI T 19 5 4 f_StormWeather_init := by
  obtain ⟨D, f, c, cc, f2, Cb, hC, hM, S, hb1, i2⟩ := F.su_StormWeather
  have F2 := (h_SteadyWeather_init F).at hb1 i2
  refine ⟨D, f, hC, hM, ?_⟩
  delta f_StormWeather_init m_StormWeather_init
  delta Se.sWhile Se.mVar Se.mC Se.mBin Se.mTest Se.mChain Se.tAndM Se.tOrM Se.tNotM Se.mAnd Se.mOr Se.mNot Se.mIf Se.aNil Se.aCons Se.mTup Se.mLst Se.mApp Se.mCut Se.oNone Se.oSome Se.sNext Se.sSeq Se.sSet Se.sRet Se.sDrop Se.sIf Se.sAug Se.sBreak Se.sCont Se.gSet Se.gsNil Se.gsCons Se.gTupM Se.sAsg Se.sPar Se.sFor Se.iRange1 Se.iRange2 Se.mFld Se.sFldM Se.sFldAugM Se.mMeth Se.mProp Se.vMake Se.iEnumM Se.iZipM Se.iSeqM Se.iStrM Se.mYes Se.mLc Se.mBM Se.gSubL Se.mIsi Se.sRaise Se.sRaise0 Se.aStar Se.mOp Se.mLen Se.mDget Se.gSubD Se.mDisp Se.mItems Se.mDc Se.gFld Se.mOutcome Se.mBad Se.sBad Se.mNeg Se.mCall Se.mGetO Se.mOpT Se.mIsiO Se.gTupS Se.iKeysM Se.iValsM Se.mDisp0 Se.mOutOne Se.mCm Se.mMakeV Se.mSup Se.mMake0 Se.mCon Se.mOpG Ab.mNeg
  exact fnS_of (k := 4) (N := N_StormWeather_init) (ar := argOf s_StormWeather_init (by decide)) S hC (F2.mono (by decide)) (NdefX.nscope_by (by decide +kernel)) rfl rfl rfl (by decide) rfl rfl rfl (fun kV doc pm ct an us hl => match us, hl with | [_, _, _, _], _ => rfl) (fun A outer s H E => rfl) (fun A outer s H E => rfl) (fun A outer s H E => ⟨_, rfl⟩) (fun A outer s H E => rfl) (fun A outer s H E => rfl) (fun A outer s H E => ja_cons (je_var (i := 1)) (ja_nil)) (fun A outer s H E hr => (by have hu := hr.units; have hu1 : _ + 1 < cLine := Nat.lt_of_le_of_lt (Nat.add_le_add_left (by decide) _) hu; have hu2 : _ + 2 < cLine := Nat.lt_of_le_of_lt (Nat.add_le_add_left (by decide) _) hu; exact (jss_cons (js_expr (je_call (h_validate_part F) (hr.mono (by decide)) (ja_cons (je_str) (ja_cons (je_var (i := 2)) (ja_cons (je_int) (ja_cons (je_globI F.g_MAX_TICKS) (ja_nil))))))) (jss_cons (js_expr (je_call (h_validate_part F) (hr.mono (by decide)) (ja_cons (je_str) (ja_cons (je_var (i := 3)) (ja_cons (je_int) (ja_cons (je_globI F.g_MAX_TICKS) (ja_nil))))))) (jss_cons (js_fld (fld1 F.fo_StormWeather_first) (je_var (i := 0)) (je_var (i := 2))) (jss_one (js_fld (fld1 F.fo_StormWeather_every) (je_var (i := 0)) (je_var (i := 3)))))))))
/-! ### _law_weather -/
abbrev N_law_weather : List Str := ["_law_spec_here", "_law_kind", "_law_numbers"]
theorem sc_law_weather : FnScope N_law_weather ["_law_spec_here"] (defScope s_law_weather) := ⟨rfl, rfl, rfl, by decide +kernel, rfl, by decide +kernel, by decide +kernel⟩
theorem h_law_weather {T : Wh} (F : Fx T) : Has T "_law_weather" 7 1 f_law_weather := by
  obtain ⟨f, fd, hm, hF, hB⟩ := F.fn_law_weather
  exact ⟨f, hm, fnM_of1 (k := 6) (N := N_law_weather) (m := 2) (body := m_law_weather) hF hB sc_law_weather rfl rfl (fun cdv A outer s H E hr => (by have hu := hr.units; have hu1 : _ + 1 < cLine := Nat.lt_of_le_of_lt (Nat.add_le_add_left (by decide) _) hu; have hu2 : _ + 2 < cLine := Nat.lt_of_le_of_lt (Nat.add_le_add_left (by decide) _) hu; delta m_law_weather; delta Se.sWhile Se.mVar Se.mC Se.mBin Se.mTest Se.mChain Se.tAndM Se.tOrM Se.tNotM Se.mAnd Se.mOr Se.mNot Se.mIf Se.aNil Se.aCons Se.mTup Se.mLst Se.mApp Se.mCut Se.oNone Se.oSome Se.sNext Se.sSeq Se.sSet Se.sRet Se.sDrop Se.sIf Se.sAug Se.sBreak Se.sCont Se.gSet Se.gsNil Se.gsCons Se.gTupM Se.sAsg Se.sPar Se.sFor Se.iRange1 Se.iRange2 Se.mFld Se.sFldM Se.sFldAugM Se.mMeth Se.mProp Se.vMake Se.iEnumM Se.iZipM Se.iSeqM Se.iStrM Se.mYes Se.mLc Se.mBM Se.gSubL Se.mIsi Se.sRaise Se.sRaise0 Se.aStar Se.mOp Se.mLen Se.mDget Se.gSubD Se.mDisp Se.mItems Se.mDc Se.gFld Se.mOutcome Se.mBad Se.sBad Se.mNeg Se.mCall Se.mGetO Se.mOpT Se.mIsiO Se.gTupS Se.iKeysM Se.iValsM Se.mDisp0 Se.mOutOne Se.mCm Se.mMakeV Se.mSup Se.mMake0 Se.mCon Se.mOpG Ab.mNeg; exact (jss_cons (js_asg (je_var (i := 0)) (jg_tup rfl (jgs_cons (jg_name (i := 1) sc_law_weather.nd) (jgs_cons (jg_name (i := 2) sc_law_weather.nd) (jgs_nil))))) (jss_cons (js_if (jt_cmp (m2_eq hu) quiet_eq (je_var (i := 1)) (je_str)) (jss_one (js_ret (je_make0 F.i0_Weather (by decide +kernel)))) (jss_nil)) (jss_cons (js_if (jt_cmp (m2_eq hu) quiet_eq (je_var (i := 1)) (je_str)) (jss_one (js_ret (je_make (h_SteadyWeather_init F) (by decide +kernel) (hr.mono (by decide)) (ja_cons (je_ix (je_var (i := 2)) (je_int)) (ja_nil))))) (jss_nil)) (jss_cons (js_if (jt_cmp (m2_eq hu) quiet_eq (je_var (i := 1)) (je_str)) (jss_one (js_ret (je_make (h_SpellWeather_init F) (by decide +kernel) (hr.mono (by decide)) (ja_cons (je_ix (je_var (i := 2)) (je_int)) (ja_cons (je_ix (je_var (i := 2)) (je_int)) (ja_cons (je_ix (je_var (i := 2)) (je_int)) (ja_nil))))))) (jss_nil)) (jss_one (js_ret (je_make (h_StormWeather_init F) (by decide +kernel) (hr.mono (by decide)) (ja_cons (je_ix (je_var (i := 2)) (je_int)) (ja_cons (je_ix (je_var (i := 2)) (je_int)) (ja_cons (je_ix (je_var (i := 2)) (je_int)) (ja_nil)))))))))))))⟩
/-! ### SumWeather.__init__ -/
abbrev N_SumWeather_init : List Str := ["self", "one", "other"]
theorem sc_SumWeather_init : FnScope N_SumWeather_init ["self", "one", "other"] (defScope s_SumWeather_init) := ⟨rfl, rfl, rfl, by decide +kernel, rfl, by decide +kernel, by decide +kernel⟩
theorem h_SumWeather_init {T : Wh} (F : Fx T) : HasI T 16 1 3 f_SumWeather_init := by
  obtain ⟨Ca, f, fd, hm, hM, hF, hB⟩ := F.in_SumWeather
  exact ⟨Ca, f, hm, hM, fnM_of1 (k := 0) (N := N_SumWeather_init) (m := 0) (body := m_SumWeather_init) hF hB sc_SumWeather_init rfl rfl (fun cdv A outer s H E hr => (by have hu := hr.units; have hu1 : _ + 1 < cLine := Nat.lt_of_le_of_lt (Nat.add_le_add_left (by decide) _) hu; have hu2 : _ + 2 < cLine := Nat.lt_of_le_of_lt (Nat.add_le_add_left (by decide) _) hu; delta m_SumWeather_init; delta Se.sWhile Se.mVar Se.mC Se.mBin Se.mTest Se.mChain Se.tAndM Se.tOrM Se.tNotM Se.mAnd Se.mOr Se.mNot Se.mIf Se.aNil Se.aCons Se.mTup Se.mLst Se.mApp Se.mCut Se.oNone Se.oSome Se.sNext Se.sSeq Se.sSet Se.sRet Se.sDrop Se.sIf Se.sAug Se.sBreak Se.sCont Se.gSet Se.gsNil Se.gsCons Se.gTupM Se.sAsg Se.sPar Se.sFor Se.iRange1 Se.iRange2 Se.mFld Se.sFldM Se.sFldAugM Se.mMeth Se.mProp Se.vMake Se.iEnumM Se.iZipM Se.iSeqM Se.iStrM Se.mYes Se.mLc Se.mBM Se.gSubL Se.mIsi Se.sRaise Se.sRaise0 Se.aStar Se.mOp Se.mLen Se.mDget Se.gSubD Se.mDisp Se.mItems Se.mDc Se.gFld Se.mOutcome Se.mBad Se.sBad Se.mNeg Se.mCall Se.mGetO Se.mOpT Se.mIsiO Se.gTupS Se.iKeysM Se.iValsM Se.mDisp0 Se.mOutOne Se.mCm Se.mMakeV Se.mSup Se.mMake0 Se.mCon Se.mOpG Ab.mNeg; exact (jss_cons (js_fld (fld1 F.fo_SumWeather_one) (je_var (i := 0)) (je_var (i := 1))) (jss_one (js_fld (fld1 F.fo_SumWeather_other) (je_var (i := 0)) (je_var (i := 2)))))))⟩
/-! ### Weather.__add__ -/
abbrev N_Weather_add : List Str := ["self", "other"]
theorem sc_Weather_add : FnScope N_Weather_add ["self", "other"] (defScope s_Weather_add) := ⟨rfl, rfl, rfl, by decide +kernel, rfl, by decide +kernel, by decide +kernel⟩
theorem hg_Weather_add {T : Wh} (F : Fx T) : HasOpG T [15, 17, 18, 19] .Add 3 f_Weather_add := by
  obtain ⟨f, fd, h1, h2, h3, h4, hF, hB⟩ := F.og_Weather_add
  exact ⟨f, h1, fnM_of1 (k := 2) (N := N_Weather_add) (m := 0) (body := m_Weather_add) hF hB sc_Weather_add rfl rfl (fun cdv A outer s H E hr => (by have hu := hr.units; have hu1 : _ + 1 < cLine := Nat.lt_of_le_of_lt (Nat.add_le_add_left (by decide) _) hu; have hu2 : _ + 2 < cLine := Nat.lt_of_le_of_lt (Nat.add_le_add_left (by decide) _) hu; delta m_Weather_add; delta Se.sWhile Se.mVar Se.mC Se.mBin Se.mTest Se.mChain Se.tAndM Se.tOrM Se.tNotM Se.mAnd Se.mOr Se.mNot Se.mIf Se.aNil Se.aCons Se.mTup Se.mLst Se.mApp Se.mCut Se.oNone Se.oSome Se.sNext Se.sSeq Se.sSet Se.sRet Se.sDrop Se.sIf Se.sAug Se.sBreak Se.sCont Se.gSet Se.gsNil Se.gsCons Se.gTupM Se.sAsg Se.sPar Se.sFor Se.iRange1 Se.iRange2 Se.mFld Se.sFldM Se.sFldAugM Se.mMeth Se.mProp Se.vMake Se.iEnumM Se.iZipM Se.iSeqM Se.iStrM Se.mYes Se.mLc Se.mBM Se.gSubL Se.mIsi Se.sRaise Se.sRaise0 Se.aStar Se.mOp Se.mLen Se.mDget Se.gSubD Se.mDisp Se.mItems Se.mDc Se.gFld Se.mOutcome Se.mBad Se.sBad Se.mNeg Se.mCall Se.mGetO Se.mOpT Se.mIsiO Se.gTupS Se.iKeysM Se.iValsM Se.mDisp0 Se.mOutOne Se.mCm Se.mMakeV Se.mSup Se.mMake0 Se.mCon Se.mOpG Ab.mNeg; exact (jss_one (js_ret (je_make (h_SumWeather_init F) (by decide +kernel) (hr.mono (by decide)) (ja_cons (je_var (i := 0)) (ja_cons (je_var (i := 1)) (ja_nil)))))))), h2, by decide, h3, h4⟩
/-! ### _law_fall -/
abbrev N_law_fall : List Str := ["_law_spec_here", "_law_tick", "_law_kind", "_law_amount", "_law_one", "_law_other"]
theorem sc_law_fall : FnScope N_law_fall ["_law_spec_here", "_law_tick"] (defScope s_law_fall) := ⟨rfl, rfl, rfl, by decide +kernel, rfl, by decide +kernel, by decide +kernel⟩
theorem h_law_fall {T : Wh} (F : Fx T) : Has T "_law_fall" 1 2 f_law_fall := by
  obtain ⟨f, fd, hm, hF, hB⟩ := F.fn_law_fall
  exact ⟨f, hm, fnM_of1 (k := 0) (N := N_law_fall) (m := 4) (body := m_law_fall) hF hB sc_law_fall rfl rfl (fun cdv A outer s H E hr => (by have hu := hr.units; have hu1 : _ + 1 < cLine := Nat.lt_of_le_of_lt (Nat.add_le_add_left (by decide) _) hu; have hu2 : _ + 2 < cLine := Nat.lt_of_le_of_lt (Nat.add_le_add_left (by decide) _) hu; delta m_law_fall; delta Se.sWhile Se.mVar Se.mC Se.mBin Se.mTest Se.mChain Se.tAndM Se.tOrM Se.tNotM Se.mAnd Se.mOr Se.mNot Se.mIf Se.aNil Se.aCons Se.mTup Se.mLst Se.mApp Se.mCut Se.oNone Se.oSome Se.sNext Se.sSeq Se.sSet Se.sRet Se.sDrop Se.sIf Se.sAug Se.sBreak Se.sCont Se.gSet Se.gsNil Se.gsCons Se.gTupM Se.sAsg Se.sPar Se.sFor Se.iRange1 Se.iRange2 Se.mFld Se.sFldM Se.sFldAugM Se.mMeth Se.mProp Se.vMake Se.iEnumM Se.iZipM Se.iSeqM Se.iStrM Se.mYes Se.mLc Se.mBM Se.gSubL Se.mIsi Se.sRaise Se.sRaise0 Se.aStar Se.mOp Se.mLen Se.mDget Se.gSubD Se.mDisp Se.mItems Se.mDc Se.gFld Se.mOutcome Se.mBad Se.sBad Se.mNeg Se.mCall Se.mGetO Se.mOpT Se.mIsiO Se.gTupS Se.iKeysM Se.iValsM Se.mDisp0 Se.mOutOne Se.mCm Se.mMakeV Se.mSup Se.mMake0 Se.mCon Se.mOpG Ab.mNeg; exact (jss_cons (js_asg (je_var (i := 0)) (jg_tup rfl (jgs_cons (jg_name (i := 2) sc_law_fall.nd) (jgs_cons (jg_tup rfl (jgs_cons (jg_name (i := 3) sc_law_fall.nd) (jgs_cons (jg_name (i := 4) sc_law_fall.nd) (jgs_cons (jg_name (i := 5) sc_law_fall.nd) (jgs_nil))))) (jgs_nil))))) (jss_cons (js_if (jt_cmp (m2_eq hu) quiet_eq (je_var (i := 2)) (je_str)) (jss_one (js_ret (je_int))) (jss_nil)) (jss_cons (js_if (jt_cmp (m2_eq hu) quiet_eq (je_var (i := 2)) (je_str)) (jss_one (js_ret (je_if (jt_cmp m2_lt (quiet_cmpI _) (je_op m2_mod quiet_mod (je_var (i := 1)) (je_op m2_add quiet_add (je_var (i := 4)) (je_var (i := 5)))) (je_var (i := 4))) (je_var (i := 3)) (je_int)))) (jss_nil)) (jss_cons (js_if (jt_cmp (m2_eq hu) quiet_eq (je_var (i := 2)) (je_str)) (jss_one (js_ret (je_if ((jw_and (jt_cmp m2_ge (quiet_cmpI _) (je_var (i := 1)) (je_var (i := 4))) (jw_and1 (jt_cmp (m2_eq hu) quiet_eq (je_op m2_mod quiet_mod (je_op m2_sub quiet_sub (je_var (i := 1)) (je_var (i := 4))) (je_var (i := 5))) (je_int)))).jt) (je_var (i := 3)) (je_int)))) (jss_nil)) (jss_one (js_ret (je_var (i := 3))))))))))⟩
/-! ### validate_number -/
abbrev N_validate_number : List Str := ["number", "smallest", "largest"]
theorem sc_validate_number : FnScope N_validate_number ["number", "smallest", "largest"] (defScope s_validate_number) := ⟨rfl, rfl, rfl, by decide +kernel, rfl, by decide +kernel, by decide +kernel⟩
theorem h_validate_number {T : Wh} (F : Fx T) : Has T "validate_number" 1 3 f_validate_number := by
  obtain ⟨f, fd, hm, hF, hB⟩ := F.fn_validate_number
  exact ⟨f, hm, fnM_of1 (k := 0) (N := N_validate_number) (m := 0) (body := m_validate_number) hF hB sc_validate_number rfl rfl (fun cdv A outer s H E hr => (by have hu := hr.units; have hu1 : _ + 1 < cLine := Nat.lt_of_le_of_lt (Nat.add_le_add_left (by decide) _) hu; have hu2 : _ + 2 < cLine := Nat.lt_of_le_of_lt (Nat.add_le_add_left (by decide) _) hu; delta m_validate_number; delta Se.sWhile Se.mVar Se.mC Se.mBin Se.mTest Se.mChain Se.tAndM Se.tOrM Se.tNotM Se.mAnd Se.mOr Se.mNot Se.mIf Se.aNil Se.aCons Se.mTup Se.mLst Se.mApp Se.mCut Se.oNone Se.oSome Se.sNext Se.sSeq Se.sSet Se.sRet Se.sDrop Se.sIf Se.sAug Se.sBreak Se.sCont Se.gSet Se.gsNil Se.gsCons Se.gTupM Se.sAsg Se.sPar Se.sFor Se.iRange1 Se.iRange2 Se.mFld Se.sFldM Se.sFldAugM Se.mMeth Se.mProp Se.vMake Se.iEnumM Se.iZipM Se.iSeqM Se.iStrM Se.mYes Se.mLc Se.mBM Se.gSubL Se.mIsi Se.sRaise Se.sRaise0 Se.aStar Se.mOp Se.mLen Se.mDget Se.gSubD Se.mDisp Se.mItems Se.mDc Se.gFld Se.mOutcome Se.mBad Se.sBad Se.mNeg Se.mCall Se.mGetO Se.mOpT Se.mIsiO Se.gTupS Se.iKeysM Se.iValsM Se.mDisp0 Se.mOutOne Se.mCm Se.mMakeV Se.mSup Se.mMake0 Se.mCon Se.mOpG Ab.mNeg; exact (jss_one (js_if (jt_not (jt_chain m2_le quiet_le m2_le quiet_le (je_var (i := 1)) (je_var (i := 0)) (je_var (i := 2)))) (jss_one (js_raise0 F.x0_InvalidNumber rfl)) (jss_nil)))))⟩
/-! ### Weather.amount_in -/
abbrev N_Weather_amount_in : List Str := ["self", "tick"]
theorem sc_Weather_amount_in : FnScope N_Weather_amount_in ["self", "tick"] (defScope s_Weather_amount_in) := ⟨rfl, rfl, rfl, by decide +kernel, rfl, by decide +kernel, by decide +kernel⟩
theorem h_Weather_amount_in {T : Wh} (F : Fx T) : HasM T 15 "amount_in" 1 2 f_Weather_amount_in := by
  obtain ⟨f, fd, h1, hF, hB⟩ := F.me_Weather_amount_in
  exact ⟨by decide +kernel, fun Ca hC => ⟨f, (h1 Ca hC).1, (h1 Ca hC).2, fnM_of1 (k := 0) (N := N_Weather_amount_in) (m := 0) (body := m_Weather_amount_in) hF hB sc_Weather_amount_in rfl rfl (fun cdv A outer s H E hr => (by have hu := hr.units; have hu1 : _ + 1 < cLine := Nat.lt_of_le_of_lt (Nat.add_le_add_left (by decide) _) hu; have hu2 : _ + 2 < cLine := Nat.lt_of_le_of_lt (Nat.add_le_add_left (by decide) _) hu; delta m_Weather_amount_in; delta Se.sWhile Se.mVar Se.mC Se.mBin Se.mTest Se.mChain Se.tAndM Se.tOrM Se.tNotM Se.mAnd Se.mOr Se.mNot Se.mIf Se.aNil Se.aCons Se.mTup Se.mLst Se.mApp Se.mCut Se.oNone Se.oSome Se.sNext Se.sSeq Se.sSet Se.sRet Se.sDrop Se.sIf Se.sAug Se.sBreak Se.sCont Se.gSet Se.gsNil Se.gsCons Se.gTupM Se.sAsg Se.sPar Se.sFor Se.iRange1 Se.iRange2 Se.mFld Se.sFldM Se.sFldAugM Se.mMeth Se.mProp Se.vMake Se.iEnumM Se.iZipM Se.iSeqM Se.iStrM Se.mYes Se.mLc Se.mBM Se.gSubL Se.mIsi Se.sRaise Se.sRaise0 Se.aStar Se.mOp Se.mLen Se.mDget Se.gSubD Se.mDisp Se.mItems Se.mDc Se.gFld Se.mOutcome Se.mBad Se.sBad Se.mNeg Se.mCall Se.mGetO Se.mOpT Se.mIsiO Se.gTupS Se.iKeysM Se.iValsM Se.mDisp0 Se.mOutOne Se.mCm Se.mMakeV Se.mSup Se.mMake0 Se.mCon Se.mOpG Ab.mNeg; exact (jss_one (js_ret (je_int)))))⟩⟩
/-! ### SteadyWeather.amount_in -/
abbrev N_SteadyWeather_amount_in : List Str := ["self", "tick"]
theorem sc_SteadyWeather_amount_in : FnScope N_SteadyWeather_amount_in ["self", "tick"] (defScope s_SteadyWeather_amount_in) := ⟨rfl, rfl, rfl, by decide +kernel, rfl, by decide +kernel, by decide +kernel⟩
theorem h_SteadyWeather_amount_in {T : Wh} (F : Fx T) : HasM T 17 "amount_in" 1 2 f_SteadyWeather_amount_in := by
  obtain ⟨f, fd, h1, hF, hB⟩ := F.me_SteadyWeather_amount_in
  exact ⟨by decide +kernel, fun Ca hC => ⟨f, (h1 Ca hC).1, (h1 Ca hC).2, fnM_of1 (k := 0) (N := N_SteadyWeather_amount_in) (m := 0) (body := m_SteadyWeather_amount_in) hF hB sc_SteadyWeather_amount_in rfl rfl (fun cdv A outer s H E hr => (by have hu := hr.units; have hu1 : _ + 1 < cLine := Nat.lt_of_le_of_lt (Nat.add_le_add_left (by decide) _) hu; have hu2 : _ + 2 < cLine := Nat.lt_of_le_of_lt (Nat.add_le_add_left (by decide) _) hu; delta m_SteadyWeather_amount_in; delta Se.sWhile Se.mVar Se.mC Se.mBin Se.mTest Se.mChain Se.tAndM Se.tOrM Se.tNotM Se.mAnd Se.mOr Se.mNot Se.mIf Se.aNil Se.aCons Se.mTup Se.mLst Se.mApp Se.mCut Se.oNone Se.oSome Se.sNext Se.sSeq Se.sSet Se.sRet Se.sDrop Se.sIf Se.sAug Se.sBreak Se.sCont Se.gSet Se.gsNil Se.gsCons Se.gTupM Se.sAsg Se.sPar Se.sFor Se.iRange1 Se.iRange2 Se.mFld Se.sFldM Se.sFldAugM Se.mMeth Se.mProp Se.vMake Se.iEnumM Se.iZipM Se.iSeqM Se.iStrM Se.mYes Se.mLc Se.mBM Se.gSubL Se.mIsi Se.sRaise Se.sRaise0 Se.aStar Se.mOp Se.mLen Se.mDget Se.gSubD Se.mDisp Se.mItems Se.mDc Se.gFld Se.mOutcome Se.mBad Se.sBad Se.mNeg Se.mCall Se.mGetO Se.mOpT Se.mIsiO Se.gTupS Se.iKeysM Se.iValsM Se.mDisp0 Se.mOutOne Se.mCm Se.mMakeV Se.mSup Se.mMake0 Se.mCon Se.mOpG Ab.mNeg; exact (jss_one (js_ret (je_fld (fldC F.fo_SteadyWeather_amount (fldC F.fo_SpellWeather_amount (fldC F.fo_StormWeather_amount fldN))) (je_var (i := 0)))))))⟩⟩
/-! ### SpellWeather.amount_in -/
abbrev N_SpellWeather_amount_in : List Str := ["self", "tick"]
theorem sc_SpellWeather_amount_in : FnScope N_SpellWeather_amount_in ["self", "tick"] (defScope s_SpellWeather_amount_in) := ⟨rfl, rfl, rfl, by decide +kernel, rfl, by decide +kernel, by decide +kernel⟩
theorem h_SpellWeather_amount_in {T : Wh} (F : Fx T) : HasM T 18 "amount_in" 1 2 f_SpellWeather_amount_in := by
  obtain ⟨f, fd, h1, hF, hB⟩ := F.me_SpellWeather_amount_in
  exact ⟨by decide +kernel, fun Ca hC => ⟨f, (h1 Ca hC).1, (h1 Ca hC).2, fnM_of1 (k := 0) (N := N_SpellWeather_amount_in) (m := 0) (body := m_SpellWeather_amount_in) hF hB sc_SpellWeather_amount_in rfl rfl (fun cdv A outer s H E hr => (by have hu := hr.units; have hu1 : _ + 1 < cLine := Nat.lt_of_le_of_lt (Nat.add_le_add_left (by decide) _) hu; have hu2 : _ + 2 < cLine := Nat.lt_of_le_of_lt (Nat.add_le_add_left (by decide) _) hu; delta m_SpellWeather_amount_in; delta Se.sWhile Se.mVar Se.mC Se.mBin Se.mTest Se.mChain Se.tAndM Se.tOrM Se.tNotM Se.mAnd Se.mOr Se.mNot Se.mIf Se.aNil Se.aCons Se.mTup Se.mLst Se.mApp Se.mCut Se.oNone Se.oSome Se.sNext Se.sSeq Se.sSet Se.sRet Se.sDrop Se.sIf Se.sAug Se.sBreak Se.sCont Se.gSet Se.gsNil Se.gsCons Se.gTupM Se.sAsg Se.sPar Se.sFor Se.iRange1 Se.iRange2 Se.mFld Se.sFldM Se.sFldAugM Se.mMeth Se.mProp Se.vMake Se.iEnumM Se.iZipM Se.iSeqM Se.iStrM Se.mYes Se.mLc Se.mBM Se.gSubL Se.mIsi Se.sRaise Se.sRaise0 Se.aStar Se.mOp Se.mLen Se.mDget Se.gSubD Se.mDisp Se.mItems Se.mDc Se.gFld Se.mOutcome Se.mBad Se.sBad Se.mNeg Se.mCall Se.mGetO Se.mOpT Se.mIsiO Se.gTupS Se.iKeysM Se.iValsM Se.mDisp0 Se.mOutOne Se.mCm Se.mMakeV Se.mSup Se.mMake0 Se.mCon Se.mOpG Ab.mNeg; exact (jss_one (js_ret (je_if (jt_cmp m2_lt (quiet_cmpI _) (je_op m2_mod quiet_mod (je_callTy mc_intB quiet_intB F.b_int Boot.int (ja_cons (je_var (i := 1)) (ja_nil))) (je_op m2_add quiet_add (je_fld (fld1 F.fo_SpellWeather_wet) (je_var (i := 0))) (je_fld (fld1 F.fo_SpellWeather_dry) (je_var (i := 0))))) (je_fld (fld1 F.fo_SpellWeather_wet) (je_var (i := 0)))) (je_fld (fldC F.fo_SteadyWeather_amount (fldC F.fo_SpellWeather_amount (fldC F.fo_StormWeather_amount fldN))) (je_var (i := 0))) (je_int))))))⟩⟩
/-! ### StormWeather.amount_in -/
abbrev N_StormWeather_amount_in : List Str := ["self", "tick"]
theorem sc_StormWeather_amount_in : FnScope N_StormWeather_amount_in ["self", "tick"] (defScope s_StormWeather_amount_in) := ⟨rfl, rfl, rfl, by decide +kernel, rfl, by decide +kernel, by decide +kernel⟩
theorem h_StormWeather_amount_in {T : Wh} (F : Fx T) : HasM T 19 "amount_in" 1 2 f_StormWeather_amount_in := by
  obtain ⟨f, fd, h1, hF, hB⟩ := F.me_StormWeather_amount_in
  exact ⟨by decide +kernel, fun Ca hC => ⟨f, (h1 Ca hC).1, (h1 Ca hC).2, fnM_of1 (k := 0) (N := N_StormWeather_amount_in) (m := 0) (body := m_StormWeather_amount_in) hF hB sc_StormWeather_amount_in rfl rfl (fun cdv A outer s H E hr => (by have hu := hr.units; have hu1 : _ + 1 < cLine := Nat.lt_of_le_of_lt (Nat.add_le_add_left (by decide) _) hu; have hu2 : _ + 2 < cLine := Nat.lt_of_le_of_lt (Nat.add_le_add_left (by decide) _) hu; delta m_StormWeather_amount_in; delta Se.sWhile Se.mVar Se.mC Se.mBin Se.mTest Se.mChain Se.tAndM Se.tOrM Se.tNotM Se.mAnd Se.mOr Se.mNot Se.mIf Se.aNil Se.aCons Se.mTup Se.mLst Se.mApp Se.mCut Se.oNone Se.oSome Se.sNext Se.sSeq Se.sSet Se.sRet Se.sDrop Se.sIf Se.sAug Se.sBreak Se.sCont Se.gSet Se.gsNil Se.gsCons Se.gTupM Se.sAsg Se.sPar Se.sFor Se.iRange1 Se.iRange2 Se.mFld Se.sFldM Se.sFldAugM Se.mMeth Se.mProp Se.vMake Se.iEnumM Se.iZipM Se.iSeqM Se.iStrM Se.mYes Se.mLc Se.mBM Se.gSubL Se.mIsi Se.sRaise Se.sRaise0 Se.aStar Se.mOp Se.mLen Se.mDget Se.gSubD Se.mDisp Se.mItems Se.mDc Se.gFld Se.mOutcome Se.mBad Se.sBad Se.mNeg Se.mCall Se.mGetO Se.mOpT Se.mIsiO Se.gTupS Se.iKeysM Se.iValsM Se.mDisp0 Se.mOutOne Se.mCm Se.mMakeV Se.mSup Se.mMake0 Se.mCon Se.mOpG Ab.mNeg; exact (jss_cons (js_if ((jw_or (jt_cmp m2_lt (quiet_cmpI _) (je_var (i := 1)) (je_fld (fld1 F.fo_StormWeather_first) (je_var (i := 0)))) (jw_or1 (jt_cmp (m2_ne hu) quiet_ne (je_op m2_mod quiet_mod (je_callTy mc_intB quiet_intB F.b_int Boot.int (ja_cons (je_op m2_sub quiet_sub (je_var (i := 1)) (je_fld (fld1 F.fo_StormWeather_first) (je_var (i := 0)))) (ja_nil))) (je_fld (fld1 F.fo_StormWeather_every) (je_var (i := 0)))) (je_int)))).jt) (jss_one (js_ret (je_int))) (jss_nil)) (jss_one (js_ret (je_fld (fldC F.fo_SteadyWeather_amount (fldC F.fo_SpellWeather_amount (fldC F.fo_StormWeather_amount fldN))) (je_var (i := 0))))))))⟩⟩
/-! ### SumWeather.amount_in -/
abbrev N_SumWeather_amount_in : List Str := ["self", "tick"]
theorem sc_SumWeather_amount_in : FnScope N_SumWeather_amount_in ["self", "tick"] (defScope s_SumWeather_amount_in) := ⟨rfl, rfl, rfl, by decide +kernel, rfl, by decide +kernel, by decide +kernel⟩
theorem h_SumWeather_amount_in {T : Wh} (F : Fx T) : HasM T 16 "amount_in" 2 2 f_SumWeather_amount_in := by
  obtain ⟨f, fd, h1, hF, hB⟩ := F.me_SumWeather_amount_in
  exact ⟨by decide +kernel, fun Ca hC => ⟨f, (h1 Ca hC).1, (h1 Ca hC).2, fnM_of1 (k := 1) (N := N_SumWeather_amount_in) (m := 0) (body := m_SumWeather_amount_in) hF hB sc_SumWeather_amount_in rfl rfl (fun cdv A outer s H E hr => (by have hu := hr.units; have hu1 : _ + 1 < cLine := Nat.lt_of_le_of_lt (Nat.add_le_add_left (by decide) _) hu; have hu2 : _ + 2 < cLine := Nat.lt_of_le_of_lt (Nat.add_le_add_left (by decide) _) hu; delta m_SumWeather_amount_in; delta Se.sWhile Se.mVar Se.mC Se.mBin Se.mTest Se.mChain Se.tAndM Se.tOrM Se.tNotM Se.mAnd Se.mOr Se.mNot Se.mIf Se.aNil Se.aCons Se.mTup Se.mLst Se.mApp Se.mCut Se.oNone Se.oSome Se.sNext Se.sSeq Se.sSet Se.sRet Se.sDrop Se.sIf Se.sAug Se.sBreak Se.sCont Se.gSet Se.gsNil Se.gsCons Se.gTupM Se.sAsg Se.sPar Se.sFor Se.iRange1 Se.iRange2 Se.mFld Se.sFldM Se.sFldAugM Se.mMeth Se.mProp Se.vMake Se.iEnumM Se.iZipM Se.iSeqM Se.iStrM Se.mYes Se.mLc Se.mBM Se.gSubL Se.mIsi Se.sRaise Se.sRaise0 Se.aStar Se.mOp Se.mLen Se.mDget Se.gSubD Se.mDisp Se.mItems Se.mDc Se.gFld Se.mOutcome Se.mBad Se.sBad Se.mNeg Se.mCall Se.mGetO Se.mOpT Se.mIsiO Se.gTupS Se.iKeysM Se.iValsM Se.mDisp0 Se.mOutOne Se.mCm Se.mMakeV Se.mSup Se.mMake0 Se.mCon Se.mOpG Ab.mNeg; exact (jss_one (js_ret (je_op m2_add quiet_add (je_meth (k := 1) (tblC ⟨F.cl_Weather, (h_Weather_amount_in F).mono (by decide)⟩ (tblC ⟨F.cl_SteadyWeather, (h_SteadyWeather_amount_in F).mono (by decide)⟩ (tblC ⟨F.cl_SpellWeather, (h_SpellWeather_amount_in F).mono (by decide)⟩ (tblC ⟨F.cl_StormWeather, (h_StormWeather_amount_in F).mono (by decide)⟩ (tblN))))) (by simp) (hr.mono (by decide)) (je_fld (fld1 F.fo_SumWeather_one) (je_var (i := 0))) (ja_cons (je_var (i := 1)) (ja_nil))) (je_meth (k := 1) (tblC ⟨F.cl_Weather, (h_Weather_amount_in F).mono (by decide)⟩ (tblC ⟨F.cl_SteadyWeather, (h_SteadyWeather_amount_in F).mono (by decide)⟩ (tblC ⟨F.cl_SpellWeather, (h_SpellWeather_amount_in F).mono (by decide)⟩ (tblC ⟨F.cl_StormWeather, (h_StormWeather_amount_in F).mono (by decide)⟩ (tblN))))) (by simp) (hr.mono (by decide)) (je_fld (fld1 F.fo_SumWeather_other) (je_var (i := 0))) (ja_cons (je_var (i := 1)) (ja_nil))))))))⟩⟩
/-! ### Weather.fall_in -/
abbrev N_Weather_fall_in : List Str := ["self", "tick"]
theorem sc_Weather_fall_in : FnScope N_Weather_fall_in ["self", "tick"] (defScope s_Weather_fall_in) := ⟨rfl, rfl, rfl, by decide +kernel, rfl, by decide +kernel, by decide +kernel⟩
theorem h_Weather_fall_in {T : Wh} (F : Fx T) : HasM T 15 "fall_in" 3 2 f_Weather_fall_in := by
  obtain ⟨f, fd, h1, hF, hB⟩ := F.me_Weather_fall_in
  exact ⟨by decide +kernel, fun Ca hC => ⟨f, (h1 Ca hC).1, (h1 Ca hC).2, fnM_of1 (k := 2) (N := N_Weather_fall_in) (m := 0) (body := m_Weather_fall_in) hF hB sc_Weather_fall_in rfl rfl (fun cdv A outer s H E hr => (by have hu := hr.units; have hu1 : _ + 1 < cLine := Nat.lt_of_le_of_lt (Nat.add_le_add_left (by decide) _) hu; have hu2 : _ + 2 < cLine := Nat.lt_of_le_of_lt (Nat.add_le_add_left (by decide) _) hu; delta m_Weather_fall_in; delta Se.sWhile Se.mVar Se.mC Se.mBin Se.mTest Se.mChain Se.tAndM Se.tOrM Se.tNotM Se.mAnd Se.mOr Se.mNot Se.mIf Se.aNil Se.aCons Se.mTup Se.mLst Se.mApp Se.mCut Se.oNone Se.oSome Se.sNext Se.sSeq Se.sSet Se.sRet Se.sDrop Se.sIf Se.sAug Se.sBreak Se.sCont Se.gSet Se.gsNil Se.gsCons Se.gTupM Se.sAsg Se.sPar Se.sFor Se.iRange1 Se.iRange2 Se.mFld Se.sFldM Se.sFldAugM Se.mMeth Se.mProp Se.vMake Se.iEnumM Se.iZipM Se.iSeqM Se.iStrM Se.mYes Se.mLc Se.mBM Se.gSubL Se.mIsi Se.sRaise Se.sRaise0 Se.aStar Se.mOp Se.mLen Se.mDget Se.gSubD Se.mDisp Se.mItems Se.mDc Se.gFld Se.mOutcome Se.mBad Se.sBad Se.mNeg Se.mCall Se.mGetO Se.mOpT Se.mIsiO Se.gTupS Se.iKeysM Se.iValsM Se.mDisp0 Se.mOutOne Se.mCm Se.mMakeV Se.mSup Se.mMake0 Se.mCon Se.mOpG Ab.mNeg; exact (jss_cons (js_expr (je_call (h_validate_number F) (hr.mono (by decide)) (ja_cons (je_var (i := 1)) (ja_cons (je_int) (ja_cons (je_globI F.g_MAX_TICK) (ja_nil)))))) (jss_one (js_ret (je_meth (k := 2) (tblC ⟨F.cl_Weather, (h_Weather_amount_in F).mono (by decide)⟩ (tblC ⟨F.cl_SumWeather, (h_SumWeather_amount_in F).mono (by decide)⟩ (tblC ⟨F.cl_SteadyWeather, (h_SteadyWeather_amount_in F).mono (by decide)⟩ (tblC ⟨F.cl_SpellWeather, (h_SpellWeather_amount_in F).mono (by decide)⟩ (tblC ⟨F.cl_StormWeather, (h_StormWeather_amount_in F).mono (by decide)⟩ (tblN)))))) (by simp) (hr.mono (by decide)) (je_var (i := 0)) (ja_cons (je_var (i := 1)) (ja_nil))))))))⟩⟩
theorem h_Weather_fall_in__SumWeather {T : Wh} (F : Fx T) : HasM T 16 "fall_in" 3 2 f_Weather_fall_in := by
  obtain ⟨f, fd, h1, hF, hB⟩ := F.mi_SumWeather__Weather_fall_in
  exact ⟨by decide +kernel, fun Ca hC => ⟨f, (h1 Ca hC).1, (h1 Ca hC).2, fnM_of1 (k := 2) (N := N_Weather_fall_in) (m := 0) (body := m_Weather_fall_in) hF hB sc_Weather_fall_in rfl rfl (fun cdv A outer s H E hr => (by have hu := hr.units; have hu1 : _ + 1 < cLine := Nat.lt_of_le_of_lt (Nat.add_le_add_left (by decide) _) hu; have hu2 : _ + 2 < cLine := Nat.lt_of_le_of_lt (Nat.add_le_add_left (by decide) _) hu; delta m_Weather_fall_in; delta Se.sWhile Se.mVar Se.mC Se.mBin Se.mTest Se.mChain Se.tAndM Se.tOrM Se.tNotM Se.mAnd Se.mOr Se.mNot Se.mIf Se.aNil Se.aCons Se.mTup Se.mLst Se.mApp Se.mCut Se.oNone Se.oSome Se.sNext Se.sSeq Se.sSet Se.sRet Se.sDrop Se.sIf Se.sAug Se.sBreak Se.sCont Se.gSet Se.gsNil Se.gsCons Se.gTupM Se.sAsg Se.sPar Se.sFor Se.iRange1 Se.iRange2 Se.mFld Se.sFldM Se.sFldAugM Se.mMeth Se.mProp Se.vMake Se.iEnumM Se.iZipM Se.iSeqM Se.iStrM Se.mYes Se.mLc Se.mBM Se.gSubL Se.mIsi Se.sRaise Se.sRaise0 Se.aStar Se.mOp Se.mLen Se.mDget Se.gSubD Se.mDisp Se.mItems Se.mDc Se.gFld Se.mOutcome Se.mBad Se.sBad Se.mNeg Se.mCall Se.mGetO Se.mOpT Se.mIsiO Se.gTupS Se.iKeysM Se.iValsM Se.mDisp0 Se.mOutOne Se.mCm Se.mMakeV Se.mSup Se.mMake0 Se.mCon Se.mOpG Ab.mNeg; exact (jss_cons (js_expr (je_call (h_validate_number F) (hr.mono (by decide)) (ja_cons (je_var (i := 1)) (ja_cons (je_int) (ja_cons (je_globI F.g_MAX_TICK) (ja_nil)))))) (jss_one (js_ret (je_meth (k := 2) (tblC ⟨F.cl_Weather, (h_Weather_amount_in F).mono (by decide)⟩ (tblC ⟨F.cl_SumWeather, (h_SumWeather_amount_in F).mono (by decide)⟩ (tblC ⟨F.cl_SteadyWeather, (h_SteadyWeather_amount_in F).mono (by decide)⟩ (tblC ⟨F.cl_SpellWeather, (h_SpellWeather_amount_in F).mono (by decide)⟩ (tblC ⟨F.cl_StormWeather, (h_StormWeather_amount_in F).mono (by decide)⟩ (tblN)))))) (by simp) (hr.mono (by decide)) (je_var (i := 0)) (ja_cons (je_var (i := 1)) (ja_nil))))))))⟩⟩
theorem h_Weather_fall_in__SteadyWeather {T : Wh} (F : Fx T) : HasM T 17 "fall_in" 3 2 f_Weather_fall_in := by
  obtain ⟨f, fd, h1, hF, hB⟩ := F.mi_SteadyWeather__Weather_fall_in
  exact ⟨by decide +kernel, fun Ca hC => ⟨f, (h1 Ca hC).1, (h1 Ca hC).2, fnM_of1 (k := 2) (N := N_Weather_fall_in) (m := 0) (body := m_Weather_fall_in) hF hB sc_Weather_fall_in rfl rfl (fun cdv A outer s H E hr => (by have hu := hr.units; have hu1 : _ + 1 < cLine := Nat.lt_of_le_of_lt (Nat.add_le_add_left (by decide) _) hu; have hu2 : _ + 2 < cLine := Nat.lt_of_le_of_lt (Nat.add_le_add_left (by decide) _) hu; delta m_Weather_fall_in; delta Se.sWhile Se.mVar Se.mC Se.mBin Se.mTest Se.mChain Se.tAndM Se.tOrM Se.tNotM Se.mAnd Se.mOr Se.mNot Se.mIf Se.aNil Se.aCons Se.mTup Se.mLst Se.mApp Se.mCut Se.oNone Se.oSome Se.sNext Se.sSeq Se.sSet Se.sRet Se.sDrop Se.sIf Se.sAug Se.sBreak Se.sCont Se.gSet Se.gsNil Se.gsCons Se.gTupM Se.sAsg Se.sPar Se.sFor Se.iRange1 Se.iRange2 Se.mFld Se.sFldM Se.sFldAugM Se.mMeth Se.mProp Se.vMake Se.iEnumM Se.iZipM Se.iSeqM Se.iStrM Se.mYes Se.mLc Se.mBM Se.gSubL Se.mIsi Se.sRaise Se.sRaise0 Se.aStar Se.mOp Se.mLen Se.mDget Se.gSubD Se.mDisp Se.mItems Se.mDc Se.gFld Se.mOutcome Se.mBad Se.sBad Se.mNeg Se.mCall Se.mGetO Se.mOpT Se.mIsiO Se.gTupS Se.iKeysM Se.iValsM Se.mDisp0 Se.mOutOne Se.mCm Se.mMakeV Se.mSup Se.mMake0 Se.mCon Se.mOpG Ab.mNeg; exact (jss_cons (js_expr (je_call (h_validate_number F) (hr.mono (by decide)) (ja_cons (je_var (i := 1)) (ja_cons (je_int) (ja_cons (je_globI F.g_MAX_TICK) (ja_nil)))))) (jss_one (js_ret (je_meth (k := 2) (tblC ⟨F.cl_Weather, (h_Weather_amount_in F).mono (by decide)⟩ (tblC ⟨F.cl_SumWeather, (h_SumWeather_amount_in F).mono (by decide)⟩ (tblC ⟨F.cl_SteadyWeather, (h_SteadyWeather_amount_in F).mono (by decide)⟩ (tblC ⟨F.cl_SpellWeather, (h_SpellWeather_amount_in F).mono (by decide)⟩ (tblC ⟨F.cl_StormWeather, (h_StormWeather_amount_in F).mono (by decide)⟩ (tblN)))))) (by simp) (hr.mono (by decide)) (je_var (i := 0)) (ja_cons (je_var (i := 1)) (ja_nil))))))))⟩⟩
theorem h_Weather_fall_in__SpellWeather {T : Wh} (F : Fx T) : HasM T 18 "fall_in" 3 2 f_Weather_fall_in := by
  obtain ⟨f, fd, h1, hF, hB⟩ := F.mi_SpellWeather__Weather_fall_in
  exact ⟨by decide +kernel, fun Ca hC => ⟨f, (h1 Ca hC).1, (h1 Ca hC).2, fnM_of1 (k := 2) (N := N_Weather_fall_in) (m := 0) (body := m_Weather_fall_in) hF hB sc_Weather_fall_in rfl rfl (fun cdv A outer s H E hr => (by have hu := hr.units; have hu1 : _ + 1 < cLine := Nat.lt_of_le_of_lt (Nat.add_le_add_left (by decide) _) hu; have hu2 : _ + 2 < cLine := Nat.lt_of_le_of_lt (Nat.add_le_add_left (by decide) _) hu; delta m_Weather_fall_in; delta Se.sWhile Se.mVar Se.mC Se.mBin Se.mTest Se.mChain Se.tAndM Se.tOrM Se.tNotM Se.mAnd Se.mOr Se.mNot Se.mIf Se.aNil Se.aCons Se.mTup Se.mLst Se.mApp Se.mCut Se.oNone Se.oSome Se.sNext Se.sSeq Se.sSet Se.sRet Se.sDrop Se.sIf Se.sAug Se.sBreak Se.sCont Se.gSet Se.gsNil Se.gsCons Se.gTupM Se.sAsg Se.sPar Se.sFor Se.iRange1 Se.iRange2 Se.mFld Se.sFldM Se.sFldAugM Se.mMeth Se.mProp Se.vMake Se.iEnumM Se.iZipM Se.iSeqM Se.iStrM Se.mYes Se.mLc Se.mBM Se.gSubL Se.mIsi Se.sRaise Se.sRaise0 Se.aStar Se.mOp Se.mLen Se.mDget Se.gSubD Se.mDisp Se.mItems Se.mDc Se.gFld Se.mOutcome Se.mBad Se.sBad Se.mNeg Se.mCall Se.mGetO Se.mOpT Se.mIsiO Se.gTupS Se.iKeysM Se.iValsM Se.mDisp0 Se.mOutOne Se.mCm Se.mMakeV Se.mSup Se.mMake0 Se.mCon Se.mOpG Ab.mNeg; exact (jss_cons (js_expr (je_call (h_validate_number F) (hr.mono (by decide)) (ja_cons (je_var (i := 1)) (ja_cons (je_int) (ja_cons (je_globI F.g_MAX_TICK) (ja_nil)))))) (jss_one (js_ret (je_meth (k := 2) (tblC ⟨F.cl_Weather, (h_Weather_amount_in F).mono (by decide)⟩ (tblC ⟨F.cl_SumWeather, (h_SumWeather_amount_in F).mono (by decide)⟩ (tblC ⟨F.cl_SteadyWeather, (h_SteadyWeather_amount_in F).mono (by decide)⟩ (tblC ⟨F.cl_SpellWeather, (h_SpellWeather_amount_in F).mono (by decide)⟩ (tblC ⟨F.cl_StormWeather, (h_StormWeather_amount_in F).mono (by decide)⟩ (tblN)))))) (by simp) (hr.mono (by decide)) (je_var (i := 0)) (ja_cons (je_var (i := 1)) (ja_nil))))))))⟩⟩
theorem h_Weather_fall_in__StormWeather {T : Wh} (F : Fx T) : HasM T 19 "fall_in" 3 2 f_Weather_fall_in := by
  obtain ⟨f, fd, h1, hF, hB⟩ := F.mi_StormWeather__Weather_fall_in
  exact ⟨by decide +kernel, fun Ca hC => ⟨f, (h1 Ca hC).1, (h1 Ca hC).2, fnM_of1 (k := 2) (N := N_Weather_fall_in) (m := 0) (body := m_Weather_fall_in) hF hB sc_Weather_fall_in rfl rfl (fun cdv A outer s H E hr => (by have hu := hr.units; have hu1 : _ + 1 < cLine := Nat.lt_of_le_of_lt (Nat.add_le_add_left (by decide) _) hu; have hu2 : _ + 2 < cLine := Nat.lt_of_le_of_lt (Nat.add_le_add_left (by decide) _) hu; delta m_Weather_fall_in; delta Se.sWhile Se.mVar Se.mC Se.mBin Se.mTest Se.mChain Se.tAndM Se.tOrM Se.tNotM Se.mAnd Se.mOr Se.mNot Se.mIf Se.aNil Se.aCons Se.mTup Se.mLst Se.mApp Se.mCut Se.oNone Se.oSome Se.sNext Se.sSeq Se.sSet Se.sRet Se.sDrop Se.sIf Se.sAug Se.sBreak Se.sCont Se.gSet Se.gsNil Se.gsCons Se.gTupM Se.sAsg Se.sPar Se.sFor Se.iRange1 Se.iRange2 Se.mFld Se.sFldM Se.sFldAugM Se.mMeth Se.mProp Se.vMake Se.iEnumM Se.iZipM Se.iSeqM Se.iStrM Se.mYes Se.mLc Se.mBM Se.gSubL Se.mIsi Se.sRaise Se.sRaise0 Se.aStar Se.mOp Se.mLen Se.mDget Se.gSubD Se.mDisp Se.mItems Se.mDc Se.gFld Se.mOutcome Se.mBad Se.sBad Se.mNeg Se.mCall Se.mGetO Se.mOpT Se.mIsiO Se.gTupS Se.iKeysM Se.iValsM Se.mDisp0 Se.mOutOne Se.mCm Se.mMakeV Se.mSup Se.mMake0 Se.mCon Se.mOpG Ab.mNeg; exact (jss_cons (js_expr (je_call (h_validate_number F) (hr.mono (by decide)) (ja_cons (je_var (i := 1)) (ja_cons (je_int) (ja_cons (je_globI F.g_MAX_TICK) (ja_nil)))))) (jss_one (js_ret (je_meth (k := 2) (tblC ⟨F.cl_Weather, (h_Weather_amount_in F).mono (by decide)⟩ (tblC ⟨F.cl_SumWeather, (h_SumWeather_amount_in F).mono (by decide)⟩ (tblC ⟨F.cl_SteadyWeather, (h_SteadyWeather_amount_in F).mono (by decide)⟩ (tblC ⟨F.cl_SpellWeather, (h_SpellWeather_amount_in F).mono (by decide)⟩ (tblC ⟨F.cl_StormWeather, (h_StormWeather_amount_in F).mono (by decide)⟩ (tblN)))))) (by simp) (hr.mono (by decide)) (je_var (i := 0)) (ja_cons (je_var (i := 1)) (ja_nil))))))))⟩⟩
/-! ### _law_alike -/
abbrev N_law_alike : List Str := ["_law_found", "_law_due_here", "_law_k"]
theorem sc_law_alike : FnScope N_law_alike ["_law_found", "_law_due_here"] (defScope s_law_alike) := ⟨rfl, rfl, rfl, by decide +kernel, rfl, by decide +kernel, by decide +kernel⟩
theorem h_law_alike {T : Wh} (F : Fx T) : ∀ n, Has T "_law_alike" (n + 1) 2 (f_law_alike n)
  | 0 => let ⟨f, fd, hm, hF, hB⟩ := F.fn_law_alike; ⟨f, hm, fnM_of1 (N := N_law_alike) (m := 1) hF hB sc_law_alike rfl rfl fun cdv A outer s H E hr => jss_never⟩
  | n + 1 => by
    have ih := h_law_alike F n
    obtain ⟨f, fd, hm, hF, hB⟩ := F.fn_law_alike
    exact ⟨f, hm, fnM_of1 (k := n + 1) (N := N_law_alike) (m := 1) (body := m_law_alike (f_law_alike n)) hF hB sc_law_alike rfl rfl (fun cdv A outer s H E hr => (by have hu := hr.units; have hu1 : _ + 1 < cLine := Nat.lt_of_le_of_lt (Nat.add_le_add_left (by decide) _) hu; have hu2 : _ + 2 < cLine := Nat.lt_of_le_of_lt (Nat.add_le_add_left (by decide) _) hu; delta m_law_alike; delta Se.sWhile Se.mVar Se.mC Se.mBin Se.mTest Se.mChain Se.tAndM Se.tOrM Se.tNotM Se.mAnd Se.mOr Se.mNot Se.mIf Se.aNil Se.aCons Se.mTup Se.mLst Se.mApp Se.mCut Se.oNone Se.oSome Se.sNext Se.sSeq Se.sSet Se.sRet Se.sDrop Se.sIf Se.sAug Se.sBreak Se.sCont Se.gSet Se.gsNil Se.gsCons Se.gTupM Se.sAsg Se.sPar Se.sFor Se.iRange1 Se.iRange2 Se.mFld Se.sFldM Se.sFldAugM Se.mMeth Se.mProp Se.vMake Se.iEnumM Se.iZipM Se.iSeqM Se.iStrM Se.mYes Se.mLc Se.mBM Se.gSubL Se.mIsi Se.sRaise Se.sRaise0 Se.aStar Se.mOp Se.mLen Se.mDget Se.gSubD Se.mDisp Se.mItems Se.mDc Se.gFld Se.mOutcome Se.mBad Se.sBad Se.mNeg Se.mCall Se.mGetO Se.mOpT Se.mIsiO Se.gTupS Se.iKeysM Se.iValsM Se.mDisp0 Se.mOutOne Se.mCm Se.mMakeV Se.mSup Se.mMake0 Se.mCon Se.mOpG Ab.mNeg; exact (jss_cons (js_if (jt_val (je_isi F.b_isinstance F.b_dict (je_var (i := 1)) .dict Boot.dict)) (jss_never) (jss_nil)) (jss_cons (js_if (jt_val (je_isi2 F.b_isinstance F.b_tuple F.b_list (je_var (i := 1)) .tuple .list Boot.tuple Boot.list)) (jss_cons (js_if ((jw_or (jt_not (jt_val (je_isi2 F.b_isinstance F.b_tuple F.b_list (je_var (i := 0)) .tuple .list Boot.tuple Boot.list))) (jw_or1 (jt_cmp (m2_ne hu) quiet_ne (je_isi F.b_isinstance F.b_list (je_var (i := 0)) .list Boot.list) (je_isi F.b_isinstance F.b_list (je_var (i := 1)) .list Boot.list)))).jt) (jss_one (js_ret (je_bl))) (jss_nil)) (jss_cons (js_if (jt_cmp (m2_ne hu) quiet_ne (je_callB mc_len quiet_len F.b_len Boot.len (ja_cons (je_var (i := 0)) (ja_nil))) (je_callB mc_len quiet_len F.b_len Boot.len (ja_cons (je_var (i := 1)) (ja_nil)))) (jss_one (js_ret (je_bl))) (jss_nil)) (jss_one (js_ret (je_cmp (m2_eq hu) quiet_eq (je_lc rfl sc_law_alike.nd [("_law_k", 2)] (ji_range1 F.b_range (ja_cons (je_callB mc_len quiet_len F.b_len Boot.len (ja_cons (je_var (i := 1)) (ja_nil))) (ja_nil))) (by first | (change blkC N_law_alike (defScope s_law_alike) _ _ = true; decide +kernel) | rfl) (fun s H C cl fp => jg_name (i := 2) sc_law_alike.nd) (fun s H C cl fp => jts_one (jt_not (jt_val (je_call ih (hr.mono (by omega)) (ja_cons (je_ix (je_var (i := 0)) (je_var (i := 2))) (ja_cons (je_ix (je_var (i := 1)) (je_var (i := 2))) (ja_nil))))))) (fun s H C cl fp => je_var (i := 2))) (je_lst (ja_nil))))))) (jss_nil)) (jss_cons (js_if ((jw_or (jt_cmp m2_isN quiet_isN (je_var (i := 1)) (je_non)) (jw_or1 (jt_val (je_isi F.b_isinstance F.b_str (je_var (i := 1)) .str Boot.str)))).jt) (jss_one (js_ret (je_and (je_cmp (m2_eq hu) quiet_eq (je_var (i := 0)) (je_var (i := 1))) (je_one (je_cmp (m2_eq hu) quiet_eq (je_isi F.b_isinstance F.b_str (je_var (i := 0)) .str Boot.str) (je_isi F.b_isinstance F.b_str (je_var (i := 1)) .str Boot.str)))))) (jss_nil)) (jss_one (js_ret (je_and (je_isi F.b_isinstance F.b_int (je_var (i := 0)) .int Boot.int) (je_and (je_cmp (m2_eq hu) quiet_eq (je_isi F.b_isinstance F.b_bool (je_var (i := 0)) .bool Boot.bool) (je_isi F.b_isinstance F.b_bool (je_var (i := 1)) .bool Boot.bool)) (je_one (je_cmp (m2_eq hu) quiet_eq (je_var (i := 0)) (je_var (i := 1)))))))))))))⟩
/-! ### _law_outcome -/
abbrev N_law_outcome : List Str := ["_law_call", "e", "_law_kinds", "_law_word"]
theorem sc_law_outcome : FnScope N_law_outcome ["_law_call"] (defScope s_law_outcome) := ⟨rfl, rfl, rfl, by decide +kernel, rfl, by decide +kernel, by decide +kernel⟩
def suiteOf : List Stmt → List Stmt
  | [.Try _ [.ExceptHandler _ _ b _] _ _ _] => b
  | _ => []
theorem j_suite {T : Wh} (F : Fx T) {k : Nat} {g : Addr} {cdg : Value} {A : Around} {outer : List Env} {s : Shared} {H : Hp} (hr : Room k (A.deeper (envOfC "_law_outcome" (defScope s_law_outcome) s.heap.objs.size g cdg))) {aa : Addr} {oe : Obj} {Dn : Nat} {Da : Addr} {d : Option Addr} {pn : List (Addr × Obj)} (hx : ExAll T Dn Da) (hz : Zc (.ref Da) d oe) (hf : ∃ vs, oe.data = .fields vs) :
    JSs ((cxOf C8.CX0 T.P T.w T.K T.mg T.base N_law_outcome "_law_outcome" (defScope s_law_outcome) g cdg A outer s H C8.E0).nox.suite aa ((aa, oe) :: pn)) (suiteOf (defBody s_law_outcome)) (mSuite aa d Dn) := by
  obtain ⟨c_InvalidNumber, hc_InvalidNumber⟩ := F.ca_InvalidNumber; obtain ⟨c_DecodeError, hc_DecodeError⟩ := F.ca_DecodeError; obtain ⟨c_DaybookError, hc_DaybookError⟩ := F.ca_DaybookError; obtain ⟨c_InvalidText, hc_InvalidText⟩ := F.ca_InvalidText; obtain ⟨c_InvalidRow, hc_InvalidRow⟩ := F.ca_InvalidRow; obtain ⟨c_InvalidOperation, hc_InvalidOperation⟩ := F.ca_InvalidOperation; obtain ⟨c_UnknownBarrel, hc_UnknownBarrel⟩ := F.ca_UnknownBarrel; obtain ⟨c_InvalidWeather, hc_InvalidWeather⟩ := F.ca_InvalidWeather
  have hu := hr.units
  delta mSuite
  exact (jss_cons (js_set sc_law_outcome.nd (je_lst (ja_cons (je_isE hx.ec hz hf F.b_isinstance rfl (.inl rfl) (cls_own hc_DaybookError) (hx.isC 9 (by decide) _ hc_DaybookError)) (ja_cons (je_isE hx.ec hz hf F.b_isinstance rfl (.inl rfl) (cls_own hc_DecodeError) (hx.isC 10 (by decide) _ hc_DecodeError)) (ja_cons (je_isE hx.ec hz hf F.b_isinstance rfl (.inl rfl) (cls_own hc_InvalidNumber) (hx.isC 4 (by decide) _ hc_InvalidNumber)) (ja_nil)))))) (jss_cons (js_expr (je_extend (je_var (i := 2)) (je_lst (ja_cons (je_isE hx.ec hz hf F.b_isinstance rfl (.inl rfl) (cls_own hc_InvalidOperation) (hx.isC 7 (by decide) _ hc_InvalidOperation)) (ja_cons (je_isE hx.ec hz hf F.b_isinstance rfl (.inl rfl) (cls_own hc_InvalidRow) (hx.isC 1 (by decide) _ hc_InvalidRow)) (ja_cons (je_isE hx.ec hz hf F.b_isinstance rfl (.inl rfl) (cls_own hc_InvalidText) (hx.isC 8 (by decide) _ hc_InvalidText)) (ja_nil))))))) (jss_cons (js_expr (je_extend (je_var (i := 2)) (je_lst (ja_cons (je_isE hx.ec hz hf F.b_isinstance rfl (.inl rfl) (cls_own hc_InvalidWeather) (hx.isC 6 (by decide) _ hc_InvalidWeather)) (ja_cons (je_isE hx.ec hz hf F.b_isinstance rfl (.inl rfl) (cls_own hc_UnknownBarrel) (hx.isC 2 (by decide) _ hc_UnknownBarrel)) (ja_nil)))))) (jss_cons (js_if ((jw_or (jt_cmp (m2_ne hu) quiet_ne (je_count (je_var (i := 2)) (je_bl)) (je_int)) (jw_or1 (jt_not (jt_val (je_isE hx.ec hz hf F.b_isinstance rfl (.inl rfl) (cls_blt F.b_ValueError PyProof.Rows.Boot.«ValueError») hx.isV))))).jt) (jss_one (js_ret (je_tup (ja_cons (je_str) (ja_nil))))) (jss_nil)) (jss_cons (js_set sc_law_outcome.nd (je_ix (je_lst (ja_cons (je_str) (ja_cons (je_str) (ja_cons (je_str) (ja_cons (je_str) (ja_cons (je_str) (ja_cons (je_str) (ja_cons (je_str) (ja_cons (je_str) (ja_nil)))))))))) (je_index (je_var (i := 2)) (je_bl)))) (jss_cons (js_if (jt_cmp m2_in quiet_in (je_var (i := 3)) (je_tup (ja_cons (je_str) (ja_cons (je_str) (ja_nil))))) (jss_one (js_ret (je_tup (ja_cons (je_var (i := 3)) (ja_cons (je_xf hx.xf (hx.nof 27 (by decide)) hz hf rfl (.inl rfl) (by decide)) (ja_nil)))))) (jss_nil)) (jss_cons (js_if (jt_cmp (m2_eq hu) quiet_eq (je_var (i := 3)) (je_str)) (jss_one (js_ret (je_tup (ja_cons (je_var (i := 3)) (ja_cons (je_xf hx.xf (hx.nof 24 (by decide)) hz hf rfl (.inl rfl) (by decide)) (ja_cons (je_xf hx.xf (hx.nof 25 (by decide)) hz hf rfl (.inl rfl) (by decide)) (ja_nil))))))) (jss_nil)) (jss_cons (js_if (jt_cmp (m2_eq hu) quiet_eq (je_var (i := 3)) (je_str)) (jss_one (js_ret (je_tup (ja_cons (je_var (i := 3)) (ja_cons (je_xf hx.xf (hx.nof 24 (by decide)) hz hf rfl (.inl rfl) (by decide)) (ja_nil)))))) (jss_nil)) (jss_cons (js_if (jt_cmp (m2_eq hu) quiet_eq (je_var (i := 3)) (je_str)) (jss_one (js_ret (je_tup (ja_cons (je_var (i := 3)) (ja_nil))))) (jss_nil)) (jss_one (js_ret (je_tup (ja_cons (je_var (i := 3)) (ja_cons (je_if (jt_cmp (m2_eq hu) quiet_eq (je_var (i := 3)) (je_str)) (je_xf hx.xf (hx.nof 28 (by decide)) hz hf rfl (.inl rfl) (by decide)) (je_if (jt_cmp (m2_eq hu) quiet_eq (je_var (i := 3)) (je_str)) (je_xf hx.xf (hx.nof 25 (by decide)) hz hf rfl (.inl rfl) (by decide)) (je_xf hx.xf (hx.nof 26 (by decide)) hz hf rfl (.inl rfl) (by decide)))) (ja_nil)))))))))))))))
theorem gout {T : Wh} (F : Fx T) {X : Cx} (hX : Cx.wh X = T) {g : Addr} {cdg : Value} {q : Str} {k : Nat} (hroom : ∀ s : Shared, Room k (X.A.deeper (envOfC "_law_outcome" (defScope s_law_outcome) s.heap.objs.size g cdg))) :
    LamX.GivesTo X N_law_outcome "_law_outcome" (defScope s_law_outcome) g cdg (defBody s_law_outcome) "_law_call" q (TTout X.K X.mg) := by
  subst hX
  obtain ⟨RA, hRA⟩ := F.ca_RowError
  exact out_gives (mS := mSuite) sc_law_outcome rfl rfl rfl hRA hroom (fun A outer s H hr aa oe Dn Da d pn m1 m2 hz hf => j_suite F hr (F.ex_all Dn m1 Da m2) hz hf) (fun Dn m Da h => (F.ex_all Dn m Da h).row _ hRA) suite_run
/-! ### _law_due -/
abbrev N_law_due : List Str := ["_law_kind", "_law_numbers", "_law_words", "_law_k", "_law_word", "_law_low", "_law_high"]
theorem sc_law_due : FnScope N_law_due ["_law_kind", "_law_numbers"] (defScope s_law_due) := ⟨rfl, rfl, rfl, by decide +kernel, rfl, by decide +kernel, by decide +kernel⟩
theorem h_law_due {T : Wh} (F : Fx T) : Has T "_law_due" 1 2 f_law_due := by
  obtain ⟨f, fd, hm, hF, hB⟩ := F.fn_law_due
  exact ⟨f, hm, fnM_of1 (k := 0) (N := N_law_due) (m := 5) (body := m_law_due) hF hB sc_law_due rfl rfl (fun cdv A outer s H E hr => (by have hu := hr.units; have hu1 : _ + 1 < cLine := Nat.lt_of_le_of_lt (Nat.add_le_add_left (by decide) _) hu; have hu2 : _ + 2 < cLine := Nat.lt_of_le_of_lt (Nat.add_le_add_left (by decide) _) hu; delta m_law_due; delta Se.sWhile Se.mVar Se.mC Se.mBin Se.mTest Se.mChain Se.tAndM Se.tOrM Se.tNotM Se.mAnd Se.mOr Se.mNot Se.mIf Se.aNil Se.aCons Se.mTup Se.mLst Se.mApp Se.mCut Se.oNone Se.oSome Se.sNext Se.sSeq Se.sSet Se.sRet Se.sDrop Se.sIf Se.sAug Se.sBreak Se.sCont Se.gSet Se.gsNil Se.gsCons Se.gTupM Se.sAsg Se.sPar Se.sFor Se.iRange1 Se.iRange2 Se.mFld Se.sFldM Se.sFldAugM Se.mMeth Se.mProp Se.vMake Se.iEnumM Se.iZipM Se.iSeqM Se.iStrM Se.mYes Se.mLc Se.mBM Se.gSubL Se.mIsi Se.sRaise Se.sRaise0 Se.aStar Se.mOp Se.mLen Se.mDget Se.gSubD Se.mDisp Se.mItems Se.mDc Se.gFld Se.mOutcome Se.mBad Se.sBad Se.mNeg Se.mCall Se.mGetO Se.mOpT Se.mIsiO Se.gTupS Se.iKeysM Se.iValsM Se.mDisp0 Se.mOutOne Se.mCm Se.mMakeV Se.mSup Se.mMake0 Se.mCon Se.mOpG Ab.mNeg; exact (jss_cons (js_set sc_law_due.nd (je_op m2_repL quiet_repL (je_lst (ja_cons (je_tup (ja_cons (je_str) (ja_cons (je_int) (ja_cons (je_op m2_pow quiet_pow (je_int) (je_int)) (ja_nil))))) (ja_nil))) (je_callTy mc_intB quiet_intB F.b_int Boot.int (ja_cons (je_cmp (m2_ne hu) quiet_ne (je_var (i := 0)) (je_str)) (ja_nil))))) (jss_cons (js_if (jt_cmp (m2_eq hu) quiet_eq (je_var (i := 0)) (je_str)) (jss_one (js_set sc_law_due.nd (je_op m2_add quiet_add (je_var (i := 2)) (je_lst (ja_cons (je_tup (ja_cons (je_str) (ja_cons (je_int) (ja_cons (je_int) (ja_nil))))) (ja_cons (je_tup (ja_cons (je_str) (ja_cons (je_int) (ja_cons (je_int) (ja_nil))))) (ja_nil))))))) (jss_nil)) (jss_cons (js_if (jt_cmp (m2_eq hu) quiet_eq (je_var (i := 0)) (je_str)) (jss_one (js_set sc_law_due.nd (je_op m2_add quiet_add (je_var (i := 2)) (je_lst (ja_cons (je_tup (ja_cons (je_str) (ja_cons (je_int) (ja_cons (je_int) (ja_nil))))) (ja_cons (je_tup (ja_cons (je_str) (ja_cons (je_int) (ja_cons (je_int) (ja_nil))))) (ja_nil))))))) (jss_nil)) (jss_cons (js_for cx1_pass rfl (ji_range1 F.b_range (ja_cons (je_callB mc_len quiet_len F.b_len Boot.len (ja_cons (je_var (i := 2)) (ja_nil))) (ja_nil))) (jg_name (i := 3) sc_law_due.nd) (jss_cons (js_asg (je_ix (je_var (i := 2)) (je_var (i := 3))) (jg_tup rfl (jgs_cons (jg_name (i := 4) sc_law_due.nd) (jgs_cons (jg_name (i := 5) sc_law_due.nd) (jgs_cons (jg_name (i := 6) sc_law_due.nd) (jgs_nil)))))) (jss_one (js_if (jt_not (jt_chain m2_le quiet_le m2_le quiet_le (je_var (i := 5)) (je_ix (je_var (i := 1)) (je_var (i := 3))) (je_var (i := 6)))) (jss_one (js_ret (je_tup (ja_cons (je_str) (ja_cons (je_var (i := 4)) (ja_nil)))))) (jss_nil))))) (jss_one (js_ret (je_tup (ja_cons (je_str) (ja_nil)))))))))))⟩
/-! ### law -/
abbrev N_law : List Str := ["_law_script", "_law_h", "_law_turn", "_law_spec_here", "_law_other", "_law_weather_here", "_law_both", "_law_tick", "_law_wrong", "_law_k", "_law_odd", "_law_numbers", "_law_error", "_law_due_here"]
theorem sc_law : FnScope N_law ["_law_script"] (defScope s_law) := ⟨rfl, rfl, rfl, by decide +kernel, rfl, by decide +kernel, by decide +kernel⟩
theorem j_law {T : Wh} (F : Fx T) {c P : Addr} (TB : LamX.TabB T.base T.mg c P) (hmT : (P, ("law" : Str) ++ ".<locals>." ++ "<lambda>") ∈ tabsOf T.K T.mg) (huT : ∀ p ∈ tabsOf T.K T.mg, p.1 = P → p.2 = ("law" : Str) ++ ".<locals>." ++ "<lambda>") {f : Addr} {A : Around} {outer : List Env} {s : Shared} {H : Hp} {E : XK}
    (hr : Room 9 (cx1 T N_law "law" s_law f (.ref c) A outer s H E).A) : JSs (cx1 T N_law "law" s_law f (.ref c) A outer s H E) (defBody s_law) m_law := by
  obtain ⟨go, fdo, hmo, hFo, _⟩ := F.fn_law_outcome
  have hu := hr.units; have hu1 : _ + 1 < cLine := Nat.lt_of_le_of_lt (Nat.add_le_add_left (by decide) _) hu; have hu2 : _ + 2 < cLine := Nat.lt_of_le_of_lt (Nat.add_le_add_left (by decide) _) hu
  delta m_law
  delta Se.sWhile Se.mVar Se.mC Se.mBin Se.mTest Se.mChain Se.tAndM Se.tOrM Se.tNotM Se.mAnd Se.mOr Se.mNot Se.mIf Se.aNil Se.aCons Se.mTup Se.mLst Se.mApp Se.mCut Se.oNone Se.oSome Se.sNext Se.sSeq Se.sSet Se.sRet Se.sDrop Se.sIf Se.sAug Se.sBreak Se.sCont Se.gSet Se.gsNil Se.gsCons Se.gTupM Se.sAsg Se.sPar Se.sFor Se.iRange1 Se.iRange2 Se.mFld Se.sFldM Se.sFldAugM Se.mMeth Se.mProp Se.vMake Se.iEnumM Se.iZipM Se.iSeqM Se.iStrM Se.mYes Se.mLc Se.mBM Se.gSubL Se.mIsi Se.sRaise Se.sRaise0 Se.aStar Se.mOp Se.mLen Se.mDget Se.gSubD Se.mDisp Se.mItems Se.mDc Se.gFld Se.mOutcome Se.mBad Se.sBad Se.mNeg Se.mCall Se.mGetO Se.mOpT Se.mIsiO Se.gTupS Se.iKeysM Se.iValsM Se.mDisp0 Se.mOutOne Se.mCm Se.mMakeV Se.mSup Se.mMake0 Se.mCon Se.mOpG Ab.mNeg
  exact (jss_cons (js_set sc_law.nd (je_call (h_law_mix F) (hr.mono (by decide)) (ja_cons (je_var (i := 0)) (ja_cons (je_int) (ja_nil))))) (jss_cons (js_for cx1_pass rfl (ji_range1 F.b_range (ja_cons (je_int) (ja_nil))) (jg_name (i := 2) sc_law.nd) (jss_cons (js_asg (je_tup (ja_cons (je_call (h_law_spec F) (hr.mono (by decide)) (ja_cons (je_var (i := 1)) (ja_nil))) (ja_cons (je_call (h_law_spec F) (hr.mono (by decide)) (ja_cons (je_var (i := 1)) (ja_nil))) (ja_nil)))) (jg_tup rfl (jgs_cons (jg_name (i := 3) sc_law.nd) (jgs_cons (jg_name (i := 4) sc_law.nd) (jgs_nil))))) (jss_cons (js_set sc_law.nd (je_call (h_law_weather F) (hr.mono (by decide)) (ja_cons (je_var (i := 3)) (ja_nil)))) (jss_cons (js_set sc_law.nd (je_ownG (hg_Weather_add F) (hr.mono (by decide)) (je_var (i := 5)) (je_call (h_law_weather F) (hr.mono (by decide)) (ja_cons (je_var (i := 4)) (ja_nil))))) (jss_cons (js_for cx1_pass rfl (ji_seq (je_tup (ja_cons (je_int) (ja_cons (je_call (h_law_next F) (hr.mono (by decide)) (ja_cons (je_var (i := 1)) (ja_cons (je_int) (ja_nil)))) (ja_cons (je_call (h_law_next F) (hr.mono (by decide)) (ja_cons (je_var (i := 1)) (ja_cons (je_op m2_pow quiet_pow (je_int) (je_int)) (ja_nil)))) (ja_cons (je_op m2_pow quiet_pow (je_int) (je_int)) (ja_nil))))))) (jg_name (i := 7) sc_law.nd) (jss_cons (js_if (jt_not (jt_val (je_call (h_law_alike F 3) (hr.mono (by decide)) (ja_cons (je_meth (k := 3) (tblC ⟨F.cl_Weather, (h_Weather_fall_in F).mono (by decide)⟩ (tblC ⟨F.cl_SumWeather, (h_Weather_fall_in__SumWeather F).mono (by decide)⟩ (tblC ⟨F.cl_SteadyWeather, (h_Weather_fall_in__SteadyWeather F).mono (by decide)⟩ (tblC ⟨F.cl_SpellWeather, (h_Weather_fall_in__SpellWeather F).mono (by decide)⟩ (tblC ⟨F.cl_StormWeather, (h_Weather_fall_in__StormWeather F).mono (by decide)⟩ (tblN)))))) (by simp) (hr.mono (by decide)) (je_var (i := 5)) (ja_cons (je_var (i := 7)) (ja_nil))) (ja_cons (je_call (h_law_fall F) (hr.mono (by decide)) (ja_cons (je_var (i := 3)) (ja_cons (je_var (i := 7)) (ja_nil)))) (ja_nil)))))) (jss_one (js_ret (je_bl))) (jss_nil)) (jss_one (js_if (jt_not (jt_val (je_call (h_law_alike F 3) (hr.mono (by decide)) (ja_cons (je_meth (k := 3) (tblC ⟨F.cl_Weather, (h_Weather_fall_in F).mono (by decide)⟩ (tblC ⟨F.cl_SumWeather, (h_Weather_fall_in__SumWeather F).mono (by decide)⟩ (tblC ⟨F.cl_SteadyWeather, (h_Weather_fall_in__SteadyWeather F).mono (by decide)⟩ (tblC ⟨F.cl_SpellWeather, (h_Weather_fall_in__SpellWeather F).mono (by decide)⟩ (tblC ⟨F.cl_StormWeather, (h_Weather_fall_in__StormWeather F).mono (by decide)⟩ (tblN)))))) (by simp) (hr.mono (by decide)) (je_var (i := 6)) (ja_cons (je_var (i := 7)) (ja_nil))) (ja_cons (je_op m2_add quiet_add (je_call (h_law_fall F) (hr.mono (by decide)) (ja_cons (je_var (i := 3)) (ja_cons (je_var (i := 7)) (ja_nil)))) (je_call (h_law_fall F) (hr.mono (by decide)) (ja_cons (je_var (i := 4)) (ja_cons (je_var (i := 7)) (ja_nil))))) (ja_nil)))))) (jss_one (js_ret (je_bl))) (jss_nil))))) (jss_cons (js_if (jt_cmp (m2_ne hu) quiet_ne (je_lst (ja_cons (je_con (conC F.co_Weather_KIND (conC F.co_SumWeather_KIND (conC F.co_SteadyWeather_KIND (conC F.co_SpellWeather_KIND (conC F.co_StormWeather_KIND conN))))) (je_var (i := 5))) (ja_cons (je_con (conC F.co_Weather_KIND (conC F.co_SumWeather_KIND (conC F.co_SteadyWeather_KIND (conC F.co_SpellWeather_KIND (conC F.co_StormWeather_KIND conN))))) (je_var (i := 6))) (ja_cons (je_isiO F.b_isinstance (je_var (i := 6)) rfl F.isi_Weather__SumWeather) (ja_nil))))) (je_lst (ja_cons (je_ix (je_var (i := 3)) (je_int)) (ja_cons (je_str) (ja_cons (je_bl) (ja_nil)))))) (jss_one (js_ret (je_bl))) (jss_nil)) (jss_cons (js_set sc_law.nd (je_ix (je_lst (ja_cons (je_neg (je_int)) (ja_cons (je_op m2_add quiet_add (je_op m2_pow quiet_pow (je_int) (je_int)) (je_int)) (ja_nil)))) (je_call (h_law_next F) (hr.mono (by decide)) (ja_cons (je_var (i := 1)) (ja_cons (je_int) (ja_nil)))))) (jss_cons (js_if (jt_cmp (m2_ne hu) quiet_ne ((je_outcome (T := T) (k := 3) rfl hFo sc_law_outcome (fun _ _ _ _ _ _ us hl => match us, hl with | [_], _ => rfl) (fun cdg hro => gout F rfl hro) hmo rfl TB rfl hmT huT (hr.mono (by decide)) (LamX.lamS_by (by change LamX.lamSB (defScope s_law) _ = true; decide +kernel)) rfl (fun _ _ _ _ _ => rfl) (fun A outer s H E f c' hr => je_meth (k := 3) (tblC ⟨F.cl_Weather, (h_Weather_fall_in F).mono (by decide)⟩ (tblC ⟨F.cl_SumWeather, (h_Weather_fall_in__SumWeather F).mono (by decide)⟩ (tblC ⟨F.cl_SteadyWeather, (h_Weather_fall_in__SteadyWeather F).mono (by decide)⟩ (tblC ⟨F.cl_SpellWeather, (h_Weather_fall_in__SpellWeather F).mono (by decide)⟩ (tblC ⟨F.cl_StormWeather, (h_Weather_fall_in__StormWeather F).mono (by decide)⟩ (tblN)))))) (by simp) (hr.mono (by decide)) (je_var (i := 6)) (ja_cons (je_var (i := 8)) (ja_nil))))) (je_tup (ja_cons (je_str) (ja_nil)))) (jss_one (js_ret (je_bl))) (jss_nil)) (jss_cons (js_par rfl sc_law.nd (ja_cons (je_call (h_law_next F) (hr.mono (by decide)) (ja_cons (je_var (i := 1)) (ja_cons (je_int) (ja_nil)))) (ja_cons (je_ix (je_lst (ja_cons (je_neg (je_int)) (ja_cons (je_int) (ja_cons (je_int) (ja_cons (je_int) (ja_cons (je_int) (ja_cons (je_op m2_pow quiet_pow (je_int) (je_int)) (ja_cons (je_op m2_add quiet_add (je_op m2_pow quiet_pow (je_int) (je_int)) (je_int)) (ja_nil))))))))) (je_call (h_law_next F) (hr.mono (by decide)) (ja_cons (je_var (i := 1)) (ja_cons (je_int) (ja_nil))))) (ja_nil)))) (jss_cons (js_set sc_law.nd (je_op m2_add quiet_add (je_op m2_add quiet_add (je_cut (je_ix (je_var (i := 3)) (je_int)) jo_none (jo_some (je_var (i := 9)))) (je_tup (ja_cons (je_var (i := 10)) (ja_nil)))) (je_cut (je_ix (je_var (i := 3)) (je_int)) (jo_some (je_op m2_add quiet_add (je_var (i := 9)) (je_int))) jo_none))) (jss_cons (js_set sc_law.nd ((je_outcome (T := T) (k := 7) rfl hFo sc_law_outcome (fun _ _ _ _ _ _ us hl => match us, hl with | [_], _ => rfl) (fun cdg hro => gout F rfl hro) hmo rfl TB rfl hmT huT (hr.mono (by decide)) (LamX.lamS_by (by change LamX.lamSB (defScope s_law) _ = true; decide +kernel)) rfl (fun _ _ _ _ _ => rfl) (fun A outer s H E f c' hr => je_call (h_law_weather F) (hr.mono (by decide)) (ja_cons (je_tup (ja_cons (je_ix (je_var (i := 3)) (je_int)) (ja_cons (je_var (i := 11)) (ja_nil)))) (ja_nil)))))) (jss_cons (js_set sc_law.nd (je_call (h_law_due F) (hr.mono (by decide)) (ja_cons (je_ix (je_var (i := 3)) (je_int)) (ja_cons (je_var (i := 11)) (ja_nil))))) (jss_one (js_if (jt_cmp (m2_ne hu) quiet_ne (je_if (jt_cmp (m2_eq hu) quiet_eq (je_ix (je_var (i := 12)) (je_int)) (je_str)) (je_tup (ja_cons (je_str) (ja_nil))) (je_var (i := 12))) (je_var (i := 13))) (jss_one (js_ret (je_bl))) (jss_nil))))))))))))))) (jss_one (js_ret (je_and (je_cmp (m2_eq hu) quiet_eq ((let ⟨_, _, _, h1, h2, h3⟩ := F.cc_Weather_KIND; je_cconS h1 h2 h3)) (je_str)) (je_one (je_cmp (m2_eq hu) quiet_eq (je_meth (k := 3) (tblC ⟨F.cl_Weather, (h_Weather_fall_in F).mono (by decide)⟩ (tblC ⟨F.cl_SumWeather, (h_Weather_fall_in__SumWeather F).mono (by decide)⟩ (tblC ⟨F.cl_SteadyWeather, (h_Weather_fall_in__SteadyWeather F).mono (by decide)⟩ (tblC ⟨F.cl_SpellWeather, (h_Weather_fall_in__SpellWeather F).mono (by decide)⟩ (tblC ⟨F.cl_StormWeather, (h_Weather_fall_in__StormWeather F).mono (by decide)⟩ (tblN)))))) (by simp) (hr.mono (by decide)) (je_make0 F.i0_Weather (by decide +kernel)) (ja_cons (je_int) (ja_nil))) (je_int))))))))
end K41

set_option Elab.async false
set_option linter.all false
set_option maxRecDepth 100000
set_option maxHeartbeats 4000000
namespace K41
open PySem PySem.Spec PyProof.Rows L2 Ab
theorem fx_mk {P : Program} {w : World} {K : PySem.W.Frag} {h : Heap} {mg : Str → Option Value} {f_law_mix : Addr} {oc_law_mix : Value} {od_law_mix : Option Addr} {kV_law_mix : Value} {dc_law_mix : Value} {pm_law_mix : Value} {an_law_mix : Option Addr} {cd_law_mix : Value} {ct_law_mix : Value} {sl_law_mix : Array (Option Value)} {f_law_next : Addr} {oc_law_next : Value} {od_law_next : Option Addr} {kV_law_next : Value} {dc_law_next : Value} {pm_law_next : Value} {an_law_next : Option Addr} {cd_law_next : Value} {ct_law_next : Value} {sl_law_next : Array (Option Value)} {f_law_spec : Addr} {oc_law_spec : Value} {od_law_spec : Option Addr} {kV_law_spec : Value} {dc_law_spec : Value} {pm_law_spec : Value} {an_law_spec : Option Addr} {cd_law_spec : Value} {ct_law_spec : Value} {sl_law_spec : Array (Option Value)} {C_Weather : Addr} {t_MAX_RAIN : Tok} {f_validate_part : Addr} {oc_validate_part : Value} {od_validate_part : Option Addr} {kV_validate_part : Value} {dc_validate_part : Value} {pm_validate_part : Value} {an_validate_part : Option Addr} {cd_validate_part : Value} {ct_validate_part : Value} {sl_validate_part : Array (Option Value)} {C_SteadyWeather : Addr} {C_SpellWeather : Addr} {C_StormWeather : Addr} {f_SteadyWeather_init : Addr} {oc_SteadyWeather_init : Value} {od_SteadyWeather_init : Option Addr} {kV_SteadyWeather_init : Value} {dc_SteadyWeather_init : Value} {pm_SteadyWeather_init : Value} {an_SteadyWeather_init : Option Addr} {cd_SteadyWeather_init : Value} {ct_SteadyWeather_init : Value} {sl_SteadyWeather_init : Array (Option Value)} {t_MAX_TICKS : Tok} {f_SpellWeather_init : Addr} {oc_SpellWeather_init : Value} {od_SpellWeather_init : Option Addr} {kV_SpellWeather_init : Value} {dc_SpellWeather_init : Value} {pm_SpellWeather_init : Value} {an_SpellWeather_init : Option Addr} {cc_SpellWeather_init : Addr} {ce_SpellWeather_init : Addr} {ct_SpellWeather_init : Value} {sl_SpellWeather_init : Array (Option Value)} {cv_SpellWeather_init : Value} {cvd_SpellWeather_init : Option Addr} {vs_SpellWeather_init : Array Value} {cvs_SpellWeather_init : Array (Option Value)} {fi_SpellWeather_init : Str} {tf_SpellWeather_init : Tok} {el_SpellWeather_init : Value} {eld_SpellWeather_init : Option Addr} {els_SpellWeather_init : Array (Option Value)} {f_StormWeather_init : Addr} {oc_StormWeather_init : Value} {od_StormWeather_init : Option Addr} {kV_StormWeather_init : Value} {dc_StormWeather_init : Value} {pm_StormWeather_init : Value} {an_StormWeather_init : Option Addr} {cc_StormWeather_init : Addr} {ce_StormWeather_init : Addr} {ct_StormWeather_init : Value} {sl_StormWeather_init : Array (Option Value)} {cv_StormWeather_init : Value} {cvd_StormWeather_init : Option Addr} {vs_StormWeather_init : Array Value} {cvs_StormWeather_init : Array (Option Value)} {fi_StormWeather_init : Str} {tf_StormWeather_init : Tok} {el_StormWeather_init : Value} {eld_StormWeather_init : Option Addr} {els_StormWeather_init : Array (Option Value)} {f_law_weather : Addr} {oc_law_weather : Value} {od_law_weather : Option Addr} {kV_law_weather : Value} {dc_law_weather : Value} {pm_law_weather : Value} {an_law_weather : Option Addr} {cd_law_weather : Value} {ct_law_weather : Value} {sl_law_weather : Array (Option Value)} {C_SumWeather : Addr} {f_SumWeather_init : Addr} {oc_SumWeather_init : Value} {od_SumWeather_init : Option Addr} {kV_SumWeather_init : Value} {dc_SumWeather_init : Value} {pm_SumWeather_init : Value} {an_SumWeather_init : Option Addr} {cd_SumWeather_init : Value} {ct_SumWeather_init : Value} {sl_SumWeather_init : Array (Option Value)} {f_Weather_add : Addr} {oc_Weather_add : Value} {od_Weather_add : Option Addr} {kV_Weather_add : Value} {dc_Weather_add : Value} {pm_Weather_add : Value} {an_Weather_add : Option Addr} {cd_Weather_add : Value} {ct_Weather_add : Value} {sl_Weather_add : Array (Option Value)} {kd_Weather : ClassData} {kd_SteadyWeather : ClassData} {kd_SpellWeather : ClassData} {kd_StormWeather : ClassData} {f_law_fall : Addr} {oc_law_fall : Value} {od_law_fall : Option Addr} {kV_law_fall : Value} {dc_law_fall : Value} {pm_law_fall : Value} {an_law_fall : Option Addr} {cd_law_fall : Value} {ct_law_fall : Value} {sl_law_fall : Array (Option Value)} {t_MAX_TICK : Tok} {C_InvalidNumber : Addr} {nm_x_InvalidNumber : Str} {q_x_InvalidNumber : Str} {N_x_InvalidNumber : Addr} {bs_x_InvalidNumber : List Value} {bm_x_InvalidNumber : List Value} {sn_x_InvalidNumber : List Str} {sub_x_InvalidNumber : List Value} {ab_x_InvalidNumber : Bool} {col_x_InvalidNumber : Option Bool} {dd_x_InvalidNumber : Option Addr} {m0_x_InvalidNumber : Option Value} {m1_x_InvalidNumber : Option Value} {m2_x_InvalidNumber : Option Value} {m3_x_InvalidNumber : Option Value} {m5_x_InvalidNumber : Option Value} {f_validate_number : Addr} {oc_validate_number : Value} {od_validate_number : Option Addr} {kV_validate_number : Value} {dc_validate_number : Value} {pm_validate_number : Value} {an_validate_number : Option Addr} {cd_validate_number : Value} {ct_validate_number : Value} {sl_validate_number : Array (Option Value)} {f_Weather_amount_in : Addr} {oc_Weather_amount_in : Value} {od_Weather_amount_in : Option Addr} {kV_Weather_amount_in : Value} {dc_Weather_amount_in : Value} {pm_Weather_amount_in : Value} {an_Weather_amount_in : Option Addr} {cd_Weather_amount_in : Value} {ct_Weather_amount_in : Value} {sl_Weather_amount_in : Array (Option Value)} {f_SteadyWeather_amount_in : Addr} {oc_SteadyWeather_amount_in : Value} {od_SteadyWeather_amount_in : Option Addr} {kV_SteadyWeather_amount_in : Value} {dc_SteadyWeather_amount_in : Value} {pm_SteadyWeather_amount_in : Value} {an_SteadyWeather_amount_in : Option Addr} {cd_SteadyWeather_amount_in : Value} {ct_SteadyWeather_amount_in : Value} {sl_SteadyWeather_amount_in : Array (Option Value)} {f_SpellWeather_amount_in : Addr} {oc_SpellWeather_amount_in : Value} {od_SpellWeather_amount_in : Option Addr} {kV_SpellWeather_amount_in : Value} {dc_SpellWeather_amount_in : Value} {pm_SpellWeather_amount_in : Value} {an_SpellWeather_amount_in : Option Addr} {cd_SpellWeather_amount_in : Value} {ct_SpellWeather_amount_in : Value} {sl_SpellWeather_amount_in : Array (Option Value)} {f_StormWeather_amount_in : Addr} {oc_StormWeather_amount_in : Value} {od_StormWeather_amount_in : Option Addr} {kV_StormWeather_amount_in : Value} {dc_StormWeather_amount_in : Value} {pm_StormWeather_amount_in : Value} {an_StormWeather_amount_in : Option Addr} {cd_StormWeather_amount_in : Value} {ct_StormWeather_amount_in : Value} {sl_StormWeather_amount_in : Array (Option Value)} {f_SumWeather_amount_in : Addr} {oc_SumWeather_amount_in : Value} {od_SumWeather_amount_in : Option Addr} {kV_SumWeather_amount_in : Value} {dc_SumWeather_amount_in : Value} {pm_SumWeather_amount_in : Value} {an_SumWeather_amount_in : Option Addr} {cd_SumWeather_amount_in : Value} {ct_SumWeather_amount_in : Value} {sl_SumWeather_amount_in : Array (Option Value)} {f_Weather_fall_in : Addr} {oc_Weather_fall_in : Value} {od_Weather_fall_in : Option Addr} {kV_Weather_fall_in : Value} {dc_Weather_fall_in : Value} {pm_Weather_fall_in : Value} {an_Weather_fall_in : Option Addr} {cd_Weather_fall_in : Value} {ct_Weather_fall_in : Value} {sl_Weather_fall_in : Array (Option Value)} {f_law_alike : Addr} {oc_law_alike : Value} {od_law_alike : Option Addr} {kV_law_alike : Value} {dc_law_alike : Value} {pm_law_alike : Value} {an_law_alike : Option Addr} {cd_law_alike : Value} {ct_law_alike : Value} {sl_law_alike : Array (Option Value)} {tk_StormWeather_KIND : Tok} {tk_SpellWeather_KIND : Tok} {tk_SteadyWeather_KIND : Tok} {tk_SumWeather_KIND : Tok} {tk_Weather_KIND : Tok} {C_DecodeError : Addr} {C_DaybookError : Addr} {C_InvalidText : Addr} {C_InvalidRow : Addr} {C_InvalidOperation : Addr} {C_UnknownBarrel : Addr} {C_InvalidWeather : Addr} {f_law_outcome : Addr} {oc_law_outcome : Value} {od_law_outcome : Option Addr} {kV_law_outcome : Value} {dc_law_outcome : Value} {pm_law_outcome : Value} {an_law_outcome : Option Addr} {cd_law_outcome : Value} {ct_law_outcome : Value} {sl_law_outcome : Array (Option Value)} {C_RowError : Addr} {f_law_due : Addr} {oc_law_due : Value} {od_law_due : Option Addr} {kV_law_due : Value} {dc_law_due : Value} {pm_law_due : Value} {an_law_due : Option Addr} {cd_law_due : Value} {ct_law_due : Value} {sl_law_due : Array (Option Value)} {tc_KIND : Tok} {f_x_InvalidWeather : Addr} {oc_x_InvalidWeather : Value} {od_x_InvalidWeather : Option Addr} {kV_x_InvalidWeather : Value} {dc_x_InvalidWeather : Value} {pm_x_InvalidWeather : Value} {an_x_InvalidWeather : Option Addr} {cd_x_InvalidWeather : Value} {ct_x_InvalidWeather : Value} {sl_x_InvalidWeather : Array (Option Value)} {nm_x_InvalidWeather : Str} {q_x_InvalidWeather : Str} {N_x_InvalidWeather : Addr} {bs_x_InvalidWeather : List Value} {bm_x_InvalidWeather : List Value} {sn_x_InvalidWeather : List Str} {sub_x_InvalidWeather : List Value} {ab_x_InvalidWeather : Bool} {col_x_InvalidWeather : Option Bool} {dd_x_InvalidWeather : Option Addr} {m0_x_InvalidWeather : Option Value} {m1_x_InvalidWeather : Option Value} {m2_x_InvalidWeather : Option Value} {m3_x_InvalidWeather : Option Value} {m5_x_InvalidWeather : Option Value}
    (X : K.In h) (G : h.Ns mainGlobals mg)
    (z_list : PySem.W.nsIn K mainGlobals "list" = some none)
    (z_range : PySem.W.nsIn K mainGlobals "range" = some none)
    (z_len : PySem.W.nsIn K mainGlobals "len" = some none)
    (z_max : PySem.W.nsIn K mainGlobals "max" = some none)
    (z_int : PySem.W.nsIn K mainGlobals "int" = some none)
    (v_MAX_RAIN : PySem.W.nsIn K mainGlobals "MAX_RAIN" = some (some (.int 1000000 t_MAX_RAIN)))
    (v_MAX_TICKS : PySem.W.nsIn K mainGlobals "MAX_TICKS" = some (some (.int 1000 t_MAX_TICKS)))
    (z_super : PySem.W.nsIn K mainGlobals "super" = some none)
    (v_MAX_TICK : PySem.W.nsIn K mainGlobals "MAX_TICK" = some (some (.int 1000000000000000000 t_MAX_TICK)))
    (z_isinstance : PySem.W.nsIn K mainGlobals "isinstance" = some none)
    (z_dict : PySem.W.nsIn K mainGlobals "dict" = some none)
    (z_tuple : PySem.W.nsIn K mainGlobals "tuple" = some none)
    (z_str : PySem.W.nsIn K mainGlobals "str" = some none)
    (z_bool : PySem.W.nsIn K mainGlobals "bool" = some none)
    (z_ValueError : PySem.W.nsIn K mainGlobals "ValueError" = some none)
    (z_OtherRain : PySem.W.nsIn K mainGlobals "OtherRain" = some none)
    (z_Contradiction : PySem.W.nsIn K mainGlobals "Contradiction" = some none)
    (a_law_mix : PySem.W.nsIn K mainGlobals "_law_mix" = some (some (.ref f_law_mix)))
    (a_law_next : PySem.W.nsIn K mainGlobals "_law_next" = some (some (.ref f_law_next)))
    (a_law_spec : PySem.W.nsIn K mainGlobals "_law_spec" = some (some (.ref f_law_spec)))
    (a_Weather : PySem.W.nsIn K mainGlobals "Weather" = some (some (.ref C_Weather)))
    (a_validate_part : PySem.W.nsIn K mainGlobals "validate_part" = some (some (.ref f_validate_part)))
    (a_SteadyWeather : PySem.W.nsIn K mainGlobals "SteadyWeather" = some (some (.ref C_SteadyWeather)))
    (a_SpellWeather : PySem.W.nsIn K mainGlobals "SpellWeather" = some (some (.ref C_SpellWeather)))
    (a_StormWeather : PySem.W.nsIn K mainGlobals "StormWeather" = some (some (.ref C_StormWeather)))
    (a_law_weather : PySem.W.nsIn K mainGlobals "_law_weather" = some (some (.ref f_law_weather)))
    (a_SumWeather : PySem.W.nsIn K mainGlobals "SumWeather" = some (some (.ref C_SumWeather)))
    (a_law_fall : PySem.W.nsIn K mainGlobals "_law_fall" = some (some (.ref f_law_fall)))
    (a_InvalidNumber : PySem.W.nsIn K mainGlobals "InvalidNumber" = some (some (.ref C_InvalidNumber)))
    (a_validate_number : PySem.W.nsIn K mainGlobals "validate_number" = some (some (.ref f_validate_number)))
    (a_law_alike : PySem.W.nsIn K mainGlobals "_law_alike" = some (some (.ref f_law_alike)))
    (a_DecodeError : PySem.W.nsIn K mainGlobals "DecodeError" = some (some (.ref C_DecodeError)))
    (a_DaybookError : PySem.W.nsIn K mainGlobals "DaybookError" = some (some (.ref C_DaybookError)))
    (a_InvalidText : PySem.W.nsIn K mainGlobals "InvalidText" = some (some (.ref C_InvalidText)))
    (a_InvalidRow : PySem.W.nsIn K mainGlobals "InvalidRow" = some (some (.ref C_InvalidRow)))
    (a_InvalidOperation : PySem.W.nsIn K mainGlobals "InvalidOperation" = some (some (.ref C_InvalidOperation)))
    (a_UnknownBarrel : PySem.W.nsIn K mainGlobals "UnknownBarrel" = some (some (.ref C_UnknownBarrel)))
    (a_InvalidWeather : PySem.W.nsIn K mainGlobals "InvalidWeather" = some (some (.ref C_InvalidWeather)))
    (a_law_outcome : PySem.W.nsIn K mainGlobals "_law_outcome" = some (some (.ref f_law_outcome)))
    (a_RowError : PySem.W.nsIn K mainGlobals "RowError" = some (some (.ref C_RowError)))
    (a_law_due : PySem.W.nsIn K mainGlobals "_law_due" = some (some (.ref f_law_due)))
    (ii_SteadyWeather : PySem.W.findIn K (.ref C_SteadyWeather) "__init__" = some (some (.ref f_SteadyWeather_init)))
    (ii_SpellWeather : PySem.W.findIn K (.ref C_SpellWeather) "__init__" = some (some (.ref f_SpellWeather_init)))
    (ii_StormWeather : PySem.W.findIn K (.ref C_StormWeather) "__init__" = some (some (.ref f_StormWeather_init)))
    (ii_SumWeather : PySem.W.findIn K (.ref C_SumWeather) "__init__" = some (some (.ref f_SumWeather_init)))
    (at_Weather__Weather_add : PySem.W.findIn K (.ref C_Weather) (PySem.dunder Operator.Add.info.2) = some (some (.ref f_Weather_add)))
    (at_SteadyWeather__Weather_add : PySem.W.findIn K (.ref C_SteadyWeather) (PySem.dunder Operator.Add.info.2) = some (some (.ref f_Weather_add)))
    (at_SpellWeather__Weather_add : PySem.W.findIn K (.ref C_SpellWeather) (PySem.dunder Operator.Add.info.2) = some (some (.ref f_Weather_add)))
    (at_StormWeather__Weather_add : PySem.W.findIn K (.ref C_StormWeather) (PySem.dunder Operator.Add.info.2) = some (some (.ref f_Weather_add)))
    (at_Weather_amount_in : PySem.W.findIn K (.ref C_Weather) "amount_in" = some (some (.ref f_Weather_amount_in)))
    (at_SteadyWeather_amount_in : PySem.W.findIn K (.ref C_SteadyWeather) "amount_in" = some (some (.ref f_SteadyWeather_amount_in)))
    (at_SpellWeather_amount_in : PySem.W.findIn K (.ref C_SpellWeather) "amount_in" = some (some (.ref f_SpellWeather_amount_in)))
    (at_StormWeather_amount_in : PySem.W.findIn K (.ref C_StormWeather) "amount_in" = some (some (.ref f_StormWeather_amount_in)))
    (at_SumWeather_amount_in : PySem.W.findIn K (.ref C_SumWeather) "amount_in" = some (some (.ref f_SumWeather_amount_in)))
    (at_Weather_fall_in : PySem.W.findIn K (.ref C_Weather) "fall_in" = some (some (.ref f_Weather_fall_in)))
    (at_SumWeather__Weather_fall_in : PySem.W.findIn K (.ref C_SumWeather) "fall_in" = some (some (.ref f_Weather_fall_in)))
    (at_SteadyWeather__Weather_fall_in : PySem.W.findIn K (.ref C_SteadyWeather) "fall_in" = some (some (.ref f_Weather_fall_in)))
    (at_SpellWeather__Weather_fall_in : PySem.W.findIn K (.ref C_SpellWeather) "fall_in" = some (some (.ref f_Weather_fall_in)))
    (at_StormWeather__Weather_fall_in : PySem.W.findIn K (.ref C_StormWeather) "fall_in" = some (some (.ref f_Weather_fall_in)))
    (at_StormWeather_KIND : PySem.W.findIn K (.ref C_StormWeather) "KIND" = some (some (.str "storms" tk_StormWeather_KIND)))
    (at_SpellWeather_KIND : PySem.W.findIn K (.ref C_SpellWeather) "KIND" = some (some (.str "spells" tk_SpellWeather_KIND)))
    (at_SteadyWeather_KIND : PySem.W.findIn K (.ref C_SteadyWeather) "KIND" = some (some (.str "steady" tk_SteadyWeather_KIND)))
    (at_SumWeather_KIND : PySem.W.findIn K (.ref C_SumWeather) "KIND" = some (some (.str "sum" tk_SumWeather_KIND)))
    (at_Weather_KIND : PySem.W.findIn K (.ref C_Weather) "KIND" = some (some (.str "dry" tk_Weather_KIND)))
    (ii_InvalidWeather : PySem.W.findIn K (.ref C_InvalidWeather) "__init__" = some (some (.ref f_x_InvalidWeather)))
    (l_law_mix : K.lookup f_law_mix = some ⟨oc_law_mix, od_law_mix, .func (PySem.W.fnOf "_law_mix" "_law_mix" (defArgs s_law_mix) (defBody s_law_mix) (defScope s_law_mix) .none kV_law_mix dc_law_mix pm_law_mix an_law_mix cd_law_mix ct_law_mix), sl_law_mix⟩)
    (l_law_next : K.lookup f_law_next = some ⟨oc_law_next, od_law_next, .func (PySem.W.fnOf "_law_next" "_law_next" (defArgs s_law_next) (defBody s_law_next) (defScope s_law_next) .none kV_law_next dc_law_next pm_law_next an_law_next cd_law_next ct_law_next), sl_law_next⟩)
    (l_law_spec : K.lookup f_law_spec = some ⟨oc_law_spec, od_law_spec, .func (PySem.W.fnOf "_law_spec" "_law_spec" (defArgs s_law_spec) (defBody s_law_spec) (defScope s_law_spec) .none kV_law_spec dc_law_spec pm_law_spec an_law_spec cd_law_spec ct_law_spec), sl_law_spec⟩)
    (l_validate_part : K.lookup f_validate_part = some ⟨oc_validate_part, od_validate_part, .func (PySem.W.fnOf "validate_part" "validate_part" (defArgs s_validate_part) (defBody s_validate_part) (defScope s_validate_part) .none kV_validate_part dc_validate_part pm_validate_part an_validate_part cd_validate_part ct_validate_part), sl_validate_part⟩)
    (l_SteadyWeather_init : K.lookup f_SteadyWeather_init = some ⟨oc_SteadyWeather_init, od_SteadyWeather_init, .func (PySem.W.fnOf "__init__" "SteadyWeather.__init__" (defArgs s_SteadyWeather_init) (defBody s_SteadyWeather_init) (defScope s_SteadyWeather_init) .none kV_SteadyWeather_init dc_SteadyWeather_init pm_SteadyWeather_init an_SteadyWeather_init cd_SteadyWeather_init ct_SteadyWeather_init), sl_SteadyWeather_init⟩)
    (l_SpellWeather_init : K.lookup f_SpellWeather_init = some ⟨oc_SpellWeather_init, od_SpellWeather_init, .func (PySem.W.fnX "__init__" "SpellWeather.__init__" (defArgs s_SpellWeather_init) (defBody s_SpellWeather_init) (defScope s_SpellWeather_init) [("__class__", ce_SpellWeather_init)] .none kV_SpellWeather_init dc_SpellWeather_init pm_SpellWeather_init an_SpellWeather_init (.ref cc_SpellWeather_init) ct_SpellWeather_init), sl_SpellWeather_init⟩)
    (l_StormWeather_init : K.lookup f_StormWeather_init = some ⟨oc_StormWeather_init, od_StormWeather_init, .func (PySem.W.fnX "__init__" "StormWeather.__init__" (defArgs s_StormWeather_init) (defBody s_StormWeather_init) (defScope s_StormWeather_init) [("__class__", ce_StormWeather_init)] .none kV_StormWeather_init dc_StormWeather_init pm_StormWeather_init an_StormWeather_init (.ref cc_StormWeather_init) ct_StormWeather_init), sl_StormWeather_init⟩)
    (l_law_weather : K.lookup f_law_weather = some ⟨oc_law_weather, od_law_weather, .func (PySem.W.fnOf "_law_weather" "_law_weather" (defArgs s_law_weather) (defBody s_law_weather) (defScope s_law_weather) .none kV_law_weather dc_law_weather pm_law_weather an_law_weather cd_law_weather ct_law_weather), sl_law_weather⟩)
    (l_SumWeather_init : K.lookup f_SumWeather_init = some ⟨oc_SumWeather_init, od_SumWeather_init, .func (PySem.W.fnOf "__init__" "SumWeather.__init__" (defArgs s_SumWeather_init) (defBody s_SumWeather_init) (defScope s_SumWeather_init) .none kV_SumWeather_init dc_SumWeather_init pm_SumWeather_init an_SumWeather_init cd_SumWeather_init ct_SumWeather_init), sl_SumWeather_init⟩)
    (l_Weather_add : K.lookup f_Weather_add = some ⟨oc_Weather_add, od_Weather_add, .func (PySem.W.fnOf "__add__" "Weather.__add__" (defArgs s_Weather_add) (defBody s_Weather_add) (defScope s_Weather_add) .none kV_Weather_add dc_Weather_add pm_Weather_add an_Weather_add cd_Weather_add ct_Weather_add), sl_Weather_add⟩)
    (l_law_fall : K.lookup f_law_fall = some ⟨oc_law_fall, od_law_fall, .func (PySem.W.fnOf "_law_fall" "_law_fall" (defArgs s_law_fall) (defBody s_law_fall) (defScope s_law_fall) .none kV_law_fall dc_law_fall pm_law_fall an_law_fall cd_law_fall ct_law_fall), sl_law_fall⟩)
    (l_validate_number : K.lookup f_validate_number = some ⟨oc_validate_number, od_validate_number, .func (PySem.W.fnOf "validate_number" "validate_number" (defArgs s_validate_number) (defBody s_validate_number) (defScope s_validate_number) .none kV_validate_number dc_validate_number pm_validate_number an_validate_number cd_validate_number ct_validate_number), sl_validate_number⟩)
    (l_Weather_amount_in : K.lookup f_Weather_amount_in = some ⟨oc_Weather_amount_in, od_Weather_amount_in, .func (PySem.W.fnOf "amount_in" "Weather.amount_in" (defArgs s_Weather_amount_in) (defBody s_Weather_amount_in) (defScope s_Weather_amount_in) .none kV_Weather_amount_in dc_Weather_amount_in pm_Weather_amount_in an_Weather_amount_in cd_Weather_amount_in ct_Weather_amount_in), sl_Weather_amount_in⟩)
    (l_SteadyWeather_amount_in : K.lookup f_SteadyWeather_amount_in = some ⟨oc_SteadyWeather_amount_in, od_SteadyWeather_amount_in, .func (PySem.W.fnOf "amount_in" "SteadyWeather.amount_in" (defArgs s_SteadyWeather_amount_in) (defBody s_SteadyWeather_amount_in) (defScope s_SteadyWeather_amount_in) .none kV_SteadyWeather_amount_in dc_SteadyWeather_amount_in pm_SteadyWeather_amount_in an_SteadyWeather_amount_in cd_SteadyWeather_amount_in ct_SteadyWeather_amount_in), sl_SteadyWeather_amount_in⟩)
    (l_SpellWeather_amount_in : K.lookup f_SpellWeather_amount_in = some ⟨oc_SpellWeather_amount_in, od_SpellWeather_amount_in, .func (PySem.W.fnOf "amount_in" "SpellWeather.amount_in" (defArgs s_SpellWeather_amount_in) (defBody s_SpellWeather_amount_in) (defScope s_SpellWeather_amount_in) .none kV_SpellWeather_amount_in dc_SpellWeather_amount_in pm_SpellWeather_amount_in an_SpellWeather_amount_in cd_SpellWeather_amount_in ct_SpellWeather_amount_in), sl_SpellWeather_amount_in⟩)
    (l_StormWeather_amount_in : K.lookup f_StormWeather_amount_in = some ⟨oc_StormWeather_amount_in, od_StormWeather_amount_in, .func (PySem.W.fnOf "amount_in" "StormWeather.amount_in" (defArgs s_StormWeather_amount_in) (defBody s_StormWeather_amount_in) (defScope s_StormWeather_amount_in) .none kV_StormWeather_amount_in dc_StormWeather_amount_in pm_StormWeather_amount_in an_StormWeather_amount_in cd_StormWeather_amount_in ct_StormWeather_amount_in), sl_StormWeather_amount_in⟩)
    (l_SumWeather_amount_in : K.lookup f_SumWeather_amount_in = some ⟨oc_SumWeather_amount_in, od_SumWeather_amount_in, .func (PySem.W.fnOf "amount_in" "SumWeather.amount_in" (defArgs s_SumWeather_amount_in) (defBody s_SumWeather_amount_in) (defScope s_SumWeather_amount_in) .none kV_SumWeather_amount_in dc_SumWeather_amount_in pm_SumWeather_amount_in an_SumWeather_amount_in cd_SumWeather_amount_in ct_SumWeather_amount_in), sl_SumWeather_amount_in⟩)
    (l_Weather_fall_in : K.lookup f_Weather_fall_in = some ⟨oc_Weather_fall_in, od_Weather_fall_in, .func (PySem.W.fnOf "fall_in" "Weather.fall_in" (defArgs s_Weather_fall_in) (defBody s_Weather_fall_in) (defScope s_Weather_fall_in) .none kV_Weather_fall_in dc_Weather_fall_in pm_Weather_fall_in an_Weather_fall_in cd_Weather_fall_in ct_Weather_fall_in), sl_Weather_fall_in⟩)
    (l_law_alike : K.lookup f_law_alike = some ⟨oc_law_alike, od_law_alike, .func (PySem.W.fnOf "_law_alike" "_law_alike" (defArgs s_law_alike) (defBody s_law_alike) (defScope s_law_alike) .none kV_law_alike dc_law_alike pm_law_alike an_law_alike cd_law_alike ct_law_alike), sl_law_alike⟩)
    (l_law_outcome : K.lookup f_law_outcome = some ⟨oc_law_outcome, od_law_outcome, .func (PySem.W.fnOf "_law_outcome" "_law_outcome" (defArgs s_law_outcome) (defBody s_law_outcome) (defScope s_law_outcome) .none kV_law_outcome dc_law_outcome pm_law_outcome an_law_outcome cd_law_outcome ct_law_outcome), sl_law_outcome⟩)
    (l_law_due : K.lookup f_law_due = some ⟨oc_law_due, od_law_due, .func (PySem.W.fnOf "_law_due" "_law_due" (defArgs s_law_due) (defBody s_law_due) (defScope s_law_due) .none kV_law_due dc_law_due pm_law_due an_law_due cd_law_due ct_law_due), sl_law_due⟩)
    (l_x_InvalidWeather : K.lookup f_x_InvalidWeather = some ⟨oc_x_InvalidWeather, od_x_InvalidWeather, .func (PySem.W.fnOf "__init__" "InvalidWeather.__init__" (defArgs s_x_InvalidWeather) (defBody s_x_InvalidWeather) (defScope s_x_InvalidWeather) .none kV_x_InvalidWeather dc_x_InvalidWeather pm_x_InvalidWeather an_x_InvalidWeather cd_x_InvalidWeather ct_x_InvalidWeather), sl_x_InvalidWeather⟩)
    (xL_x_InvalidNumber : K.lookup C_InvalidNumber = some (excClassObj nm_x_InvalidNumber q_x_InvalidNumber C_InvalidNumber N_x_InvalidNumber bs_x_InvalidNumber bm_x_InvalidNumber true sn_x_InvalidNumber sub_x_InvalidNumber ab_x_InvalidNumber col_x_InvalidNumber dd_x_InvalidNumber m0_x_InvalidNumber m1_x_InvalidNumber m2_x_InvalidNumber m3_x_InvalidNumber m5_x_InvalidNumber "ValueError.__new__"))
    (xL_x_InvalidWeather : K.lookup C_InvalidWeather = some (excClassObj nm_x_InvalidWeather q_x_InvalidWeather C_InvalidWeather N_x_InvalidWeather bs_x_InvalidWeather bm_x_InvalidWeather true sn_x_InvalidWeather sub_x_InvalidWeather ab_x_InvalidWeather col_x_InvalidWeather dd_x_InvalidWeather m0_x_InvalidWeather m1_x_InvalidWeather m2_x_InvalidWeather m3_x_InvalidWeather m5_x_InvalidWeather "ValueError.__new__"))
    (lc_SpellWeather_init : K.lookup cc_SpellWeather_init = some ⟨cv_SpellWeather_init, cvd_SpellWeather_init, .fields vs_SpellWeather_init, cvs_SpellWeather_init⟩)
    (lc_StormWeather_init : K.lookup cc_StormWeather_init = some ⟨cv_StormWeather_init, cvd_StormWeather_init, .fields vs_StormWeather_init, cvs_StormWeather_init⟩)
    (fv_SpellWeather_init : vs_SpellWeather_init[2]? = some (.str fi_SpellWeather_init tf_SpellWeather_init))
    (fv_StormWeather_init : vs_StormWeather_init[2]? = some (.str fi_StormWeather_init tf_StormWeather_init))
    (le_SpellWeather_init : K.lookup ce_SpellWeather_init = some ⟨el_SpellWeather_init, eld_SpellWeather_init, .cell (some (.ref C_SpellWeather)), els_SpellWeather_init⟩)
    (le_StormWeather_init : K.lookup ce_StormWeather_init = some ⟨el_StormWeather_init, eld_StormWeather_init, .cell (some (.ref C_StormWeather)), els_StormWeather_init⟩)
    (c_law_mix : PySem.W.codeIn K cd_law_mix "_law_mix" = true)
    (k_law_mix : PySem.W.keepIn K (.ref f_law_mix) = true)
    (c_law_next : PySem.W.codeIn K cd_law_next "_law_next" = true)
    (k_law_next : PySem.W.keepIn K (.ref f_law_next) = true)
    (c_law_spec : PySem.W.codeIn K cd_law_spec "_law_spec" = true)
    (k_law_spec : PySem.W.keepIn K (.ref f_law_spec) = true)
    (mk_Weather : PySem.W.makesIn K C_Weather = true)
    (io_Weather : PySem.W.findIn K (.ref C_Weather) "__init__" = some (some (.builtin "object.__init__")))
    (kc_Weather : PySem.W.keepIn K (.ref C_Weather) = true)
    (c_validate_part : PySem.W.codeIn K cd_validate_part "validate_part" = true)
    (k_validate_part : PySem.W.keepIn K (.ref f_validate_part) = true)
    (pg_SteadyWeather : PySem.W.plainGet K C_SteadyWeather Str.empty = true)
    (hd_SteadyWeather : PySem.W.hasDictIn K C_SteadyWeather = true)
    (po_SteadyWeather : PySem.W.plainOver K C_SteadyWeather = true)
    (sa_SteadyWeather : PySem.W.findIn K (.ref C_SteadyWeather) "__setattr__" = some (some (.builtin "object.__setattr__")))
    (no_SteadyWeather_amount : PySem.W.findIn K (.ref C_SteadyWeather) "amount" = some none)
    (pg_SpellWeather : PySem.W.plainGet K C_SpellWeather Str.empty = true)
    (hd_SpellWeather : PySem.W.hasDictIn K C_SpellWeather = true)
    (po_SpellWeather : PySem.W.plainOver K C_SpellWeather = true)
    (sa_SpellWeather : PySem.W.findIn K (.ref C_SpellWeather) "__setattr__" = some (some (.builtin "object.__setattr__")))
    (no_SpellWeather_amount : PySem.W.findIn K (.ref C_SpellWeather) "amount" = some none)
    (pg_StormWeather : PySem.W.plainGet K C_StormWeather Str.empty = true)
    (hd_StormWeather : PySem.W.hasDictIn K C_StormWeather = true)
    (po_StormWeather : PySem.W.plainOver K C_StormWeather = true)
    (sa_StormWeather : PySem.W.findIn K (.ref C_StormWeather) "__setattr__" = some (some (.builtin "object.__setattr__")))
    (no_StormWeather_amount : PySem.W.findIn K (.ref C_StormWeather) "amount" = some none)
    (c_SteadyWeather_init : PySem.W.codeIn K cd_SteadyWeather_init "SteadyWeather.__init__" = true)
    (k_SteadyWeather_init : PySem.W.keepIn K (.ref f_SteadyWeather_init) = true)
    (mk_SteadyWeather : PySem.W.makesIn K C_SteadyWeather = true)
    (if_SteadyWeather : PySem.W.isFn K (.ref f_SteadyWeather_init) = true)
    (kc_SteadyWeather : PySem.W.keepIn K (.ref C_SteadyWeather) = true)
    (no_SpellWeather_wet : PySem.W.findIn K (.ref C_SpellWeather) "wet" = some none)
    (no_SpellWeather_dry : PySem.W.findIn K (.ref C_SpellWeather) "dry" = some none)
    (mk_SpellWeather : PySem.W.makesIn K C_SpellWeather = true)
    (if_SpellWeather : PySem.W.isFn K (.ref f_SpellWeather_init) = true)
    (kc_SpellWeather : PySem.W.keepIn K (.ref C_SpellWeather) = true)
    (c_SpellWeather_init : PySem.W.codeIn K (.ref cc_SpellWeather_init) "SpellWeather.__init__" = true)
    (k_SpellWeather_init : PySem.W.keepIn K (.ref f_SpellWeather_init) = true)
    (fq_SpellWeather_init : ((P.main.file : Str) == fi_SpellWeather_init) = true)
    (ci_SpellWeather : PySem.W.isClsIn K C_SpellWeather = true)
    (mr_SpellWeather : PySem.W.mroIn K C_SpellWeather (.ref C_SpellWeather) = some true)
    (sp_SpellWeather : PySem.W.ks_superIn K C_SpellWeather C_SpellWeather "__init__" = some (some (.ref f_SteadyWeather_init)))
    (ti_SteadyWeather_init : PySem.W.typeIn K (.ref f_SteadyWeather_init) = some (.type "function"))
    (fi2_SteadyWeather_init : PySem.W.fnIn K f_SteadyWeather_init = true)
    (any_ : PySem.W.nsIn K PySem.cStatics "thirdparty.any" = some none)
    (fq_top : (P.main.scope.names.lookup ("super" : Str)).isSome = false)
    (no_StormWeather_first : PySem.W.findIn K (.ref C_StormWeather) "first" = some none)
    (no_StormWeather_every : PySem.W.findIn K (.ref C_StormWeather) "every" = some none)
    (mk_StormWeather : PySem.W.makesIn K C_StormWeather = true)
    (if_StormWeather : PySem.W.isFn K (.ref f_StormWeather_init) = true)
    (kc_StormWeather : PySem.W.keepIn K (.ref C_StormWeather) = true)
    (c_StormWeather_init : PySem.W.codeIn K (.ref cc_StormWeather_init) "StormWeather.__init__" = true)
    (k_StormWeather_init : PySem.W.keepIn K (.ref f_StormWeather_init) = true)
    (fq_StormWeather_init : ((P.main.file : Str) == fi_StormWeather_init) = true)
    (ci_StormWeather : PySem.W.isClsIn K C_StormWeather = true)
    (mr_StormWeather : PySem.W.mroIn K C_StormWeather (.ref C_StormWeather) = some true)
    (sp_StormWeather : PySem.W.ks_superIn K C_StormWeather C_StormWeather "__init__" = some (some (.ref f_SteadyWeather_init)))
    (c_law_weather : PySem.W.codeIn K cd_law_weather "_law_weather" = true)
    (k_law_weather : PySem.W.keepIn K (.ref f_law_weather) = true)
    (pg_SumWeather : PySem.W.plainGet K C_SumWeather Str.empty = true)
    (hd_SumWeather : PySem.W.hasDictIn K C_SumWeather = true)
    (po_SumWeather : PySem.W.plainOver K C_SumWeather = true)
    (sa_SumWeather : PySem.W.findIn K (.ref C_SumWeather) "__setattr__" = some (some (.builtin "object.__setattr__")))
    (no_SumWeather_one : PySem.W.findIn K (.ref C_SumWeather) "one" = some none)
    (no_SumWeather_other : PySem.W.findIn K (.ref C_SumWeather) "other" = some none)
    (c_SumWeather_init : PySem.W.codeIn K cd_SumWeather_init "SumWeather.__init__" = true)
    (k_SumWeather_init : PySem.W.keepIn K (.ref f_SumWeather_init) = true)
    (mk_SumWeather : PySem.W.makesIn K C_SumWeather = true)
    (if_SumWeather : PySem.W.isFn K (.ref f_SumWeather_init) = true)
    (kc_SumWeather : PySem.W.keepIn K (.ref C_SumWeather) = true)
    (c_Weather_add : PySem.W.codeIn K cd_Weather_add "Weather.__add__" = true)
    (k_Weather_add : PySem.W.keepIn K (.ref f_Weather_add) = true)
    (i_Weather_add : PySem.W.isFn K (.ref f_Weather_add) = true)
    (tyr_ : PySem.W.findIn K (.type "type") (dunderR Operator.Add.info.2) = some none)
    (sf_Weather : PySem.W.selfFirst K C_Weather = true)
    (rr_Weather__Weather_add : PySem.W.findIn K (.ref C_Weather) (dunderR Operator.Add.info.2) = some none)
    (rd_Weather : PySem.W.readsIn K C_Weather (.type "type") = true)
    (ck_Weather : PySem.W.clsIn K C_Weather = some kd_Weather)
    (ms_Weather : missMsg kd_Weather.name (dunderR Operator.Add.info.2) = true)
    (sb_Weather_Weather : PySem.W.subIn K (.ref C_Weather) (.ref C_Weather) = some true)
    (sb_SteadyWeather_Weather : PySem.W.subIn K (.ref C_SteadyWeather) (.ref C_Weather) = some true)
    (sb_SpellWeather_Weather : PySem.W.subIn K (.ref C_SpellWeather) (.ref C_Weather) = some true)
    (sb_StormWeather_Weather : PySem.W.subIn K (.ref C_StormWeather) (.ref C_Weather) = some true)
    (sf_SteadyWeather : PySem.W.selfFirst K C_SteadyWeather = true)
    (rr_SteadyWeather__Weather_add : PySem.W.findIn K (.ref C_SteadyWeather) (dunderR Operator.Add.info.2) = some none)
    (rd_SteadyWeather : PySem.W.readsIn K C_SteadyWeather (.type "type") = true)
    (ck_SteadyWeather : PySem.W.clsIn K C_SteadyWeather = some kd_SteadyWeather)
    (ms_SteadyWeather : missMsg kd_SteadyWeather.name (dunderR Operator.Add.info.2) = true)
    (sb_Weather_SteadyWeather : PySem.W.subIn K (.ref C_Weather) (.ref C_SteadyWeather) = some false)
    (sb_SteadyWeather_SteadyWeather : PySem.W.subIn K (.ref C_SteadyWeather) (.ref C_SteadyWeather) = some true)
    (sb_SpellWeather_SteadyWeather : PySem.W.subIn K (.ref C_SpellWeather) (.ref C_SteadyWeather) = some true)
    (sb_StormWeather_SteadyWeather : PySem.W.subIn K (.ref C_StormWeather) (.ref C_SteadyWeather) = some true)
    (sf_SpellWeather : PySem.W.selfFirst K C_SpellWeather = true)
    (rr_SpellWeather__Weather_add : PySem.W.findIn K (.ref C_SpellWeather) (dunderR Operator.Add.info.2) = some none)
    (rd_SpellWeather : PySem.W.readsIn K C_SpellWeather (.type "type") = true)
    (ck_SpellWeather : PySem.W.clsIn K C_SpellWeather = some kd_SpellWeather)
    (ms_SpellWeather : missMsg kd_SpellWeather.name (dunderR Operator.Add.info.2) = true)
    (sb_Weather_SpellWeather : PySem.W.subIn K (.ref C_Weather) (.ref C_SpellWeather) = some false)
    (sb_SteadyWeather_SpellWeather : PySem.W.subIn K (.ref C_SteadyWeather) (.ref C_SpellWeather) = some false)
    (sb_SpellWeather_SpellWeather : PySem.W.subIn K (.ref C_SpellWeather) (.ref C_SpellWeather) = some true)
    (sb_StormWeather_SpellWeather : PySem.W.subIn K (.ref C_StormWeather) (.ref C_SpellWeather) = some false)
    (sf_StormWeather : PySem.W.selfFirst K C_StormWeather = true)
    (rr_StormWeather__Weather_add : PySem.W.findIn K (.ref C_StormWeather) (dunderR Operator.Add.info.2) = some none)
    (rd_StormWeather : PySem.W.readsIn K C_StormWeather (.type "type") = true)
    (ck_StormWeather : PySem.W.clsIn K C_StormWeather = some kd_StormWeather)
    (ms_StormWeather : missMsg kd_StormWeather.name (dunderR Operator.Add.info.2) = true)
    (sb_Weather_StormWeather : PySem.W.subIn K (.ref C_Weather) (.ref C_StormWeather) = some false)
    (sb_SteadyWeather_StormWeather : PySem.W.subIn K (.ref C_SteadyWeather) (.ref C_StormWeather) = some false)
    (sb_SpellWeather_StormWeather : PySem.W.subIn K (.ref C_SpellWeather) (.ref C_StormWeather) = some false)
    (sb_StormWeather_StormWeather : PySem.W.subIn K (.ref C_StormWeather) (.ref C_StormWeather) = some true)
    (c_law_fall : PySem.W.codeIn K cd_law_fall "_law_fall" = true)
    (k_law_fall : PySem.W.keepIn K (.ref f_law_fall) = true)
    (rV_x_InvalidNumber : PySem.HandSPX.refsVE bm_x_InvalidNumber = true)
    (sa_InvalidNumber : PySem.W.findIn K (.ref C_InvalidNumber) "__setattr__" = some (some (.builtin "object.__setattr__")))
    (bx_InvalidNumber : PySem.W.subIn K (.ref C_InvalidNumber) (.type "BaseException") = some true)
    (tx_InvalidNumber : PySem.W.typeIn K (.ref C_InvalidNumber) = some (.type "type"))
    (kc_InvalidNumber : PySem.W.keepIn K (.ref C_InvalidNumber) = true)
    (ib_InvalidNumber : PySem.W.findIn K (.ref C_InvalidNumber) "__init__" = some (some (.builtin "ValueError.__init__")))
    (c_validate_number : PySem.W.codeIn K cd_validate_number "validate_number" = true)
    (k_validate_number : PySem.W.keepIn K (.ref f_validate_number) = true)
    (c_Weather_amount_in : PySem.W.codeIn K cd_Weather_amount_in "Weather.amount_in" = true)
    (k_Weather_amount_in : PySem.W.keepIn K (.ref f_Weather_amount_in) = true)
    (pg_Weather : PySem.W.plainGet K C_Weather Str.empty = true)
    (hd_Weather : PySem.W.hasDictIn K C_Weather = true)
    (po_Weather : PySem.W.plainOver K C_Weather = true)
    (sa_Weather : PySem.W.findIn K (.ref C_Weather) "__setattr__" = some (some (.builtin "object.__setattr__")))
    (i_Weather_amount_in : PySem.W.isFn K (.ref f_Weather_amount_in) = true)
    (c_SteadyWeather_amount_in : PySem.W.codeIn K cd_SteadyWeather_amount_in "SteadyWeather.amount_in" = true)
    (k_SteadyWeather_amount_in : PySem.W.keepIn K (.ref f_SteadyWeather_amount_in) = true)
    (i_SteadyWeather_amount_in : PySem.W.isFn K (.ref f_SteadyWeather_amount_in) = true)
    (c_SpellWeather_amount_in : PySem.W.codeIn K cd_SpellWeather_amount_in "SpellWeather.amount_in" = true)
    (k_SpellWeather_amount_in : PySem.W.keepIn K (.ref f_SpellWeather_amount_in) = true)
    (i_SpellWeather_amount_in : PySem.W.isFn K (.ref f_SpellWeather_amount_in) = true)
    (c_StormWeather_amount_in : PySem.W.codeIn K cd_StormWeather_amount_in "StormWeather.amount_in" = true)
    (k_StormWeather_amount_in : PySem.W.keepIn K (.ref f_StormWeather_amount_in) = true)
    (i_StormWeather_amount_in : PySem.W.isFn K (.ref f_StormWeather_amount_in) = true)
    (c_SumWeather_amount_in : PySem.W.codeIn K cd_SumWeather_amount_in "SumWeather.amount_in" = true)
    (k_SumWeather_amount_in : PySem.W.keepIn K (.ref f_SumWeather_amount_in) = true)
    (i_SumWeather_amount_in : PySem.W.isFn K (.ref f_SumWeather_amount_in) = true)
    (c_Weather_fall_in : PySem.W.codeIn K cd_Weather_fall_in "Weather.fall_in" = true)
    (k_Weather_fall_in : PySem.W.keepIn K (.ref f_Weather_fall_in) = true)
    (i_Weather_fall_in : PySem.W.isFn K (.ref f_Weather_fall_in) = true)
    (c_law_alike : PySem.W.codeIn K cd_law_alike "_law_alike" = true)
    (k_law_alike : PySem.W.keepIn K (.ref f_law_alike) = true)
    (kt_Weather : PySem.W.kitOne K (.type "tuple") (.ref C_Weather) = some false)
    (oc_get : PySem.W.specialIn K (.builtin "object.__class__") "__get__" = some (some (.builtin "getset_descriptor.__get__")))
    (oc_tak : PySem.W.takesIn K (.builtin "object.__class__") = some true)
    (ha_SumWeather : PySem.W.findIn K (.ref C_SumWeather) "__class__" = some (some (.builtin "object.__class__")))
    (hm_SumWeather : PySem.W.mroIn K C_SumWeather (.type "object") = some true)
    (ko_SumWeather_Weather : PySem.W.kitOne K (.ref C_SumWeather) (.ref C_Weather) = some true)
    (sg_StormWeather_KIND : PySem.W.specialIn K (.str "storms" tk_StormWeather_KIND) "__get__" = some none)
    (sg_SpellWeather_KIND : PySem.W.specialIn K (.str "spells" tk_SpellWeather_KIND) "__get__" = some none)
    (sg_SteadyWeather_KIND : PySem.W.specialIn K (.str "steady" tk_SteadyWeather_KIND) "__get__" = some none)
    (sg_SumWeather_KIND : PySem.W.specialIn K (.str "sum" tk_SumWeather_KIND) "__get__" = some none)
    (sg_Weather_KIND : PySem.W.specialIn K (.str "dry" tk_Weather_KIND) "__get__" = some none)
    (c_law_outcome : PySem.W.codeIn K cd_law_outcome "_law_outcome" = true)
    (k_law_outcome : PySem.W.keepIn K (.ref f_law_outcome) = true)
    (bx_RowError : PySem.W.subIn K (.ref C_RowError) (.type "BaseException") = some true)
    (hd_RowError : PySem.W.hasDictIn K C_RowError = true)
    (tx_RowError : PySem.W.typeIn K (.ref C_RowError) = some (.type "type"))
    (hg_InvalidRow : PySem.W.findIn K (.ref C_InvalidRow) "__getattribute__" = some (some (.builtin "BaseException.__getattribute__")))
    (hk_InvalidRow : PySem.W.findIn K (.ref C_InvalidRow) "__getattr__" = some none)
    (bx_InvalidRow : PySem.W.subIn K (.ref C_InvalidRow) (.type "BaseException") = some true)
    (hd_InvalidRow : PySem.W.hasDictIn K C_InvalidRow = true)
    (ha_InvalidRow : PySem.W.findIn K (.ref C_InvalidRow) "__class__" = some (some (.builtin "object.__class__")))
    (hm_InvalidRow : PySem.W.mroIn K C_InvalidRow (.type "object") = some true)
    (no_InvalidRow_part : PySem.W.findIn K (.ref C_InvalidRow) "part" = some none)
    (no_InvalidRow_index : PySem.W.findIn K (.ref C_InvalidRow) "index" = some none)
    (no_InvalidRow_name : PySem.W.findIn K (.ref C_InvalidRow) "name" = some none)
    (no_InvalidRow_line : PySem.W.findIn K (.ref C_InvalidRow) "line" = some none)
    (no_InvalidRow_offset : PySem.W.findIn K (.ref C_InvalidRow) "offset" = some none)
    (ko_InvalidRow_InvalidRow : PySem.W.kitOne K (.ref C_InvalidRow) (.ref C_InvalidRow) = some true)
    (ko_InvalidRow_UnknownBarrel : PySem.W.kitOne K (.ref C_InvalidRow) (.ref C_UnknownBarrel) = some false)
    (ko_InvalidRow_InvalidNumber : PySem.W.kitOne K (.ref C_InvalidRow) (.ref C_InvalidNumber) = some false)
    (ko_InvalidRow_InvalidWeather : PySem.W.kitOne K (.ref C_InvalidRow) (.ref C_InvalidWeather) = some false)
    (ko_InvalidRow_InvalidOperation : PySem.W.kitOne K (.ref C_InvalidRow) (.ref C_InvalidOperation) = some false)
    (ko_InvalidRow_InvalidText : PySem.W.kitOne K (.ref C_InvalidRow) (.ref C_InvalidText) = some false)
    (ko_InvalidRow_DaybookError : PySem.W.kitOne K (.ref C_InvalidRow) (.ref C_DaybookError) = some false)
    (ko_InvalidRow_DecodeError : PySem.W.kitOne K (.ref C_InvalidRow) (.ref C_DecodeError) = some false)
    (kv_InvalidRow : PySem.W.kitOne K (.ref C_InvalidRow) (.type "ValueError") = some true)
    (sr_InvalidRow : PySem.W.subIn K (.ref C_InvalidRow) (.ref C_RowError) = some true)
    (hg_UnknownBarrel : PySem.W.findIn K (.ref C_UnknownBarrel) "__getattribute__" = some (some (.builtin "BaseException.__getattribute__")))
    (hk_UnknownBarrel : PySem.W.findIn K (.ref C_UnknownBarrel) "__getattr__" = some none)
    (bx_UnknownBarrel : PySem.W.subIn K (.ref C_UnknownBarrel) (.type "BaseException") = some true)
    (hd_UnknownBarrel : PySem.W.hasDictIn K C_UnknownBarrel = true)
    (ha_UnknownBarrel : PySem.W.findIn K (.ref C_UnknownBarrel) "__class__" = some (some (.builtin "object.__class__")))
    (hm_UnknownBarrel : PySem.W.mroIn K C_UnknownBarrel (.type "object") = some true)
    (no_UnknownBarrel_part : PySem.W.findIn K (.ref C_UnknownBarrel) "part" = some none)
    (no_UnknownBarrel_index : PySem.W.findIn K (.ref C_UnknownBarrel) "index" = some none)
    (no_UnknownBarrel_name : PySem.W.findIn K (.ref C_UnknownBarrel) "name" = some none)
    (no_UnknownBarrel_line : PySem.W.findIn K (.ref C_UnknownBarrel) "line" = some none)
    (no_UnknownBarrel_offset : PySem.W.findIn K (.ref C_UnknownBarrel) "offset" = some none)
    (ko_UnknownBarrel_InvalidRow : PySem.W.kitOne K (.ref C_UnknownBarrel) (.ref C_InvalidRow) = some false)
    (ko_UnknownBarrel_UnknownBarrel : PySem.W.kitOne K (.ref C_UnknownBarrel) (.ref C_UnknownBarrel) = some true)
    (ko_UnknownBarrel_InvalidNumber : PySem.W.kitOne K (.ref C_UnknownBarrel) (.ref C_InvalidNumber) = some false)
    (ko_UnknownBarrel_InvalidWeather : PySem.W.kitOne K (.ref C_UnknownBarrel) (.ref C_InvalidWeather) = some false)
    (ko_UnknownBarrel_InvalidOperation : PySem.W.kitOne K (.ref C_UnknownBarrel) (.ref C_InvalidOperation) = some false)
    (ko_UnknownBarrel_InvalidText : PySem.W.kitOne K (.ref C_UnknownBarrel) (.ref C_InvalidText) = some false)
    (ko_UnknownBarrel_DaybookError : PySem.W.kitOne K (.ref C_UnknownBarrel) (.ref C_DaybookError) = some false)
    (ko_UnknownBarrel_DecodeError : PySem.W.kitOne K (.ref C_UnknownBarrel) (.ref C_DecodeError) = some false)
    (kv_UnknownBarrel : PySem.W.kitOne K (.ref C_UnknownBarrel) (.type "ValueError") = some true)
    (sr_UnknownBarrel : PySem.W.subIn K (.ref C_UnknownBarrel) (.ref C_RowError) = some true)
    (hg_InvalidNumber : PySem.W.findIn K (.ref C_InvalidNumber) "__getattribute__" = some (some (.builtin "BaseException.__getattribute__")))
    (hk_InvalidNumber : PySem.W.findIn K (.ref C_InvalidNumber) "__getattr__" = some none)
    (hd_InvalidNumber : PySem.W.hasDictIn K C_InvalidNumber = true)
    (ha_InvalidNumber : PySem.W.findIn K (.ref C_InvalidNumber) "__class__" = some (some (.builtin "object.__class__")))
    (hm_InvalidNumber : PySem.W.mroIn K C_InvalidNumber (.type "object") = some true)
    (no_InvalidNumber_part : PySem.W.findIn K (.ref C_InvalidNumber) "part" = some none)
    (no_InvalidNumber_index : PySem.W.findIn K (.ref C_InvalidNumber) "index" = some none)
    (no_InvalidNumber_name : PySem.W.findIn K (.ref C_InvalidNumber) "name" = some none)
    (no_InvalidNumber_line : PySem.W.findIn K (.ref C_InvalidNumber) "line" = some none)
    (no_InvalidNumber_offset : PySem.W.findIn K (.ref C_InvalidNumber) "offset" = some none)
    (ko_InvalidNumber_InvalidRow : PySem.W.kitOne K (.ref C_InvalidNumber) (.ref C_InvalidRow) = some false)
    (ko_InvalidNumber_UnknownBarrel : PySem.W.kitOne K (.ref C_InvalidNumber) (.ref C_UnknownBarrel) = some false)
    (ko_InvalidNumber_InvalidNumber : PySem.W.kitOne K (.ref C_InvalidNumber) (.ref C_InvalidNumber) = some true)
    (ko_InvalidNumber_InvalidWeather : PySem.W.kitOne K (.ref C_InvalidNumber) (.ref C_InvalidWeather) = some false)
    (ko_InvalidNumber_InvalidOperation : PySem.W.kitOne K (.ref C_InvalidNumber) (.ref C_InvalidOperation) = some false)
    (ko_InvalidNumber_InvalidText : PySem.W.kitOne K (.ref C_InvalidNumber) (.ref C_InvalidText) = some false)
    (ko_InvalidNumber_DaybookError : PySem.W.kitOne K (.ref C_InvalidNumber) (.ref C_DaybookError) = some false)
    (ko_InvalidNumber_DecodeError : PySem.W.kitOne K (.ref C_InvalidNumber) (.ref C_DecodeError) = some false)
    (kv_InvalidNumber : PySem.W.kitOne K (.ref C_InvalidNumber) (.type "ValueError") = some true)
    (sr_InvalidNumber : PySem.W.subIn K (.ref C_InvalidNumber) (.ref C_RowError) = some true)
    (hg_InvalidWeather : PySem.W.findIn K (.ref C_InvalidWeather) "__getattribute__" = some (some (.builtin "BaseException.__getattribute__")))
    (hk_InvalidWeather : PySem.W.findIn K (.ref C_InvalidWeather) "__getattr__" = some none)
    (bx_InvalidWeather : PySem.W.subIn K (.ref C_InvalidWeather) (.type "BaseException") = some true)
    (hd_InvalidWeather : PySem.W.hasDictIn K C_InvalidWeather = true)
    (ha_InvalidWeather : PySem.W.findIn K (.ref C_InvalidWeather) "__class__" = some (some (.builtin "object.__class__")))
    (hm_InvalidWeather : PySem.W.mroIn K C_InvalidWeather (.type "object") = some true)
    (no_InvalidWeather_part : PySem.W.findIn K (.ref C_InvalidWeather) "part" = some none)
    (no_InvalidWeather_index : PySem.W.findIn K (.ref C_InvalidWeather) "index" = some none)
    (no_InvalidWeather_name : PySem.W.findIn K (.ref C_InvalidWeather) "name" = some none)
    (no_InvalidWeather_line : PySem.W.findIn K (.ref C_InvalidWeather) "line" = some none)
    (no_InvalidWeather_offset : PySem.W.findIn K (.ref C_InvalidWeather) "offset" = some none)
    (ko_InvalidWeather_InvalidRow : PySem.W.kitOne K (.ref C_InvalidWeather) (.ref C_InvalidRow) = some false)
    (ko_InvalidWeather_UnknownBarrel : PySem.W.kitOne K (.ref C_InvalidWeather) (.ref C_UnknownBarrel) = some false)
    (ko_InvalidWeather_InvalidNumber : PySem.W.kitOne K (.ref C_InvalidWeather) (.ref C_InvalidNumber) = some false)
    (ko_InvalidWeather_InvalidWeather : PySem.W.kitOne K (.ref C_InvalidWeather) (.ref C_InvalidWeather) = some true)
    (ko_InvalidWeather_InvalidOperation : PySem.W.kitOne K (.ref C_InvalidWeather) (.ref C_InvalidOperation) = some false)
    (ko_InvalidWeather_InvalidText : PySem.W.kitOne K (.ref C_InvalidWeather) (.ref C_InvalidText) = some false)
    (ko_InvalidWeather_DaybookError : PySem.W.kitOne K (.ref C_InvalidWeather) (.ref C_DaybookError) = some false)
    (ko_InvalidWeather_DecodeError : PySem.W.kitOne K (.ref C_InvalidWeather) (.ref C_DecodeError) = some false)
    (kv_InvalidWeather : PySem.W.kitOne K (.ref C_InvalidWeather) (.type "ValueError") = some true)
    (sr_InvalidWeather : PySem.W.subIn K (.ref C_InvalidWeather) (.ref C_RowError) = some true)
    (hg_InvalidOperation : PySem.W.findIn K (.ref C_InvalidOperation) "__getattribute__" = some (some (.builtin "BaseException.__getattribute__")))
    (hk_InvalidOperation : PySem.W.findIn K (.ref C_InvalidOperation) "__getattr__" = some none)
    (bx_InvalidOperation : PySem.W.subIn K (.ref C_InvalidOperation) (.type "BaseException") = some true)
    (hd_InvalidOperation : PySem.W.hasDictIn K C_InvalidOperation = true)
    (ha_InvalidOperation : PySem.W.findIn K (.ref C_InvalidOperation) "__class__" = some (some (.builtin "object.__class__")))
    (hm_InvalidOperation : PySem.W.mroIn K C_InvalidOperation (.type "object") = some true)
    (no_InvalidOperation_part : PySem.W.findIn K (.ref C_InvalidOperation) "part" = some none)
    (no_InvalidOperation_index : PySem.W.findIn K (.ref C_InvalidOperation) "index" = some none)
    (no_InvalidOperation_name : PySem.W.findIn K (.ref C_InvalidOperation) "name" = some none)
    (no_InvalidOperation_line : PySem.W.findIn K (.ref C_InvalidOperation) "line" = some none)
    (no_InvalidOperation_offset : PySem.W.findIn K (.ref C_InvalidOperation) "offset" = some none)
    (ko_InvalidOperation_InvalidRow : PySem.W.kitOne K (.ref C_InvalidOperation) (.ref C_InvalidRow) = some false)
    (ko_InvalidOperation_UnknownBarrel : PySem.W.kitOne K (.ref C_InvalidOperation) (.ref C_UnknownBarrel) = some false)
    (ko_InvalidOperation_InvalidNumber : PySem.W.kitOne K (.ref C_InvalidOperation) (.ref C_InvalidNumber) = some false)
    (ko_InvalidOperation_InvalidWeather : PySem.W.kitOne K (.ref C_InvalidOperation) (.ref C_InvalidWeather) = some false)
    (ko_InvalidOperation_InvalidOperation : PySem.W.kitOne K (.ref C_InvalidOperation) (.ref C_InvalidOperation) = some true)
    (ko_InvalidOperation_InvalidText : PySem.W.kitOne K (.ref C_InvalidOperation) (.ref C_InvalidText) = some false)
    (ko_InvalidOperation_DaybookError : PySem.W.kitOne K (.ref C_InvalidOperation) (.ref C_DaybookError) = some false)
    (ko_InvalidOperation_DecodeError : PySem.W.kitOne K (.ref C_InvalidOperation) (.ref C_DecodeError) = some false)
    (kv_InvalidOperation : PySem.W.kitOne K (.ref C_InvalidOperation) (.type "ValueError") = some true)
    (sr_InvalidOperation : PySem.W.subIn K (.ref C_InvalidOperation) (.ref C_RowError) = some true)
    (hg_InvalidText : PySem.W.findIn K (.ref C_InvalidText) "__getattribute__" = some (some (.builtin "BaseException.__getattribute__")))
    (hk_InvalidText : PySem.W.findIn K (.ref C_InvalidText) "__getattr__" = some none)
    (bx_InvalidText : PySem.W.subIn K (.ref C_InvalidText) (.type "BaseException") = some true)
    (hd_InvalidText : PySem.W.hasDictIn K C_InvalidText = true)
    (ha_InvalidText : PySem.W.findIn K (.ref C_InvalidText) "__class__" = some (some (.builtin "object.__class__")))
    (hm_InvalidText : PySem.W.mroIn K C_InvalidText (.type "object") = some true)
    (no_InvalidText_part : PySem.W.findIn K (.ref C_InvalidText) "part" = some none)
    (no_InvalidText_index : PySem.W.findIn K (.ref C_InvalidText) "index" = some none)
    (no_InvalidText_name : PySem.W.findIn K (.ref C_InvalidText) "name" = some none)
    (no_InvalidText_line : PySem.W.findIn K (.ref C_InvalidText) "line" = some none)
    (no_InvalidText_offset : PySem.W.findIn K (.ref C_InvalidText) "offset" = some none)
    (ko_InvalidText_InvalidRow : PySem.W.kitOne K (.ref C_InvalidText) (.ref C_InvalidRow) = some false)
    (ko_InvalidText_UnknownBarrel : PySem.W.kitOne K (.ref C_InvalidText) (.ref C_UnknownBarrel) = some false)
    (ko_InvalidText_InvalidNumber : PySem.W.kitOne K (.ref C_InvalidText) (.ref C_InvalidNumber) = some false)
    (ko_InvalidText_InvalidWeather : PySem.W.kitOne K (.ref C_InvalidText) (.ref C_InvalidWeather) = some false)
    (ko_InvalidText_InvalidOperation : PySem.W.kitOne K (.ref C_InvalidText) (.ref C_InvalidOperation) = some false)
    (ko_InvalidText_InvalidText : PySem.W.kitOne K (.ref C_InvalidText) (.ref C_InvalidText) = some true)
    (ko_InvalidText_DaybookError : PySem.W.kitOne K (.ref C_InvalidText) (.ref C_DaybookError) = some false)
    (ko_InvalidText_DecodeError : PySem.W.kitOne K (.ref C_InvalidText) (.ref C_DecodeError) = some false)
    (kv_InvalidText : PySem.W.kitOne K (.ref C_InvalidText) (.type "ValueError") = some true)
    (sr_InvalidText : PySem.W.subIn K (.ref C_InvalidText) (.ref C_RowError) = some true)
    (hg_DaybookError : PySem.W.findIn K (.ref C_DaybookError) "__getattribute__" = some (some (.builtin "BaseException.__getattribute__")))
    (hk_DaybookError : PySem.W.findIn K (.ref C_DaybookError) "__getattr__" = some none)
    (bx_DaybookError : PySem.W.subIn K (.ref C_DaybookError) (.type "BaseException") = some true)
    (hd_DaybookError : PySem.W.hasDictIn K C_DaybookError = true)
    (ha_DaybookError : PySem.W.findIn K (.ref C_DaybookError) "__class__" = some (some (.builtin "object.__class__")))
    (hm_DaybookError : PySem.W.mroIn K C_DaybookError (.type "object") = some true)
    (no_DaybookError_part : PySem.W.findIn K (.ref C_DaybookError) "part" = some none)
    (no_DaybookError_index : PySem.W.findIn K (.ref C_DaybookError) "index" = some none)
    (no_DaybookError_name : PySem.W.findIn K (.ref C_DaybookError) "name" = some none)
    (no_DaybookError_line : PySem.W.findIn K (.ref C_DaybookError) "line" = some none)
    (no_DaybookError_offset : PySem.W.findIn K (.ref C_DaybookError) "offset" = some none)
    (ko_DaybookError_InvalidRow : PySem.W.kitOne K (.ref C_DaybookError) (.ref C_InvalidRow) = some false)
    (ko_DaybookError_UnknownBarrel : PySem.W.kitOne K (.ref C_DaybookError) (.ref C_UnknownBarrel) = some false)
    (ko_DaybookError_InvalidNumber : PySem.W.kitOne K (.ref C_DaybookError) (.ref C_InvalidNumber) = some false)
    (ko_DaybookError_InvalidWeather : PySem.W.kitOne K (.ref C_DaybookError) (.ref C_InvalidWeather) = some false)
    (ko_DaybookError_InvalidOperation : PySem.W.kitOne K (.ref C_DaybookError) (.ref C_InvalidOperation) = some false)
    (ko_DaybookError_InvalidText : PySem.W.kitOne K (.ref C_DaybookError) (.ref C_InvalidText) = some false)
    (ko_DaybookError_DaybookError : PySem.W.kitOne K (.ref C_DaybookError) (.ref C_DaybookError) = some true)
    (ko_DaybookError_DecodeError : PySem.W.kitOne K (.ref C_DaybookError) (.ref C_DecodeError) = some false)
    (kv_DaybookError : PySem.W.kitOne K (.ref C_DaybookError) (.type "ValueError") = some true)
    (sr_DaybookError : PySem.W.subIn K (.ref C_DaybookError) (.ref C_RowError) = some true)
    (hg_DecodeError : PySem.W.findIn K (.ref C_DecodeError) "__getattribute__" = some (some (.builtin "BaseException.__getattribute__")))
    (hk_DecodeError : PySem.W.findIn K (.ref C_DecodeError) "__getattr__" = some none)
    (bx_DecodeError : PySem.W.subIn K (.ref C_DecodeError) (.type "BaseException") = some true)
    (hd_DecodeError : PySem.W.hasDictIn K C_DecodeError = true)
    (ha_DecodeError : PySem.W.findIn K (.ref C_DecodeError) "__class__" = some (some (.builtin "object.__class__")))
    (hm_DecodeError : PySem.W.mroIn K C_DecodeError (.type "object") = some true)
    (no_DecodeError_part : PySem.W.findIn K (.ref C_DecodeError) "part" = some none)
    (no_DecodeError_index : PySem.W.findIn K (.ref C_DecodeError) "index" = some none)
    (no_DecodeError_name : PySem.W.findIn K (.ref C_DecodeError) "name" = some none)
    (no_DecodeError_line : PySem.W.findIn K (.ref C_DecodeError) "line" = some none)
    (no_DecodeError_offset : PySem.W.findIn K (.ref C_DecodeError) "offset" = some none)
    (ko_DecodeError_InvalidRow : PySem.W.kitOne K (.ref C_DecodeError) (.ref C_InvalidRow) = some false)
    (ko_DecodeError_UnknownBarrel : PySem.W.kitOne K (.ref C_DecodeError) (.ref C_UnknownBarrel) = some false)
    (ko_DecodeError_InvalidNumber : PySem.W.kitOne K (.ref C_DecodeError) (.ref C_InvalidNumber) = some false)
    (ko_DecodeError_InvalidWeather : PySem.W.kitOne K (.ref C_DecodeError) (.ref C_InvalidWeather) = some false)
    (ko_DecodeError_InvalidOperation : PySem.W.kitOne K (.ref C_DecodeError) (.ref C_InvalidOperation) = some false)
    (ko_DecodeError_InvalidText : PySem.W.kitOne K (.ref C_DecodeError) (.ref C_InvalidText) = some false)
    (ko_DecodeError_DaybookError : PySem.W.kitOne K (.ref C_DecodeError) (.ref C_DaybookError) = some false)
    (ko_DecodeError_DecodeError : PySem.W.kitOne K (.ref C_DecodeError) (.ref C_DecodeError) = some true)
    (kv_DecodeError : PySem.W.kitOne K (.ref C_DecodeError) (.type "ValueError") = some true)
    (sr_DecodeError : PySem.W.subIn K (.ref C_DecodeError) (.ref C_RowError) = some true)
    (c_law_due : PySem.W.codeIn K cd_law_due "_law_due" = true)
    (k_law_due : PySem.W.keepIn K (.ref f_law_due) = true)
    (ga_Weather : PySem.W.specialIn K (.ref C_Weather) "__getattribute__" = some (some (.builtin "type.__getattribute__")))
    (cv_KIND : PySem.W.findCls K (.ref C_Weather) (.type "type") "KIND" = some (.val (.str "dry" tc_KIND)))
    (c_x_InvalidWeather : PySem.W.codeIn K cd_x_InvalidWeather "InvalidWeather.__init__" = true)
    (k_x_InvalidWeather : PySem.W.keepIn K (.ref f_x_InvalidWeather) = true)
    (rd_RowError : PySem.W.readsIn K C_RowError (.type "type") = true)
    (ga_RowError : PySem.W.specialIn K (.ref C_RowError) "__getattribute__" = some (some (.builtin "type.__getattribute__")))
    (iv_RowError : PySem.W.findCls K (.ref C_RowError) (.type "type") "__init__" = some (.val (.builtin "ValueError.__init__")))
    (rV_x_InvalidWeather : PySem.HandSPX.refsVE bm_x_InvalidWeather = true)
    (sa_InvalidWeather : PySem.W.findIn K (.ref C_InvalidWeather) "__setattr__" = some (some (.builtin "object.__setattr__")))
    (tx_InvalidWeather : PySem.W.typeIn K (.ref C_InvalidWeather) = some (.type "type"))
    (kc_InvalidWeather : PySem.W.keepIn K (.ref C_InvalidWeather) = true)
    (ti_InvalidWeather : PySem.W.typeIn K (.ref f_x_InvalidWeather) = some (.type "function")) : ∀ base : Heap, Fx ⟨P, w, K, mg, base⟩ := fun base => by
  constructor
  · exact PySem.W.mg_none_of X G z_list
  · exact ⟨_, _, PySem.W.mg_of X G a_law_mix, (fun_mk (st := s_law_mix) l_law_mix c_law_mix k_law_mix), ((fun_mk (st := s_law_mix) l_law_mix c_law_mix k_law_mix).binds (ps := ["_law_script", "_law_seed"]) fun _ _ _ _ _ _ us hl => match us, hl with | [_, _], _ => rfl)⟩
  · exact PySem.W.mg_none_of X G z_range
  · exact PySem.W.mg_none_of X G z_len
  · exact PySem.W.mg_none_of X G z_max
  · exact ⟨_, _, PySem.W.mg_of X G a_law_next, (fun_mk (st := s_law_next) l_law_next c_law_next k_law_next), ((fun_mk (st := s_law_next) l_law_next c_law_next k_law_next).binds (ps := ["_law_h", "_law_limit"]) fun _ _ _ _ _ _ us hl => match us, hl with | [_, _], _ => rfl)⟩
  · exact PySem.W.mg_none_of X G z_int
  · exact ⟨_, _, PySem.W.mg_of X G a_law_spec, (fun_mk (st := s_law_spec) l_law_spec c_law_spec k_law_spec), ((fun_mk (st := s_law_spec) l_law_spec c_law_spec k_law_spec).binds (ps := ["_law_h"]) fun _ _ _ _ _ _ us hl => match us, hl with | [_], _ => rfl)⟩
  · exact ⟨_, (PySem.W.mg_of X G a_Weather), mk_Weather, io_Weather, kc_Weather⟩
  · exact ⟨_, PySem.W.mg_of X G v_MAX_RAIN⟩
  · exact ⟨_, _, PySem.W.mg_of X G a_validate_part, (fun_mk (st := s_validate_part) l_validate_part c_validate_part k_validate_part), ((fun_mk (st := s_validate_part) l_validate_part c_validate_part k_validate_part).binds (ps := ["part", "number", "smallest", "largest"]) fun _ _ _ _ _ _ us hl => match us, hl with | [_, _, _, _], _ => rfl)⟩
  · exact ⟨by decide, (fun Ca hC => by cases (PySem.W.mg_of X G a_SteadyWeather).symm.trans hC; exact ⟨⟨pg_SteadyWeather, hd_SteadyWeather, po_SteadyWeather, sa_SteadyWeather⟩, no_SteadyWeather_amount⟩)⟩
  · exact ⟨by decide, (fun Ca hC => by cases (PySem.W.mg_of X G a_SpellWeather).symm.trans hC; exact ⟨⟨pg_SpellWeather, hd_SpellWeather, po_SpellWeather, sa_SpellWeather⟩, no_SpellWeather_amount⟩)⟩
  · exact ⟨by decide, (fun Ca hC => by cases (PySem.W.mg_of X G a_StormWeather).symm.trans hC; exact ⟨⟨pg_StormWeather, hd_StormWeather, po_StormWeather, sa_StormWeather⟩, no_StormWeather_amount⟩)⟩
  · exact ⟨_, _, _, (PySem.W.mg_of X G a_SteadyWeather), ⟨mk_SteadyWeather, ii_SteadyWeather, if_SteadyWeather, kc_SteadyWeather⟩, (fun_mk (st := s_SteadyWeather_init) l_SteadyWeather_init c_SteadyWeather_init k_SteadyWeather_init), ((fun_mk (st := s_SteadyWeather_init) l_SteadyWeather_init c_SteadyWeather_init k_SteadyWeather_init).binds (ps := ["self", "amount"]) fun _ _ _ _ _ _ us hl => match us, hl with | [_, _], _ => rfl)⟩
  · exact ⟨_, PySem.W.mg_of X G v_MAX_TICKS⟩
  · exact ⟨by decide, (fun Ca hC => by cases (PySem.W.mg_of X G a_SpellWeather).symm.trans hC; exact ⟨⟨pg_SpellWeather, hd_SpellWeather, po_SpellWeather, sa_SpellWeather⟩, no_SpellWeather_wet⟩)⟩
  · exact ⟨by decide, (fun Ca hC => by cases (PySem.W.mg_of X G a_SpellWeather).symm.trans hC; exact ⟨⟨pg_SpellWeather, hd_SpellWeather, po_SpellWeather, sa_SpellWeather⟩, no_SpellWeather_dry⟩)⟩
  · exact ⟨_, _, _, _, _, _, (PySem.W.mg_of X G a_SpellWeather), ⟨mk_SpellWeather, ii_SpellWeather, if_SpellWeather, kc_SpellWeather⟩, ⟨k_SpellWeather_init, ⟨_, _, _, _, _, _, _, _, l_SpellWeather_init⟩, c_SpellWeather_init, ⟨_, _, _, _, _, _, lc_SpellWeather_init, fv_SpellWeather_init, fq_SpellWeather_init⟩, ⟨_, _, _, le_SpellWeather_init⟩, ci_SpellWeather, mr_SpellWeather, sp_SpellWeather, ti_SteadyWeather_init, fi2_SteadyWeather_init, any_, PySem.W.mg_none_of X G z_super, fq_top⟩, (PySem.W.mg_of X G a_SteadyWeather), ii_SteadyWeather⟩
  · exact ⟨by decide, (fun Ca hC => by cases (PySem.W.mg_of X G a_StormWeather).symm.trans hC; exact ⟨⟨pg_StormWeather, hd_StormWeather, po_StormWeather, sa_StormWeather⟩, no_StormWeather_first⟩)⟩
  · exact ⟨by decide, (fun Ca hC => by cases (PySem.W.mg_of X G a_StormWeather).symm.trans hC; exact ⟨⟨pg_StormWeather, hd_StormWeather, po_StormWeather, sa_StormWeather⟩, no_StormWeather_every⟩)⟩
  · exact ⟨_, _, _, _, _, _, (PySem.W.mg_of X G a_StormWeather), ⟨mk_StormWeather, ii_StormWeather, if_StormWeather, kc_StormWeather⟩, ⟨k_StormWeather_init, ⟨_, _, _, _, _, _, _, _, l_StormWeather_init⟩, c_StormWeather_init, ⟨_, _, _, _, _, _, lc_StormWeather_init, fv_StormWeather_init, fq_StormWeather_init⟩, ⟨_, _, _, le_StormWeather_init⟩, ci_StormWeather, mr_StormWeather, sp_StormWeather, ti_SteadyWeather_init, fi2_SteadyWeather_init, any_, PySem.W.mg_none_of X G z_super, fq_top⟩, (PySem.W.mg_of X G a_SteadyWeather), ii_SteadyWeather⟩
  · exact ⟨_, _, PySem.W.mg_of X G a_law_weather, (fun_mk (st := s_law_weather) l_law_weather c_law_weather k_law_weather), ((fun_mk (st := s_law_weather) l_law_weather c_law_weather k_law_weather).binds (ps := ["_law_spec_here"]) fun _ _ _ _ _ _ us hl => match us, hl with | [_], _ => rfl)⟩
  · exact ⟨by decide, (fun Ca hC => by cases (PySem.W.mg_of X G a_SumWeather).symm.trans hC; exact ⟨⟨pg_SumWeather, hd_SumWeather, po_SumWeather, sa_SumWeather⟩, no_SumWeather_one⟩)⟩
  · exact ⟨by decide, (fun Ca hC => by cases (PySem.W.mg_of X G a_SumWeather).symm.trans hC; exact ⟨⟨pg_SumWeather, hd_SumWeather, po_SumWeather, sa_SumWeather⟩, no_SumWeather_other⟩)⟩
  · exact ⟨_, _, _, (PySem.W.mg_of X G a_SumWeather), ⟨mk_SumWeather, ii_SumWeather, if_SumWeather, kc_SumWeather⟩, (fun_mk (st := s_SumWeather_init) l_SumWeather_init c_SumWeather_init k_SumWeather_init), ((fun_mk (st := s_SumWeather_init) l_SumWeather_init c_SumWeather_init k_SumWeather_init).binds (ps := ["self", "one", "other"]) fun _ _ _ _ _ _ us hl => match us, hl with | [_, _, _], _ => rfl)⟩
  · refine ⟨_, _, i_Weather_add, tyr_, fun C hm Ca hC => ?_, fun C hm C2 hm2 Ca Ca2 hC hC2 => ?_, (fun_mk (st := s_Weather_add) l_Weather_add c_Weather_add k_Weather_add), ((fun_mk (st := s_Weather_add) l_Weather_add c_Weather_add k_Weather_add).binds (ps := ["self", "other"]) fun _ _ _ _ _ _ us hl => match us, hl with | [_, _], _ => rfl)⟩
    · rcases List.mem_cons.mp hm with e | hm
      · cases e; cases (PySem.W.mg_of X G a_Weather).symm.trans hC; exact ⟨sf_Weather, at_Weather__Weather_add, rr_Weather__Weather_add, rd_Weather, missB_of ck_Weather ms_Weather⟩
      rcases List.mem_cons.mp hm with e | hm
      · cases e; cases (PySem.W.mg_of X G a_SteadyWeather).symm.trans hC; exact ⟨sf_SteadyWeather, at_SteadyWeather__Weather_add, rr_SteadyWeather__Weather_add, rd_SteadyWeather, missB_of ck_SteadyWeather ms_SteadyWeather⟩
      rcases List.mem_cons.mp hm with e | hm
      · cases e; cases (PySem.W.mg_of X G a_SpellWeather).symm.trans hC; exact ⟨sf_SpellWeather, at_SpellWeather__Weather_add, rr_SpellWeather__Weather_add, rd_SpellWeather, missB_of ck_SpellWeather ms_SpellWeather⟩
      rcases List.mem_cons.mp hm with e | hm
      · cases e; cases (PySem.W.mg_of X G a_StormWeather).symm.trans hC; exact ⟨sf_StormWeather, at_StormWeather__Weather_add, rr_StormWeather__Weather_add, rd_StormWeather, missB_of ck_StormWeather ms_StormWeather⟩
      cases hm
    · rcases List.mem_cons.mp hm with e | hm
      · cases e
        rcases List.mem_cons.mp hm2 with e | hm2
        · cases e; cases (PySem.W.mg_of X G a_Weather).symm.trans hC; cases (PySem.W.mg_of X G a_Weather).symm.trans hC2; rw [sb_Weather_Weather]; rfl
        rcases List.mem_cons.mp hm2 with e | hm2
        · cases e; cases (PySem.W.mg_of X G a_Weather).symm.trans hC; cases (PySem.W.mg_of X G a_SteadyWeather).symm.trans hC2; rw [sb_SteadyWeather_Weather]; rfl
        rcases List.mem_cons.mp hm2 with e | hm2
        · cases e; cases (PySem.W.mg_of X G a_Weather).symm.trans hC; cases (PySem.W.mg_of X G a_SpellWeather).symm.trans hC2; rw [sb_SpellWeather_Weather]; rfl
        rcases List.mem_cons.mp hm2 with e | hm2
        · cases e; cases (PySem.W.mg_of X G a_Weather).symm.trans hC; cases (PySem.W.mg_of X G a_StormWeather).symm.trans hC2; rw [sb_StormWeather_Weather]; rfl
        cases hm2
      rcases List.mem_cons.mp hm with e | hm
      · cases e
        rcases List.mem_cons.mp hm2 with e | hm2
        · cases e; cases (PySem.W.mg_of X G a_SteadyWeather).symm.trans hC; cases (PySem.W.mg_of X G a_Weather).symm.trans hC2; rw [sb_Weather_SteadyWeather]; rfl
        rcases List.mem_cons.mp hm2 with e | hm2
        · cases e; cases (PySem.W.mg_of X G a_SteadyWeather).symm.trans hC; cases (PySem.W.mg_of X G a_SteadyWeather).symm.trans hC2; rw [sb_SteadyWeather_SteadyWeather]; rfl
        rcases List.mem_cons.mp hm2 with e | hm2
        · cases e; cases (PySem.W.mg_of X G a_SteadyWeather).symm.trans hC; cases (PySem.W.mg_of X G a_SpellWeather).symm.trans hC2; rw [sb_SpellWeather_SteadyWeather]; rfl
        rcases List.mem_cons.mp hm2 with e | hm2
        · cases e; cases (PySem.W.mg_of X G a_SteadyWeather).symm.trans hC; cases (PySem.W.mg_of X G a_StormWeather).symm.trans hC2; rw [sb_StormWeather_SteadyWeather]; rfl
        cases hm2
      rcases List.mem_cons.mp hm with e | hm
      · cases e
        rcases List.mem_cons.mp hm2 with e | hm2
        · cases e; cases (PySem.W.mg_of X G a_SpellWeather).symm.trans hC; cases (PySem.W.mg_of X G a_Weather).symm.trans hC2; rw [sb_Weather_SpellWeather]; rfl
        rcases List.mem_cons.mp hm2 with e | hm2
        · cases e; cases (PySem.W.mg_of X G a_SpellWeather).symm.trans hC; cases (PySem.W.mg_of X G a_SteadyWeather).symm.trans hC2; rw [sb_SteadyWeather_SpellWeather]; rfl
        rcases List.mem_cons.mp hm2 with e | hm2
        · cases e; cases (PySem.W.mg_of X G a_SpellWeather).symm.trans hC; cases (PySem.W.mg_of X G a_SpellWeather).symm.trans hC2; rw [sb_SpellWeather_SpellWeather]; rfl
        rcases List.mem_cons.mp hm2 with e | hm2
        · cases e; cases (PySem.W.mg_of X G a_SpellWeather).symm.trans hC; cases (PySem.W.mg_of X G a_StormWeather).symm.trans hC2; rw [sb_StormWeather_SpellWeather]; rfl
        cases hm2
      rcases List.mem_cons.mp hm with e | hm
      · cases e
        rcases List.mem_cons.mp hm2 with e | hm2
        · cases e; cases (PySem.W.mg_of X G a_StormWeather).symm.trans hC; cases (PySem.W.mg_of X G a_Weather).symm.trans hC2; rw [sb_Weather_StormWeather]; rfl
        rcases List.mem_cons.mp hm2 with e | hm2
        · cases e; cases (PySem.W.mg_of X G a_StormWeather).symm.trans hC; cases (PySem.W.mg_of X G a_SteadyWeather).symm.trans hC2; rw [sb_SteadyWeather_StormWeather]; rfl
        rcases List.mem_cons.mp hm2 with e | hm2
        · cases e; cases (PySem.W.mg_of X G a_StormWeather).symm.trans hC; cases (PySem.W.mg_of X G a_SpellWeather).symm.trans hC2; rw [sb_SpellWeather_StormWeather]; rfl
        rcases List.mem_cons.mp hm2 with e | hm2
        · cases e; cases (PySem.W.mg_of X G a_StormWeather).symm.trans hC; cases (PySem.W.mg_of X G a_StormWeather).symm.trans hC2; rw [sb_StormWeather_StormWeather]; rfl
        cases hm2
      cases hm
  · exact ⟨_, _, PySem.W.mg_of X G a_law_fall, (fun_mk (st := s_law_fall) l_law_fall c_law_fall k_law_fall), ((fun_mk (st := s_law_fall) l_law_fall c_law_fall k_law_fall).binds (ps := ["_law_spec_here", "_law_tick"]) fun _ _ _ _ _ _ us hl => match us, hl with | [_, _], _ => rfl)⟩
  · exact ⟨_, PySem.W.mg_of X G v_MAX_TICK⟩
  · exact ⟨_, (PySem.W.mg_of X G a_InvalidNumber), ⟨⟨_, _, _, _, _, _, _, _, _, _, _, _, _, _, _, xL_x_InvalidNumber, rV_x_InvalidNumber⟩, sa_InvalidNumber, bx_InvalidNumber, tx_InvalidNumber, kc_InvalidNumber⟩, ib_InvalidNumber⟩
  · exact ⟨_, _, PySem.W.mg_of X G a_validate_number, (fun_mk (st := s_validate_number) l_validate_number c_validate_number k_validate_number), ((fun_mk (st := s_validate_number) l_validate_number c_validate_number k_validate_number).binds (ps := ["number", "smallest", "largest"]) fun _ _ _ _ _ _ us hl => match us, hl with | [_, _, _], _ => rfl)⟩
  · exact ⟨_, _, (fun Ca hC => by cases (PySem.W.mg_of X G a_Weather).symm.trans hC; exact ⟨⟨pg_Weather, hd_Weather, po_Weather, sa_Weather⟩, ⟨at_Weather_amount_in, i_Weather_amount_in, k_Weather_amount_in⟩⟩), (fun_mk (st := s_Weather_amount_in) l_Weather_amount_in c_Weather_amount_in k_Weather_amount_in), ((fun_mk (st := s_Weather_amount_in) l_Weather_amount_in c_Weather_amount_in k_Weather_amount_in).binds (ps := ["self", "tick"]) fun _ _ _ _ _ _ us hl => match us, hl with | [_, _], _ => rfl)⟩
  · exact ⟨_, (PySem.W.mg_of X G a_Weather)⟩
  · exact ⟨_, _, (fun Ca hC => by cases (PySem.W.mg_of X G a_SteadyWeather).symm.trans hC; exact ⟨⟨pg_SteadyWeather, hd_SteadyWeather, po_SteadyWeather, sa_SteadyWeather⟩, ⟨at_SteadyWeather_amount_in, i_SteadyWeather_amount_in, k_SteadyWeather_amount_in⟩⟩), (fun_mk (st := s_SteadyWeather_amount_in) l_SteadyWeather_amount_in c_SteadyWeather_amount_in k_SteadyWeather_amount_in), ((fun_mk (st := s_SteadyWeather_amount_in) l_SteadyWeather_amount_in c_SteadyWeather_amount_in k_SteadyWeather_amount_in).binds (ps := ["self", "tick"]) fun _ _ _ _ _ _ us hl => match us, hl with | [_, _], _ => rfl)⟩
  · exact ⟨_, (PySem.W.mg_of X G a_SteadyWeather)⟩
  · exact ⟨_, _, (fun Ca hC => by cases (PySem.W.mg_of X G a_SpellWeather).symm.trans hC; exact ⟨⟨pg_SpellWeather, hd_SpellWeather, po_SpellWeather, sa_SpellWeather⟩, ⟨at_SpellWeather_amount_in, i_SpellWeather_amount_in, k_SpellWeather_amount_in⟩⟩), (fun_mk (st := s_SpellWeather_amount_in) l_SpellWeather_amount_in c_SpellWeather_amount_in k_SpellWeather_amount_in), ((fun_mk (st := s_SpellWeather_amount_in) l_SpellWeather_amount_in c_SpellWeather_amount_in k_SpellWeather_amount_in).binds (ps := ["self", "tick"]) fun _ _ _ _ _ _ us hl => match us, hl with | [_, _], _ => rfl)⟩
  · exact ⟨_, (PySem.W.mg_of X G a_SpellWeather)⟩
  · exact ⟨_, _, (fun Ca hC => by cases (PySem.W.mg_of X G a_StormWeather).symm.trans hC; exact ⟨⟨pg_StormWeather, hd_StormWeather, po_StormWeather, sa_StormWeather⟩, ⟨at_StormWeather_amount_in, i_StormWeather_amount_in, k_StormWeather_amount_in⟩⟩), (fun_mk (st := s_StormWeather_amount_in) l_StormWeather_amount_in c_StormWeather_amount_in k_StormWeather_amount_in), ((fun_mk (st := s_StormWeather_amount_in) l_StormWeather_amount_in c_StormWeather_amount_in k_StormWeather_amount_in).binds (ps := ["self", "tick"]) fun _ _ _ _ _ _ us hl => match us, hl with | [_, _], _ => rfl)⟩
  · exact ⟨_, (PySem.W.mg_of X G a_StormWeather)⟩
  · exact ⟨_, _, (fun Ca hC => by cases (PySem.W.mg_of X G a_SumWeather).symm.trans hC; exact ⟨⟨pg_SumWeather, hd_SumWeather, po_SumWeather, sa_SumWeather⟩, ⟨at_SumWeather_amount_in, i_SumWeather_amount_in, k_SumWeather_amount_in⟩⟩), (fun_mk (st := s_SumWeather_amount_in) l_SumWeather_amount_in c_SumWeather_amount_in k_SumWeather_amount_in), ((fun_mk (st := s_SumWeather_amount_in) l_SumWeather_amount_in c_SumWeather_amount_in k_SumWeather_amount_in).binds (ps := ["self", "tick"]) fun _ _ _ _ _ _ us hl => match us, hl with | [_, _], _ => rfl)⟩
  · exact ⟨_, (PySem.W.mg_of X G a_SumWeather)⟩
  · exact ⟨_, _, (fun Ca hC => by cases (PySem.W.mg_of X G a_Weather).symm.trans hC; exact ⟨⟨pg_Weather, hd_Weather, po_Weather, sa_Weather⟩, ⟨at_Weather_fall_in, i_Weather_fall_in, k_Weather_fall_in⟩⟩), (fun_mk (st := s_Weather_fall_in) l_Weather_fall_in c_Weather_fall_in k_Weather_fall_in), ((fun_mk (st := s_Weather_fall_in) l_Weather_fall_in c_Weather_fall_in k_Weather_fall_in).binds (ps := ["self", "tick"]) fun _ _ _ _ _ _ us hl => match us, hl with | [_, _], _ => rfl)⟩
  · exact ⟨_, _, (fun Ca hC => by cases (PySem.W.mg_of X G a_SumWeather).symm.trans hC; exact ⟨⟨pg_SumWeather, hd_SumWeather, po_SumWeather, sa_SumWeather⟩, ⟨at_SumWeather__Weather_fall_in, i_Weather_fall_in, k_Weather_fall_in⟩⟩), (fun_mk (st := s_Weather_fall_in) l_Weather_fall_in c_Weather_fall_in k_Weather_fall_in), ((fun_mk (st := s_Weather_fall_in) l_Weather_fall_in c_Weather_fall_in k_Weather_fall_in).binds (ps := ["self", "tick"]) fun _ _ _ _ _ _ us hl => match us, hl with | [_, _], _ => rfl)⟩
  · exact ⟨_, _, (fun Ca hC => by cases (PySem.W.mg_of X G a_SteadyWeather).symm.trans hC; exact ⟨⟨pg_SteadyWeather, hd_SteadyWeather, po_SteadyWeather, sa_SteadyWeather⟩, ⟨at_SteadyWeather__Weather_fall_in, i_Weather_fall_in, k_Weather_fall_in⟩⟩), (fun_mk (st := s_Weather_fall_in) l_Weather_fall_in c_Weather_fall_in k_Weather_fall_in), ((fun_mk (st := s_Weather_fall_in) l_Weather_fall_in c_Weather_fall_in k_Weather_fall_in).binds (ps := ["self", "tick"]) fun _ _ _ _ _ _ us hl => match us, hl with | [_, _], _ => rfl)⟩
  · exact ⟨_, _, (fun Ca hC => by cases (PySem.W.mg_of X G a_SpellWeather).symm.trans hC; exact ⟨⟨pg_SpellWeather, hd_SpellWeather, po_SpellWeather, sa_SpellWeather⟩, ⟨at_SpellWeather__Weather_fall_in, i_Weather_fall_in, k_Weather_fall_in⟩⟩), (fun_mk (st := s_Weather_fall_in) l_Weather_fall_in c_Weather_fall_in k_Weather_fall_in), ((fun_mk (st := s_Weather_fall_in) l_Weather_fall_in c_Weather_fall_in k_Weather_fall_in).binds (ps := ["self", "tick"]) fun _ _ _ _ _ _ us hl => match us, hl with | [_, _], _ => rfl)⟩
  · exact ⟨_, _, (fun Ca hC => by cases (PySem.W.mg_of X G a_StormWeather).symm.trans hC; exact ⟨⟨pg_StormWeather, hd_StormWeather, po_StormWeather, sa_StormWeather⟩, ⟨at_StormWeather__Weather_fall_in, i_Weather_fall_in, k_Weather_fall_in⟩⟩), (fun_mk (st := s_Weather_fall_in) l_Weather_fall_in c_Weather_fall_in k_Weather_fall_in), ((fun_mk (st := s_Weather_fall_in) l_Weather_fall_in c_Weather_fall_in k_Weather_fall_in).binds (ps := ["self", "tick"]) fun _ _ _ _ _ _ us hl => match us, hl with | [_, _], _ => rfl)⟩
  · exact PySem.W.mg_none_of X G z_isinstance
  · exact PySem.W.mg_none_of X G z_dict
  · exact PySem.W.mg_none_of X G z_tuple
  · exact PySem.W.mg_none_of X G z_str
  · exact PySem.W.mg_none_of X G z_bool
  · exact ⟨_, _, PySem.W.mg_of X G a_law_alike, (fun_mk (st := s_law_alike) l_law_alike c_law_alike k_law_alike), ((fun_mk (st := s_law_alike) l_law_alike c_law_alike k_law_alike).binds (ps := ["_law_found", "_law_due_here"]) fun _ _ _ _ _ _ us hl => match us, hl with | [_, _], _ => rfl)⟩
  · exact ⟨_, (PySem.W.mg_of X G a_Weather), kt_Weather, fun C' b hm => by
    (rcases List.mem_cons.mp hm with e | hm; · (cases e; intro Ca' hC'; cases (PySem.W.mg_of X G a_SumWeather).symm.trans hC'; exact ⟨⟨⟨pg_SumWeather, hd_SumWeather, po_SumWeather, sa_SumWeather⟩, ha_SumWeather, oc_get, oc_tak, hm_SumWeather⟩, ko_SumWeather_Weather⟩))
    cases hm⟩
  · exact ⟨by decide +kernel, (fun Ca hC => by cases (PySem.W.mg_of X G a_StormWeather).symm.trans hC; exact ⟨⟨pg_StormWeather, hd_StormWeather, po_StormWeather, sa_StormWeather⟩, _, at_StormWeather_KIND, ⟨_, rfl⟩, sg_StormWeather_KIND, by decide +kernel⟩)⟩
  · exact ⟨by decide +kernel, (fun Ca hC => by cases (PySem.W.mg_of X G a_SpellWeather).symm.trans hC; exact ⟨⟨pg_SpellWeather, hd_SpellWeather, po_SpellWeather, sa_SpellWeather⟩, _, at_SpellWeather_KIND, ⟨_, rfl⟩, sg_SpellWeather_KIND, by decide +kernel⟩)⟩
  · exact ⟨by decide +kernel, (fun Ca hC => by cases (PySem.W.mg_of X G a_SteadyWeather).symm.trans hC; exact ⟨⟨pg_SteadyWeather, hd_SteadyWeather, po_SteadyWeather, sa_SteadyWeather⟩, _, at_SteadyWeather_KIND, ⟨_, rfl⟩, sg_SteadyWeather_KIND, by decide +kernel⟩)⟩
  · exact ⟨by decide +kernel, (fun Ca hC => by cases (PySem.W.mg_of X G a_SumWeather).symm.trans hC; exact ⟨⟨pg_SumWeather, hd_SumWeather, po_SumWeather, sa_SumWeather⟩, _, at_SumWeather_KIND, ⟨_, rfl⟩, sg_SumWeather_KIND, by decide +kernel⟩)⟩
  · exact ⟨by decide +kernel, (fun Ca hC => by cases (PySem.W.mg_of X G a_Weather).symm.trans hC; exact ⟨⟨pg_Weather, hd_Weather, po_Weather, sa_Weather⟩, _, at_Weather_KIND, ⟨_, rfl⟩, sg_Weather_KIND, by decide +kernel⟩)⟩
  · exact ⟨_, (PySem.W.mg_of X G a_InvalidNumber)⟩
  · exact ⟨_, (PySem.W.mg_of X G a_DecodeError)⟩
  · exact ⟨_, (PySem.W.mg_of X G a_DaybookError)⟩
  · exact ⟨_, (PySem.W.mg_of X G a_InvalidText)⟩
  · exact ⟨_, (PySem.W.mg_of X G a_InvalidRow)⟩
  · exact ⟨_, (PySem.W.mg_of X G a_InvalidOperation)⟩
  · exact ⟨_, (PySem.W.mg_of X G a_UnknownBarrel)⟩
  · exact ⟨_, (PySem.W.mg_of X G a_InvalidWeather)⟩
  · exact PySem.W.mg_none_of X G z_ValueError
  · exact ⟨_, _, PySem.W.mg_of X G a_law_outcome, (fun_mk (st := s_law_outcome) l_law_outcome c_law_outcome k_law_outcome), ((fun_mk (st := s_law_outcome) l_law_outcome c_law_outcome k_law_outcome).binds (ps := ["_law_call"]) fun _ _ _ _ _ _ us hl => match us, hl with | [_], _ => rfl)⟩
  · exact ⟨_, (PySem.W.mg_of X G a_RowError)⟩
  · intro Dn hD Da hDa
    rcases List.mem_cons.mp hD with e | hD
    · subst e; exact (by
      cases (PySem.W.mg_of X G a_InvalidRow).symm.trans hDa
      exact { ec := ⟨hg_InvalidRow, hk_InvalidRow, bx_InvalidRow, hd_InvalidRow, ha_InvalidRow, oc_get, oc_tak, hm_InvalidRow⟩, xf := ⟨hg_InvalidRow, hk_InvalidRow, bx_InvalidRow, hd_InvalidRow⟩, nof := nof5 no_InvalidRow_part no_InvalidRow_index no_InvalidRow_name no_InvalidRow_line no_InvalidRow_offset, isC := isc8 X G a_InvalidRow a_UnknownBarrel a_InvalidNumber a_InvalidWeather a_InvalidOperation a_InvalidText a_DaybookError a_DecodeError ko_InvalidRow_InvalidRow ko_InvalidRow_UnknownBarrel ko_InvalidRow_InvalidNumber ko_InvalidRow_InvalidWeather ko_InvalidRow_InvalidOperation ko_InvalidRow_InvalidText ko_InvalidRow_DaybookError ko_InvalidRow_DecodeError, isV := kv_InvalidRow, row := fun RA h => by cases (PySem.W.mg_of X G a_RowError).symm.trans h; exact PySem.W.exm_ref bx_RowError hd_RowError tx_RowError sr_InvalidRow })
    rcases List.mem_cons.mp hD with e | hD
    · subst e; exact (by
      cases (PySem.W.mg_of X G a_UnknownBarrel).symm.trans hDa
      exact { ec := ⟨hg_UnknownBarrel, hk_UnknownBarrel, bx_UnknownBarrel, hd_UnknownBarrel, ha_UnknownBarrel, oc_get, oc_tak, hm_UnknownBarrel⟩, xf := ⟨hg_UnknownBarrel, hk_UnknownBarrel, bx_UnknownBarrel, hd_UnknownBarrel⟩, nof := nof5 no_UnknownBarrel_part no_UnknownBarrel_index no_UnknownBarrel_name no_UnknownBarrel_line no_UnknownBarrel_offset, isC := isc8 X G a_InvalidRow a_UnknownBarrel a_InvalidNumber a_InvalidWeather a_InvalidOperation a_InvalidText a_DaybookError a_DecodeError ko_UnknownBarrel_InvalidRow ko_UnknownBarrel_UnknownBarrel ko_UnknownBarrel_InvalidNumber ko_UnknownBarrel_InvalidWeather ko_UnknownBarrel_InvalidOperation ko_UnknownBarrel_InvalidText ko_UnknownBarrel_DaybookError ko_UnknownBarrel_DecodeError, isV := kv_UnknownBarrel, row := fun RA h => by cases (PySem.W.mg_of X G a_RowError).symm.trans h; exact PySem.W.exm_ref bx_RowError hd_RowError tx_RowError sr_UnknownBarrel })
    rcases List.mem_cons.mp hD with e | hD
    · subst e; exact (by cases (PySem.W.mg_none_of X G z_OtherRain).symm.trans hDa)
    rcases List.mem_cons.mp hD with e | hD
    · subst e; exact (by
      cases (PySem.W.mg_of X G a_InvalidNumber).symm.trans hDa
      exact { ec := ⟨hg_InvalidNumber, hk_InvalidNumber, bx_InvalidNumber, hd_InvalidNumber, ha_InvalidNumber, oc_get, oc_tak, hm_InvalidNumber⟩, xf := ⟨hg_InvalidNumber, hk_InvalidNumber, bx_InvalidNumber, hd_InvalidNumber⟩, nof := nof5 no_InvalidNumber_part no_InvalidNumber_index no_InvalidNumber_name no_InvalidNumber_line no_InvalidNumber_offset, isC := isc8 X G a_InvalidRow a_UnknownBarrel a_InvalidNumber a_InvalidWeather a_InvalidOperation a_InvalidText a_DaybookError a_DecodeError ko_InvalidNumber_InvalidRow ko_InvalidNumber_UnknownBarrel ko_InvalidNumber_InvalidNumber ko_InvalidNumber_InvalidWeather ko_InvalidNumber_InvalidOperation ko_InvalidNumber_InvalidText ko_InvalidNumber_DaybookError ko_InvalidNumber_DecodeError, isV := kv_InvalidNumber, row := fun RA h => by cases (PySem.W.mg_of X G a_RowError).symm.trans h; exact PySem.W.exm_ref bx_RowError hd_RowError tx_RowError sr_InvalidNumber })
    rcases List.mem_cons.mp hD with e | hD
    · subst e; exact (by cases (PySem.W.mg_none_of X G z_Contradiction).symm.trans hDa)
    rcases List.mem_cons.mp hD with e | hD
    · subst e; exact (by
      cases (PySem.W.mg_of X G a_InvalidWeather).symm.trans hDa
      exact { ec := ⟨hg_InvalidWeather, hk_InvalidWeather, bx_InvalidWeather, hd_InvalidWeather, ha_InvalidWeather, oc_get, oc_tak, hm_InvalidWeather⟩, xf := ⟨hg_InvalidWeather, hk_InvalidWeather, bx_InvalidWeather, hd_InvalidWeather⟩, nof := nof5 no_InvalidWeather_part no_InvalidWeather_index no_InvalidWeather_name no_InvalidWeather_line no_InvalidWeather_offset, isC := isc8 X G a_InvalidRow a_UnknownBarrel a_InvalidNumber a_InvalidWeather a_InvalidOperation a_InvalidText a_DaybookError a_DecodeError ko_InvalidWeather_InvalidRow ko_InvalidWeather_UnknownBarrel ko_InvalidWeather_InvalidNumber ko_InvalidWeather_InvalidWeather ko_InvalidWeather_InvalidOperation ko_InvalidWeather_InvalidText ko_InvalidWeather_DaybookError ko_InvalidWeather_DecodeError, isV := kv_InvalidWeather, row := fun RA h => by cases (PySem.W.mg_of X G a_RowError).symm.trans h; exact PySem.W.exm_ref bx_RowError hd_RowError tx_RowError sr_InvalidWeather })
    rcases List.mem_cons.mp hD with e | hD
    · subst e; exact (by
      cases (PySem.W.mg_of X G a_InvalidOperation).symm.trans hDa
      exact { ec := ⟨hg_InvalidOperation, hk_InvalidOperation, bx_InvalidOperation, hd_InvalidOperation, ha_InvalidOperation, oc_get, oc_tak, hm_InvalidOperation⟩, xf := ⟨hg_InvalidOperation, hk_InvalidOperation, bx_InvalidOperation, hd_InvalidOperation⟩, nof := nof5 no_InvalidOperation_part no_InvalidOperation_index no_InvalidOperation_name no_InvalidOperation_line no_InvalidOperation_offset, isC := isc8 X G a_InvalidRow a_UnknownBarrel a_InvalidNumber a_InvalidWeather a_InvalidOperation a_InvalidText a_DaybookError a_DecodeError ko_InvalidOperation_InvalidRow ko_InvalidOperation_UnknownBarrel ko_InvalidOperation_InvalidNumber ko_InvalidOperation_InvalidWeather ko_InvalidOperation_InvalidOperation ko_InvalidOperation_InvalidText ko_InvalidOperation_DaybookError ko_InvalidOperation_DecodeError, isV := kv_InvalidOperation, row := fun RA h => by cases (PySem.W.mg_of X G a_RowError).symm.trans h; exact PySem.W.exm_ref bx_RowError hd_RowError tx_RowError sr_InvalidOperation })
    rcases List.mem_cons.mp hD with e | hD
    · subst e; exact (by
      cases (PySem.W.mg_of X G a_InvalidText).symm.trans hDa
      exact { ec := ⟨hg_InvalidText, hk_InvalidText, bx_InvalidText, hd_InvalidText, ha_InvalidText, oc_get, oc_tak, hm_InvalidText⟩, xf := ⟨hg_InvalidText, hk_InvalidText, bx_InvalidText, hd_InvalidText⟩, nof := nof5 no_InvalidText_part no_InvalidText_index no_InvalidText_name no_InvalidText_line no_InvalidText_offset, isC := isc8 X G a_InvalidRow a_UnknownBarrel a_InvalidNumber a_InvalidWeather a_InvalidOperation a_InvalidText a_DaybookError a_DecodeError ko_InvalidText_InvalidRow ko_InvalidText_UnknownBarrel ko_InvalidText_InvalidNumber ko_InvalidText_InvalidWeather ko_InvalidText_InvalidOperation ko_InvalidText_InvalidText ko_InvalidText_DaybookError ko_InvalidText_DecodeError, isV := kv_InvalidText, row := fun RA h => by cases (PySem.W.mg_of X G a_RowError).symm.trans h; exact PySem.W.exm_ref bx_RowError hd_RowError tx_RowError sr_InvalidText })
    rcases List.mem_cons.mp hD with e | hD
    · subst e; exact (by
      cases (PySem.W.mg_of X G a_DaybookError).symm.trans hDa
      exact { ec := ⟨hg_DaybookError, hk_DaybookError, bx_DaybookError, hd_DaybookError, ha_DaybookError, oc_get, oc_tak, hm_DaybookError⟩, xf := ⟨hg_DaybookError, hk_DaybookError, bx_DaybookError, hd_DaybookError⟩, nof := nof5 no_DaybookError_part no_DaybookError_index no_DaybookError_name no_DaybookError_line no_DaybookError_offset, isC := isc8 X G a_InvalidRow a_UnknownBarrel a_InvalidNumber a_InvalidWeather a_InvalidOperation a_InvalidText a_DaybookError a_DecodeError ko_DaybookError_InvalidRow ko_DaybookError_UnknownBarrel ko_DaybookError_InvalidNumber ko_DaybookError_InvalidWeather ko_DaybookError_InvalidOperation ko_DaybookError_InvalidText ko_DaybookError_DaybookError ko_DaybookError_DecodeError, isV := kv_DaybookError, row := fun RA h => by cases (PySem.W.mg_of X G a_RowError).symm.trans h; exact PySem.W.exm_ref bx_RowError hd_RowError tx_RowError sr_DaybookError })
    rcases List.mem_cons.mp hD with e | hD
    · subst e; exact (by
      cases (PySem.W.mg_of X G a_DecodeError).symm.trans hDa
      exact { ec := ⟨hg_DecodeError, hk_DecodeError, bx_DecodeError, hd_DecodeError, ha_DecodeError, oc_get, oc_tak, hm_DecodeError⟩, xf := ⟨hg_DecodeError, hk_DecodeError, bx_DecodeError, hd_DecodeError⟩, nof := nof5 no_DecodeError_part no_DecodeError_index no_DecodeError_name no_DecodeError_line no_DecodeError_offset, isC := isc8 X G a_InvalidRow a_UnknownBarrel a_InvalidNumber a_InvalidWeather a_InvalidOperation a_InvalidText a_DaybookError a_DecodeError ko_DecodeError_InvalidRow ko_DecodeError_UnknownBarrel ko_DecodeError_InvalidNumber ko_DecodeError_InvalidWeather ko_DecodeError_InvalidOperation ko_DecodeError_InvalidText ko_DecodeError_DaybookError ko_DecodeError_DecodeError, isV := kv_DecodeError, row := fun RA h => by cases (PySem.W.mg_of X G a_RowError).symm.trans h; exact PySem.W.exm_ref bx_RowError hd_RowError tx_RowError sr_DecodeError })
    cases hD
  · exact ⟨_, _, PySem.W.mg_of X G a_law_due, (fun_mk (st := s_law_due) l_law_due c_law_due k_law_due), ((fun_mk (st := s_law_due) l_law_due c_law_due k_law_due).binds (ps := ["_law_kind", "_law_numbers"]) fun _ _ _ _ _ _ us hl => match us, hl with | [_, _], _ => rfl)⟩
  · exact ⟨_, _, _, (PySem.W.mg_of X G a_Weather), ⟨rd_Weather, ga_Weather⟩, ⟨cv_KIND, ⟨_, rfl⟩⟩⟩
  · exact ⟨_, _, _, _, (PySem.W.mg_of X G a_InvalidWeather), ⟨(PySem.W.mg_of X G a_RowError), rd_RowError, ga_RowError, iv_RowError⟩, ⟨⟨_, _, _, _, _, _, _, _, _, _, _, _, _, _, _, xL_x_InvalidWeather, rV_x_InvalidWeather⟩, sa_InvalidWeather, bx_InvalidWeather, tx_InvalidWeather, kc_InvalidWeather⟩, ii_InvalidWeather, ti_InvalidWeather, no_InvalidWeather_part, (fun_mk (st := s_x_InvalidWeather) l_x_InvalidWeather c_x_InvalidWeather k_x_InvalidWeather)⟩

theorem end_at {l : PySem.W.OpenLaw} {w : World} {K : PySem.W.Frag} {mg : Str → Option Value} {h : Heap} {fa f c P : Addr} {kV doc pm ct oc : Value} {an od : Option Addr} {osl : Array (Option Value)} {e : Value} {dd : Option Addr} {vs : Array Value} {sl : Array (Option Value)}
    (X : K.In h) (G : h.Ns mainGlobals mg) (own : LamX.OwnTab K fa h) (hfa : mg "law" = some (.ref fa)) (fx : ∀ base : Heap, Fx ⟨l.prog, w, K, mg, base⟩)
    (plain : ∀ (ns : List Int) (cell : Cell), IsScript ns cell → ns.length ≤ 63 → (∀ z ∈ ns, Builtin.Int.intBits z ≤ 1048576) → ∃ st', defM 1 13 m_law [.ref 0] [cell] = .ok (.bl true) st')
    (a_law : PySem.W.nsIn K mainGlobals "law" = some (some (.ref f))) (z1 : PySem.W.nsIn K mainGlobals "_law_refused" = some none) (z2 : PySem.W.nsIn K mainGlobals "_law_changed" = some none)
    (lk : K.lookup f = some ⟨oc, od, .func (PySem.W.fnOf "law" "law" (defArgs s_law) (defBody s_law) (defScope s_law) .none kV doc pm an (.ref c) ct), osl⟩) (hcd : PySem.W.codeIn K (.ref c) "law" = true)
    (lc : K.lookup c = some ⟨e, dd, .fields vs, sl⟩) (h11 : vs[11]? = some (.ref P)) (nP : K.lookup P = none) (hh : codeHdB e vs c P = true) :
    LamX.LawAtS l w K (L2.CX l.prog w) 10 63 "_law_script" mg fa h := by
  cases hfa.symm.trans (PySem.W.mg_of X G a_law)
  exact law_at X own hfa (PySem.W.mg_none_of X G z1) (PySem.W.mg_none_of X G z2) lk hcd lc h11 nP (codeHd_by lc hh) sc_law rfl (fun s u => .of_eq rfl) (fun base hK hNs TB hmT huT A outer s H E hr => j_law (fx base) TB hmT huT hr) plain

end K41

set_option Elab.async false
set_option linter.all false
set_option maxRecDepth 100000
set_option maxHeartbeats 2000000
namespace K41
open PySem PySem.Spec PyProof.Rows L2
open Ab (Val Cell Store Slots R O ME MT MA MS MF MG MGs MI MO Chk Wish Exc seqAt Keep Draws New Wr)
open Vc (WpR WpO WpG)
/-! steppers: sizeOf_list_dec closes side conditions; array_get_dec looks a cell up; array_mem_dec is one step of a wish -/
local macro_rules | `(tactic| sizeOf_list_dec) => `(tactic| first
  | assumption
  | with_reducible exact Ab.Keep.refl
  | ((with_reducible refine Vc.k_seq ?_ (by assumption) ?_); sizeOf_list_dec; sizeOf_list_dec)
  | with_reducible exact Vc.hs_nil
  | ((with_reducible refine Vc.hs_cons ?_ ?_); ((first | exact Or.inl (List.Mem.head _) | exact Or.inl (List.Mem.tail _ (List.Mem.head _)) | exact Or.inl (List.Mem.tail _ (List.Mem.tail _ (List.Mem.head _))) | exact Or.inl (List.Mem.tail _ (List.Mem.tail _ (List.Mem.tail _ (List.Mem.head _)))) | exact Or.inl (List.Mem.tail _ (List.Mem.tail _ (List.Mem.tail _ (List.Mem.tail _ (List.Mem.head _))))) | exact Or.inl (List.Mem.tail _ (List.Mem.tail _ (List.Mem.tail _ (List.Mem.tail _ (List.Mem.tail _ (List.Mem.head _)))))) | exact Or.inl (List.Mem.tail _ (List.Mem.tail _ (List.Mem.tail _ (List.Mem.tail _ (List.Mem.tail _ (List.Mem.tail _ (List.Mem.head _))))))) | (apply Or.inr; sizeOf_list_dec))); sizeOf_list_dec)
  | with_reducible exact List.not_mem_nil
  | ((with_reducible refine Vc.nin_cons ?_ ?_); sizeOf_list_dec; sizeOf_list_dec)
  | with_reducible exact Nat.le_refl _
  | ((with_reducible refine Vc.k_len (by assumption) ?_); sizeOf_list_dec)
  | ((refine Nat.le_trans ?_ (by assumption : Nat.le (List.length (α := Ab.Cell) _) _)); sizeOf_list_dec)
  | omega | (with_reducible exact Ne.symm (by assumption))
  | ((with_reducible apply Vc.ne_new); assumption; array_get_dec) | ((with_reducible apply Vc.ne_new'); assumption; array_get_dec)
  | decide | (simp only [List.length_append, List.length_map, List.length_cons, List.length_nil, List.length_set, List.length_range] at *; omega))
local macro_rules | `(tactic| array_get_dec) => `(tactic| first
  | assumption
  | (refine Ab.Keep.get (by assumption) (by array_get_dec) ?_; sizeOf_list_dec)
  | with_reducible exact Vc.get_last
  | ((with_reducible apply Vc.get_push); array_get_dec))
local macro_rules | `(tactic| array_mem_dec) => `(tactic| first
  | with_reducible apply Vc.nf4 | with_reducible apply Vc.nf1 | with_reducible apply Vc.nf0
  | ((with_reducible apply Vc.b_var); exact rfl) | with_reducible apply Vc.b_C | with_reducible apply Vc.b_bin | with_reducible apply Vc.b_aCons | with_reducible apply Vc.b_aNil
  | with_reducible apply Vc.b_seq | with_reducible apply Vc.b_set | with_reducible apply Vc.b_ret | with_reducible apply Vc.b_drop | with_reducible apply Vc.b_sif | with_reducible apply Vc.b_next
  | with_reducible apply Vc.b_test | with_reducible apply Vc.b_not | with_reducible apply Vc.b_tand | with_reducible apply Vc.b_tor | with_reducible apply Vc.b_app
  | with_reducible apply Vc.b_tup | with_reducible apply Vc.b_lst | with_reducible apply Vc.b_chainI | with_reducible apply Vc.b_if | with_reducible apply Vc.b_and | with_reducible apply Vc.b_or | with_reducible apply Vc.b_mnot
  | with_reducible apply Vc.b_fld | with_reducible apply Vc.b_BM | with_reducible apply Vc.b_meth | with_reducible apply Vc.b_prop | with_reducible apply Vc.b_make | with_reducible apply Vc.b_dget
  | with_reducible apply Vc.b_cut | with_reducible apply Vc.b_oNone | with_reducible apply Vc.b_oSome | with_reducible apply Vc.b_neg | with_reducible apply Vc.b_disp | with_reducible apply Vc.b_pcons | with_reducible apply Vc.b_pnil
  | with_reducible apply Vc.b_items | with_reducible apply Vc.b_isi | with_reducible apply Vc.b_star | with_reducible apply Vc.b_op | with_reducible apply Vc.b_call | with_reducible apply Vc.b_getO | with_reducible apply Vc.b_opT | with_reducible apply Vc.b_isiO | with_reducible apply Vc.b_disp0 | with_reducible apply Vc.i_keys | with_reducible apply Vc.i_vals | with_reducible apply Vc.b_len | with_reducible apply Vc.b_outcome | with_reducible apply Vc.b_outOne
  | ((with_reducible apply Vc.b_aug); exact rfl) | with_reducible apply Vc.b_break | with_reducible apply Vc.b_cont | with_reducible apply Vc.b_asg | with_reducible apply Vc.b_par | with_reducible apply Vc.b_fldm | with_reducible apply Vc.b_fldaug
  | with_reducible apply Vc.b_make0 | with_reducible apply Vc.b_con | with_reducible apply Vc.b_opG | ((with_reducible apply Vc.b_sup); exact rfl)
  | with_reducible apply Vc.b_cm | ((with_reducible apply Vc.b_makeV); exact rfl)
  | with_reducible apply Vc.b_raise | with_reducible apply Vc.b_raise0 | with_reducible apply Vc.b_for | with_reducible apply Vc.b_lc | with_reducible apply Vc.b_dc | with_reducible apply Vc.b_yes
  | with_reducible apply Vc.g_set | with_reducible apply Vc.g_cons | with_reducible apply Vc.g_nil | ((with_reducible apply Vc.g_tup); exact rfl) | ((with_reducible apply Vc.g_tupS); sizeOf_list_dec) | with_reducible apply Vc.g_fld | with_reducible apply Vc.g_subL | with_reducible apply Vc.g_subD
  | with_reducible apply Vc.i_seq | with_reducible apply Vc.i_enum | with_reducible apply Vc.i_zip | with_reducible apply Vc.i_str | with_reducible apply Vc.i_range1 | with_reducible apply Vc.i_range2
  | ((with_reducible apply Vc.len_and); exact rfl) | with_reducible apply Vc.ex_par | with_reducible apply Vc.ex_chain | with_reducible apply Vc.ex_key | with_reducible apply Vc.ex_seqT | with_reducible apply Vc.ex_enumT | with_reducible apply Vc.ex_zipT | with_reducible apply Vc.ex_starT
  | ((with_reducible apply Vc.ex_seqL); array_get_dec) | ((with_reducible apply Vc.ex_starL); array_get_dec) | ((with_reducible apply Vc.ex_items); array_get_dec) | ((with_reducible apply Vc.ex_isiL); array_get_dec)
  | ((with_reducible apply Vc.ex_isi); exact rfl) | ((with_reducible apply Vc.isb_t); exact rfl) | ((with_reducible apply Vc.isb_f); exact rfl)
  | ((with_reducible apply Vc.ex_meth); ((with_reducible apply Vc.cls_at); array_get_dec); exact rfl)
  | ((with_reducible apply Vc.ex_fld); array_get_dec; exact rfl; exact rfl)
  | ((with_reducible apply Vc.chk_lst); array_get_dec; exact rfl)
  | ((with_reducible apply Vc.ex_subD); array_get_dec; exact rfl)
  | ((with_reducible apply Vc.v_fld'); array_get_dec; exact rfl; first | exact rfl | assumption)
  | ((with_reducible apply Vc.v_ixL); array_get_dec; exact rfl) | ((with_reducible apply Vc.v_ixT); exact rfl)
  | ((with_reducible apply Vc.v_dget); array_get_dec; exact rfl) | ((with_reducible apply Vc.v_dgetF); array_get_dec; exact rfl)
  | ((with_reducible apply Vc.v_lenL); array_get_dec) | ((with_reducible apply Vc.v_tupL); array_get_dec) | ((with_reducible apply Vc.v_lstL); array_get_dec)
  | ((with_reducible apply Vc.v_addL); array_get_dec; array_get_dec; sizeOf_list_dec) | ((with_reducible apply Vc.v_addT); sizeOf_list_dec) | ((with_reducible apply Vc.v_app); array_get_dec; sizeOf_list_dec)
  | ((with_reducible apply Vc.v_mul); sizeOf_list_dec) | ((with_reducible apply Vc.v_mod); sizeOf_list_dec) | ((with_reducible apply Vc.v_div); sizeOf_list_dec)
  | ((with_reducible apply Vc.v_inO); array_get_dec) | ((with_reducible apply Vc.v_ninO); array_get_dec) | ((with_reducible apply Vc.v_eqO); array_get_dec; array_get_dec) | ((with_reducible apply Vc.v_neO); array_get_dec; array_get_dec) | with_reducible apply Vc.v_sumT | ((with_reducible apply Vc.ex_isiO); array_get_dec; exact rfl) | with_reducible apply Vc.ex_isiT
  | ((with_reducible apply Vc.two_ins); array_get_dec; array_get_dec) | ((with_reducible apply Vc.one_ins); array_get_dec) | ((with_reducible apply Vc.ex_int); sizeOf_list_dec)
  | with_reducible apply Vc.v_lt | with_reducible apply Vc.v_gt | with_reducible apply Vc.v_ge | with_reducible apply Vc.v_pow6 | with_reducible apply Vc.v_pow9 | with_reducible apply Vc.v_pow18
  | with_reducible apply Vc.chk_bl | with_reducible apply Vc.ite_t | with_reducible apply Vc.ite_f | with_reducible apply Vc.ite_nt | with_reducible apply Vc.ite_nf | with_reducible apply Vc.ite_rfl | with_reducible apply Vc.ite_nrfl
  | ((with_reducible apply And.intro); ((with_reducible apply Vc.ty_lst); array_get_dec))
  | ((with_reducible apply Vc.new_by); intro _ _ _ _ _) | ((with_reducible apply Vc.wr_by); intro _ _ _)
  | with_reducible apply Vc.and_wp
  | with_reducible apply Vc.b_ok
  | ((first | (with_reducible show Vc.WpO _ _) | (with_reducible show Vc.WpR _ _ _) | (with_reducible show Ab.NF _ _ _ _)); simp only [List.set_cons_succ, List.set_cons_zero, Ab.wipeM, List.map_cons, List.map_nil, List.cons_append, List.nil_append, List.replicate, -eq_self]))
theorem next_spec {h c : Nat} {st : Store} {lim : Int} (d : Draws h c st) (h0 : 0 < lim) (h1 : lim < 2 ^ 64) :
    WpR (f_law_next [.ref h, .int lim] st) (fun v st' => (∃ r : Int, v = .int r ∧ 0 ≤ r ∧ r < lim) ∧ Draws h c st' ∧ Keep [h, c] st st') (fun _ _ => False) := Vc.of_ab (Ab.next_spec d h0 h1)
theorem mix_spec {n : Nat} {st : Store} {ns : List Int} {seed : Int} (hs : seqAt st n = some (ns.map .int)) (hl : ns.length ≤ 63) (h0 : 0 ≤ seed) (h1 : seed < 2147483647) :
    WpR (f_law_mix [.ref n, .int seed] st) (fun v st' => ∃ h c, v = .ref h ∧ Draws h c st' ∧ Keep [] st st') (fun _ _ => False) := Vc.of_ab (Ab.mix_spec hs hl h0 h1)
theorem val_spec {a b c : Int} {st : Store} : WpR (f_validate_number [.int a, .int b, .int c] st) (fun v s => v = .non ∧ s = st ∧ b ≤ a ∧ a ≤ c) (fun x s => x = ⟨4, []⟩ ∧ s = st ∧ ¬(b ≤ a ∧ a ≤ c)) := by
  refine Vc.b_def rfl ?_
  unfold m_validate_number
  repeat' array_mem_dec
  refine Vc.ite_nd (fun h => ?_) (fun h => ?_)
  · repeat' array_mem_dec
    exact ⟨rfl, rfl, h⟩
  · repeat' array_mem_dec
    exact ⟨rfl, rfl, h⟩
theorem rep_zero (n : Nat) : Ab.repW' n [Val.int 0] = (List.replicate n (0 : Int)).map .int := by
  unfold Ab.repW'
  induction n with
  | zero => rfl
  | succ n ih => rw [List.replicate_succ, List.flatten_cons, ih, List.replicate_succ]; rfl
theorem alike_step {n : Nat} {rec : MF} (ih : ∀ x y st, Vc.Alike st n x y → WpR (rec [x, y] st) (fun v s => v = .bl true ∧ Keep [] st s) (fun _ _ => False)) {x y : Val} {st : Store} (h : Vc.Alike st (n + 1) x y) : WpR (Ab.defM 2 1 (m_law_alike rec) [x, y] st) (fun v s => v = .bl true ∧ Keep [] st s) (fun _ _ => False) := by
    have seqs : ∀ (xs ys : List Val), xs.length = ys.length → xs.length ≤ 100000 → (∀ (i : Nat) (x y : Val), xs[i]? = some x → ys[i]? = some y → Vc.Alike st n x y) → ∀ i < ys.length, ∃ a b, L2.atI xs (i : Int) = some a ∧ L2.atI ys (i : Int) = some b ∧ Vc.Alike st n a b := by
      intro xs ys h1 h2 h3 i hi
      have e1 : xs[i]? = some xs[i] := List.getElem?_eq_getElem (by omega)
      have e2 : ys[i]? = some ys[i] := List.getElem?_eq_getElem hi
      exact ⟨_, _, L2.atI_nat e1, L2.atI_nat e2, h3 i _ _ e1 e2⟩
    refine Vc.b_def rfl ?_
    unfold m_law_alike
    simp only [List.map_cons, List.map_nil, List.cons_append, List.nil_append, List.replicate, -eq_self]
    unfold Vc.Alike at h
    split at h
    · repeat' array_mem_dec
      refine Vc.v_eqNN ?_
      repeat' array_mem_dec
      exact ⟨rfl, by sizeOf_list_dec⟩
    · subst h
      repeat' array_mem_dec
      exact ⟨by simp, by sizeOf_list_dec⟩
    · subst h
      repeat' array_mem_dec
      exact ⟨by simp, by sizeOf_list_dec⟩
    · subst h
      repeat' array_mem_dec
      exact ⟨by simp, by sizeOf_list_dec⟩
    · rename_i xs ys
      obtain ⟨h1, h2, h3⟩ := h
      repeat' array_mem_dec
      refine Vc.ite_ndp (by omega) ?_
      repeat' array_mem_dec
      refine Vc.ex_range1 (by omega) ?_
      refine Vc.lc_new fun D s1 hD k1 hl => ?_
      refine Vc.lc_none (fun _ _ => trivial) (fun i hi s k => ?_) fun s2 k2 => ?_
      · obtain ⟨a, b, e1, e2, e3⟩ := seqs xs ys h1 h2 h3 i (by simpa using hi)
        repeat' array_mem_dec
        refine Vc.v_ixT e1 ?_
        repeat' array_mem_dec
        refine Vc.v_ixT e2 ?_
        repeat' array_mem_dec
        refine Vc.via0 (ih _ _ _ (e3.keep (k1.trans k))) fun v s hv => ?_
        obtain ⟨rfl, k3⟩ := hv
        repeat' array_mem_dec
        exact ⟨rfl, k3⟩
      · repeat' array_mem_dec
        rename_i E s3 hE k3 hEl
        refine Vc.v_eq00 (by array_get_dec) (by array_get_dec) ?_
        exact ⟨rfl, by sizeOf_list_dec⟩
    · rename_i ra rb
      obtain ⟨xs, ys, ha, hb, h1, h2, h3⟩ := h
      repeat' array_mem_dec
      refine Vc.ite_ndp (by omega) ?_
      repeat' array_mem_dec
      refine Vc.ex_range1 (by omega) ?_
      refine Vc.lc_new fun D s1 hD k1 hl => ?_
      refine Vc.lc_none (fun _ _ => trivial) (fun i hi s k => ?_) fun s2 k2 => ?_
      · obtain ⟨a, b, e1, e2, e3⟩ := seqs xs ys h1 h2 h3 i (by simpa using hi)
        have kk := k1.trans k
        repeat' array_mem_dec
        refine Vc.v_ixL (xs := xs) (kk.get ha (by simp)) e1 ?_
        repeat' array_mem_dec
        refine Vc.v_ixL (xs := ys) (kk.get hb (by simp)) e2 ?_
        repeat' array_mem_dec
        refine Vc.via0 (ih _ _ _ (e3.keep kk)) fun v s hv => ?_
        obtain ⟨rfl, k3⟩ := hv
        repeat' array_mem_dec
        exact ⟨rfl, k3⟩
      · repeat' array_mem_dec
        rename_i E s3 hE k3 hEl
        refine Vc.v_eq00 (by array_get_dec) (by array_get_dec) ?_
        exact ⟨rfl, by sizeOf_list_dec⟩
    · exact h.elim
theorem alike_spec : ∀ {n : Nat} {x y : Val} {st : Store}, Vc.Alike st n x y → WpR (f_law_alike n [x, y] st) (fun v s => v = .bl true ∧ Keep [] st s) (fun _ _ => False)
  | 0, _, _, _, h => h.elim
  | n + 1, x, y, st, h => alike_step (fun _ _ _ h => alike_spec h) h
inductive Kd where
  | dry | steady | spells | storms
def Kd.str : Kd → Str
  | .dry => "dry"
  | .steady => "steady"
  | .spells => "spells"
  | .storms => "storms"
def Kd.cls : Kd → Nat
  | .dry => 15
  | .steady => 17
  | .spells => 18
  | .storms => 19
structure WP where
  k : Kd
  a : Int
  b : Int
  c : Int
def WP.val (p : WP) : Val := .tup [.str p.k.str, .tup [.int p.a, .int p.b, .int p.c]]
def WP.flds (p : WP) : List (Nat × Val) := match p.k with
  | .dry => []
  | .steady => [(44, .int p.a)]
  | .spells => [(44, .int p.a), (45, .int p.b), (46, .int p.c)]
  | .storms => [(44, .int p.a), (47, .int p.b), (48, .int p.c)]
def WP.fall (p : WP) (t : Int) : Int := match p.k with
  | .dry => 0
  | .steady => p.a
  | .spells => if t % (p.b + p.c) < p.b then p.a else 0
  | .storms => if p.b ≤ t ∧ (t - p.b) % p.c = 0 then p.a else 0

def WP.bad (p : WP) : Option Str := match p.k with
  | .dry => none
  | .steady => if 0 ≤ p.a ∧ p.a ≤ 1000000 then none else some "amount"
  | .spells => if 0 ≤ p.a ∧ p.a ≤ 1000000 then (if 1 ≤ p.b ∧ p.b ≤ 1000 then (if 1 ≤ p.c ∧ p.c ≤ 1000 then none else some "dry") else some "wet") else some "amount"
  | .storms => if 0 ≤ p.a ∧ p.a ≤ 1000000 then (if 0 ≤ p.b ∧ p.b ≤ 1000 then (if 1 ≤ p.c ∧ p.c ≤ 1000 then none else some "every") else some "first") else some "amount"
structure WP.Ok (p : WP) : Prop where
  a0 : 0 ≤ p.a
  a1 : p.a ≤ 1000000
  b0 : 0 ≤ p.b
  b1 : p.b ≤ 1000
  bs : p.k = .spells → 1 ≤ p.b
  c0 : 1 ≤ p.c
  c1 : p.c ≤ 1000
theorem WP.Ok.good {p : WP} (h : p.Ok) : p.bad = none := by
  obtain ⟨k, a, b, c⟩ := p
  obtain ⟨h1, h2, h3, h4, h5, h6, h7⟩ := h
  dsimp only at h1 h2 h3 h4 h5 h6 h7
  cases k
  · rfl
  · show (if 0 ≤ a ∧ a ≤ 1000000 then none else some _) = none
    rw [if_pos ⟨h1, h2⟩]
  · show (if 0 ≤ a ∧ a ≤ 1000000 then (if 1 ≤ b ∧ b ≤ 1000 then (if 1 ≤ c ∧ c ≤ 1000 then none else some _) else some _) else some _) = none
    rw [if_pos ⟨h1, h2⟩, if_pos ⟨h5 rfl, h4⟩, if_pos ⟨h6, h7⟩]
  · show (if 0 ≤ a ∧ a ≤ 1000000 then (if 0 ≤ b ∧ b ≤ 1000 then (if 1 ≤ c ∧ c ≤ 1000 then none else some _) else some _) else some _) = none
    rw [if_pos ⟨h1, h2⟩, if_pos ⟨h3, h4⟩, if_pos ⟨h6, h7⟩]
section
variable {h c n C : Nat} {st : Store} {p : WP} {t a b i : Int} {z : Str}
theorem part_spec : WpR (f_validate_part [.str z, .int i, .int a, .int b] st) (fun v s => v = .non ∧ s = st ∧ a ≤ i ∧ i ≤ b) (fun x s => x = ⟨6, [(24, .str z)]⟩ ∧ s = st ∧ ¬(a ≤ i ∧ i ≤ b)) := by
  refine Vc.b_def rfl ?_
  unfold m_validate_part
  repeat' array_mem_dec
  refine Vc.ite_nd (fun h => ?_) (fun h => ?_)
  · repeat' array_mem_dec
    exact ⟨rfl, rfl, h⟩
  · repeat' array_mem_dec
    exact ⟨rfl, rfl, rfl, h⟩
theorem pickK {r : Int} (h0 : 0 ≤ r) (h1 : r < 4) : ∃ k : Kd, L2.atI [.str "dry", .str "steady", .str "spells", .str "storms"] r = some (Val.str k.str) := by
  have : r = 0 ∨ r = 1 ∨ r = 2 ∨ r = 3 := by omega
  rcases this with e | e | e | e <;> subst e
  · exact ⟨.dry, rfl⟩
  · exact ⟨.steady, rfl⟩
  · exact ⟨.spells, rfl⟩
  · exact ⟨.storms, rfl⟩
theorem kd_eq (k : Kd) : decide (k.str = "spells") = (match k with | .spells => true | _ => false) := by cases k <;> rfl
theorem lt1 (d : Draws h c st) : h < st.length ∧ c < st.length := by
  obtain ⟨a, cs, p, e1, e2, _⟩ := d
  exact ⟨Vc.lt_of e1, Vc.lt_of e2⟩
theorem spec_spec (d : Draws h c st) : WpR (f_law_spec [.ref h] st) (fun v s => (∃ p : WP, v = p.val ∧ p.Ok) ∧ Draws h c s ∧ Keep [h, c] st s) (fun _ _ => False) := by
  refine Vc.b_def rfl ?_
  unfold m_law_spec
  repeat' array_mem_dec
  rename_i M s1 hM k1 l1
  have d1 := d.keep k1 (by simp) (by simp)
  refine Vc.via0 (next_spec d1 (by decide) (by decide)) fun v s2 hv => ?_
  obtain ⟨⟨r, rfl, r0, r1⟩, d2, k2⟩ := hv
  obtain ⟨k, hk⟩ := pickK r0 r1
  have lh := lt1 d
  refine Vc.v_ixL (k2.get hM (by simp; omega)) hk ?_
  repeat' array_mem_dec
  refine Vc.via0 (next_spec d2 (by decide) (by decide)) fun v s3 hv => ?_
  obtain ⟨⟨x, rfl, x0, x1⟩, d3, k3⟩ := hv
  repeat' array_mem_dec
  refine Vc.via0 (next_spec d3 (by decide) (by decide)) fun v s4 hv => ?_
  obtain ⟨⟨y, rfl, y0, y1⟩, d4, k4⟩ := hv
  repeat' array_mem_dec
  rename_i A s5 hA k5 l5
  have d5 := d4.keep k5 (by simp) (by simp)
  refine Vc.via0 (next_spec d5 (by decide) (by decide)) fun v s6 hv => ?_
  obtain ⟨⟨w, rfl, w0, w1⟩, d6, k6⟩ := hv
  have la := lt1 d4
  obtain ⟨a, ha, a0, a1⟩ : ∃ a : Int, L2.atI [.int x, .int y] w = some (Val.int a) ∧ 0 ≤ a ∧ a ≤ 1000000 := by
    have : w = 0 ∨ w = 1 := by omega
    rcases this with e | e <;> subst e
    · exact ⟨x, rfl, x0, by omega⟩
    · exact ⟨y, rfl, y0, by omega⟩
  refine Vc.v_ixL (k6.get hA (by simp; omega)) ha ?_
  repeat' array_mem_dec
  refine Vc.via0 (next_spec d6 (by decide) (by decide)) fun v s7 hv => ?_
  obtain ⟨⟨b, rfl, b0, b1⟩, d7, k7⟩ := hv
  repeat' array_mem_dec
  refine Vc.via0 (next_spec d7 (by decide) (by decide)) fun v s8 hv => ?_
  obtain ⟨⟨e, rfl, e0, e1⟩, d8, k8⟩ := hv
  repeat' array_mem_dec
  refine ⟨⟨⟨k, a, _, _⟩, rfl, ?_⟩, d8, ?_⟩
  · refine ⟨a0, a1, ?_, ?_, fun hk => ?_, by show (1 : Int) ≤ 1 + e; omega, by show 1 + e ≤ 1000; omega⟩
    · show 0 ≤ b + ite _ _ _; split <;> omega
    · show b + ite _ _ _ ≤ 1000; split <;> omega
    · dsimp only at hk
      subst hk
      show 1 ≤ b + ite _ _ _
      rw [if_pos (by decide)]
      omega
  · exact (((((k1.nil.trans k2).trans k3).trans k4).trans k5.nil).trans k6).trans (k7.trans k8)
theorem steady_spec (hn : st[n]? = some (.ins C [])) (hC : C = 17 ∨ C = 18 ∨ C = 19) : WpR (f_SteadyWeather_init [.ref n, .int a] st) (fun v s => v = .non ∧ (0 ≤ a ∧ a ≤ 1000000) ∧ s[n]? = some (.ins C [(44, .int a)]) ∧ Keep [n] st s) (fun x s => x = ⟨6, [(24, .str "amount")]⟩ ∧ s = st ∧ ¬(0 ≤ a ∧ a ≤ 1000000)) := by
  have hm : C ∈ [17, 18, 19] := by rcases hC with e | e | e <;> subst e <;> simp
  refine Vc.b_def rfl ?_
  unfold m_SteadyWeather_init
  repeat' array_mem_dec
  refine Vc.via part_spec (fun v s hv => ?_) (fun e s he => he)
  obtain ⟨rfl, rfl, h1⟩ := hv
  repeat' array_mem_dec
  refine ⟨n, C, [], rfl, hn, hm, by decide, ?_⟩
  repeat' array_mem_dec
  rename_i s1 h1' k1
  exact ⟨rfl, h1, h1', k1⟩
theorem spell_spec (hn : st[n]? = some (.ins 18 [])) : WpR (f_SpellWeather_init [.ref n, .int a, .int b, .int t] st) (fun v s => v = .non ∧ (WP.mk .spells a b t).bad = none ∧ s[n]? = some (.ins 18 [(44, .int a), (45, .int b), (46, .int t)]) ∧ Keep [n] st s) (fun x s => ∃ z, (WP.mk .spells a b t).bad = some z ∧ x = ⟨6, [(24, .str z)]⟩ ∧ Keep [n] st s) := by
  unfold WP.bad
  dsimp only
  refine Vc.b_def rfl ?_
  unfold m_SpellWeather_init
  repeat' array_mem_dec
  refine Vc.via (steady_spec hn (.inr (.inl rfl))) (fun v s hv => ?_) (fun e s he => ?_)
  · obtain ⟨rfl, h1, g1, k1⟩ := hv
    rw [if_pos h1]
    repeat' array_mem_dec
    refine Vc.via part_spec (fun v s hv => ?_) (fun e s he => ?_)
    · obtain ⟨rfl, rfl, h2⟩ := hv
      rw [if_pos h2]
      repeat' array_mem_dec
      refine Vc.via part_spec (fun v s hv => ?_) (fun e s he => ?_)
      · obtain ⟨rfl, rfl, h3⟩ := hv
        rw [if_pos h3]
        repeat' array_mem_dec
        rename_i s2 g2 k2 s3 g3 k3
        exact ⟨rfl, rfl, g3, by sizeOf_list_dec⟩
      · obtain ⟨rfl, rfl, h3⟩ := he
        rw [if_neg h3]
        exact ⟨_, rfl, rfl, by sizeOf_list_dec⟩
    · obtain ⟨rfl, rfl, h2⟩ := he
      rw [if_neg h2]
      exact ⟨_, rfl, rfl, by sizeOf_list_dec⟩
  · obtain ⟨rfl, rfl, h1⟩ := he
    rw [if_neg h1]
    exact ⟨_, rfl, rfl, by sizeOf_list_dec⟩
theorem storm_spec (hn : st[n]? = some (.ins 19 [])) : WpR (f_StormWeather_init [.ref n, .int a, .int b, .int t] st) (fun v s => v = .non ∧ (WP.mk .storms a b t).bad = none ∧ s[n]? = some (.ins 19 [(44, .int a), (47, .int b), (48, .int t)]) ∧ Keep [n] st s) (fun x s => ∃ z, (WP.mk .storms a b t).bad = some z ∧ x = ⟨6, [(24, .str z)]⟩ ∧ Keep [n] st s) := by
  unfold WP.bad
  dsimp only
  refine Vc.b_def rfl ?_
  unfold m_StormWeather_init
  repeat' array_mem_dec
  refine Vc.via (steady_spec hn (.inr (.inr rfl))) (fun v s hv => ?_) (fun e s he => ?_)
  · obtain ⟨rfl, h1, g1, k1⟩ := hv
    rw [if_pos h1]
    repeat' array_mem_dec
    refine Vc.via part_spec (fun v s hv => ?_) (fun e s he => ?_)
    · obtain ⟨rfl, rfl, h2⟩ := hv
      rw [if_pos h2]
      repeat' array_mem_dec
      refine Vc.via part_spec (fun v s hv => ?_) (fun e s he => ?_)
      · obtain ⟨rfl, rfl, h3⟩ := hv
        rw [if_pos h3]
        repeat' array_mem_dec
        rename_i s2 g2 k2 s3 g3 k3
        exact ⟨rfl, rfl, g3, by sizeOf_list_dec⟩
      · obtain ⟨rfl, rfl, h3⟩ := he
        rw [if_neg h3]
        exact ⟨_, rfl, rfl, by sizeOf_list_dec⟩
    · obtain ⟨rfl, rfl, h2⟩ := he
      rw [if_neg h2]
      exact ⟨_, rfl, rfl, by sizeOf_list_dec⟩
  · obtain ⟨rfl, rfl, h1⟩ := he
    rw [if_neg h1]
    exact ⟨_, rfl, rfl, by sizeOf_list_dec⟩
theorem weather_spec : WpR (f_law_weather [p.val] st) (fun v s => ∃ n, v = .ref n ∧ p.bad = none ∧ s[n]? = some (.ins p.k.cls p.flds) ∧ Keep [] st s ∧ st.length ≤ n) (fun x s => ∃ z, p.bad = some z ∧ x = ⟨6, [(24, .str z)]⟩ ∧ Keep [] st s) := by
  obtain ⟨k, a, b, c⟩ := p
  refine Vc.b_def rfl ?_
  unfold m_law_weather WP.val
  cases k
  all_goals dsimp only [Kd.str]
  · repeat' array_mem_dec
    rename_i n s h1 k1 l1
    exact ⟨n, rfl, rfl, h1, k1, l1⟩
  · repeat' (first | array_mem_dec | ((with_reducible refine Vc.ite_dn ?qq ?_); (case qq => decide)) | fail)
    rename_i n s h1 k1 l1
    refine Vc.via (steady_spec h1 (.inl rfl)) (fun v s hv => ?_) (fun e s he => ?_)
    · obtain ⟨rfl, h2, h3, k2⟩ := hv
      refine ⟨rfl, n, rfl, ?_, h3, by sizeOf_list_dec, l1⟩
      show (if 0 ≤ a ∧ a ≤ 1000000 then none else some _) = none
      rw [if_pos h2]
    · obtain ⟨rfl, rfl, h2⟩ := he
      refine ⟨"amount", ?_, rfl, k1⟩
      show (if 0 ≤ a ∧ a ≤ 1000000 then none else some _) = some _
      rw [if_neg h2]
  · repeat' (first | array_mem_dec | ((with_reducible refine Vc.ite_dn ?qq ?_); (case qq => decide)) | fail)
    rename_i n s h1 k1 l1
    refine Vc.via (spell_spec h1) (fun v s hv => ?_) (fun e s he => ?_)
    · obtain ⟨rfl, h2, h3, k2⟩ := hv
      exact ⟨rfl, n, rfl, h2, h3, by sizeOf_list_dec, l1⟩
    · obtain ⟨z, h2, rfl, k2⟩ := he
      exact ⟨z, h2, rfl, by sizeOf_list_dec⟩
  · repeat' (first | array_mem_dec | ((with_reducible refine Vc.ite_dn ?qq ?_); (case qq => decide)) | fail)
    rename_i n s h1 k1 l1
    refine Vc.via (storm_spec h1) (fun v s hv => ?_) (fun e s he => ?_)
    · obtain ⟨rfl, h2, h3, k2⟩ := hv
      exact ⟨rfl, n, rfl, h2, h3, by sizeOf_list_dec, l1⟩
    · obtain ⟨z, h2, rfl, k2⟩ := he
      exact ⟨z, h2, rfl, by sizeOf_list_dec⟩
theorem fall_spec (ok : p.Ok) : WpR (f_law_fall [p.val, .int t] st) (fun v s => v = .int (p.fall t) ∧ s = st) (fun _ _ => False) := by
  obtain ⟨k, a, b, c⟩ := p
  obtain ⟨q1, q2, q3, q4, q5, q6, q7⟩ := ok
  dsimp only at q1 q2 q3 q4 q5 q6 q7
  refine Vc.b_def rfl ?_
  unfold m_law_fall WP.val
  cases k
  all_goals dsimp only [Kd.str]
  · repeat' array_mem_dec
    exact ⟨rfl, rfl⟩
  · repeat' (first | array_mem_dec | ((with_reducible refine Vc.ite_dn ?qq ?_); (case qq => decide)) | fail)
    exact ⟨rfl, rfl⟩
  · have q5 := q5 rfl
    repeat' (first | array_mem_dec | ((with_reducible refine Vc.ite_dn ?qq ?_); (case qq => decide)) | fail)
    refine Vc.ite_d (fun hh => ?_) (fun hh => ?_)
    · repeat' array_mem_dec
      exact ⟨by show _ = Val.int (ite _ _ _); rw [if_pos hh], rfl⟩
    · repeat' array_mem_dec
      exact ⟨by show _ = Val.int (ite _ _ _); rw [if_neg hh], rfl⟩
  · repeat' (first | array_mem_dec | ((with_reducible refine Vc.ite_dn ?qq ?_); (case qq => decide)) | fail)
    refine Vc.ite_d (fun hh => ?_) (fun hh => ?_)
    · repeat' array_mem_dec
      refine Vc.ite_d (fun hg => ?_) (fun hg => ?_)
      · repeat' array_mem_dec
        exact ⟨by show _ = Val.int (ite _ _ _); rw [if_pos ⟨hh, hg⟩], rfl⟩
      · repeat' array_mem_dec
        exact ⟨by show _ = Val.int (ite _ _ _); rw [if_neg fun z => hg z.2], rfl⟩
    · repeat' array_mem_dec
      exact ⟨by show _ = Val.int (ite _ _ _); rw [if_neg fun z => hh z.1], rfl⟩
theorem dry_amount (hn : st[n]? = some (.ins 15 [])) : WpR (f_Weather_amount_in [.ref n, .int t] st) (fun v s => v = .int ((WP.mk .dry a b i).fall t) ∧ s = st) (fun _ _ => False) := by
  refine Vc.b_def rfl ?_
  unfold m_Weather_amount_in
  repeat' array_mem_dec
  exact ⟨rfl, rfl⟩
theorem steady_amount (hn : st[n]? = some (.ins 17 [(44, .int a)])) : WpR (f_SteadyWeather_amount_in [.ref n, .int t] st) (fun v s => v = .int ((WP.mk .steady a b i).fall t) ∧ s = st) (fun _ _ => False) := by
  refine Vc.b_def rfl ?_
  unfold m_SteadyWeather_amount_in
  repeat' array_mem_dec
  exact ⟨rfl, rfl⟩
theorem spell_amount (hp : 0 < b + i) (hn : st[n]? = some (.ins 18 [(44, .int a), (45, .int b), (46, .int i)])) : WpR (f_SpellWeather_amount_in [.ref n, .int t] st) (fun v s => v = .int ((WP.mk .spells a b i).fall t) ∧ s = st) (fun _ _ => False) := by
  refine Vc.b_def rfl ?_
  unfold m_SpellWeather_amount_in
  repeat' array_mem_dec
  refine Vc.ite_d (fun hh => ?_) (fun hh => ?_)
  · repeat' array_mem_dec
    exact ⟨by show _ = Val.int (ite _ _ _); rw [if_pos hh], rfl⟩
  · repeat' array_mem_dec
    exact ⟨by show _ = Val.int (ite _ _ _); rw [if_neg hh], rfl⟩
theorem storm_amount (hp : 0 < i) (hn : st[n]? = some (.ins 19 [(44, .int a), (47, .int b), (48, .int i)])) : WpR (f_StormWeather_amount_in [.ref n, .int t] st) (fun v s => v = .int ((WP.mk .storms a b i).fall t) ∧ s = st) (fun _ _ => False) := by
  refine Vc.b_def rfl ?_
  unfold m_StormWeather_amount_in
  repeat' array_mem_dec
  refine Vc.ite_d (fun hh => ?_) (fun hh => ?_)
  · repeat' array_mem_dec
    exact ⟨by show _ = Val.int (ite _ _ _); rw [if_neg fun z => absurd z.1 (by show ¬b ≤ t; omega)], rfl⟩
  · repeat' array_mem_dec
    refine Vc.ite_nd (fun hg => ?_) (fun hg => ?_)
    · repeat' array_mem_dec
      exact ⟨by show _ = Val.int (ite _ _ _); rw [if_pos ⟨by show b ≤ t; omega, hg⟩], rfl⟩
    · repeat' array_mem_dec
      exact ⟨by show _ = Val.int (ite _ _ _); rw [if_neg fun z => hg z.2], rfl⟩

def At (p : WP) (n : Nat) (s : Store) : Prop := s[n]? = some (.ins p.k.cls p.flds)
theorem At.cls {s : Store} (h : At p n s) : Ab.clsAt s (.ref n) = some p.k.cls := Vc.cls_at h
theorem amount4 (ok : p.Ok) (hn : At p n st) : ∃ mf, List.lookup p.k.cls [(15, f_Weather_amount_in), (17, f_SteadyWeather_amount_in), (18, f_SpellWeather_amount_in), (19, f_StormWeather_amount_in)] = some mf ∧
    WpR (mf [.ref n, .int t] st) (fun v s => v = .int (p.fall t) ∧ s = st) (fun _ _ => False) := by
  obtain ⟨k, a, b, c⟩ := p
  obtain ⟨q1, q2, q3, q4, q5, q6, q7⟩ := ok
  dsimp only at q1 q2 q3 q4 q5 q6 q7
  cases k
  · exact ⟨_, rfl, dry_amount hn⟩
  · exact ⟨_, rfl, steady_amount hn⟩
  · exact ⟨_, rfl, spell_amount (by have := q5 rfl; omega) hn⟩
  · exact ⟨_, rfl, storm_amount (by omega) hn⟩
theorem sum_amount {p q : WP} {i j : Nat} (ok : p.Ok) (ok' : q.Ok) (hi : At p i st) (hj : At q j st) (hn : st[n]? = some (.ins 16 [(49, .ref i), (50, .ref j)])) : WpR (f_SumWeather_amount_in [.ref n, .int t] st) (fun v s => v = .int (p.fall t + q.fall t) ∧ s = st) (fun _ _ => False) := by
  obtain ⟨m1, e1, w1⟩ := amount4 (t := t) ok hi
  obtain ⟨m2, e2, w2⟩ := amount4 (t := t) ok' hj
  refine Vc.b_def rfl ?_
  unfold m_SumWeather_amount_in
  repeat' array_mem_dec
  refine ⟨_, m1, hi.cls, e1, ?_⟩
  repeat' array_mem_dec
  refine Vc.via0 w1 fun v s hv => ?_
  obtain ⟨rfl, rfl⟩ := hv
  repeat' array_mem_dec
  refine ⟨_, m2, hj.cls, e2, ?_⟩
  repeat' array_mem_dec
  refine Vc.via0 w2 fun v s hv => ?_
  obtain ⟨rfl, rfl⟩ := hv
  repeat' array_mem_dec
  exact ⟨rfl, rfl⟩
theorem fall_in_spec (ok : p.Ok) (hn : At p n st) : WpR (f_Weather_fall_in [.ref n, .int t] st) (fun v s => (0 ≤ t ∧ t ≤ 1000000000000000000) ∧ v = .int (p.fall t) ∧ s = st) (fun x s => ¬(0 ≤ t ∧ t ≤ 1000000000000000000) ∧ x = ⟨4, []⟩ ∧ s = st) := by
  obtain ⟨m1, e1, w1⟩ := amount4 (t := t) ok hn
  have e1 : List.lookup p.k.cls [(15, f_Weather_amount_in), (16, f_SumWeather_amount_in), (17, f_SteadyWeather_amount_in), (18, f_SpellWeather_amount_in), (19, f_StormWeather_amount_in)] = some m1 := by
    revert e1
    cases p.k <;> exact id
  refine Vc.b_def rfl ?_
  unfold m_Weather_fall_in
  repeat' array_mem_dec
  refine Vc.via val_spec (fun v s hv => ?_) (fun e s he => ⟨he.2.2, he.1, he.2.1⟩)
  obtain ⟨rfl, rfl, h1, h2⟩ := hv
  repeat' array_mem_dec
  refine ⟨_, m1, hn.cls, e1, ?_⟩
  repeat' array_mem_dec
  refine Vc.via0 w1 fun v s hv => ?_
  obtain ⟨rfl, rfl⟩ := hv
  exact ⟨⟨h1, h2⟩, rfl, rfl⟩
theorem fall_in_sum {p q : WP} {i j : Nat} (ok : p.Ok) (ok' : q.Ok) (hi : At p i st) (hj : At q j st) (hn : st[n]? = some (.ins 16 [(49, .ref i), (50, .ref j)])) : WpR (f_Weather_fall_in [.ref n, .int t] st) (fun v s => (0 ≤ t ∧ t ≤ 1000000000000000000) ∧ v = .int (p.fall t + q.fall t) ∧ s = st) (fun x s => ¬(0 ≤ t ∧ t ≤ 1000000000000000000) ∧ x = ⟨4, []⟩ ∧ s = st) := by
  refine Vc.b_def rfl ?_
  unfold m_Weather_fall_in
  repeat' array_mem_dec
  refine Vc.via val_spec (fun v s hv => ?_) (fun e s he => ⟨he.2.2, he.1, he.2.1⟩)
  obtain ⟨rfl, rfl, h1, h2⟩ := hv
  repeat' array_mem_dec
  refine Vc.via0 (sum_amount ok ok' hi hj hn) fun v s hv => ?_
  obtain ⟨rfl, rfl⟩ := hv
  exact ⟨⟨h1, h2⟩, rfl, rfl⟩
theorem sum_init {i j : Nat} (hn : st[n]? = some (.ins 16 [])) : WpR (f_SumWeather_init [.ref n, .ref i, .ref j] st) (fun v s => v = .non ∧ s[n]? = some (.ins 16 [(49, .ref i), (50, .ref j)]) ∧ Keep [n] st s) (fun _ _ => False) := by
  refine Vc.b_def rfl ?_
  unfold m_SumWeather_init
  repeat' array_mem_dec
  rename_i s1 h1 k1 s2 h2 k2
  exact ⟨rfl, h2, k1.trans k2⟩
theorem add_spec {i j : Nat} : WpR (f_Weather_add [.ref i, .ref j] st) (fun v s => ∃ n, v = .ref n ∧ s[n]? = some (.ins 16 [(49, .ref i), (50, .ref j)]) ∧ Keep [] st s ∧ st.length ≤ n) (fun _ _ => False) := by
  refine Vc.b_def rfl ?_
  unfold m_Weather_add
  repeat' array_mem_dec
  rename_i n s1 h1 k1 l1
  refine Vc.via0 (sum_init h1) fun v s hv => ?_
  obtain ⟨rfl, h2, k2⟩ := hv
  exact ⟨rfl, n, rfl, h2, by sizeOf_list_dec, l1⟩
end
section
variable {h c n C : Nat} {st : Store} {p : WP} {t a b i : Int} {z : Str}
def firstBad : List (Str × Int × Int) → List Int → Option Str
  | w :: ws, x :: xs => if w.2.1 ≤ x ∧ x ≤ w.2.2 then firstBad ws xs else some w.1
  | _, _ => none
def words : Kd → List (Str × Int × Int)
  | .dry => []
  | .steady => [("amount", 0, 1000000)]
  | .spells => [("amount", 0, 1000000), ("wet", 1, 1000), ("dry", 1, 1000)]
  | .storms => [("amount", 0, 1000000), ("first", 0, 1000), ("every", 1, 1000)]
def wordV (w : Str × Int × Int) : Val := .tup [.str w.1, .int w.2.1, .int w.2.2]
theorem bad_eq : p.bad = firstBad (words p.k) [p.a, p.b, p.c] := by
  obtain ⟨k, a, b, c⟩ := p
  cases k <;> rfl
def dueO : Option Str → Val
  | none => .tup [.str "none"]
  | some z => .tup [.str "weather", .str z]
theorem fb_step {ws : List (Str × Int × Int)} {xs : List Int} {j : Nat} {w : Str × Int × Int} {x : Int} (hw : ws[j]? = some w) (hx : xs[j]? = some x) : firstBad (ws.drop j) (xs.drop j) = if w.2.1 ≤ x ∧ x ≤ w.2.2 then firstBad (ws.drop (j + 1)) (xs.drop (j + 1)) else some w.1 := by
  obtain ⟨h1, e1⟩ := List.getElem?_eq_some_iff.mp hw
  obtain ⟨h2, e2⟩ := List.getElem?_eq_some_iff.mp hx
  rw [List.drop_eq_getElem_cons h1, List.drop_eq_getElem_cons h2, e1, e2]
  rfl
theorem due_tail {W : List (Str × Int × Int)} {xs : List Int} {D : Nat} {v0 b3 b4 b5 b6 : Option Val} {R : Val → Store → Prop} {N1 B1 C1 B2 C2 : Slots → Store → Prop} {X : Exc → Store → Prop} (hD : st[D]? = some (.lst (W.map wordV))) (hl : W.length ≤ xs.length) (hs : W.length ≤ 3) (q : R (dueO (firstBad W xs)) st) :
    WpO (Ab.forM (Se.gSet 3)
                  (Se.sSeq
                    (Se.sAsg (Se.mBin Ab.vIx (Se.mVar 2) (Se.mVar 3))
                      (Se.gTupM 3 (Se.gsCons (Se.gSet 4) (Se.gsCons (Se.gSet 5) (Se.gsCons (Se.gSet 6) Se.gsNil)))))
                    (Se.sIf
                      (Se.tNotM
                        (Se.mTest
                          (Se.mChain Ab.vLe Ab.vLe (Se.mVar 5) (Se.mBin Ab.vIx (Se.mVar 1) (Se.mVar 3)) (Se.mVar 6))))
                      (Se.sRet
                        (Se.mTup (Se.aCons (Se.mC (Val.str (Str.ofString "weather"))) (Se.aCons (Se.mVar 4) Se.aNil))))
                      Se.sNext)) (fun _ => True) ((List.range (W.length : Int).toNat).map fun i : Nat => .int (i : Int)) [v0, some (.tup (xs.map .int)), some (.ref D), b3, b4, b5, b6] st)
      ⟨fun ρ st1 => WpO (Se.sRet (Se.mTup (Se.aCons (Se.mC (Val.str (Str.ofString "none"))) Se.aNil)) ρ st1) ⟨N1, R, B1, C1, X⟩, R, B2, C2, X⟩ := by
  refine Vc.for_l (fun d ρ s => s = st ∧ firstBad W xs = firstBad (W.drop d.length) (xs.drop d.length) ∧ ∃ b3 b4 b5 b6 : Option Val, ρ = [v0, some (.tup (xs.map .int)), some (.ref D), b3, b4, b5, b6]) (fun _ _ _ _ => trivial) ?_ ?_ ⟨rfl, rfl, _, _, _, _, rfl⟩
  · rintro d j rest ρ s e ⟨rfl, hf, b3, b4, b5, b6, rfl⟩
    have e' : List.range W.length = d ++ j :: rest := e
    have hj : d.length < W.length := by have := congrArg List.length e'; simp at this; omega
    have hjj : j = d.length := by
      have this : (List.range W.length)[d.length]? = (d ++ j :: rest)[d.length]? := by rw [e']
      rw [List.getElem?_range hj, List.getElem?_append_right (Nat.le_refl _)] at this
      simpa using this.symm
    subst hjj
    have hw : W[d.length]? = some W[d.length] := List.getElem?_eq_getElem hj
    have hx : xs[d.length]? = some xs[d.length] := List.getElem?_eq_getElem (by omega)
    generalize W[d.length] = w at hw
    generalize xs[d.length] = x at hx
    rw [fb_step hw hx] at hf
    repeat' array_mem_dec
    refine Vc.v_ixLn (f := wordV) hD hw ?_
    unfold wordV
    repeat' array_mem_dec
    refine Vc.v_ixTn (f := .int) hx ?_
    repeat' array_mem_dec
    refine Vc.ite_nd (fun hh => ?_) (fun hh => ?_)
    · repeat' array_mem_dec
      refine ⟨rfl, ?_, _, _, _, _, rfl⟩
      rw [hf, if_pos hh, List.length_append]; rfl
    · rw [hf, if_neg hh] at q
      repeat' array_mem_dec
      exact q
  · rintro ρ s ⟨rfl, hf, b3, b4, b5, b6, rfl⟩
    repeat' array_mem_dec
    rw [show firstBad W xs = none by
      rw [hf, show (List.range (W.length : Int).toNat).length = W.length by simp, List.drop_length]
      cases xs.drop W.length <;> rfl] at q
    exact q
theorem due_spec : WpR (f_law_due [.str p.k.str, .tup [.int p.a, .int p.b, .int p.c]] st) (fun v s => v = dueO p.bad ∧ Keep [] st s) (fun _ _ => False) := by
  have hb := bad_eq (p := p)
  obtain ⟨k, a, b, c⟩ := p
  rw [hb]
  dsimp only
  refine Vc.b_def rfl ?_
  unfold m_law_due
  cases k
  all_goals dsimp only [Kd.str]
  · repeat' (first | array_mem_dec | ((with_reducible refine Vc.ite_dn ?qq ?_); (case qq => decide)) | fail)
    rename_i A s1 hA k1 l1
    refine Vc.v_repL hA ⟨by decide, by decide, by simp⟩ ?_
    repeat' (first | array_mem_dec | ((with_reducible refine Vc.ite_dn ?qq ?_); (case qq => decide)) | fail)
    rename_i D s2 hD k2 l2
    refine Vc.ex_range1 (by decide) ?_
    refine due_tail (W := []) (xs := [a, b, c]) hD (by simp) (by simp) ?_
    exact ⟨rfl, by sizeOf_list_dec⟩
  · repeat' (first | array_mem_dec | ((with_reducible refine Vc.ite_dn ?qq ?_); (case qq => decide)) | fail)
    rename_i A s1 hA k1 l1
    refine Vc.v_repL hA ⟨by decide, by decide, by simp⟩ ?_
    repeat' (first | array_mem_dec | ((with_reducible refine Vc.ite_dn ?qq ?_); (case qq => decide)) | fail)
    rename_i D s2 hD k2 l2
    refine Vc.ex_range1 (by decide) ?_
    refine due_tail (W := words .steady) (xs := [a, b, c]) hD (Nat.le_of_ble_eq_true rfl) (by decide) ?_
    exact ⟨rfl, by sizeOf_list_dec⟩
  · repeat' (first | array_mem_dec | ((with_reducible refine Vc.ite_dn ?qq ?_); (case qq => decide)) | fail)
    rename_i A s1 hA k1 l1
    refine Vc.v_repL hA ⟨by decide, by decide, by simp⟩ ?_
    repeat' (first | array_mem_dec | ((with_reducible refine Vc.ite_dn ?qq ?_); (case qq => decide)) | fail)
    rename_i E s2 hE k2 l2 F s3 hF k3 l3 D s4 hD k4 l4
    refine Vc.ex_range1 (by decide) ?_
    refine due_tail (W := words .spells) (xs := [a, b, c]) hD (Nat.le_of_ble_eq_true rfl) (by decide) ?_
    exact ⟨rfl, by sizeOf_list_dec⟩
  · repeat' (first | array_mem_dec | ((with_reducible refine Vc.ite_dn ?qq ?_); (case qq => decide)) | fail)
    rename_i A s1 hA k1 l1
    refine Vc.v_repL hA ⟨by decide, by decide, by simp⟩ ?_
    repeat' (first | array_mem_dec | ((with_reducible refine Vc.ite_dn ?qq ?_); (case qq => decide)) | fail)
    rename_i E s2 hE k2 l2 F s3 hF k3 l3 D s4 hD k4 l4
    refine Vc.ex_range1 (by decide) ?_
    refine due_tail (W := words .storms) (xs := [a, b, c]) hD (Nat.le_of_ble_eq_true rfl) (by decide) ?_
    exact ⟨rfl, by sizeOf_list_dec⟩
end
section
variable {n : Nat} {st : Store} {p : WP} {z : Str}
theorem lk5 : List.lookup p.k.cls [(15, f_Weather_fall_in), (16, f_Weather_fall_in), (17, f_Weather_fall_in), (18, f_Weather_fall_in), (19, f_Weather_fall_in)] = some f_Weather_fall_in := by cases p.k <;> rfl
theorem lkK : List.lookup p.k.cls [(15, Str.ofString "dry"), (16, Str.ofString "sum"), (17, Str.ofString "steady"), (18, Str.ofString "spells"), (19, Str.ofString "storms")] = some p.k.str := by cases p.k <;> rfl
theorem cls4 : p.k.cls ∈ [15, 17, 18, 19] := by cases p.k <;> decide
theorem lay_k : PyData.canLay0 (.str p.k.str) = true := by cases p.k <;> decide +kernel
theorem lay_bad (h : p.bad = some z) : PyData.canLay0 (.str z) = true := by
  have key : ∀ (W : List (Str × Int × Int)) (xs : List Int), (∀ w ∈ W, PyData.canLay0 (.str w.1) = true) → firstBad W xs = some z → PyData.canLay0 (.str z) = true := by
    intro W
    induction W with
    | nil => intro xs _ e; cases xs <;> cases e
    | cons w ws ih =>
      intro xs hw e
      cases xs with
      | nil => cases e
      | cons x xs =>
        unfold firstBad at e
        split at e
        · exact ih xs (fun w hm => hw w (List.mem_cons_of_mem _ hm)) e
        · cases e; exact hw w List.mem_cons_self
  rw [bad_eq] at h
  refine key _ _ ?_ h
  cases p.k <;> decide +kernel
theorem tup1 {Q : Val → Store → Prop} {X : Exc → Store → Prop} {a : Str} (ha : PyData.canLay0 (.str a) = true) (q : Q (.bl false) st) : WpR (Ab.vNe (.tup [.str a]) (.tup [.str a]) st) Q X := by
  have e : Ab.deep st 16 (.tup [.str a]) = some (.tuple [.str a]) := by
    simp only [Ab.deep, Ab.mapO]
    rw [if_pos ha]
    rfl
  refine Vc.v_neTT e e ?_
  have e2 : PyData.eqv (.tuple [.str a]) (.tuple [.str a]) = true := by
    show PyData.eqvAll _ _ = true
    simp [PyData.eqvAll, PyData.eqv]
  rw [e2]
  exact q
theorem tup2 {Q : Val → Store → Prop} {X : Exc → Store → Prop} {a b : Str} (ha : PyData.canLay0 (.str a) = true) (hb : PyData.canLay0 (.str b) = true) (q : Q (.bl false) st) : WpR (Ab.vNe (.tup [.str a, .str b]) (.tup [.str a, .str b]) st) Q X := by
  have e : Ab.deep st 16 (.tup [.str a, .str b]) = some (.tuple [.str a, .str b]) := by
    simp only [Ab.deep, Ab.mapO]
    rw [if_pos ha, if_pos hb]
    rfl
  refine Vc.v_neTT e e ?_
  have e2 : PyData.eqv (.tuple [.str a, .str b]) (.tuple [.str a, .str b]) = true := by
    show PyData.eqvAll _ _ = true
    simp [PyData.eqvAll, PyData.eqv]
  rw [e2]
  exact q
theorem kinds_ne {Q : Val → Store → Prop} {X : Exc → Store → Prop} {a b : Str} {i j : Nat} (hi : st[i]? = some (.lst [.str a, .str b, .bl true])) (hj : st[j]? = some (.lst [.str a, .str b, .bl true])) (ha : PyData.canLay0 (.str a) = true) (hb : PyData.canLay0 (.str b) = true) (q : Q (.bl false) st) : WpR (Ab.vNe (.ref i) (.ref j) st) Q X := by
  have key : ∀ i, st[i]? = some (.lst [.str a, .str b, .bl true]) → Ab.deep st 16 (.ref i) = some (.list [.str a, .str b, .bool true]) := fun i hi => by
    rw [Ab.deep, Ab.seqAt_lst hi]
    simp only [Ab.deep, Ab.mapO]
    rw [if_pos ha, if_pos hb]
    rfl
  refine Vc.v_neLL (key i hi) (key j hj) ?_
  have e2 : PyData.eqv (.list [.str a, .str b, .bool true]) (.list [.str a, .str b, .bool true]) = true := by
    show PyData.eqvAll _ _ = true
    simp [PyData.eqvAll, PyData.eqv]
  rw [e2]
  exact q
theorem pickW {r : Int} (h0 : 0 ≤ r) (h1 : r < 2) : ∃ x : Int, L2.atI [.int (-1), .int (1000000000000000000 + 1)] r = some (Val.int x) ∧ ¬(0 ≤ x ∧ x ≤ 1000000000000000000) := by
  have : r = 0 ∨ r = 1 := by omega
  rcases this with e | e <;> subst e
  · exact ⟨-1, rfl, by omega⟩
  · exact ⟨_, rfl, by omega⟩
theorem pick7 {a0 a1 a2 a3 a4 a5 a6 : Int} {r : Int} (h0 : 0 ≤ r) (h1 : r < 7) : ∃ x : Int, L2.atI [.int a0, .int a1, .int a2, .int a3, .int a4, .int a5, .int a6] r = some (Val.int x) := by
  have : r = 0 ∨ r = 1 ∨ r = 2 ∨ r = 3 ∨ r = 4 ∨ r = 5 ∨ r = 6 := by omega
  rcases this with e | e | e | e | e | e | e <;> subst e <;> exact ⟨_, rfl⟩
theorem nums {k : Int} (h0 : 0 ≤ k) (h1 : k < 3) (x : Int) : (Ab.cut [Val.int p.a, Val.int p.b, Val.int p.c] none (some k)).length ≤ 3 ∧ (Ab.cut [Val.int p.a, Val.int p.b, Val.int p.c] (some (k + 1)) none).length ≤ 3 ∧ ∃ a b c : Int, Ab.cut [Val.int p.a, Val.int p.b, Val.int p.c] none (some k) ++ [Val.int x] ++ Ab.cut [Val.int p.a, Val.int p.b, Val.int p.c] (some (k + 1)) none = [Val.int a, Val.int b, Val.int c] := by
  have : k = 0 ∨ k = 1 ∨ k = 2 := by omega
  rcases this with e | e | e <;> subst e
  · exact ⟨Nat.le_of_ble_eq_true rfl, Nat.le_of_ble_eq_true rfl, x, p.b, p.c, rfl⟩
  · exact ⟨Nat.le_of_ble_eq_true rfl, Nat.le_of_ble_eq_true rfl, p.a, x, p.c, rfl⟩
  · exact ⟨Nat.le_of_ble_eq_true rfl, Nat.le_of_ble_eq_true rfl, p.a, p.b, x, rfl⟩
end
theorem law_spec {ns : List Int} {cell : Cell} (hs : seqAt [cell] 0 = some (ns.map .int)) (hl : ns.length ≤ 63) : WpR (Ab.defM 1 13 m_law [.ref 0] [cell]) (fun v _ => v = .bl true) (fun _ _ => False) := by
  refine Vc.b_def rfl ?_
  unfold m_law
  repeat' array_mem_dec
  refine Vc.via0 (mix_spec hs hl (by decide) (by decide)) fun v s1 hv => ?_
  obtain ⟨h, c, rfl, d1, k1⟩ := hv
  repeat' array_mem_dec
  refine Vc.ex_range1 (by omega) ?_
  refine Vc.for_l (fun _ ρ s => Draws h c s ∧ ∃ (b2 b3 b4 b5 b6 b7 b8 b9 b10 b11 b12 b13 : Option Val), ρ = [some (.ref 0), some (.ref h), b2, b3, b4, b5, b6, b7, b8, b9, b10, b11, b12, b13]) (fun _ _ _ _ => trivial) ?_ ?_ ⟨d1, _, _, _, _, _, _, _, _, _, _, _, _, rfl⟩
  · rintro _ n _ ρ s2 _ ⟨d2, b2, b3, b4, b5, b6, b7, b8, b9, b10, b11, b12, b13, rfl⟩
    repeat' array_mem_dec
    refine Vc.via0 (spec_spec d2) fun v s3 hv => ?_
    obtain ⟨⟨p, rfl, ok⟩, d3, k3⟩ := hv
    repeat' array_mem_dec
    refine Vc.via0 (spec_spec d3) fun v s4 hv => ?_
    obtain ⟨⟨q, rfl, ok'⟩, d4, k4⟩ := hv
    repeat' array_mem_dec
    refine Vc.via weather_spec (fun v s5 hv => ?_) (fun e s he => by obtain ⟨z, hz, _⟩ := he; rw [ok.good] at hz; cases hz)
    obtain ⟨i, rfl, _, hi, k5, l5⟩ := hv
    repeat' array_mem_dec
    refine Vc.via weather_spec (fun v s6 hv => ?_) (fun e s he => by obtain ⟨z, hz, _⟩ := he; rw [ok'.good] at hz; cases hz)
    obtain ⟨j, rfl, _, hj, k6, l6⟩ := hv
    have hi6 : At p i s6 := k6.get hi (by simp)
    have hj6 : At q j s6 := hj
    refine ⟨_, _, hi6.cls, hj6.cls, cls4, cls4, ?_⟩
    refine Vc.via0 add_spec fun v s7 hv => ?_
    obtain ⟨B, rfl, hB, k7, l7⟩ := hv
    have d7 := ((d4.keep k5 (by simp) (by simp)).keep k6 (by simp) (by simp)).keep k7 (by simp) (by simp)
    have hi7 : At p i s7 := k7.get hi6 (by simp)
    have hj7 : At q j s7 := k7.get hj6 (by simp)
    repeat' array_mem_dec
    refine Vc.via0 (next_spec d7 (by decide) (by decide)) fun v s8 hv => ?_
    obtain ⟨⟨t1, rfl, t10, t11⟩, d8, k8⟩ := hv
    repeat' array_mem_dec
    refine Vc.via0 (next_spec d8 (by decide) (by decide)) fun v s9 hv => ?_
    obtain ⟨⟨t2, rfl, t20, t21⟩, d9, k9⟩ := hv
    have lh4 := lt1 d4
    have ni : i ∉ [h, c] := by simp; omega
    have nj : j ∉ [h, c] := by have := k5.1; simp; omega
    have nB : B ∉ [h, c] := by have := k5.1; have := k6.1; simp; omega
    have kk := k8.trans k9
    have hi9 : At p i s9 := kk.get hi7 ni
    have hj9 : At q j s9 := kk.get hj7 nj
    have hB9 := kk.get hB nB
    repeat' array_mem_dec
    show WpO (Ab.forM _ _ _ (([0, t1, t2, 1000000000000000000] : List Int).map .int) _ _) _
    refine Vc.for_l (fun _ ρ s => Keep [] s9 s ∧ ∃ (b7 : Option Val), ρ = [some (.ref 0), some (.ref h), some (.int n), some p.val, some q.val, some (.ref i), some (.ref B), b7, b8, b9, b10, b11, b12, b13]) (fun _ _ _ _ => trivial) ?_ ?_ ⟨Keep.refl, _, rfl⟩
    · rintro dn t rest ρ s10 e ⟨k10, b7, rfl⟩
      have ht : 0 ≤ t ∧ t ≤ 1000000000000000000 := by
        have hm : t ∈ ([0, t1, t2, 1000000000000000000] : List Int) := by rw [e]; simp
        simp only [List.mem_cons, List.not_mem_nil, or_false] at hm
        omega
      have hi10 : At p i s10 := k10.get hi9 (by simp)
      have hj10 : At q j s10 := k10.get hj9 (by simp)
      have hB10 := k10.get hB9 (by simp)
      repeat' array_mem_dec
      refine ⟨_, _, hi10.cls, lk5, ?_⟩
      repeat' array_mem_dec
      refine Vc.via (fall_in_spec ok hi10) (fun v s hv => ?_) (fun e s he => absurd ht he.1)
      obtain ⟨_, rfl, rfl⟩ := hv
      repeat' array_mem_dec
      refine Vc.via0 (fall_spec ok) fun v s hv => ?_
      obtain ⟨rfl, rfl⟩ := hv
      repeat' array_mem_dec
      refine Vc.via0 (alike_spec (Vc.alike_flat rfl)) fun v s11 hv => ?_
      obtain ⟨rfl, k11⟩ := hv
      have hi11 : At p i s11 := k11.get hi10 (by simp)
      have hj11 : At q j s11 := k11.get hj10 (by simp)
      have hB11 := k11.get hB10 (by simp)
      repeat' array_mem_dec
      refine Vc.via (fall_in_sum ok ok' hi11 hj11 hB11) (fun v s hv => ?_) (fun e s he => absurd ht he.1)
      obtain ⟨_, rfl, rfl⟩ := hv
      repeat' array_mem_dec
      refine Vc.via0 (fall_spec ok) fun v s hv => ?_
      obtain ⟨rfl, rfl⟩ := hv
      repeat' array_mem_dec
      refine Vc.via0 (fall_spec ok') fun v s hv => ?_
      obtain ⟨rfl, rfl⟩ := hv
      repeat' array_mem_dec
      refine Vc.via0 (alike_spec (Vc.alike_flat rfl)) fun v s12 hv => ?_
      obtain ⟨rfl, k12⟩ := hv
      repeat' array_mem_dec
      exact ⟨(k10.trans k11).trans k12, _, rfl⟩
    · rintro ρ s10 ⟨k10, b7, rfl⟩
      have hi10 : At p i s10 := k10.get hi9 (by simp)
      have hj10 : At q j s10 := k10.get hj9 (by simp)
      have hB10 := k10.get hB9 (by simp)
      have d10 := d9.keep k10 (by simp) (by simp)
      repeat' array_mem_dec
      refine ⟨_, _, hi10.cls, lkK, ?_⟩
      repeat' array_mem_dec
      refine ⟨16, _, Vc.cls_at hB10, rfl, ?_⟩
      repeat' array_mem_dec
      rename_i A1 s11 hA1 k11 l11
      unfold WP.val
      repeat' array_mem_dec
      rename_i A2 s12 hA2 k12 l12
      refine kinds_ne (k12.get hA1 (by simp)) hA2 lay_k (by decide +kernel) ?_
      have hB12 := k12.get (k11.get hB10 (by simp)) (by simp)
      have hi12 : At p i s12 := k12.get (k11.get hi10 (by simp)) (by simp)
      have hj12 : At q j s12 := k12.get (k11.get hj10 (by simp)) (by simp)
      have d12 := (d10.keep k11 (by simp) (by simp)).keep k12 (by simp) (by simp)
      repeat' array_mem_dec
      rename_i A3 s13 hA3 k13 l13
      have d13 := d12.keep k13 (by simp) (by simp)
      have lh12 := lt1 d12
      refine Vc.via0 (next_spec d13 (by decide) (by decide)) fun v s14 hv => ?_
      obtain ⟨⟨r, rfl, r0, r1⟩, d14, k14⟩ := hv
      obtain ⟨w, hw, w0⟩ := pickW r0 r1
      refine Vc.v_ixL (k14.get hA3 (by simp; omega)) hw ?_
      have hB14 := k14.get (k13.get hB12 (by simp)) nB
      have hi14 : At p i s14 := k14.get (k13.get hi12 (by simp)) ni
      have hj14 : At q j s14 := k14.get (k13.get hj12 (by simp)) nj
      repeat' array_mem_dec
      refine Vc.via (fall_in_sum ok ok' hi14 hj14 hB14) (fun v s hv => absurd hv.1 w0) (fun e s he => ?_)
      obtain ⟨_, rfl, rfl⟩ := he
      refine ⟨[.str "number"], rfl, rfl, ?_⟩
      repeat' array_mem_dec
      refine tup1 (by decide +kernel) ?_
      repeat' array_mem_dec
      refine Vc.via0 (next_spec d14 (by decide) (by decide)) fun v s15 hv => ?_
      obtain ⟨⟨kx, rfl, kx0, kx1⟩, d15, k15⟩ := hv
      repeat' array_mem_dec
      rename_i A4 s16 hA4 k16 l16
      have d16 := d15.keep k16 (by simp) (by simp)
      have lh15 := lt1 d15
      refine Vc.via0 (next_spec d16 (by decide) (by decide)) fun v s17 hv => ?_
      obtain ⟨⟨y, rfl, y0, y1⟩, d17, k17⟩ := hv
      obtain ⟨odd, hodd⟩ := pick7 (a0 := -1) (a1 := 0) (a2 := 1) (a3 := 1000) (a4 := 1001) (a5 := 1000000) (a6 := 1000000 + 1) y0 y1
      refine Vc.v_ixL (k17.get hA4 (by simp; omega)) hodd ?_
      repeat' array_mem_dec
      obtain ⟨q1, q2, a', b', c', hn⟩ := nums (p := p) kx0 kx1 odd
      refine Vc.v_addT (by show _ + 1 ≤ _; omega) ?_
      repeat' array_mem_dec
      rw [hn]
      show WpR (f_law_weather [(WP.mk p.k a' b' c').val] _) _ _
      have dE := d17
      refine Vc.via weather_spec (fun v s18 hv => ?_) (fun e s18 he => ?_)
      · obtain ⟨i', rfl, hbd, _, k18, l18⟩ := hv
        have d18 := dE.keep k18 (by simp) (by simp)
        repeat' array_mem_dec
        refine Vc.via0 (due_spec (p := WP.mk p.k a' b' c')) fun v s19 hv => ?_
        obtain ⟨rfl, k19⟩ := hv
        rw [hbd]
        unfold dueO
        repeat' (first | array_mem_dec | ((with_reducible refine Vc.ite_dn ?qq ?_); (case qq => decide)) | fail)
        refine tup1 (by decide +kernel) ?_
        repeat' array_mem_dec
        exact ⟨d18.keep k19 (by simp) (by simp), _, _, _, _, _, _, _, _, _, _, _, _, rfl⟩
      · obtain ⟨z, hz, rfl, k18⟩ := he
        have d18 := dE.keep k18 (by simp) (by simp)
        refine ⟨[.str "weather", .str z], rfl, rfl, ?_⟩
        repeat' array_mem_dec
        refine Vc.via0 (due_spec (p := WP.mk p.k a' b' c')) fun v s19 hv => ?_
        obtain ⟨rfl, k19⟩ := hv
        rw [hz]
        unfold dueO
        repeat' (first | array_mem_dec | ((with_reducible refine Vc.ite_dn ?qq ?_); (case qq => decide)) | fail)
        refine tup2 (by decide +kernel) (lay_bad hz) ?_
        repeat' array_mem_dec
        exact ⟨d18.keep k19 (by simp) (by simp), _, _, _, _, _, _, _, _, _, _, _, _, rfl⟩
  · rintro ρ s2 ⟨d2, b2, b3, b4, b5, b6, b7, b8, b9, b10, b11, b12, b13, rfl⟩
    repeat' array_mem_dec
    rename_i W s3 hW k3 l3
    have ok0 : (WP.mk .dry 0 0 1).Ok := ⟨by decide, by decide, by decide, by decide, (fun h => nomatch h), by decide, by decide⟩
    refine Vc.via (fall_in_spec (p := WP.mk .dry 0 0 1) ok0 hW) (fun v s hv => ?_) (fun e s he => absurd (by decide) he.1)
    obtain ⟨_, rfl, rfl⟩ := hv
    repeat' array_mem_dec
    rfl
theorem plain (ns : List Int) (cell : Cell) (hc : Ab.IsScript ns cell) (hl : ns.length ≤ 63) (hb : ∀ z ∈ ns, Builtin.Int.intBits z ≤ 1048576) : ∃ st', Ab.defM 1 13 m_law [.ref 0] [cell] = .ok (.bl true) st' := by
  have hs : seqAt [cell] 0 = some (ns.map .int) := by rcases hc with e | e <;> subst e <;> rfl
  obtain ⟨a, st', e, h⟩ := Ab.wp_eq (Vc.to_ab (law_spec hs hl))
  exact ⟨st', by rw [e, h]⟩
end K41

set_option Elab.async false
set_option linter.all false
open PySem PySem.W PyProof.Rows in
set_option maxRecDepth 100000 in
set_option maxHeartbeats 0 in
theorem PySem.Challenge.cw_barrelrow_k41_whole_weather_holds : PySem.Challenge.rw_barrelrow_k41_whole_weather.Holds := by
  w_on; o_law; k_head; (case hw => w_witness2)
  k_fill
  refine LamX.walk_ofOwn (l := PySem.Challenge.rw_barrelrow_k41_whole_weather) (n := 63) (k := 10) (CX := fun w => L2.CX PySem.Challenge.rw_barrelrow_k41_whole_weather.prog w) (x := "_law_script") rfl (by decide) rfl ⟨rfl, by decide, by decide⟩ (by decide +kernel) (fun w h Y => by first | exact PySem.W.km_in_of Y | exact PySem.W.kIn_of Y) ?F (fun w H s e s' hx => by
    obtain ⟨_, _, _, _, _, _, _, _, _, _, _, _, z⟩ := hx
    exact z)
  case F =>
    intro w mg fa h Y KX G hmg own
    refine' K41.end_at KX G own hmg ?fx K41.plain ?a_law ?z1 ?z2 ?lk ?hcd ?lc ?h11 ?nP ?hh
    (case a_law => k_is); (case z1 => k_is); (case z2 => k_is); (case lk => k_is); (case hcd => k_is); (case lc => k_is); (case h11 => first | rfl | decide +kernel); (case nP => first | k_is | rfl | decide +kernel); (case hh => first | rfl | decide +kernel)
    case fx =>
      refine' K41.fx_mk KX G ?z_list ?z_range ?z_len ?z_max ?z_int ?v_MAX_RAIN ?v_MAX_TICKS ?z_super ?v_MAX_TICK ?z_isinstance ?z_dict ?z_tuple ?z_str ?z_bool ?z_ValueError ?z_OtherRain ?z_Contradiction ?a_law_mix ?a_law_next ?a_law_spec ?a_Weather ?a_validate_part ?a_SteadyWeather ?a_SpellWeather ?a_StormWeather ?a_law_weather ?a_SumWeather ?a_law_fall ?a_InvalidNumber ?a_validate_number ?a_law_alike ?a_DecodeError ?a_DaybookError ?a_InvalidText ?a_InvalidRow ?a_InvalidOperation ?a_UnknownBarrel ?a_InvalidWeather ?a_law_outcome ?a_RowError ?a_law_due ?ii_SteadyWeather ?ii_SpellWeather ?ii_StormWeather ?ii_SumWeather ?at_Weather__Weather_add ?at_SteadyWeather__Weather_add ?at_SpellWeather__Weather_add ?at_StormWeather__Weather_add ?at_Weather_amount_in ?at_SteadyWeather_amount_in ?at_SpellWeather_amount_in ?at_StormWeather_amount_in ?at_SumWeather_amount_in ?at_Weather_fall_in ?at_SumWeather__Weather_fall_in ?at_SteadyWeather__Weather_fall_in ?at_SpellWeather__Weather_fall_in ?at_StormWeather__Weather_fall_in ?at_StormWeather_KIND ?at_SpellWeather_KIND ?at_SteadyWeather_KIND ?at_SumWeather_KIND ?at_Weather_KIND ?ii_InvalidWeather ?l_law_mix ?l_law_next ?l_law_spec ?l_validate_part ?l_SteadyWeather_init ?l_SpellWeather_init ?l_StormWeather_init ?l_law_weather ?l_SumWeather_init ?l_Weather_add ?l_law_fall ?l_validate_number ?l_Weather_amount_in ?l_SteadyWeather_amount_in ?l_SpellWeather_amount_in ?l_StormWeather_amount_in ?l_SumWeather_amount_in ?l_Weather_fall_in ?l_law_alike ?l_law_outcome ?l_law_due ?l_x_InvalidWeather ?xL_x_InvalidNumber ?xL_x_InvalidWeather ?lc_SpellWeather_init ?lc_StormWeather_init ?fv_SpellWeather_init ?fv_StormWeather_init ?le_SpellWeather_init ?le_StormWeather_init ?c_law_mix ?k_law_mix ?c_law_next ?k_law_next ?c_law_spec ?k_law_spec ?mk_Weather ?io_Weather ?kc_Weather ?c_validate_part ?k_validate_part ?pg_SteadyWeather ?hd_SteadyWeather ?po_SteadyWeather ?sa_SteadyWeather ?no_SteadyWeather_amount ?pg_SpellWeather ?hd_SpellWeather ?po_SpellWeather ?sa_SpellWeather ?no_SpellWeather_amount ?pg_StormWeather ?hd_StormWeather ?po_StormWeather ?sa_StormWeather ?no_StormWeather_amount ?c_SteadyWeather_init ?k_SteadyWeather_init ?mk_SteadyWeather ?if_SteadyWeather ?kc_SteadyWeather ?no_SpellWeather_wet ?no_SpellWeather_dry ?mk_SpellWeather ?if_SpellWeather ?kc_SpellWeather ?c_SpellWeather_init ?k_SpellWeather_init ?fq_SpellWeather_init ?ci_SpellWeather ?mr_SpellWeather ?sp_SpellWeather ?ti_SteadyWeather_init ?fi2_SteadyWeather_init ?any_ ?fq_top ?no_StormWeather_first ?no_StormWeather_every ?mk_StormWeather ?if_StormWeather ?kc_StormWeather ?c_StormWeather_init ?k_StormWeather_init ?fq_StormWeather_init ?ci_StormWeather ?mr_StormWeather ?sp_StormWeather ?c_law_weather ?k_law_weather ?pg_SumWeather ?hd_SumWeather ?po_SumWeather ?sa_SumWeather ?no_SumWeather_one ?no_SumWeather_other ?c_SumWeather_init ?k_SumWeather_init ?mk_SumWeather ?if_SumWeather ?kc_SumWeather ?c_Weather_add ?k_Weather_add ?i_Weather_add ?tyr_ ?sf_Weather ?rr_Weather__Weather_add ?rd_Weather ?ck_Weather ?ms_Weather ?sb_Weather_Weather ?sb_SteadyWeather_Weather ?sb_SpellWeather_Weather ?sb_StormWeather_Weather ?sf_SteadyWeather ?rr_SteadyWeather__Weather_add ?rd_SteadyWeather ?ck_SteadyWeather ?ms_SteadyWeather ?sb_Weather_SteadyWeather ?sb_SteadyWeather_SteadyWeather ?sb_SpellWeather_SteadyWeather ?sb_StormWeather_SteadyWeather ?sf_SpellWeather ?rr_SpellWeather__Weather_add ?rd_SpellWeather ?ck_SpellWeather ?ms_SpellWeather ?sb_Weather_SpellWeather ?sb_SteadyWeather_SpellWeather ?sb_SpellWeather_SpellWeather ?sb_StormWeather_SpellWeather ?sf_StormWeather ?rr_StormWeather__Weather_add ?rd_StormWeather ?ck_StormWeather ?ms_StormWeather ?sb_Weather_StormWeather ?sb_SteadyWeather_StormWeather ?sb_SpellWeather_StormWeather ?sb_StormWeather_StormWeather ?c_law_fall ?k_law_fall ?rV_x_InvalidNumber ?sa_InvalidNumber ?bx_InvalidNumber ?tx_InvalidNumber ?kc_InvalidNumber ?ib_InvalidNumber ?c_validate_number ?k_validate_number ?c_Weather_amount_in ?k_Weather_amount_in ?pg_Weather ?hd_Weather ?po_Weather ?sa_Weather ?i_Weather_amount_in ?c_SteadyWeather_amount_in ?k_SteadyWeather_amount_in ?i_SteadyWeather_amount_in ?c_SpellWeather_amount_in ?k_SpellWeather_amount_in ?i_SpellWeather_amount_in ?c_StormWeather_amount_in ?k_StormWeather_amount_in ?i_StormWeather_amount_in ?c_SumWeather_amount_in ?k_SumWeather_amount_in ?i_SumWeather_amount_in ?c_Weather_fall_in ?k_Weather_fall_in ?i_Weather_fall_in ?c_law_alike ?k_law_alike ?kt_Weather ?oc_get ?oc_tak ?ha_SumWeather ?hm_SumWeather ?ko_SumWeather_Weather ?sg_StormWeather_KIND ?sg_SpellWeather_KIND ?sg_SteadyWeather_KIND ?sg_SumWeather_KIND ?sg_Weather_KIND ?c_law_outcome ?k_law_outcome ?bx_RowError ?hd_RowError ?tx_RowError ?hg_InvalidRow ?hk_InvalidRow ?bx_InvalidRow ?hd_InvalidRow ?ha_InvalidRow ?hm_InvalidRow ?no_InvalidRow_part ?no_InvalidRow_index ?no_InvalidRow_name ?no_InvalidRow_line ?no_InvalidRow_offset ?ko_InvalidRow_InvalidRow ?ko_InvalidRow_UnknownBarrel ?ko_InvalidRow_InvalidNumber ?ko_InvalidRow_InvalidWeather ?ko_InvalidRow_InvalidOperation ?ko_InvalidRow_InvalidText ?ko_InvalidRow_DaybookError ?ko_InvalidRow_DecodeError ?kv_InvalidRow ?sr_InvalidRow ?hg_UnknownBarrel ?hk_UnknownBarrel ?bx_UnknownBarrel ?hd_UnknownBarrel ?ha_UnknownBarrel ?hm_UnknownBarrel ?no_UnknownBarrel_part ?no_UnknownBarrel_index ?no_UnknownBarrel_name ?no_UnknownBarrel_line ?no_UnknownBarrel_offset ?ko_UnknownBarrel_InvalidRow ?ko_UnknownBarrel_UnknownBarrel ?ko_UnknownBarrel_InvalidNumber ?ko_UnknownBarrel_InvalidWeather ?ko_UnknownBarrel_InvalidOperation ?ko_UnknownBarrel_InvalidText ?ko_UnknownBarrel_DaybookError ?ko_UnknownBarrel_DecodeError ?kv_UnknownBarrel ?sr_UnknownBarrel ?hg_InvalidNumber ?hk_InvalidNumber ?hd_InvalidNumber ?ha_InvalidNumber ?hm_InvalidNumber ?no_InvalidNumber_part ?no_InvalidNumber_index ?no_InvalidNumber_name ?no_InvalidNumber_line ?no_InvalidNumber_offset ?ko_InvalidNumber_InvalidRow ?ko_InvalidNumber_UnknownBarrel ?ko_InvalidNumber_InvalidNumber ?ko_InvalidNumber_InvalidWeather ?ko_InvalidNumber_InvalidOperation ?ko_InvalidNumber_InvalidText ?ko_InvalidNumber_DaybookError ?ko_InvalidNumber_DecodeError ?kv_InvalidNumber ?sr_InvalidNumber ?hg_InvalidWeather ?hk_InvalidWeather ?bx_InvalidWeather ?hd_InvalidWeather ?ha_InvalidWeather ?hm_InvalidWeather ?no_InvalidWeather_part ?no_InvalidWeather_index ?no_InvalidWeather_name ?no_InvalidWeather_line ?no_InvalidWeather_offset ?ko_InvalidWeather_InvalidRow ?ko_InvalidWeather_UnknownBarrel ?ko_InvalidWeather_InvalidNumber ?ko_InvalidWeather_InvalidWeather ?ko_InvalidWeather_InvalidOperation ?ko_InvalidWeather_InvalidText ?ko_InvalidWeather_DaybookError ?ko_InvalidWeather_DecodeError ?kv_InvalidWeather ?sr_InvalidWeather ?hg_InvalidOperation ?hk_InvalidOperation ?bx_InvalidOperation ?hd_InvalidOperation ?ha_InvalidOperation ?hm_InvalidOperation ?no_InvalidOperation_part ?no_InvalidOperation_index ?no_InvalidOperation_name ?no_InvalidOperation_line ?no_InvalidOperation_offset ?ko_InvalidOperation_InvalidRow ?ko_InvalidOperation_UnknownBarrel ?ko_InvalidOperation_InvalidNumber ?ko_InvalidOperation_InvalidWeather ?ko_InvalidOperation_InvalidOperation ?ko_InvalidOperation_InvalidText ?ko_InvalidOperation_DaybookError ?ko_InvalidOperation_DecodeError ?kv_InvalidOperation ?sr_InvalidOperation ?hg_InvalidText ?hk_InvalidText ?bx_InvalidText ?hd_InvalidText ?ha_InvalidText ?hm_InvalidText ?no_InvalidText_part ?no_InvalidText_index ?no_InvalidText_name ?no_InvalidText_line ?no_InvalidText_offset ?ko_InvalidText_InvalidRow ?ko_InvalidText_UnknownBarrel ?ko_InvalidText_InvalidNumber ?ko_InvalidText_InvalidWeather ?ko_InvalidText_InvalidOperation ?ko_InvalidText_InvalidText ?ko_InvalidText_DaybookError ?ko_InvalidText_DecodeError ?kv_InvalidText ?sr_InvalidText ?hg_DaybookError ?hk_DaybookError ?bx_DaybookError ?hd_DaybookError ?ha_DaybookError ?hm_DaybookError ?no_DaybookError_part ?no_DaybookError_index ?no_DaybookError_name ?no_DaybookError_line ?no_DaybookError_offset ?ko_DaybookError_InvalidRow ?ko_DaybookError_UnknownBarrel ?ko_DaybookError_InvalidNumber ?ko_DaybookError_InvalidWeather ?ko_DaybookError_InvalidOperation ?ko_DaybookError_InvalidText ?ko_DaybookError_DaybookError ?ko_DaybookError_DecodeError ?kv_DaybookError ?sr_DaybookError ?hg_DecodeError ?hk_DecodeError ?bx_DecodeError ?hd_DecodeError ?ha_DecodeError ?hm_DecodeError ?no_DecodeError_part ?no_DecodeError_index ?no_DecodeError_name ?no_DecodeError_line ?no_DecodeError_offset ?ko_DecodeError_InvalidRow ?ko_DecodeError_UnknownBarrel ?ko_DecodeError_InvalidNumber ?ko_DecodeError_InvalidWeather ?ko_DecodeError_InvalidOperation ?ko_DecodeError_InvalidText ?ko_DecodeError_DaybookError ?ko_DecodeError_DecodeError ?kv_DecodeError ?sr_DecodeError ?c_law_due ?k_law_due ?ga_Weather ?cv_KIND ?c_x_InvalidWeather ?k_x_InvalidWeather ?rd_RowError ?ga_RowError ?iv_RowError ?rV_x_InvalidWeather ?sa_InvalidWeather ?tx_InvalidWeather ?kc_InvalidWeather ?ti_InvalidWeather
      (case z_list => k_is)
      (case z_range => k_is)
      (case z_len => k_is)
      (case z_max => k_is)
      (case z_int => k_is)
      (case v_MAX_RAIN => k_is)
      (case v_MAX_TICKS => k_is)
      (case z_super => k_is)
      (case v_MAX_TICK => k_is)
      (case z_isinstance => k_is)
      (case z_dict => k_is)
      (case z_tuple => k_is)
      (case z_str => k_is)
      (case z_bool => k_is)
      (case z_ValueError => k_is)
      (case z_OtherRain => k_is)
      (case z_Contradiction => k_is)
      (case a_law_mix => k_is)
      (case a_law_next => k_is)
      (case a_law_spec => k_is)
      (case a_Weather => k_is)
      (case a_validate_part => k_is)
      (case a_SteadyWeather => k_is)
      (case a_SpellWeather => k_is)
      (case a_StormWeather => k_is)
      (case a_law_weather => k_is)
      (case a_SumWeather => k_is)
      (case a_law_fall => k_is)
      (case a_InvalidNumber => k_is)
      (case a_validate_number => k_is)
      (case a_law_alike => k_is)
      (case a_DecodeError => k_is)
      (case a_DaybookError => k_is)
      (case a_InvalidText => k_is)
      (case a_InvalidRow => k_is)
      (case a_InvalidOperation => k_is)
      (case a_UnknownBarrel => k_is)
      (case a_InvalidWeather => k_is)
      (case a_law_outcome => k_is)
      (case a_RowError => k_is)
      (case a_law_due => k_is)
      (case ii_SteadyWeather => k_is)
      (case ii_SpellWeather => k_is)
      (case ii_StormWeather => k_is)
      (case ii_SumWeather => k_is)
      (case at_Weather__Weather_add => k_is)
      (case at_SteadyWeather__Weather_add => k_is)
      (case at_SpellWeather__Weather_add => k_is)
      (case at_StormWeather__Weather_add => k_is)
      (case at_Weather_amount_in => k_is)
      (case at_SteadyWeather_amount_in => k_is)
      (case at_SpellWeather_amount_in => k_is)
      (case at_StormWeather_amount_in => k_is)
      (case at_SumWeather_amount_in => k_is)
      (case at_Weather_fall_in => k_is)
      (case at_SumWeather__Weather_fall_in => k_is)
      (case at_SteadyWeather__Weather_fall_in => k_is)
      (case at_SpellWeather__Weather_fall_in => k_is)
      (case at_StormWeather__Weather_fall_in => k_is)
      (case at_StormWeather_KIND => k_is)
      (case at_SpellWeather_KIND => k_is)
      (case at_SteadyWeather_KIND => k_is)
      (case at_SumWeather_KIND => k_is)
      (case at_Weather_KIND => k_is)
      (case ii_InvalidWeather => k_is)
      (case l_law_mix => k_is)
      (case l_law_next => k_is)
      (case l_law_spec => k_is)
      (case l_validate_part => k_is)
      (case l_SteadyWeather_init => k_is)
      (case l_SpellWeather_init => k_is)
      (case l_StormWeather_init => k_is)
      (case l_law_weather => k_is)
      (case l_SumWeather_init => k_is)
      (case l_Weather_add => k_is)
      (case l_law_fall => k_is)
      (case l_validate_number => k_is)
      (case l_Weather_amount_in => k_is)
      (case l_SteadyWeather_amount_in => k_is)
      (case l_SpellWeather_amount_in => k_is)
      (case l_StormWeather_amount_in => k_is)
      (case l_SumWeather_amount_in => k_is)
      (case l_Weather_fall_in => k_is)
      (case l_law_alike => k_is)
      (case l_law_outcome => k_is)
      (case l_law_due => k_is)
      (case l_x_InvalidWeather => k_is)
      (case xL_x_InvalidNumber => k_is)
      (case xL_x_InvalidWeather => k_is)
      (case lc_SpellWeather_init => k_is)
      (case lc_StormWeather_init => k_is)
      (case fv_SpellWeather_init => first | rfl | decide +kernel)
      (case fv_StormWeather_init => first | rfl | decide +kernel)
      (case le_SpellWeather_init => k_is)
      (case le_StormWeather_init => k_is)
      (case c_law_mix => k_is)
      (case k_law_mix => k_is)
      (case c_law_next => k_is)
      (case k_law_next => k_is)
      (case c_law_spec => k_is)
      (case k_law_spec => k_is)
      (case mk_Weather => k_is)
      (case io_Weather => k_is)
      (case kc_Weather => k_is)
      (case c_validate_part => k_is)
      (case k_validate_part => k_is)
      (case pg_SteadyWeather => k_is)
      (case hd_SteadyWeather => k_is)
      (case po_SteadyWeather => k_is)
      (case sa_SteadyWeather => k_is)
      (case no_SteadyWeather_amount => k_is)
      (case pg_SpellWeather => k_is)
      (case hd_SpellWeather => k_is)
      (case po_SpellWeather => k_is)
      (case sa_SpellWeather => k_is)
      (case no_SpellWeather_amount => k_is)
      (case pg_StormWeather => k_is)
      (case hd_StormWeather => k_is)
      (case po_StormWeather => k_is)
      (case sa_StormWeather => k_is)
      (case no_StormWeather_amount => k_is)
      (case c_SteadyWeather_init => k_is)
      (case k_SteadyWeather_init => k_is)
      (case mk_SteadyWeather => k_is)
      (case if_SteadyWeather => k_is)
      (case kc_SteadyWeather => k_is)
      (case no_SpellWeather_wet => k_is)
      (case no_SpellWeather_dry => k_is)
      (case mk_SpellWeather => k_is)
      (case if_SpellWeather => k_is)
      (case kc_SpellWeather => k_is)
      (case c_SpellWeather_init => k_is)
      (case k_SpellWeather_init => k_is)
      (case fq_SpellWeather_init => first | rfl | decide +kernel)
      (case ci_SpellWeather => k_is)
      (case mr_SpellWeather => k_is)
      (case sp_SpellWeather => ks_is)
      (case ti_SteadyWeather_init => k_is)
      (case fi2_SteadyWeather_init => k_is)
      (case any_ => k_is)
      (case fq_top => first | rfl | decide +kernel)
      (case no_StormWeather_first => k_is)
      (case no_StormWeather_every => k_is)
      (case mk_StormWeather => k_is)
      (case if_StormWeather => k_is)
      (case kc_StormWeather => k_is)
      (case c_StormWeather_init => k_is)
      (case k_StormWeather_init => k_is)
      (case fq_StormWeather_init => first | rfl | decide +kernel)
      (case ci_StormWeather => k_is)
      (case mr_StormWeather => k_is)
      (case sp_StormWeather => ks_is)
      (case c_law_weather => k_is)
      (case k_law_weather => k_is)
      (case pg_SumWeather => k_is)
      (case hd_SumWeather => k_is)
      (case po_SumWeather => k_is)
      (case sa_SumWeather => k_is)
      (case no_SumWeather_one => k_is)
      (case no_SumWeather_other => k_is)
      (case c_SumWeather_init => k_is)
      (case k_SumWeather_init => k_is)
      (case mk_SumWeather => k_is)
      (case if_SumWeather => k_is)
      (case kc_SumWeather => k_is)
      (case c_Weather_add => k_is)
      (case k_Weather_add => k_is)
      (case i_Weather_add => k_is)
      (case tyr_ => k_is)
      (case sf_Weather => k_is)
      (case rr_Weather__Weather_add => k_is)
      (case rd_Weather => k_is)
      (case ck_Weather => k_is)
      (case ms_Weather => first | rfl | decide +kernel)
      (case sb_Weather_Weather => k_is)
      (case sb_SteadyWeather_Weather => k_is)
      (case sb_SpellWeather_Weather => k_is)
      (case sb_StormWeather_Weather => k_is)
      (case sf_SteadyWeather => k_is)
      (case rr_SteadyWeather__Weather_add => k_is)
      (case rd_SteadyWeather => k_is)
      (case ck_SteadyWeather => k_is)
      (case ms_SteadyWeather => first | rfl | decide +kernel)
      (case sb_Weather_SteadyWeather => k_is)
      (case sb_SteadyWeather_SteadyWeather => k_is)
      (case sb_SpellWeather_SteadyWeather => k_is)
      (case sb_StormWeather_SteadyWeather => k_is)
      (case sf_SpellWeather => k_is)
      (case rr_SpellWeather__Weather_add => k_is)
      (case rd_SpellWeather => k_is)
      (case ck_SpellWeather => k_is)
      (case ms_SpellWeather => first | rfl | decide +kernel)
      (case sb_Weather_SpellWeather => k_is)
      (case sb_SteadyWeather_SpellWeather => k_is)
      (case sb_SpellWeather_SpellWeather => k_is)
      (case sb_StormWeather_SpellWeather => k_is)
      (case sf_StormWeather => k_is)
      (case rr_StormWeather__Weather_add => k_is)
      (case rd_StormWeather => k_is)
      (case ck_StormWeather => k_is)
      (case ms_StormWeather => first | rfl | decide +kernel)
      (case sb_Weather_StormWeather => k_is)
      (case sb_SteadyWeather_StormWeather => k_is)
      (case sb_SpellWeather_StormWeather => k_is)
      (case sb_StormWeather_StormWeather => k_is)
      (case c_law_fall => k_is)
      (case k_law_fall => k_is)
      (case rV_x_InvalidNumber => decide +kernel)
      (case sa_InvalidNumber => k_is)
      (case bx_InvalidNumber => k_is)
      (case tx_InvalidNumber => k_is)
      (case kc_InvalidNumber => k_is)
      (case ib_InvalidNumber => k_is)
      (case c_validate_number => k_is)
      (case k_validate_number => k_is)
      (case c_Weather_amount_in => k_is)
      (case k_Weather_amount_in => k_is)
      (case pg_Weather => k_is)
      (case hd_Weather => k_is)
      (case po_Weather => k_is)
      (case sa_Weather => k_is)
      (case i_Weather_amount_in => k_is)
      (case c_SteadyWeather_amount_in => k_is)
      (case k_SteadyWeather_amount_in => k_is)
      (case i_SteadyWeather_amount_in => k_is)
      (case c_SpellWeather_amount_in => k_is)
      (case k_SpellWeather_amount_in => k_is)
      (case i_SpellWeather_amount_in => k_is)
      (case c_StormWeather_amount_in => k_is)
      (case k_StormWeather_amount_in => k_is)
      (case i_StormWeather_amount_in => k_is)
      (case c_SumWeather_amount_in => k_is)
      (case k_SumWeather_amount_in => k_is)
      (case i_SumWeather_amount_in => k_is)
      (case c_Weather_fall_in => k_is)
      (case k_Weather_fall_in => k_is)
      (case i_Weather_fall_in => k_is)
      (case c_law_alike => k_is)
      (case k_law_alike => k_is)
      (case kt_Weather => first | kit_is | k_is)
      (case oc_get => k_is)
      (case oc_tak => k_is)
      (case ha_SumWeather => k_is)
      (case hm_SumWeather => k_is)
      (case ko_SumWeather_Weather => first | kit_is | k_is)
      (case sg_StormWeather_KIND => k_is)
      (case sg_SpellWeather_KIND => k_is)
      (case sg_SteadyWeather_KIND => k_is)
      (case sg_SumWeather_KIND => k_is)
      (case sg_Weather_KIND => k_is)
      (case c_law_outcome => k_is)
      (case k_law_outcome => k_is)
      (case bx_RowError => k_is)
      (case hd_RowError => k_is)
      (case tx_RowError => k_is)
      (case hg_InvalidRow => k_is)
      (case hk_InvalidRow => k_is)
      (case bx_InvalidRow => k_is)
      (case hd_InvalidRow => k_is)
      (case ha_InvalidRow => k_is)
      (case hm_InvalidRow => k_is)
      (case no_InvalidRow_part => k_is)
      (case no_InvalidRow_index => k_is)
      (case no_InvalidRow_name => k_is)
      (case no_InvalidRow_line => k_is)
      (case no_InvalidRow_offset => k_is)
      (case ko_InvalidRow_InvalidRow => first | kit_is | k_is)
      (case ko_InvalidRow_UnknownBarrel => first | kit_is | k_is)
      (case ko_InvalidRow_InvalidNumber => first | kit_is | k_is)
      (case ko_InvalidRow_InvalidWeather => first | kit_is | k_is)
      (case ko_InvalidRow_InvalidOperation => first | kit_is | k_is)
      (case ko_InvalidRow_InvalidText => first | kit_is | k_is)
      (case ko_InvalidRow_DaybookError => first | kit_is | k_is)
      (case ko_InvalidRow_DecodeError => first | kit_is | k_is)
      (case kv_InvalidRow => first | kit_is | k_is)
      (case sr_InvalidRow => k_is)
      (case hg_UnknownBarrel => k_is)
      (case hk_UnknownBarrel => k_is)
      (case bx_UnknownBarrel => k_is)
      (case hd_UnknownBarrel => k_is)
      (case ha_UnknownBarrel => k_is)
      (case hm_UnknownBarrel => k_is)
      (case no_UnknownBarrel_part => k_is)
      (case no_UnknownBarrel_index => k_is)
      (case no_UnknownBarrel_name => k_is)
      (case no_UnknownBarrel_line => k_is)
      (case no_UnknownBarrel_offset => k_is)
      (case ko_UnknownBarrel_InvalidRow => first | kit_is | k_is)
      (case ko_UnknownBarrel_UnknownBarrel => first | kit_is | k_is)
      (case ko_UnknownBarrel_InvalidNumber => first | kit_is | k_is)
      (case ko_UnknownBarrel_InvalidWeather => first | kit_is | k_is)
      (case ko_UnknownBarrel_InvalidOperation => first | kit_is | k_is)
      (case ko_UnknownBarrel_InvalidText => first | kit_is | k_is)
      (case ko_UnknownBarrel_DaybookError => first | kit_is | k_is)
      (case ko_UnknownBarrel_DecodeError => first | kit_is | k_is)
      (case kv_UnknownBarrel => first | kit_is | k_is)
      (case sr_UnknownBarrel => k_is)
      (case hg_InvalidNumber => k_is)
      (case hk_InvalidNumber => k_is)
      (case hd_InvalidNumber => k_is)
      (case ha_InvalidNumber => k_is)
      (case hm_InvalidNumber => k_is)
      (case no_InvalidNumber_part => k_is)
      (case no_InvalidNumber_index => k_is)
      (case no_InvalidNumber_name => k_is)
      (case no_InvalidNumber_line => k_is)
      (case no_InvalidNumber_offset => k_is)
      (case ko_InvalidNumber_InvalidRow => first | kit_is | k_is)
      (case ko_InvalidNumber_UnknownBarrel => first | kit_is | k_is)
      (case ko_InvalidNumber_InvalidNumber => first | kit_is | k_is)
      (case ko_InvalidNumber_InvalidWeather => first | kit_is | k_is)
      (case ko_InvalidNumber_InvalidOperation => first | kit_is | k_is)
      (case ko_InvalidNumber_InvalidText => first | kit_is | k_is)
      (case ko_InvalidNumber_DaybookError => first | kit_is | k_is)
      (case ko_InvalidNumber_DecodeError => first | kit_is | k_is)
      (case kv_InvalidNumber => first | kit_is | k_is)
      (case sr_InvalidNumber => k_is)
      (case hg_InvalidWeather => k_is)
      (case hk_InvalidWeather => k_is)
      (case bx_InvalidWeather => k_is)
      (case hd_InvalidWeather => k_is)
      (case ha_InvalidWeather => k_is)
      (case hm_InvalidWeather => k_is)
      (case no_InvalidWeather_part => k_is)
      (case no_InvalidWeather_index => k_is)
      (case no_InvalidWeather_name => k_is)
      (case no_InvalidWeather_line => k_is)
      (case no_InvalidWeather_offset => k_is)
      (case ko_InvalidWeather_InvalidRow => first | kit_is | k_is)
      (case ko_InvalidWeather_UnknownBarrel => first | kit_is | k_is)
      (case ko_InvalidWeather_InvalidNumber => first | kit_is | k_is)
      (case ko_InvalidWeather_InvalidWeather => first | kit_is | k_is)
      (case ko_InvalidWeather_InvalidOperation => first | kit_is | k_is)
      (case ko_InvalidWeather_InvalidText => first | kit_is | k_is)
      (case ko_InvalidWeather_DaybookError => first | kit_is | k_is)
      (case ko_InvalidWeather_DecodeError => first | kit_is | k_is)
      (case kv_InvalidWeather => first | kit_is | k_is)
      (case sr_InvalidWeather => k_is)
      (case hg_InvalidOperation => k_is)
      (case hk_InvalidOperation => k_is)
      (case bx_InvalidOperation => k_is)
      (case hd_InvalidOperation => k_is)
      (case ha_InvalidOperation => k_is)
      (case hm_InvalidOperation => k_is)
      (case no_InvalidOperation_part => k_is)
      (case no_InvalidOperation_index => k_is)
      (case no_InvalidOperation_name => k_is)
      (case no_InvalidOperation_line => k_is)
      (case no_InvalidOperation_offset => k_is)
      (case ko_InvalidOperation_InvalidRow => first | kit_is | k_is)
      (case ko_InvalidOperation_UnknownBarrel => first | kit_is | k_is)
      (case ko_InvalidOperation_InvalidNumber => first | kit_is | k_is)
      (case ko_InvalidOperation_InvalidWeather => first | kit_is | k_is)
      (case ko_InvalidOperation_InvalidOperation => first | kit_is | k_is)
      (case ko_InvalidOperation_InvalidText => first | kit_is | k_is)
      (case ko_InvalidOperation_DaybookError => first | kit_is | k_is)
      (case ko_InvalidOperation_DecodeError => first | kit_is | k_is)
      (case kv_InvalidOperation => first | kit_is | k_is)
      (case sr_InvalidOperation => k_is)
      (case hg_InvalidText => k_is)
      (case hk_InvalidText => k_is)
      (case bx_InvalidText => k_is)
      (case hd_InvalidText => k_is)
      (case ha_InvalidText => k_is)
      (case hm_InvalidText => k_is)
      (case no_InvalidText_part => k_is)
      (case no_InvalidText_index => k_is)
      (case no_InvalidText_name => k_is)
      (case no_InvalidText_line => k_is)
      (case no_InvalidText_offset => k_is)
      (case ko_InvalidText_InvalidRow => first | kit_is | k_is)
      (case ko_InvalidText_UnknownBarrel => first | kit_is | k_is)
      (case ko_InvalidText_InvalidNumber => first | kit_is | k_is)
      (case ko_InvalidText_InvalidWeather => first | kit_is | k_is)
      (case ko_InvalidText_InvalidOperation => first | kit_is | k_is)
      (case ko_InvalidText_InvalidText => first | kit_is | k_is)
      (case ko_InvalidText_DaybookError => first | kit_is | k_is)
      (case ko_InvalidText_DecodeError => first | kit_is | k_is)
      (case kv_InvalidText => first | kit_is | k_is)
      (case sr_InvalidText => k_is)
      (case hg_DaybookError => k_is)
      (case hk_DaybookError => k_is)
      (case bx_DaybookError => k_is)
      (case hd_DaybookError => k_is)
      (case ha_DaybookError => k_is)
      (case hm_DaybookError => k_is)
      (case no_DaybookError_part => k_is)
      (case no_DaybookError_index => k_is)
      (case no_DaybookError_name => k_is)
      (case no_DaybookError_line => k_is)
      (case no_DaybookError_offset => k_is)
      (case ko_DaybookError_InvalidRow => first | kit_is | k_is)
      (case ko_DaybookError_UnknownBarrel => first | kit_is | k_is)
      (case ko_DaybookError_InvalidNumber => first | kit_is | k_is)
      (case ko_DaybookError_InvalidWeather => first | kit_is | k_is)
      (case ko_DaybookError_InvalidOperation => first | kit_is | k_is)
      (case ko_DaybookError_InvalidText => first | kit_is | k_is)
      (case ko_DaybookError_DaybookError => first | kit_is | k_is)
      (case ko_DaybookError_DecodeError => first | kit_is | k_is)
      (case kv_DaybookError => first | kit_is | k_is)
      (case sr_DaybookError => k_is)
      (case hg_DecodeError => k_is)
      (case hk_DecodeError => k_is)
      (case bx_DecodeError => k_is)
      (case hd_DecodeError => k_is)
      (case ha_DecodeError => k_is)
      (case hm_DecodeError => k_is)
      (case no_DecodeError_part => k_is)
      (case no_DecodeError_index => k_is)
      (case no_DecodeError_name => k_is)
      (case no_DecodeError_line => k_is)
      (case no_DecodeError_offset => k_is)
      (case ko_DecodeError_InvalidRow => first | kit_is | k_is)
      (case ko_DecodeError_UnknownBarrel => first | kit_is | k_is)
      (case ko_DecodeError_InvalidNumber => first | kit_is | k_is)
      (case ko_DecodeError_InvalidWeather => first | kit_is | k_is)
      (case ko_DecodeError_InvalidOperation => first | kit_is | k_is)
      (case ko_DecodeError_InvalidText => first | kit_is | k_is)
      (case ko_DecodeError_DaybookError => first | kit_is | k_is)
      (case ko_DecodeError_DecodeError => first | kit_is | k_is)
      (case kv_DecodeError => first | kit_is | k_is)
      (case sr_DecodeError => k_is)
      (case c_law_due => k_is)
      (case k_law_due => k_is)
      (case ga_Weather => k_is)
      (case cv_KIND => k_is)
      (case c_x_InvalidWeather => k_is)
      (case k_x_InvalidWeather => k_is)
      (case rd_RowError => k_is)
      (case ga_RowError => k_is)
      (case iv_RowError => k_is)
      (case rV_x_InvalidWeather => decide +kernel)
      (case sa_InvalidWeather => k_is)
      (case tx_InvalidWeather => k_is)
      (case kc_InvalidWeather => k_is)
      (case ti_InvalidWeather => k_is)
