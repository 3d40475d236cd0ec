import PyProof.Rows.All
import Wide.All
import OpenK.AllK
import Wide.FinOn
import PyProof.EqAt
import PyProof.EqKinds
import PyProof.TupleCall
import HandS.ForMost
import HandS.ForExc
import HandS.TupAny
import HandS.Lambda
import HandS.Wide
import HandS.Property
import HandS.Zip
import KE.GoesEnum
import KE.GoesZip
import KE.KFromBytes
import HandS.Base
import HandS.Call
import HandS.List
import HandS.Ends
import HandS.Exc
import HandS.ExcInit
import HandS.Defaults
import HandS.WordsExc
import HandS.IsInst
import HandS.ExcField
import HandS.ExcIs
import KE.KExcIs
import HandS.SetFor
import HandS.Star
import HandS.ClsMeth
import OpenK.KOps
import OpenK.KMeth
import HandS.Dict
import HandS.DictComp
import HandS.ListItems
import HandS.TupMul
import KE.KCallOwn
import KE.KTupSum
import KE.KOpsOwn
import KE.KUnpackStar
import HandS.EndOwn
import HandS.NestedK
import PySem.Challenge.RW_barrelrow_k10_repeated_calls
set_option Elab.async false
set_option linter.all false
set_option maxRecDepth 100000
/-! Ab: a second abstract layer over the hand layer. Tuples are values, lists and instances are cells of a store; each def becomes a plain Lean function (its mirror) and its promise says: hands back what the mirror computes. -/
namespace Ab
open PySem PySem.Spec L2

/-- the names of classes and attributes, by number -/
def nmT : List Str := (["RowError", "InvalidRow", "UnknownBarrel", "OtherRain", "InvalidNumber", "Contradiction", "InvalidWeather", "InvalidOperation"] : List Str) ++ (["InvalidText", "DaybookError", "DecodeError", "Stretch", "Flow", "Row", "RainObserver", "Weather"] : List Str) ++ (["SumWeather", "SteadyWeather", "SpellWeather", "StormWeather", "LiveRow", "Trial", "Daybook", "CodeReader"] : List Str) ++ (["part", "index", "name", "line", "offset", "weather", "parts", "begin"] : List Str) ++ (["count", "first_level", "step", "inflow", "capacity", "draws", "stretches", "settled"] : List Str) ++ (["row", "low", "high", "accepted", "amount", "wet", "dry", "first"] : List Str) ++ (["every", "one", "other", "plan", "water", "passed", "gone", "shut"] : List Str) ++ (["past", "future", "events", "code"] : List Str)
def nm (i : Nat) : Str := nmT.getD i ""
def nmN : Nat := nmT.length
theorem nmT_nodup : nmT.Nodup := by decide +kernel
theorem nm_inj {i j : Nat} (hi : i < nmN) (hj : j < nmN) (h : nm i = nm j) : i = j := by
  unfold nm at h
  rw [List.getD_eq_getElem?_getD, List.getD_eq_getElem?_getD, List.getElem?_eq_getElem hi, List.getElem?_eq_getElem hj] at h
  exact (List.getElem_inj nmT_nodup).mp h

inductive Val where
  | non | bl (b : Bool) | int (i : Int) | str (s : Str) | tup (xs : List Val) | ref (n : Nat) | gl (x : Nat) | adr (a : Addr)

/-- an exception of a class of the program: the class's global name, its own fields -/
structure Exc where
  cls : Nat
  fs : List (Nat × Val)

inductive Cell where
  | lst (xs : List Val)
  | frz (xs : List Val)
  | ins (C : Nat) (fs : List (Nat × Val))
  | dct (kvs : List (Key × Val))
  | fdc (kvs : List (Key × Val))
  | xfs (d : Addr) (fs : List (Nat × Val))

abbrev Store := List Cell
abbrev Slots := List (Option Val)

inductive R (α : Type) where
  | ok (a : α) (st : Store)
  | exc (x : Exc) (st : Store)
  | bad
inductive O where
  | nx (ρ : Slots) (st : Store)
  | ret (v : Val) (st : Store)
  | brk (ρ : Slots) (st : Store)
  | ct (ρ : Slots) (st : Store)
  | exc (x : Exc) (ρ : Slots) (st : Store)
  | bad

@[reducible] def R.bind {α β : Type} (r : R α) (f : α → Store → R β) : R β := match r with
  | .ok a st => f a st
  | .exc x st => .exc x st
  | .bad => .bad

abbrev ME := Slots → Store → R Val
abbrev MT := Slots → Store → R Bool
abbrev MA := Slots → Store → R (List Val)
abbrev MS := Slots → Store → O
abbrev MF := List Val → Store → R Val

/-! ### how values and cells lie in the abstract heap -/
section
variable (mg : Str → Option Value) (ι : List Addr) (H : Hp)
mutual
def Rep : Val → V → Prop
  | .non, v => v = .non
  | .bl b, v => v = .bl b
  | .int i, v => v = .int i
  | .str s, v => v = .str s
  | .tup xs, v => ∃ a vs, v = .ref a ∧ H a = some (.tup vs) ∧ Reps xs vs
  | .ref n, v => ∃ a, v = .ref a ∧ ι[n]? = some a
  | .gl x, v => ∃ a, v = .ref a ∧ mg (nm x) = some (.ref a)
  | .adr a, v => v = .ref a
def Reps : List Val → List V → Prop
  | [], vs => vs = []
  | x :: xs, vs => ∃ v r, vs = v :: r ∧ Rep x v ∧ Reps xs r
end
end

/-- fields, by name -/
def RepF (mg : Str → Option Value) (ι : List Addr) (H : Hp) : List (Nat × Val) → List (Str × V) → Prop := Paired fun p q => p.1 < nmN ∧ nm p.1 = q.1 ∧ Rep mg ι H p.2 q.2
def RepK (mg : Str → Option Value) (ι : List Addr) (H : Hp) : List (Key × Val) → List (Key × V) → Prop := Paired fun p q => p.1 = q.1 ∧ Rep mg ι H p.2 q.2

/-- a list of the written part -/
def KL (K : PySem.W.Frag) (a : Addr) (xs : List V) : Prop :=
  ∃ (o : Obj) (its : Array Value) (n : Nat), K.lookup a = some o ∧ o.cls = .type "list" ∧ o.dict = none ∧ o.data = .seq its n ∧ its.size ≤ sizeLine ∧ Vals xs its.toList
def CellOk (K : PySem.W.Frag) (mg : Str → Option Value) (ι : List Addr) (H : Hp) (a : Addr) : Cell → Prop
  | .lst xs => ∃ vs, H a = some (.lst vs) ∧ Reps mg ι H xs vs
  | .frz xs => ∃ vs, ((∃ o, H a = some (.frz o (.lst vs))) ∨ KL K a vs) ∧ Reps mg ι H xs vs
  | .ins C fs => ∃ Ca dx vs, mg (nm C) = some (.ref Ca) ∧ H a = some (.ins Ca dx vs) ∧ RepF mg ι H fs vs
  | .dct kvs => ∃ vs, H a = some (.dK vs) ∧ RepK mg ι H kvs vs
  | .fdc kvs => ∃ od vs, H a = some (.frz od (.dK vs)) ∧ RepK mg ι H kvs vs
  | .xfs d fs => a = d ∧ ∃ vs, H a = some (.xd vs) ∧ RepF mg ι H fs vs

def Cell.live : Cell → Bool
  | .frz _ => false
  | .xfs _ _ => false
  | _ => true

/-- the defs that make lambdas; the table of code objects of each -/
def lamNames : List Str := ["law", "_law_refused", "_law_changed"]
def tabOf (K : PySem.W.Frag) (mg : Str → Option Value) (x : Str) : Option (Addr × Str) := match mg x with
  | some (.ref f) => match K.lookup f with
    | some ⟨_, _, .func fd, _⟩ => match fd.code with
      | .ref c => match K.lookup c with
        | some ⟨_, _, .fields vs, _⟩ => match (vs[11]? : Option Value) with
          | some (Value.ref P) => some (P, x ++ ".<locals>." ++ "<lambda>")
          | _ => none
        | _ => none
      | _ => none
    | _ => none
  | _ => none
def tabsOf (K : PySem.W.Frag) (mg : Str → Option Value) : List (Addr × Str) := lamNames.filterMap (tabOf K mg)
structure Sim (K : PySem.W.Frag) (mg : Str → Option Value) (ι : List Addr) (st : Store) (H : Hp) : Prop where
  len : ι.length = st.length
  inj : ∀ (n m : Nat) (a : Addr) (c d : Cell), ι[n]? = some a → ι[m]? = some a → st[n]? = some c → st[m]? = some d → c.live = true → d.live = true → n = m
  cell : ∀ (n : Nat) (c : Cell) (a : Addr), st[n]? = some c → ι[n]? = some a → CellOk K mg ι H a c
  tabs : LamX.Tabs (tabsOf K mg) H

def SlotsOk (mg : Str → Option Value) (ι : List Addr) (H : Hp) (ρ : Slots) (σ : St) : Prop :=
  ρ.length = σ.length ∧ ∀ (i : Nat) (w : Val), ρ[i]? = some (some w) → ∃ v, σ[i]? = some (some v) ∧ Rep mg ι H w v

structure Later (ι : List Addr) (H : Hp) (ι' : List Addr) (H' : Hp) : Prop where
  pre : ∃ more, ι' = ι ++ more
  tups : ∀ b xs, H b = some (.tup xs) → H' b = some (.tup xs)
  frzs : ∀ b o ks, H b = some (.frz o (.dK ks)) → H' b = some (.frz o (.dK ks))

theorem Later.refl (ι : List Addr) (H : Hp) : Later ι H ι H := ⟨⟨[], by simp⟩, fun _ _ h => h, fun _ _ _ h => h⟩
theorem Later.trans {ι ι1 ι2 : List Addr} {H H1 H2 : Hp} (a : Later ι H ι1 H1) (b : Later ι1 H1 ι2 H2) : Later ι H ι2 H2 := by
  obtain ⟨m1, e1⟩ := a.pre
  obtain ⟨m2, e2⟩ := b.pre
  exact ⟨⟨m1 ++ m2, by rw [e2, e1, List.append_assoc]⟩, fun c xs h => b.tups c xs (a.tups c xs h), fun c o k h => b.frzs c o k (a.frzs c o k h)⟩
theorem Later.get {ι ι' : List Addr} {H H' : Hp} (l : Later ι H ι' H') {n : Nat} {a : Addr} (h : ι[n]? = some a) : ι'[n]? = some a := by
  obtain ⟨m, e⟩ := l.pre
  rw [e, List.getElem?_append_left (List.getElem?_eq_some_iff.mp h).1]
  exact h

section
variable {mg : Str → Option Value} {ι ι' : List Addr} {H H' : Hp}
mutual
theorem Rep.later (l : Later ι H ι' H') : ∀ {w : Val} {v : V}, Rep mg ι H w v → Rep mg ι' H' w v
  | .non, _, h => by simpa [Rep] using h
  | .bl _, _, h => by simpa [Rep] using h
  | .int _, _, h => by simpa [Rep] using h
  | .str _, _, h => by simpa [Rep] using h
  | .tup xs, v, h => by
    rw [Rep] at h ⊢
    obtain ⟨a, vs, e, ha, hr⟩ := h
    exact ⟨a, vs, e, l.tups _ _ ha, Reps.later l hr⟩
  | .ref n, v, h => by
    rw [Rep] at h ⊢
    obtain ⟨a, e, ha⟩ := h
    exact ⟨a, e, l.get ha⟩
  | .gl x, v, h => by simpa [Rep] using h
  | .adr _, _, h => by simpa [Rep] using h
theorem Reps.later (l : Later ι H ι' H') : ∀ {ws : List Val} {vs : List V}, Reps mg ι H ws vs → Reps mg ι' H' ws vs
  | [], _, h => by simpa [Reps] using h
  | w :: ws, vs, h => by
    rw [Reps] at h ⊢
    obtain ⟨v, r, e, h1, h2⟩ := h
    exact ⟨v, r, e, Rep.later l h1, Reps.later l h2⟩
end
theorem RepF.later (l : Later ι H ι' H') : ∀ {ws : List (Nat × Val)} {vs : List (Str × V)}, RepF mg ι H ws vs → RepF mg ι' H' ws vs
  | _, _, .nil => .nil
  | _, _, .cons h t => .cons ⟨h.1, h.2.1, h.2.2.later l⟩ (RepF.later l t)
theorem RepK.later (l : Later ι H ι' H') : ∀ {ws : List (Key × Val)} {vs : List (Key × V)}, RepK mg ι H ws vs → RepK mg ι' H' ws vs
  | _, _, .nil => .nil
  | _, _, .cons h t => .cons ⟨h.1, h.2.later l⟩ (RepK.later l t)
theorem SlotsOk.later (l : Later ι H ι' H') {ρ : Slots} {σ : St} (h : SlotsOk mg ι H ρ σ) : SlotsOk mg ι' H' ρ σ :=
  ⟨h.1, fun i w e => let ⟨v, e2, r⟩ := h.2 i w e; ⟨v, e2, r.later l⟩⟩
theorem SlotsOk.set {ρ : Slots} {σ : St} (h : SlotsOk mg ι H ρ σ) (i : Nat) {w : Val} {v : V} (r : Rep mg ι H w v) : SlotsOk mg ι H (ρ.set i (some w)) (σ.set i (some v)) := by
  refine ⟨by simp [h.1], fun j u e => ?_⟩
  by_cases hj : i = j
  · subst hj
    rw [List.getElem?_set] at e
    by_cases hl : i < ρ.length
    · simp [hl] at e
      subst e
      exact ⟨v, by rw [List.getElem?_set]; simp [← h.1, hl], r⟩
    · simp [hl] at e
  · rw [List.getElem?_set_ne hj] at e
    obtain ⟨v', e2, r'⟩ := h.2 j u e
    exact ⟨v', by rw [List.getElem?_set_ne hj]; exact e2, r'⟩
theorem Reps.length : ∀ {ws : List Val} {vs : List V}, Reps mg ι H ws vs → ws.length = vs.length
  | [], _, h => by rw [Reps] at h; subst h; rfl
  | w :: ws, vs, h => by
    rw [Reps] at h
    obtain ⟨v, r, e, _, h2⟩ := h
    subst e
    simp [Reps.length h2]
theorem Reps.nil : Reps mg ι H [] [] := by rw [Reps]
theorem Reps.cons {w : Val} {ws : List Val} {v : V} {vs : List V} (h : Rep mg ι H w v) (t : Reps mg ι H ws vs) : Reps mg ι H (w :: ws) (v :: vs) := by
  rw [Reps]; exact ⟨v, vs, rfl, h, t⟩
theorem Reps.of_cons {w : Val} {ws : List Val} {vs : List V} (h : Reps mg ι H (w :: ws) vs) : ∃ v r, vs = v :: r ∧ Rep mg ι H w v ∧ Reps mg ι H ws r := by
  rw [Reps] at h; exact h
theorem Reps.of_nil {vs : List V} (h : Reps mg ι H [] vs) : vs = [] := by rw [Reps] at h; exact h
theorem Reps.append : ∀ {ws ws' : List Val} {vs vs' : List V}, Reps mg ι H ws vs → Reps mg ι H ws' vs' → Reps mg ι H (ws ++ ws') (vs ++ vs')
  | [], _, _, _, h, h' => by rw [h.of_nil]; exact h'
  | w :: ws, _, _, _, h, h' => by
    obtain ⟨v, r, e, h1, h2⟩ := h.of_cons
    subst e
    exact .cons h1 (Reps.append h2 h')
theorem Reps.get : ∀ {ws : List Val} {vs : List V} {i : Nat} {w : Val}, Reps mg ι H ws vs → ws[i]? = some w → ∃ v, vs[i]? = some v ∧ Rep mg ι H w v
  | [], _, _, _, _, e => by simp at e
  | w :: ws, _, 0, _, h, e => by
    obtain ⟨v, r, e1, h1, h2⟩ := h.of_cons
    subst e1
    simp at e; subst e
    exact ⟨v, rfl, h1⟩
  | w :: ws, _, i + 1, u, h, e => by
    obtain ⟨v, r, e1, h1, h2⟩ := h.of_cons
    subst e1
    obtain ⟨v', e2, r2⟩ := Reps.get (i := i) h2 (by simpa using e)
    exact ⟨v', by simpa using e2, r2⟩
theorem Reps.get' {ws : List Val} {vs : List V} {i : Nat} {v : V} (h : Reps mg ι H ws vs) (e : vs[i]? = some v) : ∃ w, ws[i]? = some w ∧ Rep mg ι H w v := by
  have hl : i < ws.length := by rw [h.length]; exact (List.getElem?_eq_some_iff.mp e).1
  obtain ⟨v', e2, r⟩ := h.get (List.getElem?_eq_getElem hl)
  rw [e] at e2; cases e2
  exact ⟨_, List.getElem?_eq_getElem hl, r⟩
theorem Reps.set {w : Val} {v : V} (r : Rep mg ι H w v) : ∀ {ws : List Val} {vs : List V} (i : Nat), Reps mg ι H ws vs → Reps mg ι H (ws.set i w) (vs.set i v)
  | [], _, _, h => by rw [h.of_nil]; exact .nil
  | _ :: _, _, 0, h => by
    obtain ⟨_, _, e, _, h2⟩ := h.of_cons
    subst e
    exact .cons r h2
  | _ :: _, _, i + 1, h => by
    obtain ⟨_, _, e, h1, h2⟩ := h.of_cons
    subst e
    exact .cons h1 (Reps.set r i h2)
theorem Reps.drop : ∀ {ws : List Val} {vs : List V} (n : Nat), Reps mg ι H ws vs → Reps mg ι H (ws.drop n) (vs.drop n)
  | _, _, 0, h => by simpa using h
  | [], _, n + 1, h => by rw [h.of_nil]; exact .nil
  | _ :: _, _, n + 1, h => by
    obtain ⟨_, _, e, _, h2⟩ := h.of_cons
    subst e
    simpa using Reps.drop n h2
theorem Reps.take : ∀ {ws : List Val} {vs : List V} (n : Nat), Reps mg ι H ws vs → Reps mg ι H (ws.take n) (vs.take n)
  | _, _, 0, h => by simpa using Reps.nil
  | [], _, n + 1, h => by rw [h.of_nil]; exact .nil
  | _ :: _, _, n + 1, h => by
    obtain ⟨_, _, e, h1, h2⟩ := h.of_cons
    subst e
    simpa using Reps.cons h1 (Reps.take n h2)
theorem RepF.lookup {f : Nat} {w : Val} (hf : f < nmN) : ∀ {ws : List (Nat × Val)} {vs : List (Str × V)}, RepF mg ι H ws vs → ws.lookup f = some w → ∃ v, vs.lookup (nm f) = some v ∧ Rep mg ι H w v
  | _, _, .nil, e => by simp at e
  | (n, u) :: ws, _, .cons (b := (n', v)) h t, e => by
    obtain ⟨h0, h1, h2⟩ := h
    simp only at h0 h1 h2
    subst h1
    rw [List.lookup_cons] at e ⊢
    by_cases q : f = n
    · subst q
      simp only [beq_self_eq_true] at e ⊢
      cases e
      exact ⟨v, rfl, h2⟩
    · have q1 : (f == n) = false := beq_eq_false_iff_ne.mpr q
      have q2 : (nm f == nm n) = false := beq_eq_false_iff_ne.mpr fun z => q (nm_inj hf h0 z)
      rw [q1] at e
      rw [q2]
      exact RepF.lookup hf t e
/-- a name that no attribute of ours has -/
theorem RepF.lookup_other {m : Str} (hm : m ∉ nmT) : ∀ {ws : List (Nat × Val)} {vs : List (Str × V)}, RepF mg ι H ws vs → vs.lookup m = none
  | _, _, .nil => by simp
  | (n, u) :: ws, _, .cons (b := (n', v)) h t => by
    obtain ⟨h0, h1, h2⟩ := h
    simp only at h0 h1 h2
    subst h1
    rw [List.lookup_cons]
    have q2 : (m == nm n) = false := beq_eq_false_iff_ne.mpr fun z => hm (by
      rw [z]
      unfold nm
      rw [List.getD_eq_getElem?_getD, List.getElem?_eq_getElem h0]
      exact List.getElem_mem _)
    rw [q2]
    exact RepF.lookup_other hm t
def putM (f : Nat) (w : Val) : List (Nat × Val) → List (Nat × Val)
  | [] => [(f, w)]
  | (g, u) :: r => if g = f then (f, w) :: r else (g, u) :: putM f w r
theorem RepF.put {f : Nat} {w : Val} {v : V} (hf : f < nmN) (r : Rep mg ι H w v) : ∀ {ws : List (Nat × Val)} {vs : List (Str × V)}, RepF mg ι H ws vs → RepF mg ι H (putM f w ws) (putF (nm f) v vs)
  | _, _, .nil => .cons ⟨hf, rfl, r⟩ .nil
  | (n, u) :: ws, _, .cons (b := (n', v')) h t => by
    obtain ⟨h0, h1, h2⟩ := h
    simp only at h0 h1 h2
    subst h1
    unfold putM putF
    by_cases q : n = f
    · subst q
      rw [if_pos rfl, if_pos rfl]
      exact .cons ⟨hf, rfl, r⟩ t
    · rw [if_neg q, if_neg fun z => q (nm_inj h0 hf z)]
      exact .cons ⟨h0, rfl, h2⟩ (RepF.put hf r t)
theorem RepF.length : ∀ {ws : List (Nat × Val)} {vs : List (Str × V)}, RepF mg ι H ws vs → ws.length = vs.length
  | _, _, .nil => rfl
  | _, _, .cons _ t => by simp [RepF.length t]
end

/-! ### changes of the heap -/
section
variable {K : PySem.W.Frag} {mg : Str → Option Value} {ι : List Addr} {st : Store} {H : Hp}
theorem CellOk.keep {ι' : List Addr} {H' : Hp} {a : Addr} {c : Cell} (x : CellOk K mg ι H a c) (l : Later ι H ι' H') (h : ∀ o, H a = some o → H' a = some o) : CellOk K mg ι' H' a c := by
  cases c with
  | lst xs => obtain ⟨vs, e, r⟩ := x; exact ⟨vs, h _ e, r.later l⟩
  | frz xs =>
    obtain ⟨vs, e, r⟩ := x
    refine ⟨vs, ?_, r.later l⟩
    rcases e with ⟨o, e⟩ | e
    · exact .inl ⟨o, h _ e⟩
    · exact .inr e
  | ins C fs => obtain ⟨Ca, dx, vs, e1, e2, r⟩ := x; exact ⟨Ca, dx, vs, e1, h _ e2, r.later l⟩
  | dct kvs => obtain ⟨vs, e, r⟩ := x; exact ⟨vs, h _ e, r.later l⟩
  | fdc kvs => obtain ⟨od, vs, e, r⟩ := x; exact ⟨od, vs, h _ e, r.later l⟩
  | xfs d fs => obtain ⟨ed, vs, e, r⟩ := x; exact ⟨ed, vs, h _ e, r.later l⟩
theorem CellOk.later {ι' : List Addr} {a : Addr} {c : Cell} (x : CellOk K mg ι H a c) (l : Later ι H ι' H) : CellOk K mg ι' H a c := x.keep l fun _ e => e
/-- all that was tracked is kept -/
theorem Same.laterH {H' : Hp} (s : Same H H') : Later ι H ι H' := ⟨⟨[], by simp⟩, fun b xs e => s b _ e, fun b o ks e => s b _ e⟩
theorem Sim.same {H' : Hp} (S : Sim K mg ι st H) (s : Same H H') : Sim K mg ι st H' :=
  ⟨S.len, S.inj, fun n d a h1 h2 => (S.cell n d a h1 h2).keep (Same.laterH s) fun o => s a o, S.tabs.ext s⟩
theorem same_new {p : Addr} {o : HO} (hp : H p = none) : Same H (upd H p o) := fun b u e => by rw [upd_ne (ne_of_none e hp)]; exact e
theorem Rep.newTup {p : Addr} {xs : List Val} {vs : List V} (hp : H p = none) (r : Reps mg ι H xs vs) : Rep mg ι (upd H p (.tup vs)) (.tup xs) (.ref p) := by
  rw [Rep]
  exact ⟨p, vs, rfl, upd_same, r.later (Same.laterH (same_new hp))⟩
theorem live_tracked (S : Sim K mg ι st H) {n : Nat} {c : Cell} {a : Addr} (h1 : st[n]? = some c) (h2 : ι[n]? = some a) (hl : c.live = true) : ∃ o, H a = some o := by
  have z := S.cell n c a h1 h2
  cases c with
  | lst xs => obtain ⟨vs, e, _⟩ := z; exact ⟨_, e⟩
  | frz xs => cases hl
  | ins C fs => obtain ⟨_, _, _, _, e, _⟩ := z; exact ⟨_, e⟩
  | dct kvs => obtain ⟨vs, e, _⟩ := z; exact ⟨_, e⟩
  | fdc kvs => obtain ⟨od, vs, e, _⟩ := z; exact ⟨_, e⟩
  | xfs d fs => cases hl
/-- a new cell -/
theorem Sim.push {p : Addr} {c : Cell} (S : Sim K mg ι st H) (hp : H p = none) {H' : Hp} (hs : Same H H')
    (hc : CellOk K mg (ι ++ [p]) H' p c) : Sim K mg (ι ++ [p]) (st ++ [c]) H' ∧ Later ι H (ι ++ [p]) H' := by
  have L : Later ι H (ι ++ [p]) H' := ⟨⟨[p], rfl⟩, fun b xs e => hs b _ e, fun b o ks e => hs b _ e⟩
  have old : ∀ n a, (ι ++ [p])[n]? = some a → n < st.length → ι[n]? = some a := fun n a e hl => by
    rw [List.getElem?_append_left (by rw [S.len]; exact hl)] at e; exact e
  have last : ∀ n a, (ι ++ [p])[n]? = some a → n = st.length → a = p := fun n a e hl => by
    rw [hl, ← S.len, List.getElem?_append_right (Nat.le_refl _)] at e
    simpa using e.symm
  have split : ∀ n d, (st ++ [c])[n]? = some d → (st[n]? = some d ∧ n < st.length) ∨ (n = st.length ∧ d = c) := fun n d e => by
    by_cases hl : n < st.length
    · rw [List.getElem?_append_left hl] at e; exact .inl ⟨e, hl⟩
    · rw [List.getElem?_append_right (by omega)] at e
      have : n - st.length = 0 := by
        by_cases q : n - st.length = 0
        · exact q
        · rw [List.getElem?_eq_none (by simp; omega)] at e; cases e
      rw [this] at e
      simp at e
      exact .inr ⟨by omega, e.symm⟩
  refine ⟨⟨by simp [S.len], fun n m a d e h1 h2 h3 h4 l1 l2 => ?_, fun n d a h1 h2 => ?_, S.tabs.ext hs⟩, L⟩
  · rcases split n d h3 with ⟨q1, z1⟩ | ⟨q1, z1⟩ <;> rcases split m e h4 with ⟨q2, z2⟩ | ⟨q2, z2⟩
    · exact S.inj n m a d e (old n a h1 z1) (old m a h2 z2) q1 q2 l1 l2
    · exfalso
      obtain ⟨u, hu⟩ := live_tracked S q1 (old n a h1 z1) l1
      rw [last m a h2 q2, hp] at hu; cases hu
    · exfalso
      obtain ⟨u, hu⟩ := live_tracked S q2 (old m a h2 z2) l2
      rw [last n a h1 q1, hp] at hu; cases hu
    · omega
  · rcases split n d h1 with ⟨q1, z1⟩ | ⟨q1, z1⟩
    · exact (S.cell n d a q1 (old n a h2 z1)).keep L fun o e => hs a o e
    · rw [last n a h2 q1, z1]
      exact hc
/-- a cell is written -/
theorem Sim.write {n : Nat} {c c' : Cell} {a : Addr} {o o' : HO} (S : Sim K mg ι st H) (h1 : st[n]? = some c) (h2 : ι[n]? = some a) (hl : c.live = true) (hl' : c'.live = true) (ho : H a = some o) (hnt : ∀ xs, o ≠ .tup xs)
    (hnf : ∀ ob xs, o ≠ .frz ob (.lst xs)) (hc : CellOk K mg ι (upd H a o') a c') (hnd : ∀ ob ks, o ≠ .frz ob (.dK ks) := by intro _ _ e; cases e) : Sim K mg ι (st.set n c') (upd H a o') ∧ Later ι H ι (upd H a o') := by
  have L : Later ι H ι (upd H a o') := ⟨⟨[], by simp⟩, fun b xs e => by
    rw [upd_ne fun q => by subst q; rw [ho] at e; cases e; exact hnt _ rfl]
    exact e, fun b ob ks e => by
    rw [upd_ne fun q => by subst q; rw [ho] at e; cases e; exact hnd _ _ rfl]
    exact e⟩
  have hlen : n < st.length := (List.getElem?_eq_some_iff.mp h1).1
  have at_ : ∀ m d, (st.set n c')[m]? = some d → (m = n ∧ d = c') ∨ (m ≠ n ∧ st[m]? = some d) := fun m d e => by
    by_cases q : m = n
    · subst q
      rw [List.getElem?_set_self hlen] at e
      exact .inl ⟨rfl, (Option.some.inj e).symm⟩
    · rw [List.getElem?_set_ne (Ne.symm q)] at e
      exact .inr ⟨q, e⟩
  refine ⟨⟨by simp [S.len], fun i j b d e q1 q2 q3 q4 l1 l2 => ?_, fun m d b q1 q2 => ?_, ?_⟩, L⟩
  · rcases at_ i d q3 with ⟨x1, y1⟩ | ⟨x1, y1⟩ <;> rcases at_ j e q4 with ⟨x2, y2⟩ | ⟨x2, y2⟩
    · omega
    · subst x1
      exact S.inj i j b c e q1 q2 h1 y2 hl l2
    · subst x2
      exact S.inj i j b d c q1 q2 y1 h1 l1 hl
    · exact S.inj i j b d e q1 q2 y1 y2 l1 l2
  · rcases at_ m d q1 with ⟨x1, y1⟩ | ⟨x1, y1⟩
    · subst x1 y1
      rw [h2] at q2; cases q2
      exact hc
    · have z := S.cell m d b y1 q2
      by_cases hb : b = a
      · subst hb
        cases hd : d.live with
        | true => exact absurd (S.inj m n b d c q2 h2 y1 h1 hd hl) x1
        | false =>
          cases d with
          | frz xs =>
            obtain ⟨vs, e, r⟩ := z
            rcases e with ⟨ob, e⟩ | e
            · rw [ho] at e; cases e; exact absurd rfl (hnf _ _)
            · exact ⟨vs, .inr e, r.later L⟩
          | xfs d' fs =>
            obtain ⟨_, vs, e, r⟩ := z
            have zz := S.cell n c b h1 h2
            cases c with
            | lst xs => obtain ⟨_, e', _⟩ := zz; rw [e] at e'; cases e'
            | frz xs => cases hl
            | ins C fs => obtain ⟨_, _, _, _, e', _⟩ := zz; rw [e] at e'; cases e'
            | dct kvs => obtain ⟨_, e', _⟩ := zz; rw [e] at e'; cases e'
            | fdc kvs => obtain ⟨_, _, e', _⟩ := zz; rw [e] at e'; cases e'
            | xfs d fs => cases hl
          | _ => cases hd
      · exact z.keep L fun u e => by rw [upd_ne hb]; exact e
  · have hno : ∀ u, u ≠ o → ∀ b, H b = some u → upd H a o' b = some u := fun u hu b e => by
      rw [upd_ne fun q => by subst q; rw [ho] at e; exact hu (Option.some.inj e).symm]
      exact e
    have kind : (∀ ps, HO.tbl ps ≠ o) ∧ ∀ c q, LamX.CodeO c q ≠ o := by
      have z := S.cell n c a h1 h2
      cases c with
      | lst xs => obtain ⟨vs, e, _⟩ := z; rw [ho] at e; cases e; exact ⟨(fun _ q => by cases q), (fun _ _ q => by unfold LamX.CodeO at q; cases q)⟩
      | frz xs => cases hl
      | xfs d fs => cases hl
      | ins C fs => obtain ⟨_, _, _, _, e, _⟩ := z; rw [ho] at e; cases e; exact ⟨(fun _ q => by cases q), (fun _ _ q => by unfold LamX.CodeO at q; cases q)⟩
      | dct kvs => obtain ⟨vs, e, _⟩ := z; rw [ho] at e; cases e; exact ⟨(fun _ q => by cases q), (fun _ _ q => by unfold LamX.CodeO at q; cases q)⟩
      | fdc kvs => obtain ⟨od, vs, e, _⟩ := z; rw [ho] at e; cases e; exact ⟨(fun _ q => by cases q), (fun _ _ q => by unfold LamX.CodeO at q; cases q)⟩
    intro p hp
    obtain ⟨ps, t1, t2, t3⟩ := S.tabs p hp
    refine ⟨ps, hno _ (kind.1 ps) _ t1, t2, fun pos cv hc => ?_⟩
    obtain ⟨c', e1, e2⟩ := t3 pos cv hc
    exact ⟨c', e1, hno _ (kind.2 _ _) _ e2⟩
end

/-! ### the judgements -/
def ExcRep (mg : Str → Option Value) (ι : List Addr) (H : Hp) (x : Exc) (c : Value) (d : Option Addr) : Prop :=
  ∃ a, mg (nm x.cls) = some (.ref a) ∧ c = .ref a ∧ ((x.fs = [] ∧ d = none) ∨ ∃ da vs, d = some da ∧ H da = some (.xd vs) ∧ RepF mg ι H x.fs vs)

/-- what a mirror's result asks -/
def Post {α β : Type} (K : PySem.W.Frag) (mg : Str → Option Value) (rel : List Addr → Hp → α → β → Prop) (ι : List Addr) (H : Hp) (Q : β → Hp → Prop) (E : Value → Option Addr → Hp → Prop) : R α → Prop
  | .ok a st' => ∀ ι' H' b, Later ι H ι' H' → Sim K mg ι' st' H' → rel ι' H' a b → Q b H'
  | .exc x st' => ∀ ι' H' c d, Later ι H ι' H' → Sim K mg ι' st' H' → ExcRep mg ι' H' x c d → E c d H'
  | .bad => False
theorem Post.later {α β : Type} {K : PySem.W.Frag} {mg : Str → Option Value} {rel : List Addr → Hp → α → β → Prop} {ι ι1 : List Addr} {H H1 : Hp} {Q : β → Hp → Prop} {E : Value → Option Addr → Hp → Prop} {r : R α}
    (p : Post K mg rel ι H Q E r) (l : Later ι H ι1 H1) : Post K mg rel ι1 H1 Q E r := by
  cases r with
  | ok a st' => exact fun ι' H' b l' S r => p ι' H' b (l.trans l') S r
  | exc x st' => exact fun ι' H' c d l' S r => p ι' H' c d (l.trans l') S r
  | bad => exact p
theorem Post.bind {α β α' β' : Type} {K : PySem.W.Frag} {mg : Str → Option Value} {rel : List Addr → Hp → α → β → Prop} {rel' : List Addr → Hp → α' → β' → Prop} {ι : List Addr} {H : Hp} {Q : β' → Hp → Prop} {Q1 : β → Hp → Prop} {E : Value → Option Addr → Hp → Prop} {r : R α}
    {f : α → Store → R α'} (p : Post K mg rel' ι H Q E (r.bind f))
    (k : ∀ a st1 ι1 H1 b, Later ι H ι1 H1 → Sim K mg ι1 st1 H1 → rel ι1 H1 a b → Post K mg rel' ι1 H1 Q E (f a st1) → Q1 b H1) : Post K mg rel ι H Q1 E r := by
  cases r with
  | ok a st1 => exact fun ι1 H1 b l S r => k a st1 ι1 H1 b l S r (Post.later p l)
  | exc x st1 => exact p
  | bad => exact p

def rdG {α β : Type} (K : PySem.W.Frag) (mg : Str → Option Value) (rel : List Addr → Hp → α → β → Prop) (W : WX) (m : Slots → Store → R α) : St → Hp → (β → Hp → Prop) → Prop := fun σ H Q =>
  ∃ ι ρ st, Sim K mg ι st H ∧ SlotsOk mg ι H ρ σ ∧ Post K mg rel ι H Q (fun c d H' => W c d σ H') (m ρ st)
abbrev rel1 (mg : Str → Option Value) : List Addr → Hp → Val → V → Prop := fun ι H => Rep mg ι H
abbrev relB : List Addr → Hp → Bool → Bool → Prop := fun _ _ a b => a = b
abbrev relL (mg : Str → Option Value) : List Addr → Hp → List Val → List V → Prop := fun ι H => Reps mg ι H

/-- what a statement's mirror asks -/
def PostO (K : PySem.W.Frag) (mg : Str → Option Value) (W : WX) (ι : List Addr) (H : Hp) (D : Ends) : O → Prop
  | .nx ρ st => ∀ ι' H' σ', Later ι H ι' H' → Sim K mg ι' st H' → SlotsOk mg ι' H' ρ σ' → D.nx σ' H'
  | .ret w st => ∀ ι' H' v, Later ι H ι' H' → Sim K mg ι' st H' → Rep mg ι' H' w v → D.rt v H'
  | .brk ρ st => ∀ ι' H' σ', Later ι H ι' H' → Sim K mg ι' st H' → SlotsOk mg ι' H' ρ σ' → D.bk σ' H'
  | .ct ρ st => ∀ ι' H' σ', Later ι H ι' H' → Sim K mg ι' st H' → SlotsOk mg ι' H' ρ σ' → D.ct σ' H'
  | .exc x ρ st => ∀ ι' H' σ' c d, Later ι H ι' H' → Sim K mg ι' st H' → SlotsOk mg ι' H' ρ σ' → ExcRep mg ι' H' x c d → W c d σ' H'
  | .bad => False
theorem PostO.later {K : PySem.W.Frag} {mg : Str → Option Value} {W : WX} {ι ι1 : List Addr} {H H1 : Hp} {D : Ends} {r : O} (p : PostO K mg W ι H D r) (l : Later ι H ι1 H1) : PostO K mg W ι1 H1 D r := by
  cases r with
  | nx ρ st => exact fun ι' H' σ' l' => p ι' H' σ' (l.trans l')
  | ret w st => exact fun ι' H' v l' => p ι' H' v (l.trans l')
  | brk ρ st => exact fun ι' H' σ' l' => p ι' H' σ' (l.trans l')
  | ct ρ st => exact fun ι' H' σ' l' => p ι' H' σ' (l.trans l')
  | exc x ρ st => exact fun ι' H' σ' c d l' => p ι' H' σ' c d (l.trans l')
  | bad => exact p
def rdS (K : PySem.W.Frag) (mg : Str → Option Value) (W : WX) (m : MS) : TS := fun D σ H =>
  ∃ ι ρ st, Sim K mg ι st H ∧ SlotsOk mg ι H ρ σ ∧ PostO K mg W ι H D (m ρ st)

def JE (X : Cx) (e : Expr) (m : ME) : Prop := ∀ W, Takes X W → PE X e (rdG X.K X.mg (rel1 X.mg) W m)
def JT (X : Cx) (e : Expr) (m : MT) : Prop := ∀ W, Takes X W → PT X e (rdG X.K X.mg relB W m)
def JA (X : Cx) (es : List Expr) (m : MA) : Prop := ∀ W, Takes X W → PA X es (rdG X.K X.mg (relL X.mg) W m)
def JS (X : Cx) (s : Stmt) (m : MS) : Prop := ∀ W, Takes X W → PS X s (rdS X.K X.mg W m)
def JSs (X : Cx) (s : List Stmt) (m : MS) : Prop := ∀ W, Takes X W → PSs X s (rdS X.K X.mg W m)

theorem PE.weak {X : Cx} {e : Expr} {t t' : TE} (h : PE X e t) (w : ∀ σ H Q, t' σ H Q → t σ H Q) : PE X e t' := ⟨fun pins s σ H Q I q => h.run pins s σ H Q I (w σ H Q q)⟩
theorem PT.weak {X : Cx} {e : Expr} {t t' : TT} (h : PT X e t) (w : ∀ σ H Q, t' σ H Q → t σ H Q) : PT X e t' := ⟨fun pins s σ H Q I q => h.run pins s σ H Q I (w σ H Q q)⟩
theorem PA.weak {X : Cx} {e : List Expr} {t t' : TA} (h : PA X e t) (w : ∀ σ H Q, t' σ H Q → t σ H Q) : PA X e t' := ⟨fun pos pins s σ H Q I q => h.run pos pins s σ H Q I (w σ H Q q)⟩
theorem PS.weak {X : Cx} {e : Stmt} {t t' : TS} (h : PS X e t) (w : ∀ D σ H, t' D σ H → t D σ H) : PS X e t' := ⟨fun pins s σ H D I q => h.run pins s σ H D I (w D σ H q)⟩
theorem PSs.weak {X : Cx} {e : List Stmt} {t t' : TS} (h : PSs X e t) (w : ∀ D σ H, t' D σ H → t D σ H) : PSs X e t' := ⟨fun pins s σ H D I q => h.run pins s σ H D I (w D σ H q)⟩
end Ab

set_option Elab.async false
set_option linter.all false
set_option maxRecDepth 100000
/-! Ab: expressions. -/
namespace Ab
open PySem PySem.Spec L2

/-! ### the end of a mirrored expression -/
section
variable {α β α' β' : Type} {K : PySem.W.Frag} {mg : Str → Option Value} {rel : List Addr → Hp → α → β → Prop} {rel' : List Addr → Hp → α' → β' → Prop} {ι : List Addr} {H : Hp} {W : WX} {σ : L2.St} {st : Store}
/-- where the next reading stands -/
theorem rdG.mk {m : Slots → Store → R α} {ρ : Slots} {Q : β → Hp → Prop} (S : Sim K mg ι st H) (sl : SlotsOk mg ι H ρ σ) (p : Post K mg rel ι H Q (fun c d H' => W c d σ H') (m ρ st)) : rdG K mg rel W m σ H Q := ⟨ι, ρ, st, S, sl, p⟩
theorem Post.okSame {a : α} {b : β} {Q : β → Hp → Prop} {E : Value → Option Addr → Hp → Prop} (p : Post K mg rel ι H Q E (.ok a st)) (S : Sim K mg ι st H) (r : rel ι H a b) : Q b H := p ι H b (Later.refl _ _) S r
/-- a new tuple -/
theorem Post.newTup {xs : List Val} {vs : List V} {Q : V → Hp → Prop} {E : Value → Option Addr → Hp → Prop} (p : Post K mg (rel1 mg) ι H Q E (.ok (.tup xs) st)) (S : Sim K mg ι st H) (r : Reps mg ι H xs vs) {q : Addr} (hq : H q = none) : Q (.ref q) (upd H q (.tup vs)) :=
  p ι _ _ (Same.laterH (same_new hq)) (S.same (same_new hq)) (Rep.newTup hq r)
/-- a new list -/
theorem Post.newLst {xs : List Val} {vs : List V} {Q : V → Hp → Prop} {E : Value → Option Addr → Hp → Prop} (p : Post K mg (rel1 mg) ι H Q E (.ok (.ref st.length) (st ++ [.lst xs]))) (S : Sim K mg ι st H) (r : Reps mg ι H xs vs) {q : Addr} (hq : H q = none) : Q (.ref q) (upd H q (.lst vs)) := by
  have hs := same_new (o := .lst vs) hq
  obtain ⟨S', L⟩ := S.push (p := q) (c := .lst xs) hq hs ⟨vs, upd_same, r.later ⟨⟨[q], rfl⟩, fun b ys e => hs b _ e, fun b o ks e => hs b _ e⟩⟩
  refine p _ _ _ L S' ?_
  show Rep mg _ _ (.ref st.length) (.ref q)
  rw [Rep]
  exact ⟨q, rfl, by rw [← S.len, List.getElem?_append_right (Nat.le_refl _)]; simp⟩
end

/-! ### names and constants -/
@[reducible] def mVar (i : Nat) : ME := fun ρ st => match ρ[i]? with
  | some (some w) => .ok w st
  | _ => .bad
@[reducible] def mC (w : Val) : ME := fun _ st => .ok w st
section
variable {X : Cx} {pos : Pos}
theorem je_var {i : Nat} {x : Str} (hN : X.N[i]? = some x := by rfl) (hv : Vis X.env.scope x := by first | exact Or.inl rfl | exact Or.inr (Or.inl rfl) | exact Or.inr (Or.inr rfl)) (hd : (x == ("__debug__" : Str)) = false := by decide)
    (hcd : (x == ("__classdict__" : Str)) = false := by decide) : JE X (.Name x pos) (mVar i) := fun W tk => by
  refine PE.weak (pe_var hN hv hd hcd) fun σ H Q ⟨ι, ρ, st, S, sl, p⟩ => ?_
  show ∃ v, σ[i]? = some (some v) ∧ Q v H
  dsimp only [mVar] at p
  split at p
  · rename_i w e
    obtain ⟨v, e2, r⟩ := sl.2 i w e
    exact ⟨v, e2, p.okSame S r⟩
  · exact p.elim
theorem je_int {i j} : JE X (.Constant (.int i) j pos) (mC (.int i)) := fun W tk => PE.weak pe_int fun σ H Q ⟨ι, ρ, st, S, sl, p⟩ => Post.okSame (b := V.int i) p S (by show Rep _ _ _ _ _; rw [Rep])
theorem je_bl {b j} : JE X (.Constant (.bool b) j pos) (mC (.bl b)) := fun W tk => PE.weak pe_bl fun σ H Q ⟨ι, ρ, st, S, sl, p⟩ => Post.okSame (b := V.bl b) p S (by show Rep _ _ _ _ _; rw [Rep])
theorem je_non {j} : JE X (.Constant .none j pos) (mC .non) := fun W tk => PE.weak pe_non fun σ H Q ⟨ι, ρ, st, S, sl, p⟩ => Post.okSame (b := V.non) p S (by show Rep _ _ _ _ _; rw [Rep])
theorem je_str {x j} : JE X (.Constant (.str x) j pos) (mC (.str x)) := fun W tk => PE.weak pe_str fun σ H Q ⟨ι, ρ, st, S, sl, p⟩ => Post.okSame (b := V.str x) p S (by show Rep _ _ _ _ _; rw [Rep])
/-- a constant of the module: an int, a text -/
theorem je_globI {x : Str} {i : Int} (hm : ∃ t, X.mg x = some (.int i t)) (hg : Gl X x := by rfl) (hd : (x == ("__debug__" : Str)) = false := by decide) : JE X (.Name x pos) (mC (.int i)) := fun W tk => by
  obtain ⟨t, hm⟩ := hm
  exact PE.weak (pe_glob (v := .int i) hg hm ⟨t, rfl⟩ hd) fun σ H Q ⟨ι, ρ, st, S, sl, p⟩ => Post.okSame (b := V.int i) p S (by show Rep _ _ _ _ _; rw [Rep])
theorem je_globS {x : Str} {z : Str} (hm : ∃ t, X.mg x = some (.str z t)) (hg : Gl X x := by rfl) (hd : (x == ("__debug__" : Str)) = false := by decide) : JE X (.Name x pos) (mC (.str z)) := fun W tk => by
  obtain ⟨t, hm⟩ := hm
  exact PE.weak (pe_glob (v := .str z) hg hm ⟨t, rfl⟩ hd) fun σ H Q ⟨ι, ρ, st, S, sl, p⟩ => Post.okSame (b := V.str z) p S (by show Rep _ _ _ _ _; rw [Rep])
end

/-! ### operators -/
/-- two values -/
def r2 (K : PySem.W.Frag) (mg : Str → Option Value) (g : Val → Val → Store → R Val) : R2 := fun x y H Q =>
  ∃ ι st w1 w2, Sim K mg ι st H ∧ Rep mg ι H w1 x ∧ Rep mg ι H w2 y ∧ Post K mg (rel1 mg) ι H Q (fun _ _ _ => False) (g w1 w2 st)
def M2 (X : Cx) (f : Value → Value → Sem Value) (g : Val → Val → Store → R Val) : Prop := OpR X f (r2 X.K X.mg g)
theorem noExc {α β : Type} {K : PySem.W.Frag} {mg : Str → Option Value} {rel : List Addr → Hp → α → β → Prop} {ι : List Addr} {H : Hp} {Q : β → Hp → Prop} {E : Value → Option Addr → Hp → Prop} {r : R α} (h : ∀ x st, r ≠ .exc x st)
    (p : Post K mg rel ι H Q E r) : Post K mg rel ι H Q (fun _ _ _ => False) r := by
  cases r with
  | ok a st => exact p
  | exc x st => exact absurd rfl (h x st)
  | bad => exact p
/-- an operation that raises nothing -/
def Quiet {α : Type} (r : R α) : Prop := ∀ x st, r ≠ .exc x st
@[reducible] def mBin (g : Val → Val → Store → R Val) (a b : ME) : ME := fun ρ st => (a ρ st).bind fun x st1 => (b ρ st1).bind fun y st2 => g x y st2
theorem JE.bin {X : Cx} {e a b : Expr} {g : Val → Val → Store → R Val} {ma mb : ME} (hq : ∀ x y st, Quiet (g x y st)) (ha : JE X a ma) (hb : JE X b mb)
    (h : ∀ ta tb, PE X a ta → PE X b tb → PE X e (tOp (r2 X.K X.mg g) ta tb)) : JE X e (mBin g ma mb) := fun W tk => by
  refine PE.weak (h _ _ (ha W tk) (hb W tk)) fun σ H Q ⟨ι, ρ, st, S, sl, p⟩ => ?_
  refine ⟨ι, ρ, st, S, sl, Post.bind p fun w1 st1 ι1 H1 x l1 S1 r1 p1 => ?_⟩
  refine ⟨ι1, ρ, st1, S1, sl.later l1, Post.bind p1 fun w2 st2 ι2 H2 y l2 S2 r2 p2 => ?_⟩
  exact ⟨ι2, st2, w1, w2, S2, Rep.later l2 r1, r2, noExc (hq _ _ _) p2⟩
theorem je_op {X : Cx} {a b : Expr} {op : Operator} {pos : Pos} {g : Val → Val → Store → R Val} {ma mb : ME} (ho : M2 X (binaryOp op) g) (hq : ∀ x y st, Quiet (g x y st)) (ha : JE X a ma) (hb : JE X b mb) : JE X (.BinOp a op b pos) (mBin g ma mb) :=
  JE.bin hq ha hb fun _ _ h1 h2 => pe_op ho h1 h2
theorem je_cmp {X : Cx} {a b : Expr} {op : CmpOp} {pos : Pos} {g : Val → Val → Store → R Val} {ma mb : ME} (ho : M2 X (compareOp op) g) (hq : ∀ x y st, Quiet (g x y st)) (ha : JE X a ma) (hb : JE X b mb) (hm : behindInMarks op b = false := by first | exact nomark _ | rfl) :
    JE X (.Compare a [op] [b] pos) (mBin g ma mb) :=
  JE.bin hq ha hb fun _ _ h1 h2 => pe_cmpR ho h1 h2 hm

/-- two ints -/
theorem Rep.int_inv {mg : Str → Option Value} {ι : List Addr} {H : Hp} {i : Int} {v : V} (h : Rep mg ι H (.int i) v) : v = .int i := by rw [Rep] at h; exact h
theorem Rep.str_inv {mg : Str → Option Value} {ι : List Addr} {H : Hp} {i : Str} {v : V} (h : Rep mg ι H (.str i) v) : v = .str i := by rw [Rep] at h; exact h
theorem Rep.bl_inv {mg : Str → Option Value} {ι : List Addr} {H : Hp} {i : Bool} {v : V} (h : Rep mg ι H (.bl i) v) : v = .bl i := by rw [Rep] at h; exact h
theorem Rep.non_inv {mg : Str → Option Value} {ι : List Addr} {H : Hp} {v : V} (h : Rep mg ι H .non v) : v = .non := by rw [Rep] at h; exact h
theorem Rep.tup_inv {mg : Str → Option Value} {ι : List Addr} {H : Hp} {xs : List Val} {v : V} (h : Rep mg ι H (.tup xs) v) : ∃ a vs, v = .ref a ∧ H a = some (.tup vs) ∧ Reps mg ι H xs vs := by rw [Rep] at h; exact h
theorem Rep.ref_inv {mg : Str → Option Value} {ι : List Addr} {H : Hp} {n : Nat} {v : V} (h : Rep mg ι H (.ref n) v) : ∃ a, v = .ref a ∧ ι[n]? = some a := by rw [Rep] at h; exact h
theorem Rep.gl_inv {mg : Str → Option Value} {ι : List Addr} {H : Hp} {x : Nat} {v : V} (h : Rep mg ι H (.gl x) v) : ∃ a, v = .ref a ∧ mg (nm x) = some (.ref a) := by rw [Rep] at h; exact h
theorem Rep.int {mg : Str → Option Value} {ι : List Addr} {H : Hp} {i : Int} : Rep mg ι H (.int i) (.int i) := by rw [Rep]
theorem Rep.str {mg : Str → Option Value} {ι : List Addr} {H : Hp} {i : Str} : Rep mg ι H (.str i) (.str i) := by rw [Rep]
theorem Rep.bl {mg : Str → Option Value} {ι : List Addr} {H : Hp} {i : Bool} : Rep mg ι H (.bl i) (.bl i) := by rw [Rep]
theorem Rep.non {mg : Str → Option Value} {ι : List Addr} {H : Hp} : Rep mg ι H .non .non := by rw [Rep]
theorem Rep.tup {mg : Str → Option Value} {ι : List Addr} {H : Hp} {xs : List Val} {a : Addr} {vs : List V} (h : H a = some (.tup vs)) (r : Reps mg ι H xs vs) : Rep mg ι H (.tup xs) (.ref a) := by rw [Rep]; exact ⟨a, vs, rfl, h, r⟩
theorem Rep.ref {mg : Str → Option Value} {ι : List Addr} {H : Hp} {n : Nat} {a : Addr} (h : ι[n]? = some a) : Rep mg ι H (.ref n) (.ref a) := by rw [Rep]; exact ⟨a, rfl, h⟩
theorem Rep.gl {mg : Str → Option Value} {ι : List Addr} {H : Hp} {x : Nat} {a : Addr} (h : mg (nm x) = some (.ref a)) : Rep mg ι H (.gl x) (.ref a) := by rw [Rep]; exact ⟨a, rfl, h⟩
/-- the cell behind a reference -/
theorem Sim.at {K : PySem.W.Frag} {mg : Str → Option Value} {ι : List Addr} {st : Store} {H : Hp} (S : Sim K mg ι st H) {n : Nat} {c : Cell} (h : st[n]? = some c) {a : Addr} (ha : ι[n]? = some a) : CellOk K mg ι H a c := S.cell n c a h ha
theorem CellOk.seq {K : PySem.W.Frag} {mg : Str → Option Value} {ι : List Addr} {H : Hp} {a : Addr} {xs : List Val} (h : CellOk K mg ι H a (.frz xs)) : ∃ vs, SqL K H a vs ∧ Reps mg ι H xs vs := by
  obtain ⟨vs, e, r⟩ := h
  exact ⟨vs, e.elim (fun ⟨o, e⟩ => .inl (.inr ⟨o, e⟩)) .inr, r⟩
theorem CellOk.lst {K : PySem.W.Frag} {mg : Str → Option Value} {ι : List Addr} {H : Hp} {a : Addr} {xs : List Val} (h : CellOk K mg ι H a (.lst xs)) : ∃ vs, H a = some (.lst vs) ∧ Reps mg ι H xs vs := h
/-- the items of a list that is read -/
@[reducible] def seqAt (st : Store) (n : Nat) : Option (List Val) := match st[n]? with
  | some (.lst xs) => some xs
  | some (.frz xs) => some xs
  | _ => none
theorem Sim.seqL {K : PySem.W.Frag} {mg : Str → Option Value} {ι : List Addr} {st : Store} {H : Hp} (S : Sim K mg ι st H) {n : Nat} {xs : List Val} (h : seqAt st n = some xs) {a : Addr} (ha : ι[n]? = some a) : ∃ vs, SqL K H a vs ∧ Reps mg ι H xs vs := by
  unfold seqAt at h
  split at h
  · rename_i ys e
    cases h
    obtain ⟨vs, e1, r⟩ := S.at e ha
    exact ⟨vs, SqL.of e1, r⟩
  · rename_i ys e
    cases h
    exact (S.at e ha).seq
  · cases h

@[reducible] def vAdd : Val → Val → Store → R Val
  | .int i, .int j, st => .ok (.int (i + j)) st
  | .str a, .str b, st => if a.length + b.length ≤ sizeLine then .ok (.str (a ++ b)) st else .bad
  | .tup xs, .tup ys, st => if xs.length + ys.length ≤ sizeLine then .ok (.tup (xs ++ ys)) st else .bad
  | .ref n, .ref m, st => match st[n]?, st[m]? with
    | some (.lst xs), some (.lst ys) => if xs.length + ys.length ≤ sizeLine then .ok (.ref st.length) (st ++ [.lst (xs ++ ys)]) else .bad
    | _, _ => .bad
  | _, _, _ => .bad
@[reducible] def vSub : Val → Val → Store → R Val
  | .int i, .int j, st => .ok (.int (i - j)) st
  | _, _, _ => .bad
def mulOk (i j : Int) : Bool := (decide (-(2 ^ 64) < i) && decide (i < 2 ^ 64)) || (decide (-(2 ^ 64) < j) && decide (j < 2 ^ 64))
theorem mulOk_iff {i j : Int} : mulOk i j = true ↔ CMul i j := by
  unfold mulOk CMul
  simp only [Bool.or_eq_true, Bool.and_eq_true, decide_eq_true_eq]
@[reducible] def vMul : Val → Val → Store → R Val
  | .int i, .int j, st => if mulOk i j = true then .ok (.int (i * j)) st else .bad
  | _, _, _ => .bad
@[reducible] def vDiv : Val → Val → Store → R Val
  | .int i, .int j, st => if 0 < j ∧ j < 2 ^ 100 then .ok (.int (i / j)) st else .bad
  | _, _, _ => .bad
@[reducible] def vMod : Val → Val → Store → R Val
  | .int i, .int j, st => if 0 < j then .ok (.int (i % j)) st else .bad
  | _, _, _ => .bad
@[reducible] def vPow : Val → Val → Store → R Val
  | .int i, .int j, st => if 0 ≤ j ∧ j ≤ 1000000 ∧ i.natAbs < 2 ^ 64 then .ok (.int (i ^ j.toNat)) st else .bad
  | _, _, _ => .bad
@[reducible] def vCmpI (p : Int → Int → Bool) : Val → Val → Store → R Val
  | .int i, .int j, st => .ok (.bl (p i j)) st
  | _, _, _ => .bad
@[reducible] def vLt : Val → Val → Store → R Val := vCmpI fun i j => decide (i < j)
@[reducible] def vGt : Val → Val → Store → R Val := vCmpI fun i j => decide (j < i)
@[reducible] def vGe : Val → Val → Store → R Val := vCmpI fun i j => decide (j ≤ i)
@[reducible] def vLe : Val → Val → Store → R Val
  | .int i, .int j, st => .ok (.bl (decide (i ≤ j))) st
  | .str a, .str b, st => .ok (.bl (!decide (b.cps.toList < a.cps.toList))) st
  | _, _, _ => .bad
@[reducible] def vIsN : Val → Val → Store → R Val
  | .ref _, .non, st => .ok (.bl false) st
  | .tup _, .non, st => .ok (.bl false) st
  | .non, .non, st => .ok (.bl true) st
  | .int _, .non, st => .ok (.bl false) st
  | .str _, .non, st => .ok (.bl false) st
  | .bl _, .non, st => .ok (.bl false) st
  | .gl _, .non, st => .ok (.bl false) st
  | _, _, _ => .bad
@[reducible] def vNotN : Val → Val → Store → R Val
  | .ref _, .non, st => .ok (.bl true) st
  | .tup _, .non, st => .ok (.bl true) st
  | .non, .non, st => .ok (.bl false) st
  | .int _, .non, st => .ok (.bl true) st
  | .str _, .non, st => .ok (.bl true) st
  | .bl _, .non, st => .ok (.bl true) st
  | .gl _, .non, st => .ok (.bl true) st
  | _, _, _ => .bad

section
variable {X : Cx}
theorem m2_int {f : Value → Value → Sem Value} {g : Int → Int → V} {C : Int → Int → Prop} (ho : OpR X f (rI C g)) {v : Val → Val → Store → R Val} {G : Int → Int → Val} (hG : ∀ mg ι H i j, Rep mg ι H (G i j) (g i j))
    (h1 : ∀ i j st, v (.int i) (.int j) st = .bad ∨ (C i j ∧ v (.int i) (.int j) st = .ok (G i j) st)) (h2 : ∀ a b st, (∀ i j, ¬ (a = .int i ∧ b = .int j)) → v a b st = .bad) : M2 X f v := by
  rintro pins s σ H x y u1 u2 Q I rx ry ⟨ι, st, w1, w2, S, r1, r2, p⟩
  by_cases hi : ∃ i j, w1 = .int i ∧ w2 = .int j
  · obtain ⟨i, j, e1, e2⟩ := hi
    subst e1 e2
    have e1 := r1.int_inv; have e2 := r2.int_inv
    subst e1 e2
    rcases h1 i j st with hb | ⟨hc, hb⟩
    · rw [hb] at p; exact p.elim
    · rw [hb] at p
      exact ho pins s σ H _ _ u1 u2 Q I rx ry ⟨i, j, rfl, rfl, hc, p.okSame S (hG _ _ _ _ _)⟩
  · rw [h2 w1 w2 st fun i j e => hi ⟨i, j, e.1, e.2⟩] at p
    exact p.elim
theorem rI0_rI {f : Value → Value → Sem Value} {g : Int → Int → V} (ho : OpR X f (rI0 g)) : OpR X f (rI (fun _ _ => True) g) := fun pins s σ H x y v u Q I rx ry ⟨i, j, e1, e2, _, q⟩ => ho pins s σ H x y v u Q I rx ry ⟨i, j, e1, e2, q⟩
theorem m2_sub : M2 X (binaryOp .Sub) vSub := m2_int (rI0_rI op_sub) (G := fun i j => .int (i - j)) (fun _ _ _ _ _ => Rep.int) (fun i j st => .inr ⟨trivial, rfl⟩) fun a b st h => by
  cases a <;> cases b <;> first | rfl | exact absurd ⟨rfl, rfl⟩ (h _ _)
theorem m2_mul : M2 X (binaryOp .Mult) vMul := m2_int op_mul (G := fun i j => .int (i * j)) (fun _ _ _ _ _ => Rep.int) (fun i j st => by
  by_cases h : mulOk i j = true
  · exact .inr ⟨mulOk_iff.mp h, if_pos h⟩
  · exact .inl (if_neg h)) fun a b st h => by
  cases a <;> cases b <;> first | rfl | exact absurd ⟨rfl, rfl⟩ (h _ _)
theorem m2_div : M2 X (binaryOp .FloorDiv) vDiv := m2_int op_fdivW (G := fun i j => .int (i / j)) (fun _ _ _ _ _ => Rep.int) (fun i j st => by
  by_cases h : 0 < j ∧ j < 2 ^ 100
  · refine .inr ⟨wide_div h.1 (b := 100) ?_ (by decide) (by decide), if_pos h⟩
    have h2 : ((j.natAbs : Nat) : Int) < ((2 ^ 100 : Nat) : Int) := by
      rw [Int.natAbs_of_nonneg (Int.le_of_lt h.1)]
      exact_mod_cast h.2
    exact_mod_cast h2
  · exact .inl (if_neg h)) fun a b st h => by
  cases a <;> cases b <;> first | rfl | exact absurd ⟨rfl, rfl⟩ (h _ _)
theorem m2_mod : M2 X (binaryOp .Mod) vMod := m2_int op_mod (G := fun i j => .int (i % j)) (fun _ _ _ _ _ => Rep.int) (fun i j st => by
  by_cases h : 0 < j
  · exact .inr ⟨h, if_pos h⟩
  · exact .inl (if_neg h)) fun a b st h => by
  cases a <;> cases b <;> first | rfl | exact absurd ⟨rfl, rfl⟩ (h _ _)
theorem m2_pow : M2 X (binaryOp .Pow) vPow := m2_int op_pow (G := fun i j => .int (i ^ j.toNat)) (fun _ _ _ _ _ => Rep.int) (fun i j st => by
  by_cases h : 0 ≤ j ∧ j ≤ 1000000 ∧ i.natAbs < 2 ^ 64
  · exact .inr ⟨h, if_pos h⟩
  · exact .inl (if_neg h)) fun a b st h => by
  cases a <;> cases b <;> first | rfl | exact absurd ⟨rfl, rfl⟩ (h _ _)
theorem m2_lt : M2 X (compareOp .Lt) vLt := m2_int (rI0_rI op_lt) (G := fun i j => .bl (decide (i < j))) (fun _ _ _ _ _ => Rep.bl) (fun i j st => .inr ⟨trivial, rfl⟩) fun a b st h => by
  cases a <;> cases b <;> first | rfl | exact absurd ⟨rfl, rfl⟩ (h _ _)
theorem m2_gt : M2 X (compareOp .Gt) vGt := m2_int (rI0_rI op_gt) (G := fun i j => .bl (decide (j < i))) (fun _ _ _ _ _ => Rep.bl) (fun i j st => .inr ⟨trivial, rfl⟩) fun a b st h => by
  cases a <;> cases b <;> first | rfl | exact absurd ⟨rfl, rfl⟩ (h _ _)
theorem m2_ge : M2 X (compareOp .GtE) vGe := m2_int (rI0_rI op_ge) (G := fun i j => .bl (decide (j ≤ i))) (fun _ _ _ _ _ => Rep.bl) (fun i j st => .inr ⟨trivial, rfl⟩) fun a b st h => by
  cases a <;> cases b <;> first | rfl | exact absurd ⟨rfl, rfl⟩ (h _ _)
theorem m2_le : M2 X (compareOp .LtE) vLe := by
  rintro pins s σ H x y u1 u2 Q I rx ry ⟨ι, st, w1, w2, S, r1, r2, p⟩
  cases w1 with
  | int i =>
    cases w2 with
    | int j =>
      have e1 := r1.int_inv; have e2 := r2.int_inv
      subst e1 e2
      exact op_le pins s σ H _ _ u1 u2 Q I rx ry ⟨i, j, rfl, rfl, p.okSame S Rep.bl⟩
    | _ => exact p.elim
  | str i =>
    cases w2 with
    | str j =>
      have e1 := r1.str_inv; have e2 := r2.str_inv
      subst e1 e2
      exact op_le_str pins s σ H _ _ u1 u2 Q I rx ry ⟨i, j, rfl, rfl, p.okSame S Rep.bl⟩
    | _ => exact p.elim
  | _ => exact p.elim
theorem m2_add : M2 X (binaryOp .Add) vAdd := by
  rintro pins s σ H x y u1 u2 Q I rx ry ⟨ι, st, w1, w2, S, r1, r2, p⟩
  cases w1 with
  | int i =>
    cases w2 with
    | int j =>
      have e1 := r1.int_inv; have e2 := r2.int_inv
      subst e1 e2
      exact op_add pins s σ H _ _ u1 u2 Q I rx ry ⟨i, j, rfl, rfl, p.okSame S Rep.int⟩
    | _ => exact p.elim
  | str i =>
    cases w2 with
    | str j =>
      have e1 := r1.str_inv; have e2 := r2.str_inv
      subst e1 e2
      dsimp only [vAdd] at p
      split at p
      · rename_i hl
        exact op_add_str pins s σ H _ _ u1 u2 Q I rx ry ⟨i, j, rfl, rfl, hl, p.okSame S Rep.str⟩
      · exact p.elim
    | _ => exact p.elim
  | tup xs =>
    cases w2 with
    | tup ys =>
      obtain ⟨a, vs, e1, ha, q1⟩ := r1.tup_inv
      obtain ⟨b, us, e2, hb, q2⟩ := r2.tup_inv
      subst e1 e2
      dsimp only [vAdd] at p
      split at p
      · rename_i hl
        refine op_catA pins s σ H _ _ u1 u2 Q I rx ry ⟨a, b, vs, us, rfl, rfl, SqT.of ha, SqT.of hb, by rw [← q1.length, ← q2.length]; exact hl, fun e => ?_, fun e1 e2 => ?_, fun e1 e2 p' hp => ?_⟩
        · have : xs = [] := by have := q1.length; rw [e] at this; simpa using this
          subst this
          exact p.okSame S (Rep.tup hb q2)
        · have : ys = [] := by have := q2.length; rw [e2] at this; simpa using this
          subst this
          rw [List.append_nil] at p
          exact p.okSame S (Rep.tup ha q1)
        · exact p.newTup S (q1.append q2) hp
      · exact p.elim
    | _ => exact p.elim
  | ref n =>
    cases w2 with
    | ref m =>
      obtain ⟨a, e1, ha⟩ := r1.ref_inv
      obtain ⟨b, e2, hb⟩ := r2.ref_inv
      subst e1 e2
      dsimp only [vAdd] at p
      split at p
      · rename_i xs ys g1 g2
        obtain ⟨vs, h1, q1⟩ := S.at g1 ha
        obtain ⟨us, h2, q2⟩ := S.at g2 hb
        split at p
        · rename_i hl
          exact op_cat pins s σ H _ _ u1 u2 Q I rx ry ⟨a, b, vs, us, rfl, rfl, h1, h2, by rw [← q1.length, ← q2.length]; exact hl, fun p' hp => p.newLst S (q1.append q2) hp⟩
        · exact p.elim
      · exact p.elim
    | _ => exact p.elim
  | _ => exact p.elim
theorem m2_isN : M2 X (compareOp .Is) vIsN := by
  rintro pins s σ H x y u1 u2 Q I rx ry ⟨ι, st, w1, w2, S, r1, r2, p⟩
  cases w2 with
  | non =>
    have e2 := r2.non_inv
    subst e2
    refine op_isN pins s σ H _ _ u1 u2 Q I rx ry ⟨rfl, ?_⟩
    cases w1 with
    | non => have e := r1.non_inv; subst e; exact p.okSame S Rep.bl
    | int i => have e := r1.int_inv; subst e; exact p.okSame S Rep.bl
    | bl i => have e := r1.bl_inv; subst e; exact p.okSame S Rep.bl
    | str i => have e := r1.str_inv; subst e; exact p.okSame S Rep.bl
    | tup i => obtain ⟨_, _, e, _⟩ := r1.tup_inv; subst e; exact p.okSame S Rep.bl
    | ref i => obtain ⟨_, e, _⟩ := r1.ref_inv; subst e; exact p.okSame S Rep.bl
    | gl i => obtain ⟨_, e, _⟩ := r1.gl_inv; subst e; exact p.okSame S Rep.bl
    | adr i => exact p.elim
  | _ => cases w1 <;> exact p.elim
theorem m2_notN : M2 X (compareOp .IsNot) vNotN := by
  rintro pins s σ H x y u1 u2 Q I rx ry ⟨ι, st, w1, w2, S, r1, r2, p⟩
  cases w2 with
  | non =>
    have e2 := r2.non_inv
    subst e2
    refine op_notN pins s σ H _ _ u1 u2 Q I rx ry ⟨rfl, ?_⟩
    cases w1 with
    | non => have e := r1.non_inv; subst e; exact p.okSame S Rep.bl
    | int i => have e := r1.int_inv; subst e; exact p.okSame S Rep.bl
    | bl i => have e := r1.bl_inv; subst e; exact p.okSame S Rep.bl
    | str i => have e := r1.str_inv; subst e; exact p.okSame S Rep.bl
    | tup i => obtain ⟨_, _, e, _⟩ := r1.tup_inv; subst e; exact p.okSame S Rep.bl
    | ref i => obtain ⟨_, e, _⟩ := r1.ref_inv; subst e; exact p.okSame S Rep.bl
    | gl i => obtain ⟨_, e, _⟩ := r1.gl_inv; subst e; exact p.okSame S Rep.bl
    | adr i => exact p.elim
  | _ => cases w1 <;> exact p.elim
end
end Ab

set_option Elab.async false
set_option linter.all false
set_option maxRecDepth 100000
/-! Ab: tests, displays, calls of built-ins, subscripts. -/
namespace Ab
open PySem PySem.Spec L2

/-! ### tests -/
@[reducible] def asB : Val → Store → R Bool
  | .bl b, st => .ok b st
  | _, _ => .bad
@[reducible] def mTest (m : ME) : MT := fun ρ st => (m ρ st).bind asB
section
variable {X : Cx} {e a b c : Expr} {m ma mb mc : ME} {pos : Pos}
theorem JE.test (h : JE X e m) (k : ∀ t, PE X e t → PT X e (tB t)) : JT X e (mTest m) := fun W tk => by
  refine PT.weak (k _ (h W tk)) fun σ H Q ⟨ι, ρ, st, S, sl, p⟩ => ?_
  refine ⟨ι, ρ, st, S, sl, Post.bind p fun w st1 ι1 H1 x l1 S1 r1 p1 => ?_⟩
  cases w with
  | bl k => exact ⟨k, r1.bl_inv, p1.okSame S1 rfl⟩
  | _ => exact p1.elim
/-- an expression whose value is a bool -/
theorem jt_val (h : JE X e m) (he : ∀ whole, isTrue e X.env whole = (do let v ← whole; standAt e.pos; holding [v] (truthy v)) := by intro _; rfl) : JT X e (mTest m) := h.test fun _ q => pt_val q he
theorem jt_cmp {op : CmpOp} {g : Val → Val → Store → R Val} (ho : M2 X (compareOp op) g) (hq : ∀ x y st, Quiet (g x y st)) (ha : JE X a ma) (hb : JE X b mb) (hm : behindInMarks op b = false := by first | exact nomark _ | rfl) :
    JT X (.Compare a [op] [b] pos) (mTest (mBin g ma mb)) := fun W tk => by
  refine PT.weak (pt_cmpR ho (ha W tk) (hb W tk) hm) fun σ H Q ⟨ι, ρ, st, S, sl, p⟩ => ?_
  dsimp only [mTest, mBin] at p
  refine ⟨ι, ρ, st, S, sl, Post.bind (rel := rel1 X.mg) (r := ma ρ st) (f := fun x st1 => ((mb ρ st1).bind fun y st2 => g x y st2).bind asB) (by cases h : ma ρ st <;> rw [h] at p <;> exact p) fun w1 st1 ι1 H1 x l1 S1 r1 p1 => ?_⟩
  refine ⟨ι1, ρ, st1, S1, sl.later l1, Post.bind (rel := rel1 X.mg) (r := mb ρ st1) (f := fun y st2 => (g w1 y st2).bind asB) (by cases h : mb ρ st1 <;> rw [h] at p1 <;> exact p1) fun w2 st2 ι2 H2 y l2 S2 r2 p2 => ?_⟩
  refine ⟨ι2, st2, w1, w2, S2, Rep.later l2 r1, r2, ?_⟩
  have p3 := Post.bind (rel := rel1 X.mg) p2 fun w st3 ι3 H3 z l3 S3 r3 p3 => (show ∃ k, z = V.bl k ∧ Q k H3 from by
    cases w with
    | bl k => exact ⟨k, r3.bl_inv, p3.okSame S3 rfl⟩
    | _ => exact p3.elim)
  exact noExc (hq _ _ _) p3
@[reducible] def mChain (g g' : Val → Val → Store → R Val) (a b c : ME) : ME := fun ρ st => (a ρ st).bind fun x st1 => (b ρ st1).bind fun y st2 => (g x y st2).bind fun z st3 => match z with
  | .bl true => (c ρ st3).bind fun w st4 => g' y w st4
  | .bl false => .ok (.bl false) st3
  | _ => .bad
theorem chain_read {W : WX} {g g' : Val → Val → Store → R Val} (hq : ∀ x y st, Quiet (g x y st)) (hq' : ∀ x y st, Quiet (g' x y st)) (ha : JE X a ma) (hb : JE X b mb) (hc : JE X c mc) {σ : L2.St} {H : Hp} {Q : VK}
    (h : rdG X.K X.mg (rel1 X.mg) W (mChain g g' ma mb mc) σ H Q) : tChain (r2 X.K X.mg g) (r2 X.K X.mg g') (rdG X.K X.mg (rel1 X.mg) W ma) (rdG X.K X.mg (rel1 X.mg) W mb) (rdG X.K X.mg (rel1 X.mg) W mc) σ H Q := by
  obtain ⟨ι, ρ, st, S, sl, p⟩ := h
  refine ⟨ι, ρ, st, S, sl, Post.bind p fun w1 st1 ι1 H1 x l1 S1 r1 p1 => ?_⟩
  have sl1 := sl.later l1
  refine ⟨ι1, ρ, st1, S1, sl1, Post.bind p1 fun w2 st2 ι2 H2 y l2 S2 r2 p2 => ?_⟩
  have sl2 := sl1.later l2
  refine ⟨ι2, st2, w1, w2, S2, Rep.later l2 r1, r2, ?_⟩
  refine noExc (hq _ _ _) (Post.bind p2 fun w3 st3 ι3 H3 z l3 S3 r3 p3 => ?_)
  have sl3 := sl2.later l3
  cases w3 with
  | bl k =>
    refine ⟨k, r3.bl_inv, ?_⟩
    cases k with
    | true =>
      refine iteT ⟨ι3, ρ, st3, S3, sl3, Post.bind p3 fun w4 st4 ι4 H4 u l4 S4 r4 p4 => ?_⟩
      exact ⟨ι4, st4, w2, w4, S4, Rep.later l4 (Rep.later l3 r2), r4, noExc (hq' _ _ _) p4⟩
    | false => exact iteF (p3.okSame S3 Rep.bl)
  | _ => exact p3.elim
theorem je_chain {op op' : CmpOp} {g g' : Val → Val → Store → R Val} (ho : M2 X (compareOp op) g) (hq : ∀ x y st, Quiet (g x y st)) (ho' : M2 X (compareOp op') g') (hq' : ∀ x y st, Quiet (g' x y st)) (ha : JE X a ma) (hb : JE X b mb) (hc : JE X c mc)
    (hm : lastMarks [op, op'] [b, c] = false := by with_unfolding_all rfl) : JE X (.Compare a [op, op'] [b, c] pos) (mChain g g' ma mb mc) := fun W tk =>
  PE.weak (pe_chain ho ho' (ha W tk) (hb W tk) (hc W tk) hm) fun σ H Q h => chain_read hq hq' ha hb hc h
theorem jt_chain {op op' : CmpOp} {g g' : Val → Val → Store → R Val} (ho : M2 X (compareOp op) g) (hq : ∀ x y st, Quiet (g x y st)) (ho' : M2 X (compareOp op') g') (hq' : ∀ x y st, Quiet (g' x y st)) (ha : JE X a ma) (hb : JE X b mb) (hc : JE X c mc)
    (hm : lastMarks [op, op'] [b, c] = false := by with_unfolding_all rfl) : JT X (.Compare a [op, op'] [b, c] pos) (mTest (mChain g g' ma mb mc)) := fun W tk => by
  refine PT.weak (pt_chain ho ho' (ha W tk) (hb W tk) (hc W tk) hm) fun σ H Q ⟨ι, ρ, st, S, sl, p⟩ => ?_
  refine chain_read (W := W) hq hq' ha hb hc ⟨ι, ρ, st, S, sl, ?_⟩
  refine Post.bind p fun w st1 ι1 H1 x l1 S1 r1 p1 => ?_
  cases w with
  | bl k => exact ⟨k, r1.bl_inv, p1.okSame S1 rfl⟩
  | _ => exact p1.elim

/-! ### and, or, not -/
@[reducible] def tAndM (t u : MT) : MT := fun ρ st => (t ρ st).bind fun k st1 => if k = true then u ρ st1 else .ok false st1
@[reducible] def tOrM (t u : MT) : MT := fun ρ st => (t ρ st).bind fun k st1 => if k = true then .ok true st1 else u ρ st1
@[reducible] def tNotM (t : MT) : MT := fun ρ st => (t ρ st).bind fun k st1 => .ok (!k) st1
/-- a test whatever its whole is -/
def JW (X : Cx) (e : Expr) (m : MT) : Prop := ∀ W, Takes X W → PW X e (rdG X.K X.mg relB W m)
theorem PW.weak {t t' : TT} (h : PW X e t) (w : ∀ σ H Q, t' σ H Q → t σ H Q) : PW X e t' := ⟨fun wh pins s σ H Q I q => h.run wh pins s σ H Q I (w σ H Q q)⟩
theorem JW.jt {m : MT} (h : JW X e m) : JT X e m := fun W tk => (h W tk).pt
variable {t u : MT} {rest : List Expr}
theorem jw_and1 (ha : JT X a t) : JW X (.BoolOp .And [a] pos) t := fun W tk => pw_and1 (ha W tk)
theorem jw_or1 (ha : JT X a t) : JW X (.BoolOp .Or [a] pos) t := fun W tk => pw_or1 (ha W tk)
theorem jw_and (ha : JT X a t) (hb : JW X (.BoolOp .And (b :: rest) pos) u) : JW X (.BoolOp .And (a :: b :: rest) pos) (tAndM t u) := fun W tk => by
  refine PW.weak (pw_and (ha W tk) (hb W tk)) fun σ H Q ⟨ι, ρ, st, S, sl, p⟩ => ?_
  refine ⟨ι, ρ, st, S, sl, Post.bind p fun k st1 ι1 H1 k' l1 S1 r1 p1 => ?_⟩
  have r1 : k = k' := r1
  subst r1
  cases k with
  | true => exact iteT ⟨ι1, ρ, st1, S1, sl.later l1, p1⟩
  | false => exact iteF (p1.okSame S1 rfl)
theorem jw_or (ha : JT X a t) (hb : JW X (.BoolOp .Or (b :: rest) pos) u) : JW X (.BoolOp .Or (a :: b :: rest) pos) (tOrM t u) := fun W tk => by
  refine PW.weak (pw_or (ha W tk) (hb W tk)) fun σ H Q ⟨ι, ρ, st, S, sl, p⟩ => ?_
  refine ⟨ι, ρ, st, S, sl, Post.bind p fun k st1 ι1 H1 k' l1 S1 r1 p1 => ?_⟩
  have r1 : k = k' := r1
  subst r1
  cases k with
  | true => exact iteT (p1.okSame S1 rfl)
  | false => exact iteF ⟨ι1, ρ, st1, S1, sl.later l1, p1⟩
theorem jt_not (ha : JT X a t) : JT X (.UnaryOp .Not a pos) (tNotM t) := fun W tk => by
  refine PT.weak (pt_not (ha W tk)) fun σ H Q ⟨ι, ρ, st, S, sl, p⟩ => ?_
  refine ⟨ι, ρ, st, S, sl, Post.bind p fun k st1 ι1 H1 k' l1 S1 r1 p1 => ?_⟩
  have r1 : k = k' := r1
  subst r1
  exact p1.okSame S1 rfl
/-- as values, of bools -/
@[reducible] def mAnd (a b : ME) : ME := fun ρ st => (a ρ st).bind fun x st1 => match x with
  | .bl true => b ρ st1
  | .bl false => .ok (.bl false) st1
  | _ => .bad
@[reducible] def mOr (a b : ME) : ME := fun ρ st => (a ρ st).bind fun x st1 => match x with
  | .bl true => .ok (.bl true) st1
  | .bl false => b ρ st1
  | _ => .bad
@[reducible] def mNot (a : ME) : ME := fun ρ st => (a ρ st).bind fun x st1 => match x with
  | .bl k => .ok (.bl (!k)) st1
  | _ => .bad
theorem je_one {op} (h : JE X a m) : JE X (.BoolOp op [a] pos) m := fun W tk => pe_one (h W tk)
theorem je_and (ha : JE X a ma) (hb : JE X (.BoolOp .And (b :: rest) pos) mb) : JE X (.BoolOp .And (a :: b :: rest) pos) (mAnd ma mb) := fun W tk => by
  refine PE.weak (pe_and (ha W tk) (hb W tk)) fun σ H Q ⟨ι, ρ, st, S, sl, p⟩ => ?_
  refine ⟨ι, ρ, st, S, sl, Post.bind p fun w st1 ι1 H1 x l1 S1 r1 p1 => ?_⟩
  cases w with
  | bl k =>
    refine ⟨k, r1.bl_inv, ?_⟩
    cases k with
    | true => exact iteT ⟨ι1, ρ, st1, S1, sl.later l1, p1⟩
    | false => exact iteF (p1.okSame S1 Rep.bl)
  | _ => exact p1.elim
theorem je_or (ha : JE X a ma) (hb : JE X (.BoolOp .Or (b :: rest) pos) mb) : JE X (.BoolOp .Or (a :: b :: rest) pos) (mOr ma mb) := fun W tk => by
  refine PE.weak (pe_or (ha W tk) (hb W tk)) fun σ H Q ⟨ι, ρ, st, S, sl, p⟩ => ?_
  refine ⟨ι, ρ, st, S, sl, Post.bind p fun w st1 ι1 H1 x l1 S1 r1 p1 => ?_⟩
  cases w with
  | bl k =>
    refine ⟨k, r1.bl_inv, ?_⟩
    cases k with
    | true => exact iteT (p1.okSame S1 Rep.bl)
    | false => exact iteF ⟨ι1, ρ, st1, S1, sl.later l1, p1⟩
  | _ => exact p1.elim
@[reducible] def mIf (t : MT) (a b : ME) : ME := fun ρ st => (t ρ st).bind fun k st1 => if k = true then a ρ st1 else b ρ st1
theorem je_if (hc : JT X c t) (ha : JE X a ma) (hb : JE X b mb) : JE X (.IfExp c a b pos) (mIf t ma mb) := fun W tk => by
  refine PE.weak (pe_ifExp (hc W tk) (ha W tk) (hb W tk)) fun σ H Q ⟨ι, ρ, st, S, sl, p⟩ => ?_
  refine ⟨ι, ρ, st, S, sl, Post.bind p fun k st1 ι1 H1 k' l1 S1 r1 p1 => ?_⟩
  have r1 : k = k' := r1
  subst r1
  cases k with
  | true => exact iteT ⟨ι1, ρ, st1, S1, sl.later l1, p1⟩
  | false => exact iteF ⟨ι1, ρ, st1, S1, sl.later l1, p1⟩
end

/-! ### arguments, displays -/
@[reducible] def aNil : MA := fun _ st => .ok [] st
@[reducible] def aCons (m : ME) (t : MA) : MA := fun ρ st => (m ρ st).bind fun x st1 => (t ρ st1).bind fun xs st2 => .ok (x :: xs) st2
@[reducible] def mTup (t : MA) : ME := fun ρ st => (t ρ st).bind fun xs st1 => if xs.length ≤ sizeLine then .ok (.tup xs) st1 else .bad
@[reducible] def mLst (t : MA) : ME := fun ρ st => (t ρ st).bind fun xs st1 => if xs.length ≤ sizeLine then .ok (.ref st1.length) (st1 ++ [.lst xs]) else .bad
section
variable {X : Cx} {e a b c : Expr} {m ma mb mc : ME} {t : MA} {es : List Expr} {pos : Pos}
theorem ja_nil : JA X [] aNil := fun W tk => PA.weak pa_nil fun σ H Q ⟨ι, ρ, st, S, sl, p⟩ => p.okSame S Reps.nil
theorem ja_cons (ha : JE X e m) (hr : JA X es t) (hs : starEach (e :: es) X.env = (false, eval e X.env) :: starEach es X.env := by rfl) : JA X (e :: es) (aCons m t) := fun W tk => by
  refine PA.weak (pa_cons (ha W tk) (hr W tk) hs) fun σ H Q ⟨ι, ρ, st, S, sl, p⟩ => ?_
  refine ⟨ι, ρ, st, S, sl, Post.bind p fun w st1 ι1 H1 x l1 S1 r1 p1 => ?_⟩
  refine ⟨ι1, ρ, st1, S1, sl.later l1, Post.bind p1 fun ws st2 ι2 H2 xs l2 S2 r2 p2 => ?_⟩
  exact p2.okSame S2 (Reps.cons (Rep.later l2 r1) r2)
theorem je_tup {x1} (h : JA X es t) : JE X (.Tuple es x1 pos) (mTup t) := fun W tk => by
  refine PE.weak (pe_tup (h W tk)) fun σ H Q ⟨ι, ρ, st, S, sl, p⟩ => ?_
  refine ⟨ι, ρ, st, S, sl, Post.bind p fun ws st1 ι1 H1 xs l1 S1 r1 p1 => ?_⟩
  split at p1
  · rename_i hl
    exact ⟨by rw [← r1.length]; exact hl, fun q hq => p1.newTup S1 r1 hq⟩
  · exact p1.elim
theorem je_lst (h : JA X es t) : JE X (.List es pos) (mLst t) := fun W tk => by
  refine PE.weak (pe_lst (h W tk)) fun σ H Q ⟨ι, ρ, st, S, sl, p⟩ => ?_
  refine ⟨ι, ρ, st, S, sl, Post.bind p fun ws st1 ι1 H1 xs l1 S1 r1 p1 => ?_⟩
  split at p1
  · rename_i hl
    exact ⟨by rw [← r1.length]; exact hl, fun q hq => p1.newLst S1 r1 hq⟩
  · exact p1.elim
end

/-! ### calls of built-ins -/
def rC (K : PySem.W.Frag) (mg : Str → Option Value) (g : List Val → Store → R Val) : List V → Hp → VK → Prop := fun vs H Q =>
  ∃ ι st ws, Sim K mg ι st H ∧ Reps mg ι H ws vs ∧ Post K mg (rel1 mg) ι H Q (fun _ _ _ => False) (g ws st)
def MC (X : Cx) (f : Value) (g : List Val → Store → R Val) : Prop := CallR X f (rC X.K X.mg g)
@[reducible] def mApp (g : List Val → Store → R Val) (t : MA) : ME := fun ρ st => (t ρ st).bind fun ws st1 => g ws st1
section
variable {X : Cx} {e a b c : Expr} {m ma mb mc : ME} {t : MA} {es : List Expr} {pos p : Pos} {x : Str} {id T : String} {g : List Val → Store → R Val}
theorem app_read {W : WX} (hq : ∀ xs st, Quiet (g xs st)) {σ : L2.St} {H : Hp} {Q : VK} (h : rdG X.K X.mg (rel1 X.mg) W (mApp g t) σ H Q) :
    tCB (rC X.K X.mg g) (rdG X.K X.mg (relL X.mg) W t) σ H Q := by
  obtain ⟨ι, ρ, st, S, sl, p⟩ := h
  exact ⟨ι, ρ, st, S, sl, Post.bind p fun ws st1 ι1 H1 xs l1 S1 r1 p1 => ⟨ι1, st1, ws, S1, r1, noExc (hq _ _) p1⟩⟩
theorem je_callB (hc : MC X (.builtin id) g) (hq : ∀ xs st, Quiet (g xs st)) (hm : X.mg x = none) (hv : bootBuiltins x = some (.builtin id)) (ha : JA X (e :: es) t) (hg : Gl X x := by rfl) (hn : x ≠ "__name__" := by decide) (hdb : (x == ("__debug__" : Str)) = false := by decide)
    (he : starEach (e :: es) X.env = (false, eval e X.env) :: starEach es X.env := by rfl) (hpl : (backTo pos (starEach es X.env)).any (·.1) = false := by rfl) : JE X (.Call (.Name x p) (e :: es) [] pos) (mApp g t) := fun W tk =>
  PE.weak (pe_callB hc hg hm hv (ha W tk) hn hdb he hpl) fun σ H Q h => app_read hq h
theorem je_callTy (hc : MC X (.type T) g) (hq : ∀ xs st, Quiet (g xs st)) (hm : X.mg x = none) (hv : bootBuiltins x = some (.type T)) (ha : JA X (e :: es) t) (hg : Gl X x := by rfl) (hn : x ≠ "__name__" := by decide) (hdb : (x == ("__debug__" : Str)) = false := by decide)
    (he : starEach (e :: es) X.env = (false, eval e X.env) :: starEach es X.env := by rfl) (hpl : (backTo pos (starEach es X.env)).any (·.1) = false := by rfl) : JE X (.Call (.Name x p) (e :: es) [] pos) (mApp g t) := fun W tk =>
  PE.weak (pe_callTy hc hg hm hv (ha W tk) hn hdb he hpl) fun σ H Q h => app_read hq h
end

/-! ### subscripts -/
@[reducible] def vIx : Val → Val → Store → R Val
  | .tup xs, .int i, st => match atI xs i with
    | some w => .ok w st
    | none => .bad
  | .ref n, .int i, st => match seqAt st n with
    | some xs => match atI xs i with
      | some w => .ok w st
      | none => .bad
    | none => .bad
  | .str z, .int i, st => if z.length ≤ sizeLine then match atI z.cps.toList i with
      | some c => .ok (.str ⟨#[c]⟩) st
      | none => .bad
    else .bad
  | _, _, _ => .bad
theorem Reps.atI {mg : Str → Option Value} {ι : List Addr} {H : Hp} {ws : List Val} {vs : List V} (r : Reps mg ι H ws vs) {i : Int} {w : Val} (h : L2.atI ws i = some w) : ∃ v, L2.atI vs i = some v ∧ Rep mg ι H w v := by
  unfold L2.atI at h ⊢
  rw [← r.length]
  cases e : ixN ws.length i with
  | none => rw [e] at h; cases h
  | some j =>
    rw [e] at h
    exact r.get h
section
variable {X : Cx} {e a b c : Expr} {m ma mb mc : ME} {pos p2 : Pos}
theorem ix_all : IxR X (r2 X.K X.mg vIx) := by
  intro value slice pins s σ H x y v u Q I rx ry ⟨ι, st, w1, w2, S, r1, r2, p⟩ hs
  cases w2 with
  | int i =>
    have e2 := r2.int_inv
    subst e2
    cases w1 with
    | tup xs =>
      obtain ⟨q, vs, e1, hq, rr⟩ := r1.tup_inv
      subst e1
      dsimp only [vIx] at p
      split at p
      · rename_i w ew
        obtain ⟨z, ez, rz⟩ := rr.atI ew
        exact ix_tup value slice pins s σ H _ _ v u Q I rx ry ⟨q, vs, i, z, rfl, rfl, SqT.of hq, ez, p.okSame S rz⟩ hs
      · exact p.elim
    | ref n =>
      obtain ⟨q, e1, hq⟩ := r1.ref_inv
      subst e1
      dsimp only [vIx] at p
      cases es : seqAt st n with
      | none => rw [es] at p; exact p.elim
      | some xs =>
        rw [es] at p
        dsimp only at p
        obtain ⟨vs, hl, rr⟩ := S.seqL es hq
        split at p
        · rename_i w ew
          obtain ⟨z, ez, rz⟩ := rr.atI ew
          exact ix_list value slice pins s σ H _ _ v u Q I rx ry ⟨q, vs, i, z, rfl, rfl, hl, ez, p.okSame S rz⟩ hs
        · exact p.elim
    | str z =>
      have e1 := r1.str_inv
      subst e1
      dsimp only [vIx] at p
      split at p
      · rename_i hz
        split at p
        · rename_i c ec
          exact ix_str value slice pins s σ H _ _ v u Q I rx ry ⟨z, i, c, rfl, rfl, hz, ec, p.okSame S Rep.str⟩ hs
        · exact p.elim
      · exact p.elim
    | _ => exact p.elim
  | _ => cases w1 <;> exact p.elim
theorem quiet_ix : ∀ x y st, Quiet (vIx x y st) := by
  intro x y st ex st' h
  unfold vIx at h
  repeat (first | (split at h) | cases h)
theorem je_ix (ha : JE X a ma) (hb : JE X b mb) (hs : PlainIx b := by exact fun _ _ => rfl) : JE X (.Subscript a b pos) (mBin vIx ma mb) := JE.bin quiet_ix ha hb fun _ _ h1 h2 => pe_ix ix_all h1 h2 hs

/-! ### slices -/
abbrev MO := Slots → Store → R (Option Int)
abbrev relO : List Addr → Hp → Option Int → Option Int → Prop := fun _ _ a b => a = b
def JO (X : Cx) (e : Option Expr) (m : MO) : Prop := ∀ W, Takes X W → PO X e (rdG X.K X.mg relO W m)
theorem PO.weak {e : Option Expr} {t t' : TO} (h : PO X e t) (w : ∀ σ H Q, t' σ H Q → t σ H Q) : PO X e t' := ⟨fun pins s σ H Q I q => h.run pins s σ H Q I (w σ H Q q)⟩
@[reducible] def oNone : MO := fun _ st => .ok none st
@[reducible] def asI : Val → Store → R (Option Int)
  | .int i, st => .ok (some i) st
  | _, _ => .bad
@[reducible] def oSome (m : ME) : MO := fun ρ st => (m ρ st).bind asI
theorem jo_none : JO X none oNone := fun W tk => PO.weak po_none fun σ H Q ⟨ι, ρ, st, S, sl, p⟩ => p.okSame S rfl
theorem jo_some (h : JE X e m) : JO X (some e) (oSome m) := fun W tk => by
  refine PO.weak (po_some (h W tk)) fun σ H Q ⟨ι, ρ, st, S, sl, p⟩ => ?_
  refine ⟨ι, ρ, st, S, sl, Post.bind p fun w st1 ι1 H1 x l1 S1 r1 p1 => ?_⟩
  cases w with
  | int i => exact ⟨i, r1.int_inv, p1.okSame S1 rfl⟩
  | _ => exact p1.elim
/-- xs[lo:hi] -/
def cut {α : Type} (xs : List α) (lo hi : Option Int) : List α := (xs.drop (HT.sIx xs.length 0 lo)).take (HT.sIx xs.length xs.length hi - HT.sIx xs.length 0 lo)
theorem Reps.cut {mg : Str → Option Value} {ι : List Addr} {H : Hp} {ws : List Val} {vs : List V} (r : Reps mg ι H ws vs) (lo hi : Option Int) : Reps mg ι H (Ab.cut ws lo hi) (cutV vs lo hi) := by
  unfold Ab.cut cutV
  rw [r.length]
  exact (r.drop _).take _
@[reducible] def vCut : Val → Option Int → Option Int → Store → R Val
  | .tup xs, lo, hi, st => .ok (.tup (cut xs lo hi)) st
  | .ref n, lo, hi, st => match seqAt st n with
    | some xs => .ok (.ref st.length) (st ++ [.lst (cut xs lo hi)])
    | none => .bad
  | _, _, _, _ => .bad
theorem cut_whole {α : Type} {xs : List α} {lo hi : Option Int} (h : HT.sIx xs.length 0 lo = 0 ∧ HT.sIx xs.length xs.length hi = xs.length) : cut xs lo hi = xs := by
  unfold cut
  rw [h.1, h.2]
  simp
def rSl (K : PySem.W.Frag) (mg : Str → Option Value) : V → Option Int → Option Int → Hp → VK → Prop := fun x lo hi H Q =>
  ∃ ι st w, Sim K mg ι st H ∧ Rep mg ι H w x ∧ Post K mg (rel1 mg) ι H Q (fun _ _ _ => False) (vCut w lo hi st)
theorem sl_all : SlR X (rSl X.K X.mg) := by
  intro pins s σ H x v vl vu lo hi sl Q I rx hs pl pu ⟨ι, st, w, S, r, p⟩
  cases w with
  | tup xs =>
    obtain ⟨q, vs, e1, hq, rr⟩ := r.tup_inv
    subst e1
    refine sl_tupA pins s σ H _ v vl vu lo hi sl Q I rx hs pl pu ⟨q, vs, rfl, SqT.of hq, fun hw => ?_, fun _ z hz => p.newTup S (rr.cut lo hi) hz⟩
    rw [← rr.length] at hw
    dsimp only [vCut] at p
    rw [cut_whole hw] at p
    exact p.okSame S (Rep.tup hq rr)
  | ref n =>
    obtain ⟨q, e1, hq⟩ := r.ref_inv
    subst e1
    dsimp only [vCut] at p
    cases es : seqAt st n with
    | none => rw [es] at p; exact p.elim
    | some xs =>
      rw [es] at p
      obtain ⟨vs, hl, rr⟩ := S.seqL es hq
      exact sl_list pins s σ H _ v vl vu lo hi sl Q I rx hs pl pu ⟨q, vs, rfl, hl, fun z hz => p.newLst S (rr.cut lo hi) hz⟩
  | _ => exact p.elim
theorem quiet_cut : ∀ x lo hi st, Quiet (vCut x lo hi st) := by
  intro x lo hi st ex st' h
  unfold vCut at h
  repeat (first | (split at h) | cases h)
@[reducible] def mCut (a : ME) (lo hi : MO) : ME := fun ρ st => (a ρ st).bind fun x st1 => (lo ρ st1).bind fun l st2 => (hi ρ st2).bind fun h st3 => vCut x l h st3
theorem je_cut {lo hi : Option Expr} {mlo mhi : MO} (ha : JE X a ma) (hl : JO X lo mlo) (hh : JO X hi mhi) : JE X (.Subscript a (.Slice lo hi none p2) pos) (mCut ma mlo mhi) := fun W tk => by
  refine PE.weak (pe_slice sl_all (ha W tk) (hl W tk) (hh W tk)) fun σ H Q ⟨ι, ρ, st, S, sl, p⟩ => ?_
  refine ⟨ι, ρ, st, S, sl, Post.bind p fun w st1 ι1 H1 x l1 S1 r1 p1 => ?_⟩
  have sl1 := sl.later l1
  refine ⟨ι1, ρ, st1, S1, sl1, Post.bind p1 fun lo' st2 ι2 H2 lo'' l2 S2 r2 p2 => ?_⟩
  have sl2 := sl1.later l2
  have r2 : lo' = lo'' := r2
  subst r2
  refine ⟨ι2, ρ, st2, S2, sl2, Post.bind p2 fun hi' st3 ι3 H3 hi'' l3 S3 r3 p3 => ?_⟩
  have r3 : hi' = hi'' := r3
  subst r3
  exact ⟨ι3, st3, w, S3, Rep.later l3 (Rep.later l2 r1), noExc (quiet_cut _ _ _ _) p3⟩
end
end Ab

set_option Elab.async false
set_option linter.all false
set_option maxRecDepth 100000
/-! Ab: statements, targets, loops. -/
namespace Ab
open PySem PySem.Spec L2

@[reducible] def R.toO {α : Type} (r : R α) (ρ : Slots) (f : α → Store → O) : O := match r with
  | .ok a st => f a st
  | .exc x st => .exc x ρ st
  | .bad => .bad
@[reducible] def O.then (o : O) (f : Slots → Store → O) : O := match o with
  | .nx ρ st => f ρ st
  | .ret w st => .ret w st
  | .brk ρ st => .brk ρ st
  | .ct ρ st => .ct ρ st
  | .exc x ρ st => .exc x ρ st
  | .bad => .bad
section
variable {α β : Type} {K : PySem.W.Frag} {mg : Str → Option Value} {rel : List Addr → Hp → α → β → Prop} {ι : List Addr} {H : Hp} {W : WX} {D : Ends}
theorem PostO.bind {r : R α} {ρ : Slots} {σ : L2.St} {f : α → Store → O} {Q1 : β → Hp → Prop} (p : PostO K mg W ι H D (r.toO ρ f)) (sl : SlotsOk mg ι H ρ σ)
    (k : ∀ a st1 ι1 H1 b, Later ι H ι1 H1 → Sim K mg ι1 st1 H1 → rel ι1 H1 a b → PostO K mg W ι1 H1 D (f a st1) → Q1 b H1) : Post K mg rel ι H Q1 (fun c d H' => W c d σ H') r := by
  cases r with
  | ok a st1 => exact fun ι1 H1 b l S r => k a st1 ι1 H1 b l S r (PostO.later p l)
  | exc x st1 => exact fun ι1 H1 c d l S r => p ι1 H1 σ c d l S (sl.later l) r
  | bad => exact p
theorem PostO.nx_same {ρ : Slots} {σ : L2.St} {st : Store} (p : PostO K mg W ι H D (.nx ρ st)) (S : Sim K mg ι st H) (sl : SlotsOk mg ι H ρ σ) : D.nx σ H := p ι H σ (Later.refl _ _) S sl
theorem PostO.ret_same {w : Val} {v : V} {st : Store} (p : PostO K mg W ι H D (.ret w st)) (S : Sim K mg ι st H) (r : Rep mg ι H w v) : D.rt v H := p ι H v (Later.refl _ _) S r
end

/-! ### small statements -/
@[reducible] def sNext : MS := fun ρ st => .nx ρ st
@[reducible] def sSeq (a b : MS) : MS := fun ρ st => (a ρ st).then b
@[reducible] def sSet (i : Nat) (m : ME) : MS := fun ρ st => (m ρ st).toO ρ fun w st1 => .nx (ρ.set i (some w)) st1
@[reducible] def sRet (m : ME) : MS := fun ρ st => (m ρ st).toO ρ fun w st1 => .ret w st1
@[reducible] def sDrop (m : ME) : MS := fun ρ st => (m ρ st).toO ρ fun _ st1 => .nx ρ st1
@[reducible] def sIf (t : MT) (a b : MS) : MS := fun ρ st => (t ρ st).toO ρ fun k st1 => if k = true then a ρ st1 else b ρ st1
@[reducible] def sAug (i : Nat) (g : Val → Val → Store → R Val) (m : ME) : MS := fun ρ st => match ρ[i]? with
  | some (some x) => (m ρ st).toO ρ fun y st1 => (g x y st1).toO ρ fun z st2 => .nx (ρ.set i (some z)) st2
  | _ => .bad
@[reducible] def sBreak : MS := fun ρ st => .brk ρ st
@[reducible] def sCont : MS := fun ρ st => .ct ρ st
section
variable {X : Cx} {st : Stmt} {rest : List Stmt} {m1 m2 : MS} {e : Expr} {m : ME} {t : MT} {pos pos' : Pos}
theorem jss_nil : JSs X [] sNext := fun W tk => PSs.weak pss_nil fun D σ H ⟨ι, ρ, st, S, sl, p⟩ => p.nx_same S sl
theorem jss_cons (h1 : JS X st m1) (h2 : JSs X rest m2) : JSs X (st :: rest) (sSeq m1 m2) := fun W tk => by
  refine PSs.weak (pss_cons (h1 W tk) (h2 W tk)) fun D σ H ⟨ι, ρ, s, S, sl, p⟩ => ?_
  refine ⟨ι, ρ, s, S, sl, ?_⟩
  show PostO X.K X.mg W ι H { D with nx := rdS X.K X.mg W m2 D } (m1 ρ s)
  have p : PostO X.K X.mg W ι H D ((m1 ρ s).then m2) := p
  cases h : m1 ρ s with
  | nx ρ1 s1 =>
    rw [h] at p
    exact fun ι1 H1 σ1 l S1 sl1 => ⟨ι1, ρ1, s1, S1, sl1, PostO.later p l⟩
  | _ => rw [h] at p; exact p
theorem jss_one (h1 : JS X st m1) : JSs X [st] m1 := fun W tk => pss_one (h1 W tk)
theorem js_set {i : Nat} {x : Str} (hN : X.N.Nodup) (he : JE X e m) (hi : X.N[i]? = some x := by rfl) (hx : Loc X.env.scope x := by first | exact .inl rfl | exact .inr rfl) (hs : swapsWith e (some (.Name x pos')) pos.line X.env = pure false := by rfl)
    (hf : X.fn x = true ∨ X.env.scope.names.lookup x = some .local := by first | exact .inl rfl | exact .inr rfl | assumption) : JS X (.Assign [.Name x pos'] e pos) (sSet i m) := fun W tk => by
  refine PS.weak (ps_set hN hi hx (he W tk) hs hf) fun D σ H ⟨ι, ρ, st, S, sl, p⟩ => ?_
  refine ⟨ι, ρ, st, S, sl, PostO.bind p sl fun w st1 ι1 H1 v l1 S1 r1 p1 => ?_⟩
  exact p1.nx_same S1 ((sl.later l1).set i r1)
theorem js_ret (he : JE X e m) : JS X (.Return (some e) pos) (sRet m) := fun W tk => by
  refine PS.weak (ps_ret (he W tk)) fun D σ H ⟨ι, ρ, st, S, sl, p⟩ => ?_
  exact ⟨ι, ρ, st, S, sl, PostO.bind p sl fun w st1 ι1 H1 v l1 S1 r1 p1 => p1.ret_same S1 r1⟩
theorem js_expr (he : JE X e m) (hs : swapsWith e none pos.line X.env = pure false := by rfl) : JS X (.Expr e pos) (sDrop m) := fun W tk => by
  refine PS.weak (ps_expr (he W tk) hs) fun D σ H ⟨ι, ρ, st, S, sl, p⟩ => ?_
  exact ⟨ι, ρ, st, S, sl, PostO.bind p sl fun w st1 ι1 H1 v l1 S1 r1 p1 => p1.nx_same S1 (sl.later l1)⟩
theorem js_if {c : Expr} {a b : List Stmt} (hc : JT X c t) (ha : JSs X a m1) (hb : JSs X b m2) : JS X (.If c a b pos) (sIf t m1 m2) := fun W tk => by
  refine PS.weak (ps_if (hc W tk) (ha W tk) (hb W tk)) fun D σ H ⟨ι, ρ, st, S, sl, p⟩ => ?_
  refine ⟨ι, ρ, st, S, sl, PostO.bind p sl fun k st1 ι1 H1 k' l1 S1 r1 p1 => ?_⟩
  have r1 : k = k' := r1
  subst r1
  cases k with
  | true => exact iteT ⟨ι1, ρ, st1, S1, sl.later l1, p1⟩
  | false => exact iteF ⟨ι1, ρ, st1, S1, sl.later l1, p1⟩
/-- x op= e -/
theorem js_aug {i : Nat} {x : Str} {op : Operator} {g : Val → Val → Store → R Val} (hN : X.N.Nodup) (ho : M2 X (inplaceOp op) g) (hq : ∀ x y st, Quiet (g x y st)) (he : JE X e m) (hi : X.N[i]? = some x := by rfl) (hx : Loc X.env.scope x := by first | exact .inl rfl | exact .inr rfl)
    (hf : X.fn x = true ∨ X.env.scope.names.lookup x = some .local := by first | exact .inl rfl | exact .inr rfl | assumption) : JS X (.AugAssign (.Name x pos') op e pos) (sAug i g m) := fun W tk => by
  refine PS.weak (ps_aug hN hi hx (he W tk) (ti := r2 X.K X.mg g) ho hf) fun D σ H ⟨ι, ρ, st, S, sl, p⟩ => ?_
  dsimp only [sAug] at p
  split at p
  · rename_i w ew
    obtain ⟨v, ev, rv⟩ := sl.2 i w ew
    refine ⟨v, ev, ι, ρ, st, S, sl, PostO.bind p sl fun y st1 ι1 H1 yv l1 S1 r1 p1 => ?_⟩
    refine ⟨ι1, st1, w, y, S1, Rep.later l1 rv, r1, noExc (hq _ _ _) (PostO.bind (σ := σ) p1 (sl.later l1) fun z st2 ι2 H2 zv l2 S2 r2 p2 => ?_)⟩
    exact p2.nx_same S2 (((sl.later l1).later l2).set i r2)
  · exact p.elim
end

/-! ### targets -/
abbrev MG := Val → Slots → Store → Option (Slots × Store)
abbrev MGs := List Val → Slots → Store → Option (Slots × Store)
/-- all slots but those are as they were -/
def OutS (vs : List Nat) (σ σ' : L2.St) : Prop := σ'.length = σ.length ∧ ∀ i, i ∉ vs → σ'[i]? = σ[i]?
theorem OutS.refl (vs : List Nat) (σ : L2.St) : OutS vs σ σ := ⟨rfl, fun _ _ => rfl⟩
theorem OutS.mono {vs ws : List Nat} {σ σ' : L2.St} (h : OutS vs σ σ') (hs : ∀ i ∈ vs, i ∈ ws) : OutS ws σ σ' := ⟨h.1, fun i hi => h.2 i fun z => hi (hs i z)⟩
theorem OutS.trans {vs : List Nat} {σ σ1 σ2 : L2.St} (a : OutS vs σ σ1) (b : OutS vs σ1 σ2) : OutS vs σ σ2 := ⟨b.1.trans a.1, fun i hi => (b.2 i hi).trans (a.2 i hi)⟩
def PostG (K : PySem.W.Frag) (mg : Str → Option Value) (vs : List Nat) (ι : List Addr) (H : Hp) (σ : L2.St) (Q : L2.St → Hp → Prop) : Option (Slots × Store) → Prop
  | some (ρ, st) => ∀ ι' H' σ', Later ι H ι' H' → Sim K mg ι' st H' → SlotsOk mg ι' H' ρ σ' → OutS vs σ σ' → Q σ' H'
  | none => False
theorem PostG.later {K : PySem.W.Frag} {mg : Str → Option Value} {vs : List Nat} {σ : L2.St} {ι ι1 : List Addr} {H H1 : Hp} {Q : L2.St → Hp → Prop} {r : Option (Slots × Store)} (p : PostG K mg vs ι H σ Q r) (l : Later ι H ι1 H1) : PostG K mg vs ι1 H1 σ Q r := by
  cases r with
  | none => exact p
  | some x => exact fun ι' H' σ' l' => p ι' H' σ' (l.trans l')
theorem PostG.same {K : PySem.W.Frag} {mg : Str → Option Value} {vs : List Nat} {ι : List Addr} {H : Hp} {Q : L2.St → Hp → Prop} {ρ : Slots} {st : Store} {σ σ' : L2.St} (p : PostG K mg vs ι H σ Q (some (ρ, st))) (S : Sim K mg ι st H) (sl : SlotsOk mg ι H ρ σ') (o : OutS vs σ σ') : Q σ' H := p ι H σ' (Later.refl _ _) S sl o
def rdT (K : PySem.W.Frag) (mg : Str → Option Value) (vs : List Nat) (g : MG) : TG := fun v σ H Q => ∃ ι ρ st w, Sim K mg ι st H ∧ SlotsOk mg ι H ρ σ ∧ Rep mg ι H w v ∧ PostG K mg vs ι H σ Q (g w ρ st)
def rdTs (K : PySem.W.Frag) (mg : Str → Option Value) (is : List Nat) (g : MGs) : TGs := fun vs σ H Q => ∃ ι ρ st ws, Sim K mg ι st H ∧ SlotsOk mg ι H ρ σ ∧ Reps mg ι H ws vs ∧ PostG K mg is ι H σ Q (g ws ρ st)
def JG (X : Cx) (tg : Expr) (vs : List Nat) (g : MG) : Prop := PG X tg (rdT X.K X.mg vs g)
def JGs (X : Cx) (ts : List Expr) (vs : List Nat) (g : MGs) : Prop := PGs X ts (rdTs X.K X.mg vs g)
@[reducible] def gSet (i : Nat) : MG := fun w ρ st => some (ρ.set i (some w), st)
@[reducible] def gsNil : MGs := fun ws ρ st => match ws with
  | [] => some (ρ, st)
  | _ => none
@[reducible] def gsCons (g : MG) (h : MGs) : MGs := fun ws ρ st => match ws with
  | w :: ws => match g w ρ st with
    | some (ρ1, st1) => h ws ρ1 st1
    | none => none
  | [] => none
/-- a, b = a tuple -/
@[reducible] def gTupM (n : Nat) (h : MGs) : MG := fun w ρ st => match w with
  | .tup ws => if ws.length = n then h ws ρ st else none
  | _ => none
section
variable {X : Cx} {pos : Pos} {e : Expr} {es : List Expr} {g : MG} {h : MGs}
theorem PG.weak {tg : Expr} {t t' : TG} (h : PG X tg t) (w : ∀ v σ H Q, t' v σ H Q → t v σ H Q) : PG X tg t' := ⟨fun pins s σ H v u Q I r q => h.run pins s σ H v u Q I r (w v σ H Q q)⟩
theorem PGs.weak {tg : List Expr} {t t' : TGs} (h : PGs X tg t) (w : ∀ v σ H Q, t' v σ H Q → t v σ H Q) : PGs X tg t' := ⟨fun pins s σ H v u Q I r q => h.run pins s σ H v u Q I r (w v σ H Q q)⟩
theorem jg_name {i : Nat} {x : Str} (hN : X.N.Nodup) (hi : X.N[i]? = some x := by rfl) (hx : Loc X.env.scope x := by first | exact .inl rfl | exact .inr rfl) (hf : X.fn x = true ∨ X.env.scope.names.lookup x = some .local := by first | exact .inl rfl | exact .inr rfl | assumption) : JG X (.Name x pos) [i] (gSet i) :=
  PG.weak (pg_name hN hi hx hf) fun v σ H Q ⟨ι, ρ, st, w, S, sl, r, p⟩ => p.same S (sl.set i r) ⟨by simp, fun j hj => List.getElem?_set_ne (fun e => hj (by simp [e]))⟩
theorem jgs_nil : JGs X [] [] gsNil := PGs.weak pgs_nil fun vs σ H Q ⟨ι, ρ, st, ws, S, sl, r, p⟩ => by
  cases ws with
  | nil => exact ⟨r.of_nil, p.same S sl (OutS.refl _ _)⟩
  | cons w ws => exact p.elim
theorem jgs_cons {vs vs2 : List Nat} (h1 : JG X e vs g) (h2 : JGs X es vs2 h) (hs : (assignEach (e :: es) X.env).map (·.2) = assign e X.env :: (assignEach es X.env).map (·.2) := by rfl) : JGs X (e :: es) (vs ++ vs2) (gsCons g h) :=
  PGs.weak (pgs_cons h1 h2 hs) fun us σ H Q ⟨ι, ρ, st, ws, S, sl, r, p⟩ => by
    cases ws with
    | nil => exact p.elim
    | cons w ws =>
      obtain ⟨v, r', e1, r1, r2⟩ := r.of_cons
      refine ⟨v, r', e1, ι, ρ, st, w, S, sl, r1, ?_⟩
      dsimp only [gsCons] at p
      cases q : g w ρ st with
      | none => rw [q] at p; exact p.elim
      | some z =>
        rw [q] at p
        refine fun ι1 H1 σ1 l S1 sl1 o1 => ⟨ι1, z.1, z.2, ws, S1, sl1, r2.later l, ?_⟩
        have p := PostG.later p l
        dsimp only at p
        cases q2 : h ws z.1 z.2 with
        | none => rw [q2] at p; exact p.elim
        | some y =>
          rw [q2] at p
          exact fun ι2 H2 σ2 l2 S2 sl2 o2 => p ι2 H2 σ2 l2 S2 sl2 ((o1.mono fun i hi => List.mem_append_left _ hi).trans (o2.mono fun i hi => List.mem_append_right _ hi))
theorem jg_tup {k n : Nat} {vs : List Nat} (hc : X.calm = true) (hh : JGs X es vs h) (hn : (assignEach es X.env).length = n := by rfl) (hst : (assignEach es X.env).findIdx? (·.1) = none := by rfl) : JG X (.Tuple es k pos) vs (gTupM n h) :=
  PG.weak (pg_tup hc hh hn hst) fun v σ H Q ⟨ι, ρ, st, w, S, sl, r, p⟩ => by
    cases w with
    | tup ws =>
      obtain ⟨a, vs, e1, ha, rr⟩ := r.tup_inv
      dsimp only [gTupM] at p
      split at p
      · rename_i hl
        exact ⟨a, vs, e1, SqT.of ha, by rw [← rr.length]; exact hl, ι, ρ, st, ws, S, sl, rr, p⟩
      · exact p.elim
    | _ => exact p.elim
@[reducible] def sAsg (m : ME) (g : MG) : MS := fun ρ st => (m ρ st).toO ρ fun w st1 => match g w ρ st1 with
  | some (ρ1, st2) => .nx ρ1 st2
  | none => .bad
theorem js_asg {tg : Expr} {m : ME} {vs : List Nat} (he : JE X e m) (hg : JG X tg vs g) (hs : swapsWithSole [tg] e pos.line X.env = pure false := by rfl) (hw : swappedStores [tg] e X.env = pure none := by rfl)
    (h1 : (assignEach [tg] X.env).map (·.2) = [assign tg X.env] := by rfl) : JS X (.Assign [tg] e pos) (sAsg m g) := fun W tk => by
  refine PS.weak (ps_asg (he W tk) hg hs hw h1) fun D σ H ⟨ι, ρ, st, S, sl, p⟩ => ?_
  refine ⟨ι, ρ, st, S, sl, PostO.bind p sl fun w st1 ι1 H1 v l1 S1 r1 p1 => ?_⟩
  refine ⟨ι1, ρ, st1, w, S1, sl.later l1, r1, ?_⟩
  cases q : g w ρ st1 with
  | none => rw [q] at p1; exact p1.elim
  | some z => rw [q] at p1; exact fun ι2 H2 σ2 l2 S2 sl2 _ => p1 ι2 H2 σ2 l2 S2 sl2
/-- a, b = x, y, the names plain locals -/
@[reducible] def sPar (i j : Nat) (t : MA) : MS := fun ρ st => (t ρ st).toO ρ fun ws st1 => match ws with
  | [v, w] => .nx ((ρ.set i (some v)).set j (some w)) st1
  | _ => .bad
theorem js_par {i j : Nat} {x y : Str} {a b : Expr} {t : MA} {px py pt : Pos} {kt k2 pt2} (hc : X.calm = true) (hN : X.N.Nodup) (ha : JA X [a, b] t) (hi : X.N[i]? = some x := by rfl) (hj : X.N[j]? = some y := by rfl) (hij : i ≠ j := by decide)
    (hx : X.env.scope.names.lookup x = some .local := by rfl) (hy : X.env.scope.names.lookup y = some .local := by rfl)
    (hw : swappedStores [.Tuple [.Name x px, .Name y py] kt pt] (.Tuple [a, b] k2 pt2) X.env = pure (some [x, y]) := by rfl)
    (hs : swapsWithSole [.Tuple [.Name x px, .Name y py] kt pt] (.Tuple [a, b] k2 pt2) pos.line X.env = pure false := by rfl) :
    JS X (.Assign [.Tuple [.Name x px, .Name y py] kt pt] (.Tuple [a, b] k2 pt2) pos) (sPar i j t) := fun W tk => by
  refine PS.weak (ps_par hc hN hi hj hij hx hy (ha W tk) hw hs) fun D σ H ⟨ι, ρ, st, S, sl, p⟩ => ?_
  refine ⟨ι, ρ, st, S, sl, PostO.bind p sl fun ws st1 ι1 H1 vs l1 S1 r1 p1 => ?_⟩
  split at p1
  · rename_i v w
    obtain ⟨v', r', e1, q1, q2⟩ := Reps.of_cons r1
    obtain ⟨w', r'', e2, q3, q4⟩ := q2.of_cons
    have e3 := q4.of_nil
    subst e3; subst e2; subst e1
    exact ⟨v', w', rfl, p1.nx_same S1 (((sl.later l1).set i q1).set j q3)⟩
  · exact p1.elim
end

/-! ### what is walked -/
structure IsIt (K : PySem.W.Frag) (mg : Str → Option Value) (items : List Val) (okp : Store → Prop) (ι0 : List Addr) (H0 : Hp) (J : It) : Prop where
  go : ∀ (i : Nat) ι H st, Later ι0 H0 ι H → Sim K mg ι st H → okp st → i < items.length → J.go i H
  yld : ∀ (i : Nat) ι H st x H', Later ι0 H0 ι H → Sim K mg ι st H → okp st → i < items.length → J.yld i H x H' → Later ι H ι H' ∧ Sim K mg ι st H' ∧ ∃ w, items[i]? = some w ∧ Rep mg ι H' w x
  stop : ∀ (i : Nat) ι H st, Later ι0 H0 ι H → Sim K mg ι st H → okp st → i = items.length → J.stop i H
abbrev MI := Slots → Store → R (List Val × (Store → Prop))
abbrev relI (K : PySem.W.Frag) (mg : Str → Option Value) : List Addr → Hp → List Val × (Store → Prop) → It → Prop := fun ι H m J => IsIt K mg m.1 m.2 ι H J
def JI (X : Cx) (tg iter : Expr) (m : MI) : Prop := ∀ W, Takes X W → PI X tg iter (rdG X.K X.mg (relI X.K X.mg) W m)
open Classical in
noncomputable def forM (g : MG) (body : MS) (okp : Store → Prop) : List Val → Slots → Store → O
  | [], ρ, st => if okp st then .nx ρ st else .bad
  | w :: ws, ρ, st => if okp st then match g w ρ st with
      | none => .bad
      | some (ρ1, st1) => match body ρ1 st1 with
        | .nx ρ2 st2 => forM g body okp ws ρ2 st2
        | .ct ρ2 st2 => forM g body okp ws ρ2 st2
        | .brk ρ2 st2 => .nx ρ2 st2
        | o => o
    else .bad
@[reducible] noncomputable def sFor (mi : MI) (g : MG) (body : MS) : MS := fun ρ st => (mi ρ st).toO ρ fun it st1 => forM g body it.2 it.1 ρ st1
section
variable {X : Cx} {pos p : Pos} {iter tg e : Expr} {body : List Stmt} {mi : MI} {g : MG} {mb : MS} {m : ME} {t : MT}
theorem js_for {vs : List Nat} (hp : PassesOwn (model X.prog X.w) X.A X.env X.xe) (hc : X.calm = true) (hi : JI X tg iter mi) (hg : JG X tg vs g) (hb : JSs X body mb)
    (hs : ∀ x, foldedSetIterable iter X.env x = pure x := by intro _; rfl) : JS X (.For tg iter body [] pos) (sFor mi g mb) := fun W tk => by
  refine PS.weak (ps_for hp hc (hi W tk) hg (hb W tk) hs) fun D σ H ⟨ι, ρ, st, S, sl, p⟩ => ?_
  refine ⟨ι, ρ, st, S, sl, PostO.bind p sl fun it st1 ι1 H1 J l1 S1 r1 p1 => ?_⟩
  obtain ⟨items, okp⟩ := it
  have r1 : IsIt X.K X.mg items okp ι1 H1 J := r1
  refine ⟨fun i m σ' H' => ∃ ι' ρ' st', Later ι1 H1 ι' H' ∧ Sim X.K X.mg ι' st' H' ∧ SlotsOk X.mg ι' H' ρ' σ' ∧ m = items.length - i ∧ i ≤ items.length ∧ PostO X.K X.mg W ι' H' D (forM g mb okp (items.drop i) ρ' st'),
    ⟨items.length, ι1, ρ, st1, Later.refl _ _, S1, sl.later l1, by simp, Nat.zero_le _, by simpa using p1⟩, ?_⟩
  rintro i m σ2 H2 ⟨ι2, ρ2, st2, l2, S2, sl2, rfl, hi2, p2⟩
  by_cases hlt : i < items.length
  · rw [List.drop_eq_getElem_cons hlt] at p2
    unfold forM at p2
    split at p2
    · rename_i hok
      refine .inr ⟨r1.go i ι2 H2 st2 l2 S2 hok hlt, fun σ3 H3 => ∃ ι3 ρ3 st3, Later ι1 H1 ι3 H3 ∧ Sim X.K X.mg ι3 st3 H3 ∧ SlotsOk X.mg ι3 H3 ρ3 σ3 ∧ PostO X.K X.mg W ι3 H3 D (forM g mb okp (items.drop (i + 1)) ρ3 st3), ?_, ?_⟩
      · rintro σ3 H3 ⟨ι3, ρ3, st3, l3, S3, sl3, p3⟩
        exact ⟨items.length - (i + 1), by omega, ι3, ρ3, st3, l3, S3, sl3, rfl, hlt, p3⟩
      · intro x H3 hy
        obtain ⟨l3, S3, w, hw, rw_⟩ := r1.yld i ι2 H2 st2 x H3 l2 S2 hok hlt hy
        have hw' : items[i] = w := by rw [List.getElem?_eq_getElem hlt] at hw; exact Option.some.inj hw
        rw [hw'] at p2
        refine ⟨ι2, ρ2, st2, w, S3, sl2.later l3, rw_, ?_⟩
        cases q : g w ρ2 st2 with
        | none => rw [q] at p2; exact p2.elim
        | some z =>
          obtain ⟨ρ4, st4⟩ := z
          rw [q] at p2
          dsimp only at p2
          intro ι4 H4 σ4 l4 S4 sl4 _
          refine ⟨ι4, ρ4, st4, S4, sl4, ?_⟩
          have l14 := (l2.trans l3).trans l4
          have p2 := PostO.later (PostO.later p2 l3) l4
          cases qb : mb ρ4 st4 with
          | nx ρ5 st5 => rw [qb] at p2; exact fun ι5 H5 σ5 l5 S5 sl5 => ⟨ι5, ρ5, st5, l14.trans l5, S5, sl5, PostO.later p2 l5⟩
          | ct ρ5 st5 => rw [qb] at p2; exact fun ι5 H5 σ5 l5 S5 sl5 => ⟨ι5, ρ5, st5, l14.trans l5, S5, sl5, PostO.later p2 l5⟩
          | brk ρ5 st5 => rw [qb] at p2; exact p2
          | ret v5 st5 => rw [qb] at p2; exact p2
          | exc x5 ρ5 st5 => rw [qb] at p2; exact p2
          | bad => rw [qb] at p2; exact p2
    · exact p2.elim
  · have hle : items.length ≤ i := by omega
    rw [List.drop_eq_nil_of_le hle] at p2
    unfold forM at p2
    split at p2
    · rename_i hok
      exact .inl ⟨r1.stop i ι2 H2 st2 l2 S2 hok (by omega), p2.nx_same S2 sl2⟩
    · exact p2.elim

/-- over a list or a tuple -/
theorem isIt_list {K : PySem.W.Frag} {mg : Str → Option Value} {n : Nat} {xs : List Val} {ι : List Addr} {H : Hp} {a : Addr} (ha : ι[n]? = some a) : IsIt K mg xs (fun st => seqAt st n = some xs) ι H (Itl K a) := by
  have at_ : ∀ {ι1 : List Addr} {H1 : Hp} {st : Store}, Later ι H ι1 H1 → Sim K mg ι1 st H1 → seqAt st n = some xs → ∃ vs, SqL K H1 a vs ∧ Reps mg ι1 H1 xs vs := fun l S ok => S.seqL ok (l.get ha)
  refine ⟨fun i ι1 H1 st l S ok hi => ?_, fun i ι1 H1 st x H' l S ok hi hy => ?_, fun i ι1 H1 st l S ok hi => ?_⟩
  · obtain ⟨vs, h1, r⟩ := at_ l S ok
    have hl := r.length
    exact ⟨vs, vs[i], h1, by simp⟩
  · obtain ⟨vs, h1, r⟩ := at_ l S ok
    obtain ⟨e, f⟩ := hy
    subst e
    obtain ⟨w, hw, rr⟩ := r.get' (f vs h1)
    exact ⟨Later.refl _ _, S, w, hw, rr⟩
  · obtain ⟨vs, h1, r⟩ := at_ l S ok
    exact ⟨vs, h1, by rw [← r.length]; exact Nat.le_of_eq hi.symm⟩
theorem isIt_tup {K : PySem.W.Frag} {mg : Str → Option Value} {xs : List Val} {ι : List Addr} {H : Hp} {a : Addr} {vs : List V} (ha : H a = some (.tup vs)) (r : Reps mg ι H xs vs) : IsIt K mg xs (fun _ => True) ι H (Itt K a) := by
  refine ⟨fun i ι1 H1 st l S ok hi => ?_, fun i ι1 H1 st x H' l S ok hi hy => ?_, fun i ι1 H1 st l S ok hi => ?_⟩
  · have hl := r.length
    exact ⟨vs, vs[i], SqT.of (l.tups _ _ ha), by simp⟩
  · obtain ⟨e, f⟩ := hy
    subst e
    obtain ⟨w, hw, rr⟩ := (r.later l).get' (f vs (SqT.of (l.tups _ _ ha)))
    exact ⟨Later.refl _ _, S, w, hw, rr⟩
  · exact ⟨vs, SqT.of (l.tups _ _ ha), by rw [← r.length]; exact Nat.le_of_eq hi.symm⟩
theorem isIt_range {K : PySem.W.Frag} {mg : Str → Option Value} {lo : Int} {n : Nat} {ι : List Addr} {H : Hp} : IsIt K mg ((List.range n).map fun (i : Nat) => Val.int (lo + i)) (fun _ => True) ι H (Itr lo n) := by
  refine ⟨fun i ι1 H1 st l S ok hi => (show i < n by simpa using hi), fun i ι1 H1 st x H' l S ok hi hy => ?_, fun i ι1 H1 st l S ok hi => (show n ≤ i by simp at hi; omega)⟩
  obtain ⟨e1, e2⟩ := hy
  subst e1; subst e2
  have hi : i < n := by simpa using hi
  exact ⟨Later.refl _ _, S, .int (lo + i), by simp [hi], Rep.int⟩
@[reducible] def iRange1 (t : MA) : MI := fun ρ st => (t ρ st).bind fun ws st1 => match ws with
  | [.int j] => if -(2 ^ 62) ≤ j ∧ j < 2 ^ 62 then .ok ((List.range j.toNat).map fun (i : Nat) => Val.int (0 + i), fun _ => True) st1 else .bad
  | _ => .bad
theorem ji_range1 {a : Expr} {t : MA} (hm : X.mg "range" = none) (ha : JA X [a] t) (hg : Gl X "range" := by rfl) (hs : starEach [a] X.env = [(false, eval a X.env)] := by rfl) : JI X tg (.Call (.Name "range" p) [a] [] pos) (iRange1 t) := fun W tk => by
  refine ⟨fun pins s σ H R I hw => (pi_range1 hg hm (ha W tk) hs).run pins s σ H R I ?_⟩
  obtain ⟨ι, ρ, st, S, sl, p⟩ := hw
  refine ⟨ι, ρ, st, S, sl, Post.bind p fun ws st1 ι1 H1 vs l1 S1 r1 p1 => ?_⟩
  split at p1
  · rename_i j
    split at p1
    · rename_i hj
      obtain ⟨v, r, e1, q1, q2⟩ := Reps.of_cons r1
      have e2 := q1.int_inv
      have e3 := q2.of_nil
      subst e1; subst e2; subst e3
      exact ⟨j, rfl, hj.1, hj.2, p1.okSame S1 isIt_range⟩
    · exact p1.elim
  · exact p1.elim
@[reducible] def iRange2 (t : MA) : MI := fun ρ st => (t ρ st).bind fun ws st1 => match ws with
  | [.int i, .int j] => if -(2 ^ 62) ≤ i ∧ i < 2 ^ 62 ∧ -(2 ^ 62) ≤ j ∧ j < 2 ^ 62 then .ok ((List.range (j - i).toNat).map fun (k : Nat) => Val.int (i + k), fun _ => True) st1 else .bad
  | _ => .bad
theorem ji_range2 {a b : Expr} {t : MA} (hm : X.mg "range" = none) (ha : JA X [a, b] t) (hg : Gl X "range" := by rfl) (hs : starEach [a, b] X.env = [(false, eval a X.env), (false, eval b X.env)] := by rfl) (hs2 : starEach [b] X.env = [(false, eval b X.env)] := by rfl) :
    JI X tg (.Call (.Name "range" p) [a, b] [] pos) (iRange2 t) := fun W tk => by
  refine ⟨fun pins s σ H R I hw => (pi_range2 hg hm (ha W tk) hs hs2).run pins s σ H R I ?_⟩
  obtain ⟨ι, ρ, st, S, sl, p⟩ := hw
  refine ⟨ι, ρ, st, S, sl, Post.bind p fun ws st1 ι1 H1 vs l1 S1 r1 p1 => ?_⟩
  split at p1
  · rename_i i j
    split at p1
    · rename_i hj
      obtain ⟨v, r, e1, q1, q2⟩ := Reps.of_cons r1
      obtain ⟨v', r', e1', q1', q2'⟩ := q2.of_cons
      have e2 := q1.int_inv
      have e2' := q1'.int_inv
      have e3 := q2'.of_nil
      subst e1; subst e1'; subst e2; subst e2'; subst e3
      exact ⟨i, j, rfl, hj, p1.okSame S1 isIt_range⟩
    · exact p1.elim
  · exact p1.elim

/-! ### while -/
def whileN (t : MT) (body : MS) : Nat → Slots → Store → Option O
  | 0, _, _ => none
  | n + 1, ρ, st => match t ρ st with
    | .ok true st1 => match body ρ st1 with
      | .nx ρ2 st2 => whileN t body n ρ2 st2
      | .ct ρ2 st2 => whileN t body n ρ2 st2
      | .brk ρ2 st2 => some (.nx ρ2 st2)
      | o => some o
    | .ok false st1 => some (.nx ρ st1)
    | .exc x st1 => some (.exc x ρ st1)
    | .bad => some .bad
open Classical in
noncomputable def sWhile (t : MT) (body : MS) : MS := fun ρ st => if h : ∃ o n, whileN t body n ρ st = some o then Classical.choose h else .bad
theorem whileN_mono {t : MT} {body : MS} : ∀ {n : Nat} {ρ : Slots} {st : Store} {o : O}, whileN t body n ρ st = some o → whileN t body (n + 1) ρ st = some o
  | 0, _, _, _, h => by cases h
  | n + 1, ρ, st, o, h => by
    unfold whileN at h ⊢
    cases q : t ρ st with
    | exc x s => rw [q] at h; exact h
    | bad => rw [q] at h; exact h
    | ok k s =>
      rw [q] at h
      cases k with
      | false => exact h
      | true =>
        dsimp only at h ⊢
        cases qb : body ρ s with
        | nx ρ2 s2 => rw [qb] at h; exact whileN_mono h
        | ct ρ2 s2 => rw [qb] at h; exact whileN_mono h
        | brk ρ2 s2 => rw [qb] at h; exact h
        | ret v s2 => rw [qb] at h; exact h
        | exc x ρ2 s2 => rw [qb] at h; exact h
        | bad => rw [qb] at h; exact h
theorem whileN_le {t : MT} {body : MS} {n m : Nat} {ρ : Slots} {st : Store} {o : O} (h : whileN t body n ρ st = some o) (hl : n ≤ m) : whileN t body m ρ st = some o := by
  induction hl with
  | refl => exact h
  | step _ ih => exact whileN_mono ih
theorem sWhile_eq {t : MT} {body : MS} {n : Nat} {ρ : Slots} {st : Store} {o : O} (h : whileN t body n ρ st = some o) : sWhile t body ρ st = o := by
  have hx : ∃ o n, whileN t body n ρ st = some o := ⟨o, n, h⟩
  unfold sWhile
  rw [dif_pos hx]
  obtain ⟨m, hm⟩ := Classical.choose_spec hx
  have h1 := whileN_le h (Nat.le_max_left n m)
  have h2 := whileN_le hm (Nat.le_max_right n m)
  rw [h1] at h2
  exact (Option.some.inj h2).symm
theorem js_while {c : Expr} (hp : PassesOwn (model X.prog X.w) X.A X.env X.xe) (hc : JT X c t) (hb : JSs X body mb) : JS X (.While c body [] pos) (sWhile t mb) := fun W tk => by
  refine PS.weak (ps_while hp (hc W tk) (hb W tk)) fun D σ H ⟨ι, ρ, st, S, sl, p⟩ => ?_
  by_cases hx : ∃ o n, whileN t mb n ρ st = some o
  · obtain ⟨o, n, hn⟩ := hx
    rw [sWhile_eq hn] at p
    refine ⟨fun m σ1 H1 => ∃ ι1 ρ1 st1 o, Sim X.K X.mg ι1 st1 H1 ∧ SlotsOk X.mg ι1 H1 ρ1 σ1 ∧ whileN t mb m ρ1 st1 = some o ∧ PostO X.K X.mg W ι1 H1 D o, ⟨n, ι, ρ, st, o, S, sl, hn, p⟩, ?_⟩
    rintro m σ1 H1 ⟨ι1, ρ1, st1, o1, S1, sl1, h1, p1⟩
    refine ⟨ι1, ρ1, st1, S1, sl1, ?_⟩
    cases m with
    | zero => cases h1
    | succ m =>
      unfold whileN at h1
      cases q : t ρ1 st1 with
      | bad => rw [q] at h1; cases h1; exact p1
      | exc x s => rw [q] at h1; cases h1; exact fun ι2 H2 c d l S2 r => p1 ι2 H2 σ1 c d l S2 (sl1.later l) r
      | ok k s =>
        rw [q] at h1
        intro ι2 H2 k' l2 S2 e
        have e : k = k' := e
        subst e
        have sl2 := sl1.later l2
        have p2 := PostO.later p1 l2
        cases k with
        | false =>
          cases h1
          exact iteF (p2.nx_same S2 sl2)
        | true =>
          refine iteT ⟨fun σ3 H3 => ∃ ι3 ρ3 st3 o, Sim X.K X.mg ι3 st3 H3 ∧ SlotsOk X.mg ι3 H3 ρ3 σ3 ∧ whileN t mb m ρ3 st3 = some o ∧ PostO X.K X.mg W ι3 H3 D o, fun σ3 H3 h => ⟨m, Nat.lt_succ_self _, h⟩, ι2, ρ1, s, S2, sl2, ?_⟩
          dsimp only at h1
          cases qb : mb ρ1 s with
          | nx ρ3 s3 => rw [qb] at h1; exact fun ι3 H3 σ3 l3 S3 sl3 => ⟨ι3, ρ3, s3, o1, S3, sl3, h1, PostO.later p2 l3⟩
          | ct ρ3 s3 => rw [qb] at h1; exact fun ι3 H3 σ3 l3 S3 sl3 => ⟨ι3, ρ3, s3, o1, S3, sl3, h1, PostO.later p2 l3⟩
          | brk ρ3 s3 => rw [qb] at h1; cases h1; exact p2
          | ret v s3 => rw [qb] at h1; cases h1; exact p2
          | exc x ρ3 s3 => rw [qb] at h1; cases h1; exact p2
          | bad => rw [qb] at h1; cases h1; exact p2
  · unfold sWhile at p
    rw [dif_neg hx] at p
    exact p.elim
end
end Ab

set_option Elab.async false
set_option linter.all false
set_option maxRecDepth 100000
/-! Ab: attributes, calls of defs, methods, properties, instances. -/
namespace Ab
open PySem PySem.Spec L2

/-! ### attributes -/
/-- the class of that number: its attribute f is the instance's own -/
def FldOk (K : PySem.W.Frag) (mg : Str → Option Value) (C f : Nat) : Prop := f < nmN ∧ ∀ Ca, mg (nm C) = some (.ref Ca) → Cls K Ca ∧ NoAttr K Ca (nm f)
@[reducible] def vFld (cs : List Nat) (f : Nat) : Val → Store → R Val
  | .ref n, st => match st[n]? with
    | some (.ins C fs) => if C ∈ cs then match fs.lookup f with
        | some w => .ok w st
        | none => .bad
      else .bad
    | _ => .bad
  | _, _ => .bad
@[reducible] def mFld (cs : List Nat) (f : Nat) (m : ME) : ME := fun ρ st => (m ρ st).bind (vFld cs f)
@[reducible] def sFldM (cs : List Nat) (f : Nat) (mo mv : ME) : MS := fun ρ st => (mv ρ st).toO ρ fun w st1 => (mo ρ st1).toO ρ fun x st2 => match x with
  | .ref n => match st2[n]? with
    | some (.ins C fs) => if C ∈ cs ∧ fs.length < 1000 then .nx ρ (st2.set n (.ins C (putM f w fs))) else .bad
    | _ => .bad
  | _ => .bad
@[reducible] def sFldAugM (cs : List Nat) (f : Nat) (g : Val → Val → Store → R Val) (mo mv : ME) : MS := fun ρ st => (mo ρ st).toO ρ fun x st1 => match x with
  | .ref n => match st1[n]? with
    | some (.ins C fs) => if C ∈ cs then match fs.lookup f with
        | some w => (mv ρ st1).toO ρ fun y st2 => (g w y st2).toO ρ fun z st3 => match st3[n]? with
          | some (.ins C' fs') => if C' = C ∧ fs'.length < 1000 then .nx ρ (st3.set n (.ins C (putM f z fs'))) else .bad
          | _ => .bad
        | none => .bad
      else .bad
    | _ => .bad
  | _ => .bad
theorem Sim.putIns {K : PySem.W.Frag} {mg : Str → Option Value} {ι : List Addr} {st : Store} {H : Hp} (S : Sim K mg ι st H) {n C f : Nat} {fs : List (Nat × Val)} (h : st[n]? = some (.ins C fs)) {a Ca dx : Addr} (ha : ι[n]? = some a) {vs : List (Str × V)} (hH : H a = some (.ins Ca dx vs)) (hC : mg (nm C) = some (.ref Ca))
    (r : RepF mg ι H fs vs) (hf : f < nmN) {w : Val} {v : V} (rw_ : Rep mg ι H w v) : Sim K mg ι (st.set n (.ins C (putM f w fs))) (upd H a (.ins Ca dx (putF (nm f) v vs))) ∧ Later ι H ι (upd H a (.ins Ca dx (putF (nm f) v vs))) := by
  refine S.write h ha rfl rfl hH (fun _ e => by cases e) (fun _ _ e => by cases e) ⟨Ca, dx, _, hC, upd_same, ?_⟩
  refine (r.put hf rw_).later ⟨⟨[], by simp⟩, fun b xs e => ?_, fun b ob ks e => ?_⟩
  · rw [upd_ne fun q => by subst q; rw [hH] at e; cases e]
    exact e
  · rw [upd_ne fun q => by subst q; rw [hH] at e; cases e]
    exact e
section
variable {X : Cx} {e o value : Expr} {m mo mv : ME} {pos pos' : Pos} {cs : List Nat} {f : Nat} {fN : Str}
theorem je_fld (hc : ∀ C ∈ cs, FldOk X.K X.mg C f) (he : JE X e m) (hn : fN = nm f := by decide +kernel) (hb : attributeBase e fN X.env (eval e X.env) = eval e X.env := by rfl) : JE X (.Attribute e fN pos) (mFld cs f m) := fun W tk => by
  subst hn
  refine PE.weak (pe_fld (he W tk) hb) fun σ H Q ⟨ι, ρ, st, S, sl, p⟩ => ?_
  refine ⟨ι, ρ, st, S, sl, Post.bind p fun w st1 ι1 H1 x l1 S1 r1 p1 => ?_⟩
  cases w with
  | ref n =>
    obtain ⟨a, e1, ha⟩ := r1.ref_inv
    dsimp only [vFld] at p1
    split at p1
    · rename_i C fs ec
      split at p1
      · rename_i hC
        obtain ⟨Ca, dx, vs, e2, e3, rf⟩ := S1.at ec ha
        obtain ⟨hf, hk⟩ := hc C hC
        obtain ⟨c1, c2⟩ := hk Ca e2
        cases q : fs.lookup f with
        | none => rw [q] at p1; exact p1.elim
        | some w =>
          rw [q] at p1
          obtain ⟨v, hv, rv⟩ := rf.lookup hf q
          exact ⟨a, Ca, dx, vs, v, e1, e3, c1, c2, hv, p1.okSame S1 rv⟩
      · exact p1.elim
    · exact p1.elim
  | _ => exact p1.elim
theorem js_fld (hc : ∀ C ∈ cs, FldOk X.K X.mg C f) (ho : JE X o mo) (hv : JE X value mv) (hn : fN = nm f := by decide +kernel) (hs : swapsWith value (some (.Attribute o fN pos')) pos.line X.env = pure false := by rfl) : JS X (.Assign [.Attribute o fN pos'] value pos) (sFldM cs f mo mv) := fun W tk => by
  subst hn
  refine PS.weak (ps_fld (ho W tk) (hv W tk) hs) fun D σ H ⟨ι, ρ, st, S, sl, p⟩ => ?_
  refine ⟨ι, ρ, st, S, sl, PostO.bind p sl fun w st1 ι1 H1 y l1 S1 r1 p1 => ?_⟩
  have sl1 := sl.later l1
  refine ⟨ι1, ρ, st1, S1, sl1, PostO.bind p1 sl1 fun x st2 ι2 H2 xv l2 S2 r2 p2 => ?_⟩
  cases x with
  | ref n =>
    obtain ⟨a, e1, ha⟩ := r2.ref_inv
    dsimp only at p2
    split at p2
    · rename_i C fs ec
      split at p2
      · rename_i hC
        obtain ⟨Ca, dx, vs, e2, e3, rf⟩ := S2.at ec ha
        obtain ⟨hf, hk⟩ := hc C hC.1
        obtain ⟨c1, c2⟩ := hk Ca e2
        obtain ⟨S3, l3⟩ := S2.putIns ec ha e3 e2 rf hf (Rep.later l2 r1)
        exact ⟨a, Ca, dx, vs, e1, e3, c1, c2, by rw [← rf.length]; exact hC.2, p2 ι2 _ σ l3 S3 ((sl1.later l2).later l3)⟩
      · exact p2.elim
    · exact p2.elim
  | _ => exact p2.elim
end

/-! ### defs -/
/-- the promise: what the mirror computes -/
def spM (K : PySem.W.Frag) (mg : Str → Option Value) (f : MF) : Sp := fun vs H Q E => ∃ ι ws st, Sim K mg ι st H ∧ Reps mg ι H ws vs ∧ Post K mg (rel1 mg) ι H Q E (f ws st)
/-- what a call asks: where one stands -/
structure Wh where
  P : Program
  w : World
  K : PySem.W.Frag
  mg : Str → Option Value
  base : Heap
@[reducible] def Cx.wh (X : Cx) : Wh := ⟨X.prog, X.w, X.K, X.mg, X.base⟩
/-- at f stands a def that keeps the mirror's promise -/
def FnM (T : Wh) (k n : Nat) (f : Addr) (mf : MF) : Prop := ∃ fd ps, ps.length = n ∧ PySem.W.keepIn T.K (.ref f) = true ∧ Binds T.K fd ps [] ∧ FnOk T.P T.w T.K T.mg T.base (L2.CX T.P T.w) k f fd ps (spM T.K T.mg mf)
def Has (T : Wh) (x : Str) (k n : Nat) (mf : MF) : Prop := ∃ f, T.mg x = some (.ref f) ∧ FnM T k n f mf
/-- the class of that number has the method -/
def HasM (T : Wh) (C : Nat) (m : Str) (k n : Nat) (mf : MF) : Prop := m ∉ nmT ∧ ∀ Ca, T.mg (nm C) = some (.ref Ca) → ∃ f, Cls T.K Ca ∧ Meth T.K Ca m f ∧ FnM T k n f mf
def HasP (T : Wh) (C : Nat) (m : Str) (k : Nat) (mf : MF) : Prop := ∀ Ca, T.mg (nm C) = some (.ref Ca) → ∃ p f, Cls T.K Ca ∧ PropOf T.K Ca m p f ∧ FnM T k 1 f mf
/-- the class can be made by an __init__ -/
def HasI (T : Wh) (C : Nat) (k n : Nat) (mf : MF) : Prop := ∃ Ca f, T.mg (nm C) = some (.ref Ca) ∧ Mk T.K Ca f ∧ FnM T k n f mf
section
variable {X : Cx} {k n : Nat} {f C : Addr} {fd : FuncData} {ps : List Str} {sp : Sp} {E : L2.St → XK} {x m : Str} {p pos apos : Pos} {e o : Expr} {es : List Expr} {ta : TE} {t : TA} {CX : CXT}
def tMethS (C : Addr) (m : Str) (sp : Sp) (E : L2.St → XK) (ta : TE) (t : TA) : TE := fun σ H Q => ta σ H fun x H1 => ∃ a dx fs, x = .ref a ∧ H1 a = some (.ins C dx fs) ∧ fs.lookup m = none ∧
  t σ H1 fun vs H2 => sp (x :: vs) H2 Q (E σ)
theorem pe_methS {pl : Sem Bool} (he : PE X o ta) (c : Cls X.K C) (hm : Meth X.K C m f) (F : FnOk X.prog X.w X.K X.mg X.base CX k f fd ps sp) (hr : Room k X.A) (hb : Binds X.K fd ps []) (hx : ∀ σ, PassesAt CX X σ (E σ)) (ha : PA X (e :: es) t)
    (hst : starEach (e :: es) X.env = (false, eval e X.env) :: starEach es X.env := by rfl) (hpl : (backTo pos (starEach es X.env)).any (·.1) = false := by rfl)
    (ht : eval (.Call (.Attribute o m apos) (e :: es) [] pos) X.env = (do
      let ov ← eval o X.env
      standAt apos.atName
      let (f, first) ← holding [ov] (getMethod ov m pl)
      callWith pos f first (backTo pos (starEach (e :: es) X.env)) (backToKw pos (keywordEach [] X.env))) := by rfl) :
    PE X (.Call (.Attribute o m apos) (e :: es) [] pos) (tMethS C m sp E ta t) := by
  refine ⟨fun pins s σ H Q I h => ?_⟩
  refine PySem.W.methodCall_KW (pl := pl) (thn (he.run pins s σ H _ I h) fun u s1 ⟨x, H1, I1, rx, a, dx, fs, ex, ea, l, q⟩ => ?_) ht
  subst ex
  obtain rfl : u = Value.ref a := rx
  refine getmeth_ok I1 ea c hm l ?_
  refine PySem.W.callWith_K (first := [.ref a]) (h₀ := X.base) I.ok.mod.kin hm.kp (thn (ha.run pos pins s1 σ H1 _ I1 q) fun us s2 ⟨vs, H2, I2, r, q2⟩ => ⟨I2.kIn, ?_⟩) hst hpl
  exact run_fnS (us := .ref a :: us) (vs := .ref a :: vs) F hr hb (hx σ) I2 (.cons rfl r) q2
theorem pe_meth0S {pl : Sem Bool} (he : PE X o ta) (c : Cls X.K C) (hm : Meth X.K C m f) (F : FnOk X.prog X.w X.K X.mg X.base CX k f fd ps sp) (hr : Room k X.A) (hb : Binds X.K fd ps []) (hx : ∀ σ, PassesAt CX X σ (E σ))
    (ht : eval (.Call (.Attribute o m apos) [] [] pos) X.env = (do
      let ov ← eval o X.env
      standAt apos.atName
      let (f, first) ← holding [ov] (getMethod ov m pl)
      callWith pos f first (backTo pos (starEach [] X.env)) (backToKw pos (keywordEach [] X.env))) := by rfl) :
    PE X (.Call (.Attribute o m apos) [] [] pos) (tMethS C m sp E ta tNil) := by
  refine ⟨fun pins s σ H Q I h => ?_⟩
  refine PySem.W.methodCall_KW (pl := pl) (thn (he.run pins s σ H _ I h) fun u s1 ⟨x, H1, I1, rx, a, dx, fs, ex, ea, l, q⟩ => ?_) ht
  subst ex
  obtain rfl : u = Value.ref a := rx
  refine getmeth_ok I1 ea c hm l ?_
  exact PySem.W.callWith_K0 (first := [.ref a]) I1.kIn hm.kp (run_fnS (us := [.ref a]) (vs := [.ref a]) F hr hb (hx σ) I1 (.cons rfl .nil) q)
def tMakeS (C : Addr) (sp : Sp) (E : L2.St → XK) (t : TA) : TE := fun σ H Q => t σ H fun vs H1 => ∀ x dx, H1 x = none → H1 dx = none → dx ≠ x →
  sp (.ref x :: vs) (upd (upd H1 dx (.own x)) x (.ins C dx [])) (fun v H2 => v = .non ∧ Q (.ref x) H2) (E σ)
theorem run_makeS {pins : List (Addr × Obj)} {σ : L2.St} {H : Hp} {s : Shared} {Q : VK} {us : List Value} {vs : List V} (M : Mk X.K C f) (F : FnOk X.prog X.w X.K X.mg X.base CX k f fd ps sp) (hr : Room (k + 1) X.A) (hb : Binds X.K fd ps [])
    (hx : PassesAt CX X σ (E σ)) (I : Inv X pins σ H s) (r : Vals vs us)
    (h : ∀ x dx, H x = none → H dx = none → dx ≠ x → sp (.ref x :: vs) (upd (upd H dx (.own x)) x (.ins C dx [])) (fun v H2 => v = .non ∧ Q (.ref x) H2) (E σ)) :
    wpAny (model X.prog X.w) X.A (call (.ref C) us) (EP X pins σ Q) X.xe s := by
  have hq := h (s.heap.objs.size + 1) s.heap.objs.size (I.hok.fresh (Nat.le_succ _)) (I.hok.fresh (Nat.le_refl _)) (Nat.ne_of_lt (Nat.lt_succ_self _))
  have I2 := Inv.made (C := C) I
  have r2 : Vals (V.ref (s.heap.objs.size + 1) :: vs) (Value.ref (s.heap.objs.size + 1) :: us) := .cons rfl r
  have hl : (Value.ref (s.heap.objs.size + 1) :: us).length = ps.length := by
    have e := r2.length
    rw [F.len _ _ _ _ hq] at e
    exact e.symm
  have b := hb { s with heap := (s.heap.push PySem.W.emptyDict).push (PySem.W.instObj C s.heap.objs.size) } (Value.ref (s.heap.objs.size + 1) :: us) I2.kIn (by rw [List.append_nil]; exact hl)
  rw [List.append_nil] at b
  refine wpAny_call (make_map (f := f) I.kIn M.makes M.init (beq_iff_eq.mp M.fn) (codeAny_mono (F.run _ X.stack _ _ ⟨Value.ref (s.heap.objs.size + 1) :: us, []⟩ (Value.ref (s.heap.objs.size + 1) :: us) _ _ (E σ) (hr.make C us [])
    (I2.env0.make C us []) b r2 hq) fun r s' hq' => ?_))
  cases r with
  | error e => exact hx pins _ _ e s' I2 hq'
  | ok fl =>
    cases fl with
    | ret u =>
      obtain ⟨v, H', I3, rv, ev, q3⟩ := I2.after hq'
      subst ev
      exact ⟨rv, ⟨V.ref (s.heap.objs.size + 1), H', I3, rfl, q3⟩⟩
    | next => exact False.elim hq'
    | brk => exact False.elim hq'
    | cont => exact False.elim hq'
theorem pe_makeS (M : Mk X.K C f) (F : FnOk X.prog X.w X.K X.mg X.base CX k f fd ps sp) (hr : Room (k + 1) X.A) (hg : Gl X x) (hm : X.mg x = some (.ref C)) (hb : Binds X.K fd ps []) (hx : ∀ σ, PassesAt CX X σ (E σ))
    (ha : PA X (e :: es) t) (hdb : (x == ("__debug__" : Str)) = false := by decide) (he : starEach (e :: es) X.env = (false, eval e X.env) :: starEach es X.env := by rfl) (hpl : (backTo pos (starEach es X.env)).any (·.1) = false := by rfl) :
    PE X (.Call (.Name x p) (e :: es) [] pos) (tMakeS C sp E t) := by
  refine ⟨fun pins s σ H Q I h => ?_⟩
  refine PySem.wpAny_Call_Name_kw (ld_glob I hg hm ?_ hdb)
  refine PySem.W.callWith_K (h₀ := X.base) I.ok.mod.kin M.kp (thn (ha.run pos pins s σ H _ I h) fun us s1 ⟨vs, H1, I1, r, q⟩ => ⟨I1.kIn, ?_⟩) he hpl
  exact run_makeS M F hr hb (hx σ) I1 r q
end
section
variable {X : Cx} {k n : Nat} {x m : Str} {p pos apos : Pos} {e o : Expr} {es : List Expr} {t : MA} {mf : MF} {mo : ME}
theorem call_read {W : WX} {σ : L2.St} {H : Hp} {Q : VK} (h : rdG X.K X.mg (rel1 X.mg) W (mApp mf t) σ H Q) : tCallS (spM X.K X.mg mf) (WE W) (rdG X.K X.mg (relL X.mg) W t) σ H Q := by
  obtain ⟨ι, ρ, st, S, sl, p⟩ := h
  exact ⟨ι, ρ, st, S, sl, Post.bind p fun ws st1 ι1 H1 vs l1 S1 r1 p1 => ⟨ι1, ws, st1, S1, r1, p1⟩⟩
/-- f(..) -/
theorem je_call (h : Has (Cx.wh X) x k n mf) (hr : Room k X.A) (ha : JA X (e :: es) t) (hg : Gl X x := by rfl) (hdb : (x == ("__debug__" : Str)) = false := by decide) (he : starEach (e :: es) X.env = (false, eval e X.env) :: starEach es X.env := by rfl)
    (hpl : (backTo pos (starEach es X.env)).any (·.1) = false := by rfl) : JE X (.Call (.Name x p) (e :: es) [] pos) (mApp mf t) := fun W tk => by
  obtain ⟨f, hm, fd, ps, hl, hk, hb, F⟩ := h
  exact PE.weak (pe_callS (E := WE W) F hr hg hm hk hb (passAt tk) (ha W tk) hdb he hpl) fun σ H Q h => call_read h
/-- o.m(..): by the class of the object -/
@[reducible] def clsAt (st : Store) : Val → Option Nat
  | .ref n => match st[n]? with
    | some (.ins C _) => some C
    | _ => none
  | _ => none
@[reducible] def mMeth (tbl : List (Nat × MF)) (mo : ME) (t : MA) : ME := fun ρ st => (mo ρ st).bind fun x st1 => match clsAt st1 x with
  | some C => match tbl.lookup C with
    | some mf => (t ρ st1).bind fun ws st2 => mf (x :: ws) st2
    | none => .bad
  | none => .bad
theorem clsAt_some {st : Store} {x : Val} {C : Nat} (h : clsAt st x = some C) : ∃ n fs, x = .ref n ∧ st[n]? = some (.ins C fs) := by
  unfold clsAt at h
  split at h
  · rename_i n
    split at h
    · rename_i C' fs e
      cases h
      exact ⟨n, fs, rfl, e⟩
    · cases h
  · cases h
theorem lookup_mem {β : Type} {tbl : List (Nat × β)} {C : Nat} {b : β} (h : tbl.lookup C = some b) : (C, b) ∈ tbl := by
  induction tbl with
  | nil => cases h
  | cons p r ih =>
    obtain ⟨i, u⟩ := p
    rw [List.lookup_cons] at h
    by_cases q : C = i
    · subst q
      simp only [beq_self_eq_true] at h
      cases h
      exact List.mem_cons_self
    · rw [show (C == i) = false from beq_eq_false_iff_ne.mpr q] at h
      exact List.mem_cons_of_mem _ (ih h)
theorem meth_read {W : WX} {σ : L2.St} {H : Hp} {Q : VK} {ι : List Addr} {ρ : Slots} {st st1 : Store} {x : Val} {C : Nat} {Ca : Addr} (S : Sim X.K X.mg ι st H) (sl : SlotsOk X.mg ι H ρ σ) (h1 : mo ρ st = .ok x st1) (h2 : clsAt st1 x = some C) (hC : X.mg (nm C) = some (.ref Ca)) (hm : m ∉ nmT)
    (p : Post X.K X.mg (rel1 X.mg) ι H Q (fun c d H' => W c d σ H') ((t ρ st1).bind fun ws st2 => mf (x :: ws) st2)) :
    tMethS Ca m (spM X.K X.mg mf) (WE W) (rdG X.K X.mg (rel1 X.mg) W mo) (rdG X.K X.mg (relL X.mg) W t) σ H Q := by
  refine ⟨ι, ρ, st, S, sl, ?_⟩
  rw [h1]
  intro ι1 H1 v l1 S1 r1
  obtain ⟨n, fs, e, ec⟩ := clsAt_some h2
  subst e
  obtain ⟨a, e1, ha⟩ := Rep.ref_inv r1
  obtain ⟨Ca', dx, vs, e2, e3, rf⟩ := S1.at ec ha
  rw [hC] at e2
  cases e2
  refine ⟨a, dx, vs, e1, e3, rf.lookup_other hm, ι1, ρ, st1, S1, sl.later l1, Post.bind (Post.later p l1) fun ws st2 ι2 H2 us l2 S2 r2 p2 => ?_⟩
  exact ⟨ι2, _, st2, S2, Reps.cons (Rep.later l2 r1) r2, p2⟩
theorem je_meth {tbl : List (Nat × MF)} {pl : Sem Bool} (h : ∀ C mf, (C, mf) ∈ tbl → (∃ Ca, X.mg (nm C) = some (.ref Ca)) ∧ HasM (Cx.wh X) C m k n mf) (hne : tbl ≠ []) (hr : Room k X.A) (ho : JE X o mo) (ha : JA X (e :: es) t)
    (hst : starEach (e :: es) X.env = (false, eval e X.env) :: starEach es X.env := by rfl) (hpl : (backTo pos (starEach es X.env)).any (·.1) = false := by rfl)
    (ht : eval (.Call (.Attribute o m apos) (e :: es) [] pos) X.env = (do
      let ov ← eval o X.env
      standAt apos.atName
      let (f, first) ← holding [ov] (getMethod ov m pl)
      callWith pos f first (backTo pos (starEach (e :: es) X.env)) (backToKw pos (keywordEach [] X.env))) := by rfl) :
    JE X (.Call (.Attribute o m apos) (e :: es) [] pos) (mMeth tbl mo t) := fun W tk => by
  refine ⟨fun pins s σ H Q I hw => ?_⟩
  obtain ⟨ι, ρ, st, S, sl, p⟩ := hw
  have use : ∀ C mf Ca, (C, mf) ∈ tbl → X.mg (nm C) = some (.ref Ca) → (∃ g, tMethS Ca m (spM X.K X.mg g) (WE W) (rdG X.K X.mg (rel1 X.mg) W mo) (rdG X.K X.mg (relL X.mg) W t) σ H Q ∧ g = mf) → wpAny (model X.prog X.w) X.A (eval (.Call (.Attribute o m apos) (e :: es) [] pos) X.env) (EP X pins σ Q) X.xe s := by
    rintro C mf Ca hmem hC ⟨g, hg, rfl⟩
    obtain ⟨_, _, hk⟩ := h C g hmem
    obtain ⟨f, c, hM, fd, ps, hl, hk, hb, F⟩ := hk Ca hC
    exact (pe_methS (E := WE W) (ho W tk) c hM F hr hb (passAt tk) (ha W tk) hst hpl ht).run pins s σ H Q I hg
  cases q : mo ρ st with
  | bad => dsimp only [mMeth] at p; rw [q] at p; exact p.elim
  | exc x st1 =>
    dsimp only [mMeth] at p; rw [q] at p
    cases tbl with
    | nil => exact absurd rfl hne
    | cons b r =>
      obtain ⟨C, mf⟩ := b
      obtain ⟨⟨Ca, hC⟩, _⟩ := h C mf List.mem_cons_self
      exact use C mf Ca List.mem_cons_self hC ⟨mf, ⟨ι, ρ, st, S, sl, by rw [q]; exact p⟩, rfl⟩
  | ok x st1 =>
    dsimp only [mMeth] at p; rw [q] at p
    dsimp only [R.bind] at p
    cases qc : clsAt st1 x with
    | none => rw [qc] at p; exact p.elim
    | some C =>
      rw [qc] at p
      dsimp only at p
      cases ql : tbl.lookup C with
      | none => rw [ql] at p; exact p.elim
      | some mf =>
        rw [ql] at p
        dsimp only at p
        have hmem := lookup_mem ql
        obtain ⟨⟨Ca, hC⟩, hm, _⟩ := h C mf hmem
        exact use C mf Ca hmem hC ⟨mf, meth_read S sl q qc hC hm p, rfl⟩
theorem je_meth0 {tbl : List (Nat × MF)} {pl : Sem Bool} (h : ∀ C mf, (C, mf) ∈ tbl → (∃ Ca, X.mg (nm C) = some (.ref Ca)) ∧ HasM (Cx.wh X) C m k n mf) (hne : tbl ≠ []) (hr : Room k X.A) (ho : JE X o mo)
    (ht : eval (.Call (.Attribute o m apos) [] [] pos) X.env = (do
      let ov ← eval o X.env
      standAt apos.atName
      let (f, first) ← holding [ov] (getMethod ov m pl)
      callWith pos f first (backTo pos (starEach [] X.env)) (backToKw pos (keywordEach [] X.env))) := by rfl) :
    JE X (.Call (.Attribute o m apos) [] [] pos) (mMeth tbl mo aNil) := fun W tk => by
  refine ⟨fun pins s σ H Q I hw => ?_⟩
  obtain ⟨ι, ρ, st, S, sl, p⟩ := hw
  have use : ∀ C mf Ca, (C, mf) ∈ tbl → X.mg (nm C) = some (.ref Ca) → tMethS Ca m (spM X.K X.mg mf) (WE W) (rdG X.K X.mg (rel1 X.mg) W mo) tNil σ H Q → wpAny (model X.prog X.w) X.A (eval (.Call (.Attribute o m apos) [] [] pos) X.env) (EP X pins σ Q) X.xe s := by
    intro C mf Ca hmem hC hg
    obtain ⟨_, _, hk⟩ := h C mf hmem
    obtain ⟨f, c, hM, fd, ps, hl, hk, hb, F⟩ := hk Ca hC
    exact (pe_meth0S (E := WE W) (ho W tk) c hM F hr hb (passAt tk) ht).run pins s σ H Q I hg
  cases q : mo ρ st with
  | bad => dsimp only [mMeth] at p; rw [q] at p; exact p.elim
  | exc x st1 =>
    dsimp only [mMeth] at p; rw [q] at p
    cases tbl with
    | nil => exact absurd rfl hne
    | cons b r =>
      obtain ⟨C, mf⟩ := b
      obtain ⟨⟨Ca, hC⟩, _⟩ := h C mf List.mem_cons_self
      exact use C mf Ca List.mem_cons_self hC ⟨ι, ρ, st, S, sl, by rw [q]; exact p⟩
  | ok x st1 =>
    dsimp only [mMeth] at p; rw [q] at p
    dsimp only [R.bind] at p
    cases qc : clsAt st1 x with
    | none => rw [qc] at p; exact p.elim
    | some C =>
      rw [qc] at p
      dsimp only at p
      cases ql : tbl.lookup C with
      | none => rw [ql] at p; exact p.elim
      | some mf =>
        rw [ql] at p
        dsimp only at p
        have hmem := lookup_mem ql
        obtain ⟨⟨Ca, hC⟩, hm, _⟩ := h C mf hmem
        refine use C mf Ca hmem hC ⟨ι, ρ, st, S, sl, ?_⟩
        rw [q]
        intro ι1 H1 v l1 S1 r1
        obtain ⟨n, fs, e, ec⟩ := clsAt_some qc
        subst e
        obtain ⟨a, e1, ha⟩ := Rep.ref_inv r1
        obtain ⟨Ca', dx, vs, e2, e3, rf⟩ := S1.at ec ha
        rw [hC] at e2
        cases e2
        exact ⟨a, dx, vs, e1, e3, rf.lookup_other hm, ι1, _, st1, S1, Reps.cons r1 Reps.nil, Post.later p l1⟩
/-- o.f, a property -/
@[reducible] def mProp (tbl : List (Nat × MF)) (mo : ME) : ME := fun ρ st => (mo ρ st).bind fun x st1 => match clsAt st1 x with
  | some C => match tbl.lookup C with
    | some mf => match mf [x] st1 with
      | .exc _ _ => .bad
      | r => r
    | none => .bad
  | none => .bad
theorem je_prop {tbl : List (Nat × MF)} (h : ∀ C mf, (C, mf) ∈ tbl → (∃ Ca, X.mg (nm C) = some (.ref Ca)) ∧ HasP (Cx.wh X) C m k mf) (hne : tbl ≠ []) (hr : Room (k + 1) X.A) (ho : JE X o mo)
    (hab : attributeBase o m X.env (eval o X.env) = eval o X.env := by rfl) : JE X (.Attribute o m pos) (mProp tbl mo) := fun W tk => by
  refine ⟨fun pins s σ H Q I hw => ?_⟩
  obtain ⟨ι, ρ, st, S, sl, p⟩ := hw
  have use : ∀ C mf Ca, (C, mf) ∈ tbl → X.mg (nm C) = some (.ref Ca) → tProp Ca (spM X.K X.mg mf) [] E0 (rdG X.K X.mg (rel1 X.mg) W mo) σ H Q → wpAny (model X.prog X.w) X.A (eval (.Attribute o m pos) X.env) (EP X pins σ Q) X.xe s := by
    intro C mf Ca hmem hC hg
    obtain ⟨_, hk⟩ := h C mf hmem
    obtain ⟨q, f, c, hP, fd, ps, hl, hk, hb, F⟩ := hk Ca hC
    exact (pe_prop (ho W tk) c hP F hr hb .nil passL hab).run pins s σ H Q I hg
  cases q : mo ρ st with
  | bad => dsimp only [mProp] at p; rw [q] at p; exact p.elim
  | exc x st1 =>
    dsimp only [mProp] at p; rw [q] at p
    cases tbl with
    | nil => exact absurd rfl hne
    | cons b r =>
      obtain ⟨C, mf⟩ := b
      obtain ⟨⟨Ca, hC⟩, _⟩ := h C mf List.mem_cons_self
      exact use C mf Ca List.mem_cons_self hC ⟨ι, ρ, st, S, sl, by rw [q]; exact p⟩
  | ok x st1 =>
    dsimp only [mProp] at p; rw [q] at p
    dsimp only [R.bind] at p
    cases qc : clsAt st1 x with
    | none => rw [qc] at p; exact p.elim
    | some C =>
      rw [qc] at p
      dsimp only at p
      cases ql : tbl.lookup C with
      | none => rw [ql] at p; exact p.elim
      | some mf =>
        rw [ql] at p
        dsimp only at p
        have hmem := lookup_mem ql
        obtain ⟨⟨Ca, hC⟩, _⟩ := h C mf hmem
        refine use C mf Ca hmem hC ⟨ι, ρ, st, S, sl, ?_⟩
        rw [q]
        intro ι1 H1 v l1 S1 r1
        obtain ⟨n, fs, e, ec⟩ := clsAt_some qc
        subst e
        obtain ⟨a, e1, ha⟩ := Rep.ref_inv r1
        obtain ⟨Ca', dx, vs, e2, e3, rf⟩ := S1.at ec ha
        rw [hC] at e2
        cases e2
        refine ⟨a, dx, vs, e1, e3, ι1, _, st1, S1, Reps.cons (by rw [← e1]; exact r1) Reps.nil, ?_⟩
        cases qm : mf [.ref n] st1 with
        | ok w s => rw [qm] at p; exact Post.later p l1
        | exc x s => rw [qm] at p; exact p.elim
        | bad => rw [qm] at p; exact p.elim
/-- C(..) -/
@[reducible] def vMake (C : Nat) (mf : MF) : MF := fun ws st => (mf (.ref st.length :: ws) (st ++ [.ins C []])).bind fun v st1 => match v with
  | .non => .ok (.ref st.length) st1
  | _ => .bad
theorem make_sim {K : PySem.W.Frag} {mg : Str → Option Value} {ι : List Addr} {st : Store} {H : Hp} (S : Sim K mg ι st H) {C : Nat} {Ca x dx : Addr} (hC : mg (nm C) = some (.ref Ca)) (hx : H x = none) (hd : H dx = none) (ne : dx ≠ x) :
    Sim K mg (ι ++ [x]) (st ++ [.ins C []]) (upd (upd H dx (.own x)) x (.ins Ca dx [])) ∧ Later ι H (ι ++ [x]) (upd (upd H dx (.own x)) x (.ins Ca dx [])) :=
  S.push hx ((same_new (o := .own x) hd).trans (same_new (by rw [upd_ne (Ne.symm ne)]; exact hx))) ⟨Ca, dx, [], hC, upd_same, .nil⟩
theorem je_make {C : Nat} (h : HasI (Cx.wh X) C k n mf) (hx : x = nm C) (hr : Room (k + 1) X.A) (ha : JA X (e :: es) t) (hg : Gl X x := by rfl) (hdb : (x == ("__debug__" : Str)) = false := by decide) (he : starEach (e :: es) X.env = (false, eval e X.env) :: starEach es X.env := by rfl)
    (hpl : (backTo pos (starEach es X.env)).any (·.1) = false := by rfl) : JE X (.Call (.Name x p) (e :: es) [] pos) (mApp (vMake C mf) t) := fun W tk => by
  obtain ⟨Ca, f, hC, M, fd, ps, hl, hk, hb, F⟩ := h
  refine PE.weak (pe_makeS (E := WE W) M F hr hg (by rw [hx]; exact hC) hb (passAt tk) (ha W tk) hdb he hpl) fun σ H Q ⟨ι, ρ, st, S, sl, p⟩ => ?_
  refine ⟨ι, ρ, st, S, sl, Post.bind p fun ws st1 ι1 H1 vs l1 S1 r1 p1 => fun q dx hq hdx ne => ?_⟩
  obtain ⟨S2, l2⟩ := make_sim S1 hC hq hdx ne
  refine ⟨_, _, _, S2, Reps.cons (Rep.ref (n := st1.length) (a := q) ?_) (Reps.later l2 r1), Post.bind (Post.later p1 l2) fun w st3 ι3 H3 v l3 S3 r3 p3 => ?_⟩
  · rw [← S1.len, List.getElem?_append_right (Nat.le_refl _)]; simp
  · cases w with
    | non =>
      refine ⟨r3.non_inv, p3.okSame S3 (Rep.ref ?_)⟩
      refine l3.get ?_
      rw [← S1.len, List.getElem?_append_right (Nat.le_refl _)]; simp
    | _ => exact p3.elim
end

/-! ### a def's body -/
@[reducible] def O.fin (o : O) : R Val := match o with
  | .nx _ st => .ok .non st
  | .ret w st => .ok w st
  | .exc x _ st => .exc x st
  | _ => .bad
/-- the def with n parameters and m further names -/
def defM (n m : Nat) (body : MS) : MF := fun ws st => if ws.length = n then (body (ws.map some ++ List.replicate m none) st).fin else .bad
theorem defM_eq {n m : Nat} {body : MS} {ws : List Val} {st : Store} (h : ws.length = n) : defM n m body ws st = (body (ws.map some ++ List.replicate m none) st).fin := if_pos h
theorem slots_start {mg : Str → Option Value} {ι : List Addr} {H : Hp} {ws : List Val} {vs : List V} (r : Reps mg ι H ws vs) {N : List Str} {m : Nat} (hN : N.length = ws.length + m) : SlotsOk mg ι H (ws.map some ++ List.replicate m none) (L2.start N vs) := by
  have hl := r.length
  refine ⟨by unfold L2.start; simp [hl]; omega, fun i w e => ?_⟩
  by_cases hi : i < ws.length
  · rw [List.getElem?_append_left (by simpa using hi), List.getElem?_map] at e
    cases q : ws[i]? with
    | none => rw [q] at e; cases e
    | some u =>
      rw [q] at e
      cases e
      obtain ⟨v, ev, rv⟩ := r.get q
      exact ⟨v, by unfold L2.start; rw [List.getElem?_append_left (by simp; omega), List.getElem?_map, ev]; rfl, rv⟩
  · rw [List.getElem?_append_right (by simpa using hi), List.getElem?_replicate] at e
    split at e <;> cases e
end Ab

set_option Elab.async false
set_option linter.all false
set_option maxRecDepth 100000
/-! Ab: list comprehensions; built-in functions and methods. -/
namespace Ab
open PySem PySem.Spec L2

/-- code that is never reached -/
@[reducible] def mBad : ME := fun _ _ => .bad
@[reducible] def sBad : MS := fun _ _ => .bad
theorem jss_never {X : Cx} {s : List Stmt} : JSs X s sBad := fun W tk => PSs.weak pss_never fun D σ H ⟨ι, ρ, st, S, sl, p⟩ => p

/-! ### list comprehensions -/
def wipeM (ρ : Slots) : List Nat → Slots
  | [] => ρ
  | v :: vs => (wipeM ρ vs).set v none
theorem wipeM_ok {mg : Str → Option Value} {ι : List Addr} {H : Hp} {ρ : Slots} {σ : L2.St} (h : SlotsOk mg ι H ρ σ) : ∀ vs : List Nat, SlotsOk mg ι H (wipeM ρ vs) (wipe σ vs)
  | [] => h
  | v :: vs => by
    have ih := wipeM_ok h vs
    refine ⟨by unfold wipeM wipe; simp [ih.1], fun i w e => ?_⟩
    unfold wipeM at e
    unfold wipe
    by_cases hv : v = i
    · subst hv
      exfalso
      by_cases hl : v < (wipeM ρ vs).length
      · rw [List.getElem?_set_self hl] at e
        cases e
      · rw [List.getElem?_eq_none (by rw [List.length_set]; omega)] at e
        cases e
    · rw [List.getElem?_set_ne hv] at e ⊢
      exact ih.2 i w e
theorem wipe_out {σ : L2.St} {i : Nat} : ∀ {vs : List Nat}, i ∉ vs → (wipe σ vs)[i]? = σ[i]?
  | [], _ => rfl
  | v :: vs, h => by
    unfold wipe
    rw [List.getElem?_set_ne fun e => h (by simp [e])]
    exact wipe_out fun z => h (List.mem_cons_of_mem _ z)
theorem wipe_in {σ : L2.St} {i : Nat} : ∀ {vs : List Nat}, i ∈ vs → i < σ.length → (wipe σ vs)[i]? = some none
  | v :: vs, h, hl => by
    unfold wipe
    by_cases q : v = i
    · subst q
      rw [List.getElem?_set_self (by rw [wipe_length]; exact hl)]
    · rw [List.getElem?_set_ne q]
      exact wipe_in ((List.mem_cons.mp h).resolve_left (Ne.symm q)) hl
theorem wipe_same {vs : List Nat} {σ σ2 : L2.St} (o : OutS vs (wipe σ vs) σ2) : wipe σ2 vs = wipe σ vs := by
  have hl : σ2.length = σ.length := by rw [o.1, wipe_length]
  apply List.ext_getElem?
  intro i
  by_cases hi : i < σ.length
  · by_cases hm : i ∈ vs
    · rw [wipe_in hm (by omega), wipe_in hm hi]
    · rw [wipe_out hm, o.2 i hm]
  · rw [List.getElem?_eq_none (by rw [wipe_length]; omega), List.getElem?_eq_none (by rw [wipe_length]; omega)]
abbrev ixs (own : List (Str × Nat)) : List Nat := own.map (·.2)
@[reducible] def R.noX {α : Type} (r : R α) : R α := match r with
  | .exc _ _ => .bad
  | r => r
@[reducible] def mYes : MT := fun _ st => .ok true st
open Classical in
noncomputable def lcM (g : MG) (t : MT) (elt : ME) (okp : Store → Prop) (D : Nat) (ρ : Slots) : List Val → Store → R Val
  | [], st => if okp st then .ok (.ref D) st else .bad
  | w :: ws, st => if okp st then match g w ρ st with
      | none => .bad
      | some (ρ1, st1) => ((t ρ1 st1).noX).bind fun k st2 =>
        if k = true then ((elt ρ1 st2).noX).bind fun y st3 => match st3[D]? with
          | some (.lst acc) => if acc.length < sizeLine then lcM g t elt okp D ρ ws (st3.set D (.lst (acc ++ [y]))) else .bad
          | _ => .bad
        else lcM g t elt okp D ρ ws st2
    else .bad
@[reducible] noncomputable def mLc (mi : MI) (g : MG) (t : MT) (elt : ME) (vs : List Nat) : ME := fun ρ st => (mi ρ st).bind fun it st1 => lcM g t elt it.2 st1.length (wipeM ρ vs) it.1 (st1 ++ [.lst []])
abbrev W0 : WX := fun _ _ _ _ => False
def JTs (X : Cx) (es : List Expr) (m : MT) : Prop := ∀ W, Takes X W → PTs X es (rdG X.K X.mg relB W m)
theorem PTs.weak {X : Cx} {e : List Expr} {t t' : TT} (h : PTs X e t) (w : ∀ σ H Q, t' σ H Q → t σ H Q) : PTs X e t' := ⟨fun pins s σ H Q I q => h.run pins s σ H Q I (w σ H Q q)⟩
theorem jts_nil {X : Cx} : JTs X [] mYes := fun W tk => PTs.weak pts_nil fun σ H Q ⟨ι, ρ, st, S, sl, p⟩ => p.okSame S rfl
theorem jts_one {X : Cx} {c : Expr} {t : MT} (h : JT X c t) : JTs X [c] t := fun W tk => pts_one (h W tk)
theorem Post.noX {α β : Type} {K : PySem.W.Frag} {mg : Str → Option Value} {rel : List Addr → Hp → α → β → Prop} {ι : List Addr} {H : Hp} {Q : β → Hp → Prop} {E : Value → Option Addr → Hp → Prop} {r : R α} (p : Post K mg rel ι H Q E r.noX) : Post K mg rel ι H Q (fun _ _ _ => False) r := by
  cases r with
  | ok a st => exact p
  | exc x st => exact p.elim
  | bad => exact p.elim
section
variable {X : Cx} {elt tg iter : Expr} {ifs : List Expr} {scope : Scope} {own : List (Str × Nat)} {pos : Pos} {mi : MI} {g : MG} {t : MT} {me : ME}
theorem lc_read {W : WX} {σ : L2.St} {H : Hp} {Q : VK} (h : rdG X.K X.mg (rel1 X.mg) W (mLc mi g t me (ixs own)) σ H Q) :
    tLc (rdG X.K X.mg (relI X.K X.mg) W mi) (rdT X.K X.mg (ixs own) g) (rdG X.K X.mg relB W0 t) (rdG X.K X.mg (rel1 X.mg) W0 me) (ixs own) σ H Q := by
  obtain ⟨ι, ρ, st, S, sl, p⟩ := h
  refine ⟨ι, ρ, st, S, sl, Post.bind p fun it st1 ι1 H1 J l1 S1 r1 p1 => fun D hD => ?_⟩
  obtain ⟨items, okp⟩ := it
  have r1 : IsIt X.K X.mg items okp ι1 H1 J := r1
  have sl1 := wipeM_ok (sl.later l1) (ixs own)
  have hs := same_new (o := .lst []) hD
  obtain ⟨S2, l2⟩ := S1.push (c := .lst []) hD hs ⟨[], upd_same, Reps.nil⟩
  have hDi : (ι1 ++ [D])[st1.length]? = some D := by rw [← S1.len, List.getElem?_append_right (Nat.le_refl _)]; simp
  refine ⟨fun i m H' => ∃ ι' st', Later (ι1 ++ [D]) (upd H1 D (.lst [])) ι' H' ∧ Sim X.K X.mg ι' st' H' ∧ m = items.length - i ∧ i ≤ items.length ∧ Post X.K X.mg (rel1 X.mg) ι' H' Q (fun c d H' => W c d σ H') (lcM g t me okp st1.length (wipeM ρ (ixs own)) (items.drop i) st'),
    ⟨items.length, ι1 ++ [D], st1 ++ [.lst []], Later.refl _ _, S2, by simp, Nat.zero_le _, by simpa using Post.later p1 l2⟩, ?_⟩
  rintro i m H3 ⟨ι3, st3, l3, S3, rfl, hi, p3⟩
  have l13 := l2.trans l3
  by_cases hlt : i < items.length
  · rw [List.drop_eq_getElem_cons hlt] at p3
    unfold lcM at p3
    split at p3
    · rename_i hok
      refine .inr ⟨r1.go i ι3 H3 st3 l13 S3 hok hlt, fun H4 => ∃ ι4 st4, Later (ι1 ++ [D]) (upd H1 D (.lst [])) ι4 H4 ∧ Sim X.K X.mg ι4 st4 H4 ∧ Post X.K X.mg (rel1 X.mg) ι4 H4 Q (fun c d H' => W c d σ H') (lcM g t me okp st1.length (wipeM ρ (ixs own)) (items.drop (i + 1)) st4), ?_, ?_⟩
      · rintro H4 ⟨ι4, st4, l4, S4, p4⟩
        exact ⟨items.length - (i + 1), by omega, ι4, st4, l4, S4, rfl, hlt, p4⟩
      · intro x H4 hy
        obtain ⟨l4, S4, w, hw, rw_⟩ := r1.yld i ι3 H3 st3 x H4 l13 S3 hok hlt hy
        have hw' : items[i] = w := by rw [List.getElem?_eq_getElem hlt] at hw; exact Option.some.inj hw
        rw [hw'] at p3
        refine ⟨ι3, wipeM ρ (ixs own), st3, w, S4, sl1.later (l13.trans l4), rw_, ?_⟩
        cases q : g w (wipeM ρ (ixs own)) st3 with
        | none => rw [q] at p3; exact p3.elim
        | some z =>
          obtain ⟨ρ5, st5⟩ := z
          rw [q] at p3
          dsimp only at p3
          intro ι5 H5 σ5 l5 S5 sl5 o5
          have l15 := (l3.trans l4).trans l5
          have p5 := Post.later (Post.later p3 l4) l5
          refine ⟨wipe_same o5, ι5, ρ5, st5, S5, sl5, ?_⟩
          refine Post.noX (E := fun c d H' => W c d σ H') (Post.bind p5 fun k st6 ι6 H6 k' l6 S6 r6 p6 => ?_)
          have r6 : k = k' := r6
          subst r6
          have sl6 := sl5.later l6
          have l16 := l15.trans l6
          cases k with
          | false =>
            rw [if_neg Bool.false_ne_true] at p6
            exact iteF ⟨ι6, st6, l16, S6, p6⟩
          | true =>
            rw [if_pos rfl] at p6
            refine iteT ⟨ι6, ρ5, st6, S6, sl6, ?_⟩
            refine Post.noX (E := fun c d H' => W c d σ H') (Post.bind p6 fun y st7 ι7 H7 yv l7 S7 r7 p7 => ?_)
            have l17 := l16.trans l7
            have hD7 := l17.get hDi
            split at p7
            · rename_i acc eacc
              obtain ⟨vs, hvs, rvs⟩ := S7.at eacc hD7
              split at p7
              · rename_i hz
                obtain ⟨S8, l8⟩ := S7.write (c' := .lst (acc ++ [y])) (o' := .lst (vs ++ [yv])) eacc hD7 rfl rfl hvs (fun _ e => by cases e) (fun _ _ e => by cases e)
                  ⟨_, upd_same, (rvs.append (Reps.cons r7 Reps.nil)).later ⟨⟨[], by simp⟩, fun b xs e => by rw [upd_ne fun q => by subst q; rw [hvs] at e; cases e]; exact e, fun b ob ks e => by rw [upd_ne fun q => by subst q; rw [hvs] at e; cases e]; exact e⟩⟩
                exact ⟨vs, hvs, by rw [← rvs.length]; exact hz, ι7, _, l17.trans l8, S8, Post.later p7 l8⟩
              · exact p7.elim
            · exact p7.elim
    · exact p3.elim
  · have hle : items.length ≤ i := by omega
    rw [List.drop_eq_nil_of_le hle] at p3
    unfold lcM at p3
    split at p3
    · rename_i hok
      exact .inl ⟨r1.stop i ι3 H3 st3 l13 S3 hok (by omega), p3.okSame S3 (Rep.ref (l3.get hDi))⟩
    · exact p3.elim
theorem je_lc (hc : X.calm = true) (hN : X.N.Nodup) (own : List (Str × Nat)) (hi : JI X tg iter mi) (ok : blkC X.N X.env.scope scope own = true)
    (hg : ∀ (s : Shared) (H : Hp) (C : Addr) (cl : List (Str × Addr)) (fp : List Addr), JG (X.blk s H scope (compEnvC scope cl C X.env) fp) tg (ixs own) g) (ht : ∀ (s : Shared) (H : Hp) (C : Addr) (cl : List (Str × Addr)) (fp : List Addr), JTs (X.blk s H scope (compEnvC scope cl C X.env) fp) ifs t)
    (he : ∀ (s : Shared) (H : Hp) (C : Addr) (cl : List (Str × Addr)) (fp : List Addr), JE (X.blk s H scope (compEnvC scope cl C X.env) fp) elt me) (hs : ∀ x, foldedSetIterable iter X.env x = pure x := by intro _; rfl) :
    JE X (.ListComp elt [⟨tg, iter, ifs, 0⟩] scope pos) (mLc mi g t me (ixs own)) := fun W tk =>
  PE.weak (pe_lc (wi := rdG X.K X.mg (relI X.K X.mg) W mi) (g := rdT X.K X.mg (ixs own) g) (tt := rdG X.K X.mg relB W0 t) (te := rdG X.K X.mg (rel1 X.mg) W0 me) hc hN (hi W tk) (blkOk_by ok) (fun s H C cl fp => hg s H C cl fp) (fun s H C cl fp => ht s H C cl fp W0 takes0) (fun s H C cl fp => he s H C cl fp W0 takes0) hs) fun σ H Q h => lc_read h
/-- y = [..] on one line -/
theorem js_setLc {i : Nat} {y : Str} {py spos : Pos} (hc : X.calm = true) (hN : X.N.Nodup) (own : List (Str × Nat)) (hi : JI X tg iter mi) (ok : blkC X.N X.env.scope scope own = true)
    (hg : ∀ (s : Shared) (H : Hp) (C : Addr) (cl : List (Str × Addr)) (fp : List Addr), JG (X.blk s H scope (compEnvC scope cl C X.env) fp) tg (ixs own) g) (ht : ∀ (s : Shared) (H : Hp) (C : Addr) (cl : List (Str × Addr)) (fp : List Addr), JTs (X.blk s H scope (compEnvC scope cl C X.env) fp) ifs t)
    (he : ∀ (s : Shared) (H : Hp) (C : Addr) (cl : List (Str × Addr)) (fp : List Addr), JE (X.blk s H scope (compEnvC scope cl C X.env) fp) elt me)
    (hsw : swapsWith (.ListComp elt [⟨tg, iter, ifs, 0⟩] scope pos) (some (.Name y py)) spos.line X.env = pure true)
    (hy : X.N[i]? = some y := by rfl) (hyl : X.env.scope.names.lookup y = some .local := by rfl) (hs : ∀ x, foldedSetIterable iter X.env x = pure x := by intro _; rfl) :
    JS X (.Assign [.Name y py] (.ListComp elt [⟨tg, iter, ifs, 0⟩] scope pos) spos) (sSet i (mLc mi g t me (ixs own))) := fun W tk => by
  refine PS.weak (ps_setLc (wi := rdG X.K X.mg (relI X.K X.mg) W mi) (g := rdT X.K X.mg (ixs own) g) (tt := rdG X.K X.mg relB W0 t) (te := rdG X.K X.mg (rel1 X.mg) W0 me) hc hN hy hyl hsw (hi W tk) (blkOk_by ok) (fun s H C cl fp => hg s H C cl fp) (fun s H C cl fp => ht s H C cl fp W0 takes0) (fun s H C cl fp => he s H C cl fp W0 takes0) hs) fun D σ H ⟨ι, ρ, st, S, sl, p⟩ => ?_
  refine lc_read (W := W) ⟨ι, ρ, st, S, sl, PostO.bind p sl fun w st1 ι1 H1 v l1 S1 r1 p1 => ?_⟩
  exact p1.nx_same S1 ((sl.later l1).set i r1)
end
end Ab

set_option Elab.async false
set_option linter.all false
set_option maxRecDepth 100000
/-! Ab: built-in functions, methods of lists, equality, membership. -/
namespace Ab
open PySem PySem.Spec L2

def asInts : List Val → Option (List Int)
  | [] => some []
  | .int i :: r => (asInts r).map (i :: ·)
  | _ => none
def asBools : List Val → Option (List Bool)
  | [] => some []
  | .bl i :: r => (asBools r).map (i :: ·)
  | _ => none
theorem asInts_map : ∀ ns : List Int, asInts (ns.map .int) = some ns
  | [] => rfl
  | n :: ns => by show (asInts (ns.map .int)).map _ = _; rw [asInts_map ns]; rfl
theorem asBools_map : ∀ ns : List Bool, asBools (ns.map .bl) = some ns
  | [] => rfl
  | n :: ns => by show (asBools (ns.map .bl)).map _ = _; rw [asBools_map ns]; rfl
theorem asInts_some : ∀ {ws : List Val} {ns : List Int}, asInts ws = some ns → ws = ns.map .int
  | [], ns, h => by cases h; rfl
  | w :: ws, ns, h => by
    cases w with
    | int i =>
      have h : (asInts ws).map (i :: ·) = some ns := h
      cases q : asInts ws with
      | none => rw [q] at h; cases h
      | some ms => rw [q] at h; cases h; rw [asInts_some q]; rfl
    | _ => cases h
theorem asBools_some : ∀ {ws : List Val} {ns : List Bool}, asBools ws = some ns → ws = ns.map .bl
  | [], ns, h => by cases h; rfl
  | w :: ws, ns, h => by
    cases w with
    | bl i =>
      have h : (asBools ws).map (i :: ·) = some ns := h
      cases q : asBools ws with
      | none => rw [q] at h; cases h
      | some ms => rw [q] at h; cases h; rw [asBools_some q]; rfl
    | _ => cases h
section
variable {mg : Str → Option Value} {ι : List Addr} {H : Hp}
theorem Reps.ints : ∀ {ns : List Int} {vs : List V}, Reps mg ι H (ns.map .int) vs → vs = ns.map V.int
  | [], vs, h => h.of_nil
  | n :: ns, vs, h => by
    obtain ⟨v, r, e, h1, h2⟩ := Reps.of_cons h
    rw [e, h1.int_inv, Reps.ints h2]; rfl
theorem Reps.bools : ∀ {ns : List Bool} {vs : List V}, Reps mg ι H (ns.map .bl) vs → vs = ns.map V.bl
  | [], vs, h => h.of_nil
  | n :: ns, vs, h => by
    obtain ⟨v, r, e, h1, h2⟩ := Reps.of_cons h
    rw [e, h1.bl_inv, Reps.bools h2]; rfl
theorem Reps.one {w : Val} {vs : List V} (h : Reps mg ι H [w] vs) : ∃ v, vs = [v] ∧ Rep mg ι H w v := by
  obtain ⟨v, r, e, h1, h2⟩ := h.of_cons
  rw [h2.of_nil] at e
  exact ⟨v, e, h1⟩
theorem Reps.two {w u : Val} {vs : List V} (h : Reps mg ι H [w, u] vs) : ∃ v z, vs = [v, z] ∧ Rep mg ι H w v ∧ Rep mg ι H u z := by
  obtain ⟨v, r, e, h1, h2⟩ := h.of_cons
  obtain ⟨z, e2, h3⟩ := Reps.one h2
  rw [e2] at e
  exact ⟨v, z, e, h1, h3⟩
end

/-! ### flat values: in, ==, index -/
@[reducible] def flatW : Val → Bool
  | .non => true
  | .bl _ => true
  | .int _ => true
  | .str _ => true
  | _ => false
def eqW : Val → Val → Bool
  | .non, .non => true
  | .bl a, .bl b => a == b
  | .bl a, .int b => (if a then 1 else 0) == b
  | .int a, .bl b => a == (if b then 1 else 0)
  | .int a, .int b => a == b
  | .str a, .str b => a == b
  | _, _ => false
def inW (x : Val) (xs : List Val) : Bool := xs.any fun y => eqW y x
section
variable {mg : Str → Option Value} {ι : List Addr} {H : Hp}
theorem flatW_rep {w : Val} {v : V} (r : Rep mg ι H w v) (f : flatW w = true) : flatV v = true ∧ ∀ {u : Val} {z : V}, Rep mg ι H u z → flatW u = true → eqV z v = eqW u w := by
  cases w with
  | non =>
    have e := r.non_inv; subst e
    refine ⟨rfl, fun {u z} r2 f2 => ?_⟩
    cases u with
    | non => have e := r2.non_inv; subst e; rfl
    | bl b => have e := r2.bl_inv; subst e; rfl
    | int b => have e := r2.int_inv; subst e; rfl
    | str b => have e := r2.str_inv; subst e; rfl
    | _ => cases f2
  | bl a =>
    have e := r.bl_inv; subst e
    refine ⟨rfl, fun {u z} r2 f2 => ?_⟩
    cases u with
    | non => have e := r2.non_inv; subst e; rfl
    | bl b => have e := r2.bl_inv; subst e; rfl
    | int b => have e := r2.int_inv; subst e; rfl
    | str b => have e := r2.str_inv; subst e; rfl
    | _ => cases f2
  | int a =>
    have e := r.int_inv; subst e
    refine ⟨rfl, fun {u z} r2 f2 => ?_⟩
    cases u with
    | non => have e := r2.non_inv; subst e; rfl
    | bl b => have e := r2.bl_inv; subst e; rfl
    | int b => have e := r2.int_inv; subst e; rfl
    | str b => have e := r2.str_inv; subst e; rfl
    | _ => cases f2
  | str a =>
    have e := r.str_inv; subst e
    refine ⟨rfl, fun {u z} r2 f2 => ?_⟩
    cases u with
    | non => have e := r2.non_inv; subst e; rfl
    | bl b => have e := r2.bl_inv; subst e; rfl
    | int b => have e := r2.int_inv; subst e; rfl
    | str b => have e := r2.str_inv; subst e; rfl
    | _ => cases f2
  | _ => cases f
theorem flats {w : Val} {v : V} (r : Rep mg ι H w v) (f : flatW w = true) : ∀ {ws : List Val} {vs : List V}, Reps mg ι H ws vs → ws.all flatW = true → vs.all flatV = true ∧ inV v vs = inW w ws
  | [], vs, h, _ => by rw [h.of_nil]; exact ⟨rfl, rfl⟩
  | x :: ws, vs, h, fa => by
    obtain ⟨y, r', e, h1, h2⟩ := h.of_cons
    subst e
    rw [List.all_cons, Bool.and_eq_true] at fa
    obtain ⟨i1, i2⟩ := flats r f h2 fa.2
    refine ⟨by rw [List.all_cons, (flatW_rep h1 fa.1).1, i1]; rfl, ?_⟩
    unfold inV inW at i2 ⊢
    rw [List.any_cons, List.any_cons, i2, (flatW_rep r f).2 h1 fa.1]
end
@[reducible] def vIn : Val → Val → Store → R Val
  | .str c, .str z, st => match c.cps.toList with
    | [k] => .ok (.bl (decide (k ∈ z.cps.toList))) st
    | _ => .bad
  | x, .tup ys, st => if flatW x && ys.all flatW then .ok (.bl (inW x ys)) st else .bad
  | x, .ref n, st => match seqAt st n with
    | some ys => if flatW x && ys.all flatW then .ok (.bl (inW x ys)) st else .bad
    | none => .bad
  | _, _, _ => .bad
@[reducible] def vNotIn : Val → Val → Store → R Val
  | .str c, .str z, st => match c.cps.toList with
    | [k] => .ok (.bl (!decide (k ∈ z.cps.toList))) st
    | _ => .bad
  | x, .tup ys, st => if flatW x && ys.all flatW then .ok (.bl (!inW x ys)) st else .bad
  | x, .ref n, st => match seqAt st n with
    | some ys => if flatW x && ys.all flatW then .ok (.bl (!inW x ys)) st else .bad
    | none => .bad
  | _, _, _ => .bad
theorem str_one {c : Str} {k : Nat} (h : c.cps.toList = [k]) : c = ⟨#[k]⟩ := by
  obtain ⟨a⟩ := c
  have : a = [k].toArray := by rw [← h]
  rw [this]
section
variable {X : Cx}
theorem m2_in : M2 X (compareOp .In) vIn := by
  rintro pins s σ H x y u1 u2 Q I rx ry ⟨ι, st, w1, w2, S, r1, r2, p⟩
  cases w2 with
  | str z =>
    cases w1 with
    | str c =>
      have e1 := r1.str_inv; have e2 := r2.str_inv
      subst e1 e2
      dsimp only [vIn] at p
      split at p
      · rename_i k ek
        exact op_in_sign pins s σ H _ _ u1 u2 Q I rx ry ⟨k, z, by rw [str_one ek], rfl, p.okSame S Rep.bl⟩
      · exact p.elim
    | _ => exact p.elim
  | tup ys =>
    obtain ⟨a, vs, e, ha, rr⟩ := r2.tup_inv
    subst e
    have p : Post X.K X.mg (rel1 X.mg) ι H Q (fun _ _ _ => False) (if flatW w1 && ys.all flatW then .ok (.bl (inW w1 ys)) st else .bad) := by cases w1 <;> exact p
    split at p
    · rename_i hf
      rw [Bool.and_eq_true] at hf
      obtain ⟨f1, f2⟩ := flats r1 hf.1 rr hf.2
      exact op_in_seq pins s σ H _ _ u1 u2 Q I rx ry ⟨a, vs, rfl, .inr (SqT.of ha), (flatW_rep r1 hf.1).1, f1, by rw [if_neg Bool.false_ne_true, f2]; exact p.okSame S Rep.bl⟩
    · exact p.elim
  | ref n =>
    obtain ⟨a, e, ha⟩ := r2.ref_inv
    subst e
    have p : Post X.K X.mg (rel1 X.mg) ι H Q (fun _ _ _ => False) (match seqAt st n with
      | some ys => if flatW w1 && ys.all flatW then .ok (.bl (inW w1 ys)) st else .bad
      | none => .bad) := by cases w1 <;> exact p
    cases es : seqAt st n with
    | none => rw [es] at p; exact p.elim
    | some ys =>
      rw [es] at p
      dsimp only at p
      obtain ⟨vs, hl, rr⟩ := S.seqL es ha
      split at p
      · rename_i hf
        rw [Bool.and_eq_true] at hf
        obtain ⟨f1, f2⟩ := flats r1 hf.1 rr hf.2
        exact op_in_seq pins s σ H _ _ u1 u2 Q I rx ry ⟨a, vs, rfl, .inl hl, (flatW_rep r1 hf.1).1, f1, by rw [if_neg Bool.false_ne_true, f2]; exact p.okSame S Rep.bl⟩
      · exact p.elim
  | _ => cases w1 <;> exact p.elim
theorem m2_notIn : M2 X (compareOp .NotIn) vNotIn := by
  rintro pins s σ H x y u1 u2 Q I rx ry ⟨ι, st, w1, w2, S, r1, r2, p⟩
  cases w2 with
  | str z =>
    cases w1 with
    | str c =>
      have e1 := r1.str_inv; have e2 := r2.str_inv
      subst e1 e2
      dsimp only [vNotIn] at p
      split at p
      · rename_i k ek
        exact op_notIn_sign pins s σ H _ _ u1 u2 Q I rx ry ⟨k, z, by rw [str_one ek], rfl, p.okSame S Rep.bl⟩
      · exact p.elim
    | _ => exact p.elim
  | tup ys =>
    obtain ⟨a, vs, e, ha, rr⟩ := r2.tup_inv
    subst e
    have p : Post X.K X.mg (rel1 X.mg) ι H Q (fun _ _ _ => False) (if flatW w1 && ys.all flatW then .ok (.bl (!inW w1 ys)) st else .bad) := by cases w1 <;> exact p
    split at p
    · rename_i hf
      rw [Bool.and_eq_true] at hf
      obtain ⟨f1, f2⟩ := flats r1 hf.1 rr hf.2
      exact op_notIn_seq pins s σ H _ _ u1 u2 Q I rx ry ⟨a, vs, rfl, .inr (SqT.of ha), (flatW_rep r1 hf.1).1, f1, by rw [if_pos rfl, f2]; exact p.okSame S Rep.bl⟩
    · exact p.elim
  | ref n =>
    obtain ⟨a, e, ha⟩ := r2.ref_inv
    subst e
    have p : Post X.K X.mg (rel1 X.mg) ι H Q (fun _ _ _ => False) (match seqAt st n with
      | some ys => if flatW w1 && ys.all flatW then .ok (.bl (!inW w1 ys)) st else .bad
      | none => .bad) := by cases w1 <;> exact p
    cases es : seqAt st n with
    | none => rw [es] at p; exact p.elim
    | some ys =>
      rw [es] at p
      dsimp only at p
      obtain ⟨vs, hl, rr⟩ := S.seqL es ha
      split at p
      · rename_i hf
        rw [Bool.and_eq_true] at hf
        obtain ⟨f1, f2⟩ := flats r1 hf.1 rr hf.2
        exact op_notIn_seq pins s σ H _ _ u1 u2 Q I rx ry ⟨a, vs, rfl, .inl hl, (flatW_rep r1 hf.1).1, f1, by rw [if_pos rfl, f2]; exact p.okSame S Rep.bl⟩
      · exact p.elim
  | _ => cases w1 <;> exact p.elim
theorem quiet_in : ∀ x y st, Quiet (vIn x y st) := by
  intro x y st ex st' h
  unfold vIn at h
  repeat (first | (split at h) | cases h)
theorem quiet_notIn : ∀ x y st, Quiet (vNotIn x y st) := by
  intro x y st ex st' h
  unfold vNotIn at h
  repeat (first | (split at h) | cases h)
theorem quiet_add : ∀ x y st, Quiet (vAdd x y st) := by
  intro x y st ex st' h
  unfold vAdd at h
  repeat (first | (split at h) | cases h)
theorem quiet_sub : ∀ x y st, Quiet (vSub x y st) := by
  intro x y st ex st' h
  unfold vSub at h
  repeat (first | (split at h) | cases h)
theorem quiet_mul : ∀ x y st, Quiet (vMul x y st) := by
  intro x y st ex st' h
  unfold vMul at h
  repeat (first | (split at h) | cases h)
theorem quiet_div : ∀ x y st, Quiet (vDiv x y st) := by
  intro x y st ex st' h
  unfold vDiv at h
  repeat (first | (split at h) | cases h)
theorem quiet_mod : ∀ x y st, Quiet (vMod x y st) := by
  intro x y st ex st' h
  unfold vMod at h
  repeat (first | (split at h) | cases h)
theorem quiet_pow : ∀ x y st, Quiet (vPow x y st) := by
  intro x y st ex st' h
  unfold vPow at h
  repeat (first | (split at h) | cases h)
theorem quiet_cmpI (q : Int → Int → Bool) : ∀ x y st, Quiet (vCmpI q x y st) := by
  intro x y st ex st' h
  unfold vCmpI at h
  repeat (first | (split at h) | cases h)
theorem quiet_le : ∀ x y st, Quiet (vLe x y st) := by
  intro x y st ex st' h
  unfold vLe at h
  repeat (first | (split at h) | cases h)
theorem quiet_isN : ∀ x y st, Quiet (vIsN x y st) := by
  intro x y st ex st' h
  unfold vIsN at h
  repeat (first | (split at h) | cases h)
theorem quiet_notN : ∀ x y st, Quiet (vNotN x y st) := by
  intro x y st ex st' h
  unfold vNotN at h
  repeat (first | (split at h) | cases h)
end

/-! ### == of any data -/
def mapO {α β : Type} (f : α → Option β) : List α → Option (List β)
  | [] => some []
  | x :: xs => match f x, mapO f xs with
    | some y, some ys => some (y :: ys)
    | _, _ => none
def deep (st : Store) : Nat → Val → Option PyData
  | 0, _ => none
  | _ + 1, .non => some .none
  | _ + 1, .bl b => some (.bool b)
  | _ + 1, .int i => some (.int i)
  | _ + 1, .str z => if PyData.canLay0 (.str z) = true then some (.str z) else none
  | n + 1, .tup xs => (mapO (deep st n) xs).map .tuple
  | n + 1, .ref k => match seqAt st k with
    | some xs => (mapO (deep st n) xs).map .list
    | none => none
  | _ + 1, .gl _ => none
  | _ + 1, .adr _ => none
theorem deepAll {K : PySem.W.Frag} {mg : Str → Option Value} {ι : List Addr} {H : Hp} {f : Val → Option PyData} {n : Nat}
    (hf : ∀ {w : Val} {d : PyData}, f w = some d → d.canLay0 = true ∧ d.depth ≤ n ∧ ∀ {v : V}, Rep mg ι H w v → Dp K H v d) : ∀ {ws : List Val} {ds : List PyData}, mapO f ws = some ds →
      PyData.canLayAll0 ds = true ∧ PyData.depthAll ds ≤ n ∧ ∀ {vs : List V}, Reps mg ι H ws vs → DpAll K H vs ds
  | [], ds, h => by
    cases h
    refine ⟨rfl, Nat.zero_le _, fun {vs} r => ?_⟩
    rw [r.of_nil]
    exact .nil
  | w :: ws, ds, h => by
    unfold mapO at h
    split at h
    · rename_i d ds' e1 e2
      cases h
      obtain ⟨c1, c2, c3⟩ := hf e1
      obtain ⟨i1, i2, i3⟩ := deepAll hf e2
      refine ⟨by rw [PyData.canLayAll0, c1, i1]; rfl, by rw [PyData.depthAll]; omega, fun {vs} r => ?_⟩
      obtain ⟨v, r', e, h1, h2⟩ := r.of_cons
      subst e
      exact .cons (c3 h1) (i3 h2)
    · cases h
theorem deep_ok {K : PySem.W.Frag} {mg : Str → Option Value} {ι : List Addr} {st : Store} {H : Hp} (S : Sim K mg ι st H) : ∀ {n : Nat} {w : Val} {d : PyData}, deep st n w = some d → d.canLay0 = true ∧ d.depth ≤ n ∧ ∀ {v : V}, Rep mg ι H w v → Dp K H v d
  | 0, _, _, h => by cases h
  | n + 1, w, d, h => by
    cases w with
    | non => cases h; exact ⟨rfl, by simp [PyData.depth], fun r => by rw [r.non_inv]; exact .non⟩
    | bl b => cases h; exact ⟨rfl, by simp [PyData.depth], fun r => by rw [r.bl_inv]; exact .bl b⟩
    | int b => cases h; exact ⟨rfl, by simp [PyData.depth], fun r => by rw [r.int_inv]; exact .int b⟩
    | str b =>
      unfold deep at h
      split at h
      · rename_i hc
        cases h
        exact ⟨hc, by simp [PyData.depth], fun r => by rw [r.str_inv]; exact .str b⟩
      · cases h
    | tup xs =>
      unfold deep at h
      cases q : mapO (deep st n) xs with
      | none => rw [q] at h; cases h
      | some ds =>
        rw [q] at h
        cases h
        obtain ⟨c1, c2, c3⟩ := deepAll (fun e => deep_ok S e) q
        refine ⟨by rw [PyData.canLay0]; exact c1, by rw [PyData.depth]; omega, fun {v} r => ?_⟩
        obtain ⟨a, vs, e, ha, rr⟩ := r.tup_inv
        subst e
        exact .tup (SqT.of ha) (c3 rr)
    | ref k =>
      unfold deep at h
      cases es : seqAt st k with
      | none => rw [es] at h; cases h
      | some xs =>
        rw [es] at h
        dsimp only at h
        cases q : mapO (deep st n) xs with
        | none => rw [q] at h; cases h
        | some ds =>
          rw [q] at h
          cases h
          obtain ⟨c1, c2, c3⟩ := deepAll (fun e => deep_ok S e) q
          refine ⟨by rw [PyData.canLay0]; exact c1, by rw [PyData.depth]; omega, fun {v} r => ?_⟩
          obtain ⟨a, e, ha⟩ := r.ref_inv
          subst e
          obtain ⟨vs, hl, rr⟩ := S.seqL es ha
          exact .lst hl (c3 rr)
    | gl x => cases h
    | adr x => cases h
theorem deep_shaped {K : PySem.W.Frag} {mg : Str → Option Value} {ι : List Addr} {st : Store} {H : Hp} (S : Sim K mg ι st H) {n : Nat} (hn : n ≤ 64) {w : Val} {d : PyData} (h : deep st n w = some d) : SeqAt.shaped d = true := by
  obtain ⟨c1, c2, _⟩ := deep_ok S h
  unfold SeqAt.shaped
  rw [c1, decide_eq_true (Nat.le_trans c2 hn)]
  rfl
@[reducible] def vEq : Val → Val → Store → R Val
  | .int i, .int j, st => .ok (.bl (decide (i = j))) st
  | .str i, .str j, st => .ok (.bl (decide (i = j))) st
  | .bl i, .bl j, st => .ok (.bl (decide (i = j))) st
  | x, y, st => match deep st 16 x, deep st 16 y with
    | some d, some e => .ok (.bl (PyData.eqv d e)) st
    | _, _ => .bad
@[reducible] def vNe : Val → Val → Store → R Val
  | .int i, .int j, st => .ok (.bl (!decide (i = j))) st
  | .str i, .str j, st => .ok (.bl (!decide (i = j))) st
  | .bl i, .bl j, st => .ok (.bl (!decide (i = j))) st
  | x, y, st => match deep st 16 x, deep st 16 y with
    | some d, some e => .ok (.bl (!PyData.eqv d e)) st
    | _, _ => .bad
section
variable {X : Cx}
theorem dec_V {α : Type} [DecidableEq α] {f : α → V} (hf : ∀ a b, f a = f b → a = b) (i j : α) : decide (f i = f j) = decide (i = j) := by
  by_cases h : i = j
  · rw [h, decide_eq_true rfl, decide_eq_true rfl]
  · rw [decide_eq_false h, decide_eq_false fun e => h (hf _ _ e)]
theorem eq_deep {W1 W2 : Val} (hu : X.A.units + 64 < cLine) {pins : List (Addr × Obj)} {s : Shared} {σ : L2.St} {H : Hp} {x y : V} {u1 u2 : Value} {Q : VK} (I : Inv X pins σ H s) (rx : RelV x u1) (ry : RelV y u2) {ι : List Addr} {st : Store} (S : Sim X.K X.mg ι st H)
    (r1 : Rep X.mg ι H W1 x) (r2 : Rep X.mg ι H W2 y) (p : Post X.K X.mg (rel1 X.mg) ι H Q (fun _ _ _ => False) (match deep st 16 W1, deep st 16 W2 with
    | some d, some e => .ok (.bl (PyData.eqv d e)) st
    | _, _ => .bad)) : wpAny (model X.prog X.w) X.A (compareOp .Eq u1 u2) (EP X pins σ Q) X.xe s := by
  cases q1 : deep st 16 W1 with
  | none => rw [q1] at p; exact p.elim
  | some d =>
    cases q2 : deep st 16 W2 with
    | none => rw [q1, q2] at p; exact p.elim
    | some e =>
      rw [q1, q2] at p
      exact op_eqD hu pins s σ H _ _ u1 u2 Q I rx ry ⟨d, e, (deep_ok S q1).2.2 r1, (deep_ok S q2).2.2 r2, deep_shaped S (by decide) q1, deep_shaped S (by decide) q2, p.okSame S Rep.bl⟩
theorem ne_deep {W1 W2 : Val} (hu : X.A.units + 64 < cLine) {pins : List (Addr × Obj)} {s : Shared} {σ : L2.St} {H : Hp} {x y : V} {u1 u2 : Value} {Q : VK} (I : Inv X pins σ H s) (rx : RelV x u1) (ry : RelV y u2) {ι : List Addr} {st : Store} (S : Sim X.K X.mg ι st H)
    (r1 : Rep X.mg ι H W1 x) (r2 : Rep X.mg ι H W2 y) (p : Post X.K X.mg (rel1 X.mg) ι H Q (fun _ _ _ => False) (match deep st 16 W1, deep st 16 W2 with
    | some d, some e => .ok (.bl (!PyData.eqv d e)) st
    | _, _ => .bad)) : wpAny (model X.prog X.w) X.A (compareOp .NotEq u1 u2) (EP X pins σ Q) X.xe s := by
  cases q1 : deep st 16 W1 with
  | none => rw [q1] at p; exact p.elim
  | some d =>
    cases q2 : deep st 16 W2 with
    | none => rw [q1, q2] at p; exact p.elim
    | some e =>
      rw [q1, q2] at p
      exact op_neD hu pins s σ H _ _ u1 u2 Q I rx ry ⟨d, e, (deep_ok S q1).2.2 r1, (deep_ok S q2).2.2 r2, deep_shaped S (by decide) q1, deep_shaped S (by decide) q2, p.okSame S Rep.bl⟩
theorem m2_eq (hu : X.A.units + 64 < cLine) : M2 X (compareOp .Eq) vEq := by
  rintro pins s σ H x y u1 u2 Q I rx ry ⟨ι, st, w1, w2, S, r1, r2, p⟩
  cases w1 with
  | int i =>
    cases w2 with
    | int j =>
      have e1 := r1.int_inv; have e2 := r2.int_inv
      subst e1 e2
      exact op_eq pins s σ H _ _ u1 u2 Q I rx ry ⟨rfl, by rw [dec_V (fun a b h => by cases h; rfl)]; exact p.okSame S Rep.bl⟩
    | _ => exact eq_deep hu I rx ry S r1 r2 p
  | str i =>
    cases w2 with
    | str j =>
      have e1 := r1.str_inv; have e2 := r2.str_inv
      subst e1 e2
      exact op_eq pins s σ H _ _ u1 u2 Q I rx ry ⟨rfl, by rw [dec_V (fun a b h => by cases h; rfl)]; exact p.okSame S Rep.bl⟩
    | _ => exact eq_deep hu I rx ry S r1 r2 p
  | bl i =>
    cases w2 with
    | bl j =>
      have e1 := r1.bl_inv; have e2 := r2.bl_inv
      subst e1 e2
      exact op_eq pins s σ H _ _ u1 u2 Q I rx ry ⟨rfl, by rw [dec_V (fun a b h => by cases h; rfl)]; exact p.okSame S Rep.bl⟩
    | _ => exact eq_deep hu I rx ry S r1 r2 p
  | _ => exact eq_deep hu I rx ry S r1 r2 (by cases w2 <;> exact p)
theorem m2_ne (hu : X.A.units + 64 < cLine) : M2 X (compareOp .NotEq) vNe := by
  rintro pins s σ H x y u1 u2 Q I rx ry ⟨ι, st, w1, w2, S, r1, r2, p⟩
  cases w1 with
  | int i =>
    cases w2 with
    | int j =>
      have e1 := r1.int_inv; have e2 := r2.int_inv
      subst e1 e2
      exact op_ne pins s σ H _ _ u1 u2 Q I rx ry ⟨rfl, by rw [dec_V (fun a b h => by cases h; rfl)]; exact p.okSame S Rep.bl⟩
    | _ => exact ne_deep hu I rx ry S r1 r2 p
  | str i =>
    cases w2 with
    | str j =>
      have e1 := r1.str_inv; have e2 := r2.str_inv
      subst e1 e2
      exact op_ne pins s σ H _ _ u1 u2 Q I rx ry ⟨rfl, by rw [dec_V (fun a b h => by cases h; rfl)]; exact p.okSame S Rep.bl⟩
    | _ => exact ne_deep hu I rx ry S r1 r2 p
  | bl i =>
    cases w2 with
    | bl j =>
      have e1 := r1.bl_inv; have e2 := r2.bl_inv
      subst e1 e2
      exact op_ne pins s σ H _ _ u1 u2 Q I rx ry ⟨rfl, by rw [dec_V (fun a b h => by cases h; rfl)]; exact p.okSame S Rep.bl⟩
    | _ => exact ne_deep hu I rx ry S r1 r2 p
  | _ => exact ne_deep hu I rx ry S r1 r2 (by cases w2 <;> exact p)
theorem quiet_eq : ∀ x y st, Quiet (vEq x y st) := by
  intro x y st ex st' h
  unfold vEq at h
  repeat (first | (split at h) | cases h)
theorem quiet_ne : ∀ x y st, Quiet (vNe x y st) := by
  intro x y st ex st' h
  unfold vNe at h
  repeat (first | (split at h) | cases h)
end

/-! ### functions -/
@[reducible] def bLen : List Val → Store → R Val
  | [.tup xs], st => .ok (.int xs.length) st
  | [.str z], st => if z.length ≤ sizeLine then .ok (.int z.length) st else .bad
  | [.ref n], st => match seqAt st n with
    | some xs => .ok (.int xs.length) st
    | none => .bad
  | _, _ => .bad
@[reducible] def bMax2 : List Val → Store → R Val
  | [.int i, .int j], st => .ok (.int (max i j)) st
  | _, _ => .bad
@[reducible] def bMin2 : List Val → Store → R Val
  | [.int i, .int j], st => .ok (.int (min i j)) st
  | _, _ => .bad
@[reducible] def bIntB : List Val → Store → R Val
  | [.int i], st => .ok (.int i) st
  | [.bl k], st => .ok (.int (if k then 1 else 0)) st
  | _, _ => .bad
/-- of one list of ints -/
@[reducible] def ofInts (f : List Int → Store → R Val) : List Val → Store → R Val
  | [.ref n], st => match seqAt st n with
    | some xs => match asInts xs with
      | some ns => f ns st
      | none => .bad
    | none => .bad
  | _, _ => .bad
@[reducible] def ofBools (f : List Bool → Store → R Val) : List Val → Store → R Val
  | [.ref n], st => match seqAt st n with
    | some xs => match asBools xs with
      | some ns => f ns st
      | none => .bad
    | none => .bad
  | _, _ => .bad
@[reducible] def bSum : List Val → Store → R Val := ofInts fun ns st => .ok (.int ns.sum) st
def maxI : List Int → Int
  | [] => 0
  | [x] => x
  | x :: r => max x (maxI r)
theorem maxI_spec : ∀ {ns : List Int}, ns ≠ [] → maxI ns ∈ ns ∧ ∀ y ∈ ns, y ≤ maxI ns
  | [x], _ => ⟨by simp [maxI], fun y hy => by simp at hy; subst hy; simp [maxI]⟩
  | x :: z :: r, _ => by
    obtain ⟨h1, h2⟩ := maxI_spec (ns := z :: r) (by simp)
    have e : maxI (x :: z :: r) = max x (maxI (z :: r)) := rfl
    refine ⟨?_, fun y hy => ?_⟩
    · rw [e]
      by_cases q : x ≤ maxI (z :: r)
      · rw [Int.max_eq_right q]; exact List.mem_cons_of_mem _ h1
      · rw [Int.max_eq_left (by omega)]; exact List.mem_cons_self
    · rw [e]
      rcases List.mem_cons.mp hy with q | q
      · subst q; omega
      · have := h2 y q; omega
@[reducible] def bMax1 : List Val → Store → R Val := ofInts fun ns st => if ns = [] then .bad else .ok (.int (maxI ns)) st
@[reducible] def bAny : List Val → Store → R Val := ofBools fun ns st => .ok (.bl (ns.any id)) st
@[reducible] def bAll : List Val → Store → R Val := ofBools fun ns st => .ok (.bl (ns.all id)) st
@[reducible] def bList : List Val → Store → R Val
  | [.tup xs], st => .ok (.ref st.length) (st ++ [.lst xs])
  | [.ref n], st => match seqAt st n with
    | some xs => .ok (.ref st.length) (st ++ [.lst xs])
    | none => .bad
  | _, _ => .bad
@[reducible] def bTuple : List Val → Store → R Val
  | [.tup xs], st => .ok (.tup xs) st
  | [.ref n], st => match seqAt st n with
    | some xs => .ok (.tup xs) st
    | none => .bad
  | _, _ => .bad
section
variable {X : Cx}
theorem mc_len : MC X (.builtin "len") bLen := by
  rintro pins s σ H xs us Q I rs ⟨ι, st, ws, S, rr, p⟩
  unfold bLen at p
  split at p
  · rename_i ys
    obtain ⟨v, e, r⟩ := rr.one
    obtain ⟨a, vs, e2, ha, r2⟩ := r.tup_inv
    subst e e2
    exact call_len pins s σ H _ us Q I rs ⟨_, vs.length, rfl, .inr ⟨vs, SqT.of ha, rfl⟩, by rw [← r2.length]; exact p.okSame S Rep.int⟩
  · rename_i z
    obtain ⟨v, e, r⟩ := rr.one
    have e2 := r.str_inv
    subst e e2
    split at p
    · rename_i hz
      exact call_len pins s σ H _ us Q I rs ⟨_, z.length, rfl, ⟨hz, rfl⟩, p.okSame S Rep.int⟩
    · exact p.elim
  · rename_i n
    obtain ⟨v, e, r⟩ := rr.one
    obtain ⟨a, e2, ha⟩ := r.ref_inv
    subst e e2
    cases es : seqAt st n with
    | none => rw [es] at p; exact p.elim
    | some ys =>
      rw [es] at p
      obtain ⟨vs, hl, r2⟩ := S.seqL es ha
      exact call_len pins s σ H _ us Q I rs ⟨_, vs.length, rfl, .inl ⟨vs, hl, rfl⟩, by rw [← r2.length]; exact p.okSame S Rep.int⟩
  · exact p.elim
theorem mc_max2 (hc : X.calm = true) : MC X (.builtin "max") bMax2 := by
  rintro pins s σ H xs us Q I rs ⟨ι, st, ws, S, rr, p⟩
  unfold bMax2 at p
  split at p
  · rename_i i j
    obtain ⟨v, z, e, r1, r2⟩ := rr.two
    have e1 := r1.int_inv; have e2 := r2.int_inv
    subst e e1 e2
    refine call_max2 hc pins s σ H _ us Q I rs ⟨i, j, rfl, ?_⟩
    have : (if j > i then j else i) = max i j := by
      by_cases h : j > i
      · rw [if_pos h, Int.max_eq_right (by omega)]
      · rw [if_neg h, Int.max_eq_left (by omega)]
    rw [this]
    exact p.okSame S Rep.int
  · exact p.elim
theorem mc_min2 (hc : X.calm = true) : MC X (.builtin "min") bMin2 := by
  rintro pins s σ H xs us Q I rs ⟨ι, st, ws, S, rr, p⟩
  unfold bMin2 at p
  split at p
  · rename_i i j
    obtain ⟨v, z, e, r1, r2⟩ := rr.two
    have e1 := r1.int_inv; have e2 := r2.int_inv
    subst e e1 e2
    refine call_min2 hc pins s σ H _ us Q I rs ⟨i, j, rfl, ?_⟩
    have : (if j < i then j else i) = min i j := by
      by_cases h : j < i
      · rw [if_pos h, Int.min_eq_right (by omega)]
      · rw [if_neg h, Int.min_eq_left (by omega)]
    rw [this]
    exact p.okSame S Rep.int
  · exact p.elim
theorem mc_intB : MC X (.type "int") bIntB := by
  rintro pins s σ H xs us Q I rs ⟨ι, st, ws, S, rr, p⟩
  unfold bIntB at p
  split at p
  · rename_i i
    obtain ⟨v, e, r⟩ := rr.one
    have e2 := r.int_inv
    subst e e2
    exact call_int1 pins s σ H _ us Q I rs (.inl ⟨i, rfl, p.okSame S Rep.int⟩)
  · rename_i i
    obtain ⟨v, e, r⟩ := rr.one
    have e2 := r.bl_inv
    subst e e2
    exact call_int1 pins s σ H _ us Q I rs (.inr ⟨i, rfl, p.okSame S Rep.int⟩)
  · exact p.elim
theorem ofInts_inv {f : List Int → Store → R Val} {K : PySem.W.Frag} {mg : Str → Option Value} {ι : List Addr} {st : Store} {H : Hp} {Q : VK} {E : Value → Option Addr → Hp → Prop} {ws : List Val} {vs : List V} (S : Sim K mg ι st H) (rr : Reps mg ι H ws vs) (p : Post K mg (rel1 mg) ι H Q E (ofInts f ws st)) :
    ∃ a ns, vs = [.ref a] ∧ SqL K H a (ns.map V.int) ∧ Post K mg (rel1 mg) ι H Q E (f ns st) := by
  unfold ofInts at p
  split at p
  · rename_i n
    obtain ⟨v, e, r⟩ := rr.one
    obtain ⟨a, e2, ha⟩ := r.ref_inv
    subst e e2
    cases es : seqAt st n with
    | none => rw [es] at p; exact p.elim
    | some ys =>
      rw [es] at p
      dsimp only at p
      cases ei : asInts ys with
      | none => rw [ei] at p; exact p.elim
      | some ns =>
        rw [ei] at p
        obtain ⟨us, hl, r2⟩ := S.seqL es ha
        rw [asInts_some ei] at r2
        rw [r2.ints] at hl
        exact ⟨a, ns, rfl, hl, p⟩
  · exact p.elim
theorem ofBools_inv {f : List Bool → Store → R Val} {K : PySem.W.Frag} {mg : Str → Option Value} {ι : List Addr} {st : Store} {H : Hp} {Q : VK} {E : Value → Option Addr → Hp → Prop} {ws : List Val} {vs : List V} (S : Sim K mg ι st H) (rr : Reps mg ι H ws vs) (p : Post K mg (rel1 mg) ι H Q E (ofBools f ws st)) :
    ∃ a ns, vs = [.ref a] ∧ SqL K H a (ns.map V.bl) ∧ Post K mg (rel1 mg) ι H Q E (f ns st) := by
  unfold ofBools at p
  split at p
  · rename_i n
    obtain ⟨v, e, r⟩ := rr.one
    obtain ⟨a, e2, ha⟩ := r.ref_inv
    subst e e2
    cases es : seqAt st n with
    | none => rw [es] at p; exact p.elim
    | some ys =>
      rw [es] at p
      dsimp only at p
      cases ei : asBools ys with
      | none => rw [ei] at p; exact p.elim
      | some ns =>
        rw [ei] at p
        obtain ⟨us, hl, r2⟩ := S.seqL es ha
        rw [asBools_some ei] at r2
        rw [r2.bools] at hl
        exact ⟨a, ns, rfl, hl, p⟩
  · exact p.elim
theorem mc_sum (hc : X.calm = true) : MC X (.builtin "sum") bSum := by
  rintro pins s σ H xs us Q I rs ⟨ι, st, ws, S, rr, p⟩
  obtain ⟨a, ns, e, hl, p⟩ := ofInts_inv S rr p
  exact cr_sum hc pins s σ H _ us Q I rs ⟨a, ns, e, hl, p.okSame S Rep.int⟩
theorem mc_max1 (hc : X.calm = true) : MC X (.builtin "max") bMax1 := by
  rintro pins s σ H xs us Q I rs ⟨ι, st, ws, S, rr, p⟩
  obtain ⟨a, ns, e, hl, p⟩ := ofInts_inv S rr p
  split at p
  · exact p.elim
  · rename_i hne
    refine cr_max hc pins s σ H _ us Q I rs ⟨a, ns, e, hl, by cases ns with | nil => exact absurd rfl hne | cons x r => simp, fun m hm hle => ?_⟩
    obtain ⟨h1, h2⟩ := maxI_spec hne
    have : m = maxI ns := by have := h2 m hm; have := hle _ h1; omega
    rw [this]
    exact p.okSame S Rep.int
theorem mc_any (hc : X.calm = true) : MC X (.builtin "any") bAny := by
  rintro pins s σ H xs us Q I rs ⟨ι, st, ws, S, rr, p⟩
  obtain ⟨a, ns, e, hl, p⟩ := ofBools_inv S rr p
  exact cr_any hc pins s σ H _ us Q I rs ⟨a, ns, e, hl, p.okSame S Rep.bl⟩
theorem mc_all (hc : X.calm = true) : MC X (.builtin "all") bAll := by
  rintro pins s σ H xs us Q I rs ⟨ι, st, ws, S, rr, p⟩
  obtain ⟨a, ns, e, hl, p⟩ := ofBools_inv S rr p
  exact cr_all hc pins s σ H _ us Q I rs ⟨a, ns, e, hl, p.okSame S Rep.bl⟩
theorem mc_list : MC X (.type "list") bList := by
  rintro pins s σ H xs us Q I rs ⟨ι, st, ws, S, rr, p⟩
  unfold bList at p
  split at p
  · rename_i ys
    obtain ⟨v, e, r⟩ := rr.one
    obtain ⟨a, vs, e2, ha, r2⟩ := r.tup_inv
    subst e e2
    exact call_list_of pins s σ H _ us Q I rs ⟨a, vs, rfl, .inr (SqT.of ha), fun l hl => p.newLst S r2 hl⟩
  · rename_i n
    obtain ⟨v, e, r⟩ := rr.one
    obtain ⟨a, e2, ha⟩ := r.ref_inv
    subst e e2
    cases es : seqAt st n with
    | none => rw [es] at p; exact p.elim
    | some ys =>
      rw [es] at p
      obtain ⟨vs, hl, r2⟩ := S.seqL es ha
      exact call_list_of pins s σ H _ us Q I rs ⟨a, vs, rfl, .inl hl, fun l hl => p.newLst S r2 hl⟩
  · exact p.elim
theorem mc_tuple : MC X (.type "tuple") bTuple := by
  rintro pins s σ H xs us Q I rs ⟨ι, st, ws, S, rr, p⟩
  unfold bTuple at p
  split at p
  · rename_i ys
    obtain ⟨v, e, r⟩ := rr.one
    obtain ⟨a, vs, e2, ha, r2⟩ := r.tup_inv
    subst e e2
    exact call_tuple_of pins s σ H _ us Q I rs ⟨a, vs, rfl, .inr ⟨SqT.of ha, p.okSame S (Rep.tup ha r2)⟩⟩
  · rename_i n
    obtain ⟨v, e, r⟩ := rr.one
    obtain ⟨a, e2, ha⟩ := r.ref_inv
    subst e e2
    cases es : seqAt st n with
    | none => rw [es] at p; exact p.elim
    | some ys =>
      rw [es] at p
      obtain ⟨vs, hl, r2⟩ := S.seqL es ha
      exact call_tuple_of pins s σ H _ us Q I rs ⟨a, vs, rfl, .inl ⟨hl, fun l hl => p.newTup S r2 hl⟩⟩
  · exact p.elim
theorem quiet_len : ∀ xs st, Quiet (bLen xs st) := by
  intro x st ex st' h
  unfold bLen at h
  repeat (first | (split at h) | cases h)
theorem quiet_max2 : ∀ xs st, Quiet (bMax2 xs st) := by
  intro x st ex st' h
  unfold bMax2 at h
  repeat (first | (split at h) | cases h)
theorem quiet_min2 : ∀ xs st, Quiet (bMin2 xs st) := by
  intro x st ex st' h
  unfold bMin2 at h
  repeat (first | (split at h) | cases h)
theorem quiet_intB : ∀ xs st, Quiet (bIntB xs st) := by
  intro x st ex st' h
  unfold bIntB at h
  repeat (first | (split at h) | cases h)
theorem quiet_ofInts {f : List Int → Store → R Val} (hf : ∀ ns st, Quiet (f ns st)) : ∀ xs st, Quiet (ofInts f xs st) := by
  intro x st ex st' h
  unfold ofInts at h
  repeat (first | exact hf _ _ _ _ h | (split at h) | cases h)
theorem quiet_ofBools {f : List Bool → Store → R Val} (hf : ∀ ns st, Quiet (f ns st)) : ∀ xs st, Quiet (ofBools f xs st) := by
  intro x st ex st' h
  unfold ofBools at h
  repeat (first | exact hf _ _ _ _ h | (split at h) | cases h)
theorem quiet_sum : ∀ xs st, Quiet (bSum xs st) := quiet_ofInts fun ns st x s h => by cases h
theorem quiet_max1 : ∀ xs st, Quiet (bMax1 xs st) := quiet_ofInts fun ns st x s h => by split at h <;> cases h
theorem quiet_any : ∀ xs st, Quiet (bAny xs st) := quiet_ofBools fun ns st x s h => by cases h
theorem quiet_all : ∀ xs st, Quiet (bAll xs st) := quiet_ofBools fun ns st x s h => by cases h
theorem quiet_list : ∀ xs st, Quiet (bList xs st) := by
  intro x st ex st' h
  unfold bList at h
  repeat (first | (split at h) | cases h)
theorem quiet_tuple : ∀ xs st, Quiet (bTuple xs st) := by
  intro x st ex st' h
  unfold bTuple at h
  repeat (first | (split at h) | cases h)
end
end Ab

set_option Elab.async false
set_option linter.all false
set_option maxRecDepth 100000
/-! Ab: methods of built-in types, stores by place, what else is walked. -/
namespace Ab
open PySem PySem.Spec L2

/-! ### methods of built-in types -/
def rM (K : PySem.W.Frag) (mg : Str → Option Value) (g : Val → List Val → Store → R Val) : V → List V → Hp → VK → Prop := fun x vs H Q =>
  ∃ ι st w ws, Sim K mg ι st H ∧ Rep mg ι H w x ∧ Reps mg ι H ws vs ∧ Post K mg (rel1 mg) ι H Q (fun _ _ _ => False) (g w ws st)
@[reducible] def tyOk (T : String) : Val → Store → Bool
  | .str _, _ => decide (T = "str")
  | .ref n, st => match st[n]? with
    | some (.lst _) => decide (T = "list")
    | some (.frz _) => decide (T = "list")
    | some (.dct _) => decide (T = "dict")
    | _ => false
  | _, _ => false
theorem tyOk_tyV {K : PySem.W.Frag} {mg : Str → Option Value} {ι : List Addr} {st : Store} {H : Hp} (S : Sim K mg ι st H) {T : String} {w : Val} {v : V} (r : Rep mg ι H w v) (h : tyOk T w st = true) : tyV K T v H := by
  cases w with
  | str z =>
    have e := r.str_inv
    subst e
    show T = "str"
    exact of_decide_eq_true h
  | ref n =>
    obtain ⟨a, e, ha⟩ := r.ref_inv
    subst e
    dsimp only [tyOk] at h
    split at h
    · rename_i xs ec
      obtain ⟨vs, h1, _⟩ := S.at ec ha
      exact .inl ⟨of_decide_eq_true h, vs, SqL.of h1⟩
    · rename_i xs ec
      obtain ⟨vs, h1, _⟩ := (S.at ec ha).seq
      exact .inl ⟨of_decide_eq_true h, vs, h1⟩
    · rename_i xs ec
      obtain ⟨vs, h1, _⟩ := S.at ec ha
      exact .inr (.inr (.inl ⟨of_decide_eq_true h, .inl ⟨vs, h1⟩⟩))
    · cases h
  | _ => cases h
@[reducible] def mBM (T : String) (g : Val → List Val → Store → R Val) (mo : ME) (t : MA) : ME := fun ρ st => (mo ρ st).bind fun x st1 => if tyOk T x st1 = true then (t ρ st1).bind fun ws st2 => g x ws st2 else .bad
section
variable {X : Cx} {o e : Expr} {es : List Expr} {mo : ME} {t : MA} {name : Str} {apos cpos : Pos} {T id : String} {g : Val → List Val → Store → R Val}
theorem je_bm (pa : PlainAttrs T) (slot : Slot T name id) (hty : typeOf (.builtin id) = pure (.type "method_descriptor")) (hm : MtR X id (rM X.K X.mg g)) (hq : ∀ x ws st, Quiet (g x ws st)) (ho : JE X o mo) (ha : JA X (e :: es) t)
    (hbase : attributeBase o name X.env (eval o X.env) = eval o X.env := by rfl)
    (hfew : ((backTo cpos (starEach (e :: es) X.env)).all (fun x => !x.1) && (backToKw cpos (keywordEach [] X.env)).all (fun x => x.1.isSome)
      && decide ((e :: es).length + ([] : List Keyword).length + (if ([] : List Keyword).isEmpty then 0 else 1) < 30)) = true := by rfl)
    (hline : (apos.endLine == cpos.line) = true := by rfl) (hs : starEach (e :: es) X.env = (false, eval e X.env) :: starEach es X.env := by rfl) (hplain : (backTo cpos (starEach es X.env)).any (·.1) = false := by rfl) :
    JE X (.Call (.Attribute o name apos) (e :: es) [] cpos) (mBM T g mo t) := fun W tk => by
  refine PE.weak (pe_bm pa slot hty hm (ho W tk) (ha W tk) hbase hfew hline hs hplain) fun σ H Q ⟨ι, ρ, st, S, sl, p⟩ => ?_
  refine ⟨ι, ρ, st, S, sl, Post.bind p fun w st1 ι1 H1 x l1 S1 r1 p1 => ?_⟩
  split at p1
  · rename_i hT
    refine ⟨tyOk_tyV S1 r1 hT, ι1, ρ, st1, S1, sl.later l1, Post.bind p1 fun ws st2 ι2 H2 vs l2 S2 r2 p2 => ?_⟩
    exact ⟨ι2, st2, w, ws, S2, Rep.later l2 r1, r2, noExc (hq _ _ _) p2⟩
  · exact p1.elim
theorem je_bm0 (pa : PlainAttrs T) (slot : Slot T name id) (hty : typeOf (.builtin id) = pure (.type "method_descriptor")) (hm : MtR X id (rM X.K X.mg g)) (hq : ∀ x ws st, Quiet (g x ws st)) (ho : JE X o mo)
    (hbase : attributeBase o name X.env (eval o X.env) = eval o X.env := by rfl) (hline : (apos.endLine == cpos.line) = true := by rfl) :
    JE X (.Call (.Attribute o name apos) [] [] cpos) (mBM T g mo aNil) := fun W tk => by
  refine PE.weak (pe_bm0 pa slot hty hm (ho W tk) hbase hline) fun σ H Q ⟨ι, ρ, st, S, sl, p⟩ => ?_
  refine ⟨ι, ρ, st, S, sl, Post.bind p fun w st1 ι1 H1 x l1 S1 r1 p1 => ?_⟩
  split at p1
  · rename_i hT
    exact ⟨tyOk_tyV S1 r1 hT, ι1, st1, w, [], S1, r1, Reps.nil, noExc (hq _ _ _) p1⟩
  · exact p1.elim
end
/-- a list is written -/
theorem Post.setLst {K : PySem.W.Frag} {mg : Str → Option Value} {ι : List Addr} {st : Store} {H : Hp} (S : Sim K mg ι st H) {n : Nat} {xs ys : List Val} {vs us : List V} {a : Addr} (h : st[n]? = some (.lst xs)) (ha : ι[n]? = some a) (hH : H a = some (.lst vs)) (r : Reps mg ι H ys us)
    {Q : V → Hp → Prop} {E : Value → Option Addr → Hp → Prop} {w : Val} {v : V} (rw_ : Rep mg ι H w v) (p : Post K mg (rel1 mg) ι H Q E (.ok w (st.set n (.lst ys)))) : Q v (upd H a (.lst us)) := by
  have l : Later ι H ι (upd H a (.lst us)) := ⟨⟨[], by simp⟩, fun b xs e => by rw [upd_ne fun q => by subst q; rw [hH] at e; cases e]; exact e, fun b ob ks e => by rw [upd_ne fun q => by subst q; rw [hH] at e; cases e]; exact e⟩
  obtain ⟨S', l'⟩ := S.write (c' := .lst ys) (o' := .lst us) h ha rfl rfl hH (fun _ e => by cases e) (fun _ _ e => by cases e) ⟨us, upd_same, r.later l⟩
  exact p ι _ v l' S' (Rep.later l' rw_)
@[reducible] def vAppend : Val → List Val → Store → R Val
  | .ref n, [y], st => match st[n]? with
    | some (.lst xs) => if xs.length < sizeLine then .ok .non (st.set n (.lst (xs ++ [y]))) else .bad
    | _ => .bad
  | _, _, _ => .bad
@[reducible] def vPop : Val → List Val → Store → R Val
  | .ref n, [], st => match st[n]? with
    | some (.lst xs) => match xs[xs.length - 1]? with
      | some y => .ok y (st.set n (.lst xs.dropLast))
      | none => .bad
    | _ => .bad
  | _, _, _ => .bad
@[reducible] def vReverse : Val → List Val → Store → R Val
  | .ref n, [], st => match st[n]? with
    | some (.lst xs) => .ok .non (st.set n (.lst xs.reverse))
    | _ => .bad
  | _, _, _ => .bad
section
variable {X : Cx}
theorem mt_append' : MtR X "list.append" (rM X.K X.mg vAppend) := by
  rintro pins s σ H x xs v us Q I rx rs ⟨ι, st, w, ws, S, r1, r2, p⟩
  unfold vAppend at p
  split at p
  · rename_i n y
    obtain ⟨a, e, ha⟩ := r1.ref_inv
    obtain ⟨z, e2, hz⟩ := r2.one
    subst e e2
    split at p
    · rename_i ys ec
      obtain ⟨vs, h1, rr⟩ := S.at ec ha
      split at p
      · rename_i hl
        exact mt_append pins s σ H _ _ v us Q I rx rs ⟨a, vs, z, rfl, rfl, h1, by rw [← rr.length]; exact hl, Post.setLst S ec ha h1 (rr.append (Reps.cons hz Reps.nil)) Rep.non p⟩
      · exact p.elim
    · exact p.elim
  · exact p.elim
theorem mt_pop' : MtR X "list.pop" (rM X.K X.mg vPop) := by
  rintro pins s σ H x xs v us Q I rx rs ⟨ι, st, w, ws, S, r1, r2, p⟩
  unfold vPop at p
  split at p
  · rename_i n
    obtain ⟨a, e, ha⟩ := r1.ref_inv
    have e2 := r2.of_nil
    subst e e2
    split at p
    · rename_i ys ec
      obtain ⟨vs, h1, rr⟩ := S.at ec ha
      split at p
      · rename_i y ey
        obtain ⟨z, ez, rz⟩ := rr.get ey
        rw [rr.length] at ez
        refine mt_pop pins s σ H _ _ v us Q I rx rs ⟨a, vs, z, rfl, rfl, h1, ez, Post.setLst S ec ha h1 ?_ rz p⟩
        rw [List.dropLast_eq_take, List.dropLast_eq_take, rr.length]
        exact rr.take _
      · exact p.elim
    · exact p.elim
  · exact p.elim
theorem mt_reverse' : MtR X "list.reverse" (rM X.K X.mg vReverse) := by
  rintro pins s σ H x xs v us Q I rx rs ⟨ι, st, w, ws, S, r1, r2, p⟩
  unfold vReverse at p
  split at p
  · rename_i n
    obtain ⟨a, e, ha⟩ := r1.ref_inv
    have e2 := r2.of_nil
    subst e e2
    split at p
    · rename_i ys ec
      obtain ⟨vs, h1, rr⟩ := S.at ec ha
      have rev : ∀ {ws : List Val} {vs : List V}, Reps X.mg ι H ws vs → Reps X.mg ι H ws.reverse vs.reverse := by
        intro ws
        induction ws with
        | nil => intro vs h; rw [h.of_nil]; exact Reps.nil
        | cons w ws ih =>
          intro vs h
          obtain ⟨v, r, e, h1, h2⟩ := h.of_cons
          subst e
          rw [List.reverse_cons, List.reverse_cons]
          exact (ih h2).append (Reps.cons h1 Reps.nil)
      exact mt_reverse pins s σ H _ _ v us Q I rx rs ⟨a, vs, rfl, rfl, h1, Post.setLst S ec ha h1 (rev rr) Rep.non p⟩
    · exact p.elim
  · exact p.elim
theorem quiet_append : ∀ x ws st, Quiet (vAppend x ws st) := by
  intro x y st ex st' h
  unfold vAppend at h
  repeat (first | (split at h) | cases h)
theorem quiet_pop : ∀ x ws st, Quiet (vPop x ws st) := by
  intro x y st ex st' h
  unfold vPop at h
  repeat (first | (split at h) | cases h)
theorem quiet_reverse : ∀ x ws st, Quiet (vReverse x ws st) := by
  intro x y st ex st' h
  unfold vReverse at h
  repeat (first | (split at h) | cases h)
variable {o e : Expr} {mo : ME} {t : MA} {apos cpos : Pos} {me : ME}
theorem je_append (ho : JE X o mo) (he : JE X e me) (hbase : attributeBase o "append" X.env (eval o X.env) = eval o X.env := by rfl)
    (hfew : ((backTo cpos (starEach [e] X.env)).all (fun x => !x.1) && (backToKw cpos (keywordEach [] X.env)).all (fun x => x.1.isSome)
      && decide ([e].length + ([] : List Keyword).length + (if ([] : List Keyword).isEmpty then 0 else 1) < 30)) = true := by rfl)
    (hline : (apos.endLine == cpos.line) = true := by rfl) (hs : starEach [e] X.env = (false, eval e X.env) :: starEach [] X.env := by rfl) : JE X (.Call (.Attribute o "append" apos) [e] [] cpos) (mBM "list" vAppend mo (aCons me aNil)) :=
  je_bm PySem.F.plainAttrs_list PySem.F.slot_list_append PySem.F.type_list_append mt_append' quiet_append ho (ja_cons he ja_nil hs) hbase hfew hline hs rfl
theorem je_pop (ho : JE X o mo) (hbase : attributeBase o "pop" X.env (eval o X.env) = eval o X.env := by rfl) (hline : (apos.endLine == cpos.line) = true := by rfl) : JE X (.Call (.Attribute o "pop" apos) [] [] cpos) (mBM "list" vPop mo aNil) :=
  je_bm0 PySem.F.plainAttrs_list PySem.F.slot_list_pop PySem.F.type_list_pop mt_pop' quiet_pop ho hbase hline
theorem je_reverse (ho : JE X o mo) (hbase : attributeBase o "reverse" X.env (eval o X.env) = eval o X.env := by rfl) (hline : (apos.endLine == cpos.line) = true := by rfl) : JE X (.Call (.Attribute o "reverse" apos) [] [] cpos) (mBM "list" vReverse mo aNil) :=
  je_bm0 PySem.F.plainAttrs_list PySem.F.slot_list_reverse PySem.F.type_list_reverse mt_reverse' quiet_reverse ho hbase hline
end

/-! ### xs[i] = e, as a target -/
@[reducible] def gSubL (mo mi : ME) : MG := fun w ρ st => match mo ρ st with
  | .ok x st1 => match mi ρ st1 with
    | .ok i st2 => match x, i with
      | .ref n, .int k => match st2[n]? with
        | some (.lst xs) => match ixN xs.length k with
          | some j => some (ρ, st2.set n (.lst (xs.set j w)))
          | none => none
        | _ => none
      | _, _ => none
    | _ => none
  | _ => none
theorem jg_sub {X : Cx} {o i : Expr} {mo mi : ME} {pos : Pos} (ho : JE X o mo) (hi : JE X i mi)
    (ha : ∀ v, assign (.Subscript o i pos) X.env v = (do
      let ov ← holding [v] (eval o X.env)
      let iv ← holding [v, ov] (eval i X.env)
      standAt pos
      holding [v, ov, iv] (setItem ov iv v)
      release [v, ov, iv] []) := by intro _; rfl) (tk : Takes X W0 := takes0) : JG X (.Subscript o i pos) [] (gSubL mo mi) :=
  PG.weak (pg_sub (ho W0 tk) (hi W0 tk) set_list ha) fun v σ H Q ⟨ι, ρ, st, w, S, sl, r, p⟩ => by
    dsimp only [gSubL] at p
    refine ⟨ι, ρ, st, S, sl, ?_⟩
    cases q1 : mo ρ st with
    | bad => rw [q1] at p; exact p.elim
    | exc x s => rw [q1] at p; exact p.elim
    | ok x st1 =>
      rw [q1] at p
      intro ι1 H1 xv l1 S1 r1
      have sl1 := sl.later l1
      refine ⟨ι1, ρ, st1, S1, sl1, ?_⟩
      dsimp only at p
      cases q2 : mi ρ st1 with
      | bad => rw [q2] at p; exact p.elim
      | exc x s => rw [q2] at p; exact p.elim
      | ok i st2 =>
        rw [q2] at p
        intro ι2 H2 iv l2 S2 r2
        have sl2 := sl1.later l2
        dsimp only at p
        split at p
        · rename_i n k
          obtain ⟨a, e, hA⟩ := r1.ref_inv
          have e2 := r2.int_inv
          subst e e2
          have hA2 := l2.get hA
          split at p
          · rename_i xs ec
            obtain ⟨vs, h1, rr⟩ := S2.at ec hA2
            split at p
            · rename_i j ej
              refine ⟨a, vs, k, j, rfl, rfl, h1, by rw [← rr.length]; exact ej, ?_⟩
              have l3 : Later ι2 H2 ι2 (upd H2 a (.lst (vs.set j v))) := ⟨⟨[], by simp⟩, fun b xs e => by rw [upd_ne fun q => by subst q; rw [h1] at e; cases e]; exact e, fun b ob ks e => by rw [upd_ne fun q => by subst q; rw [h1] at e; cases e]; exact e⟩
              obtain ⟨S3, l3'⟩ := S2.write (c' := .lst (xs.set j w)) (o' := .lst (vs.set j v)) ec hA2 rfl rfl h1 (fun _ e => by cases e) (fun _ _ e => by cases e) ⟨_, upd_same, (Reps.set (Rep.later (l1.trans l2) r) j rr).later l3⟩
              exact p ι2 _ σ ((l1.trans l2).trans l3') S3 (sl2.later l3') (OutS.refl _ _)
            · exact p.elim
          · exact p.elim
        · exact p.elim
@[reducible] def vNeg : Val → Store → R Val
  | .int i, st => .ok (.int (-i)) st
  | _, _ => .bad
theorem je_neg {X : Cx} {e : Expr} {m : ME} {pos : Pos} (h : JE X e m) : JE X (.UnaryOp .USub e pos) (fun ρ st => (m ρ st).bind vNeg) := fun W tk => by
  refine PE.weak (pe_un un_neg (h W tk)) fun σ H Q ⟨ι, ρ, st, S, sl, p⟩ => ?_
  refine ⟨ι, ρ, st, S, sl, Post.bind p fun w st1 ι1 H1 x l1 S1 r1 p1 => ?_⟩
  cases w with
  | int i => exact ⟨i, r1.int_inv, p1.okSame S1 Rep.int⟩
  | _ => exact p1.elim
end Ab

set_option Elab.async false
set_option linter.all false
set_option maxRecDepth 100000
/-! Ab: enumerate and zip over lists and tuples, in any mix. -/
namespace Ab
open PySem PySem.Spec L2

/-- a walk that hands out new tuples, as a turn of the hand layer -/
theorem turn_gen {P : Program} {w : World} {K : PySem.W.Frag} {elts : List Expr} {kk : Nat} {tpos : Pos} {I : Addr} {J : It} (own : List Addr) (Own : Nat → Heap → Prop) (mem : I ∈ own)
    (obj : ∀ i h, Own i h → ∀ b ∈ own, ∃ o, h.get? b = some o ∧ ∀ v, o.data ≠ .cell v)
    (keep : ∀ i h h', Own i h → (∀ b ∈ own, ∀ o, h.get? b = some o → h'.get? b = some o) → Own i h')
    (self : ∀ (A : Around) (i : Nat) (s : Shared) (Q : Value → Shared → Prop) (E : Value → Shared → Prop), Own i s.heap → Q (.ref I) s → wpAny (model P w) A (pyIter (.ref I)) Q E s)
    (item : ∀ (X : Cx), X.prog = P → X.w = w → X.K = K → X.calm = true → ∀ (i : Nat) (pins : List (Addr × Obj)) (s : Shared) (σ : L2.St) (H : Hp), Inv X pins σ H s → Own i s.heap → J.go i H →
      ∃ fp wr n Pt St Mid, WalksT P w X.A I fp wr n Pt St Mid ∧ i < n ∧ St i s.heap ∧ (∀ b ∈ wr, b ∈ own) ∧ (∀ h, St (i + 1) h → Own (i + 1) h) ∧
        ∀ vals, Pt i vals → ∃ xs, Vals xs vals.toList ∧ xs.length ≤ 2 ∧ ∀ T, H T = none → J.yld i H (.ref T) (upd H T (.tup xs)))
    (done : ∀ (X : Cx), X.prog = P → X.w = w → X.K = K → X.calm = true → ∀ (i : Nat) (pins : List (Addr × Obj)) (s : Shared) (σ : L2.St) (H : Hp), Inv X pins σ H s → Own i s.heap → J.stop i H →
      ∀ (E : Value → Shared → Prop) (Q : Option Value → Shared → Prop), (∀ h' tk, (∀ b o, b ∉ own → s.heap.get? b = some o → h'.get? b = some o) → Q none { s with heap := h', toks := tk }) → wpAny (model P w) X.A (pyNext (.ref I)) Q E s) :
    Turn P w K (.Tuple elts kk tpos) J own I Own where
  mem := mem
  obj := obj
  keep := keep
  item := by
    intro X hP hw hK hc i pins s σ H E I hf st hg
    obtain ⟨fp, wr, n, Pt, St, Mid, W, hi, hSt, hwr, hown, hv⟩ := item X hP hw hK hc i pins s σ H I st hg
    subst hP hw hK
    refine W.item i s _ E hi hSt fun T vals h' tk hPt hT hTup hM hk => ?_
    obtain ⟨xs, rv, hl2, hy⟩ := hv vals hPt
    have hap := W.apart i T h' hM
    refine ⟨.ref T, rfl, W.go elts kk tpos i T { s with heap := h', toks := tk } _ E hM fun h'' hSt' hk' => ?_⟩
    have hTn : H T = none := I.hok.fresh hT
    obtain ⟨oT, e1, e2, n', e3⟩ := hTup
    have eT := hk' T oT hap e1
    have new : ObjOk X.prog X.w (upd H T (.tup xs)) h'' T (.tup xs) :=
      ⟨Nat.le_trans hl2 (by decide), vals.toList, rv, ⟨oT, eT, e2, n', by simpa using e3⟩⟩
    have I1 : Inv X pins σ (upd H T (.tup xs)) { s with heap := h'', toks := tk } :=
      I.turnedNew (ch := own) (fun b ob hb q => hk' b ob (fun z => hb (hwr b z)) (hk b ob (fun z => hb (hwr b z)) q)) hf hT new
    refine ⟨.ref T, _, I1, rfl, hy T hTn, hown h'' hSt', fun b hb => ?_⟩
    obtain ⟨o, ho, _⟩ := obj i s.heap st b hb
    rw [upd_ne fun e => by
      have h1 := Heap.lt_size ho
      rw [e] at h1
      exact absurd (Nat.lt_of_lt_of_le h1 hT) (Nat.lt_irrefl _)]
    exact (hf b hb).1
  done := by
    intro X hP hw hK hc i pins s σ H E I hf st hg
    refine done X hP hw hK hc i pins s σ H I st hg E _ fun h' tk hk => ⟨rfl, I.turnedL (ch := own) (fun b o hb q => hk b o hb q) hf⟩
  self := self

/-! ### a source: a list or a tuple -/
def SqB (isT : Bool) (K : PySem.W.Frag) (H : Hp) (a : Addr) (xs : List V) : Prop := if isT = true then SqT K H a xs else SqL K H a xs
def IterB (isT : Bool) (h : Heap) (it a : Addr) (i : Nat) : Prop := if isT = true then h.IsTupleIter it a i else h.IsListIter it a i
def IsB (isT : Bool) (h : Heap) (a : Addr) (its : Array Value) : Prop := if isT = true then h.IsTuple a its else h.IsList a its
def objB (isT : Bool) (a : Addr) : Obj := if isT = true then { cls := .type "tuple_iterator", data := .fields #[.ref a, .int 0 0] } else { cls := .type "list_iterator", data := .fields #[.ref a, .int 0 0] }
theorem drawsB (isT : Bool) {P : Program} {w : World} {A : Around} (hh : A.handled = none) (it a : Addr) (hne : a ≠ it) (its : Array Value) : Draws P w A it [it, a] its.size (fun i v => its[i]? = some v) (fun i h => IterB isT h it a i ∧ IsB isT h a its) := by
  cases isT with
  | true => exact .tuple hh it a hne its
  | false => exact .list hh it a hne its
theorem beginsB (isT : Bool) (a : Addr) (its : Array Value) : Begins (.ref a) (objB isT a) fun h => IsB isT h a its := by
  cases isT with
  | true => exact begins_tuple a its
  | false => exact begins_list a its
theorem IterB.new {isT : Bool} {h : Heap} {it a : Addr} (e : h.get? it = some (objB isT a)) : IterB isT h it a 0 := by
  cases isT with
  | true => exact ⟨_, e, rfl, rfl⟩
  | false => exact ⟨_, e, rfl, rfl⟩
theorem IterB.at {isT : Bool} {h h' : Heap} {it a : Addr} {i : Nat} (x : IterB isT h it a i) (k : ∀ o, h.get? it = some o → h'.get? it = some o) : IterB isT h' it a i := by
  cases isT with
  | true => exact Heap.IsTupleIter.at (show h.IsTupleIter it a i from x) k
  | false => exact Heap.IsListIter.at (show h.IsListIter it a i from x) k
theorem IterB.obj {isT : Bool} {h : Heap} {it a : Addr} {i : Nat} (x : IterB isT h it a i) : ∃ o, h.get? it = some o ∧ ∀ v, o.data ≠ .cell v := by
  cases isT with
  | true =>
    obtain ⟨o, e, c, d⟩ := (show h.IsTupleIter it a i from x)
    exact ⟨o, e, fun v z => by rw [d] at z; cases z⟩
  | false =>
    obtain ⟨o, e, c, d⟩ := (show h.IsListIter it a i from x)
    exact ⟨o, e, fun v z => by rw [d] at z; cases z⟩
theorem Inv.seqB {X : Cx} {pins : List (Addr × Obj)} {σ : L2.St} {H : Hp} {s : Shared} {isT : Bool} {a : Addr} {xs : List V} (I : Inv X pins σ H s) (h : SqB isT X.K H a xs) : ∃ its : List Value, Vals xs its ∧ IsB isT s.heap a its.toArray ∧ a < s.heap.objs.size := by
  cases isT with
  | true =>
    obtain ⟨its, rv, p, _⟩ := I.tuple (show SqT X.K H a xs from h)
    obtain ⟨o, ho, _⟩ := id p
    exact ⟨its, rv, p, Heap.lt_size ho⟩
  | false =>
    obtain ⟨its, rv, p, _⟩ := I.list (show SqL X.K H a xs from h)
    exact ⟨its, rv, p.isList, p.lt⟩
theorem Inv.seqB_inj {X : Cx} {pins : List (Addr × Obj)} {σ : L2.St} {H : Hp} {s : Shared} {isT : Bool} {a : Addr} {xs ys : List V} (I : Inv X pins σ H s) (h : SqB isT X.K H a xs) (h' : SqB isT X.K H a ys) : xs = ys := by
  cases isT with
  | true => exact I.tuple_inj (show SqT X.K H a xs from h) h'
  | false => exact I.list_inj (show SqL X.K H a xs from h) h'

/-! ### enumerate -/
def IteB (isT : Bool) (K : PySem.W.Frag) (a : Addr) : It :=
  ⟨fun i H => ∃ (xs : List V) (x : V), SqB isT K H a xs ∧ xs[i]? = some x, fun i H v H' => ∃ T x, v = .ref T ∧ H T = none ∧ H' = upd H T (.tup [.int (i : Nat), x]) ∧ ∀ xs, SqB isT K H a xs → xs[i]? = some x, fun i H => ∃ xs : List V, SqB isT K H a xs ∧ i = xs.length⟩
theorem turn_enumB (isT : Bool) {P : Program} {w : World} {K : PySem.W.Frag} {elts : List Expr} {kk : Nat} {tpos : Pos} (a e it : Addr) :
    Turn P w K (.Tuple elts kk tpos) (IteB isT K a) [e, it] e (fun i h => (∃ old, IsEnum h e it ((i : Nat) : Int) old) ∧ IterB isT h it a i ∧ e ≠ it ∧ a ≠ it ∧ a ≠ e) := by
  refine turn_gen [e, it] _ (by simp) (fun i h st b hb => ?_) (fun i h h' st k => ?_) (fun A i s Q E st h => let ⟨⟨_, he⟩, _⟩ := st; wpAny_pyIter_enum he h) ?_ ?_
  · obtain ⟨⟨old, he⟩, hit, _⟩ := st
    have e' : b = e ∨ b = it := by simpa using hb
    rcases e' with z | z
    · rw [z]; exact ⟨_, he, fun v q => nomatch q⟩
    · rw [z]; exact hit.obj
  · obtain ⟨⟨old, he⟩, hi, hne⟩ := st
    exact ⟨⟨old, k e (by simp) _ he⟩, hi.at fun o q => k it (by simp) o q, hne⟩
  · intro X hP hw hK hc i pins s σ H I st hg
    subst hP hw hK
    obtain ⟨⟨old, he⟩, hit, hne, hai, hae⟩ := st
    obtain ⟨xs, x, hq, hx⟩ := hg
    obtain ⟨its, rv, p, hlt⟩ := Inv.seqB I hq
    have D := drawsB isT (P := X.prog) (w := X.w) (A := X.A.in1) (I.ok.hd hc) it a hai its.toArray
    refine ⟨_, _, _, _, _, _, WalksT.enumerateD D e hne (by simp [hne, Ne.symm hae]) (by simp), ?_, ⟨⟨old, he⟩, hit, p⟩, fun b hb => hb, fun h z => ⟨z.1, z.2.1, hne, hai, hae⟩, ?_⟩
    · rw [List.size_toArray, ← rv.length]; exact (List.getElem?_eq_some_iff.mp hx).1
    · rintro vals ⟨t, u, hu, rfl⟩
      obtain ⟨u', hu', ru⟩ := rv.get hx
      have : u = u' := by simpa [hu'] using hu.symm
      subst this
      exact ⟨[.int i, x], .cons ⟨_, rfl⟩ (.cons ru .nil), by simp, fun T hT => ⟨T, x, rfl, hT, rfl, fun ys hy => by rw [Inv.seqB_inj I hy hq]; exact hx⟩⟩
  · intro X hP hw hK hc i pins s σ H I st hg E Q hQ
    subst hP hw hK
    obtain ⟨⟨old, he⟩, hit, hne, hai, hae⟩ := st
    obtain ⟨xs, hq, hx⟩ := hg
    obtain ⟨its, rv, p, hlt⟩ := Inv.seqB I hq
    have D := drawsB isT (P := X.prog) (w := X.w) (A := X.A.in1) (I.ok.hd hc) it a hai its.toArray
    have hl : its.toArray.size = i := by rw [List.size_toArray, ← rv.length, hx]
    have W := WalksT.enumerateD D e hne (by simp [hne, Ne.symm hae]) (by simp)
    refine W.done s Q E (by rw [hl]; exact ⟨⟨old, he⟩, hit, p⟩) fun h' tk hk => hQ h' tk hk
open Sem (wp) in
set_option maxHeartbeats 1000000 in
theorem meets_enumerate_new1 {v : Value} {o : Obj} {H : Heap → Prop} (B : Begins v o H) :
    Meets (Builtin.«enumerate.__new__» ⟨[.type "enumerate", v], []⟩) (fun _ R s => H s.heap ∧
      R (.ok (.ret (.ref (s.heap.push o).objs.size))) { s with heap := (s.heap.push o).push { cls := .type "enumerate", data := .fields #[.none, .bool false, .ref s.heap.objs.size, rawInt 0, .none, .none] } }) :=
  .of_wp fun prog w A R s h => by
    obtain ⟨hp, g, d, tk, os⟩ := s; obtain ⟨h1, h⟩ := h
    have hsub := sub_enumerate
    have q1 : ∀ {A' : Around} {E : Value → Shared → Prop} {Q : Value → Shared → Prop}, Q (.ref hp.objs.size) ⟨hp.push o, g, d, tk, os⟩ → wpAny (model prog w) A' (pyIter v) Q E ⟨hp, g, d, tk, os⟩ :=
      fun q => B.iter prog w _ _ ⟨hp, g, d, tk, os⟩ _ h1 q
    wp_walk using q1
    refine wpAny_stack_any fun st => wpAny_pure ?_
    split
    · rename_i c _ _ _ _ _
      cases (c == Value.type "enumerate")
      · wp_walk using q1
        exact ⟨_, rfl, h⟩
      · wp_walk using q1
        exact ⟨_, rfl, h⟩
    · wp_walk using q1
      exact ⟨_, rfl, h⟩
theorem call_enum1 {P : Program} {w : World} {A : Around} {E : Value → Shared → Prop} {s : Shared} {v : Value} {o : Obj} {H : Heap → Prop} {Q : Value → Shared → Prop} (B : Begins v o H) (h1 : H s.heap)
    (h : ∀ h', IsEnum h' (s.heap.objs.size + 1) s.heap.objs.size 0 .none → h'.get? s.heap.objs.size = some o → (∀ b o, s.heap.get? b = some o → h'.get? b = some o) → Q (.ref (s.heap.objs.size + 1)) { s with heap := h' }) :
    wpAny (model P w) A (call (.type "enumerate") [v]) Q E s := by
  refine callType_new F.called_enumerate (by decide) (F.typeCall_enumerate_1 _) (F.newCall_enumerate_1 _) (fun obj => F.args_object_init_2 obj _) F.entry_enumerate_new
    (meets_enumerate_new1 B) ⟨h1, ?_⟩
  have hz : (s.heap.push o).objs.size = s.heap.objs.size + 1 := Heap.size_push ..
  show _ ∧ _
  rw [hz]
  have he : IsEnum ((s.heap.push o).push { cls := .type "enumerate", data := .fields #[.none, .bool false, .ref s.heap.objs.size, rawInt 0, .none, .none] }) (s.heap.objs.size + 1) s.heap.objs.size 0 .none := by
    have := Heap.get?_push_size (s.heap.push o) (o := { cls := .type "enumerate", data := .fields #[.none, .bool false, .ref s.heap.objs.size, rawInt 0, .none, .none] }) rfl
    rw [hz] at this; exact this
  exact ⟨⟨_, he, rfl⟩, h _ he (Heap.get?_push_of_some _ (Heap.get?_push_size _ B.free)) fun b o x => Heap.get?_push_of_some _ (Heap.get?_push_of_some _ x)⟩
theorem boot_enumerate' : bootBuiltins "enumerate" = some (.type "enumerate") := by decide +kernel
def iEnumB (K : PySem.W.Frag) (ta : TA) : TI := fun σ H R => ta σ H fun vs H1 => ∃ isT a xs, vs = [.ref a] ∧ SqB isT K H1 a xs ∧ R (IteB isT K a) H1
theorem pi_enumB {X : Cx} {e : Expr} {ta : TA} {p pos tpos : Pos} {elts : List Expr} {kk : Nat} (hg : Gl X "enumerate") (hm : X.mg "enumerate" = none) (ha : PA X [e] ta) (hs : starEach [e] X.env = [(false, eval e X.env)] := by rfl) :
    PI X (.Tuple elts kk tpos) (.Call (.Name "enumerate" p) [e] [] pos) (iEnumB X.K ta) := by
  refine ⟨fun pins s σ H R I h => ?_⟩
  refine PyProof.Rows.Call_ (ld_blt I hg hm boot_enumerate' (PyProof.Rows.callWith_type1 (thn (ha.run pos pins s σ H _ I h) fun us s1 ⟨vs, H1, I1, r1, q1⟩ => ?_) hs rfl))
  obtain ⟨isT, a, xs, ex, hq, q⟩ := q1
  subst ex
  cases r1 with
  | cons r rr =>
    cases rr
    cases r
    obtain ⟨its, rv, p', hz⟩ := Inv.seqB I1 hq
    refine call_enum1 (beginsB isT a its.toArray) p' fun h' he hit hk => wpAny_pyIter_enum he ?_
    have I2 : Inv X pins σ H1 { s1 with heap := h' } := I1.kept (t' := s1.toks) hk
    refine ⟨s1.heap.objs.size + 1, [s1.heap.objs.size + 1, s1.heap.objs.size], _, _, H1, rfl, I2, turn_enumB isT a (s1.heap.objs.size + 1) s1.heap.objs.size, ⟨⟨.none, he⟩, .new hit, Nat.succ_ne_self _, Nat.ne_of_lt hz, Nat.ne_of_lt (Nat.lt_succ_of_lt hz)⟩, fun b hb => ?_, q⟩
    have e' : b = s1.heap.objs.size + 1 ∨ b = s1.heap.objs.size := by simpa using hb
    have hle : s1.heap.objs.size ≤ b := by
      rcases e' with z | z
      · rw [z]; exact Nat.le_add_right _ _
      · rw [z]; exact Nat.le_refl _
    exact I1.fpOk hle (I1.hok.fresh hle)

/-! ### zip -/
def ItzB (i1T i2T : Bool) (K : PySem.W.Frag) (a b : Addr) : It :=
  ⟨fun i H => ∃ (xs ys : List V) (x y : V), SqB i1T K H a xs ∧ SqB i2T K H b ys ∧ xs[i]? = some x ∧ ys[i]? = some y,
    fun i H v H' => ∃ T x y, v = .ref T ∧ H T = none ∧ H' = upd H T (.tup [x, y]) ∧ (∀ xs, SqB i1T K H a xs → xs[i]? = some x) ∧ ∀ ys, SqB i2T K H b ys → ys[i]? = some y,
    fun i H => ∃ xs ys : List V, SqB i1T K H a xs ∧ SqB i2T K H b ys ∧ i = min xs.length ys.length⟩
theorem turn_zipB (i1T i2T : Bool) {P : Program} {w : World} {K : PySem.W.Frag} {elts : List Expr} {kk : Nat} {tpos : Pos} {a b z TI TO i1 i2 : Addr} (D : ZipSep2 z TI TO i1 i2 [i1, a] [i2, b]) (hab : a ≠ i1 ∧ b ≠ i2) :
    Turn P w K (.Tuple elts kk tpos) (ItzB i1T i2T K a b) [z, TI, TO, i1, i2] z (fun i h => IsZip h z TI TO .none ∧ IsTupOf2 h TI (.ref i1) (.ref i2) ∧ (∃ x y, IsTupOf2 h TO x y) ∧ IterB i1T h i1 a i ∧ IterB i2T h i2 b i) := by
  have mk : ∀ (X : Cx), X.prog = P → X.w = w → X.calm = true → ∀ {pins : List (Addr × Obj)} {σ : L2.St} {H : Hp} {s : Shared}, Inv X pins σ H s → ∀ (its its2 : Array Value), WalksT P w X.A z (z :: TI :: TO :: ([i1, a] ++ [i2, b])) [z, TO, i1, i2] (min its.size its2.size)
      (fun i vals => ∃ x1 x2, its[i]? = some x1 ∧ its2[i]? = some x2 ∧ vals = #[x1, x2])
      (fun i h => IsZip h z TI TO .none ∧ IsTupOf2 h TI (.ref i1) (.ref i2) ∧ (∃ a1 a2, IsTupOf2 h TO a1 a2) ∧ (IterB i1T h i1 a i ∧ IsB i1T h a its) ∧ (IterB i2T h i2 b i ∧ IsB i2T h b its2))
      (fun i T h => IsZip h z TI TO (rawInt T) ∧ IsTupOf2 h TI (.ref i1) (.ref i2) ∧ (∃ a1 a2, IsTupOf2 h TO a1 a2) ∧ (IterB i1T h i1 a (i + 1) ∧ IsB i1T h a its) ∧ (IterB i2T h i2 b (i + 1) ∧ IsB i2T h b its2) ∧ T ≠ z ∧ T ≠ TO ∧ T ≠ i1 ∧ T ≠ i2) := by
    intro X hP hw hc pins σ H s I its its2
    subst hP hw
    exact WalksT.zipD2 D (drawsB i1T (A := X.A.in1) (I.ok.hd hc) i1 a hab.1 its) (drawsB i2T (A := X.A.in1) (I.ok.hd hc) i2 b hab.2 its2)
  refine turn_gen [z, TI, TO, i1, i2] _ (by simp) (fun i h st c hc => ?_) (fun i h h' st k => ?_) (fun A i s Q E st h => wpAny_pyIter_zip st.1 h) ?_ ?_
  · obtain ⟨hz, hTI, ⟨x, y, hTO⟩, h1, h2⟩ := st
    have e' : c = z ∨ c = TI ∨ c = TO ∨ c = i1 ∨ c = i2 := by simpa using hc
    rcases e' with q | q | q | q | q
    · rw [q]; exact ⟨_, hz, fun v q => nomatch q⟩
    · rw [q]; exact ⟨_, hTI, fun v q => nomatch q⟩
    · rw [q]; exact ⟨_, hTO, fun v q => nomatch q⟩
    · rw [q]; exact h1.obj
    · rw [q]; exact h2.obj
  · obtain ⟨hz, hTI, ⟨x, y, hTO⟩, h1, h2⟩ := st
    exact ⟨k z (by simp) _ hz, k TI (by simp) _ hTI, ⟨x, y, k TO (by simp) _ hTO⟩, h1.at fun o q => k i1 (by simp) o q, h2.at fun o q => k i2 (by simp) o q⟩
  · intro X hP hw hK hc i pins s σ H I st hg
    obtain ⟨hz, hTI, hTO, h1, h2⟩ := st
    obtain ⟨xs, ys, x, y, hqx, hqy, hx, hy⟩ := hg
    subst hK
    obtain ⟨its, rv, p, _⟩ := Inv.seqB I hqx
    obtain ⟨its2, rv2, p2, _⟩ := Inv.seqB I hqy
    refine ⟨_, _, _, _, _, _, mk X hP hw hc I its.toArray its2.toArray, ?_, ⟨hz, hTI, hTO, ⟨h1, p⟩, ⟨h2, p2⟩⟩, fun c hc => ?_, fun h z => ⟨z.1, z.2.1, z.2.2.1, z.2.2.2.1.1, z.2.2.2.2.1⟩, ?_⟩
    · have a1 := (List.getElem?_eq_some_iff.mp hx).1
      have a2 := (List.getElem?_eq_some_iff.mp hy).1
      have b1 := rv.length
      have b2 := rv2.length
      simp only [List.size_toArray]
      omega
    · have e' : c = z ∨ c = TO ∨ c = i1 ∨ c = i2 := by simpa using hc
      rcases e' with q | q | q | q <;> simp [q]
    · rintro vals ⟨u1, u2, hu1, hu2, rfl⟩
      obtain ⟨v1, hv1, r1⟩ := rv.get hx
      obtain ⟨v2, hv2, r2⟩ := rv2.get hy
      have e1 : u1 = v1 := by simpa [hv1] using hu1.symm
      have e2 : u2 = v2 := by simpa [hv2] using hu2.symm
      subst e1 e2
      exact ⟨[x, y], .cons r1 (.cons r2 .nil), by simp, fun T hT => ⟨T, x, y, rfl, hT, rfl, fun l hl => by rw [Inv.seqB_inj I hl hqx]; exact hx, fun l hl => by rw [Inv.seqB_inj I hl hqy]; exact hy⟩⟩
  · intro X hP hw hK hc i pins s σ H I st hg E Q hQ
    obtain ⟨hz, hTI, hTO, h1, h2⟩ := st
    obtain ⟨xs, ys, hqx, hqy, hend⟩ := hg
    subst hK
    obtain ⟨its, rv, p, _⟩ := Inv.seqB I hqx
    obtain ⟨its2, rv2, p2, _⟩ := Inv.seqB I hqy
    have W := mk X hP hw hc I its.toArray its2.toArray
    have hn : min its.toArray.size its2.toArray.size = i := by
      have b1 := rv.length
      have b2 := rv2.length
      simp only [List.size_toArray]
      omega
    refine W.done s Q E (by rw [hn]; exact ⟨hz, hTI, hTO, ⟨h1, p⟩, ⟨h2, p2⟩⟩) fun h' tk hk => hQ h' tk fun c o hc => hk c o fun hm => hc ?_
    have e' : c = z ∨ c = TO ∨ c = i1 ∨ c = i2 := by simpa using hm
    rcases e' with q | q | q | q <;> simp [q]
def iZipB (K : PySem.W.Frag) (ta : TA) : TI := fun σ H R => ta σ H fun vs H1 => ∃ b1 b2 a b xs ys, vs = [.ref a, .ref b] ∧ SqB b1 K H1 a xs ∧ SqB b2 K H1 b ys ∧ R (ItzB b1 b2 K a b) H1
theorem pi_zipB {X : Cx} {e e2 : Expr} {ta : TA} {p pos tpos : Pos} {elts : List Expr} {kk : Nat} (hg : Gl X "zip") (hm : X.mg "zip" = none) (ha : PA X [e, e2] ta)
    (hs : starEach [e, e2] X.env = (false, eval e X.env) :: starEach [e2] X.env := by rfl) (hpl : (backTo pos (starEach [e2] X.env)).any (·.1) = false := by rfl) :
    PI X (.Tuple elts kk tpos) (.Call (.Name "zip" p) [e, e2] [] pos) (iZipB X.K ta) := by
  refine ⟨fun pins s σ H R I h => ?_⟩
  refine PyProof.Rows.Call_ (ld_blt I hg hm PyProof.Rows.boot_zip (PyProof.Rows.callWith_type1 (thn (ha.run pos pins s σ H _ I h) fun us s1 ⟨vs, H1, I1, r1, q1⟩ => ?_) hs hpl))
  obtain ⟨b1, b2, a, b, xs, ys, ex, hqx, hqy, q⟩ := q1
  subst ex
  cases r1 with
  | cons r rr =>
    cases rr with
    | cons r' rr =>
      cases rr
      cases r
      cases r'
      obtain ⟨its, rv, p1, l1⟩ := Inv.seqB I1 hqx
      obtain ⟨its2, rv2, p2, l2⟩ := Inv.seqB I1 hqy
      refine zip_begins2 (beginsB b1 a its.toArray) (beginsB b2 b its2.toArray) p1 p2 fun h' hz hTI hTO h1 h2 hsz hk => wpAny_pyIter_zip hz ?_
      have I2 : Inv X pins σ H1 { s1 with heap := h' } := I1.kept (t' := s1.toks) hk
      refine ⟨s1.heap.objs.size + 4, [s1.heap.objs.size + 4, s1.heap.objs.size + 2, s1.heap.objs.size + 3, s1.heap.objs.size, s1.heap.objs.size + 1], _, _, H1, rfl, I2,
        turn_zipB b1 b2 (zip_sep2 (N := s1.heap.objs.size) (fp1 := [a]) (fp2 := [b]) (fun c hc => by simp at hc; subst hc; exact l1) (fun c hc => by simp at hc; subst hc; exact l2)) ⟨Nat.ne_of_lt l1, Nat.ne_of_lt (Nat.lt_succ_of_lt l2)⟩,
        ⟨hz, hTI, ⟨_, _, hTO⟩, .new h1, .new h2⟩, fun c hcm => ?_, q⟩
      have e' : c = s1.heap.objs.size + 4 ∨ c = s1.heap.objs.size + 2 ∨ c = s1.heap.objs.size + 3 ∨ c = s1.heap.objs.size ∨ c = s1.heap.objs.size + 1 := by simpa using hcm
      have hle : s1.heap.objs.size ≤ c := by
        rcases e' with z | z | z | z | z
        · rw [z]; exact Nat.le_add_right _ _
        · rw [z]; exact Nat.le_add_right _ _
        · rw [z]; exact Nat.le_add_right _ _
        · rw [z]; exact Nat.le_refl _
        · rw [z]; exact Nat.le_add_right _ _
      exact I1.fpOk hle (I1.hok.fresh hle)

/-! ### their mirrors -/
/-- a list or a tuple: its items, and that they stay -/
@[reducible] def itemsOf (st : Store) : Val → Option (List Val × (Store → Prop))
  | .tup xs => some (xs, fun _ => True)
  | .ref n => match seqAt st n with
    | some xs => some (xs, fun st' => seqAt st' n = some xs)
    | none => none
  | _ => none
theorem itemsOf_src {K : PySem.W.Frag} {mg : Str → Option Value} {ι : List Addr} {st : Store} {H : Hp} (S : Sim K mg ι st H) {w : Val} {v : V} (r : Rep mg ι H w v) {xs : List Val} {okp : Store → Prop} (h : itemsOf st w = some (xs, okp)) :
    ∃ isT a, v = .ref a ∧ ∀ ι1 H1 st1, Later ι H ι1 H1 → Sim K mg ι1 st1 H1 → okp st1 → ∃ vs, SqB isT K H1 a vs ∧ Reps mg ι1 H1 xs vs := by
  cases w with
  | tup ys =>
    cases h
    obtain ⟨a, vs, e, ha, rr⟩ := r.tup_inv
    exact ⟨true, a, e, fun ι1 H1 st1 l S1 _ => ⟨vs, SqT.of (l.tups _ _ ha), rr.later l⟩⟩
  | ref n =>
    obtain ⟨a, e, ha⟩ := r.ref_inv
    dsimp only [itemsOf] at h
    cases q : seqAt st n with
    | none => rw [q] at h; cases h
    | some ys =>
      rw [q] at h
      cases h
      exact ⟨false, a, e, fun ι1 H1 st1 l S1 ok => S1.seqL ok (l.get ha)⟩
  | _ => cases h
/-- its own first state is right -/
theorem itemsOf_ok {st : Store} {w : Val} {xs : List Val} {okp : Store → Prop} (h : itemsOf st w = some (xs, okp)) : okp st := by
  cases w with
  | tup ys => cases h; trivial
  | ref n =>
    dsimp only [itemsOf] at h
    cases q : seqAt st n with
    | none => rw [q] at h; cases h
    | some ys => rw [q] at h; cases h; exact q
  | _ => cases h
def enumFrom (k : Nat) : List Val → List Val
  | [] => []
  | x :: r => .tup [.int k, x] :: enumFrom (k + 1) r
theorem enumFrom_length : ∀ (k : Nat) (xs : List Val), (enumFrom k xs).length = xs.length
  | _, [] => rfl
  | k, x :: r => by simp [enumFrom, enumFrom_length (k + 1) r]
theorem enumFrom_get : ∀ (k : Nat) (xs : List Val) (i : Nat) (x : Val), xs[i]? = some x → (enumFrom k xs)[i]? = some (.tup [.int ((k + i : Nat) : Int), x])
  | _, [], i, x, h => by simp at h
  | k, y :: r, 0, x, h => by simp at h; subst h; rfl
  | k, y :: r, i + 1, x, h => by
    have := enumFrom_get (k + 1) r i x (by simpa using h)
    show (enumFrom (k + 1) r)[i]? = _
    rw [this, show k + 1 + i = k + (i + 1) by omega]
def zipW : List Val → List Val → List Val
  | x :: r, y :: q => .tup [x, y] :: zipW r q
  | _, _ => []
theorem zipW_length : ∀ (xs ys : List Val), (zipW xs ys).length = min xs.length ys.length
  | [], ys => by simp [zipW]
  | x :: r, [] => by simp [zipW]
  | x :: r, y :: q => by simp [zipW, zipW_length r q]
theorem zipW_get : ∀ (xs ys : List Val) (i : Nat) (x y : Val), xs[i]? = some x → ys[i]? = some y → (zipW xs ys)[i]? = some (.tup [x, y])
  | [], _, i, x, y, h, _ => by simp at h
  | _ :: _, [], i, x, y, _, h => by simp at h
  | a :: r, b :: q, 0, x, y, h, h2 => by simp at h h2; subst h h2; rfl
  | a :: r, b :: q, i + 1, x, y, h, h2 => by
    have := zipW_get r q i x y (by simpa using h) (by simpa using h2)
    show (zipW r q)[i]? = _
    exact this
theorem isIt_enum {K : PySem.W.Frag} {mg : Str → Option Value} {ι : List Addr} {H : Hp} {isT : Bool} {a : Addr} {xs : List Val} {okp : Store → Prop}
    (src : ∀ ι1 H1 st1, Later ι H ι1 H1 → Sim K mg ι1 st1 H1 → okp st1 → ∃ vs, SqB isT K H1 a vs ∧ Reps mg ι1 H1 xs vs) : IsIt K mg (enumFrom 0 xs) okp ι H (IteB isT K a) := by
  refine ⟨fun i ι1 H1 st l S ok hi => ?_, fun i ι1 H1 st x H' l S ok hi hy => ?_, fun i ι1 H1 st l S ok hi => ?_⟩
  · obtain ⟨vs, h1, r⟩ := src ι1 H1 st l S ok
    rw [enumFrom_length] at hi
    exact ⟨vs, vs[i]'(by rw [← r.length]; exact hi), h1, by simp⟩
  · obtain ⟨vs, h1, r⟩ := src ι1 H1 st l S ok
    obtain ⟨T, y, e1, hT, e2, f⟩ := hy
    subst e1 e2
    obtain ⟨w, hw, rw_⟩ := r.get' (f vs h1)
    have hs := same_new (o := .tup [.int (i : Nat), y]) hT
    refine ⟨Same.laterH hs, S.same hs, _, enumFrom_get 0 xs i w hw, ?_⟩
    rw [Nat.zero_add]
    exact Rep.newTup hT (Reps.cons Rep.int (Reps.cons rw_ Reps.nil))
  · obtain ⟨vs, h1, r⟩ := src ι1 H1 st l S ok
    rw [enumFrom_length] at hi
    exact ⟨vs, h1, by rw [← r.length]; exact hi⟩
theorem isIt_zip {K : PySem.W.Frag} {mg : Str → Option Value} {ι : List Addr} {H : Hp} {b1 b2 : Bool} {a b : Addr} {xs ys : List Val} {okp okq : Store → Prop}
    (src : ∀ ι1 H1 st1, Later ι H ι1 H1 → Sim K mg ι1 st1 H1 → okp st1 → ∃ vs, SqB b1 K H1 a vs ∧ Reps mg ι1 H1 xs vs)
    (src2 : ∀ ι1 H1 st1, Later ι H ι1 H1 → Sim K mg ι1 st1 H1 → okq st1 → ∃ vs, SqB b2 K H1 b vs ∧ Reps mg ι1 H1 ys vs) : IsIt K mg (zipW xs ys) (fun st => okp st ∧ okq st) ι H (ItzB b1 b2 K a b) := by
  refine ⟨fun i ι1 H1 st l S ok hi => ?_, fun i ι1 H1 st x H' l S ok hi hy => ?_, fun i ι1 H1 st l S ok hi => ?_⟩
  · obtain ⟨vs, h1, r⟩ := src ι1 H1 st l S ok.1
    obtain ⟨us, h2, r2⟩ := src2 ι1 H1 st l S ok.2
    rw [zipW_length] at hi
    exact ⟨vs, us, vs[i]'(by rw [← r.length]; omega), us[i]'(by rw [← r2.length]; omega), h1, h2, by simp, by simp⟩
  · obtain ⟨vs, h1, r⟩ := src ι1 H1 st l S ok.1
    obtain ⟨us, h2, r2⟩ := src2 ι1 H1 st l S ok.2
    obtain ⟨T, y, z, e1, hT, e2, f, f2⟩ := hy
    subst e1 e2
    obtain ⟨w, hw, rw_⟩ := r.get' (f vs h1)
    obtain ⟨w2, hw2, rw2⟩ := r2.get' (f2 us h2)
    have hs := same_new (o := .tup [y, z]) hT
    exact ⟨Same.laterH hs, S.same hs, _, zipW_get xs ys i w w2 hw hw2, Rep.newTup hT (Reps.cons rw_ (Reps.cons rw2 Reps.nil))⟩
  · obtain ⟨vs, h1, r⟩ := src ι1 H1 st l S ok.1
    obtain ⟨us, h2, r2⟩ := src2 ι1 H1 st l S ok.2
    rw [zipW_length] at hi
    exact ⟨vs, us, h1, h2, by rw [← r.length, ← r2.length]; exact hi⟩
@[reducible] def iEnumM (m : ME) : MI := fun ρ st => (m ρ st).bind fun w st1 => match itemsOf st1 w with
  | some (xs, okp) => .ok (enumFrom 0 xs, okp) st1
  | none => .bad
@[reducible] def iZipM (m1 m2 : ME) : MI := fun ρ st => (m1 ρ st).bind fun w st1 => (m2 ρ st1).bind fun u st2 => match itemsOf st2 w, itemsOf st2 u with
  | some (xs, okp), some (ys, okq) => .ok (zipW xs ys, fun st => okp st ∧ okq st) st2
  | _, _ => .bad
@[reducible] def iSeqM (m : ME) : MI := fun ρ st => (m ρ st).bind fun w st1 => match itemsOf st1 w with
  | some p => .ok p st1
  | none => .bad
section
variable {X : Cx} {e e2 : Expr} {m m2 : ME} {p pos tpos : Pos} {elts : List Expr} {kk : Nat}
theorem ji_enum (hm : X.mg "enumerate" = none) (he : JE X e m) (hg : Gl X "enumerate" := by rfl) (hs : starEach [e] X.env = [(false, eval e X.env)] := by rfl) : JI X (.Tuple elts kk tpos) (.Call (.Name "enumerate" p) [e] [] pos) (iEnumM m) := fun W tk => by
  refine ⟨fun pins s σ H R I hw => (pi_enumB hg hm (pa_cons (he W tk) pa_nil hs) hs).run pins s σ H R I ?_⟩
  obtain ⟨ι, ρ, st, S, sl, p⟩ := hw
  refine ⟨ι, ρ, st, S, sl, Post.bind p fun w st1 ι1 H1 x l1 S1 r1 p1 => ?_⟩
  cases q : itemsOf st1 w with
  | none => rw [q] at p1; exact p1.elim
  | some z =>
    obtain ⟨xs, okp⟩ := z
    rw [q] at p1
    obtain ⟨isT, a, ea, src⟩ := itemsOf_src S1 r1 q
    obtain ⟨vs, h1, _⟩ := src ι1 H1 st1 (Later.refl _ _) S1 (itemsOf_ok q)
    subst ea
    exact ⟨isT, a, vs, rfl, h1, p1.okSame S1 (isIt_enum src)⟩
theorem ji_zip (hm : X.mg "zip" = none) (he : JE X e m) (he2 : JE X e2 m2) (hg : Gl X "zip" := by rfl) (hs : starEach [e, e2] X.env = (false, eval e X.env) :: starEach [e2] X.env := by rfl) (hs2 : starEach [e2] X.env = (false, eval e2 X.env) :: starEach [] X.env := by rfl)
    (hpl : (backTo pos (starEach [e2] X.env)).any (·.1) = false := by rfl) : JI X (.Tuple elts kk tpos) (.Call (.Name "zip" p) [e, e2] [] pos) (iZipM m m2) := fun W tk => by
  refine ⟨fun pins s σ H R I hw => (pi_zipB hg hm (pa_cons (he W tk) (pa_cons (he2 W tk) pa_nil hs2) hs) hs hpl).run pins s σ H R I ?_⟩
  obtain ⟨ι, ρ, st, S, sl, p⟩ := hw
  refine ⟨ι, ρ, st, S, sl, Post.bind p fun w st1 ι1 H1 x l1 S1 r1 p1 => ?_⟩
  refine ⟨ι1, ρ, st1, S1, sl.later l1, Post.bind p1 fun u st2 ι2 H2 y l2 S2 r2 p2 => ?_⟩
  cases q : itemsOf st2 w with
  | none => rw [q] at p2; exact p2.elim
  | some z =>
    cases q2 : itemsOf st2 u with
    | none => rw [q, q2] at p2; exact p2.elim
    | some z2 =>
      obtain ⟨xs, okp⟩ := z
      obtain ⟨ys, okq⟩ := z2
      rw [q, q2] at p2
      obtain ⟨b1, a, ea, src⟩ := itemsOf_src S2 (Rep.later l2 r1) q
      obtain ⟨b2, b, eb, src2⟩ := itemsOf_src S2 r2 q2
      obtain ⟨vs, h1, _⟩ := src ι2 H2 st2 (Later.refl _ _) S2 (itemsOf_ok q)
      obtain ⟨us, h2, _⟩ := src2 ι2 H2 st2 (Later.refl _ _) S2 (itemsOf_ok q2)
      subst ea eb
      exact ⟨b1, b2, a, b, vs, us, rfl, h1, h2, p2.okSame S2 (isIt_zip src src2)⟩
/-- a list or a tuple itself -/
theorem ji_seq {tg : Expr} (he : JE X e m) : JI X tg e (iSeqM m) := fun W tk => by
  refine ⟨fun pins s σ H R' I hw => ?_⟩
  obtain ⟨ι, ρ, st, S, sl, p⟩ := hw
  cases q : m ρ st with
  | bad => dsimp only [iSeqM] at p; rw [q] at p; exact p.elim
  | exc x s' =>
    dsimp only [iSeqM] at p; rw [q] at p
    exact (pi_tup (he W tk)).run pins s σ H R' I ⟨ι, ρ, st, S, sl, by rw [q]; exact p⟩
  | ok w st1 =>
    dsimp only [iSeqM] at p; rw [q] at p
    dsimp only [Ab.R.bind] at p
    cases w with
    | tup xs =>
      refine (pi_tup (he W tk)).run pins s σ H R' I ⟨ι, ρ, st, S, sl, ?_⟩
      rw [q]
      intro ι1 H1 v l1 S1 r1
      obtain ⟨a, vs, e1, ha, rr⟩ := Rep.tup_inv r1
      exact ⟨a, e1, ⟨vs, SqT.of ha⟩, (Post.later p l1).okSame S1 (isIt_tup ha rr)⟩
    | ref n =>
      refine (pi_list (he W tk)).run pins s σ H R' I ⟨ι, ρ, st, S, sl, ?_⟩
      rw [q]
      intro ι1 H1 v l1 S1 r1
      obtain ⟨a, e1, ha⟩ := Rep.ref_inv r1
      have p1 := Post.later p l1
      dsimp only [itemsOf] at p1
      cases qs : seqAt st1 n with
      | none => rw [qs] at p1; exact p1.elim
      | some xs =>
        rw [qs] at p1
        obtain ⟨vs, h1, _⟩ := S1.seqL qs ha
        exact ⟨a, e1, ⟨vs, h1⟩, p1.okSame S1 (isIt_list ha)⟩
    | _ => exact p.elim
end
/-! ### a text, sign by sign -/
def signsW (x : Str) : List Val := x.cps.toList.map fun c => .str ⟨#[c]⟩
theorem isIt_str {K : PySem.W.Frag} {mg : Str → Option Value} {x : Str} {ι : List Addr} {H : Hp} : IsIt K mg (signsW x) (fun _ => True) ι H (Its x) := by
  have hl : (signsW x).length = x.cps.size := by unfold signsW; simp
  refine ⟨fun i ι1 H1 st l S ok hi => (show i < x.cps.size by omega), fun i ι1 H1 st v H' l S ok hi hy => ?_, fun i ι1 H1 st l S ok hi => (show x.cps.size ≤ i by omega)⟩
  obtain ⟨e1, c, hc, e2⟩ := hy
  subst e1 e2
  refine ⟨Later.refl _ _, S, .str ⟨#[c]⟩, ?_, Rep.str⟩
  unfold signsW
  rw [List.getElem?_map, Array.getElem?_toList, hc]
  rfl
@[reducible] def iStrM (m : ME) : MI := fun ρ st => (m ρ st).bind fun w st1 => match w with
  | .str x => .ok (signsW x, fun _ => True) st1
  | _ => .bad
theorem ji_str {X : Cx} {tg e : Expr} {m : ME} (he : JE X e m) : JI X tg e (iStrM m) := fun W tk => by
  refine ⟨fun pins s σ H R I hw => (pi_str (he W tk)).run pins s σ H R I ?_⟩
  obtain ⟨ι, ρ, st, S, sl, p⟩ := hw
  refine ⟨ι, ρ, st, S, sl, Post.bind p fun w st1 ι1 H1 v l1 S1 r1 p1 => ?_⟩
  cases w with
  | str x => exact ⟨x, r1.str_inv, p1.okSame S1 isIt_str⟩
  | _ => exact p1.elim
end Ab

set_option Elab.async false
set_option linter.all false
set_option maxRecDepth 100000
set_option maxHeartbeats 4000000
/-! Ab: an own exception class made with keywords. -/
namespace PySem
namespace AbX
open PySem PySem.Spec PyProof.Rows PySem.HandSPX PySem.W PySem.Calls
section
variable {M : Model} {A : Around} {E : Value → Shared → Prop} {h : Heap} {g : Array GenState} {d : Drawn} {t : Nat} {os : OsState}
variable {nm q : Str} {C N : Addr} {bs bm bmB : List Value} {hdct : Bool} {sn : List Str} {sub : List Value} {ab : Bool} {col : Option Bool} {dd : Option Addr} {k0 k1 k2 k3 k5 : Option Value} {B newId initId : String}
theorem check_new_ownK (F : ExcBaseFacts B newId initId bmB) (hT : ∀ X : String, bm.contains (.type X) = bmB.contains (.type X)) {kw : List (Str × Value)} {Q : Unit → Shared → Prop}
    (hC : h.get? C = some (excClassObj nm q C N bs bm hdct sn sub ab col dd k0 k1 k2 k3 k5 newId)) (hq : Q () ⟨h, g, d, t, os⟩) : wpAny M A (checkBuiltinCall newId ⟨[.ref C], kw⟩) Q E ⟨h, g, d, t, os⟩ := by
  have hcont : (Value.ref C :: bm).contains (.type B) = true := by rw [List.contains_cons, hT, F.hasB, Bool.or_true]
  have hstar := F.noStar
  simp only [checkBuiltinCall, F.newKind, F.newSplit, F.newRow]
  repeat (first | refine wpAny_loadPart_at hC ?_ | (refine wpAny_isSubtype_exc hC ?_; rw [hcont]) | refine wpAny_staticBase_exc hC ?_ | refine wpAny_madeBy_exc hC ?_ | simp only [bne_self_eq_false, Bool.false_eq_true, if_false] | wp_step)
  exact hq
end
section
variable {prog : Program} {w : World} {A : Around} {E : Value → Shared → Prop} {R : Result → Shared → Prop} {h : Heap} {g : Array GenState} {d : Drawn} {t : Nat} {os : OsState}
variable {nm q : Str} {C N : Addr} {bs bm bmB : List Value} {hdct : Bool} {sn : List Str} {sub : List Value} {ab : Bool} {col : Option Bool} {dd : Option Addr} {k0 k1 k2 k3 k5 : Option Value} {B newId initId : String}
theorem new_ownK (F : ExcBaseFacts B newId initId bmB) (hT : ∀ X : String, bm.contains (.type X) = bmB.contains (.type X)) {kw : List (Str × Value)}
    (hC : h.get? C = some (excClassObj nm q C N bs bm hdct sn sub ab col dd k0 k1 k2 k3 k5 newId))
    (hq : R (.ok (.ret (.ref (h.objs.size + 1)))) ⟨(h.push { cls := .type "tuple", data := .seq ([] : List Value).toArray }).push
      { cls := .ref C, data := .fields #[.ref h.objs.size, .none, .none, .none, .bool false, .none] }, g, d, t, os⟩) :
    codeAny (model prog w) A (.builtin newId ⟨[.ref C], kw⟩) R ⟨h, g, d, t, os⟩ := by
  have hrest : ([] : List Value).length ≤ sizeLine := by simp
  have hends := F.ends
  have hcB : (Value.ref C :: bm).contains (.type B) = true := by rw [List.contains_cons, hT, F.hasB, Bool.or_true]
  have hcA : (Value.ref C :: bm).contains (.type "AttributeError") = false := by rw [List.contains_cons, hT, F.noAttr]; rfl
  have hcN : (Value.ref C :: bm).contains (.type "NameError") = false := by rw [List.contains_cons, hT, F.noName]; rfl
  refine codeAny_builtinAt F.entry ?_
  unfold Builtin.«BaseException.__new__»
  refine wpAt_bind ?_
  show wpAt _ _ _ (stack >>= _) _ _ _
  refine wpAt_bind (wpAt_stack fun p below => wpAt_of_wpAny ?_)
  wp_walk
  refine wpAt_of_wpAny ?_
  rw [F.owner]
  repeat (first | with_reducible refine wpAny_madeHere_exc F.canon hC ?_ | with_reducible refine wpAny_loadPart_at hC ?_ | (with_reducible refine wpAny_isSubtype_exc hC ?_; first | rw [hcB] | rw [hcA] | rw [hcN]) | wp_step)
  show R _ _
  rw [Heap.size_push]
  exact hq
theorem type_call_ownK (F : ExcBaseFacts B newId initId bmB) (hT : ∀ X : String, bm.contains (.type X) = bmB.contains (.type X)) {kw : List (Str × Value)} {fI : Addr} {Q : Fin → Shared → Prop}
    (hC : h.get? C = some (excClassObj nm q C N bs bm hdct sn sub ab col dd k0 k1 k2 k3 k5 newId))
    (hi : W.Looks (model prog w) h (typeLookup (.ref C) "__init__") (some (.ref fI))) (hb : ∀ self, W.Looks (model prog w) h (bindSpecial (.ref fI) self) (.ref fI, [self]))
    (hq : codeAny (model prog w) A (.call (.ref fI) ⟨[.ref (h.objs.size + 1)], kw⟩)
      (fun r s' => match r with | .ok (.ret v) => v = .none ∧ Q (.done (.ret (.ref (h.objs.size + 1)))) s' | .ok _ => False | .error e => E e s')
      ⟨(h.push (W.kdv_tup [])).push (excO C h.objs.size), g, d, t, os⟩) :
    wpAny (model prog w) A (Builtin.«type.__call__» ⟨[.ref C], kw⟩) Q E ⟨h, g, d, t, os⟩ := by
  repeat (first | with_reducible refine wpAny_loadPart_at hC ?_ | with_reducible refine wpAny_madeBy_exc hC ?_ | wp_step)
  refine codeAny_call_builtin_code (Code.quiet_builtin _ F.quiet) (check_new_ownK F hT hC ?_)
  refine new_ownK F hT hC ?_
  show wpAny _ _ _ _ _ _
  have k : ∀ b o, h.get? b = some o → ((h.push (W.kdv_tup [])).push (excO C h.objs.size)).get? b = some o := fun b o e => Heap.get?_push_of_some _ (Heap.get?_push_of_some _ e)
  have hC₁ := k _ _ hC
  have hget : ((h.push (W.kdv_tup [])).push (excO C h.objs.size)).get? (h.objs.size + 1) = some (excO C h.objs.size) := by heap_get
  have hcC : (Value.ref C :: bm).contains (.ref C) = true := by simp
  have i1 := hi.keeps k
  have b1 := (hb (.ref (h.objs.size + 1))).keeps k
  unfold isInstance
  repeat (first | with_reducible refine wpAny_loadPart_at hget ?_ | (with_reducible refine wpAny_isSubtype_exc hC₁ ?_; rw [hcC]) | wp_step)
  show wpAny _ _ (typeLookup (.ref C) _) _ _ _
  refine i1.at ?_
  refine wpAny_holding (wpAny_bind (b1.at ?_))
  refine wpAny_bind (wpAny_call (codeAny_mono hq fun r s' z => ?_))
  rcases r with e | (v | _ | _ | _) <;> first | exact z | exact z.elim | skip
  obtain ⟨rfl, z⟩ := z
  first
    | exact wpAny_pure (wpAny_pure z)
    | (wp_walk; exact z)
theorem call_ownK (F : ExcBaseFacts B newId initId bmB) (hT : ∀ X : String, bm.contains (.type X) = bmB.contains (.type X)) {kw : List (Str × Value)} {fI : Addr}
    (hC : h.get? C = some (excClassObj nm q C N bs bm hdct sn sub ab col dd k0 k1 k2 k3 k5 newId))
    (hi : W.Looks (model prog w) h (typeLookup (.ref C) "__init__") (some (.ref fI))) (hb : ∀ self, W.Looks (model prog w) h (bindSpecial (.ref fI) self) (.ref fI, [self]))
    (hq : codeAny (model prog w) (A.under (.builtin "type.__call__" ⟨[.ref C], kw⟩)) (.call (.ref fI) ⟨[.ref (h.objs.size + 1)], kw⟩) (W.InitBack (h.objs.size + 1) R)
      ⟨(h.push (W.kdv_tup [])).push (excO C h.objs.size), g, d, t, os⟩) :
    codeAny (model prog w) A (.call (.ref C) ⟨[], kw⟩) R ⟨h, g, d, t, os⟩ := by
  have f1 := tc_lookup
  have f2 := tc_bind (.ref C)
  have hTy : (⟨h, g, d, t, os⟩ : Shared).TypeIs (.ref C) "type" := ⟨_, hC, rfl⟩
  refine codeAny_of_tree ?_
  show wpAny _ _ (callAny (.ref C) _) _ _ _
  repeat (any_goals (first | assumption | with_reducible refine wpAny_loadPart_at hC ?_ | wp_step))
  refine ⟨rfl, ?_⟩
  refine codeAny_call_builtin_at (Code.quiet_builtin _ (by decide +kernel)) entry_typeCall (wpAny_check_type_call_sub hC (type_call_ownK F hT hC hi hb ?_))
  refine codeAny_mono hq fun r s' z => ?_
  rcases r with e | (v | _ | _ | _) <;> exact z
/-! the same road, whatever the __init__ is that the class finds (here the base's own) -/
theorem type_call_ownV (F : ExcBaseFacts B newId initId bmB) (hT : ∀ X : String, bm.contains (.type X) = bmB.contains (.type X)) {rest : List Value} {fI : Value} {Q : Fin → Shared → Prop}
    (hC : h.get? C = some (excClassObj nm q C N bs bm hdct sn sub ab col dd k0 k1 k2 k3 k5 newId))
    (hi : W.Looks (model prog w) h (typeLookup (.ref C) "__init__") (some fI)) (hb : ∀ self, W.Looks (model prog w) h (bindSpecial fI self) (fI, [self])) (hrest : rest.length ≤ sizeLine)
    (hq : codeAny (model prog w) A (.call fI ⟨.ref (h.objs.size + 1) :: rest, []⟩)
      (fun r s' => match r with | .ok (.ret v) => v = .none ∧ Q (.done (.ret (.ref (h.objs.size + 1)))) s' | .ok _ => False | .error e => E e s')
      ⟨(h.push (W.kdv_tup rest)).push (excO C h.objs.size), g, d, t, os⟩) :
    wpAny (model prog w) A (Builtin.«type.__call__» ⟨.ref C :: rest, []⟩) Q E ⟨h, g, d, t, os⟩ := by
  repeat (first | with_reducible refine wpAny_loadPart_at hC ?_ | with_reducible refine wpAny_madeBy_exc hC ?_ | wp_step)
  refine codeAny_call_builtin_code (Code.quiet_builtin _ F.quiet) (check_new_own F hT hC ?_)
  refine new_own F hT hC ?_ hrest
  show wpAny _ _ _ _ _ _
  have k : ∀ b o, h.get? b = some o → ((h.push (W.kdv_tup rest)).push (excO C h.objs.size)).get? b = some o := fun b o e => Heap.get?_push_of_some _ (Heap.get?_push_of_some _ e)
  have hC₁ := k _ _ hC
  have hget : ((h.push (W.kdv_tup rest)).push (excO C h.objs.size)).get? (h.objs.size + 1) = some (excO C h.objs.size) := by heap_get
  have hcC : (Value.ref C :: bm).contains (.ref C) = true := by simp
  have i1 := hi.keeps k
  have b1 := (hb (.ref (h.objs.size + 1))).keeps k
  unfold isInstance
  repeat (first | with_reducible refine wpAny_loadPart_at hget ?_ | (with_reducible refine wpAny_isSubtype_exc hC₁ ?_; rw [hcC]) | wp_step)
  show wpAny _ _ (typeLookup (.ref C) _) _ _ _
  refine i1.at ?_
  refine wpAny_holding (wpAny_bind (b1.at ?_))
  refine wpAny_bind (wpAny_call (codeAny_mono hq fun r s' z => ?_))
  rcases r with e | (v | _ | _ | _) <;> first | exact z | exact z.elim | skip
  obtain ⟨rfl, z⟩ := z
  first
    | exact wpAny_pure (wpAny_pure z)
    | (wp_walk; exact z)

theorem call_ownV (F : ExcBaseFacts B newId initId bmB) (hT : ∀ X : String, bm.contains (.type X) = bmB.contains (.type X)) {rest : List Value} {fI : Value}
    (hC : h.get? C = some (excClassObj nm q C N bs bm hdct sn sub ab col dd k0 k1 k2 k3 k5 newId))
    (hi : W.Looks (model prog w) h (typeLookup (.ref C) "__init__") (some fI)) (hb : ∀ self, W.Looks (model prog w) h (bindSpecial fI self) (fI, [self])) (hrest : rest.length ≤ sizeLine)
    (hq : codeAny (model prog w) (A.under (.builtin "type.__call__" ⟨.ref C :: rest, []⟩)) (.call fI ⟨.ref (h.objs.size + 1) :: rest, []⟩) (W.InitBack (h.objs.size + 1) R)
      ⟨(h.push (W.kdv_tup rest)).push (excO C h.objs.size), g, d, t, os⟩) :
    codeAny (model prog w) A (.call (.ref C) ⟨rest, []⟩) R ⟨h, g, d, t, os⟩ := by
  have f1 := tc_lookup
  have f2 := tc_bind (.ref C)
  have hTy : (⟨h, g, d, t, os⟩ : Shared).TypeIs (.ref C) "type" := ⟨_, hC, rfl⟩
  refine codeAny_of_tree ?_
  show wpAny _ _ (callAny (.ref C) _) _ _ _
  repeat (any_goals (first | assumption | with_reducible refine wpAny_loadPart_at hC ?_ | wp_step))
  refine ⟨rfl, ?_⟩
  refine codeAny_call_builtin_at (Code.quiet_builtin _ (by decide +kernel)) entry_typeCall (wpAny_check_type_call_sub hC (type_call_ownV F hT hC hi hb hrest ?_))
  refine codeAny_mono hq fun r s' z => ?_
  rcases r with e | (v | _ | _ | _) <;> exact z
end
end AbX
end PySem

set_option Elab.async false
set_option linter.all false
set_option maxRecDepth 100000
set_option maxHeartbeats 1000000
/-! Ab: own exceptions raised: C("..") and C(k = v, ..). -/
namespace Ab
open PySem PySem.Spec L2
/-! ### the __init__ of such a class -/
/-- what it promises: the fields lie behind one another -/
def spEx (C : Addr) (fs : List Nat) : Sp := fun vs H Q E => ∃ a ws, vs = .ref a :: ws ∧ ws.length = fs.length ∧ H a = some (exo a C none) ∧
  ∀ d H', H d = none → d ≠ a → H' a = some (exo a C (some d)) → H' d = some (exd d ((fs.map nm).zip ws).reverse) → (∀ b, b ≠ a → b ≠ d → H' b = H b) → Q .non H'
/-- the class of that number can be raised by C(k = v, ..) -/
def ExK (T : Wh) (C k : Nat) (fs : List Nat) : Prop := (∀ f ∈ fs, f < nmN) ∧ ∃ Ca fI fd ps, T.mg (nm C) = some (.ref Ca) ∧ OexC T.K Ca ∧ PySem.W.findIn T.K (.ref Ca) "__init__" = some (some (.ref fI)) ∧ PySem.W.typeIn T.K (.ref fI) = some (.type "function") ∧
  KBn T.K fd ps 1 (fs.map nm) (fun us ws => us ++ ws) (fun us ws => us ++ ws) ∧ FnOk T.P T.w T.K T.mg T.base (L2.CX T.P T.w) k fI fd ps (spEx Ca fs)
/-- .. by C("..") -/
def Ex0 (T : Wh) (C : Nat) : Prop := ∃ Ca, T.mg (nm C) = some (.ref Ca) ∧ OexC T.K Ca ∧ PySem.W.findIn T.K (.ref Ca) "__init__" = some (some (.builtin "ValueError.__init__"))
/-- RowError.__init__, read off the class -/
structure SupI (K : PySem.W.Frag) (mg : Str → Option Value) (R : Addr) : Prop where
  at_ : mg "RowError" = some (.ref R)
  rd : PySem.W.readsIn K R (.type "type") = true
  ga : PySem.W.specialIn K (.ref R) "__getattribute__" = some (some (.builtin "type.__getattribute__"))
  fd : PySem.W.findCls K (.ref R) (.type "type") "__init__" = some (.val (.builtin "ValueError.__init__"))
section
variable {X : Cx} {o e : Expr} {es : List Expr} {ta : TA} {p p1 p2 pos : Pos} {R : Addr}
theorem pe_rowinit {pl : Sem Bool} (hS : SupI X.K X.mg R) (ha : PA X (e :: es) ta) (hg : Gl X "RowError" := by rfl)
    (hc : eval (.Call (.Attribute (.Name "RowError" p1) "__init__" p2) (e :: es) [] pos) X.env = (do
      let ov ← eval (.Name "RowError" p1) X.env
      standAt p2.atName
      let (f, first) ← holding [ov] (getMethod ov "__init__" pl)
      callWith pos f first (backTo pos (starEach (e :: es) X.env)) (backToKw pos (keywordEach [] X.env))) := by rfl)
    (he : starEach (e :: es) X.env = (false, eval e X.env) :: starEach es X.env := by rfl) (hpl : (backTo pos (starEach es X.env)).any (·.1) = false := by rfl) :
    PE X (.Call (.Attribute (.Name "RowError" p1) "__init__" p2) (e :: es) [] pos) (tVeI X.K ta) := by
  refine ⟨fun pins s σ H Q I h => ?_⟩
  refine PySem.W.methodCall_KW (ld_glob I hg hS.at_ ?_ (by decide)) hc
  refine PySem.W.method_cls I.kIn hS.ga (PySem.W.cls_value I.kIn hS.rd hS.fd (by decide +kernel) ?_)
  show wpAny _ _ (callWith pos (Value.builtin "ValueError.__init__") [] (backTo pos (starEach (e :: es) X.env)) []) _ _ _
  refine PyProof.Rows.callWith_method1 (thn (ha.run pos pins _ σ H _ (I.tok _) h) fun us s1 ⟨vs, H1, I1, r1, a, C, ws, ev, hl, T, ea, q⟩ => ?_) he hpl
  subst ev
  cases r1 with
  | @cons _ u0 _ ur ra rw' =>
    obtain rfl : u0 = Value.ref a := ra
    have hlen : ur.length ≤ sizeLine := by
      rw [← Paired.length rw', sizeLine_eq]
      omega
    exact oinit_ok T I1 ea hlen fun s' J => ⟨.non, H1, J, rfl, q⟩
end
/-- the body of an __init__ with one field -/
theorem exinit1 {T : Wh} {qn : Str} {st : Stmt} {f1 : Nat} {fI : Addr} {fd : FuncData} {Ca R : Addr} {t : Str} {j : Nat} {p1 p2 p3 p4 p5 p6 p7 p8 p9 p10 : Pos} (F : Fun T.K "__init__" qn st fI fd) (S : FnScope ["self", nm f1] ["self", nm f1] (defScope st))
    (hS : SupI T.K T.mg R) (hO : OexC T.K Ca) (hno : PySem.W.findIn T.K (.ref Ca) (nm f1) = some none) (hgl : (defScope st).names.lookup ("RowError" : Str) = some NameKind.globalImplicit) (hne : (nm f1 == ("__debug__" : Str)) = false) (hcd : (nm f1 == ("__classdict__" : Str)) = false)
    (hb : defBody st = [.Expr (.Call (.Attribute (.Name "RowError" p1) "__init__" p2) [.Name "self" p3, .Constant (.str t) j p4] [] p5) p6, .Assign [.Attribute (.Name "self" p7) (nm f1) p8] (.Name (nm f1) p9) p10])
    (hc : ∀ env : Env, ∃ pl : Sem Bool, eval (.Call (.Attribute (.Name "RowError" p1) "__init__" p2) [.Name "self" p3, .Constant (.str t) j p4] [] p5) env = (do
      let ov ← eval (.Name "RowError" p1) env
      standAt p2.atName
      let (f, first) ← holding [ov] (getMethod ov "__init__" pl)
      callWith p5 f first (backTo p5 (starEach [.Name "self" p3, .Constant (.str t) j p4] env)) (backToKw p5 (keywordEach [] env)))) :
    FnOk T.P T.w T.K T.mg T.base (L2.CX T.P T.w) 1 fI fd ["self", nm f1] (spEx Ca [f1]) := by
  refine F.okX S (fun vs H Q E ⟨a, ws, e, hl, _⟩ => ?_) (fun cdv A outer s H vs Q E hr hsp => ?_)
  · subst e
    simp only [List.length_cons, hl, List.length_nil]
  · obtain ⟨a, ws, e, hl, ha, q⟩ := hsp
    subst e
    obtain ⟨w1, rfl⟩ : ∃ w, ws = [w] := by
      match ws, hl with
      | [w], _ => exact ⟨w, rfl⟩
    rw [hb]
    obtain ⟨pl, hpl⟩ := hc (cxOf (L2.CX T.P T.w) T.P T.w T.K T.mg T.base _ qn (defScope st) fI cdv A outer s H E).env
    have vis : ∀ x ∈ (["self", nm f1] : List Str), Vis (defScope st) x := fun x hx => (S.par x hx).elim .inl fun z => .inr (.inl z)
    refine ⟨_, pss_cons (ps_expr (pe_rowinit (R := R) hS (pa_cons (pe_var (i := 0) (x := "self") rfl (vis "self" List.mem_cons_self)) (pa_cons pe_str pa_nil)) hgl hpl)) (pss_one (ps_ost (pe_var (i := 0) (x := "self") rfl (vis "self" List.mem_cons_self)) (pe_var (i := 1) rfl (vis (nm f1) (List.mem_cons_of_mem _ List.mem_cons_self)) hne hcd))), ?_⟩
    refine ⟨_, rfl, a, Ca, [V.str t], rfl, by simp, hO, ha, ?_⟩
    refine ⟨w1, rfl, .ref a, rfl, a, Ca, rfl, hO, hno, .inl ⟨ha, fun dx hd hda => ?_⟩⟩
    exact q dx _ hd hda upd_same (by rw [upd_ne hda, upd_same]; rfl) fun b h1 h2 => by rw [upd_ne h1, upd_ne h2]
/-- .. with two fields -/
theorem exinit2 {T : Wh} {qn : Str} {st : Stmt} {f1 f2 : Nat} {fI : Addr} {fd : FuncData} {Ca R : Addr} {t : Str} {j : Nat} {p1 p2 p3 p4 p5 p6 p7 p8 p9 p10 q7 q8 q9 q10 : Pos} (F : Fun T.K "__init__" qn st fI fd) (S : FnScope ["self", nm f1, nm f2] ["self", nm f1, nm f2] (defScope st))
    (hS : SupI T.K T.mg R) (hO : OexC T.K Ca) (hno : PySem.W.findIn T.K (.ref Ca) (nm f1) = some none) (hno2 : PySem.W.findIn T.K (.ref Ca) (nm f2) = some none) (hgl : (defScope st).names.lookup ("RowError" : Str) = some NameKind.globalImplicit) (hne : (nm f1 == ("__debug__" : Str)) = false) (hcd : (nm f1 == ("__classdict__" : Str)) = false)
    (hne2 : (nm f2 == ("__debug__" : Str)) = false) (hcd2 : (nm f2 == ("__classdict__" : Str)) = false)
    (hb : defBody st = [.Expr (.Call (.Attribute (.Name "RowError" p1) "__init__" p2) [.Name "self" p3, .Constant (.str t) j p4] [] p5) p6, .Assign [.Attribute (.Name "self" p7) (nm f1) p8] (.Name (nm f1) p9) p10, .Assign [.Attribute (.Name "self" q7) (nm f2) q8] (.Name (nm f2) q9) q10])
    (hc : ∀ env : Env, ∃ pl : Sem Bool, eval (.Call (.Attribute (.Name "RowError" p1) "__init__" p2) [.Name "self" p3, .Constant (.str t) j p4] [] p5) env = (do
      let ov ← eval (.Name "RowError" p1) env
      standAt p2.atName
      let (f, first) ← holding [ov] (getMethod ov "__init__" pl)
      callWith p5 f first (backTo p5 (starEach [.Name "self" p3, .Constant (.str t) j p4] env)) (backToKw p5 (keywordEach [] env)))) :
    FnOk T.P T.w T.K T.mg T.base (L2.CX T.P T.w) 1 fI fd ["self", nm f1, nm f2] (spEx Ca [f1, f2]) := by
  refine F.okX S (fun vs H Q E ⟨a, ws, e, hl, _⟩ => ?_) (fun cdv A outer s H vs Q E hr hsp => ?_)
  · subst e
    simp only [List.length_cons, hl, List.length_nil]
  · obtain ⟨a, ws, e, hl, ha, q⟩ := hsp
    subst e
    obtain ⟨w1, w2, rfl⟩ : ∃ w1 w2, ws = [w1, w2] := by
      match ws, hl with
      | [w1, w2], _ => exact ⟨w1, w2, rfl⟩
    rw [hb]
    obtain ⟨pl, hpl⟩ := hc (cxOf (L2.CX T.P T.w) T.P T.w T.K T.mg T.base _ qn (defScope st) fI cdv A outer s H E).env
    have vis : ∀ x ∈ (["self", nm f1, nm f2] : List Str), Vis (defScope st) x := fun x hx => (S.par x hx).elim .inl fun z => .inr (.inl z)
    refine ⟨_, pss_cons (ps_expr (pe_rowinit (R := R) hS (pa_cons (pe_var (i := 0) (x := "self") rfl (vis "self" List.mem_cons_self)) (pa_cons pe_str pa_nil)) hgl hpl)) (pss_cons (ps_ost (pe_var (i := 0) (x := "self") rfl (vis "self" List.mem_cons_self)) (pe_var (i := 1) rfl (vis (nm f1) (List.mem_cons_of_mem _ List.mem_cons_self)) hne hcd))
      (pss_one (ps_ost (pe_var (i := 0) (x := "self") rfl (vis "self" List.mem_cons_self)) (pe_var (i := 2) rfl (vis (nm f2) (List.mem_cons_of_mem _ (List.mem_cons_of_mem _ List.mem_cons_self))) hne2 hcd2)))), ?_⟩
    refine ⟨_, rfl, a, Ca, [V.str t], rfl, by simp, hO, ha, ?_⟩
    refine ⟨w1, rfl, .ref a, rfl, a, Ca, rfl, hO, hno, .inl ⟨ha, fun dx hd hda => ?_⟩⟩
    refine ⟨w2, rfl, .ref a, rfl, a, Ca, rfl, hO, hno2, .inr ⟨dx, [(nm f1, w1)], upd_same, (by rw [upd_ne hda, upd_same]), by simp, ?_⟩⟩
    exact q dx _ hd hda (by rw [upd_ne (Ne.symm hda), upd_same]) (by rw [upd_same]; rfl) fun b h1 h2 => by rw [upd_ne h2, upd_ne h1, upd_ne h2]

/-! ### the raise -/
/-- keywords -/
def JK (X : Cx) (ks : List Keyword) (m : MA) : Prop := ∀ W, Takes X W → PK X ks (rdG X.K X.mg (relL X.mg) W m)
section
variable {X : Cx} {e : Expr} {kws : List Keyword} {me : ME} {mk : MA} {nmk : Option Str} {kpos p pos pos' : Pos} {C k : Nat} {fs : List Nat} {x : Str}
theorem PK.weak {t t' : TA} (h : PK X kws t) (w : ∀ σ H Q, t' σ H Q → t σ H Q) : PK X kws t' := ⟨fun pos pins s σ H Q I q => h.run pos pins s σ H Q I (w σ H Q q)⟩
theorem jk_nil : JK X [] aNil := fun W tk => PK.weak pk_nil fun σ H Q ⟨ι, ρ, st, S, sl, p⟩ => p.okSame S .nil
theorem jk_cons (ha : JE X e me) (hr : JK X kws mk) : JK X (⟨nmk, e, kpos⟩ :: kws) (aCons me mk) := fun W tk => by
  refine PK.weak (pk_cons (ha W tk) (hr W tk)) fun σ H Q ⟨ι, ρ, st, S, sl, p⟩ => ?_
  refine ⟨ι, ρ, st, S, sl, Post.bind p fun w st1 ι1 H1 x l1 S1 r1 p1 => ?_⟩
  refine ⟨ι1, ρ, st1, S1, sl.later l1, Post.bind p1 fun ws st2 ι2 H2 xs l2 S2 r2 p2 => ?_⟩
  exact p2.okSame S2 (.cons (r1.later l2) r2)
/-- raise C(k = v, ..) -/
@[reducible] def sRaise (C : Nat) (fs : List Nat) (m : MA) : MS := fun ρ st => (m ρ st).toO ρ fun ws st1 => if ws.length = fs.length then .exc ⟨C, (fs.zip ws).reverse⟩ ρ st1 else .bad
/-- the keywords' values, then the exception (raising is the only way on) -/
def tMkK (C : Addr) (fs : List Nat) (ta : TA) : L2.St → Hp → XK → Prop := fun σ H Q => ta σ H fun vs H1 => vs.length = fs.length ∧ ∀ d, H1 d = none → Q (.ref C) (some d) (upd H1 d (.xd ((fs.map nm).zip vs).reverse))
theorem repF_zip {mg : Str → Option Value} {ι : List Addr} {H : Hp} : ∀ {fs : List Nat} {ws : List Val} {vs : List V}, (∀ f ∈ fs, f < nmN) → Reps mg ι H ws vs → RepF mg ι H (fs.zip ws) ((fs.map nm).zip vs)
  | [], _, _, _, _ => by rw [List.zip_nil_left, List.map_nil, List.zip_nil_left]; exact .nil
  | f :: fs, [], _, _, r => by rw [r.of_nil, List.zip_nil_right, List.zip_nil_right]; exact .nil
  | f :: fs, w :: ws, _, hf, r => by
    obtain ⟨v, r', e, h1, h2⟩ := r.of_cons
    subst e
    exact .cons ⟨hf f List.mem_cons_self, rfl, h1⟩ (repF_zip (fun g hg => hf g (List.mem_cons_of_mem _ hg)) h2)
theorem paired_snoc {α β : Type} {R : α → β → Prop} {a : α} {b : β} (h : R a b) : ∀ {xs : List α} {ys : List β}, Paired R xs ys → Paired R (xs ++ [a]) (ys ++ [b])
  | _, _, .nil => .cons h .nil
  | _, _, .cons q t => .cons q (paired_snoc h t)
theorem paired_rev {α β : Type} {R : α → β → Prop} : ∀ {xs : List α} {ys : List β}, Paired R xs ys → Paired R xs.reverse ys.reverse
  | _, _, .nil => .nil
  | _, _, .cons q t => by
    rw [List.reverse_cons, List.reverse_cons]
    exact paired_snoc q (paired_rev t)
theorem pmk_kw {t : TA} (h : ExK (Cx.wh X) C k fs) (hx : x = nm C) (hr : Room (k + 1) X.A) (ha : PK X kws t) (hg : Gl X x)
    (hall : (backToKw pos (keywordEach kws X.env)).all (·.1.isSome) = true) (hks : (backToKw pos (keywordEach kws X.env)).filterMap (·.1) = fs.map nm) (hdb : (x == ("__debug__" : Str)) = false)
    (hpl : ((backTo pos (starEach [] X.env)).any (·.1) || (backToKw pos (keywordEach kws X.env)).any (·.1.isNone)) = false) :
    ∃ Ca, X.mg (nm C) = some (.ref Ca) ∧ PMk X (.Call (.Name x p) [] kws pos) (tMkK Ca fs t) := by
  obtain ⟨_, Ca, fI, fd, ps, hC, T, iC, tI, hb, F1⟩ := h
  refine ⟨Ca, hC, ?_⟩
  intro pins s σ H Q I h
  obtain ⟨nm', q, N, bs, bm, sn, sub, ab, col, dd, k0, k1, k2, k3, k5, hCo, hbm⟩ := T.cls
  refine wpAny_Call_Name_kw (ld_glob I hg (by rw [hx]; exact hC) ?_ hdb)
  refine PySem.W.callWith_KW0 (h₀ := X.base) I.ok.mod.kin T.kC hall (thn (ha.run pos pins s σ H _ I h) fun us s1 ⟨vs, H1, I1, r1, hz, q1⟩ => ⟨I1.kIn, ?_⟩) hpl
  rw [hks]
  show wpAny _ _ (call (.ref Ca) [] ((fs.map nm).zip us)) _ _ _
  obtain ⟨hp, g, dr, tk, os⟩ := s1
  have hsz : hp.objs.size ≤ hp.objs.size + 1 := Nat.le_succ _
  have hn : H1 (hp.objs.size + 1) = none := I1.hok.fresh hsz
  have kk : ∀ b o, hp.get? b = some o → ((hp.push (PySem.W.kdv_tup [])).push (PySem.HandSPX.excO Ca hp.objs.size)).get? b = some o := fun b o e => Heap.get?_push_of_some _ (Heap.get?_push_of_some _ e)
  have hget : ((hp.push (PySem.W.kdv_tup [])).push (PySem.HandSPX.excO Ca hp.objs.size)).get? (hp.objs.size + 1) = some (PySem.HandSPX.excO Ca hp.objs.size) := by heap_get
  have I2 : Inv X pins σ (upd H1 (hp.objs.size + 1) (exo (hp.objs.size + 1) Ca none)) ⟨(hp.push (PySem.W.kdv_tup [])).push (PySem.HandSPX.excO Ca hp.objs.size), g, dr, tk, os⟩ :=
    I1.laid (t' := tk) (a := hp.objs.size + 1) (o := exo (hp.objs.size + 1) Ca none) (h' := (hp.push (PySem.W.kdv_tup [])).push (PySem.HandSPX.excO Ca hp.objs.size)) kk hsz (exo_ok hget)
  have r2 : Vals (V.ref (hp.objs.size + 1) :: vs) (Value.ref (hp.objs.size + 1) :: us) := .cons rfl r1
  have hspx : spEx Ca fs (V.ref (hp.objs.size + 1) :: vs) (upd H1 (hp.objs.size + 1) (exo (hp.objs.size + 1) Ca none))
      (fun v H2 => v = .non ∧ ∃ (d : Addr), H2 (hp.objs.size + 1) = some (exo (hp.objs.size + 1) Ca (some d)) ∧ H2 d = some (exd d ((fs.map nm).zip vs).reverse) ∧ H1 d = none ∧ Q (.ref Ca) (some d) (upd (del H2 (hp.objs.size + 1)) d (.xd ((fs.map nm).zip vs).reverse))) (fun _ _ _ => False) := by
    refine ⟨hp.objs.size + 1, vs, rfl, hz, upd_same, fun d H' hd hda e1 e2 e3 => ⟨rfl, d, e1, e2, ?_, ?_⟩⟩
    · rw [upd_ne hda] at hd
      exact hd
    · rw [upd_ne hda] at hd
      have eq : upd (del H' (hp.objs.size + 1)) d (.xd ((fs.map nm).zip vs).reverse) = upd H1 d (.xd ((fs.map nm).zip vs).reverse) := by
        funext b
        by_cases h1 : b = d
        · rw [h1, upd_same, upd_same]
        · rw [upd_ne h1, upd_ne h1]
          by_cases h2 : b = hp.objs.size + 1
          · rw [h2, del_same, hn]
          · rw [del_ne h2, e3 b h2 h1, upd_ne h2]
      rw [eq]
      exact q1 d hd
  have hbt := hb.to ⟨(hp.push (PySem.W.kdv_tup [])).push (PySem.HandSPX.excO Ca hp.objs.size), g, dr, tk, os⟩ [Value.ref (hp.objs.size + 1)] us I2.kIn rfl (by rw [List.length_map, ← hz, r1.length])
  refine wpAny_call (PySem.AbX.call_ownK F.excBase_ValueError (fun Y => PySem.HandSPX.refsVE_contains Y bm hbm) (I1.kIn _ _ hCo) (PySem.W.looks_findIn I1.kIn iC) (fun self => PySem.W.bind_fn I1.kIn self tI)
    (codeAny_mono (F1.run _ X.stack _ _ ⟨[Value.ref (hp.objs.size + 1)], (fs.map nm).zip us⟩ (Value.ref (hp.objs.size + 1) :: us) _ _ (fun _ _ _ => False) (hr.make Ca [] ((fs.map nm).zip us)) (I2.env0.make Ca [] ((fs.map nm).zip us)) hbt r2 hspx) fun r s' hq' => ?_))
  cases r with
  | error er => exact passL pins σ _ _ er s' I2 hq'
  | ok fl =>
    cases fl with
    | ret u =>
      obtain ⟨v, H2, os2, bare2, un2, hok2, rv, ev, d, ea, ed, hd1, q2⟩ := hq'
      subst ev
      obtain ⟨h2, g2, d2, t2, os'⟩ := s'
      exact ⟨rv, mk_end (raises_own T.exC T.tyC) I1 hsz kk un2 hok2 os2 bare2 ea ed hd1 q2⟩
    | next => exact False.elim hq'
    | brk => exact False.elim hq'
    | cont => exact False.elim hq'
theorem js_raise (h : ExK (Cx.wh X) C k fs) (hc : X.calm = true) (hr : Room (k + 1) X.A) (ha : JK X kws mk) (hx : x = nm C := by decide +kernel) (hg : Gl X x := by rfl)
    (hall : (backToKw pos (keywordEach kws X.env)).all (·.1.isSome) = true := by rfl) (hks : (backToKw pos (keywordEach kws X.env)).filterMap (·.1) = fs.map nm := by rfl) (hdb : (x == ("__debug__" : Str)) = false := by decide)
    (hpl : ((backTo pos (starEach [] X.env)).any (·.1) || (backToKw pos (keywordEach kws X.env)).any (·.1.isNone)) = false := by rfl) :
    JS X (.Raise (some (.Call (.Name x p) [] kws pos)) none pos') (sRaise C fs mk) := fun W tk => by
  obtain ⟨Ca, hC, pm⟩ := pmk_kw (p := p) h hx hr (ha W tk) hg hall hks hdb hpl
  refine PS.weak (ps_raise hc tk pm) fun D σ H ⟨ι, ρ, st, S, sl, p⟩ => ?_
  refine ⟨ι, ρ, st, S, sl, PostO.bind p sl fun ws st1 ι1 H1 vs l1 S1 r1 p1 => ?_⟩
  split at p1
  · rename_i hl
    refine ⟨by rw [← r1.length, hl], fun d hd => ?_⟩
    have hs := same_new (o := .xd ((fs.map nm).zip vs).reverse) hd
    refine p1 ι1 _ σ _ _ (Same.laterH hs) (S1.same hs) ((sl.later l1).later (Same.laterH hs)) ⟨Ca, hC, rfl, .inr ⟨d, _, rfl, upd_same, ?_⟩⟩
    exact paired_rev (repF_zip h.1 (r1.later (Same.laterH hs)))
  · exact p1.elim
/-- raise C("..") -/
@[reducible] def sRaise0 (C : Nat) : MS := fun ρ st => .exc ⟨C, []⟩ ρ st
theorem pmk_one {m : Str} {j : Nat} {p2 : Pos} {Ca : Addr} (T : OexC X.K Ca) (iC : PySem.W.findIn X.K (.ref Ca) "__init__" = some (some (.builtin "ValueError.__init__"))) (hg : Gl X x) (hm : X.mg x = some (.ref Ca)) (hdb : (x == ("__debug__" : Str)) = false) :
    PMk X (.Call (.Name x p) [.Constant (.str m) j p2] [] pos) (fun _ H Q => Q (.ref Ca) none H) := by
  intro pins s σ H Q I h
  obtain ⟨nm', q, N, bs, bm, sn, sub, ab, col, dd, k0, k1, k2, k3, k5, hCo, hbm⟩ := T.cls
  refine wpAny_Call_Name_kw (ld_glob I hg hm ?_ hdb)
  have ha : PA X [.Constant (.str m) j p2] (tCons (tC (.str m)) tNil) := pa_cons pe_str pa_nil
  refine PySem.W.callWith_K (h₀ := X.base) I.ok.mod.kin T.kC (thn (ha.run pos pins s σ H (fun vs H1 => vs = [V.str m] ∧ H = H1) I ⟨rfl, rfl⟩) fun us s1 hh => ?_) (by rfl) (by rfl)
  obtain ⟨vs, H1, I1, r1, ev, eH⟩ := hh
  subst ev
  subst eH
  refine ⟨I1.kIn, ?_⟩
  show wpAny _ _ (call (.ref Ca) us) _ _ _
  obtain ⟨hp, g, dr, tk, os⟩ := s1
  have kk : ∀ b o, hp.get? b = some o → ((hp.push (PySem.W.kdv_tup us)).push (PySem.HandSPX.excO Ca hp.objs.size)).get? b = some o := fun b o e => Heap.get?_push_of_some _ (Heap.get?_push_of_some _ e)
  have hget : ((hp.push (PySem.W.kdv_tup us)).push (PySem.HandSPX.excO Ca hp.objs.size)).get? (hp.objs.size + 1) = some (PySem.HandSPX.excO Ca hp.objs.size) := by heap_get
  have hus : us.length ≤ sizeLine := by
    rw [← Paired.length r1, sizeLine_eq]
    simp
  refine wpAny_call (PySem.AbX.call_ownV F.excBase_ValueError (fun Y => PySem.HandSPX.refsVE_contains Y bm hbm) (I1.kIn _ _ hCo) (PySem.W.looks_findIn I1.kIn iC) (fun self => PySem.W.Looks.of_pure (F.excBase_ValueError.init.bind self)) hus
    (PySem.HandSPX.init_base F.excBase_ValueError (fun Y => PySem.HandSPX.refsVE_contains Y bm hbm) (kk _ _ (I1.kIn _ _ hCo)) hget hus fun h' t1 k hx => ?_))
  refine ⟨rfl, ?_⟩
  refine ⟨hp.objs.size + 1, _, _, ⟨hp, g, dr, tk, os⟩, H, .ref Ca, none, rfl, I1, fun b o e => k b o (Nat.ne_of_lt (Nat.lt_succ_of_lt (Heap.lt_size e))) (kk b o e), ?_, hx, ⟨rfl, rfl⟩, rfl, rfl, I1.hok.fresh (Nat.le_succ _), rfl, I1.bare, raises_own T.exC T.tyC, h⟩
  cases e : hp.get? (hp.objs.size + 1) with
  | none => rfl
  | some o => exact absurd (Heap.lt_size e) (Nat.not_lt.mpr (Nat.le_succ _))
theorem js_raise0 {m : Str} {j : Nat} {p2 : Pos} (h : Ex0 (Cx.wh X) C) (hc : X.calm = true) (hx : x = nm C := by decide +kernel) (hg : Gl X x := by rfl) (hdb : (x == ("__debug__" : Str)) = false := by decide) :
    JS X (.Raise (some (.Call (.Name x p) [.Constant (.str m) j p2] [] pos)) none pos') (sRaise0 C) := fun W tk => by
  obtain ⟨Ca, hC, T, iC⟩ := h
  refine PS.weak (ps_raise hc tk (pmk_one T iC hg (by rw [hx]; exact hC) hdb)) fun D σ H ⟨ι, ρ, st, S, sl, p⟩ => ?_
  exact p ι H σ _ _ (Later.refl _ _) S sl ⟨Ca, hC, rfl, .inl ⟨rfl, rfl⟩⟩
end
end Ab

set_option Elab.async false
set_option linter.all false
set_option maxRecDepth 100000
set_option maxHeartbeats 1000000
/-! Ab: list.count, isinstance, what an except suite reads of its exception. -/
namespace Ab
open PySem PySem.Spec PyProof.Rows L2
section
variable {X : Cx}
end
/-! ### isinstance of a value: built-in types -/
inductive Ty6 where
  | int | bool | str | list | tuple | dict
  deriving DecidableEq
@[reducible] def Ty6.nm : Ty6 → String
  | .int => "int" | .bool => "bool" | .str => "str" | .list => "list" | .tuple => "tuple" | .dict => "dict"
inductive Kd where
  | non | t (x : Ty6)
@[reducible] def Kd.nm : Kd → String
  | .non => "NoneType" | .t x => x.nm
@[reducible] def kindW (st : Store) : Val → Option Kd
  | .non => some .non
  | .bl _ => some (.t .bool)
  | .int _ => some (.t .int)
  | .str _ => some (.t .str)
  | .tup _ => some (.t .tuple)
  | .ref n => match st[n]? with
    | some (.lst _) => some (.t .list)
    | some (.frz _) => some (.t .list)
    | some (.dct _) => some (.t .dict)
    | _ => none
  | _ => none
@[reducible] def isT : Kd → Ty6 → Bool
  | .non, _ => false
  | .t .bool, .int => true
  | .t x, y => decide (x = y)
theorem kit6 {K : PySem.W.Frag} (k : Kd) (y : Ty6) : PySem.W.kitOne K (.type k.nm) (.type y.nm) = some (isT k y) := by
  refine kit_ty ?_
  cases k with
  | non => cases y <;> decide +kernel
  | t x => cases x <;> cases y <;> decide +kernel
theorem kindW_ty {K : PySem.W.Frag} {mg : Str → Option Value} {ι : List Addr} {st : Store} {H : Hp} (S : Sim K mg ι st H) {w : Val} {v : V} {k : Kd} (h : kindW st w = some k) (r : Rep mg ι H w v) : TyX K H v (.type k.nm) := by
  cases w with
  | non => cases h; rw [r.non_inv]; exact .base .non
  | bl b => cases h; rw [r.bl_inv]; exact .base (.bl b)
  | int i => cases h; rw [r.int_inv]; exact .base (.int i)
  | str i => cases h; rw [r.str_inv]; exact .base (.str i)
  | tup xs => cases h; obtain ⟨a, vs, e, ha, _⟩ := r.tup_inv; rw [e]; exact .base (.tup ha)
  | ref n =>
    obtain ⟨a, e, ha⟩ := r.ref_inv
    rw [e]
    dsimp only [kindW] at h
    split at h
    · rename_i xs q; cases h; obtain ⟨vs, e1, _⟩ := S.at q ha; exact .base (.lst e1)
    · rename_i xs q
      cases h
      obtain ⟨vs, e1, _⟩ := S.at q ha
      rcases e1 with ⟨o, e1⟩ | ⟨o, its, m, e1, e2, _⟩
      · exact .base (.frz e1)
      · exact .kList e1 e2
    · rename_i xs q; cases h; obtain ⟨vs, e1, _⟩ := S.at q ha; exact .base (.dK e1)
    · cases h
  | _ => cases h
/-- isinstance(e, ..) -/
@[reducible] def mIsi (ts : List Ty6) (m : ME) : ME := fun ρ st => (m ρ st).bind fun w st1 => match kindW st1 w with
  | some k => .ok (.bl (ts.any (isT k))) st1
  | none => .bad
section
variable {X : Cx} {e : Expr} {m : ME} {p p2 p3 p4 pos : Pos} {t1 t2 : Ty6} {x1 x2 : Str}
theorem je_isi (h0 : X.mg "isinstance" = none) (h1 : X.mg x1 = none) (he : JE X e m) (t1 : Ty6) (hv1 : bootBuiltins x1 = some (.type t1.nm)) (g0 : Gl X "isinstance" := by rfl) (g1 : Gl X x1 := by rfl) (hn : x1 ≠ "__name__" := by decide) (hd : (x1 == ("__debug__" : Str)) = false := by decide)
    (hs : starEach [e, .Name x1 p2] X.env = (false, eval e X.env) :: starEach [.Name x1 p2] X.env := by rfl) (hpl : (backTo pos (starEach [.Name x1 p2] X.env)).any (·.1) = false := by rfl) :
    JE X (.Call (.Name "isinstance" p) [e, .Name x1 p2] [] pos) (mIsi [t1] m) := fun W tk => by
  refine PE.weak (pe_callB call_isi g0 h0 Boot.isinstance (pa_cons (he W tk) (pa_cons (pe_bltn (v := .ty t1.nm) g1 h1 hv1 rfl hn hd) pa_nil) hs) (by decide) (by decide) hs hpl) fun σ H Q ⟨ι, ρ, st, S, sl, q⟩ => ?_
  refine ⟨ι, ρ, st, S, sl, Post.bind q fun w st1 ι1 H1 v l1 S1 r1 q1 => ?_⟩
  split at q1
  · rename_i k hk
    refine ⟨v, .ty t1.nm, .type k.nm, .type t1.nm, isT k t1, rfl, .ty _, kindW_ty S1 hk r1, kit6 k t1, ?_⟩
    have e1 : [t1].any (isT k) = isT k t1 := by simp
    rw [e1] at q1
    exact q1.okSame S1 Rep.bl
  · exact q1.elim
theorem je_isi2 {j : Nat} (h0 : X.mg "isinstance" = none) (h1 : X.mg x1 = none) (h2 : X.mg x2 = none) (he : JE X e m) (t1 t2 : Ty6) (hv1 : bootBuiltins x1 = some (.type t1.nm)) (hv2 : bootBuiltins x2 = some (.type t2.nm)) (g0 : Gl X "isinstance" := by rfl) (g1 : Gl X x1 := by rfl) (g2 : Gl X x2 := by rfl)
    (hn : x1 ≠ "__name__" := by decide) (hd : (x1 == ("__debug__" : Str)) = false := by decide) (hn2 : x2 ≠ "__name__" := by decide) (hd2 : (x2 == ("__debug__" : Str)) = false := by decide)
    (hs : starEach [e, .Tuple [.Name x1 p2, .Name x2 p3] j p4] X.env = (false, eval e X.env) :: starEach [.Tuple [.Name x1 p2, .Name x2 p3] j p4] X.env := by rfl) (hpl : (backTo pos (starEach [.Tuple [.Name x1 p2, .Name x2 p3] j p4] X.env)).any (·.1) = false := by rfl) :
    JE X (.Call (.Name "isinstance" p) [e, .Tuple [.Name x1 p2, .Name x2 p3] j p4] [] pos) (mIsi [t1, t2] m) := fun W tk => by
  refine PE.weak (pe_callB call_isiT g0 h0 Boot.isinstance (pa_cons (he W tk) (pa_cons (pe_tup (pa_cons (pe_bltn (v := .ty t1.nm) g1 h1 hv1 rfl hn hd) (pa_cons (pe_bltn (v := .ty t2.nm) g2 h2 hv2 rfl hn2 hd2) pa_nil))) pa_nil) hs) (by decide) (by decide) hs hpl) fun σ H Q ⟨ι, ρ, st, S, sl, q⟩ => ?_
  refine ⟨ι, ρ, st, S, sl, Post.bind q fun w st1 ι1 H1 v l1 S1 r1 q1 => ?_⟩
  split at q1
  · rename_i k hk
    refine ⟨by show 2 ≤ sizeLine; rw [sizeLine_eq]; omega, fun tp htp => ?_⟩
    have hsm := same_new (o := .tup [V.ty t1.nm, V.ty t2.nm]) htp
    refine ⟨v, tp, [.ty t1.nm, .ty t2.nm], .type k.nm, [.type t1.nm, .type t2.nm], [t1, t2].any (isT k), rfl, upd_same, .cons (.ty _) (.cons (.ty _) .nil), kindW_ty (S1.same hsm) hk (r1.later (Same.laterH hsm)), ?_, ?_⟩
    · refine kitAny_cons (kit6 k t1) (fun h => kitAny_cons (kit6 k t2) (fun h2 => ?_) fun h2 => ?_) fun h => ?_
      · rw [kitAny_nil]; simp [h, h2]
      · simp [h2]
      · simp [h]
    · exact q1 ι1 _ _ (Same.laterH hsm) (S1.same hsm) Rep.bl
  · exact q1.elim
end
end Ab

set_option Elab.async false
set_option linter.all false
set_option maxRecDepth 100000
set_option maxHeartbeats 1000000
/-! Ab: an except suite's look at its exception; f(lambda: e) where f tries what it got. -/
namespace Ab
open PySem PySem.Spec PyProof.Rows L2
/-! ### in the suite -/
def xOf (d : Addr) : Cell → Option (List (Nat × Val))
  | .xfs d' fs => if d' = d then some fs else none
  | _ => none
def findX (d : Addr) (st : Store) : Option (List (Nat × Val)) := st.reverse.findSome? (xOf d)
def okX (d : Option Addr) (st : Store) : Bool := match d with
  | none => true
  | some dd => (findX dd st).isSome
section
variable {X : Cx} {a Da : Addr} {oe : Obj} {d : Option Addr} {pn : List (Addr × Obj)}
end
/-! ### f(lambda: e) -/
def outV (x : Exc) : Option (List Val) := match x.cls with
  | 1 => match x.fs.lookup 24, x.fs.lookup 25 with
    | some w, some u => some [.str "row", w, u]
    | _, _ => none
  | 2 => (x.fs.lookup 26).map fun w => [.str "barrel", w]
  | 3 => some [.str "other"]
  | 4 => some [.str "number"]
  | 5 => some [.str "other"]
  | 6 => (x.fs.lookup 24).map fun w => [.str "weather", w]
  | 7 => (x.fs.lookup 25).map fun w => [.str "operation", w]
  | 8 => (x.fs.lookup 27).map fun w => [.str "text", w]
  | 9 => (x.fs.lookup 27).map fun w => [.str "daybook", w]
  | 10 => (x.fs.lookup 28).map fun w => [.str "code", w]
  | _ => none
@[reducible] def mOutcome (mb : ME) : ME := fun ρ st => match mb ρ st with
  | .ok v st1 => .ok (.tup [.str "value", v]) st1
  | .exc x st1 => match outV x with
    | some ws => if ws.all flatW = true then .ok (.tup ws) st1 else .bad
    | none => .bad
  | .bad => .bad
section
variable {mg : Str → Option Value} {ι more : List Addr} {H H' : Hp} {K : PySem.W.Frag}
end
section
variable {X : Cx} {x a e n3 n4 : Str} {st : Stmt} {g RA : Addr} {b₀ : Stmt} {suite : List Stmt} {mS : Addr → Option Addr → Nat → MS} {j jj : Nat} {p1 p2 p3 p4 p5 p6 p7 p8 : Pos} {cdg : Value} {q : Str} {k : Nat}
end
end Ab

set_option Elab.async false
set_option linter.all false
set_option maxRecDepth 100000
set_option maxHeartbeats 1000000
/-! Ab: *args, starred arguments, own + and len, class constants. -/
namespace Ab
open PySem PySem.Spec PyProof.Rows L2
/-! ### a def by positional values (perhaps *rest) -/
def FnMR (T : Wh) (k : Nat) (f : Addr) (mf : MF) : Prop := PySem.W.keepIn T.K (.ref f) = true ∧ FnR T.P T.w T.K T.mg T.base (L2.CX T.P T.w) k f (spM T.K T.mg mf)
def HasIR (T : Wh) (C : Nat) (k : Nat) (mf : MF) : Prop := ∃ Ca f, T.mg (nm C) = some (.ref Ca) ∧ Mk T.K Ca f ∧ FnMR T k f mf
/-- the def with n parameters, *rest and m further names -/
def defStarM (n m : Nat) (body : MS) : MF := fun ws st => if n ≤ ws.length ∧ ws.length ≤ 1000 then (body ((ws.take n ++ [Val.tup (ws.drop n)]).map some ++ List.replicate m none) st).fin else .bad
/-! ### starred arguments -/
def itemsW (st : Store) : Val → Option (List Val)
  | .tup xs => some xs
  | .ref n => seqAt st n
  | _ => none
@[reducible] def aStar (m : ME) (t : MA) : MA := fun ρ st => (m ρ st).bind fun w st1 => match itemsW st1 w with
  | some xs => (t ρ st1).bind fun ys st2 => .ok (xs ++ ys) st2
  | none => .bad
section
variable {X : Cx} {k : Nat} {x : Str} {e : Expr} {es : List Expr} {m : ME} {t : MA} {p pos : Pos} {mf : MF} {C : Nat}
theorem ja_star (he : JE X e m) (hr : JA X es t) (hs : starEach (.Starred e p :: es) X.env = (true, eval e X.env) :: starEach es X.env := by rfl) : JA X (.Starred e p :: es) (aStar m t) := fun W tk => by
  refine PA.weak (StX.pa_star (he W tk) (hr W tk) hs) fun σ H Q ⟨ι, ρ, st, S, sl, q⟩ => ?_
  refine ⟨ι, ρ, st, S, sl, Post.bind q fun w st1 ι1 H1 v l1 S1 r1 q1 => ?_⟩
  have sl1 := sl.later l1
  split at q1
  · rename_i xs hxs
    have fin : ∀ vs, Reps X.mg ι1 H1 xs vs → rdG X.K X.mg (relL X.mg) W t σ H1 (fun ys H2 => Q (vs ++ ys) H2) := fun vs rv =>
      ⟨ι1, ρ, st1, S1, sl1, Post.bind q1 fun ys st2 ι2 H2 us l2 S2 r2 q2 => q2.okSame S2 ((rv.later l2).append r2)⟩
    cases w with
    | tup zs =>
      cases hxs
      obtain ⟨a, vs, e1, ha, rv⟩ := Rep.tup_inv r1
      exact ⟨a, vs, e1, .inl (SqT.of ha), fin vs rv⟩
    | ref n =>
      obtain ⟨a, e1, ha⟩ := Rep.ref_inv r1
      obtain ⟨vs, hl, rr⟩ := S1.seqL hxs ha
      exact ⟨a, vs, e1, .inr hl, fin vs rr⟩
    | _ => cases hxs
  · exact q1.elim
theorem run_makeRS {CX : CXT} {pins : List (Addr × Obj)} {σ : L2.St} {H : Hp} {s : Shared} {Q : VK} {us : List Value} {vs : List V} {Ca f : Addr} {sp : Sp} {E : XK} (M : Mk X.K Ca f) (F : FnR X.prog X.w X.K X.mg X.base CX k f sp) (hr : Room (k + 1) X.A) (hx : PassesAt CX X σ E) (I : Inv X pins σ H s) (r : Vals vs us)
    (h : ∀ x dx, H x = Option.none → H dx = Option.none → dx ≠ x → sp (V.ref x :: vs) (upd (upd H dx (.own x)) x (.ins Ca dx [])) (fun v H2 => v = .non ∧ Q (.ref x) H2) E) :
    wpAny (model X.prog X.w) X.A (call (.ref Ca) us) (EP X pins σ Q) X.xe s := by
  have hq := h (s.heap.objs.size + 1) s.heap.objs.size (I.hok.fresh (Nat.le_succ _)) (I.hok.fresh (Nat.le_refl _)) (Nat.ne_of_lt (Nat.lt_succ_self _))
  have I2 := Inv.made (C := Ca) I
  have r2 : Vals (V.ref (s.heap.objs.size + 1) :: vs) (Value.ref (s.heap.objs.size + 1) :: us) := .cons rfl r
  refine wpAny_call (make_map (f := f) I.kIn M.makes M.init (beq_iff_eq.mp M.fn) (codeAny_mono (F _ X.stack _ _ (Value.ref (s.heap.objs.size + 1) :: us) _ _ E (hr.make Ca us []) (I2.env0.make Ca us []) r2 hq) fun r s' hq' => ?_))
  cases r with
  | error e => exact hx pins _ _ e s' I2 hq'
  | ok fl =>
    cases fl with
    | ret u =>
      obtain ⟨v, H', I3, rv, ev, q3⟩ := I2.after hq'
      subst ev
      exact ⟨rv, ⟨V.ref (s.heap.objs.size + 1), H', I3, rfl, q3⟩⟩
    | next => exact False.elim hq'
    | brk => exact False.elim hq'
    | cont => exact False.elim hq'
theorem make_read {W : WX} {σ : L2.St} {Q : VK} {ι1 : List Addr} {H1 : Hp} {st1 : Store} {ws : List Val} {vs : List V} {Ca : Addr} (hC : X.mg (nm C) = some (.ref Ca)) (S1 : Sim X.K X.mg ι1 st1 H1) (r1 : Reps X.mg ι1 H1 ws vs)
    (p1 : Post X.K X.mg (rel1 X.mg) ι1 H1 Q (fun c d H' => W c d σ H') (vMake C mf ws st1)) : ∀ x dx, H1 x = Option.none → H1 dx = Option.none → dx ≠ x → spM X.K X.mg mf (V.ref x :: vs) (upd (upd H1 dx (.own x)) x (.ins Ca dx [])) (fun v H2 => v = .non ∧ Q (.ref x) H2) (WE W σ) := by
  intro q dx hq hdx ne
  obtain ⟨S2, l2⟩ := make_sim S1 hC hq hdx ne
  refine ⟨_, _, _, S2, Reps.cons (Rep.ref (n := st1.length) (a := q) ?_) (Reps.later l2 r1), Post.bind (Post.later p1 l2) fun w st3 ι3 H3 v l3 S3 r3 p3 => ?_⟩
  · rw [← S1.len, List.getElem?_append_right (Nat.le_refl _)]; simp
  · cases w with
    | non =>
      refine ⟨Rep.non_inv r3, p3.okSame S3 (Rep.ref ?_)⟩
      refine l3.get ?_
      rw [← S1.len, List.getElem?_append_right (Nat.le_refl _)]; simp
    | _ => exact p3.elim
/-- C(e, ..), C's __init__ with *rest -/
theorem je_makeR (h : HasIR (Cx.wh X) C k mf) (hx : x = nm C) (hr : Room (k + 1) X.A) (ha : JA X (e :: es) t) (hg : Gl X x := by rfl) (hdb : (x == ("__debug__" : Str)) = false := by decide) (he : starEach (e :: es) X.env = (false, eval e X.env) :: starEach es X.env := by rfl)
    (hpl : (backTo pos (starEach es X.env)).any (·.1) = false := by rfl) : JE X (.Call (.Name x p) (e :: es) [] pos) (mApp (vMake C mf) t) := fun W tk => by
  obtain ⟨Ca, f, hC, M, hk, F⟩ := h
  refine ⟨fun pins s σ H Q I ⟨ι, ρ, st, S, sl, q⟩ => ?_⟩
  refine wpAny_Call_Name_kw (ld_glob I hg (by rw [hx]; exact hC) ?_ hdb)
  refine PySem.W.callWith_K (h₀ := X.base) I.ok.mod.kin M.kp (thn ((ha W tk).run pos pins s σ H (fun vs H1 => ∀ y dx, H1 y = Option.none → H1 dx = Option.none → dx ≠ y → spM X.K X.mg mf (V.ref y :: vs) (upd (upd H1 dx (.own y)) y (.ins Ca dx [])) (fun v H2 => v = .non ∧ Q (.ref y) H2) (WE W σ)) I ?_) fun us s1 ⟨vs, H1, I1, r, q⟩ => ⟨I1.kIn, ?_⟩) he hpl
  · exact ⟨ι, ρ, st, S, sl, Post.bind q fun ws st1 ι1 H1 vs l1 S1 r1 p1 => make_read hC S1 r1 p1⟩
  · exact run_makeRS M F hr (passAt tk σ) I1 r q
/-- C(e, .., *y) -/
theorem je_makeS (h : HasIR (Cx.wh X) C k mf) (hx : x = nm C) (hr : Room (k + 1) X.A) (ha : JA X (e :: es) t) (hg : Gl X x := by rfl) (hdb : (x == ("__debug__" : Str)) = false := by decide) (he : starEach (e :: es) X.env = (false, eval e X.env) :: starEach es X.env := by rfl)
    (hst : (backTo pos (starEach es X.env)).any (·.1) = true := by rfl) : JE X (.Call (.Name x p) (e :: es) [] pos) (mApp (vMake C mf) t) := fun W tk => by
  obtain ⟨Ca, f, hC, M, hk, F⟩ := h
  refine ⟨fun pins s σ H Q I ⟨ι, ρ, st, S, sl, q⟩ => ?_⟩
  refine wpAny_Call_Name_kw (ld_glob I hg (by rw [hx]; exact hC) ?_ hdb)
  refine PySem.W.callWith_S2 (h₀ := X.base) I.ok.mod.kin M.kp (thn ((ha W tk).run pos pins s σ H (fun vs H1 => ∀ y dx, H1 y = Option.none → H1 dx = Option.none → dx ≠ y → spM X.K X.mg mf (V.ref y :: vs) (upd (upd H1 dx (.own y)) y (.ins Ca dx [])) (fun v H2 => v = .non ∧ Q (.ref y) H2) (WE W σ)) I ?_) fun us s1 ⟨vs, H1, I1, r, q⟩ => ⟨I1.kIn, ?_⟩) he hst
  · exact ⟨ι, ρ, st, S, sl, Post.bind q fun ws st1 ι1 H1 vs l1 S1 r1 p1 => make_read hC S1 r1 p1⟩
  · exact run_makeRS M F hr (passAt tk σ) I1 r q
end

/-! ### own + and len -/
/-- a operator of the class of that number, both sides of it -/
def HasOp (T : Wh) (C : Nat) (op : Operator) (k : Nat) (mf : MF) : Prop := ∃ Ca f, T.mg (nm C) = some (.ref Ca) ∧ Cls T.K Ca ∧ PySem.W.selfFirst T.K Ca = true ∧ PySem.W.findIn T.K (.ref Ca) (PySem.dunder op.info.2) = some (some (.ref f)) ∧ PySem.W.isFn T.K (.ref f) = true ∧ FnM T k 2 f mf
def isIns (C : Nat) (st : Store) : Val → Bool
  | .ref n => match st[n]? with
    | some (.ins C' _) => decide (C' = C)
    | _ => false
  | _ => false
theorem isIns_at {C : Nat} {st : Store} {w : Val} (h : isIns C st w = true) : ∃ n fs, w = .ref n ∧ st[n]? = some (.ins C fs) := by
  unfold isIns at h
  split at h
  · rename_i n
    split at h
    · rename_i C' fs e
      have := of_decide_eq_true h
      subst this
      exact ⟨n, fs, rfl, e⟩
    · cases h
  · cases h
/-- what own + gives back must be an object (no mark that it is not implemented) -/
@[reducible] def mOp (C : Nat) (mf : MF) (ma mb : ME) : ME := fun ρ st => (ma ρ st).bind fun x st1 => (mb ρ st1).bind fun y st2 => if isIns C st2 x = true ∧ isIns C st2 y = true then mf [x, y] st2 else .bad
section
variable {X : Cx} {k : Nat} {a b e : Expr} {ma mb m : ME} {p pos : Pos} {mf : MF} {C : Nat} {op : Operator}
theorem je_own (h : HasOp (Cx.wh X) C op k mf) (hr : Room k X.A) (ha : JE X a ma) (hb : JE X b mb) : JE X (.BinOp a op b pos) (mOp C mf ma mb) := fun W tk => by
  obtain ⟨Ca, f, hC, cl, hsf, hs, hfn, fd, ps, hl, hkp, hbd, F⟩ := h
  have hC : X.mg (nm C) = some (.ref Ca) := hC
  refine ⟨fun pins s σ H Q I ⟨ι, ρ, st, S, sl, q⟩ => ?_⟩
  refine wpAny_BinOp (binT (R := fun x y H2 => ∃ xa ya dx dy fx fy, x = .ref xa ∧ y = .ref ya ∧ H2 xa = some (.ins Ca dx fx) ∧ H2 ya = some (.ins Ca dy fy) ∧ spM X.K X.mg mf [.ref xa, .ref ya] H2 Q (WE W σ)) (ha W tk) (hb W tk) I ?_ fun v u s2 x y H2 I2 rx ry hq => ?_)
  · refine ⟨ι, ρ, st, S, sl, Post.bind q fun x st1 ι1 H1 xv l1 S1 r1 p1 => ?_⟩
    refine ⟨ι1, ρ, st1, S1, sl.later l1, Post.bind p1 fun y st2 ι2 H2 yv l2 S2 r2 p2 => ?_⟩
    split at p2
    · rename_i hh
      obtain ⟨n, fs, e1, c1⟩ := isIns_at hh.1
      obtain ⟨n2, fs2, e2, c2⟩ := isIns_at hh.2
      have r1' := Rep.later l2 r1
      subst e1 e2
      obtain ⟨xa, f1, g1⟩ := Rep.ref_inv r1'
      obtain ⟨ya, f2, g2⟩ := Rep.ref_inv r2
      obtain ⟨Ca1, dx, vs, i1, i2, i3⟩ := S2.at c1 g1
      obtain ⟨Ca2, dy, us, j1, j2, j3⟩ := S2.at c2 g2
      rw [hC] at i1 j1
      cases i1
      cases j1
      subst f1 f2
      exact ⟨xa, ya, dx, dy, vs, us, rfl, rfl, i2, j2, ι2, _, st2, S2, .cons (Rep.ref g1) (.cons (Rep.ref g2) .nil), p2⟩
    · exact p2.elim
  · obtain ⟨xa, ya, dx, dy, fx, fy, e1, e2, i1, i2, hsp⟩ := hq
    subst e1 e2
    cases rx
    cases ry
    obtain ⟨mA, O, _⟩ := ins_get I2.hok i1
    obtain ⟨od, J, _⟩ := O.look
    obtain ⟨mB, O2, _⟩ := ins_get I2.hok i2
    obtain ⟨od2, J2, _⟩ := O2.look
    obtain ⟨m0, fr⟩ := I2.fr
    refine PySem.W.binop_K fr I2.ok.mod.kin J J2.type hsf hs hfn ?_
    refine thn (run_fnS (us := [.ref xa, .ref ya]) (vs := [.ref xa, .ref ya]) F hr hbd (passAt tk σ) I2 (.cons rfl (.cons rfl .nil)) hsp) fun u s3 hh => ?_
    obtain ⟨v3, H3, I3, r3, q3⟩ := hh
    have z : EP X pins σ Q u s3 := ⟨v3, H3, I3, r3, q3⟩
    cases v3 with
    | non => cases (show u = Value.none from r3); exact z
    | bl y => cases (show u = Value.bool y from r3); exact z
    | int i => obtain ⟨t, e⟩ := (show ∃ t, u = Value.int i t from r3); subst e; exact z
    | str y => obtain ⟨t, e⟩ := (show ∃ t, u = Value.str y t from r3); subst e; exact z
    | byt y => obtain ⟨t, e⟩ := (show ∃ t, u = Value.bytes y t from r3); subst e; exact z
    | flt y => obtain ⟨t, e⟩ := (show ∃ t, u = Value.float y t from r3); subst e; exact z
    | ref y => cases (show u = Value.ref y from r3); exact z
    | ty y => cases (show u = Value.type y from r3); exact z
/-- len(e) by an own __len__ -/
def HasLen (T : Wh) (C : Nat) (k : Nat) (mf : MF) : Prop := ∃ Ca f, T.mg (nm C) = some (.ref Ca) ∧ Cls T.K Ca ∧ PySem.W.findIn T.K (.ref Ca) "__len__" = some (some (.ref f)) ∧ PySem.W.isFn T.K (.ref f) = true ∧ FnM T k 1 f mf
@[reducible] def mLen (C : Nat) (mf : MF) (m : ME) : ME := fun ρ st => (m ρ st).bind fun x st1 => if isIns C st1 x = true then match mf [x] st1 with
    | .ok (.int i) st2 => if 0 ≤ i ∧ i < 1000000 then .ok (.int i) st2 else .bad
    | _ => .bad
  else .bad
theorem je_lenO (h : HasLen (Cx.wh X) C k mf) (hr : Room (k + 1) X.A) (he : JE X e m) (h0 : X.mg "len" = none) (g0 : Gl X "len" := by rfl) (hs : starEach [e] X.env = (false, eval e X.env) :: starEach [] X.env := by rfl) : JE X (.Call (.Name "len" p) [e] [] pos) (mLen C mf m) := fun W tk => by
  obtain ⟨Ca, f, hC, cl, hls, hfn, fd, ps, hl, hkp, hbd, F⟩ := h
  have hC : X.mg (nm C) = some (.ref Ca) := hC
  have hc : CallR X (.builtin "len") (fun xs H Q => ∃ a dx fs, xs = [.ref a] ∧ H a = some (.ins Ca dx fs) ∧ spM X.K X.mg mf [.ref a] H (fun v H' => ∃ i : Int, v = .int i ∧ (0 ≤ i ∧ i < 1000000) ∧ Q v H') (fun _ _ _ => False)) := by
    intro pins s σ H xs us Q I r h
    obtain ⟨a, dx, fs, rfl, ea, hsp⟩ := h
    obtain rfl : us = [.ref a] := by
      cases r with
      | cons r1 r2 => cases r2; cases r1; rfl
    obtain ⟨mA, O, _⟩ := ins_get I.hok ea
    obtain ⟨od, J, _⟩ := O.look
    obtain ⟨m0, fr⟩ := I.fr
    refine PySem.W.len_K fr I.ok.mod.kin J hls hfn (wpAny_call ?_)
    have hlen : ([Value.ref a] : List Value).length = ps.length := by rw [hl]; rfl
    have b := hbd s [.ref a] I.kIn (by rw [List.append_nil]; exact hlen)
    rw [List.append_nil] at b
    refine codeAny_mono (F.run X.A.in1 X.stack s H ⟨[.ref a], []⟩ [.ref a] [.ref a] _ _ hr.in1 I.env0.in1 b (.cons rfl .nil) hsp) fun r s' hq => ?_
    cases r with
    | error er => exact False.elim (passL (X := X.nox) pins σ H s er s' (I.wish _) hq)
    | ok fl =>
      cases fl with
      | ret u =>
        obtain ⟨v, H', I3, rv, i, ev, hi, q3⟩ := I.after hq
        subst ev
        obtain ⟨t, eu⟩ := (show ∃ t, u = Value.int i t from rv)
        subst eu
        exact ⟨⟨hi.1, by omega⟩, .int i, H', I3.tok _, ⟨_, rfl⟩, q3⟩
      | next => exact False.elim hq
      | brk => exact False.elim hq
      | cont => exact False.elim hq
  refine PE.weak (pe_callB hc g0 h0 Boot.len (pa_cons (he W tk) pa_nil hs) (by decide) (by decide) hs rfl) fun σ H Q ⟨ι, ρ, st, S, sl, q⟩ => ?_
  refine ⟨ι, ρ, st, S, sl, Post.bind q fun w st1 ι1 H1 v l1 S1 r1 q1 => ?_⟩
  split at q1
  · rename_i hh
    obtain ⟨n, fs, e1, c1⟩ := isIns_at hh
    subst e1
    obtain ⟨xa, f1, g1⟩ := Rep.ref_inv r1
    obtain ⟨Ca1, dx, vs, i1, i2, i3⟩ := S1.at c1 g1
    rw [hC] at i1
    cases i1
    subst f1
    refine ⟨xa, dx, vs, rfl, i2, ι1, _, st1, S1, .cons (Rep.ref g1) .nil, ?_⟩
    cases hm : mf [.ref n] st1 with
    | ok w st2 =>
      rw [hm] at q1
      intro ι' H' b l S2 r
      cases w with
      | int i =>
        dsimp only at q1
        split at q1
        · rename_i hi
          rw [Rep.int_inv r]
          exact ⟨i, rfl, hi, q1 ι' H' _ l S2 Rep.int⟩
        · exact q1.elim
      | _ => exact q1.elim
    | exc x st2 => rw [hm] at q1; exact q1.elim
    | bad => rw [hm] at q1; exact q1.elim
  · exact q1.elim
/-- C.F, a constant of the class -/
theorem je_ccon {x f : Str} {Ca : Addr} {mc u : Value} {i : Int} {p2 : Pos} (hm : X.mg x = some (.ref Ca)) (r : ClX.CRead X.K Ca mc) (hv : ClX.CVal X.K Ca mc f (.int i) u) (hg : Gl X x := by rfl) (hd : (x == ("__debug__" : Str)) = false := by decide)
    (hb : attributeBase (.Name x p) f X.env (eval (.Name x p) X.env) = eval (.Name x p) X.env := by rfl) : JE X (.Attribute (.Name x p) f p2) (mC (.int i)) := fun W tk => by
  refine PE.weak (ClX.pe_cval (pe_glob (v := .ref Ca) hg hm rfl hd) hb) fun σ H Q ⟨ι, ρ, st, S, sl, q⟩ => ?_
  exact ⟨Ca, mc, .int i, u, rfl, r, hv, q.okSame S Rep.int⟩
end
end Ab

set_option Elab.async false
set_option linter.all false
set_option maxRecDepth 100000
set_option maxHeartbeats 1000000
/-! Ab: dicts with keys that are ints or texts. -/
namespace Ab
open PySem PySem.Spec PyProof.Rows L2
def keyW : Val → Option Key
  | .int i => some (.inl i)
  | .str s => some (.inr s)
  | _ => none
def valW : List (Key × Val) → Key → Option Val
  | [], _ => none
  | (q, w) :: r, k => if q = k then some w else valW r k
def repW (k : Key) (w : Val) : List (Key × Val) → List (Key × Val)
  | [] => []
  | (q, u) :: r => (if q = k then (q, w) else (q, u)) :: repW k w r
def putW (kvs : List (Key × Val)) (k : Key) (w : Val) : List (Key × Val) := if (kvs.any fun kv => decide (kv.1 = k)) = true then repW k w kvs else kvs ++ [(k, w)]
def mergeW (kvs more : List (Key × Val)) : List (Key × Val) := more.foldl (fun acc kv => putW acc kv.1 kv.2) kvs
def unkey : Key → Val
  | .inl i => .int i
  | .inr s => .str s
section
variable {mg : Str → Option Value} {ι : List Addr} {H : Hp} {K : PySem.W.Frag}
theorem keyW_rep {w : Val} {k : Key} {v : V} (h : keyW w = some k) (r : Rep mg ι H w v) : v = kV k := by
  cases w with
  | int i => cases h; exact Rep.int_inv r
  | str s => cases h; exact Rep.str_inv r
  | _ => cases h
theorem unkey_rep {k : Key} : Rep mg ι H (unkey k) (kV k) := by
  cases k with
  | inl i => exact Rep.int
  | inr s => exact Rep.str
theorem RepK.val {k : Key} {w : Val} : ∀ {ws : List (Key × Val)} {vs : List (Key × V)}, RepK mg ι H ws vs → valW ws k = some w → ∃ v, valV vs k = some v ∧ Rep mg ι H w v
  | _, _, .nil, h => by cases h
  | (q, u) :: ws, (q', v) :: vs, .cons h t, e => by
    obtain ⟨h1, h2⟩ := h
    simp only at h1 h2
    subst h1
    unfold valW at e
    by_cases c : q = k
    · rw [if_pos c] at e
      cases e
      exact ⟨v, valV_pos c, h2⟩
    · rw [if_neg c] at e
      rw [valV_neg c]
      exact RepK.val t e
theorem RepK.any {k : Key} : ∀ {ws : List (Key × Val)} {vs : List (Key × V)}, RepK mg ι H ws vs → (ws.any fun kv => decide (kv.1 = k)) = (vs.any fun kv => decide (kv.1 = k))
  | _, _, .nil => rfl
  | (q, u) :: ws, (q', v) :: vs, .cons h t => by
    obtain ⟨h1, h2⟩ := h
    simp only at h1
    subst h1
    rw [List.any_cons, List.any_cons, RepK.any t]
theorem RepK.rep {k : Key} {w : Val} {v : V} (r : Rep mg ι H w v) : ∀ {ws : List (Key × Val)} {vs : List (Key × V)}, RepK mg ι H ws vs → RepK mg ι H (repW k w ws) (vs.map fun kv => if kv.1 = k then (kv.1, v) else kv)
  | _, _, .nil => .nil
  | (q, u) :: ws, (q', z) :: vs, .cons h t => by
    obtain ⟨h1, h2⟩ := h
    simp only at h1 h2
    subst h1
    unfold repW
    rw [List.map_cons]
    refine .cons ?_ (RepK.rep r t)
    by_cases c : q = k
    · rw [if_pos c, if_pos c]; exact ⟨rfl, r⟩
    · rw [if_neg c, if_neg c]; exact ⟨rfl, h2⟩
theorem RepK.append : ∀ {ws ws' : List (Key × Val)} {vs vs' : List (Key × V)}, RepK mg ι H ws vs → RepK mg ι H ws' vs' → RepK mg ι H (ws ++ ws') (vs ++ vs')
  | _, _, _, _, .nil, h => h
  | _, _, _, _, .cons a t, h => .cons a (RepK.append t h)
theorem RepK.put {k : Key} {w : Val} {v : V} {ws : List (Key × Val)} {vs : List (Key × V)} (h : RepK mg ι H ws vs) (r : Rep mg ι H w v) : RepK mg ι H (putW ws k w) (putK vs k v) := by
  unfold putW putK
  rw [h.any]
  split
  · exact h.rep r
  · exact h.append (.cons ⟨rfl, r⟩ .nil)
theorem RepK.length {ws : List (Key × Val)} {vs : List (Key × V)} (h : RepK mg ι H ws vs) : ws.length = vs.length := Paired.length h
theorem Sim.atD {st : Store} {n : Nat} {a : Addr} {kvs : List (Key × Val)} (S : Sim K mg ι st H) (h : st[n]? = some (.dct kvs)) (ha : ι[n]? = some a) : ∃ vs, H a = some (.dK vs) ∧ RepK mg ι H kvs vs := S.cell n _ a h ha
theorem Sim.putD {st : Store} {n : Nat} {a : Addr} {kvs : List (Key × Val)} {kvs' : List (Key × Val)} {vs vs' : List (Key × V)} (S : Sim K mg ι st H) (h : st[n]? = some (.dct kvs)) (ha : ι[n]? = some a) (hH : H a = some (.dK vs)) (r : RepK mg ι H kvs' vs') :
    Sim K mg ι (st.set n (.dct kvs')) (upd H a (.dK vs')) ∧ Later ι H ι (upd H a (.dK vs')) := by
  have l : Later ι H ι (upd H a (.dK vs')) := ⟨⟨[], by simp⟩, fun b xs e => by rw [upd_ne fun q => by subst q; rw [hH] at e; cases e]; exact e, fun b ob ks e => by rw [upd_ne fun q => by subst q; rw [hH] at e; cases e]; exact e⟩
  exact S.write (c' := .dct kvs') (o' := .dK vs') h ha rfl rfl hH (fun _ e => by cases e) (fun _ _ e => by cases e) ⟨vs', upd_same, r.later l⟩
end
/-! ### d[k] -/
/-- the items of a dict that is read -/
@[reducible] def dctAt (st : Store) (n : Nat) : Option (List (Key × Val)) := match st[n]? with
  | some (.dct kvs) => some kvs
  | some (.fdc kvs) => some kvs
  | _ => none
theorem Sim.dctL {K : PySem.W.Frag} {mg : Str → Option Value} {ι : List Addr} {st : Store} {H : Hp} (S : Sim K mg ι st H) {n : Nat} {kvs : List (Key × Val)} (h : dctAt st n = some kvs) {a : Addr} (ha : ι[n]? = some a) : ∃ vs, Rd H a (.dK vs) ∧ RepK mg ι H kvs vs := by
  unfold dctAt at h
  split at h
  · rename_i ys e
    cases h
    obtain ⟨vs, e1, r⟩ := S.cell n _ a e ha
    exact ⟨vs, .inl e1, r⟩
  · rename_i ys e
    cases h
    obtain ⟨od, vs, e1, r⟩ := S.cell n _ a e ha
    exact ⟨vs, .inr ⟨od, e1⟩, r⟩
  · cases h
@[reducible] def vDget (x y : Val) (st : Store) : R Val := match x, keyW y with
  | .ref n, some k => match dctAt st n with
    | some kvs => match valW kvs k with
      | some w => .ok w st
      | none => .bad
    | _ => .bad
  | _, _ => .bad
@[reducible] def mDget (mo mi : ME) : ME := fun ρ st => (mo ρ st).bind fun x st1 => (mi ρ st1).bind fun y st2 => vDget x y st2
section
variable {X : Cx} {o i : Expr} {mo mi : ME} {pos : Pos}
theorem je_dget (hu : X.A.units + 1 < cLine) (ho : JE X o mo) (hi : JE X i mi) (hs : NoSl i := by intro _ _; rfl) : JE X (.Subscript o i pos) (mDget mo mi) := fun W tk => by
  refine PE.weak (pe_dget hu (ho W tk) (hi W tk) hs) fun σ H Q ⟨ι, ρ, st, S, sl, p⟩ => ?_
  refine ⟨ι, ρ, st, S, sl, Post.bind p fun x st1 ι1 H1 xv l1 S1 r1 p1 => ?_⟩
  refine ⟨ι1, ρ, st1, S1, sl.later l1, Post.bind p1 fun y st2 ι2 H2 yv l2 S2 r2 p2 => ?_⟩
  have r1' := Rep.later l2 r1
  unfold vDget at p2
  split at p2
  · rename_i n k hk
    obtain ⟨a, e1, ha⟩ := Rep.ref_inv r1'
    split at p2
    · rename_i kvs ec
      obtain ⟨vs, h1, h2⟩ := S2.dctL ec ha
      split at p2
      · rename_i w hw
        obtain ⟨v, h3, h4⟩ := h2.val hw
        refine ⟨a, v, e1, ?_, p2.okSame S2 h4⟩
        rw [keyW_rep hk r2, ← h3]
        exact .inl ⟨vs, k, h1, rfl, rfl⟩
      · exact p2.elim
    · exact p2.elim
  · exact p2.elim
/-! ### d[k] = v, as a target -/
@[reducible] def gSubD (mo mi : ME) : MG := fun w ρ st => match mo ρ st with
  | .ok x st1 => match mi ρ st1 with
    | .ok y st2 => match x, keyW y with
      | .ref n, some k => match st2[n]? with
        | some (.dct kvs) => if kvs.length < 1000 then some (ρ, st2.set n (.dct (putW kvs k w))) else none
        | _ => none
      | _, _ => none
    | _ => none
  | _ => none
theorem set_dict (hu : X.A.units + 1 < cLine) : PSet X (fun o i v H Q => ∃ a H', o = .ref a ∧ DPut H a i v H' ∧ Q H') := by
  intro pins s σ H o i v ov iv u Q I ro ri rv h
  obtain ⟨a, H', rfl, g, q⟩ := h
  obtain rfl : ov = Value.ref a := ro
  exact d_setItem hu I g ri rv fun s' I' => ⟨H', I', q⟩
theorem jg_dsub (hu : X.A.units + 1 < cLine) (ho : JE X o mo) (hi : JE X i mi)
    (ha : ∀ v, assign (.Subscript o i pos) X.env v = (do
      let ov ← holding [v] (eval o X.env)
      let iv ← holding [v, ov] (eval i X.env)
      standAt pos
      holding [v, ov, iv] (setItem ov iv v)
      release [v, ov, iv] []) := by intro _; rfl) (tk : Takes X W0 := takes0) : JG X (.Subscript o i pos) [] (gSubD mo mi) :=
  PG.weak (pg_sub (ho W0 tk) (hi W0 tk) (set_dict hu) ha) fun v σ H Q ⟨ι, ρ, st, w, S, sl, r, p⟩ => by
    dsimp only [gSubD] at p
    refine ⟨ι, ρ, st, S, sl, ?_⟩
    cases q1 : mo ρ st with
    | bad => rw [q1] at p; exact p.elim
    | exc x s => rw [q1] at p; exact p.elim
    | ok x st1 =>
      rw [q1] at p
      intro ι1 H1 xv l1 S1 r1
      have sl1 := sl.later l1
      refine ⟨ι1, ρ, st1, S1, sl1, ?_⟩
      dsimp only at p
      cases q2 : mi ρ st1 with
      | bad => rw [q2] at p; exact p.elim
      | exc x s => rw [q2] at p; exact p.elim
      | ok i st2 =>
        rw [q2] at p
        intro ι2 H2 iv l2 S2 r2
        have sl2 := sl1.later l2
        dsimp only at p
        split at p
        · rename_i n k hk
          obtain ⟨a, e, hA⟩ := Rep.ref_inv r1
          have e2 := keyW_rep hk r2
          subst e e2
          have hA2 := l2.get hA
          split at p
          · rename_i kvs ec
            obtain ⟨vs, h1, rr⟩ := S2.atD ec hA2
            split at p
            · rename_i hl
              obtain ⟨S3, l3⟩ := S2.putD ec hA2 h1 (rr.put (k := k) (Rep.later (l1.trans l2) r))
              refine ⟨a, _, rfl, .inl ⟨vs, k, h1, rfl, by rw [← rr.length, sizeLine_eq]; omega, rfl⟩, ?_⟩
              exact p ι2 _ σ ((l1.trans l2).trans l3) S3 (sl2.later l3) (OutS.refl _ _)
            · exact p.elim
          · exact p.elim
        · exact p.elim
end
/-! ### {k: v, ..} -/
def pairsM : List (ME × ME) → Slots → Store → R (List (Key × Val))
  | [], _, st => .ok [] st
  | (mk, mv) :: r, ρ, st => (mk ρ st).bind fun x st1 => match keyW x with
    | some k => (mv ρ st1).bind fun y st2 => (pairsM r ρ st2).bind fun ps st3 => .ok ((k, y) :: ps) st3
    | none => .bad
@[reducible] def mDisp (prs : List (ME × ME)) : ME := fun ρ st => (pairsM prs ρ (st ++ [.dct []])).bind fun kvs st2 => match st2[st.length]? with
  | some (.dct []) => if kvs.length ≤ 15 then .ok (.ref st.length) (st2.set st.length (.dct (mergeW [] kvs))) else .bad
  | _ => .bad
section
variable {X : Cx} {k v : Expr} {ks : List (Option Expr)} {vs : List Expr} {mk mv : ME} {prs : List (ME × ME)} {pos : Pos}
end
/-! ### list(d.items()) -/
@[reducible] def mItems (m : ME) : ME := fun ρ st => (m ρ st).bind fun x st1 => match x with
  | .ref n => match st1[n]? with
    | some (.dct kvs) => .ok (.ref st1.length) (st1 ++ [.lst (kvs.map fun kv => .tup [unkey kv.1, kv.2])])
    | _ => .bad
  | _ => .bad

theorem items_rep {mg : Str → Option Value} {ι : List Addr} {H : Hp} : ∀ {kvs : List (Key × Val)} {vs : List (Key × V)} {ts : List Addr}, RepK mg ι H kvs vs → Paired (fun (t : Addr) (q : Key × V) => H t = some (.tup [kV q.1, q.2])) ts vs → Reps mg ι H (kvs.map fun kv => .tup [unkey kv.1, kv.2]) (ts.map V.ref)
  | _, _, _, .nil, .nil => .nil
  | (kk, ww) :: _, _, _, .cons a b, .cons h tl => by
    obtain ⟨a1, a2⟩ := a
    simp only at a1 a2
    refine .cons ?_ (items_rep b tl)
    rw [Rep]
    refine ⟨_, _, rfl, h, .cons ?_ (.cons a2 .nil)⟩
    rw [← a1]
    exact unkey_rep
section
variable {X : Cx} {e : Expr} {m : ME} {p apos cpos pos : Pos}
theorem je_listItems (hc : X.calm = true) (hm : X.mg "list" = none) (he : JE X e m) (hg : Gl X "list" := by rfl) (hbase : attributeBase e "items" X.env (eval e X.env) = eval e X.env := by rfl) (hline : (apos.endLine == cpos.line) = true := by rfl)
    (hs : starEach [.Call (.Attribute e "items" apos) [] [] cpos] X.env = (false, eval (.Call (.Attribute e "items" apos) [] [] cpos) X.env) :: starEach [] X.env := by rfl) :
    JE X (.Call (.Name "list" p) [.Call (.Attribute e "items" apos) [] [] cpos] [] pos) (mItems m) := fun W tk => by
  refine PE.weak (LiI.pe_listItems hc (he W tk) hg hm Boot.list hbase hline hs) fun σ H Q ⟨ι, ρ, st, S, sl, q⟩ => ?_
  refine ⟨ι, ρ, st, S, sl, Post.bind q fun x st1 ι1 H1 xv l1 S1 r1 p1 => ?_⟩
  split at p1
  · rename_i n
    obtain ⟨a, e1, ha⟩ := Rep.ref_inv r1
    split at p1
    · rename_i kvs ec
      obtain ⟨vs, h1, h2⟩ := S1.atD ec ha
      refine ⟨a, vs, e1, h1, fun H' q ts hsm hq hts hqt hl hp => ?_⟩
      have r := items_rep (h2.later (Same.laterH (ι := ι1) hsm)) hp
      obtain ⟨S2, l2⟩ := S1.push (c := .lst (kvs.map fun kv => .tup [unkey kv.1, kv.2])) hq hsm ⟨ts.map V.ref, hl, r.later ⟨⟨[q], rfl⟩, fun b xs e => e, fun _ _ _ e => e⟩⟩
      exact p1 _ H' _ l2 S2 (Rep.ref (by rw [← S1.len, List.getElem?_append_right (Nat.le_refl _)]; simp))
    · exact p1.elim
  · exact p1.elim
end
/-! ### {k: v for ..} -/
open Classical in
noncomputable def dcM (g : MG) (t : MT) (mk mv : ME) (okp : Store → Prop) (D : Nat) (ρ : Slots) : List Val → Store → R Val
  | [], st => if okp st then .ok (.ref D) st else .bad
  | w :: ws, st => if okp st then match g w ρ st with
      | none => .bad
      | some (ρ1, st1) => ((t ρ1 st1).noX).bind fun k st2 =>
        if k = true then ((mk ρ1 st2).noX).bind fun x st3 => ((mv ρ1 st3).noX).bind fun y st4 => match st4[D]?, keyW x with
          | some (.dct acc), some kk => if acc.length < 1000 then dcM g t mk mv okp D ρ ws (st4.set D (.dct (putW acc kk y))) else .bad
          | _, _ => .bad
        else dcM g t mk mv okp D ρ ws st2
    else .bad
@[reducible] noncomputable def mDc (mi : MI) (g : MG) (t : MT) (mk mv : ME) (vs : List Nat) : ME := fun ρ st => (mi ρ st).bind fun it st1 => dcM g t mk mv it.2 st1.length (wipeM ρ vs) it.1 (st1 ++ [.dct []])
section
variable {X : Cx} {kx vx tg iter : Expr} {ifs : List Expr} {scope : Scope} {own : List (Str × Nat)} {pos : Pos} {mi : MI} {g : MG} {t : MT} {mk mv : ME}
theorem dc_read {W : WX} {σ : L2.St} {H : Hp} {Q : VK} (h : rdG X.K X.mg (rel1 X.mg) W (mDc mi g t mk mv (ixs own)) σ H Q) :
    tDc (rdG X.K X.mg (relI X.K X.mg) W mi) (rdT X.K X.mg (ixs own) g) (rdG X.K X.mg relB W0 t) (rdG X.K X.mg (rel1 X.mg) W0 mk) (rdG X.K X.mg (rel1 X.mg) W0 mv) (ixs own) σ H Q := by
  obtain ⟨ι, ρ, st, S, sl, p⟩ := h
  refine ⟨ι, ρ, st, S, sl, Post.bind p fun it st1 ι1 H1 J l1 S1 r1 p1 => fun D hD => ?_⟩
  obtain ⟨items, okp⟩ := it
  have r1 : IsIt X.K X.mg items okp ι1 H1 J := r1
  have sl1 := wipeM_ok (sl.later l1) (ixs own)
  have hs := same_new (o := .dK []) hD
  obtain ⟨S2, l2⟩ := S1.push (c := .dct []) hD hs ⟨[], upd_same, .nil⟩
  have hDi : (ι1 ++ [D])[st1.length]? = some D := by rw [← S1.len, List.getElem?_append_right (Nat.le_refl _)]; simp
  refine ⟨fun i m H' => ∃ ι' st', Later (ι1 ++ [D]) (upd H1 D (.dK [])) ι' H' ∧ Sim X.K X.mg ι' st' H' ∧ m = items.length - i ∧ i ≤ items.length ∧ Post X.K X.mg (rel1 X.mg) ι' H' Q (fun c d H' => W c d σ H') (dcM g t mk mv okp st1.length (wipeM ρ (ixs own)) (items.drop i) st'),
    ⟨items.length, ι1 ++ [D], st1 ++ [.dct []], Later.refl _ _, S2, by simp, Nat.zero_le _, by simpa using Post.later p1 l2⟩, ?_⟩
  rintro i m H3 ⟨ι3, st3, l3, S3, rfl, hi, p3⟩
  have l13 := l2.trans l3
  by_cases hlt : i < items.length
  · rw [List.drop_eq_getElem_cons hlt] at p3
    unfold dcM at p3
    split at p3
    · rename_i hok
      refine .inr ⟨r1.go i ι3 H3 st3 l13 S3 hok hlt, fun H4 => ∃ ι4 st4, Later (ι1 ++ [D]) (upd H1 D (.dK [])) ι4 H4 ∧ Sim X.K X.mg ι4 st4 H4 ∧ Post X.K X.mg (rel1 X.mg) ι4 H4 Q (fun c d H' => W c d σ H') (dcM g t mk mv okp st1.length (wipeM ρ (ixs own)) (items.drop (i + 1)) st4), ?_, ?_⟩
      · rintro H4 ⟨ι4, st4, l4, S4, p4⟩
        exact ⟨items.length - (i + 1), by omega, ι4, st4, l4, S4, rfl, hlt, p4⟩
      · intro x H4 hy
        obtain ⟨l4, S4, w, hw, rw_⟩ := r1.yld i ι3 H3 st3 x H4 l13 S3 hok hlt hy
        have hw' : items[i] = w := by rw [List.getElem?_eq_getElem hlt] at hw; exact Option.some.inj hw
        rw [hw'] at p3
        refine ⟨ι3, wipeM ρ (ixs own), st3, w, S4, sl1.later (l13.trans l4), rw_, ?_⟩
        cases q : g w (wipeM ρ (ixs own)) st3 with
        | none => rw [q] at p3; exact p3.elim
        | some z =>
          obtain ⟨ρ5, st5⟩ := z
          rw [q] at p3
          dsimp only at p3
          intro ι5 H5 σ5 l5 S5 sl5 o5
          have l15 := (l3.trans l4).trans l5
          have p5 := Post.later (Post.later p3 l4) l5
          refine ⟨wipe_same o5, ι5, ρ5, st5, S5, sl5, ?_⟩
          refine Post.noX (E := fun c d H' => W c d σ H') (Post.bind p5 fun k st6 ι6 H6 k' l6 S6 r6 p6 => ?_)
          have r6 : k = k' := r6
          subst r6
          have sl6 := sl5.later l6
          have l16 := l15.trans l6
          cases k with
          | false =>
            rw [if_neg Bool.false_ne_true] at p6
            exact iteF ⟨ι6, st6, l16, S6, p6⟩
          | true =>
            rw [if_pos rfl] at p6
            refine iteT ⟨ι6, ρ5, st6, S6, sl6, ?_⟩
            refine Post.noX (E := fun c d H' => W c d σ H') (Post.bind p6 fun x7 st7 ι7 H7 xv l7 S7 r7 p7 => ?_)
            refine ⟨ι7, ρ5, st7, S7, sl6.later l7, ?_⟩
            refine Post.noX (E := fun c d H' => W c d σ H') (Post.bind p7 fun y st8 ι8 H8 yv l8 S8 r8 p8 => ?_)
            have l18 := (l16.trans l7).trans l8
            have hD8 := l18.get hDi
            split at p8
            · rename_i acc kk eacc ekk
              obtain ⟨vs, hvs, rvs⟩ := S8.atD eacc hD8
              split at p8
              · rename_i hz
                obtain ⟨S9, l9⟩ := S8.putD eacc hD8 hvs (rvs.put (k := kk) r8)
                exact ⟨vs, kk, keyW_rep ekk r7, hvs, by rw [← rvs.length, sizeLine_eq]; omega, ι8, _, l18.trans l9, S9, Post.later p8 l9⟩
              · exact p8.elim
            · exact p8.elim
    · exact p3.elim
  · have hle : items.length ≤ i := by omega
    rw [List.drop_eq_nil_of_le hle] at p3
    unfold dcM at p3
    split at p3
    · rename_i hok
      exact .inl ⟨r1.stop i ι3 H3 st3 l13 S3 hok (by omega), p3.okSame S3 (Rep.ref (l3.get hDi))⟩
    · exact p3.elim
theorem je_dc (hc : X.calm = true) (hN : X.N.Nodup) (own : List (Str × Nat)) (hi : JI X tg iter mi) (ok : blkC X.N X.env.scope scope own = true)
    (hg : ∀ (s : Shared) (H : Hp) (C : Addr) (cl : List (Str × Addr)) (fp : List Addr), JG (X.blk s H scope (compEnvC scope cl C X.env) fp) tg (ixs own) g) (ht : ∀ (s : Shared) (H : Hp) (C : Addr) (cl : List (Str × Addr)) (fp : List Addr), JTs (X.blk s H scope (compEnvC scope cl C X.env) fp) ifs t)
    (hk : ∀ (s : Shared) (H : Hp) (C : Addr) (cl : List (Str × Addr)) (fp : List Addr), JE (X.blk s H scope (compEnvC scope cl C X.env) fp) kx mk)
    (he : ∀ (s : Shared) (H : Hp) (C : Addr) (cl : List (Str × Addr)) (fp : List Addr), JE (X.blk s H scope (compEnvC scope cl C X.env) fp) vx mv) (hs : ∀ x, foldedSetIterable iter X.env x = pure x := by intro _; rfl) :
    JE X (.DictComp kx vx [⟨tg, iter, ifs, 0⟩] scope pos) (mDc mi g t mk mv (ixs own)) := fun W tk =>
  PE.weak (pe_dc (wi := rdG X.K X.mg (relI X.K X.mg) W mi) (g := rdT X.K X.mg (ixs own) g) (tt := rdG X.K X.mg relB W0 t) (tk := rdG X.K X.mg (rel1 X.mg) W0 mk) (tv := rdG X.K X.mg (rel1 X.mg) W0 mv) hc hN (hi W tk) (blkOk_by ok) (fun s H C cl fp => hg s H C cl fp) (fun s H C cl fp => ht s H C cl fp W0 takes0) (fun s H C cl fp => hk s H C cl fp W0 takes0)
    (fun s H C cl fp => he s H C cl fp W0 takes0) hs) fun σ H Q h => dc_read h
end
end Ab

set_option Elab.async false
set_option linter.all false
set_option maxRecDepth 100000
set_option maxHeartbeats 1000000
/-! Ab: a tuple or a list times an int. -/
namespace L2
open PySem PySem.Spec PyProof.Rows
theorem tuple_mul1 (l : Addr) (items : Array Value) (n : Nat) (dd : Option Addr) (sl : Array (Option Value)) (u : Tok) :
    Meets (Builtin.«tuple.__mul__» ⟨[.ref l, .int 1 u], []⟩) (fun _ R s => s.heap.get? l = some { cls := .type "tuple", dict := dd, data := .seq items n, slots := sl } ∧ R (.ok (.ret (Value.ref l))) s) :=
  .of_wp fun prog w A R s h => by
    obtain ⟨hp, g, d, tk, os⟩ := s
    obtain ⟨hl, h⟩ := h
    have f1 := AutoSeq1.idx_int
    have c0 : (decide ((1 : Int) < -(2 ^ 63)) || decide ((1 : Int) ≥ 2 ^ 63)) = false := by decide
    have c1 : (items.isEmpty || (1 : Int) == 1) = true := by simp
    wp_walk using wpAny_loadPart' hl
    repeat (first
      | (refine wpAny_ite_false (decide_eq_false (by rw [c0]; exact Bool.false_ne_true)) ?_; wp_walk using wpAny_loadPart' hl)
      | (refine wpAny_ite_true (decide_eq_true (by rw [c1])) ?_; wp_walk using wpAny_loadPart' hl))
    exact ⟨_, rfl, h⟩

theorem op_repT1 {X : Cx} : OpR X (binaryOp .Mult) (fun x y H Q => ∃ l xs, x = .ref l ∧ y = .int 1 ∧ SqT X.K H l xs ∧ Q (.ref l) H) := by
  intro pins s σ H x y v u Q I rx ry h
  obtain ⟨l, xs, rfl, rfl, hT, q⟩ := h
  cases rx
  obtain ⟨t, rfl⟩ := ry
  obtain ⟨its, r, ⟨⟨cls, dd, data, sl⟩, ho, hc, n, hd⟩, hs⟩ := I.tuple hT
  simp only at hc hd
  subst hc hd
  refine wpAny_binaryOp_repeat_ref (T := "tuple") (U := "int") (by decide) ⟨_, ho, rfl⟩ (fun s' => typeIs_int s' 1 t) noFill_tuple_mul F.fills_int_mul F.slot_int_rmul repeat_tuple F.slot_int_index.lookup
    (call_meets F.slot_int_rmul (typeIs_int s 1 t) F.entry_int_rmul (F.args_int_rmul_2 _ _) (int_rmul_tuple 1 t l its.toArray n dd sl)
      ⟨ho, rfl, ⟨_, ho, rfl⟩, call_meets F.slot_tuple_mul ⟨_, ho, rfl⟩ F.entry_tuple_mul (F.args_tuple_mul_2 _ _) (tuple_mul1 l its.toArray n dd sl t) ⟨ho, ?_⟩⟩)
  exact ⟨.ref l, H, I, rfl, q⟩
end L2
namespace Ab
open PySem PySem.Spec PyProof.Rows L2
def repW' (k : Nat) (xs : List Val) : List Val := (List.replicate k xs).flatten
theorem Reps.rep {mg : Str → Option Value} {ι : List Addr} {H : Hp} {xs : List Val} {vs : List V} (r : Reps mg ι H xs vs) : ∀ k : Nat, Reps mg ι H (repW' k xs) (List.replicate k vs).flatten
  | 0 => .nil
  | k + 1 => by
    unfold repW'
    rw [List.replicate_succ, List.replicate_succ, List.flatten_cons, List.flatten_cons]
    exact r.append (Reps.rep r k)
/-- t * k, t a tuple that is not empty -/
@[reducible] def vRepT : Val → Val → Store → R Val
  | .tup xs, .int k, st => if xs ≠ [] ∧ 1 ≤ k ∧ k ≤ 1000 ∧ xs.length ≤ 1000 then .ok (.tup (repW' k.toNat xs)) st else .bad
  | _, _, _ => .bad
theorem quiet_repT (x y : Val) (st : Store) : Quiet (vRepT x y st) := by
  intro e s h
  unfold vRepT at h
  split at h
  · split at h <;> cases h
  · cases h
section
variable {X : Cx}
theorem m2_repT : M2 X (binaryOp .Mult) vRepT := by
  rintro pins s σ H x y u1 u2 Q I rx ry ⟨ι, st, w1, w2, S, r1, r2, p⟩
  unfold vRepT at p
  split at p
  · rename_i xs k
    obtain ⟨a, vs, e1, ha, r⟩ := Rep.tup_inv r1
    have e2 := Rep.int_inv r2
    subst e1 e2
    split at p
    · rename_i hh
      obtain ⟨h0, h1, h2, h3⟩ := hh
      by_cases hk : k = 1
      · subst hk
        refine op_repT1 pins s σ H _ _ u1 u2 Q I rx ry ⟨a, vs, rfl, rfl, SqT.of ha, ?_⟩
        have e : repW' (1 : Int).toNat xs = xs := by simp [repW']
        rw [e] at p
        exact p.okSame S r1
      · refine op_repT pins s σ H _ _ u1 u2 Q I rx ry ⟨a, k, vs, rfl, rfl, SqT.of ha, ?_, by omega, h2, by rw [← r.length]; exact h3, fun q hq => ?_⟩
        · intro e
          have := r.length
          rw [e] at this
          exact h0 (List.eq_nil_of_length_eq_zero this)
        · exact p.newTup S (r.rep _) hq
    · exact p.elim
  · exact p.elim
end
end Ab

set_option Elab.async false
set_option linter.all false
set_option maxRecDepth 100000
set_option maxHeartbeats 1000000
/-! Ab: += and -= of ints; an attribute as a target. -/
namespace Ab
open PySem PySem.Spec PyProof.Rows L2
@[reducible] def vIAdd : Val → Val → Store → R Val
  | .int i, .int j, st => .ok (.int (i + j)) st
  | _, _, _ => .bad
@[reducible] def vISub : Val → Val → Store → R Val
  | .int i, .int j, st => .ok (.int (i - j)) st
  | _, _, _ => .bad
theorem quiet_iadd (x y : Val) (st : Store) : Quiet (vIAdd x y st) := by
  intro e s h; unfold vIAdd at h; split at h <;> cases h
theorem quiet_isub (x y : Val) (st : Store) : Quiet (vISub x y st) := by
  intro e s h; unfold vISub at h; split at h <;> cases h
section
variable {X : Cx}
theorem m2_iadd : M2 X (inplaceOp .Add) vIAdd := by
  rintro pins s σ H x y u1 u2 Q I rx ry ⟨ι, st, w1, w2, S, r1, r2, p⟩
  unfold vIAdd at p
  split at p
  · have e1 := Rep.int_inv r1; have e2 := Rep.int_inv r2
    subst e1 e2
    exact iop_add pins s σ H _ _ u1 u2 Q I rx ry ⟨_, _, rfl, rfl, p.okSame S Rep.int⟩
  · exact p.elim
theorem m2_isub : M2 X (inplaceOp .Sub) vISub := by
  rintro pins s σ H x y u1 u2 Q I rx ry ⟨ι, st, w1, w2, S, r1, r2, p⟩
  unfold vISub at p
  split at p
  · have e1 := Rep.int_inv r1; have e2 := Rep.int_inv r2
    subst e1 e2
    exact iop_sub pins s σ H _ _ u1 u2 Q I rx ry ⟨_, _, rfl, rfl, p.okSame S Rep.int⟩
  · exact p.elim
end
/-- o.f as a target -/
@[reducible] def gFld (cs : List Nat) (f : Nat) (mo : ME) : MG := fun w ρ st => match mo ρ st with
  | .ok x st1 => match x with
    | .ref n => match st1[n]? with
      | some (.ins C fs) => if C ∈ cs ∧ fs.length < 1000 then some (ρ, st1.set n (.ins C (putM f w fs))) else none
      | _ => none
    | _ => none
  | _ => none
end Ab
namespace Ab
open PySem PySem.Spec L2
/-- the context of a def's body at its entry -/
abbrev cx1 (T : Wh) (N : List Str) (qual : Str) (st : Stmt) (f : Addr) (cdv : Value) (A : Around) (outer : List Env) (s : Shared) (H : Hp) (E : XK) : Cx := cxOf (L2.CX T.P T.w) T.P T.w T.K T.mg T.base N qual (defScope st) f cdv A outer s H E
theorem cx1_pass {T : Wh} {N : List Str} {qual : Str} {st : Stmt} {f : Addr} {cdv : Value} {A : Around} {outer : List Env} {s : Shared} {H : Hp} {E : XK} : PassesOwn (model (cx1 T N qual st f cdv A outer s H E).prog (cx1 T N qual st f cdv A outer s H E).w) (cx1 T N qual st f cdv A outer s H E).A (cx1 T N qual st f cdv A outer s H E).env (cx1 T N qual st f cdv A outer s H E).xe := passes_of rfl
/-- THE RULE for a def, the context told -/
theorem fnM_of1 {T : Wh} {x qual : Str} {st : Stmt} {f : Addr} {fd : FuncData} {N ps : List Str} {k n m : Nat} {body : MS} (F : Fun T.K x qual st f fd) (hb : Binds T.K fd ps []) (S : FnScope N ps (defScope st)) (hn : ps.length = n) (hm : N.length = n + m)
    (h : ∀ (cdv : Value) (A : Around) (outer : List Env) (s : Shared) (H : Hp) (E : XK), Room k (cx1 T N qual st f cdv A outer s H E).A → JSs (cx1 T N qual st f cdv A outer s H E) (defBody st) body) :
    FnM T (k + 1) n f (defM n m body) := by
  refine ⟨fd, ps, hn, F.kp, hb, F.okX S (fun vs H Q E hsp => ?_) (fun cdv A outer s H vs Q E hr hsp => ?_)⟩
  · obtain ⟨ι, ws, st', S', r, p⟩ := hsp
    unfold defM at p
    split at p
    · rename_i hl
      rw [← r.length, hl, hn]
    · exact p.elim
  · obtain ⟨ι, ws, st', S', r, p⟩ := hsp
    unfold defM at p
    split at p
    · rename_i hl
      have j := h cdv A outer s H E hr
      refine ⟨_, j (fun cls d _ H => E cls d H) (takes_of rfl rfl rfl rfl), ι, _, st', S', slots_start r (by rw [hl]; exact hm), ?_⟩
      show PostO T.K T.mg _ ι H _ (body (ws.map some ++ List.replicate m none) st')
      cases q : body (ws.map some ++ List.replicate m none) st' with
      | nx ρ s1 => rw [q] at p; exact fun ι1 H1 σ1 l S1 sl => p ι1 H1 _ l S1 Rep.non
      | ret w s1 => rw [q] at p; exact p
      | exc x ρ s1 => rw [q] at p; exact fun ι1 H1 σ1 c d l S1 sl r => p ι1 H1 c d l S1 r
      | brk ρ s1 => rw [q] at p; exact p.elim
      | ct ρ s1 => rw [q] at p; exact p.elim
      | bad => rw [q] at p; exact p.elim
    · exact p.elim
theorem tbl1 {P : Nat → MF → Prop} {C : Nat} {mf : MF} (h : P C mf) : ∀ C' mf', (C', mf') ∈ [(C, mf)] → P C' mf' := fun C' mf' hm => by
  cases List.mem_singleton.mp hm
  exact h
theorem fld1 {P : Nat → Prop} {C : Nat} (h : P C) : ∀ D ∈ [C], P D := fun D hm => by
  cases List.mem_singleton.mp hm
  exact h
theorem fnMR_of1 {T : Wh} {x qual : Str} {st : Stmt} {f : Addr} {fd : FuncData} {N ps : List Str} {pv : Str} {k n m : Nat} {body : MS} (F : Fun T.K x qual st f fd) (S : FnScope N (ps ++ [pv]) (defScope st)) (hn : ps.length = n) (hm : N.length = n + 1 + m)
    (hb : ∀ (kV doc pm : Value) (an : Option Addr) (cdv ct : Value) (us rest : List Value), us.length = ps.length → bindArgs (PySem.W.fnOf x qual (defArgs st) (defBody st) (defScope st) .none kV doc pm an cdv ct) ⟨us ++ rest, []⟩ = (newTuple rest >>= fun t => pure (ps.zip us ++ [(pv, t)])))
    (h : ∀ (cdv : Value) (A : Around) (outer : List Env) (s : Shared) (H : Hp) (E : XK), Room k (cx1 T N qual st f cdv A outer s H E).A → JSs (cx1 T N qual st f cdv A outer s H E) (defBody st) body) :
    FnMR T (k + 1) f (defStarM n m body) := by
  obtain ⟨oc, od, kV, doc, pm, an, cdv, ct, osl, rfl, lk, hcd⟩ := F.ex
  refine ⟨F.kp, FnR.imp (StX.fn_star (ps := ps) (pv := pv) (sp := fun vs H Q E => ∃ ι ws st', Sim T.K T.mg ι st' H ∧ Reps T.mg ι H ws vs ∧ ws.length = n + 1 ∧ Post T.K T.mg (rel1 T.mg) ι H Q E (body (ws.map some ++ List.replicate m none) st').fin) lk hcd S StX.cxUp (hb kV doc pm an cdv ct) fun A outer s H vs Q E hr hsp => ?_) fun vs H Q E hsp => ?_⟩
  · obtain ⟨ι, ws, st', S', r, hl, p⟩ := hsp
    have j := h cdv A outer s H E hr
    refine ⟨_, j (fun cls d _ H => E cls d H) (takes_of rfl rfl rfl rfl), ι, _, st', S', slots_start r (by rw [hl]; exact hm), ?_⟩
    show PostO T.K T.mg _ ι H _ (body (ws.map some ++ List.replicate m none) st')
    cases q : body (ws.map some ++ List.replicate m none) st' with
    | nx ρ s1 => rw [q] at p; exact fun ι1 H1 σ1 l S1 sl => p ι1 H1 _ l S1 Rep.non
    | ret w s1 => rw [q] at p; exact p
    | exc x ρ s1 => rw [q] at p; exact fun ι1 H1 σ1 c d l S1 sl r => p ι1 H1 c d l S1 r
    | brk ρ s1 => rw [q] at p; exact p.elim
    | ct ρ s1 => rw [q] at p; exact p.elim
    | bad => rw [q] at p; exact p.elim
  · obtain ⟨ι, ws, st', S', r, p⟩ := hsp
    unfold defStarM at p
    split at p
    · rename_i hl
      have lv := r.length
      have r1 : Reps T.mg ι H (ws.take n) (vs.take n) := r.take n
      have r2 : Reps T.mg ι H (ws.drop n) (vs.drop n) := r.drop n
      refine ⟨vs.take n, vs.drop n, (List.take_append_drop n vs).symm, by rw [List.length_take, hn]; omega, by rw [List.length_drop, sizeLine_eq]; omega, fun q hq => ?_⟩
      have hs := same_new (o := .tup (vs.drop n)) hq
      refine ⟨ι, _, st', S'.same hs, (r1.later (Same.laterH hs)).append (.cons (Rep.newTup hq r2) .nil), by rw [List.length_append, List.length_take]; simp; omega, Post.later p (Same.laterH hs)⟩
    · exact p.elim
end Ab

set_option Elab.async false
set_option linter.all false
set_option maxRecDepth 100000
set_option maxHeartbeats 4000000
/-! Ab: the except suite of _law_outcome, as a mirror, and what it tells. -/
namespace Ab
open PySem PySem.Spec PyProof.Rows L2
def k3 (D : Nat) : List Val := [.bl (decide (D = 9)), .bl (decide (D = 10)), .bl (decide (D = 4))]
def k5 (D : Nat) : List Val := [.bl (decide (D = 7)), .bl (decide (D = 1)), .bl (decide (D = 8))]
def k7 (D : Nat) : List Val := [.bl (decide (D = 6)), .bl (decide (D = 2))]
end Ab

set_option Elab.async false
set_option linter.all false
set_option maxRecDepth 100000
set_option maxHeartbeats 1000000
/-! Ab: calls of objects (own __call__). -/
namespace Ab
open PySem PySem.Spec PyProof.Rows L2
theorem callWith_obj {M : Model} {A : Around} {E : Value → Shared → Prop} {s : Shared} {pos : Pos} {x : Addr} {first : List Value} {Q : Value → Shared → Prop} {args : List (Bool × Sem Value)} {keywords : List (Option Str × Sem Value)} (hplain : (args.any (·.1) || keywords.any (·.1.isNone)) = false)
    (h : wpAny M A (evalArgs (.ref x) true args keywords) (fun a s₁ => (∃ C ox od, ox.data = .plain ∧ PySem.W.InstAt s₁.heap x ox C od) ∧ wpAny M A (call (.ref x) (first ++ a.pos) a.kw) Q E s₁) E s) : wpAny M A (callWith pos (.ref x) first args keywords) Q E s := by
  unfold callWith
  refine wpAny_bind (wpAny_holding (wpAny_mono h (fun a s₁ h₁ => wpAny_bind (wpAny_standAt ?_)) fun _ _ y => y))
  obtain ⟨⟨C, ox, od, hd, I⟩, h2⟩ := h₁
  have L := PySem.W.kco_keeper (M := M) I hd
  simp only [hplain]
  refine wpAny_bind (L.here ?_)
  have tail : ∀ {t : Sem Value}, wpAny M A t Q E s₁ → wpAny M A (t >>= fun r => holding [r] point >>= fun _ => pure r) Q E s₁ :=
    fun ht => wpAny_bind (wpAny_mono ht (fun r s₂ hr => wpAny_bind (wpAny_holding (wpAny_point (wpAny_pure hr)))) fun _ _ y => y)
  exact tail (wpAny_operateT h2)
/-- a __call__ of the class of that number -/
def HasCall (T : Wh) (C : Nat) (k n : Nat) (mf : MF) : Prop := ∃ Ca f, T.mg (nm C) = some (.ref Ca) ∧ PySem.W.findIn T.K (.ref Ca) "__call__" = some (some (.ref f)) ∧ PySem.W.isFn T.K (.ref f) = true ∧ PySem.W.fnIn T.K f = true ∧ FnM T k n f mf
@[reducible] def mCall (C : Nat) (mf : MF) (mo : ME) (t : MA) : ME := fun ρ st => (mo ρ st).bind fun x st1 => if isIns C st1 x = true then (t ρ st1).bind fun vs st2 => if isIns C st2 x = true then mf (x :: vs) st2 else .bad else .bad
section
variable {X : Cx} {k n : Nat} {x : Str} {e : Expr} {es : List Expr} {mo : ME} {t : MA} {p pos : Pos} {mf : MF} {C : Nat}
theorem je_callO (h : HasCall (Cx.wh X) C k n mf) (hr : Room k X.A) (ho : JE X (.Name x p) mo) (ha : JA X (e :: es) t)
    (he : starEach (e :: es) X.env = (false, eval e X.env) :: starEach es X.env := by rfl) (hpl : (backTo pos (starEach es X.env)).any (·.1) = false := by rfl) : JE X (.Call (.Name x p) (e :: es) [] pos) (mCall C mf mo t) := fun W tk => by
  obtain ⟨Ca, f, hC, hs, hf, hfn, fd, ps, hl, hkp, hbd, F⟩ := h
  have hC : X.mg (nm C) = some (.ref Ca) := hC
  refine ⟨fun pins s σ H Q I ⟨ι, ρ, st, S, sl, q⟩ => ?_⟩
  refine wpAny_Call_Name_kw (thn ((ho W tk).run pins s σ H (fun v H1 => ∃ a, v = .ref a ∧ rdG X.K X.mg (relL X.mg) W t σ H1 (fun vs H2 => (∃ dx fs, H2 a = some (.ins Ca dx fs)) ∧ spM X.K X.mg mf (.ref a :: vs) H2 Q (WE W σ))) I ⟨ι, ρ, st, S, sl, Post.bind q fun v st1 ι1 H1 xv l1 S1 r1 p1 => ?_⟩) fun u s1 ⟨v, H1, I1, r1, a, ev, q1⟩ => ?_)
  · split at p1
    · rename_i hh
      obtain ⟨m, fs, e1, c1⟩ := isIns_at hh
      subst e1
      obtain ⟨xa, f1, g1⟩ := Rep.ref_inv r1
      subst f1
      refine ⟨xa, rfl, ι1, ρ, st1, S1, sl.later l1, Post.bind p1 fun vs st2 ι2 H2 us l2 S2 r2 p2 => ?_⟩
      split at p2
      · rename_i hh2
        obtain ⟨m2, fs2, e2, c2⟩ := isIns_at hh2
        cases e2
        obtain ⟨ya, f2, g2⟩ := Rep.ref_inv (Rep.later l2 (Rep.ref (mg := X.mg) g1))
        cases f2
        obtain ⟨Ca1, dx, vs1, i1, i2, i3⟩ := S2.at c2 g2
        rw [hC] at i1
        cases i1
        exact ⟨⟨dx, vs1, i2⟩, ι2, _, st2, S2, .cons (Rep.ref g2) r2, p2⟩
      · exact p2.elim
    · exact p1.elim
  · subst ev
    obtain rfl : u = Value.ref a := r1
    rw [he]
    refine callWith_obj (by show ((false || (backTo pos (starEach es X.env)).any (·.1)) || false) = false; rw [hpl]; rfl) (PySem.Calls.evalArgs_plain ?_)
    have := (ha W tk).run pos pins s1 σ H1 _ I1 q1
    rw [he] at this
    refine thn this fun us s2 ⟨vs, H2, I2, r, ⟨dx, fs, ea⟩, q2⟩ => ?_
    obtain ⟨mA, O, _⟩ := ins_get I2.hok ea
    obtain ⟨od, J, _⟩ := O.look
    refine ⟨⟨Ca, _, _, rfl, J⟩, ?_⟩
    have r' : Vals (V.ref a :: vs) (Value.ref a :: us) := .cons rfl r
    have hl2 : (Value.ref a :: us).length = ps.length := by rw [← r'.length]; exact F.len _ _ _ _ q2
    have b := hbd s2 (Value.ref a :: us) I2.kIn (by rw [List.append_nil]; exact hl2)
    rw [List.append_nil] at b
    refine wpAny_call (PySem.W.kco_code I2.kIn J rfl hs hf hfn (codeAny_mono (F.run X.A X.stack s2 H2 ⟨Value.ref a :: us, []⟩ (Value.ref a :: us) _ Q (WE W σ) hr I2.env0 b r' q2) fun r s' hq => ?_))
    cases r with
    | error er => exact passAt tk σ pins H2 s2 er s' I2 hq
    | ok fl =>
      cases fl with
      | ret u => exact I2.after hq
      | next => exact False.elim hq
      | brk => exact False.elim hq
      | cont => exact False.elim hq
end
end Ab

set_option Elab.async false
set_option linter.all false
set_option maxRecDepth 100000
set_option maxHeartbeats 1000000
/-! Ab: sums of tuples; own in, [], - (a text on the right), == and !=. -/
namespace Ab
open PySem PySem.Spec PyProof.Rows L2
def bSumT : List Val → Store → R Val
  | [.tup xs], st => match asInts xs with
    | some ns => .ok (.int ns.sum) st
    | none => .bad
  | _, _ => .bad
section
variable {X : Cx}
end

/-- an own method of two that raises nothing and hands back a truth -/
def truR (C : Nat) (mf : MF) (neg : Bool) (x y : Val) (st : Store) : R Val := if isIns C st x = true then match mf [x, y] st with
    | .ok (.bl b) st2 => .ok (.bl (if neg then !b else b)) st2
    | _ => .bad
  else .bad
def vInO (C : Nat) (mf : MF) : Val → Val → Store → R Val := fun x y st => truR C mf false y x st
def vNinO (C : Nat) (mf : MF) : Val → Val → Store → R Val := fun x y st => truR C mf true y x st
def vEqO (C : Nat) (mf : MF) : Val → Val → Store → R Val := fun x y st => if isIns C st y = true then truR C mf false x y st else .bad
def vNeO (C : Nat) (mf : MF) : Val → Val → Store → R Val := fun x y st => if isIns C st y = true then truR C mf true x y st else .bad
section
variable {X : Cx} {k : Nat} {mf : MF} {C : Nat}
end
/-- e[i] by an own __getitem__ -/
@[reducible] def mGetO (C : Nat) (mf : MF) (ma mb : ME) : ME := fun ρ st => (ma ρ st).bind fun x st1 => (mb ρ st1).bind fun y st2 => if isIns C st2 x = true then mf [x, y] st2 else .bad
section
variable {X : Cx} {k : Nat} {mf : MF} {C : Nat} {a b : Expr} {ma mb : ME} {pos : Pos} {op : Operator}
/-- a - b with a text on the right, a's own operator -/
def HasOpT (T : Wh) (C : Nat) (op : Operator) (k : Nat) (mf : MF) : Prop := ∃ (Ca f : Addr) (fo ro rc : Option Value), T.mg (nm C) = some (.ref Ca) ∧ PySem.W.selfFirst T.K Ca = true ∧ PySem.W.findIn T.K (.ref Ca) (PySem.dunder op.info.2) = some (some (.ref f)) ∧ PySem.W.isFn T.K (.ref f) = true ∧
  PySem.W.findIn T.K (.ref Ca) (dunderR op.info.2) = some rc ∧ (rc = none ∨ ∃ g : Addr, rc = some (.ref g)) ∧ PySem.W.findIn T.K (.type "str") (PySem.dunder op.info.2) = some fo ∧ PySem.W.findIn T.K (.type "str") (dunderR op.info.2) = some ro ∧ PySem.W.subIn T.K (.type "str") (.ref Ca) = some false ∧ FnM T k 2 f mf
def isStr : Val → Bool
  | .str _ => true
  | _ => false
@[reducible] def mOpT (C : Nat) (mf : MF) (ma mb : ME) : ME := fun ρ st => (ma ρ st).bind fun x st1 => (mb ρ st1).bind fun y st2 => if isIns C st2 x = true ∧ isStr y = true then mf [x, y] st2 else .bad
theorem je_ownT (h : HasOpT (Cx.wh X) C op k mf) (hr : Room k X.A) (ha : JE X a ma) (hb : JE X b mb) : JE X (.BinOp a op b pos) (mOpT C mf ma mb) := fun W tk => by
  obtain ⟨Ca, f, fo, ro, rc, hC, hsf, hs, hfn, hrc, hp, h1, h2, hsub, fd, ps, hl, hkp, hbd, F⟩ := h
  have hC : X.mg (nm C) = some (.ref Ca) := hC
  refine ⟨fun pins s σ H Q I ⟨ι, ρ, st, S, sl, q⟩ => ?_⟩
  refine wpAny_BinOp (binT (R := fun x y H2 => ∃ xa dx fx z, x = .ref xa ∧ y = .str z ∧ H2 xa = some (.ins Ca dx fx) ∧ spM X.K X.mg mf [.ref xa, .str z] H2 Q (WE W σ)) (ha W tk) (hb W tk) I ?_ fun v u s2 x y H2 I2 rx ry hq => ?_)
  · refine ⟨ι, ρ, st, S, sl, Post.bind q fun x st1 ι1 H1 xv l1 S1 r1 p1 => ?_⟩
    refine ⟨ι1, ρ, st1, S1, sl.later l1, Post.bind p1 fun y st2 ι2 H2 yv l2 S2 r2 p2 => ?_⟩
    split at p2
    · rename_i hh
      obtain ⟨n, fs, e1, c1⟩ := isIns_at hh.1
      have r1' := Rep.later l2 r1
      subst e1
      cases y with
      | str z =>
        obtain ⟨xa, f1, g1⟩ := Rep.ref_inv r1'
        have f2 := Rep.str_inv r2
        obtain ⟨Ca1, dx, vs, i1, i2, i3⟩ := S2.at c1 g1
        rw [hC] at i1
        cases i1
        subst f1 f2
        exact ⟨xa, dx, vs, z, rfl, rfl, i2, ι2, _, st2, S2, .cons (Rep.ref g1) (.cons Rep.str .nil), p2⟩
      | _ => cases hh.2
    · exact p2.elim
  · obtain ⟨xa, dx, fx, z, e1, e2, i1, hsp⟩ := hq
    subst e1 e2
    cases rx
    obtain ⟨t, rfl⟩ := ry
    obtain ⟨mA, O, _⟩ := ins_get I2.hok i1
    obtain ⟨od, J, _⟩ := O.look
    obtain ⟨m0, fr⟩ := I2.fr
    refine PySem.W.ksp_binT (T := "str") (fo := fo) (ro := ro) (rc := rc) fr I2.ok.mod.kin J rfl hsf hs hfn hrc hp h1 h2 hsub ?_
    refine thn (run_fnS (us := [.ref xa, .str z t]) (vs := [.ref xa, .str z]) F hr hbd (passAt tk σ) I2 (.cons rfl (.cons ⟨t, rfl⟩ .nil)) hsp) fun u s3 hh => ?_
    obtain ⟨v3, H3, I3, r3, q3⟩ := hh
    have zz : EP X pins σ Q u s3 := ⟨v3, H3, I3, r3, q3⟩
    cases v3 with
    | non => cases (show u = Value.none from r3); exact zz
    | bl y => cases (show u = Value.bool y from r3); exact zz
    | int i => obtain ⟨t, e⟩ := (show ∃ t, u = Value.int i t from r3); subst e; exact zz
    | str y => obtain ⟨t, e⟩ := (show ∃ t, u = Value.str y t from r3); subst e; exact zz
    | byt y => obtain ⟨t, e⟩ := (show ∃ t, u = Value.bytes y t from r3); subst e; exact zz
    | flt y => obtain ⟨t, e⟩ := (show ∃ t, u = Value.float y t from r3); subst e; exact zz
    | ref y => cases (show u = Value.ref y from r3); exact zz
    | ty y => cases (show u = Value.type y from r3); exact zz
end

section
open PySem.W
variable {prog : Program} {w : World} {A : Around} {E : Value → Shared → Prop} {s : Shared} {K : PySem.W.Frag} {x y C L f : Addr} {h₀ : Heap} {m : Str → Option Value} {ox oy : Obj} {od od' : Option Obj}
end
end Ab

set_option Elab.async false
set_option linter.all false
set_option maxRecDepth 100000
set_option maxHeartbeats 1000000
/-! Ab: targets with a star at the end: a, b, *rest = a tuple. -/
namespace Ab
open PySem PySem.Spec PyProof.Rows L2
theorem unp_raw {prog : Program} {w : World} {A : Around} {E : Value → Shared → Prop} {s : Shared} {l : Addr} {items : Array Value} {i : Nat} {Q : List Value → Shared → Prop} (hl : IsTup s.heap l items) (hh : A.handled = none) (hn : i ≤ items.size) (hz : items.size ≤ 16384)
    (h : ∀ (h' : Heap) (tk : Nat), (∀ b o, s.heap.get? b = some o → h'.get? b = some o) → Q (items.toList.take i ++ [.ref h'.objs.size]) { s with heap := h'.push { cls := .type "list", data := .seq (items.toList.drop i).toArray }, toks := tk }) : wpAny (model prog w) A (unpackItems (.ref l) (i + 1) (some i)) Q E s := by
  have hlt : l ≠ s.heap.objs.size := by obtain ⟨o, ho, _⟩ := hl; exact Nat.ne_of_lt (Heap.lt_size ho)
  have hll : l < s.heap.objs.size := by obtain ⟨o, ho, _⟩ := hl; exact Heap.lt_size ho
  unfold unpackItems
  refine wpAny_bind ?_
  unfold notIterableAtAll
  refine wpAny_bind (wpAny_specialOf hl.typeIs slot_tuple_iter.lookup ?_)
  refine wpAny_pure ?_
  simp only [Bool.false_eq_true, if_false]
  refine wpAny_bind (wpAny_holding (iter_tuple hl ?_))
  refine wpAny_bind (wpAny_holding (draw_tuple hlt i 0 _ _ ⟨_, Heap.get?_push_size _ rfl, rfl, rfl⟩ (hl.push _) (by omega) fun h₁ hit₁ hs₁ => ?_))
  have hl₁ : IsTup h₁ l items := (hl.push _).extBut hs₁.extBut hlt
  rw [Nat.zero_add] at hit₁
  have hit₁' := hit₁
  obtain ⟨oi, hoi, _⟩ := hit₁'
  have hl₁' := hl₁
  obtain ⟨ol, hol, _⟩ := hl₁'
  rw [List.drop_zero]
  have hfl : (items.toList.take i).length = i := by rw [List.length_take, Array.length_toList]; omega
  rw [if_neg (show ¬ ((items.toList.take i).length < i) by rw [hfl]; omega)]
  refine wpAny_bind (wpAny_holding (PySem.W.kun_collect (s := { s with heap := h₁ }) (T := "tuple_iterator") (.inr (.inr (.inr rfl))) (Walks.tuple (A := A.in1) hh s.heap.objs.size l hlt items) (fun j u st => st.1.typeIs) (k := i) (by omega) ⟨hit₁, hl₁⟩ (Heap.lt_size hoi) (Heap.lt_size hol) (fun h₂ tk hk => ?_) (by rw [sizeLine_eq]; omega)))
  have hrl : (items.toList.drop i).length = items.size - i := by rw [List.length_drop, Array.length_toList]
  show wpAny _ _ (if (items.toList.drop i).length < i + 1 - 1 - i then _ else _) _ _ _
  rw [if_neg (by rw [hrl]; omega)]
  show wpAny _ _ (newList ((items.toList.drop i).take ((items.toList.drop i).length - (i + 1 - 1 - i))) >>= fun d => pure (items.toList.take i ++ [d] ++ (items.toList.drop i).drop ((items.toList.drop i).length - (i + 1 - 1 - i)))) _ _ _
  have e0 : (items.toList.drop i).length - (i + 1 - 1 - i) = (items.toList.drop i).length := by omega
  rw [e0, List.take_of_length_le (Nat.le_refl _), List.drop_of_length_le (Nat.le_refl _)]
  have he : ∀ b o, s.heap.get? b = some o → h₂.get? b = some o := fun b o e => hk b o (Nat.ne_of_lt (Heap.lt_size e)) (hs₁.extBut b o (Nat.ne_of_lt (Heap.lt_size e)) (Heap.get?_push_of_some _ e))
  refine wpAny_bind (wpAny_newList (s := { s with heap := h₂, toks := tk }) (wpAny_pure ?_) (by rw [hrl, sizeLine_eq]; omega))
  rw [List.append_nil]
  exact h h₂ tk he
/-- a, b, *rest = a tuple: n names, then a new list -/
@[reducible] def gTupS (n : Nat) (h : MGs) : MG := fun w ρ st => match w with
  | .tup ws => if n ≤ ws.length ∧ ws.length ≤ 1000 then h (ws.take n ++ [.ref st.length]) ρ (st ++ [.lst (ws.drop n)]) else none
  | _ => none
section
variable {X : Cx} {pos p : Pos} {e : Expr} {es : List Expr} {g : MG} {h : MGs}
theorem jgs_star {vs : List Nat} (h1 : JG X e vs g) (hs : (assignEach [.Starred e p] X.env).map (·.2) = [assign e X.env] := by rfl) : JGs X [.Starred e p] vs (gsCons g gsNil) := by
  refine ⟨fun pins s σ H us ws Q I r q => ?_⟩
  obtain ⟨ι, ρ, st, ws', S, sl, rr, p⟩ := q
  rw [hs]
  cases ws' with
  | nil => exact p.elim
  | cons w r' =>
    obtain ⟨v, r2, e1, q1, q2⟩ := rr.of_cons
    subst e1
    cases r with
    | cons ra rb =>
      refine assignInOrder_cons ?_
      dsimp only [gsCons] at p
      cases hg : g w ρ st with
      | none => rw [hg] at p; exact p.elim
      | some z =>
        rw [hg] at p
        cases r' with
        | nil =>
          have := q2.of_nil
          subst this
          cases rb
          refine thn (h1.run pins s σ H _ _ (fun σ1 H1 => Q σ1 H1) I ra ⟨ι, ρ, st, w, S, sl, q1, ?_⟩) fun _ s1 ⟨σ1, H1, I1, qq⟩ => assignInOrder_nil ⟨σ1, H1, I1, qq⟩
          rw [hg]
          exact p
        | cons _ _ => exact p.elim
theorem jg_tupS {k n : Nat} {vs : List Nat} (hc : X.calm = true) (hh : JGs X es vs h) (hn : (assignEach es X.env).length = n + 1 := by rfl) (hst : (assignEach es X.env).findIdx? (·.1) = some n := by rfl) : JG X (.Tuple es k pos) vs (gTupS n h) := by
  refine ⟨fun pins s σ H v u Q I r q => ?_⟩
  obtain ⟨ι, ρ, st, w, S, sl, rr, p⟩ := q
  cases w with
  | tup ws =>
    obtain ⟨a, xs, e1, ha, rx⟩ := rr.tup_inv
    subst e1
    cases r
    dsimp only [gTupS] at p
    split at p
    · rename_i hl
      obtain ⟨its, rv, ht, hz⟩ := I.tuple (SqT.of ha)
      have hil : its.length = ws.length := by rw [← rv.length, rx.length]
      rw [assign_Tuple]
      refine wpAny_bind (wpAny_standAt ?_)
      unfold unpack
      rw [hn, hst]
      refine wpAny_bind (wpAny_holding (unp_raw ht (I.ok.hd hc) (by rw [List.size_toArray]; omega) (by rw [List.size_toArray]; omega) fun h' tk hk => ?_))
      have I1 : Inv X pins σ H { s with heap := h' } := I.kept (t' := s.toks) hk
      have hp : H h'.objs.size = none := I1.hok.fresh (Nat.le_refl _)
      have hd : xs.length ≤ 1000 := by rw [← rx.length]; exact hl.2
      have I2 : Inv X pins σ (upd H h'.objs.size (.lst (xs.drop n))) { s with heap := h'.push { cls := .type "list", data := .seq (its.drop n).toArray }, toks := tk } :=
        I1.laid (t' := tk) (o := .lst (xs.drop n)) (fun b ob q => Heap.get?_push_of_some _ q) (Nat.le_refl _) ⟨by rw [List.length_drop, sizeLine_eq]; omega, its.drop n, 0, rv.drop n, Heap.get?_push_size _ rfl⟩
      have hs := same_new (o := .lst (xs.drop n)) hp
      obtain ⟨S', L⟩ := S.push (p := h'.objs.size) (c := .lst (ws.drop n)) hp hs ⟨xs.drop n, upd_same, (rx.drop n).later ⟨⟨[_], rfl⟩, fun b ys e => hs b _ e, fun b o ks e => hs b _ e⟩⟩
      refine hh.run pins _ σ _ (xs.take n ++ [V.ref h'.objs.size]) _ Q I2 ?_ ⟨_, ρ, _, _, S', sl.later L, ((rx.take n).later L).append (.cons (Rep.ref (n := st.length) ?_) .nil), PostG.later p L⟩
      · have := rv.take n
        exact (show Vals (xs.take n) (its.toArray.toList.take n) by simpa using this).append (.cons rfl .nil)
      · rw [← S.len, List.getElem?_append_right (Nat.le_refl _)]; simp
    · exact p.elim
  | _ => exact p.elim
end
end Ab
namespace Ab
open PySem PySem.Spec PyProof.Rows L2
/-- isinstance(e, C), a class of the program -/
def isiW (tbl : List (Nat × Bool)) (st : Store) (w : Val) : Option Bool := match w with
  | .tup _ => some false
  | w => match clsAt st w with
    | some C' => tbl.lookup C'
    | none => none
@[reducible] def mIsiO (tbl : List (Nat × Bool)) (m : ME) : ME := fun ρ st => (m ρ st).bind fun w st1 => match isiW tbl st1 w with
  | some b => .ok (.bl b) st1
  | none => .bad
section
variable {X : Cx} {e : Expr} {m : ME} {p p2 pos : Pos} {x : Str} {C : Nat} {tbl : List (Nat × Bool)}
end
end Ab

set_option Elab.async false
set_option linter.all false
set_option maxRecDepth 100000
set_option maxHeartbeats 1000000
/-! Ab: dicts that are walked (they stay locked), the empty dict. -/
namespace Ab
open PySem PySem.Spec PyProof.Rows L2
/-- a dict is locked for good -/
@[reducible] def mFrz (m : ME) : ME := fun ρ st => (m ρ st).bind fun x st1 => match x with
  | .ref n => match st1[n]? with
    | some (.dct kvs) => .ok (.ref n) (st1.set n (.fdc kvs))
    | some (.fdc kvs) => .ok (.ref n) st1
    | _ => .bad
  | _ => .bad
@[reducible] def fdcAt (x : Val) (st : Store) : Option (Nat × List (Key × Val)) := match x with
  | .ref n => match st[n]? with
    | some (.fdc kvs) => some (n, kvs)
    | _ => none
  | _ => none
theorem fdcAt_some {x : Val} {st : Store} {n : Nat} {kvs : List (Key × Val)} (h : fdcAt x st = some (n, kvs)) : x = .ref n ∧ st[n]? = some (.fdc kvs) := by
  unfold fdcAt at h
  split at h
  · split at h
    · cases h; exact ⟨rfl, by assumption⟩
    · cases h
  · cases h
/-- its keys -/
@[reducible] def iKeysM (m : ME) : MI := fun ρ st => (mFrz m ρ st).bind fun w st1 => match fdcAt w st1 with
  | some (n, kvs) => .ok (kvs.map fun kv => unkey kv.1, fun st' => st'[n]? = some (.fdc kvs)) st1
  | none => .bad
/-- its values -/
@[reducible] def iValsM (m : ME) : MI := fun ρ st => (mFrz m ρ st).bind fun w st1 => match fdcAt w st1 with
  | some (n, kvs) => .ok (kvs.map (·.2), fun st' => st'[n]? = some (.fdc kvs)) st1
  | none => .bad
section
variable {X : Cx} {e tg : Expr} {m : ME} {apos cpos pos : Pos}
theorem je_frz (he : JE X e m) : JE X e (mFrz m) := fun W tk => by
  refine ⟨fun pins s σ H Q I ⟨ι, ρ, st, S, sl, q⟩ => ?_⟩
  refine thn ((he W tk).run pins s σ H (fun v H1 => ∃ a, v = .ref a ∧ ((∃ vs, H1 a = some (.dK vs) ∧ ∀ od, Q (.ref a) (upd H1 a (.frz od (.dK vs)))) ∨ Q (.ref a) H1)) I ⟨ι, ρ, st, S, sl, Post.bind q fun x st1 ι1 H1 xv l1 S1 r1 p1 => ?_⟩) fun u s1 ⟨v, H1, I1, rx, a, ev, hq⟩ => ?_
  · split at p1
    · rename_i n
      obtain ⟨a, e1, ha⟩ := Rep.ref_inv r1
      split at p1
      · rename_i kvs ec
        obtain ⟨vs, h1, h2⟩ := S1.cell n _ a ec ha
        refine ⟨a, e1, .inl ⟨vs, h1, fun od => ?_⟩⟩
        have l : Later ι1 H1 ι1 (upd H1 a (.frz od (.dK vs))) := ⟨⟨[], by simp⟩, fun b xs e => by rw [upd_ne fun q => by subst q; rw [h1] at e; cases e]; exact e, fun b ob ks e => by rw [upd_ne fun q => by subst q; rw [h1] at e; cases e]; exact e⟩
        obtain ⟨S2, l2⟩ := S1.write (c' := .fdc kvs) (o' := .frz od (.dK vs)) ec ha rfl rfl h1 (fun _ e => by cases e) (fun _ _ e => by cases e) ⟨od, vs, upd_same, h2.later l⟩
        exact p1 ι1 _ _ l2 S2 (Rep.ref ha)
      · exact ⟨a, e1, .inr (p1.okSame S1 (Rep.ref ha))⟩
      · exact p1.elim
    · exact p1.elim
  · subst ev
    rcases hq with ⟨vs, h1, hq⟩ | hq
    · obtain ⟨od, I2⟩ := I1.lock h1 trivial
      exact ⟨.ref a, _, I2, rx, hq od⟩
    · exact ⟨.ref a, _, I1, rx, hq⟩
theorem RepK.get' {mg : Str → Option Value} {ι : List Addr} {H : Hp} : ∀ {ws : List (Key × Val)} {vs : List (Key × V)} {i : Nat} {k : Key} {v : V}, RepK mg ι H ws vs → vs[i]? = some (k, v) → ∃ w, ws[i]? = some (k, w) ∧ Rep mg ι H w v
  | _, _, _, _, _, .nil, h => by simp at h
  | (k', w) :: _, (k2, v2) :: _, 0, k, v, .cons h t, e => by
    simp at e
    obtain ⟨rfl, rfl⟩ := e
    obtain ⟨h1, h2⟩ := h
    simp only at h1 h2
    subst h1
    exact ⟨w, rfl, h2⟩
  | _ :: _, _ :: _, i + 1, k, v, .cons h t, e => by
    obtain ⟨w, e1, r⟩ := RepK.get' (i := i) t (by simpa using e)
    exact ⟨w, by simpa using e1, r⟩
theorem isIt_keys {K : PySem.W.Frag} {mg : Str → Option Value} {okp : Store → Prop} {kvs : List (Key × Val)} {ι : List Addr} {H : Hp} {a : Addr} {od : Obj} {vs : List (Key × V)} (hH : H a = some (.frz od (.dK vs))) (r : RepK mg ι H kvs vs) : IsIt K mg (kvs.map fun kv => unkey kv.1) okp ι H (Itk a od vs) := by
  have hl : kvs.length = vs.length := RepK.length r
  refine ⟨fun i ι1 H1 st l S ok hi => ⟨l.frzs _ _ _ hH, by rw [List.length_map] at hi; omega⟩, fun i ι1 H1 st x H' l S ok hi hy => ?_, fun i ι1 H1 st l S ok hi => ⟨l.frzs _ _ _ hH, by rw [List.length_map] at hi; omega⟩⟩
  obtain ⟨rfl, k, v, hk, rfl⟩ := hy
  obtain ⟨w, e, _⟩ := RepK.get' r hk
  exact ⟨Later.refl _ _, S, unkey k, by rw [List.getElem?_map, e]; rfl, unkey_rep⟩
theorem ji_keys (he : JE X e m) : JI X tg e (iKeysM m) := fun W tk => by
  refine ⟨fun pins s σ H R I hw => (pi_keys (je_frz he W tk)).run pins s σ H R I ?_⟩
  obtain ⟨ι, ρ, st, S, sl, p⟩ := hw
  refine ⟨ι, ρ, st, S, sl, Post.bind p fun w st1 ι1 H1 v l1 S1 r1 p1 => ?_⟩
  split at p1
  · rename_i n kvs hf
    obtain ⟨rfl, ec⟩ := fdcAt_some hf
    obtain ⟨a, e1, ha⟩ := Rep.ref_inv r1
    obtain ⟨od, vs, h1, h2⟩ := S1.cell n _ a ec ha
    exact ⟨a, od, e1, .inl ⟨vs, h1, p1.okSame S1 (isIt_keys h1 h2)⟩⟩
  · exact p1.elim
/-- {} -/
@[reducible] def mDisp0 : ME := fun _ st => .ok (.ref st.length) (st ++ [.dct []])
theorem je_disp0 : JE X (.Dict [] [] pos) mDisp0 := fun W tk => by
  refine ⟨fun pins s σ H Q I ⟨ι, ρ, st, S, sl, p⟩ => ?_⟩
  have hn := I.hok.fresh (Nat.le_refl s.heap.objs.size)
  have I1 := I.laid (a := s.heap.objs.size) (o := .dK []) (h' := s.heap.push { cls := .type "dict", data := .dict #[] }) (t' := s.toks) (fun _ _ q => Heap.get?_push_of_some _ q) (Nat.le_refl _) (dk_empty s.heap I.big)
  have hs := same_new (o := .dK []) hn
  obtain ⟨S1, l1⟩ := S.push (c := .dct []) hn hs ⟨[], upd_same, .nil⟩
  refine wpAny_Dict_empty ⟨.ref s.heap.objs.size, _, I1, rfl, p _ _ _ l1 S1 (Rep.ref ?_)⟩
  rw [← S.len, List.getElem?_append_right (Nat.le_refl _)]; simp
end
section
variable {X : Cx} {k n : Nat} {o e : Expr} {es : List Expr} {mo : ME} {t : MA} {pos : Pos} {mf : MF} {C : Nat}
theorem je_callG (h : HasCall (Cx.wh X) C k n mf) (hr : Room k X.A) (ho : JE X o mo) (ha : JA X (e :: es) t)
    (he : starEach (e :: es) X.env = (false, eval e X.env) :: starEach es X.env := by rfl) (harm : eval (.Call o (e :: es) [] pos) X.env = (do callWith pos (← eval o X.env) [] (backTo pos (starEach (e :: es) X.env)) (backToKw pos (keywordEach [] X.env))) := by rfl) (hpl : (backTo pos (starEach es X.env)).any (·.1) = false := by rfl) : JE X (.Call o (e :: es) [] pos) (mCall C mf mo t) := fun W tk => by
  obtain ⟨Ca, f, hC, hs, hf, hfn, fd, ps, hl, hkp, hbd, F⟩ := h
  have hC : X.mg (nm C) = some (.ref Ca) := hC
  refine ⟨fun pins s σ H Q I ⟨ι, ρ, st, S, sl, q⟩ => ?_⟩
  rw [harm]
  refine wpAny_bind (thn ((ho W tk).run pins s σ H (fun v H1 => ∃ a, v = .ref a ∧ rdG X.K X.mg (relL X.mg) W t σ H1 (fun vs H2 => (∃ dx fs, H2 a = some (.ins Ca dx fs)) ∧ spM X.K X.mg mf (.ref a :: vs) H2 Q (WE W σ))) I ⟨ι, ρ, st, S, sl, Post.bind q fun v st1 ι1 H1 xv l1 S1 r1 p1 => ?_⟩) fun u s1 ⟨v, H1, I1, r1, a, ev, q1⟩ => ?_)
  · split at p1
    · rename_i hh
      obtain ⟨m, fs, e1, c1⟩ := isIns_at hh
      subst e1
      obtain ⟨xa, f1, g1⟩ := Rep.ref_inv r1
      subst f1
      refine ⟨xa, rfl, ι1, ρ, st1, S1, sl.later l1, Post.bind p1 fun vs st2 ι2 H2 us l2 S2 r2 p2 => ?_⟩
      split at p2
      · rename_i hh2
        obtain ⟨m2, fs2, e2, c2⟩ := isIns_at hh2
        cases e2
        obtain ⟨ya, f2, g2⟩ := Rep.ref_inv (Rep.later l2 (Rep.ref (mg := X.mg) g1))
        cases f2
        obtain ⟨Ca1, dx, vs1, i1, i2, i3⟩ := S2.at c2 g2
        rw [hC] at i1
        cases i1
        exact ⟨⟨dx, vs1, i2⟩, ι2, _, st2, S2, .cons (Rep.ref g2) r2, p2⟩
      · exact p2.elim
    · exact p1.elim
  · subst ev
    obtain rfl : u = Value.ref a := r1
    rw [he]
    refine callWith_obj (by show ((false || (backTo pos (starEach es X.env)).any (·.1)) || false) = false; rw [hpl]; rfl) (PySem.Calls.evalArgs_plain ?_)
    have := (ha W tk).run pos pins s1 σ H1 _ I1 q1
    rw [he] at this
    refine thn this fun us s2 ⟨vs, H2, I2, r, ⟨dx, fs, ea⟩, q2⟩ => ?_
    obtain ⟨mA, O, _⟩ := ins_get I2.hok ea
    obtain ⟨od, J, _⟩ := O.look
    refine ⟨⟨Ca, _, _, rfl, J⟩, ?_⟩
    have r' : Vals (V.ref a :: vs) (Value.ref a :: us) := .cons rfl r
    have hl2 : (Value.ref a :: us).length = ps.length := by rw [← r'.length]; exact F.len _ _ _ _ q2
    have b := hbd s2 (Value.ref a :: us) I2.kIn (by rw [List.append_nil]; exact hl2)
    rw [List.append_nil] at b
    refine wpAny_call (PySem.W.kco_code I2.kIn J rfl hs hf hfn (codeAny_mono (F.run X.A X.stack s2 H2 ⟨Value.ref a :: us, []⟩ (Value.ref a :: us) _ Q (WE W σ) hr I2.env0 b r' q2) fun r s' hq => ?_))
    cases r with
    | error er => exact passAt tk σ pins H2 s2 er s' I2 hq
    | ok fl =>
      cases fl with
      | ret u => exact I2.after hq
      | next => exact False.elim hq
      | brk => exact False.elim hq
      | cont => exact False.elim hq
end
end Ab

set_option Elab.async false
set_option linter.all false
set_option maxRecDepth 100000
set_option maxHeartbeats 1000000
/-! Ab: the end of a law: from the walk of its body and the plain law to what the head asks. -/
namespace Ab
open PySem PySem.Spec PyProof.Rows L2
/-- the cell of the script: a list that may be read -/
def IsScript (ns : List Int) (c : Cell) : Prop := c = .frz (ns.map Val.int) ∨ c = .lst (ns.map Val.int)
theorem reps_ints {mg : Str → Option Value} {ι : List Addr} {H : Hp} : ∀ ns : List Int, Reps mg ι H (ns.map Val.int) (ns.map V.int)
  | [] => .nil
  | n :: r => .cons Rep.int (reps_ints r)
theorem tabsOf_law {K : PySem.W.Frag} {mg : Str → Option Value} {fa c P : Addr} {oc : Value} {od : Option Addr} {fd : FuncData} {osl : Array (Option Value)} {e : Value} {dd : Option Addr} {vs : Array Value} {sl : Array (Option Value)} (hmg : mg "law" = some (.ref fa)) (h1 : mg "_law_refused" = none) (h2 : mg "_law_changed" = none)
    (lk : K.lookup fa = some ⟨oc, od, .func fd, osl⟩) (hc : fd.code = .ref c) (lc : K.lookup c = some ⟨e, dd, .fields vs, sl⟩) (h11 : vs[11]? = some (.ref P)) : tabsOf K mg = [(P, ("law" : Str) ++ ".<locals>." ++ "<lambda>")] := by
  have t0 : tabOf K mg "law" = some (P, ("law" : Str) ++ ".<locals>." ++ "<lambda>") := by unfold tabOf; rw [hmg]; dsimp only; rw [lk]; dsimp only; rw [hc]; dsimp only; rw [lc]; dsimp only; rw [h11]
  have t1 : tabOf K mg "_law_refused" = none := by unfold tabOf; rw [h1]
  have t2 : tabOf K mg "_law_changed" = none := by unfold tabOf; rw [h2]
  unfold tabsOf lamNames
  simp only [List.filterMap_cons, t0, t1, t2, List.filterMap_nil]
theorem law_at {l : PySem.W.OpenLaw} {w : World} {K : PySem.W.Frag} {mg : Str → Option Value} {fa c P : Addr} {h : Heap} {st : Stmt} {x : Str} {N : List Str} {m lev : Nat} {body : MS} {kV doc pm ct oc : Value} {an od : Option Addr} {osl : Array (Option Value)} {e : Value} {dd : Option Addr} {vs : Array Value} {sl : Array (Option Value)}
    (X : K.In h) (own : LamX.OwnTab K fa h) (hmg : mg "law" = some (.ref fa)) (h1 : mg "_law_refused" = none) (h2 : mg "_law_changed" = none)
    (lk : K.lookup fa = some ⟨oc, od, .func (PySem.W.fnOf "law" "law" (defArgs st) (defBody st) (defScope st) .none kV doc pm an (.ref c) ct), osl⟩) (hcd : PySem.W.codeIn K (.ref c) "law" = true) (lc : K.lookup c = some ⟨e, dd, .fields vs, sl⟩) (h11 : vs[11]? = some (.ref P)) (nP : K.lookup P = none) (hh : PySem.W.codeHdIn K c P = true)
    (S : FnScope N [x] (defScope st)) (hm : N.length = 1 + m)
    (hb : ∀ (s : Shared) (u : Value), BindsTo s (PySem.W.fnOf "law" "law" (defArgs st) (defBody st) (defScope st) .none kV doc pm an (.ref c) ct) ⟨[u], []⟩ [(x, u)])
    (hj : ∀ base : Heap, K.In base → base.Ns mainGlobals mg → LamX.TabB base mg c P → (P, ("law" : Str) ++ ".<locals>." ++ "<lambda>") ∈ tabsOf K mg → (∀ p ∈ tabsOf K mg, p.1 = P → p.2 = ("law" : Str) ++ ".<locals>." ++ "<lambda>") →
      ∀ (A : Around) (outer : List Env) (s : Shared) (H : Hp) (E : XK), Room lev (cx1 ⟨l.prog, w, K, mg, base⟩ N "law" st fa (.ref c) A outer s H E).A → JSs (cx1 ⟨l.prog, w, K, mg, base⟩ N "law" st fa (.ref c) A outer s H E) (defBody st) body)
    (plain : ∀ (ns : List Int) (cell : Cell), IsScript ns cell → ns.length ≤ 63 → (∀ z ∈ ns, Builtin.Int.intBits z ≤ 1048576) → ∃ st', defM 1 m body [.ref 0] [cell] = .ok (.bl true) st') :
    LamX.LawAtS l w K (L2.CX l.prog w) (lev + 1) 63 x mg fa h := by
  have hT := tabsOf_law hmg h1 h2 lk rfl lc h11
  refine ⟨_, [(c, P)], spM K mg (defM 1 m body), ?_, ?_, ?_, hb, ?_, ?_⟩
  · intro p hp
    rw [List.mem_singleton.mp hp]
    exact own c P _ _ _ _ _ _ lk rfl rfl lc h11
  · intro p hp
    rw [List.mem_singleton.mp hp]
    exact nP
  · intro p hp
    rw [List.mem_singleton.mp hp]
    exact PySem.W.codeHd_of_K X hh
  · intro H a ns hl hbits hcs hS
    have tabs : LamX.Tabs (tabsOf K mg) H := fun p hp => by
      rw [hT] at hp
      rw [List.mem_singleton.mp hp]
      exact LamX.TabS.nil (hcs (c, P) List.mem_cons_self)
    have go : ∀ cell, IsScript ns cell → CellOk K mg [a] H a cell → spM K mg (defM 1 m body) [.ref a] H (fun v _ => v = .bl true) fun _ _ _ => False := by
      intro cell hc hok
      obtain ⟨st', e'⟩ := plain ns cell hc hl hbits
      refine ⟨[a], [.ref 0], [cell], ⟨rfl, fun n m' b c' d' q1 q2 q3 q4 _ _ => ?_, fun n c' b q1 q2 => ?_, tabs⟩, .cons (Rep.ref rfl) .nil, ?_⟩
      · have := (List.getElem?_eq_some_iff.mp q1).1
        have := (List.getElem?_eq_some_iff.mp q2).1
        simp at *
        omega
      · have z := (List.getElem?_eq_some_iff.mp q1).1
        have z0 : n = 0 := by simp at z; omega
        subst z0
        simp at q1 q2
        subst q1 q2
        exact hok
      · rw [e']
        intro ι' H' v l' S' r
        exact Rep.bl_inv r
    rcases hS with (hS | ⟨o, hS⟩) | ⟨o, its, n, k1, k2, k3, k4, k5, k6⟩
    · exact go _ (.inr rfl) ⟨_, hS, reps_ints ns⟩
    · exact go _ (.inl rfl) ⟨_, .inl ⟨o, hS⟩, reps_ints ns⟩
    · exact go _ (.inl rfl) ⟨_, .inr ⟨o, its, n, k1, k2, k3, k4, k5, k6⟩, reps_ints ns⟩
  · intro base hK hNs hTB
    refine fn_of lk hcd S (fun vs H Q E hsp => ?_) fun A outer s H vs Q E hr hsp => ?_
    · obtain ⟨ι, ws, st', S', r, p⟩ := hsp
      unfold defM at p
      split at p
      · rename_i hl
        rw [← r.length, hl]; rfl
      · exact p.elim
    · obtain ⟨ι, ws, st', S', r, p⟩ := hsp
      unfold defM at p
      split at p
      · rename_i hl
        have j := hj base hK hNs (hTB (c, P) List.mem_cons_self) (by rw [hT]; exact List.mem_cons_self) (fun p hp _ => by rw [hT] at hp; rw [List.mem_singleton.mp hp]) A outer s H E hr
        refine ⟨_, j (fun cls d _ H => E cls d H) (takes_of rfl rfl rfl rfl), ι, _, st', S', slots_start r (by rw [hl]; exact hm), ?_⟩
        show PostO K mg _ ι H _ (body (ws.map some ++ List.replicate m none) st')
        cases q : body (ws.map some ++ List.replicate m none) st' with
        | nx ρ s1 => rw [q] at p; exact fun ι1 H1 σ1 l S1 sl => p ι1 H1 _ l S1 Rep.non
        | ret w s1 => rw [q] at p; exact p
        | exc x ρ s1 => rw [q] at p; exact fun ι1 H1 σ1 c d l S1 sl r => p ι1 H1 c d l S1 r
        | brk ρ s1 => rw [q] at p; exact p.elim
        | ct ρ s1 => rw [q] at p; exact p.elim
        | bad => rw [q] at p; exact p.elim
      · exact p.elim
end Ab
namespace Ab
open PySem PySem.Spec PyProof.Rows L2
/-- codeHdIn, told of the code object's fields -/
def codeHdB (e : Value) (vs : Array Value) (c P : Addr) : Bool := match e with
  | .type "code" => (match (vs[11]? : Option Value) with | some (.ref P') => P' == P | _ => false) &&
      (match vs.getD 18 .none with | .str _ _ => true | _ => false) && (match vs.getD 7 .none with | .int _ _ => true | _ => false) &&
      (match vs.getD 9 .none with | .bool _ => true | _ => false) && (match vs.getD 10 .none with | .int _ _ => true | _ => false) && c != P
  | _ => false
theorem codeHd_by {K : PySem.W.Frag} {c P : Addr} {e : Value} {dd : Option Addr} {vs : Array Value} {sl : Array (Option Value)} (lc : K.lookup c = some ⟨e, dd, .fields vs, sl⟩) (h : codeHdB e vs c P = true) : PySem.W.codeHdIn K c P = true := by
  unfold codeHdB at h
  split at h
  · unfold PySem.W.codeHdIn
    rw [lc]
    exact h
  · cases h
end Ab

set_option Elab.async false
set_option linter.all false
set_option maxRecDepth 100000
set_option maxHeartbeats 1000000
/-! Ab: what a mirror's run asks, written as a wish on its end (for the plain laws). -/
namespace Ab
open PySem PySem.Spec PyProof.Rows L2
/-- a run that ends well wishes Q, one that raises wishes X -/
def WpR {α : Type} (r : R α) (Q : α → Store → Prop) (X : Exc → Store → Prop) : Prop := match r with
  | .ok a st => Q a st
  | .exc x st => X x st
  | .bad => False
/-- what a statement's ends wish -/
structure Wish where
  nx : Slots → Store → Prop := fun _ _ => False
  rt : Val → Store → Prop := fun _ _ => False
  bk : Slots → Store → Prop := fun _ _ => False
  ct : Slots → Store → Prop := fun _ _ => False
  ex : Exc → Store → Prop := fun _ _ => False
def WpO (o : O) (W : Wish) : Prop := match o with
  | .nx ρ st => W.nx ρ st
  | .ret w st => W.rt w st
  | .brk ρ st => W.bk ρ st
  | .ct ρ st => W.ct ρ st
  | .exc x ρ st => W.ex x st
  | .bad => False
section
variable {α β : Type} {Q : α → Store → Prop} {X : Exc → Store → Prop} {W : Wish} {st : Store} {ρ : Slots}
@[simp] theorem wp_ok {a : α} : WpR (.ok a st) Q X = Q a st := rfl
@[simp] theorem wp_exc {x : Exc} : WpR (α := α) (.exc x st) Q X = X x st := rfl
@[simp] theorem wp_bad : WpR (α := α) .bad Q X = False := rfl
@[simp] theorem wpo_nx : WpO (.nx ρ st) W = W.nx ρ st := rfl
@[simp] theorem wpo_ret {w : Val} : WpO (.ret w st) W = W.rt w st := rfl
@[simp] theorem wpo_brk : WpO (.brk ρ st) W = W.bk ρ st := rfl
@[simp] theorem wpo_ct : WpO (.ct ρ st) W = W.ct ρ st := rfl
@[simp] theorem wpo_exc {x : Exc} : WpO (.exc x ρ st) W = W.ex x st := rfl
@[simp] theorem wpo_bad : WpO .bad W = False := rfl
theorem WpR.mono {r : R α} {Q' : α → Store → Prop} {X' : Exc → Store → Prop} (h : WpR r Q X) (hq : ∀ a st, Q a st → Q' a st) (hx : ∀ x st, X x st → X' x st) : WpR r Q' X' := by
  cases r with
  | ok a st => exact hq a st h
  | exc x st => exact hx x st h
  | bad => exact h
theorem WpO.mono {o : O} {W' : Wish} (h : WpO o W) (h1 : ∀ ρ st, W.nx ρ st → W'.nx ρ st) (h2 : ∀ w st, W.rt w st → W'.rt w st) (h3 : ∀ ρ st, W.bk ρ st → W'.bk ρ st) (h4 : ∀ ρ st, W.ct ρ st → W'.ct ρ st) (h5 : ∀ x st, W.ex x st → W'.ex x st) : WpO o W' := by
  cases o with
  | nx ρ st => exact h1 _ _ h
  | ret w st => exact h2 _ _ h
  | brk ρ st => exact h3 _ _ h
  | ct ρ st => exact h4 _ _ h
  | exc x ρ st => exact h5 _ _ h
  | bad => exact h
theorem wp_bind {r : R α} {f : α → Store → R β} {Q : β → Store → Prop} : WpR (r.bind f) Q X = WpR r (fun a st => WpR (f a st) Q X) X := by
  cases r <;> rfl
theorem wp_toO {r : R α} {f : α → Store → O} : WpO (r.toO ρ f) W = WpR r (fun a st => WpO (f a st) W) W.ex := by
  cases r <;> rfl
theorem wpo_then {o : O} {f : Slots → Store → O} : WpO (o.then f) W = WpO o { W with nx := fun ρ st => WpO (f ρ st) W } := by
  cases o <;> rfl
theorem wp_fin {o : O} {Q : Val → Store → Prop} : WpR o.fin Q X = WpO o { nx := fun _ st => Q .non st, rt := Q, ex := X } := by
  cases o <;> rfl
theorem wp_def {n m : Nat} {body : MS} {ws : List Val} {Q : Val → Store → Prop} (h : ws.length = n) : WpR (defM n m body ws st) Q X = WpO (body (ws.map some ++ List.replicate m none) st) { nx := fun _ st => Q .non st, rt := Q, ex := X } := by
  rw [defM_eq h, wp_fin]
theorem wp_eq {r : R α} (h : WpR r Q fun _ _ => False) : ∃ a st', r = .ok a st' ∧ Q a st' := by
  cases r with
  | ok a st => exact ⟨a, st, rfl, h⟩
  | exc x st => exact h.elim
  | bad => exact h.elim
end
/-! ### the combinators -/
section
variable {Q : Val → Store → Prop} {QB : Bool → Store → Prop} {QL : List Val → Store → Prop} {X : Exc → Store → Prop} {W : Wish} {st : Store} {ρ : Slots} {a b m : ME} {t u : MT} {ta : MA} {s s1 s2 : MS}
theorem w_var {i : Nat} {v : Val} (h : ρ[i]? = some (some v)) : WpR (mVar i ρ st) Q X = Q v st := by unfold mVar; rw [h]; rfl
theorem w_bin {g : Val → Val → Store → R Val} : WpR (mBin g a b ρ st) Q X = WpR (a ρ st) (fun x st1 => WpR (b ρ st1) (fun y st2 => WpR (g x y st2) Q X) X) X := by
  unfold mBin; rw [wp_bind]; simp only [wp_bind]
theorem w_test : WpR (mTest m ρ st) QB X = WpR (m ρ st) (fun x st1 => WpR (asB x st1) QB X) X := by unfold mTest; rw [wp_bind]
theorem w_not : WpR (tNotM t ρ st) QB X = WpR (t ρ st) (fun k st1 => QB (!k) st1) X := by unfold tNotM; rw [wp_bind]; rfl
theorem w_aCons : WpR (aCons m ta ρ st) QL X = WpR (m ρ st) (fun x st1 => WpR (ta ρ st1) (fun xs st2 => QL (x :: xs) st2) X) X := by
  unfold aCons; rw [wp_bind]; simp only [wp_bind, wp_ok]
theorem w_app {f : MF} : WpR (mApp f ta ρ st) Q X = WpR (ta ρ st) (fun xs st1 => WpR (f xs st1) Q X) X := by unfold mApp; rw [wp_bind]
theorem w_if : WpR (mIf t a b ρ st) Q X = WpR (t ρ st) (fun k st1 => if k = true then WpR (a ρ st1) Q X else WpR (b ρ st1) Q X) X := by
  unfold mIf; rw [wp_bind]; congr 1; funext k st1; split <;> rfl
theorem w_seq : WpO (sSeq s1 s2 ρ st) W = WpO (s1 ρ st) { W with nx := fun ρ st => WpO (s2 ρ st) W } := by unfold sSeq; rw [wpo_then]
theorem w_set {i : Nat} : WpO (sSet i m ρ st) W = WpR (m ρ st) (fun w st1 => W.nx (ρ.set i (some w)) st1) W.ex := by unfold sSet; rw [wp_toO]; rfl
theorem w_ret : WpO (sRet m ρ st) W = WpR (m ρ st) (fun w st1 => W.rt w st1) W.ex := by unfold sRet; rw [wp_toO]; rfl
theorem w_drop : WpO (sDrop m ρ st) W = WpR (m ρ st) (fun _ st1 => W.nx ρ st1) W.ex := by unfold sDrop; rw [wp_toO]; rfl
theorem w_sif : WpO (sIf t s1 s2 ρ st) W = WpR (t ρ st) (fun k st1 => if k = true then WpO (s1 ρ st1) W else WpO (s2 ρ st1) W) W.ex := by
  unfold sIf; rw [wp_toO]; congr 1; funext k st1; split <;> rfl
theorem w_lst : WpR (mLst ta ρ st) Q X = WpR (ta ρ st) (fun xs st1 => xs.length ≤ sizeLine ∧ Q (.ref st1.length) (st1 ++ [.lst xs])) X := by
  unfold mLst; rw [wp_bind]; congr 1; funext xs st1
  by_cases h : xs.length ≤ sizeLine <;> simp [h]
theorem w_tup : WpR (mTup ta ρ st) Q X = WpR (ta ρ st) (fun xs st1 => xs.length ≤ sizeLine ∧ Q (.tup xs) st1) X := by
  unfold mTup; rw [wp_bind]; congr 1; funext xs st1
  by_cases h : xs.length ≤ sizeLine <;> simp [h]
end

/-! ### loops -/
section
variable {g : MG} {body : MS} {okp : Store → Prop} {W : Wish} {X : Exc → Store → Prop}
theorem w_for {mi : MI} {ρ : Slots} {st : Store} : WpO (sFor mi g body ρ st) W = WpR (mi ρ st) (fun it st1 => WpO (forM g body it.2 it.1 ρ st1) W) W.ex := by unfold sFor; rw [wp_toO]
end
end Ab

set_option Elab.async false
set_option linter.all false
set_option maxRecDepth 100000
set_option maxHeartbeats 1000000
/-! Ab: the laws' draws (_law_mix, _law_next of k41 to k48), once for all. -/
namespace Ab
open PySem PySem.Spec PyProof.Rows L2
/-- all cells but those of S are as they were -/
def Keep (S : List Nat) (st st' : Store) : Prop := st.length ≤ st'.length ∧ ∀ i : Nat, i < st.length → i ∉ S → st'[i]? = st[i]?
theorem Keep.refl {S : List Nat} {st : Store} : Keep S st st := ⟨Nat.le_refl _, fun _ _ _ => rfl⟩
theorem Keep.trans {S : List Nat} {a b c : Store} (h : Keep S a b) (k : Keep S b c) : Keep S a c :=
  ⟨Nat.le_trans h.1 k.1, fun i hi hn => (k.2 i (Nat.lt_of_lt_of_le hi h.1) hn).trans (h.2 i hi hn)⟩
theorem Keep.push {S : List Nat} {st : Store} {c : Cell} : Keep S st (st ++ [c]) := ⟨by simp, fun i hi _ => List.getElem?_append_left hi⟩
theorem Keep.set {S : List Nat} {st : Store} {n : Nat} {c : Cell} (h : n ∈ S) : Keep S st (st.set n c) := ⟨by simp, fun i _ hn => List.getElem?_set_ne fun e => hn (by rw [← e]; exact h)⟩
theorem Keep.mono {S S' : List Nat} {a b : Store} (h : Keep S a b) (k : ∀ i ∈ S, i ∈ S') : Keep S' a b := ⟨h.1, fun i hi hn => h.2 i hi fun z => hn (k i z)⟩
theorem Keep.get {S : List Nat} {a b : Store} (h : Keep S a b) {i : Nat} {c : Cell} (e : a[i]? = some c) (hn : i ∉ S) : b[i]? = some c := (h.2 i (List.getElem?_eq_some_iff.mp e).1 hn).trans e
/-- the draws' state: [mixed, cells, place] at h, the cells at c -/
def Draws (h c : Nat) (st : Store) : Prop := ∃ (a : Int) (cs : List Int) (p : Int), st[h]? = some (.lst [.int a, .ref c, .int p]) ∧ st[c]? = some (.lst (cs.map .int)) ∧ 0 ≤ a ∧ a < 2147483647 ∧ 0 ≤ p ∧ cs.length ≤ 63 ∧ h ≠ c
theorem Draws.keep {S : List Nat} {h c : Nat} {st st' : Store} (d : Draws h c st) (k : Keep S st st') (h1 : h ∉ S) (h2 : c ∉ S) : Draws h c st' := by
  obtain ⟨a, cs, p, e1, e2, r⟩ := d
  exact ⟨a, cs, p, k.get e1 h1, k.get e2 h2, r⟩
theorem ix_ref {n : Nat} {i : Int} {xs : List Val} {w : Val} {st : Store} {Q : Val → Store → Prop} {X : Exc → Store → Prop} (h : seqAt st n = some xs) (hi : L2.atI xs i = some w) : WpR (vIx (.ref n) (.int i) st) Q X = Q w st := by
  dsimp only [vIx]; rw [h]; dsimp only; rw [hi]; rfl
theorem seqAt_lst {st : Store} {n : Nat} {xs : List Val} (h : st[n]? = some (.lst xs)) : seqAt st n = some xs := by unfold seqAt; rw [h]
theorem w_asg {m : ME} {g : MG} {ρ : Slots} {st : Store} {W : Wish} : WpO (sAsg m g ρ st) W = WpR (m ρ st) (fun w st1 => match g w ρ st1 with | some (ρ', st') => W.nx ρ' st' | none => False) W.ex := by
  unfold sAsg; rw [wp_toO]; congr 1; funext w st1
  split <;> rename_i q <;> first | rfl | (rw [q] <;> rfl)
theorem Keep.nil {S : List Nat} {a b : Store} (h : Keep [] a b) : Keep S a b := h.mono fun _ z => by cases z
theorem g_subL {mo mi : ME} {w : Val} {ρ : Slots} {st : Store} {n j : Nat} {k : Int} {xs : List Val} (h1 : mo ρ st = .ok (.ref n) st) (h2 : mi ρ st = .ok (.int k) st) (h3 : st[n]? = some (.lst xs)) (h4 : L2.ixN xs.length k = some j) : gSubL mo mi w ρ st = some (ρ, st.set n (.lst (xs.set j w))) := by
  unfold gSubL
  rw [h1]; dsimp only
  rw [h2]; dsimp only
  rw [h3]; dsimp only
  rw [h4]
theorem vmod_i {i j : Int} {st : Store} (h : 0 < j) : vMod (.int i) (.int j) st = .ok (.int (i % j)) st := by dsimp only [vMod]; rw [if_pos h]
theorem vdiv_i {i j : Int} {st : Store} (h : 0 < j) (h1 : j < 2 ^ 100) : vDiv (.int i) (.int j) st = .ok (.int (i / j)) st := by dsimp only [vDiv]; rw [if_pos ⟨h, h1⟩]
end Ab
namespace Ab
open PySem PySem.Spec PyProof.Rows L2
end Ab

set_option Elab.async false
set_option linter.all false
set_option maxRecDepth 100000
/-! Ab: the combinators once more, sealed (not reducible), for the plain laws. -/
namespace Ab
open PySem PySem.Spec
def mNeg (m : ME) : ME := fun ρ st => (m ρ st).bind vNeg
end Ab
namespace Se
noncomputable def sWhile := @Ab.sWhile
noncomputable def mVar := @Ab.mVar
noncomputable def mC := @Ab.mC
noncomputable def mBin := @Ab.mBin
noncomputable def mTest := @Ab.mTest
noncomputable def mChain := @Ab.mChain
noncomputable def tAndM := @Ab.tAndM
noncomputable def tOrM := @Ab.tOrM
noncomputable def tNotM := @Ab.tNotM
noncomputable def mAnd := @Ab.mAnd
noncomputable def mOr := @Ab.mOr
noncomputable def mNot := @Ab.mNot
noncomputable def mIf := @Ab.mIf
noncomputable def aNil := @Ab.aNil
noncomputable def aCons := @Ab.aCons
noncomputable def mTup := @Ab.mTup
noncomputable def mLst := @Ab.mLst
noncomputable def mApp := @Ab.mApp
noncomputable def mCut := @Ab.mCut
noncomputable def oNone := @Ab.oNone
noncomputable def oSome := @Ab.oSome
noncomputable def sNext := @Ab.sNext
noncomputable def sSeq := @Ab.sSeq
noncomputable def sSet := @Ab.sSet
noncomputable def sRet := @Ab.sRet
noncomputable def sDrop := @Ab.sDrop
noncomputable def sIf := @Ab.sIf
noncomputable def sAug := @Ab.sAug
noncomputable def sBreak := @Ab.sBreak
noncomputable def sCont := @Ab.sCont
noncomputable def gSet := @Ab.gSet
noncomputable def gsNil := @Ab.gsNil
noncomputable def gsCons := @Ab.gsCons
noncomputable def gTupM := @Ab.gTupM
noncomputable def sAsg := @Ab.sAsg
noncomputable def sPar := @Ab.sPar
noncomputable def sFor := @Ab.sFor
noncomputable def iRange1 := @Ab.iRange1
noncomputable def iRange2 := @Ab.iRange2
noncomputable def mFld := @Ab.mFld
noncomputable def sFldM := @Ab.sFldM
noncomputable def sFldAugM := @Ab.sFldAugM
noncomputable def mMeth := @Ab.mMeth
noncomputable def mProp := @Ab.mProp
noncomputable def vMake := @Ab.vMake
noncomputable def iEnumM := @Ab.iEnumM
noncomputable def iZipM := @Ab.iZipM
noncomputable def iSeqM := @Ab.iSeqM
noncomputable def iStrM := @Ab.iStrM
noncomputable def mYes := @Ab.mYes
noncomputable def mLc := @Ab.mLc
noncomputable def mBM := @Ab.mBM
noncomputable def gSubL := @Ab.gSubL
noncomputable def mIsi := @Ab.mIsi
noncomputable def sRaise := @Ab.sRaise
noncomputable def sRaise0 := @Ab.sRaise0
noncomputable def aStar := @Ab.aStar
noncomputable def mOp := @Ab.mOp
noncomputable def mLen := @Ab.mLen
noncomputable def mDget := @Ab.mDget
noncomputable def gSubD := @Ab.gSubD
noncomputable def mDisp := @Ab.mDisp
noncomputable def mItems := @Ab.mItems
noncomputable def mDc := @Ab.mDc
noncomputable def gFld := @Ab.gFld
noncomputable def mOutcome := @Ab.mOutcome
noncomputable def mBad := @Ab.mBad
noncomputable def sBad := @Ab.sBad
noncomputable def mNeg := @Ab.mNeg
noncomputable def mCall := @Ab.mCall
noncomputable def mGetO := @Ab.mGetO
noncomputable def mOpT := @Ab.mOpT
noncomputable def mIsiO := @Ab.mIsiO
noncomputable def gTupS := @Ab.gTupS
noncomputable def iKeysM := @Ab.iKeysM
noncomputable def iValsM := @Ab.iValsM
noncomputable def mDisp0 := @Ab.mDisp0
end Se

set_option Elab.async false
set_option linter.all false
set_option maxRecDepth 100000
set_option maxHeartbeats 1000000
/-! Ab: wishes on sealed mirrors, backward: one rule for each combinator. -/
namespace Ab
open PySem PySem.Spec PyProof.Rows L2
/-- a target's wish -/
def WpG (r : Option (Slots × Store)) (n : Slots → Store → Prop) : Prop := match r with
  | some (ρ, st) => n ρ st
  | none => False
/-- what an optional chain of comparisons goes on with -/
def Chk (z : Val) (P N : Prop) : Prop := match z with
  | .bl true => P
  | .bl false => N
  | _ => False
/-- a cell is laid -/
def New (d : Cell) (st : Store) (P : Nat → Store → Prop) : Prop := ∀ (n : Nat) (s : Store), s[n]? = some d → Keep [] st s → st.length ≤ n → P n s
/-- a cell is written -/
def Wr (n : Nat) (d : Cell) (st : Store) (P : Store → Prop) : Prop := ∀ s : Store, s[n]? = some d → Keep [n] st s → P s
/-- a truth that is worked out -/
def TruB (b : Bool) (P : Bool → Prop) : Prop := P b
/-- a slot is set -/
def NF (ρ : Slots) (i : Nat) (x : Option Val) (n : Slots → Prop) : Prop := n (ρ.set i x)
theorem New.at {d : Cell} {st : Store} {P : Nat → Store → Prop} (h : New d st P) : P st.length (st ++ [d]) := h _ _ (by simp) .push (Nat.le_refl _)
theorem Wr.at {n : Nat} {c d : Cell} {st : Store} {P : Store → Prop} (h : Wr n d st P) (e : st[n]? = some c) : P (st.set n d) := h _ (by rw [List.getElem?_set_self (List.getElem?_eq_some_iff.mp e).1]) (.set (by simp))
end Ab
namespace Vc
open PySem PySem.Spec PyProof.Rows L2
open Ab (Val Cell Store Slots R O ME MT MA MS MF MG MGs MI MO Chk Wish Exc seqAt Keep vIx vFld vAdd New Wr NF TruB)
@[irreducible] def WpR {α : Type} (r : R α) (Q : α → Store → Prop) (X : Exc → Store → Prop) : Prop := Ab.WpR r Q X
@[irreducible] def WpO (o : O) (W : Wish) : Prop := Ab.WpO o W
@[irreducible] def WpG (r : Option (Slots × Store)) (n : Slots → Store → Prop) : Prop := Ab.WpG r n
theorem uR {α : Type} {r : R α} {Q : α → Store → Prop} {X : Exc → Store → Prop} : WpR r Q X = Ab.WpR r Q X := by unfold WpR; rfl
theorem uO {o : O} {W : Wish} : WpO o W = Ab.WpO o W := by unfold WpO; rfl
theorem uG {r : Option (Slots × Store)} {n : Slots → Store → Prop} : WpG r n = Ab.WpG r n := by unfold WpG; rfl
section
variable {α : Type} {Q : Val → Store → Prop} {QB : Bool → Store → Prop} {QL : List Val → Store → Prop} {QO : Option Int → Store → Prop} {QA : α → Store → Prop} {X : Exc → Store → Prop} {st : Store} {ρ : Slots} {a b c m : ME} {t u : MT} {ta : MA} {s1 s2 : MS} {n : Slots → Store → Prop} {r : Val → Store → Prop} {k l : Slots → Store → Prop}
theorem b_ok {x : α} (h : QA x st) : WpR (.ok x st) QA X := by
  simp only [uR, uO, uG] at *
  exact h
theorem b_ifok {p : Prop} [Decidable p] {x : α} {s' : Store} (h : p) (q : QA x s') : WpR (if p then .ok x s' else .bad) QA X := by
  simp only [uR, uO, uG] at *
  rw [if_pos h]; exact q
theorem b_var {i : Nat} {v : Val} (h : ρ[i]? = some (some v)) (q : Q v st) : WpR (Se.mVar i ρ st) Q X := by
  simp only [uR, uO, uG] at *
  exact (Ab.w_var h).mpr q
theorem b_C {v : Val} (q : Q v st) : WpR (Se.mC v ρ st) Q X := by
  simp only [uR, uO, uG] at *
  exact q
theorem b_bin {g : Val → Val → Store → R Val} (q : WpR (a ρ st) (fun x st1 => WpR (b ρ st1) (fun y st2 => WpR (g x y st2) Q X) X) X) : WpR (Se.mBin g a b ρ st) Q X := by
  simp only [uR, uO, uG] at *
  exact Ab.w_bin.mpr q
theorem b_test (q : WpR (m ρ st) (fun x st1 => WpR (Ab.asB x st1) QB X) X) : WpR (Se.mTest m ρ st) QB X := by
  simp only [uR, uO, uG] at *
  exact Ab.w_test.mpr q
theorem b_not (q : WpR (t ρ st) (fun k st1 => QB (!k) st1) X) : WpR (Se.tNotM t ρ st) QB X := by
  simp only [uR, uO, uG] at *
  exact Ab.w_not.mpr q
theorem b_tand (q : WpR (t ρ st) (fun k st1 => if k = true then WpR (u ρ st1) QB X else QB false st1) X) : WpR (Se.tAndM t u ρ st) QB X := by
  simp only [uR, uO, uG] at *
  show Ab.WpR (Ab.tAndM t u ρ st) QB X
  unfold Ab.tAndM; rw [Ab.wp_bind]
  refine Ab.WpR.mono q (fun k s h => ?_) fun _ _ h => h
  cases k <;> exact h
theorem b_tor (q : WpR (t ρ st) (fun k st1 => if k = true then QB true st1 else WpR (u ρ st1) QB X) X) : WpR (Se.tOrM t u ρ st) QB X := by
  simp only [uR, uO, uG] at *
  show Ab.WpR (Ab.tOrM t u ρ st) QB X
  unfold Ab.tOrM; rw [Ab.wp_bind]
  refine Ab.WpR.mono q (fun k s h => ?_) fun _ _ h => h
  cases k <;> exact h
theorem b_and (q : WpR (a ρ st) (fun x st1 => Chk x (WpR (b ρ st1) Q X) (Q (.bl false) st1)) X) : WpR (Se.mAnd a b ρ st) Q X := by
  simp only [uR, uO, uG] at *
  show Ab.WpR (Ab.mAnd a b ρ st) Q X
  unfold Ab.mAnd; rw [Ab.wp_bind]
  refine Ab.WpR.mono q (fun k s h => ?_) fun _ _ h => h
  unfold Chk at h
  split at h <;> first | exact h | exact h.elim
theorem b_or (q : WpR (a ρ st) (fun x st1 => Chk x (Q (.bl true) st1) (WpR (b ρ st1) Q X)) X) : WpR (Se.mOr a b ρ st) Q X := by
  simp only [uR, uO, uG] at *
  show Ab.WpR (Ab.mOr a b ρ st) Q X
  unfold Ab.mOr; rw [Ab.wp_bind]
  refine Ab.WpR.mono q (fun k s h => ?_) fun _ _ h => h
  unfold Chk at h
  split at h <;> first | exact h | exact h.elim
theorem b_mnot (q : WpR (a ρ st) (fun x st1 => Chk x (Q (.bl false) st1) (Q (.bl true) st1)) X) : WpR (Se.mNot a ρ st) Q X := by
  simp only [uR, uO, uG] at *
  show Ab.WpR (Ab.mNot a ρ st) Q X
  unfold Ab.mNot; rw [Ab.wp_bind]
  refine Ab.WpR.mono q (fun k s h => ?_) fun _ _ h => h
  unfold Chk at h
  split at h <;> first | exact h | exact h.elim
theorem b_chain {g g' : Val → Val → Store → R Val} (q : WpR (a ρ st) (fun x st1 => WpR (b ρ st1) (fun y st2 => WpR (g x y st2) (fun z st3 => Chk z (WpR (c ρ st3) (fun w st4 => WpR (g' y w st4) Q X) X) (Q (.bl false) st3)) X) X) X) : WpR (Se.mChain g g' a b c ρ st) Q X := by
  simp only [uR, uO, uG] at *
  show Ab.WpR (Ab.mChain g g' a b c ρ st) Q X
  unfold Ab.mChain; simp only [Ab.wp_bind]
  refine Ab.WpR.mono q (fun x s h => ?_) fun _ _ h => h
  refine Ab.WpR.mono h (fun y s h => ?_) fun _ _ h => h
  refine Ab.WpR.mono h (fun z s h => ?_) fun _ _ h => h
  unfold Chk at h
  split at h <;> first | (rw [Ab.wp_bind]; exact h) | exact h | exact h.elim
/-- i <= j <= k of ints, the last expression told whatever the first says -/
theorem b_chainI (q : WpR (a ρ st) (fun x st1 => WpR (b ρ st1) (fun y st2 => WpR (c ρ st2) (fun w st3 => ∃ i j k, x = .int i ∧ y = .int j ∧ w = .int k ∧ st3 = st2 ∧ Q (.bl (decide (i ≤ j ∧ j ≤ k))) st2) fun _ _ => False) X) X) : WpR (Se.mChain Ab.vLe Ab.vLe a b c ρ st) Q X := by
  refine b_chain ?_
  simp only [uR] at *
  refine Ab.WpR.mono q (fun x s h => ?_) fun _ _ h => h
  refine Ab.WpR.mono h (fun y s h => ?_) fun _ _ h => h
  cases hc : c ρ s with
  | bad => rw [hc] at h; exact h.elim
  | exc e s' => rw [hc] at h; exact h.elim
  | ok w s' =>
    rw [hc] at h
    obtain ⟨i, j, k, rfl, rfl, rfl, rfl, h⟩ := h
    show Chk (.bl (decide (i ≤ j))) _ _
    by_cases q : i ≤ j
    · rw [decide_eq_true q]
      simp only [q, true_and] at h
      show Ab.WpR (c ρ s') _ X
      rw [hc]; exact h
    · rw [decide_eq_false q]
      simp only [q, false_and, decide_false] at h
      exact h
theorem b_if (q : WpR (t ρ st) (fun k st1 => if k = true then WpR (a ρ st1) Q X else WpR (b ρ st1) Q X) X) : WpR (Se.mIf t a b ρ st) Q X := by
  simp only [uR, uO, uG] at *
  exact Ab.w_if.mpr q
theorem b_aNil (q : QL [] st) : WpR (Se.aNil ρ st) QL X := by
  simp only [uR, uO, uG] at *
  exact q
theorem b_aCons (q : WpR (m ρ st) (fun x st1 => WpR (ta ρ st1) (fun xs st2 => QL (x :: xs) st2) X) X) : WpR (Se.aCons m ta ρ st) QL X := by
  simp only [uR, uO, uG] at *
  exact Ab.w_aCons.mpr q
theorem b_tup (q : WpR (ta ρ st) (fun xs st1 => xs.length ≤ 100000 ∧ Q (.tup xs) st1) X) : WpR (Se.mTup ta ρ st) Q X := by
  simp only [uR, uO, uG] at *
  exact Ab.w_tup.mpr (Ab.WpR.mono q (fun _ _ h => ⟨Nat.le_trans h.1 (by rw [sizeLine_eq]; omega), h.2⟩) fun _ _ h => h)
theorem b_lst (q : WpR (ta ρ st) (fun xs st1 => xs.length ≤ 100000 ∧ New (.lst xs) st1 fun n s => Q (.ref n) s) X) : WpR (Se.mLst ta ρ st) Q X := by
  simp only [uR, uO, uG] at *
  exact Ab.w_lst.mpr (Ab.WpR.mono q (fun _ _ h => ⟨Nat.le_trans h.1 (by rw [sizeLine_eq]; omega), h.2.at⟩) fun _ _ h => h)
theorem b_app {f : MF} (q : WpR (ta ρ st) (fun xs st1 => WpR (f xs st1) Q X) X) : WpR (Se.mApp f ta ρ st) Q X := by
  simp only [uR, uO, uG] at *
  exact Ab.w_app.mpr q
theorem b_neg (q : WpR (m ρ st) (fun x st1 => WpR (Ab.vNeg x st1) Q X) X) : WpR (Se.mNeg m ρ st) Q X := by
  simp only [uR, uO, uG] at *
  show Ab.WpR ((m ρ st).bind Ab.vNeg) Q X
  rw [Ab.wp_bind]; exact q
theorem b_cut {lo hi : MO} (q : WpR (a ρ st) (fun x st1 => WpR (lo ρ st1) (fun i st2 => WpR (hi ρ st2) (fun j st3 => WpR (Ab.vCut x i j st3) Q X) X) X) X) : WpR (Se.mCut a lo hi ρ st) Q X := by
  simp only [uR, uO, uG] at *
  show Ab.WpR (Ab.mCut a lo hi ρ st) Q X
  unfold Ab.mCut; simp only [Ab.wp_bind]; exact q
theorem b_oNone (q : QO none st) : WpR (Se.oNone ρ st) QO X := by
  simp only [uR, uO, uG] at *
  exact q
theorem b_oSome (q : WpR (m ρ st) (fun x st1 => WpR (Ab.asI x st1) QO X) X) : WpR (Se.oSome m ρ st) QO X := by
  simp only [uR, uO, uG] at *
  show Ab.WpR (Ab.oSome m ρ st) QO X
  unfold Ab.oSome; rw [Ab.wp_bind]; exact q
theorem b_fld {cs : List Nat} {f : Nat} (q : WpR (m ρ st) (fun x st1 => WpR (vFld cs f x st1) Q X) X) : WpR (Se.mFld cs f m ρ st) Q X := by
  simp only [uR, uO, uG] at *
  show Ab.WpR (Ab.mFld cs f m ρ st) Q X
  unfold Ab.mFld; rw [Ab.wp_bind]; exact q
theorem v_fld {cs : List Nat} {f n C : Nat} {fs : List (Nat × Val)} {w : Val} (h : st[n]? = some (.ins C fs)) (hC : C ∈ cs) (hf : fs.lookup f = some w) (q : Q w st) : WpR (vFld cs f (.ref n) st) Q X := by
  simp only [uR, uO, uG] at *
  unfold vFld; dsimp only
  rw [h]; dsimp only; rw [if_pos hC, hf]; exact q
theorem b_BM {T : String} {g : Val → List Val → Store → R Val} (q : WpR (m ρ st) (fun x st1 => Ab.tyOk T x st1 = true ∧ WpR (ta ρ st1) (fun ws st2 => WpR (g x ws st2) Q X) X) X) : WpR (Se.mBM T g m ta ρ st) Q X := by
  simp only [uR, uO, uG] at *
  show Ab.WpR (Ab.mBM T g m ta ρ st) Q X
  unfold Ab.mBM; rw [Ab.wp_bind]
  refine Ab.WpR.mono q (fun x s h => ?_) fun _ _ h => h
  rw [if_pos h.1, Ab.wp_bind]; exact h.2
theorem ty_lst {n : Nat} {xs : List Val} (h : st[n]? = some (.lst xs)) : Ab.tyOk "list" (.ref n) st = true := by
  unfold Ab.tyOk; dsimp only; rw [h]; rfl
theorem b_meth {tbl : List (Nat × MF)} (q : WpR (m ρ st) (fun x st1 => ∃ C mf, Ab.clsAt st1 x = some C ∧ tbl.lookup C = some mf ∧ WpR (ta ρ st1) (fun ws st2 => WpR (mf (x :: ws) st2) Q X) X) X) : WpR (Se.mMeth tbl m ta ρ st) Q X := by
  simp only [uR, uO, uG] at *
  show Ab.WpR (Ab.mMeth tbl m ta ρ st) Q X
  unfold Ab.mMeth; rw [Ab.wp_bind]
  refine Ab.WpR.mono q (fun x s h => ?_) fun _ _ h => h
  obtain ⟨C, mf, h1, h2, h3⟩ := h
  rw [h1]; dsimp only; rw [h2]; dsimp only; rw [Ab.wp_bind]; exact h3
theorem cls_at {n C : Nat} {fs : List (Nat × Val)} (h : st[n]? = some (.ins C fs)) : Ab.clsAt st (.ref n) = some C := by
  unfold Ab.clsAt; dsimp only; rw [h]
theorem b_prop {tbl : List (Nat × MF)} (q : WpR (m ρ st) (fun x st1 => ∃ C mf, Ab.clsAt st1 x = some C ∧ tbl.lookup C = some mf ∧ WpR (mf [x] st1) Q (fun _ _ => False)) X) : WpR (Se.mProp tbl m ρ st) Q X := by
  simp only [uR, uO, uG] at *
  show Ab.WpR (Ab.mProp tbl m ρ st) Q X
  unfold Ab.mProp; rw [Ab.wp_bind]
  refine Ab.WpR.mono q (fun x s h => ?_) fun _ _ h => h
  obtain ⟨C, mf, h1, h2, h3⟩ := h
  rw [h1]; dsimp only; rw [h2]; dsimp only
  cases hm : mf [x] s with
  | bad => rw [hm] at h3; exact h3
  | exc e s' => rw [hm] at h3; exact h3
  | ok w s' => rw [hm] at h3; exact h3
theorem b_make {C : Nat} {mf : MF} {ws : List Val} (q : New (.ins C []) st fun n s => WpR (mf (.ref n :: ws) s) (fun v st1 => v = .non ∧ Q (.ref n) st1) X) : WpR (Se.vMake C mf ws st) Q X := by
  simp only [uR, uO, uG] at *
  replace q := q.at
  show Ab.WpR (Ab.vMake C mf ws st) Q X
  unfold Ab.vMake; rw [Ab.wp_bind]
  refine Ab.WpR.mono q (fun x s h => ?_) fun _ _ h => h
  rw [h.1]; exact h.2
theorem b_dget (q : WpR (a ρ st) (fun x st1 => WpR (b ρ st1) (fun y st2 => WpR (Ab.vDget x y st2) Q X) X) X) : WpR (Se.mDget a b ρ st) Q X := by
  simp only [uR, uO, uG] at *
  show Ab.WpR (Ab.mDget a b ρ st) Q X
  unfold Ab.mDget; simp only [Ab.wp_bind]; exact q
theorem v_dget {n : Nat} {s : Str} {kvs : List (Key × Val)} {w : Val} (h : st[n]? = some (.dct kvs)) (hk : Ab.valW kvs (.inr s) = some w) (q : Q w st) : WpR (Ab.vDget (.ref n) (.str s) st) Q X := by
  simp only [uR, uO, uG] at *
  show Ab.WpR (match Ab.dctAt st n with | some kvs => (match Ab.valW kvs (.inr s) with | some w => .ok w st | none => .bad) | _ => .bad) Q X
  unfold Ab.dctAt
  rw [h]; dsimp only; rw [hk]; exact q
theorem v_dgetF {n : Nat} {s : Str} {kvs : List (Key × Val)} {w : Val} (h : st[n]? = some (.fdc kvs)) (hk : Ab.valW kvs (.inr s) = some w) (q : Q w st) : WpR (Ab.vDget (.ref n) (.str s) st) Q X := by
  simp only [uR, uO, uG] at *
  show Ab.WpR (match Ab.dctAt st n with | some kvs => (match Ab.valW kvs (.inr s) with | some w => .ok w st | none => .bad) | _ => .bad) Q X
  unfold Ab.dctAt
  rw [h]; dsimp only; rw [hk]; exact q
theorem b_disp {prs : List (ME × ME)} (q : New (.dct []) st fun n s => WpR (Ab.pairsM prs ρ s) (fun kvs st2 => st2[n]? = some (.dct []) ∧ kvs.length ≤ 15 ∧ Wr n (.dct (Ab.mergeW [] kvs)) st2 fun s => Q (.ref n) s) X) : WpR (Se.mDisp prs ρ st) Q X := by
  simp only [uR, uO, uG] at *
  replace q := q.at
  show Ab.WpR (Ab.mDisp prs ρ st) Q X
  unfold Ab.mDisp; rw [Ab.wp_bind]
  refine Ab.WpR.mono q (fun x s h => ?_) fun _ _ h => h
  rw [h.1]; dsimp only; rw [if_pos h.2.1]; exact h.2.2.at h.1
theorem b_pnil {QP : List (Key × Val) → Store → Prop} (q : QP [] st) : WpR (Ab.pairsM [] ρ st) QP X := by
  simp only [uR, uO, uG] at *
  exact q
theorem b_pcons {QP : List (Key × Val) → Store → Prop} {prs : List (ME × ME)} (q : WpR (a ρ st) (fun x st1 => ∃ k, Ab.keyW x = some k ∧ WpR (b ρ st1) (fun y st2 => WpR (Ab.pairsM prs ρ st2) (fun ps st3 => QP ((k, y) :: ps) st3) X) X) X) : WpR (Ab.pairsM ((a, b) :: prs) ρ st) QP X := by
  simp only [uR, uO, uG] at *
  rw [Ab.pairsM, Ab.wp_bind]
  refine Ab.WpR.mono q (fun x s h => ?_) fun _ _ h => h
  obtain ⟨k, h1, h2⟩ := h
  rw [h1]; dsimp only; simp only [Ab.wp_bind, Ab.wp_ok]; exact h2
theorem b_items (q : WpR (m ρ st) (fun x st1 => ∃ n kvs, x = .ref n ∧ st1[n]? = some (.dct kvs) ∧ New (.lst (kvs.map fun kv => .tup [Ab.unkey kv.1, kv.2])) st1 fun m s => Q (.ref m) s) X) : WpR (Se.mItems m ρ st) Q X := by
  simp only [uR, uO, uG] at *
  show Ab.WpR (Ab.mItems m ρ st) Q X
  unfold Ab.mItems; rw [Ab.wp_bind]
  refine Ab.WpR.mono q (fun x s h => ?_) fun _ _ h => h
  obtain ⟨n, kvs, rfl, h1, h2⟩ := h
  dsimp only; rw [h1]; exact h2.at
theorem b_isi {ts : List Ab.Ty6} (q : WpR (m ρ st) (fun w st1 => ∃ k, Ab.kindW st1 w = some k ∧ TruB (ts.any (Ab.isT k)) fun b => Q (.bl b) st1) X) : WpR (Se.mIsi ts m ρ st) Q X := by
  simp only [uR, uO, uG] at *
  show Ab.WpR (Ab.mIsi ts m ρ st) Q X
  unfold Ab.mIsi; rw [Ab.wp_bind]
  refine Ab.WpR.mono q (fun x s h => ?_) fun _ _ h => h
  obtain ⟨k, h1, h2⟩ := h
  rw [h1]; exact h2
theorem b_star (q : WpR (m ρ st) (fun w st1 => ∃ xs, Ab.itemsW st1 w = some xs ∧ WpR (ta ρ st1) (fun ys st2 => QL (xs ++ ys) st2) X) X) : WpR (Se.aStar m ta ρ st) QL X := by
  simp only [uR, uO, uG] at *
  show Ab.WpR (Ab.aStar m ta ρ st) QL X
  unfold Ab.aStar; rw [Ab.wp_bind]
  refine Ab.WpR.mono q (fun x s h => ?_) fun _ _ h => h
  obtain ⟨xs, h1, h2⟩ := h
  rw [h1]; dsimp only; rw [Ab.wp_bind]; exact h2
theorem b_op {C : Nat} {mf : MF} (q : WpR (a ρ st) (fun x st1 => WpR (b ρ st1) (fun y st2 => Ab.isIns C st2 x = true ∧ Ab.isIns C st2 y = true ∧ WpR (mf [x, y] st2) Q X) X) X) : WpR (Se.mOp C mf a b ρ st) Q X := by
  simp only [uR, uO, uG] at *
  show Ab.WpR (Ab.mOp C mf a b ρ st) Q X
  unfold Ab.mOp; simp only [Ab.wp_bind]
  refine Ab.WpR.mono q (fun x s h => ?_) fun _ _ h => h
  refine Ab.WpR.mono h (fun x s h => ?_) fun _ _ h => h
  rw [if_pos ⟨h.1, h.2.1⟩]; exact h.2.2
theorem b_call {C : Nat} {mf : MF} (q : WpR (a ρ st) (fun x st1 => Ab.isIns C st1 x = true ∧ WpR (ta ρ st1) (fun vs st2 => Ab.isIns C st2 x = true ∧ WpR (mf (x :: vs) st2) Q X) X) X) : WpR (Se.mCall C mf a ta ρ st) Q X := by
  simp only [uR, uO, uG] at *
  show Ab.WpR (Ab.mCall C mf a ta ρ st) Q X
  unfold Ab.mCall; rw [Ab.wp_bind]
  refine Ab.WpR.mono q (fun x s h => ?_) fun _ _ h => h
  rw [if_pos h.1, Ab.wp_bind]
  refine Ab.WpR.mono h.2 (fun vs s h => ?_) fun _ _ h => h
  rw [if_pos h.1]; exact h.2
theorem b_getO {C : Nat} {mf : MF} (q : WpR (a ρ st) (fun x st1 => WpR (b ρ st1) (fun y st2 => Ab.isIns C st2 x = true ∧ WpR (mf [x, y] st2) Q X) X) X) : WpR (Se.mGetO C mf a b ρ st) Q X := by
  simp only [uR, uO, uG] at *
  show Ab.WpR (Ab.mGetO C mf a b ρ st) Q X
  unfold Ab.mGetO; simp only [Ab.wp_bind]
  refine Ab.WpR.mono q (fun x s h => ?_) fun _ _ h => h
  refine Ab.WpR.mono h (fun x s h => ?_) fun _ _ h => h
  rw [if_pos h.1]; exact h.2
theorem b_opT {C : Nat} {mf : MF} (q : WpR (a ρ st) (fun x st1 => WpR (b ρ st1) (fun y st2 => Ab.isIns C st2 x = true ∧ Ab.isStr y = true ∧ WpR (mf [x, y] st2) Q X) X) X) : WpR (Se.mOpT C mf a b ρ st) Q X := by
  simp only [uR, uO, uG] at *
  show Ab.WpR (Ab.mOpT C mf a b ρ st) Q X
  unfold Ab.mOpT; simp only [Ab.wp_bind]
  refine Ab.WpR.mono q (fun x s h => ?_) fun _ _ h => h
  refine Ab.WpR.mono h (fun x s h => ?_) fun _ _ h => h
  rw [if_pos ⟨h.1, h.2.1⟩]; exact h.2.2
theorem v_tru {C : Nat} {mf : MF} {neg : Bool} {x y : Val} (h1 : Ab.isIns C st x = true) (h2 : WpR (mf [x, y] st) (fun v s => ∃ c : Bool, v = .bl c ∧ Q (.bl (if neg then !c else c)) s) fun _ _ => False) : WpR (Ab.truR C mf neg x y st) Q X := by
  simp only [uR, uO, uG] at *
  unfold Ab.truR
  rw [if_pos h1]
  cases hm : mf [x, y] st with
  | bad => rw [hm] at h2; exact h2
  | exc e s' => rw [hm] at h2; exact h2.elim
  | ok w s' =>
    rw [hm] at h2
    obtain ⟨c, rfl, h3⟩ := h2
    exact h3
theorem b_isiO {tbl : List (Nat × Bool)} (q : WpR (m ρ st) (fun w st1 => ∃ b, Ab.isiW tbl st1 w = some b ∧ Q (.bl b) st1) X) : WpR (Se.mIsiO tbl m ρ st) Q X := by
  simp only [uR, uO, uG] at *
  show Ab.WpR (Ab.mIsiO tbl m ρ st) Q X
  unfold Ab.mIsiO; rw [Ab.wp_bind]
  refine Ab.WpR.mono q (fun x s h => ?_) fun _ _ h => h
  obtain ⟨b, h1, h2⟩ := h
  rw [h1]; exact h2
theorem g_tupS {j : Nat} {h : MGs} {ws : List Val} (hl : j ≤ ws.length ∧ ws.length ≤ 1000) (q : New (.lst (ws.drop j)) st fun k s => WpG (h (ws.take j ++ [.ref k]) ρ s) n) : WpG (Se.gTupS j h (.tup ws) ρ st) n := by
  simp only [uR, uO, uG] at *
  show Ab.WpG (Ab.gTupS j h (.tup ws) ρ st) n
  dsimp only [Ab.gTupS]
  rw [if_pos hl]
  exact q.at
theorem b_disp0 (q : New (.dct []) st fun n s => Q (.ref n) s) : WpR (Se.mDisp0 ρ st) Q X := by
  simp only [uR, uO, uG] at *
  exact q.at
theorem is_ins {n C : Nat} {fs : List (Nat × Val)} (h : st[n]? = some (.ins C fs)) : Ab.isIns C st (.ref n) = true := by
  unfold Ab.isIns; dsimp only; rw [h]; simp
theorem b_len {C : Nat} {mf : MF} (q : WpR (m ρ st) (fun x st1 => Ab.isIns C st1 x = true ∧ WpR (mf [x] st1) (fun v st2 => ∃ i, v = .int i ∧ 0 ≤ i ∧ i < 1000000 ∧ Q (.int i) st2) (fun _ _ => False)) X) : WpR (Se.mLen C mf m ρ st) Q X := by
  simp only [uR, uO, uG] at *
  show Ab.WpR (Ab.mLen C mf m ρ st) Q X
  unfold Ab.mLen; rw [Ab.wp_bind]
  refine Ab.WpR.mono q (fun x s h => ?_) fun _ _ h => h
  rw [if_pos h.1]
  have h2 := h.2
  cases hm : mf [x] s with
  | bad => rw [hm] at h2; exact h2
  | exc e s' => rw [hm] at h2; exact h2.elim
  | ok w s' =>
    rw [hm] at h2
    obtain ⟨i, rfl, h3, h4, h5⟩ := h2
    dsimp only; rw [if_pos ⟨h3, h4⟩]; exact h5
theorem b_outcome (q : WpR (m ρ st) (fun v st1 => Q (.tup [.str "value", v]) st1) (fun x st1 => ∃ ws, Ab.outV x = some ws ∧ ws.all Ab.flatW = true ∧ Q (.tup ws) st1)) : WpR (Se.mOutcome m ρ st) Q X := by
  simp only [uR, uO, uG] at *
  show Ab.WpR (Ab.mOutcome m ρ st) Q X
  unfold Ab.mOutcome
  cases hm : m ρ st with
  | bad => rw [hm] at q; exact q
  | exc e s' =>
    rw [hm] at q
    obtain ⟨ws, h1, h2, h3⟩ := q
    dsimp only; rw [h1]; dsimp only; rw [if_pos h2]; exact h3
  | ok w s' => rw [hm] at q; exact q
/-! statements -/
theorem b_next (q : n ρ st) : WpO (Se.sNext ρ st) ⟨n, r, k, l, X⟩ := by
  simp only [uR, uO, uG] at *
  exact q
theorem b_seq (q : WpO (s1 ρ st) ⟨fun ρ st => WpO (s2 ρ st) ⟨n, r, k, l, X⟩, r, k, l, X⟩) : WpO (Se.sSeq s1 s2 ρ st) ⟨n, r, k, l, X⟩ := by
  simp only [uR, uO, uG] at *
  exact Ab.w_seq.mpr q
theorem b_set {i : Nat} (q : WpR (m ρ st) (fun w st1 => NF ρ i (some w) fun ρ => n ρ st1) X) : WpO (Se.sSet i m ρ st) ⟨n, r, k, l, X⟩ := by
  simp only [uR, uO, uG] at *
  exact Ab.w_set.mpr q
theorem b_ret (q : WpR (m ρ st) (fun w st1 => r w st1) X) : WpO (Se.sRet m ρ st) ⟨n, r, k, l, X⟩ := by
  simp only [uR, uO, uG] at *
  exact Ab.w_ret.mpr q
theorem b_drop (q : WpR (m ρ st) (fun _ st1 => n ρ st1) X) : WpO (Se.sDrop m ρ st) ⟨n, r, k, l, X⟩ := by
  simp only [uR, uO, uG] at *
  exact Ab.w_drop.mpr q
theorem b_sif (q : WpR (t ρ st) (fun b st1 => if b = true then WpO (s1 ρ st1) ⟨n, r, k, l, X⟩ else WpO (s2 ρ st1) ⟨n, r, k, l, X⟩) X) : WpO (Se.sIf t s1 s2 ρ st) ⟨n, r, k, l, X⟩ := by
  simp only [uR, uO, uG] at *
  exact Ab.w_sif.mpr q
theorem b_break (q : k ρ st) : WpO (Se.sBreak ρ st) ⟨n, r, k, l, X⟩ := by
  simp only [uR, uO, uG] at *
  exact q
theorem b_cont (q : l ρ st) : WpO (Se.sCont ρ st) ⟨n, r, k, l, X⟩ := by
  simp only [uR, uO, uG] at *
  exact q
theorem b_aug {i : Nat} {g : Val → Val → Store → R Val} {x : Val} (hx : ρ[i]? = some (some x)) (q : WpR (m ρ st) (fun y st1 => WpR (g x y st1) (fun z st2 => NF ρ i (some z) fun ρ => n ρ st2) X) X) : WpO (Se.sAug i g m ρ st) ⟨n, r, k, l, X⟩ := by
  simp only [uR, uO, uG] at *
  show Ab.WpO (Ab.sAug i g m ρ st) _
  unfold Ab.sAug; rw [hx]; dsimp only; rw [Ab.wp_toO]
  refine Ab.WpR.mono q (fun y s h => ?_) fun _ _ h => h
  rw [Ab.wp_toO]; exact h
theorem b_asg {g : MG} (q : WpR (m ρ st) (fun w st1 => WpG (g w ρ st1) n) X) : WpO (Se.sAsg m g ρ st) ⟨n, r, k, l, X⟩ := by
  simp only [uR, uO, uG] at *
  exact Ab.w_asg.mpr q
theorem b_par {i j : Nat} (q : WpR (ta ρ st) (fun ws st1 => ∃ v w, ws = [v, w] ∧ NF ρ i (some v) fun ρ => NF ρ j (some w) fun ρ => n ρ st1) X) : WpO (Se.sPar i j ta ρ st) ⟨n, r, k, l, X⟩ := by
  simp only [uR, uO, uG] at *
  show Ab.WpO (Ab.sPar i j ta ρ st) _
  unfold Ab.sPar; rw [Ab.wp_toO]
  refine Ab.WpR.mono q (fun y s h => ?_) fun _ _ h => h
  obtain ⟨v, w, rfl, h⟩ := h; exact h
theorem b_fldm {cs : List Nat} {f : Nat} (q : WpR (b ρ st) (fun w st1 => WpR (a ρ st1) (fun x st2 => ∃ nn C fs, x = .ref nn ∧ st2[nn]? = some (.ins C fs) ∧ C ∈ cs ∧ fs.length < 1000 ∧ Wr nn (.ins C (Ab.putM f w fs)) st2 fun s => n ρ s) X) X) : WpO (Se.sFldM cs f a b ρ st) ⟨n, r, k, l, X⟩ := by
  simp only [uR, uO, uG] at *
  show Ab.WpO (Ab.sFldM cs f a b ρ st) _
  unfold Ab.sFldM; rw [Ab.wp_toO]
  refine Ab.WpR.mono q (fun y s h => ?_) fun _ _ h => h
  rw [Ab.wp_toO]
  refine Ab.WpR.mono h (fun y s h => ?_) fun _ _ h => h
  obtain ⟨nn, C, fs, rfl, h1, h2, h3, h4⟩ := h
  dsimp only; rw [h1]; dsimp only; rw [if_pos ⟨h2, h3⟩]; exact h4.at h1
theorem b_fldaug {cs : List Nat} {f : Nat} {g : Val → Val → Store → R Val} (q : WpR (a ρ st) (fun x st1 => ∃ nn C fs w, x = .ref nn ∧ st1[nn]? = some (.ins C fs) ∧ C ∈ cs ∧ fs.lookup f = some w ∧ WpR (b ρ st1) (fun y st2 => WpR (g w y st2) (fun z st3 => ∃ fs', st3[nn]? = some (.ins C fs') ∧ fs'.length < 1000 ∧ Wr nn (.ins C (Ab.putM f z fs')) st3 fun s => n ρ s) X) X) X) : WpO (Se.sFldAugM cs f g a b ρ st) ⟨n, r, k, l, X⟩ := by
  simp only [uR, uO, uG] at *
  show Ab.WpO (Ab.sFldAugM cs f g a b ρ st) _
  unfold Ab.sFldAugM; rw [Ab.wp_toO]
  refine Ab.WpR.mono q (fun y s h => ?_) fun _ _ h => h
  obtain ⟨nn, C, fs, w, rfl, h1, h2, h3, h4⟩ := h
  dsimp only; rw [h1]; dsimp only; rw [if_pos h2, h3]; dsimp only; rw [Ab.wp_toO]
  refine Ab.WpR.mono h4 (fun y s h => ?_) fun _ _ h => h
  rw [Ab.wp_toO]
  refine Ab.WpR.mono h (fun y s h => ?_) fun _ _ h => h
  obtain ⟨fs', h1, h2, h3⟩ := h
  rw [h1]; dsimp only; rw [if_pos ⟨rfl, h2⟩]; exact h3.at h1
theorem b_raise {C : Nat} {fs : List Nat} (q : WpR (ta ρ st) (fun ws st1 => ws.length = fs.length ∧ X ⟨C, (fs.zip ws).reverse⟩ st1) X) : WpO (Se.sRaise C fs ta ρ st) ⟨n, r, k, l, X⟩ := by
  simp only [uR, uO, uG] at *
  show Ab.WpO (Ab.sRaise C fs ta ρ st) _
  unfold Ab.sRaise; rw [Ab.wp_toO]
  refine Ab.WpR.mono q (fun y s h => ?_) fun _ _ h => h
  rw [if_pos h.1]; exact h.2
theorem b_raise0 {C : Nat} (q : X ⟨C, []⟩ st) : WpO (Se.sRaise0 C ρ st) ⟨n, r, k, l, X⟩ := by
  simp only [uR, uO, uG] at *
  exact q
theorem b_for {mi : MI} {g : MG} {body : MS} (q : WpR (mi ρ st) (fun it st1 => WpO (Ab.forM g body it.2 it.1 ρ st1) ⟨n, r, k, l, X⟩) X) : WpO (Se.sFor mi g body ρ st) ⟨n, r, k, l, X⟩ := by
  simp only [uR, uO, uG] at *
  exact Ab.w_for.mpr q
/-! targets -/
theorem g_set {i : Nat} {w : Val} (q : NF ρ i (some w) fun ρ => n ρ st) : WpG (Se.gSet i w ρ st) n := by
  simp only [uR, uO, uG] at *
  exact q
theorem g_nil (q : n ρ st) : WpG (Se.gsNil [] ρ st) n := by
  simp only [uR, uO, uG] at *
  exact q
theorem g_cons {g : MG} {h : MGs} {w : Val} {ws : List Val} (q : WpG (g w ρ st) (fun ρ1 st1 => WpG (h ws ρ1 st1) n)) : WpG (Se.gsCons g h (w :: ws) ρ st) n := by
  simp only [uR, uO, uG] at *
  show Ab.WpG (Ab.gsCons g h (w :: ws) ρ st) n
  dsimp only [Ab.gsCons]
  cases hg : g w ρ st with
  | none => rw [hg] at q; exact q
  | some p => rw [hg] at q; exact q
theorem g_tup {j : Nat} {h : MGs} {ws : List Val} (hl : ws.length = j) (q : WpG (h ws ρ st) n) : WpG (Se.gTupM j h (.tup ws) ρ st) n := by
  simp only [uR, uO, uG] at *
  show Ab.WpG (Ab.gTupM j h (.tup ws) ρ st) n
  dsimp only [Ab.gTupM]
  rw [if_pos hl]; exact q
theorem g_fld {cs : List Nat} {f : Nat} {w : Val} (q : WpR (m ρ st) (fun x st1 => ∃ nn C fs, x = .ref nn ∧ st1[nn]? = some (.ins C fs) ∧ C ∈ cs ∧ fs.length < 1000 ∧ Wr nn (.ins C (Ab.putM f w fs)) st1 fun s => n ρ s) fun _ _ => False) : WpG (Se.gFld cs f m w ρ st) n := by
  simp only [uR, uO, uG] at *
  show Ab.WpG (Ab.gFld cs f m w ρ st) n
  unfold Ab.gFld
  cases hm : m ρ st with
  | bad => rw [hm] at q; exact q.elim
  | exc e s' => rw [hm] at q; exact q.elim
  | ok x s' =>
    rw [hm] at q
    obtain ⟨nn, C, fs, rfl, h1, h2, h3, h4⟩ := q
    dsimp only; rw [h1]; dsimp only; rw [if_pos ⟨h2, h3⟩]; exact h4.at h1
theorem g_subL {w : Val} (q : WpR (a ρ st) (fun x st1 => WpR (b ρ st1) (fun i st2 => ∃ nn z xs j, x = .ref nn ∧ i = .int z ∧ st2[nn]? = some (.lst xs) ∧ L2.ixN xs.length z = some j ∧ Wr nn (.lst (xs.set j w)) st2 fun s => n ρ s) fun _ _ => False) fun _ _ => False) : WpG (Se.gSubL a b w ρ st) n := by
  simp only [uR, uO, uG] at *
  show Ab.WpG (Ab.gSubL a b w ρ st) n
  unfold Ab.gSubL
  cases hm : a ρ st with
  | bad => rw [hm] at q; exact q.elim
  | exc e s' => rw [hm] at q; exact q.elim
  | ok x s' =>
    rw [hm] at q
    dsimp only [Ab.WpR] at q ⊢
    cases hb : b ρ s' with
    | bad => rw [hb] at q; exact q.elim
    | exc e s' => rw [hb] at q; exact q.elim
    | ok y s2 =>
      rw [hb] at q
      obtain ⟨nn, z, xs, j, rfl, rfl, h1, h2, h3⟩ := q
      dsimp only; rw [h1]; dsimp only; rw [h2]; exact h3.at h1
theorem g_subD {w : Val} (q : WpR (a ρ st) (fun x st1 => WpR (b ρ st1) (fun i st2 => ∃ nn z kvs, x = .ref nn ∧ Ab.keyW i = some z ∧ st2[nn]? = some (.dct kvs) ∧ kvs.length < 1000 ∧ Wr nn (.dct (Ab.putW kvs z w)) st2 fun s => n ρ s) fun _ _ => False) fun _ _ => False) : WpG (Se.gSubD a b w ρ st) n := by
  simp only [uR, uO, uG] at *
  show Ab.WpG (Ab.gSubD a b w ρ st) n
  unfold Ab.gSubD
  cases hm : a ρ st with
  | bad => rw [hm] at q; exact q.elim
  | exc e s' => rw [hm] at q; exact q.elim
  | ok x s' =>
    rw [hm] at q
    dsimp only [Ab.WpR] at q ⊢
    cases hb : b ρ s' with
    | bad => rw [hb] at q; exact q.elim
    | exc e s' => rw [hb] at q; exact q.elim
    | ok y s2 =>
      rw [hb] at q
      obtain ⟨nn, z, xs, rfl, h0, h1, h2, h3⟩ := q
      dsimp only; rw [h0]; dsimp only; rw [h1]; dsimp only; rw [if_pos h2]; exact h3.at h1
/-! what is gone through -/
section
variable {QI : List Val × (Store → Prop) → Store → Prop}
theorem i_seq (q : WpR (m ρ st) (fun w st1 => ∃ p, Ab.itemsOf st1 w = some p ∧ QI p st1) X) : WpR (Se.iSeqM m ρ st) QI X := by
  simp only [uR, uO, uG] at *
  show Ab.WpR (Ab.iSeqM m ρ st) QI X
  unfold Ab.iSeqM; rw [Ab.wp_bind]
  refine Ab.WpR.mono q (fun y s h => ?_) fun _ _ h => h
  obtain ⟨p, h1, h2⟩ := h
  rw [h1]; exact h2
theorem i_keys (q : WpR (m ρ st) (fun w st1 => ∃ j kvs, w = .ref j ∧ st1[j]? = some (.dct kvs) ∧ Wr j (.fdc kvs) st1 fun s => QI (kvs.map fun kv => Ab.unkey kv.1, fun st' => st'[j]? = some (.fdc kvs)) s) X) : WpR (Se.iKeysM m ρ st) QI X := by
  simp only [uR, uO, uG] at *
  show Ab.WpR (Ab.iKeysM m ρ st) QI X
  unfold Ab.iKeysM Ab.mFrz; simp only [Ab.wp_bind]
  refine Ab.WpR.mono q (fun x s h => ?_) fun _ _ h => h
  obtain ⟨j, kvs, rfl, h1, h2⟩ := h
  dsimp only; rw [h1]; dsimp only
  rw [Ab.wp_ok]
  unfold Ab.fdcAt; dsimp only
  rw [List.getElem?_set_self (List.getElem?_eq_some_iff.mp h1).1]
  exact h2.at h1
theorem i_vals (q : WpR (m ρ st) (fun w st1 => ∃ j kvs, w = .ref j ∧ st1[j]? = some (.dct kvs) ∧ Wr j (.fdc kvs) st1 fun s => QI (kvs.map (·.2), fun st' => st'[j]? = some (.fdc kvs)) s) X) : WpR (Se.iValsM m ρ st) QI X := by
  simp only [uR, uO, uG] at *
  show Ab.WpR (Ab.iValsM m ρ st) QI X
  unfold Ab.iValsM Ab.mFrz; simp only [Ab.wp_bind]
  refine Ab.WpR.mono q (fun x s h => ?_) fun _ _ h => h
  obtain ⟨j, kvs, rfl, h1, h2⟩ := h
  dsimp only; rw [h1]; dsimp only
  rw [Ab.wp_ok]
  unfold Ab.fdcAt; dsimp only
  rw [List.getElem?_set_self (List.getElem?_eq_some_iff.mp h1).1]
  exact h2.at h1
theorem i_enum (q : WpR (m ρ st) (fun w st1 => ∃ xs okp, Ab.itemsOf st1 w = some (xs, okp) ∧ QI (Ab.enumFrom 0 xs, okp) st1) X) : WpR (Se.iEnumM m ρ st) QI X := by
  simp only [uR, uO, uG] at *
  show Ab.WpR (Ab.iEnumM m ρ st) QI X
  unfold Ab.iEnumM; rw [Ab.wp_bind]
  refine Ab.WpR.mono q (fun y s h => ?_) fun _ _ h => h
  obtain ⟨p, okp, h1, h2⟩ := h
  rw [h1]; exact h2
theorem i_zip (q : WpR (a ρ st) (fun w st1 => WpR (b ρ st1) (fun u st2 => ∃ xs okp ys okq, Ab.itemsOf st2 w = some (xs, okp) ∧ Ab.itemsOf st2 u = some (ys, okq) ∧ QI (Ab.zipW xs ys, fun st => okp st ∧ okq st) st2) X) X) : WpR (Se.iZipM a b ρ st) QI X := by
  simp only [uR, uO, uG] at *
  show Ab.WpR (Ab.iZipM a b ρ st) QI X
  unfold Ab.iZipM; simp only [Ab.wp_bind]
  refine Ab.WpR.mono q (fun y s h => ?_) fun _ _ h => h
  refine Ab.WpR.mono h (fun y s h => ?_) fun _ _ h => h
  obtain ⟨p, okp, ys, okq, h1, h2, h3⟩ := h
  rw [h1, h2]; exact h3
theorem i_str (q : WpR (m ρ st) (fun w st1 => ∃ x, w = .str x ∧ QI (Ab.signsW x, fun _ => True) st1) X) : WpR (Se.iStrM m ρ st) QI X := by
  simp only [uR, uO, uG] at *
  show Ab.WpR (Ab.iStrM m ρ st) QI X
  unfold Ab.iStrM; rw [Ab.wp_bind]
  refine Ab.WpR.mono q (fun y s h => ?_) fun _ _ h => h
  obtain ⟨x, rfl, h⟩ := h; exact h
theorem i_range1 (q : WpR (ta ρ st) (fun ws st1 => ∃ j : Int, ws = [.int j] ∧ (-(2 ^ 62) ≤ j ∧ j < 2 ^ 62) ∧ QI ((List.range j.toNat).map fun (i : Nat) => Val.int i, fun _ => True) st1) X) : WpR (Se.iRange1 ta ρ st) QI X := by
  simp only [uR, uO, uG] at *
  show Ab.WpR (Ab.iRange1 ta ρ st) QI X
  unfold Ab.iRange1; rw [Ab.wp_bind]
  refine Ab.WpR.mono q (fun y s h => ?_) fun _ _ h => h
  obtain ⟨j, rfl, h1, h2⟩ := h
  dsimp only; rw [if_pos h1]
  simpa only [Int.zero_add, Ab.wp_ok] using h2
theorem i_range2 (q : WpR (ta ρ st) (fun ws st1 => ∃ i j : Int, ws = [.int i, .int j] ∧ (-(2 ^ 62) ≤ i ∧ i < 2 ^ 62 ∧ -(2 ^ 62) ≤ j ∧ j < 2 ^ 62) ∧ QI ((List.range (j - i).toNat).map fun (k : Nat) => Val.int (i + k), fun _ => True) st1) X) : WpR (Se.iRange2 ta ρ st) QI X := by
  simp only [uR, uO, uG] at *
  show Ab.WpR (Ab.iRange2 ta ρ st) QI X
  unfold Ab.iRange2; rw [Ab.wp_bind]
  refine Ab.WpR.mono q (fun y s h => ?_) fun _ _ h => h
  obtain ⟨i, j, rfl, h1, h2⟩ := h
  dsimp only; rw [if_pos h1]; exact h2
theorem items_lst {n : Nat} {xs : List Val} (h : st[n]? = some (.lst xs)) : Ab.itemsOf st (.ref n) = some (xs, fun st' => seqAt st' n = some xs) := by
  unfold Ab.itemsOf; dsimp only; rw [Ab.seqAt_lst h]
end
theorem b_lc {mi : MI} {g : MG} {vs : List Nat} (q : WpR (mi ρ st) (fun it st1 => WpR (Ab.lcM g t m it.2 st1.length (Ab.wipeM ρ vs) it.1 (st1 ++ [.lst []])) Q X) X) : WpR (Se.mLc mi g t m vs ρ st) Q X := by
  simp only [uR, uO, uG] at *
  show Ab.WpR (Ab.mLc mi g t m vs ρ st) Q X
  unfold Ab.mLc; rw [Ab.wp_bind]; exact q
theorem b_dc {mi : MI} {g : MG} {vs : List Nat} (q : WpR (mi ρ st) (fun it st1 => WpR (Ab.dcM g t a b it.2 st1.length (Ab.wipeM ρ vs) it.1 (st1 ++ [.dct []])) Q X) X) : WpR (Se.mDc mi g t a b vs ρ st) Q X := by
  simp only [uR, uO, uG] at *
  show Ab.WpR (Ab.mDc mi g t a b vs ρ st) Q X
  unfold Ab.mDc; rw [Ab.wp_bind]; exact q
theorem b_yes (q : QB true st) : WpR (Se.mYes ρ st) QB X := by
  simp only [uR, uO, uG] at *
  exact q
theorem b_def {j i : Nat} {body : MS} {ws : List Val} (h : ws.length = j) (q : WpO (body (ws.map some ++ List.replicate i none) st) ⟨fun _ st => Q .non st, Q, fun _ _ => False, fun _ _ => False, X⟩) : WpR (Ab.defM j i body ws st) Q X := by
  simp only [uR, uO, uG] at *
  exact (Ab.wp_def h).mpr q
theorem b_defS {j i : Nat} {body : MS} {ws : List Val} (h : j ≤ ws.length ∧ ws.length ≤ 1000) (q : WpO (body ((ws.take j ++ [Val.tup (ws.drop j)]).map some ++ List.replicate i none) st) ⟨fun _ st => Q .non st, Q, fun _ _ => False, fun _ _ => False, X⟩) : WpR (Ab.defStarM j i body ws st) Q X := by
  simp only [uR, uO, uG] at *
  unfold Ab.defStarM; rw [if_pos h, Ab.wp_fin]; exact q
/-! ops that look at the store -/
theorem v_ixL {i : Nat} {z : Int} {xs : List Val} {w : Val} (h : st[i]? = some (.lst xs)) (hi : L2.atI xs z = some w) (q : Q w st) : WpR (vIx (.ref i) (.int z) st) Q X := by
  simp only [uR, uO, uG] at *
  exact (Ab.ix_ref (Ab.seqAt_lst h) hi).mpr q
theorem v_ixT {z : Int} {xs : List Val} {w : Val} (hi : L2.atI xs z = some w) (q : Q w st) : WpR (vIx (.tup xs) (.int z) st) Q X := by
  simp only [uR, uO, uG] at *
  dsimp only [vIx]; rw [hi]; exact q
theorem v_lenL {i : Nat} {xs : List Val} (h : st[i]? = some (.lst xs)) (q : Q (.int xs.length) st) : WpR (Ab.bLen [.ref i] st) Q X := by
  simp only [uR, uO, uG] at *
  dsimp only [Ab.bLen]; rw [Ab.seqAt_lst h]; exact q
theorem v_tupL {i : Nat} {xs : List Val} (h : st[i]? = some (.lst xs)) (q : Q (.tup xs) st) : WpR (Ab.bTuple [.ref i] st) Q X := by
  simp only [uR, uO, uG] at *
  dsimp only [Ab.bTuple]; rw [Ab.seqAt_lst h]; exact q
theorem v_lstL {i : Nat} {xs : List Val} (h : st[i]? = some (.lst xs)) (q : New (.lst xs) st fun n s => Q (.ref n) s) : WpR (Ab.bList [.ref i] st) Q X := by
  simp only [uR, uO, uG] at *
  dsimp only [Ab.bList]; rw [Ab.seqAt_lst h]; exact q.at
theorem v_addL {i j : Nat} {xs ys : List Val} (h1 : st[i]? = some (.lst xs)) (h2 : st[j]? = some (.lst ys)) (hl : xs.length + ys.length ≤ 100000) (q : New (.lst (xs ++ ys)) st fun n s => Q (.ref n) s) : WpR (vAdd (.ref i) (.ref j) st) Q X := by
  simp only [uR, uO, uG] at *
  dsimp only [vAdd]; rw [h1, h2]; dsimp only; rw [if_pos (by rw [sizeLine_eq]; omega)]; exact q.at
theorem v_addT {xs ys : List Val} (hl : xs.length + ys.length ≤ 100000) (q : Q (.tup (xs ++ ys)) st) : WpR (vAdd (.tup xs) (.tup ys) st) Q X := by
  simp only [uR, uO, uG] at *
  dsimp only [vAdd]; rw [if_pos (by rw [sizeLine_eq]; omega)]; exact q
theorem v_app {i : Nat} {xs : List Val} {y : Val} (h : st[i]? = some (.lst xs)) (hl : xs.length < 100000) (q : Wr i (.lst (xs ++ [y])) st fun s => Q .non s) : WpR (Ab.vAppend (.ref i) [y] st) Q X := by
  simp only [uR, uO, uG] at *
  dsimp only [Ab.vAppend]; rw [h]; dsimp only; rw [if_pos (by rw [sizeLine_eq]; omega)]; exact q.at h
theorem v_pop {i : Nat} {xs : List Val} {y : Val} (h : st[i]? = some (.lst (xs ++ [y]))) (q : Wr i (.lst xs) st fun s => Q y s) : WpR (Ab.vPop (.ref i) [] st) Q X := by
  simp only [uR, uO, uG] at *
  dsimp only [Ab.vPop]; rw [h]; dsimp only
  rw [show (xs ++ [y])[(xs ++ [y]).length - 1]? = some y by simp, List.dropLast_concat]; exact q.at h
theorem v_mul {i j : Int} (h : (-(2 ^ 64) < i ∧ i < 2 ^ 64) ∨ (-(2 ^ 64) < j ∧ j < 2 ^ 64)) (q : Q (.int (i * j)) st) : WpR (Ab.vMul (.int i) (.int j) st) Q X := by
  simp only [uR, uO, uG] at *
  dsimp only [Ab.vMul]
  rw [if_pos]; exact q
  unfold Ab.mulOk
  rcases h with h | h
  · rw [decide_eq_true h.1, decide_eq_true h.2]; simp
  · rw [decide_eq_true h.1, decide_eq_true h.2]; simp
theorem v_mod {i j : Int} (h : 0 < j) (q : Q (.int (i % j)) st) : WpR (Ab.vMod (.int i) (.int j) st) Q X := by
  simp only [uR, uO, uG] at *
  rw [Ab.vmod_i h]; exact q
theorem v_div {i j : Int} (h : 0 < j ∧ j < 2 ^ 100) (q : Q (.int (i / j)) st) : WpR (Ab.vDiv (.int i) (.int j) st) Q X := by
  simp only [uR, uO, uG] at *
  rw [Ab.vdiv_i h.1 h.2]; exact q
theorem v_pow {i j k : Int} (h : 0 ≤ j ∧ j ≤ 1000000 ∧ i.natAbs < 2 ^ 64) (hk : i ^ j.toNat = k) (q : Q (.int k) st) : WpR (Ab.vPow (.int i) (.int j) st) Q X := by
  simp only [uR, uO, uG] at *
  dsimp only [Ab.vPow]; rw [if_pos h, hk]; exact q
theorem v_lt {i j : Int} (q : Q (.bl (decide (i < j))) st) : WpR (Ab.vLt (.int i) (.int j) st) Q X := by
  simp only [uR, uO, uG] at *
  exact q
theorem v_gt {i j : Int} (q : Q (.bl (decide (j < i))) st) : WpR (Ab.vGt (.int i) (.int j) st) Q X := by
  simp only [uR, uO, uG] at *
  exact q
theorem v_ge {i j : Int} (q : Q (.bl (decide (j ≤ i))) st) : WpR (Ab.vGe (.int i) (.int j) st) Q X := by
  simp only [uR, uO, uG] at *
  exact q
theorem v_inL {x : Val} {i : Nat} {ys : List Val} {s : Str} (hx : x = .str s) (h : st[i]? = some (.lst ys)) (hf : ys.all Ab.flatW = true) (q : Q (.bl (Ab.inW x ys)) st) : WpR (Ab.vIn x (.ref i) st) Q X := by
  simp only [uR, uO, uG] at *
  subst hx; dsimp only [Ab.vIn]; rw [Ab.seqAt_lst h]; dsimp only; rw [if_pos (by simpa [Ab.flatW] using hf)]; exact q
theorem v_ninT {x : Val} {ys : List Val} {s : Str} (hx : x = .str s) (hf : ys.all Ab.flatW = true) (q : Q (.bl (!Ab.inW x ys)) st) : WpR (Ab.vNotIn x (.tup ys) st) Q X := by
  simp only [uR, uO, uG] at *
  subst hx; dsimp only [Ab.vNotIn]; rw [if_pos (by simpa [Ab.flatW] using hf)]; exact q
theorem chk_bl {b : Bool} {P N : Prop} (h : if b = true then P else N) : Chk (.bl b) P N := by cases b <;> exact h
theorem ite_t {P N : Prop} (h : P) : if true = true then P else N := by rw [if_pos rfl]; exact h
theorem ite_f {P N : Prop} (h : N) : if false = true then P else N := by rw [if_neg Bool.false_ne_true]; exact h
theorem ite_nt {P N : Prop} (h : N) : if (!true) = true then P else N := by rw [if_neg (by decide)]; exact h
theorem ite_nf {P N : Prop} (h : P) : if (!false) = true then P else N := by rw [if_pos (by decide)]; exact h
theorem ite_rfl {α : Type} [DecidableEq α] {a : α} {P N : Prop} (h : P) : if decide (a = a) = true then P else N := by rw [if_pos (by simp)]; exact h
theorem ite_nrfl {α : Type} [DecidableEq α] {a : α} {P N : Prop} (h : N) : if (!decide (a = a)) = true then P else N := by rw [if_neg (by simp)]; exact h
theorem ite_d {p : Prop} [Decidable p] {P N : Prop} (h1 : p → P) (h2 : ¬p → N) : if decide p = true then P else N := by
  by_cases q : p
  · rw [if_pos (by simpa using q)]; exact h1 q
  · rw [if_neg (by simpa using q)]; exact h2 q
theorem ite_nd {p : Prop} [Decidable p] {P N : Prop} (h1 : p → N) (h2 : ¬p → P) : if (!decide p) = true then P else N := by
  by_cases q : p
  · rw [if_neg (by simpa using q)]; exact h1 q
  · rw [if_pos (by simpa using q)]; exact h2 q
theorem ite_ndp {p : Prop} [Decidable p] {P N : Prop} (q : p) (h : N) : if (!decide p) = true then P else N := by rw [if_neg (by simpa using q)]; exact h
/-! look-ups -/
theorem get_last {s : Store} {d : Cell} : (s ++ [d])[s.length]? = some d := by simp
theorem get_push {s : Store} {i : Nat} {c d : Cell} (h : s[i]? = some c) : (s ++ [d])[i]? = some c := by
  rw [List.getElem?_append_left (List.getElem?_eq_some_iff.mp h).1]; exact h
theorem lt_of {s : Store} {i : Nat} {c : Cell} (h : s[i]? = some c) : i < s.length := (List.getElem?_eq_some_iff.mp h).1
theorem k_seq {S S' : List Nat} {a b c : Store} (h : Keep S a b) (h' : Keep S' b c) (hs : ∀ i ∈ S', i ∈ S ∨ a.length ≤ i) : Keep S a c := ⟨Nat.le_trans h.1 h'.1, fun j hj hn => by
  rw [h'.2 j (Nat.lt_of_lt_of_le hj h.1) fun z => (hs j z).elim hn fun w => absurd hj (by omega)]; exact h.2 j hj hn⟩
theorem k_nil {S : List Nat} {a b c : Store} (h : Keep S a b) (h' : Keep [] b c) : Keep S a c := k_seq h h' fun _ z => by cases z
end
section
variable {α : Type} {X : Exc → Store → Prop} {n : Slots → Store → Prop} {r : Val → Store → Prop} {k l : Slots → Store → Prop}
/-- a loop, by an invariant told of what is done -/
theorem for_l {xs : List α} {F : α → Val} {g : MG} {body : MS} {okp : Store → Prop} (Inv : List α → Slots → Store → Prop) (hok : ∀ d ρ st, Inv d ρ st → okp st)
    (step : ∀ d x rest ρ st, xs = d ++ x :: rest → Inv d ρ st → WpG (g (F x) ρ st) (fun ρ1 st1 => WpO (body ρ1 st1) ⟨Inv (d ++ [x]), r, n, Inv (d ++ [x]), X⟩))
    (fin : ∀ ρ st, Inv xs ρ st → n ρ st) {ρ : Slots} {st : Store} (h : Inv [] ρ st) : WpO (Ab.forM g body okp (xs.map F) ρ st) ⟨n, r, k, l, X⟩ := by
  simp only [uR, uO, uG] at *
  have key : ∀ (rest d : List α) (ρ : Slots) (st : Store), xs = d ++ rest → Inv d ρ st → Ab.WpO (Ab.forM g body okp (rest.map F) ρ st) ⟨n, r, k, l, X⟩ := by
    intro rest
    induction rest with
    | nil =>
      intro d ρ st e hI
      rw [List.append_nil] at e; subst e
      unfold Ab.forM
      rw [List.map_nil]; dsimp only
      rw [if_pos (hok _ _ _ hI)]
      exact fin ρ st hI
    | cons x rest ih =>
      intro d ρ st e hI
      rw [List.map_cons]
      unfold Ab.forM
      rw [if_pos (hok _ _ _ hI)]
      have hs := step d x rest ρ st e hI
      cases hg : g (F x) ρ st with
      | none => rw [hg] at hs; exact hs.elim
      | some p =>
        obtain ⟨ρ1, st1⟩ := p
        rw [hg] at hs
        dsimp only [Ab.WpG] at hs ⊢
        have e' : xs = (d ++ [x]) ++ rest := by rw [e]; simp
        cases q : body ρ1 st1 with
        | nx ρ2 st2 => rw [q] at hs; exact ih _ ρ2 st2 e' hs
        | ct ρ2 st2 => rw [q] at hs; exact ih _ ρ2 st2 e' hs
        | brk ρ2 st2 => rw [q] at hs; exact hs
        | ret w st2 => rw [q] at hs; exact hs
        | exc x ρ2 st2 => rw [q] at hs; exact hs
        | bad => rw [q] at hs; exact hs
  exact key xs [] ρ st rfl h
/-- a comprehension that only reads -/
theorem lc_pure {xs : List α} {F : α → Val} {g : MG} {t : MT} {elt : ME} {okp : Store → Prop} {ρ : Slots} {Q : Val → Store → Prop} {st : Store} (p : α → Bool) (f : α → Val) (hok : ∀ acc, okp (st ++ [.lst acc])) (hl : xs.length ≤ 100000)
    (step : ∀ x ∈ xs, ∀ acc, WpG (g (F x) ρ (st ++ [.lst acc])) (fun ρ1 st1 => st1 = st ++ [.lst acc] ∧ WpR (t ρ1 (st ++ [.lst acc])) (fun b s => b = p x ∧ s = st ++ [.lst acc] ∧ (b = true → WpR (elt ρ1 (st ++ [.lst acc])) (fun y s => y = f x ∧ s = st ++ [.lst acc]) fun _ _ => False)) fun _ _ => False))
    (q : New (.lst ((xs.filter p).map f)) st fun n s => Q (.ref n) s) : WpR (Ab.lcM g t elt okp st.length ρ (xs.map F) (st ++ [.lst []])) Q X := by
  simp only [uR, uO, uG] at *
  have key : ∀ (rest d : List α), xs = d ++ rest → ∀ acc : List Val, acc.length ≤ d.length → Ab.lcM g t elt okp st.length ρ (rest.map F) (st ++ [.lst acc]) = .ok (.ref st.length) (st ++ [.lst (acc ++ (rest.filter p).map f)]) := by
    intro rest
    induction rest with
    | nil =>
      intro d e acc ha
      unfold Ab.lcM
      rw [List.map_nil]; dsimp only
      rw [if_pos (hok _)]
      simp
    | cons x rest ih =>
      intro d e acc ha
      have e' : xs = (d ++ [x]) ++ rest := by rw [e]; simp
      have hlen : xs.length = d.length + (rest.length + 1) := by rw [e]; simp
      rw [List.map_cons]
      unfold Ab.lcM
      rw [if_pos (hok _)]
      have hs := step x (by rw [e]; simp) acc
      cases hg : g (F x) ρ (st ++ [.lst acc]) with
      | none => rw [hg] at hs; exact hs.elim
      | some pr =>
        obtain ⟨ρ1, st1⟩ := pr
        rw [hg] at hs
        obtain ⟨rfl, hs⟩ := hs
        dsimp only
        cases ht : t ρ1 (st ++ [.lst acc]) with
        | bad => rw [ht] at hs; exact hs.elim
        | exc e s => rw [ht] at hs; exact hs.elim
        | ok b s =>
          rw [ht] at hs
          obtain ⟨hb, rfl, hs⟩ := hs
          dsimp only [R.noX, R.bind]
          cases b with
          | false =>
            rw [if_neg Bool.false_ne_true, ih _ e' acc (by simp; omega), List.filter_cons, ← hb]
            rfl
          | true =>
            rw [if_pos rfl]
            have hs := hs rfl
            cases hel : elt ρ1 (st ++ [.lst acc]) with
            | bad => rw [hel] at hs; exact hs.elim
            | exc e s => rw [hel] at hs; exact hs.elim
            | ok y s =>
              rw [hel] at hs
              obtain ⟨rfl, rfl⟩ := hs
              dsimp only [R.noX, R.bind]
              rw [get_last]; dsimp only
              rw [if_pos (by rw [sizeLine_eq]; omega)]
              rw [show (st ++ [Cell.lst acc]).set st.length (.lst (acc ++ [f x])) = st ++ [Cell.lst (acc ++ [f x])] by simp]
              rw [ih _ e' _ (by simp; omega), List.filter_cons, ← hb]
              simp
  rw [key xs [] rfl [] (Nat.zero_le _)]
  exact q.at
theorem lc_map {xs : List α} {F : α → Val} {g : MG} {elt : ME} {okp : Store → Prop} {ρ : Slots} {Q : Val → Store → Prop} {st : Store} (f : α → Val) (hok : ∀ acc, okp (st ++ [.lst acc])) (hl : xs.length ≤ 100000)
    (step : ∀ x ∈ xs, ∀ acc, WpG (g (F x) ρ (st ++ [.lst acc])) (fun ρ1 st1 => st1 = st ++ [.lst acc] ∧ WpR (elt ρ1 (st ++ [.lst acc])) (fun y s => y = f x ∧ s = st ++ [.lst acc]) fun _ _ => False))
    (q : New (.lst (xs.map f)) st fun n s => Q (.ref n) s) : WpR (Ab.lcM g Se.mYes elt okp st.length ρ (xs.map F) (st ++ [.lst []])) Q X := by
  refine lc_pure (fun _ => true) f hok hl (fun x hx acc => ?_) ?_
  · have h := step x hx acc
    simp only [uR, uG] at h ⊢
    cases hg : g (F x) ρ (st ++ [.lst acc]) with
    | none => rw [hg] at h; exact h.elim
    | some pr =>
      rw [hg] at h
      exact ⟨h.1, rfl, rfl, fun _ => h.2⟩
  · rw [List.filter_eq_self.mpr (fun _ _ => rfl)]; exact q
end
/-! shapes of goals that the steppers close -/
section
variable {α : Type} {Q : Val → Store → Prop} {QA : α → Store → Prop} {X X' : Exc → Store → Prop} {st : Store} {P : Prop}
theorem len_and {xs : List Val} (h : Nat.ble xs.length 100000 = true) (q : P) : xs.length ≤ 100000 ∧ P := ⟨Nat.le_of_ble_eq_true h, q⟩
theorem ex_par {P : Val → Val → Prop} {a b : Val} (q : P a b) : ∃ v w, [a, b] = [v, w] ∧ P v w := ⟨a, b, rfl, q⟩
theorem ex_chain {P : Int → Int → Int → Prop} {i j k : Int} (q : P i j k) : ∃ i' j' k' : Int, Val.int i = .int i' ∧ Val.int j = .int j' ∧ Val.int k = .int k' ∧ st = st ∧ P i' j' k' := ⟨i, j, k, rfl, rfl, rfl, rfl, q⟩
theorem ex_meth {P : MF → Prop} {tbl : List (Nat × MF)} {x : Val} {C : Nat} {mf : MF} (h : Ab.clsAt st x = some C) (h2 : tbl.lookup C = some mf) (q : P mf) : ∃ C mf, Ab.clsAt st x = some C ∧ tbl.lookup C = some mf ∧ P mf := ⟨C, mf, h, h2, q⟩
theorem ex_fld {P : Nat → Nat → List (Nat × Val) → Prop} {cs : List Nat} {n C : Nat} {fs : List (Nat × Val)} (h : st[n]? = some (.ins C fs)) (hC : cs.contains C = true) (hl : Nat.blt fs.length 1000 = true) (q : P n C fs) : ∃ nn C fs, Val.ref n = .ref nn ∧ st[nn]? = some (.ins C fs) ∧ C ∈ cs ∧ fs.length < 1000 ∧ P nn C fs := ⟨n, C, fs, rfl, h, by simpa using hC, Nat.lt_of_lt_of_le (Nat.lt_succ_self _) (Nat.le_of_ble_eq_true hl), q⟩
theorem v_fld' {cs : List Nat} {f n C : Nat} {fs : List (Nat × Val)} {w : Val} (h : st[n]? = some (.ins C fs)) (hC : cs.contains C = true) (hf : fs.lookup f = some w) (q : Q w st) : WpR (vFld cs f (.ref n) st) Q X := v_fld h (by simpa using hC) hf q
theorem ex_subL {P : Nat → Int → List Val → Nat → Prop} {i : Nat} {z : Int} {xs : List Val} {j : Nat} (h : st[i]? = some (.lst xs)) (hj : L2.ixN xs.length z = some j) (q : P i z xs j) : ∃ nn z' xs j, Val.ref i = .ref nn ∧ Val.int z = .int z' ∧ st[nn]? = some (.lst xs) ∧ L2.ixN xs.length z' = some j ∧ P nn z' xs j := ⟨i, z, xs, j, rfl, rfl, h, hj, q⟩
theorem ex_subD {P : Nat → Key → List (Key × Val) → Prop} {i : Nat} {s : Str} {kvs : List (Key × Val)} (h : st[i]? = some (.dct kvs)) (hl : Nat.blt kvs.length 1000 = true) (q : P i (.inr s) kvs) : ∃ nn z kvs, Val.ref i = .ref nn ∧ Ab.keyW (.str s) = some z ∧ st[nn]? = some (.dct kvs) ∧ kvs.length < 1000 ∧ P nn z kvs := ⟨i, .inr s, kvs, rfl, rfl, h, Nat.lt_of_lt_of_le (Nat.lt_succ_self _) (Nat.le_of_ble_eq_true hl), q⟩
theorem ex_items {P : Nat → List (Key × Val) → Prop} {i : Nat} {kvs : List (Key × Val)} (h : st[i]? = some (.dct kvs)) (q : P i kvs) : ∃ n kvs, Val.ref i = .ref n ∧ st[n]? = some (.dct kvs) ∧ P n kvs := ⟨i, kvs, rfl, h, q⟩
theorem ex_key {P : Key → Prop} {s : Str} (q : P (.inr s)) : ∃ k, Ab.keyW (.str s) = some k ∧ P k := ⟨_, rfl, q⟩
theorem ex_seqL {i : Nat} {xs : List Val} {P : List Val × (Store → Prop) → Prop} (h : st[i]? = some (.lst xs)) (q : P (xs, fun st' => seqAt st' i = some xs)) : ∃ p, Ab.itemsOf st (.ref i) = some p ∧ P p := ⟨_, items_lst h, q⟩
theorem ex_seqT {xs : List Val} {P : List Val × (Store → Prop) → Prop} (q : P (xs, fun _ => True)) : ∃ p, Ab.itemsOf st (.tup xs) = some p ∧ P p := ⟨_, rfl, q⟩
theorem ex_enumT {xs : List Val} {P : List Val → (Store → Prop) → Prop} (q : P xs fun _ => True) : ∃ xs' okp, Ab.itemsOf st (.tup xs) = some (xs', okp) ∧ P xs' okp := ⟨_, _, rfl, q⟩
theorem ex_zipT {xs ys : List Val} {P : List Val → (Store → Prop) → List Val → (Store → Prop) → Prop} (q : P xs (fun _ => True) ys fun _ => True) : ∃ xs' okp ys' okq, Ab.itemsOf st (.tup xs) = some (xs', okp) ∧ Ab.itemsOf st (.tup ys) = some (ys', okq) ∧ P xs' okp ys' okq := ⟨_, _, _, _, rfl, rfl, q⟩
theorem ex_isiL {i : Nat} {xs : List Val} {P : Ab.Kd → Prop} (h : st[i]? = some (.lst xs)) (q : P (.t .list)) : ∃ k, Ab.kindW st (.ref i) = some k ∧ P k := ⟨_, by unfold Ab.kindW; dsimp only; rw [h], q⟩
theorem ex_starT {xs : List Val} {P : List Val → Prop} (q : P xs) : ∃ xs', Ab.itemsW st (.tup xs) = some xs' ∧ P xs' := ⟨_, rfl, q⟩
theorem ex_starL {i : Nat} {xs : List Val} {P : List Val → Prop} (h : st[i]? = some (.lst xs)) (q : P xs) : ∃ xs', Ab.itemsW st (.ref i) = some xs' ∧ P xs' := ⟨_, Ab.seqAt_lst h, q⟩
theorem ex_range1 {j : Int} {P : Int → Prop} (h : -(2 ^ 62) ≤ j ∧ j < 2 ^ 62) (q : P j) : ∃ j' : Int, [Val.int j] = [.int j'] ∧ (-(2 ^ 62) ≤ j' ∧ j' < 2 ^ 62) ∧ P j' := ⟨j, rfl, h, q⟩
theorem v_inO {C n : Nat} {mf : MF} {x : Val} {fs : List (Nat × Val)} (h : st[n]? = some (.ins C fs)) (q : WpR (mf [.ref n, x] st) (fun v s => ∃ c : Bool, v = .bl c ∧ Q (.bl c) s) fun _ _ => False) : WpR (Ab.vInO C mf x (.ref n) st) Q X := v_tru (is_ins h) q
theorem v_ninO {C n : Nat} {mf : MF} {x : Val} {fs : List (Nat × Val)} (h : st[n]? = some (.ins C fs)) (q : WpR (mf [.ref n, x] st) (fun v s => ∃ c : Bool, v = .bl c ∧ Q (.bl (!c)) s) fun _ _ => False) : WpR (Ab.vNinO C mf x (.ref n) st) Q X := v_tru (is_ins h) q
theorem v_eqO {C n m : Nat} {mf : MF} {fs gs : List (Nat × Val)} (h : st[n]? = some (.ins C fs)) (h' : st[m]? = some (.ins C gs)) (q : WpR (mf [.ref n, .ref m] st) (fun v s => ∃ c : Bool, v = .bl c ∧ Q (.bl c) s) fun _ _ => False) : WpR (Ab.vEqO C mf (.ref n) (.ref m) st) Q X := by
  unfold Ab.vEqO
  rw [if_pos (is_ins h')]
  exact v_tru (is_ins h) q
theorem v_neO {C n m : Nat} {mf : MF} {fs gs : List (Nat × Val)} (h : st[n]? = some (.ins C fs)) (h' : st[m]? = some (.ins C gs)) (q : WpR (mf [.ref n, .ref m] st) (fun v s => ∃ c : Bool, v = .bl c ∧ Q (.bl (!c)) s) fun _ _ => False) : WpR (Ab.vNeO C mf (.ref n) (.ref m) st) Q X := by
  unfold Ab.vNeO
  rw [if_pos (is_ins h')]
  exact v_tru (is_ins h) q
theorem v_sumT {ns : List Int} (q : Q (.int ns.sum) st) : WpR (Ab.bSumT [.tup (ns.map .int)] st) Q X := by
  simp only [uR] at *
  dsimp only [Ab.bSumT]; rw [Ab.asInts_map]; exact q
theorem ex_isiO {n C : Nat} {fs : List (Nat × Val)} {tbl : List (Nat × Bool)} {b : Bool} {P : Bool → Prop} (h : st[n]? = some (.ins C fs)) (hb : tbl.lookup C = some b) (q : P b) : ∃ b, Ab.isiW tbl st (.ref n) = some b ∧ P b :=
  ⟨b, by unfold Ab.isiW Ab.clsAt; dsimp only; rw [h]; exact hb, q⟩
theorem ex_isiT {xs : List Val} {tbl : List (Nat × Bool)} {P : Bool → Prop} (q : P false) : ∃ b, Ab.isiW tbl st (.tup xs) = some b ∧ P b := ⟨false, rfl, q⟩
theorem two_ins {n m C : Nat} {fs gs : List (Nat × Val)} (h : st[n]? = some (.ins C fs)) (h' : st[m]? = some (.ins C gs)) (q : P) : Ab.isIns C st (.ref n) = true ∧ Ab.isIns C st (.ref m) = true ∧ P := ⟨is_ins h, is_ins h', q⟩
theorem one_ins {n C : Nat} {fs : List (Nat × Val)} (h : st[n]? = some (.ins C fs)) (q : P) : Ab.isIns C st (.ref n) = true ∧ P := ⟨is_ins h, q⟩
theorem ex_int {P : Int → Prop} {i : Int} (h : 0 ≤ i ∧ i < 1000000) (q : P i) : ∃ j, Val.int i = .int j ∧ 0 ≤ j ∧ j < 1000000 ∧ P j := ⟨i, rfl, h.1, h.2, q⟩
theorem v_repT {xs : List Val} {k : Int} (h : xs ≠ [] ∧ 1 ≤ k ∧ k ≤ 1000 ∧ xs.length ≤ 1000) (q : Q (.tup (Ab.repW' k.toNat xs)) st) : WpR (Ab.vRepT (.tup xs) (.int k) st) Q X := by
  simp only [uR, uO, uG] at *
  dsimp only [Ab.vRepT]; rw [if_pos h]; exact q
theorem nf0 {a x : Option Val} {l : Slots} {n : Slots → Prop} (q : n (x :: l)) : NF (a :: l) 0 x n := q
theorem nf1 {a x : Option Val} {l : Slots} {i : Nat} {n : Slots → Prop} (q : NF l i x fun l => n (a :: l)) : NF (a :: l) (i + 1) x n := q
theorem nf4 {a b c d x : Option Val} {l : Slots} {i : Nat} {n : Slots → Prop} (q : NF l i x fun l => n (a :: b :: c :: d :: l)) : NF (a :: b :: c :: d :: l) (i + 4) x n := q
theorem isb_t {b : Bool} {P : Bool → Prop} (h : b = true) (q : P true) : TruB b P := by subst h; exact q
theorem isb_f {b : Bool} {P : Bool → Prop} (h : b = false) (q : P false) : TruB b P := by subst h; exact q
theorem ex_isi {w : Val} {k : Ab.Kd} {P : Ab.Kd → Prop} (h : Ab.kindW st w = some k) (q : P k) : ∃ k, Ab.kindW st w = some k ∧ P k := ⟨k, h, q⟩
theorem and_wp {s : Store} {r : R α} (q : WpR r QA X) : s = s ∧ WpR r QA X := ⟨rfl, q⟩
theorem v_pow6 (q : Q (.int 1000000) st) : WpR (Ab.vPow (.int 10) (.int 6) st) Q X := v_pow (by decide) rfl q
theorem v_pow9 (q : Q (.int 1000000000) st) : WpR (Ab.vPow (.int 10) (.int 9) st) Q X := v_pow (by decide) rfl q
theorem v_pow18 (q : Q (.int 1000000000000000000) st) : WpR (Ab.vPow (.int 10) (.int 18) st) Q X := v_pow (by decide) rfl q
theorem new_by {d : Cell} {P : Nat → Store → Prop} (q : ∀ (n : Nat) (s : Store), s[n]? = some d → Keep [] st s → st.length ≤ n → P n s) : New d st P := q
theorem wr_by {n : Nat} {d : Cell} {P : Store → Prop} (q : ∀ s : Store, s[n]? = some d → Keep [n] st s → P s) : Wr n d st P := q
theorem ne_new {i n : Nat} {c : Cell} (hn : st.length ≤ n) (h : st[i]? = some c) : n ≠ i := fun e => by
  have := lt_of h
  omega
theorem ne_new' {i n : Nat} {c : Cell} (hn : st.length ≤ n) (h : st[i]? = some c) : i ≠ n := (ne_new hn h).symm
theorem nin_cons {i a : Nat} {S : List Nat} (h : i ≠ a) (t : i ∉ S) : i ∉ a :: S := fun z => (List.mem_cons.mp z).elim h t
theorem hs_nil {S : List Nat} {m : Nat} : ∀ i ∈ ([] : List Nat), i ∈ S ∨ m ≤ i := fun _ z => by cases z
theorem hs_cons {S S' : List Nat} {m n : Nat} (h : n ∈ S ∨ m ≤ n) (t : ∀ i ∈ S', i ∈ S ∨ m ≤ i) : ∀ i ∈ n :: S', i ∈ S ∨ m ≤ i := fun i z => (List.mem_cons.mp z).elim (fun e => by subst e; exact h) (t i)
theorem k_len {S : List Nat} {a b c : Store} (h : Keep S b c) (h0 : a.length ≤ b.length) : a.length ≤ c.length := Nat.le_trans h0 h.1
theorem chk_lst {kvs : List (Key × Val)} {n : Nat} (h : st[n]? = some (.dct [])) (hl : Nat.ble kvs.length 15 = true) (q : P) : st[n]? = some (.dct []) ∧ kvs.length ≤ 15 ∧ P := ⟨h, Nat.le_of_ble_eq_true hl, q⟩
/-- what is told of a run is used -/
theorem via {r : R α} {Q' : α → Store → Prop} (h : WpR r Q' X') (q : ∀ a s, Q' a s → QA a s) (x : ∀ e s, X' e s → X e s) : WpR r QA X := by
  simp only [uR, uO, uG] at *
  exact Ab.WpR.mono h q x
theorem via0 {r : R α} {Q' : α → Store → Prop} (h : WpR r Q' fun _ _ => False) (q : ∀ a s, Q' a s → QA a s) : WpR r QA X := by
  simp only [uR, uO, uG] at *
  exact Ab.WpR.mono h q fun _ _ h => h.elim
end
end Vc

set_option Elab.async false
set_option linter.all false
set_option maxRecDepth 100000
set_option maxHeartbeats 1000000
/-! Ab: plain facts for the plain laws: lists told by data. -/
namespace Vc
open PySem PySem.Spec PyProof.Rows L2
open Ab (Val Cell Store Slots R O ME MT MA MS MF MG MGs MI MO Chk Wish Exc seqAt Keep vIx vFld vAdd New Wr)
section
variable {α β : Type} {Q : Val → Store → Prop} {X : Exc → Store → Prop} {st : Store}
theorem enum_map (f : α → Val) : ∀ (xs : List α) (k : Nat), Ab.enumFrom k (xs.map f) = (xs.zipIdx k).map fun p => .tup [.int p.2, f p.1]
  | [], _ => rfl
  | x :: xs, k => by rw [List.map_cons, Ab.enumFrom, List.zipIdx_cons, List.map_cons, enum_map f xs (k + 1)]
theorem zip_map (f : α → Val) (g : β → Val) : ∀ (xs : List α) (ys : List β), Ab.zipW (xs.map f) (ys.map g) = (xs.zip ys).map fun p => .tup [f p.1, g p.2]
  | [], _ => by simp [Ab.zipW]
  | _ :: _, [] => by simp [Ab.zipW]
  | x :: xs, y :: ys => by rw [List.map_cons, List.map_cons, Ab.zipW, List.zip_cons_cons, List.map_cons, zip_map f g xs ys]
theorem idx_split {xs : List α} {d rest : List (α × Nat)} {p : α × Nat} (h : xs.zipIdx = d ++ p :: rest) : xs[d.length]? = some p.1 ∧ p.2 = d.length ∧ d.map (·.1) = xs.take d.length ∧ d.length < xs.length := by
  have h0 : xs.zipIdx[d.length]? = some p := by rw [h]; simp
  rw [List.getElem?_zipIdx] at h0
  have hl : d.length < xs.length := by
    have := congrArg List.length h
    simp at this
    omega
  have h1 : d.map (·.1) = xs.take d.length := by
    have := congrArg (fun z => (z.map (·.1)).take d.length) h
    simp only [List.zipIdx_map_fst] at this
    rw [this]
    simp
  cases e : xs[d.length]? with
  | none => rw [e] at h0; cases h0
  | some x =>
    rw [e] at h0
    have := Option.some.inj h0
    subst this
    exact ⟨rfl, by simp, h1, hl⟩
theorem map_split {xs : List α} {d rest : List α} {x : α} (h : xs = d ++ x :: rest) : xs[d.length]? = some x ∧ d = xs.take d.length ∧ d.length < xs.length := by
  subst h; simp
theorem range_split {n : Nat} {d rest : List Nat} {x : Nat} (h : List.range n = d ++ x :: rest) : x = d.length ∧ d = List.range d.length ∧ x < n := by
  have hl := congrArg List.length h
  simp at hl
  have h0 : (List.range n)[d.length]? = some x := by rw [h]; simp
  rw [List.getElem?_range (by omega)] at h0
  have h1 : d = (List.range n).take d.length := by rw [h]; simp
  have hx : x = d.length := (Option.some.inj h0).symm
  refine ⟨hx, ?_, by omega⟩
  rw [h1]
  simp [List.take_range]
theorem cut_take (xs : List α) (i : Nat) : Ab.cut xs none (some (i : Int)) = xs.take i := by
  unfold Ab.cut
  rw [HT.sIx_none, HT.sIx_nat, List.drop_zero, Nat.sub_zero]
  by_cases h : i ≤ xs.length
  · rw [Nat.min_eq_left h]
  · rw [Nat.min_eq_right (by omega), List.take_of_length_le (Nat.le_refl _), List.take_of_length_le (by omega)]
theorem cut_drop (xs : List α) (i : Nat) : Ab.cut xs (some (i : Int)) none = xs.drop i := by
  unfold Ab.cut
  rw [HT.sIx_none, HT.sIx_nat]
  by_cases h : i ≤ xs.length
  · rw [Nat.min_eq_left h, List.take_of_length_le (by rw [List.length_drop]; omega)]
  · rw [Nat.min_eq_right (by omega), List.drop_of_length_le (Nat.le_refl _), List.drop_of_length_le (by omega)]; simp
theorem v_allL {i : Nat} {bs : List Bool} (h : st[i]? = some (.lst (bs.map .bl))) (q : Q (.bl (bs.all id)) st) : WpR (Ab.bAll [.ref i] st) Q X := by
  simp only [uR, uO, uG] at *
  dsimp only [Ab.bAll, Ab.ofBools]; rw [Ab.seqAt_lst h]; dsimp only; rw [Ab.asBools_map]; exact q
theorem v_anyL {i : Nat} {bs : List Bool} (h : st[i]? = some (.lst (bs.map .bl))) (q : Q (.bl (bs.any id)) st) : WpR (Ab.bAny [.ref i] st) Q X := by
  simp only [uR, uO, uG] at *
  dsimp only [Ab.bAny, Ab.ofBools]; rw [Ab.seqAt_lst h]; dsimp only; rw [Ab.asBools_map]; exact q
theorem v_max1L {i : Nat} {ns : List Int} (h : st[i]? = some (.lst (ns.map .int))) (hn : ns ≠ []) (q : Q (.int (Ab.maxI ns)) st) : WpR (Ab.bMax1 [.ref i] st) Q X := by
  simp only [uR, uO, uG] at *
  dsimp only [Ab.bMax1, Ab.ofInts]; rw [Ab.seqAt_lst h]; dsimp only; rw [Ab.asInts_map]; dsimp only; rw [if_neg hn]; exact q
theorem v_sumL {i : Nat} {ns : List Int} (h : st[i]? = some (.lst (ns.map .int))) (q : Q (.int ns.sum) st) : WpR (Ab.bSum [.ref i] st) Q X := by
  simp only [uR, uO, uG] at *
  dsimp only [Ab.bSum, Ab.ofInts]; rw [Ab.seqAt_lst h]; dsimp only; rw [Ab.asInts_map]; exact q
theorem inW_str (a : Str) (xs : List Str) : Ab.inW (.str a) (xs.map .str) = decide (a ∈ xs) := by
  unfold Ab.inW
  induction xs with
  | nil => simp
  | cons x xs ih =>
    rw [List.map_cons, List.any_cons, ih]
    simp only [Ab.eqW, List.mem_cons, Bool.decide_or]
    congr 1
    by_cases h : x = a
    · subst h; simp
    · rw [beq_eq_false_iff_ne.mpr h, decide_eq_false fun e => h e.symm]
theorem flat_str (xs : List Str) : (xs.map Val.str).all Ab.flatW = true := by
  rw [List.all_map]; exact List.all_eq_true.mpr fun _ _ => rfl
theorem v_inLs {a : Str} {i : Nat} {ys : List Str} (h : st[i]? = some (.lst (ys.map .str))) (q : Q (.bl (decide (a ∈ ys))) st) : WpR (Ab.vIn (.str a) (.ref i) st) Q X := v_inL rfl h (flat_str ys) (by rw [inW_str]; exact q)
theorem v_ninTs {a : Str} {ys : List Str} (q : Q (.bl (!decide (a ∈ ys))) st) : WpR (Ab.vNotIn (.str a) (.tup (ys.map .str)) st) Q X := v_ninT rfl (flat_str ys) (by rw [inW_str]; exact q)
theorem v_ixLn {n : Nat} {xs : List α} {f : α → Val} {i : Nat} {x : α} (hs : st[n]? = some (.lst (xs.map f))) (h : xs[i]? = some x) (q : Q (f x) st) : WpR (vIx (.ref n) (.int i) st) Q X := v_ixL hs (atI_nat (by rw [List.getElem?_map, h]; rfl)) q
theorem to_ab {r : R α} {QA : α → Store → Prop} (h : WpR r QA X) : Ab.WpR r QA X := by rwa [uR] at h
/-! equality of nested data -/
theorem deep_map {f : α → Val} {g : α → PyData} {n : Nat} : ∀ {xs : List α}, (∀ x ∈ xs, Ab.deep st n (f x) = some (g x)) → Ab.mapO (Ab.deep st n) (xs.map f) = some (xs.map g)
  | [], _ => rfl
  | x :: xs, h => by
    rw [List.map_cons, Ab.mapO, h x (by simp), deep_map (xs := xs) fun y hy => h y (by simp [hy])]; rfl
theorem deep_tup {f : α → Val} {g : α → PyData} {n : Nat} {xs : List α} (h : ∀ x ∈ xs, Ab.deep st n (f x) = some (g x)) : Ab.deep st (n + 1) (.tup (xs.map f)) = some (.tuple (xs.map g)) := by
  rw [Ab.deep, deep_map h]; rfl
theorem deep_ints {n : Nat} {xs : List Int} : Ab.deep st (n + 2) (.tup (xs.map .int)) = some (.tuple (xs.map .int)) := deep_tup fun x _ => by rw [Ab.deep]
theorem eqv_ints : ∀ xs ys : List Int, PyData.eqvAll (xs.map .int) (ys.map .int) = decide (xs = ys)
  | [], [] => rfl
  | [], _ :: _ => rfl
  | _ :: _, [] => rfl
  | x :: xs, y :: ys => by
    rw [List.map_cons, List.map_cons, PyData.eqvAll, eqv_ints xs ys]
    simp only [PyData.eqv, List.cons.injEq, Bool.decide_and]
    congr 1
theorem v_eqTT {xs ys : List Val} {d e : PyData} (h1 : Ab.deep st 16 (.tup xs) = some d) (h2 : Ab.deep st 16 (.tup ys) = some e) (q : Q (.bl (PyData.eqv d e)) st) : WpR (Ab.vEq (.tup xs) (.tup ys) st) Q X := by
  simp only [uR, uO, uG] at *
  show Ab.WpR (match Ab.deep st 16 (.tup xs), Ab.deep st 16 (.tup ys) with | some d, some e => .ok (.bl (PyData.eqv d e)) st | _, _ => .bad) Q X
  rw [h1, h2]; exact q
theorem v_neTT {xs ys : List Val} {d e : PyData} (h1 : Ab.deep st 16 (.tup xs) = some d) (h2 : Ab.deep st 16 (.tup ys) = some e) (q : Q (.bl (!PyData.eqv d e)) st) : WpR (Ab.vNe (.tup xs) (.tup ys) st) Q X := by
  simp only [uR, uO, uG] at *
  show Ab.WpR (match Ab.deep st 16 (.tup xs), Ab.deep st 16 (.tup ys) with | some d, some e => .ok (.bl (!PyData.eqv d e)) st | _, _ => .bad) Q X
  rw [h1, h2]; exact q
theorem v_neTI {xs ys : List Int} (q : Q (.bl (!decide (xs = ys))) st) : WpR (Ab.vNe (.tup (xs.map .int)) (.tup (ys.map .int)) st) Q X := v_neTT deep_ints deep_ints (by
  show Q (.bl (!PyData.eqvAll _ _)) st
  rw [eqv_ints]; exact q)
theorem v_eqNN (q : Q (.bl true) st) : WpR (Ab.vEq .non .non st) Q X := by
  simp only [uR] at *
  show Ab.WpR (match Ab.deep st 16 .non, Ab.deep st 16 .non with | some d, some e => .ok (.bl (PyData.eqv d e)) st | _, _ => .bad) Q X
  rw [show Ab.deep st 16 .non = some .none from rfl]; exact q
/-- a tuple of data against () -/
theorem v_eqT0 {f : α → Val} {g : α → PyData} {xs : List α} (h : ∀ x ∈ xs, Ab.deep st 15 (f x) = some (g x)) (q : Q (.bl (decide (xs = []))) st) : WpR (Ab.vEq (.tup (xs.map f)) (.tup []) st) Q X := v_eqTT (deep_tup h) rfl (by
  show Q (.bl (PyData.eqvAll (xs.map g) [])) st
  cases xs with
  | nil => exact q
  | cons x xs =>
    rw [List.map_cons, PyData.eqvAll]
    rwa [decide_eq_false (by simp)] at q)
theorem v_eqTI0 {xs : List Int} (q : Q (.bl (decide (xs = []))) st) : WpR (Ab.vEq (.tup (xs.map .int)) (.tup []) st) Q X := v_eqT0 (g := .int) (fun x _ => by rw [Ab.deep]) q
end
section
variable {α : Type} {X : Exc → Store → Prop} {Q : Val → Store → Prop} {st : Store}
theorem lc_new {g : MG} {t : MT} {elt : ME} {okp : Store → Prop} {ρ : Slots} {items : List Val} (q : New (.lst []) st fun D s => WpR (Ab.lcM g t elt okp D ρ items s) Q X) : WpR (Ab.lcM g t elt okp st.length ρ items (st ++ [.lst []])) Q X := by
  simp only [uR, uO, uG] at *
  exact q.at
/-- a comprehension without a test that may write, by an invariant -/
theorem lcY_l {xs : List α} {F : α → Val} {g : MG} {elt : ME} {okp : Store → Prop} {D : Nat} {ρ : Slots} (Inv : List α → List Val → Store → Prop) (hok : ∀ d acc s, Inv d acc s → okp s)
    (step : ∀ d x rest acc s, xs = d ++ x :: rest → Inv d acc s → s[D]? = some (.lst acc) → WpG (g (F x) ρ s) (fun ρ1 s1 => WpR (elt ρ1 s1) (fun y s3 => s3[D]? = some (.lst acc) ∧ acc.length < 100000 ∧ Wr D (.lst (acc ++ [y])) s3 fun s4 => Inv (d ++ [x]) (acc ++ [y]) s4) fun _ _ => False))
    (fin : ∀ acc s, Inv xs acc s → s[D]? = some (.lst acc) → Q (.ref D) s) (h : Inv [] [] st) (hD : st[D]? = some (.lst [])) : WpR (Ab.lcM g Se.mYes elt okp D ρ (xs.map F) st) Q X := by
  simp only [uR, uO, uG] at *
  have key : ∀ (rest d : List α) (acc : List Val) (s : Store), xs = d ++ rest → Inv d acc s → s[D]? = some (.lst acc) → Ab.WpR (Ab.lcM g Se.mYes elt okp D ρ (rest.map F) s) Q X := by
    intro rest
    induction rest with
    | nil =>
      intro d acc s e hI hs
      rw [List.append_nil] at e; subst e
      unfold Ab.lcM
      rw [List.map_nil]; dsimp only
      rw [if_pos (hok _ _ _ hI)]
      exact fin acc s hI hs
    | cons x rest ih =>
      intro d acc s e hI hs
      rw [List.map_cons]
      unfold Ab.lcM
      rw [if_pos (hok _ _ _ hI)]
      have h1 := step d x rest acc s e hI hs
      cases hg : g (F x) ρ s with
      | none => rw [hg] at h1; exact h1.elim
      | some p =>
        obtain ⟨ρ1, s1⟩ := p
        rw [hg] at h1
        dsimp only [Ab.WpG] at h1 ⊢
        rw [show Se.mYes ρ1 s1 = .ok true s1 from rfl]
        dsimp only [R.noX, R.bind]
        rw [if_pos rfl]
        cases q : elt ρ1 s1 with
        | bad => rw [q] at h1; exact h1.elim
        | exc x s2 => rw [q] at h1; exact h1.elim
        | ok y s3 =>
          rw [q] at h1
          obtain ⟨h2, h3, h4⟩ := h1
          dsimp only [R.noX, R.bind]
          rw [h2]; dsimp only
          rw [if_pos (by rw [sizeLine_eq]; omega)]
          exact ih (d ++ [x]) _ _ (by rw [e]; simp) (h4.at h2) (by rw [List.getElem?_set_self (lt_of h2)])
  exact key xs [] [] st rfl h hD
/-- a comprehension whose test never holds -/
theorem lc_none {xs : List α} {F : α → Val} {g : MG} {t : MT} {elt : ME} {okp : Store → Prop} {D : Nat} {ρ : Slots} (hok : ∀ s, Keep [] st s → okp s)
    (step : ∀ x ∈ xs, ∀ s, Keep [] st s → WpG (g (F x) ρ s) (fun ρ1 s1 => WpR (t ρ1 s1) (fun b s2 => b = false ∧ Keep [] s s2) fun _ _ => False))
    (q : ∀ s, Keep [] st s → Q (.ref D) s) : WpR (Ab.lcM g t elt okp D ρ (xs.map F) st) Q X := by
  simp only [uR, uO, uG] at *
  have key : ∀ (rest : List α) (s : Store), (∀ x ∈ rest, x ∈ xs) → Keep [] st s → Ab.WpR (Ab.lcM g t elt okp D ρ (rest.map F) s) Q X := by
    intro rest
    induction rest with
    | nil =>
      intro s _ k
      unfold Ab.lcM
      rw [List.map_nil]; dsimp only
      rw [if_pos (hok _ k)]
      exact q s k
    | cons x rest ih =>
      intro s hm k
      rw [List.map_cons]
      unfold Ab.lcM
      rw [if_pos (hok _ k)]
      have h1 := step x (hm x (by simp)) s k
      cases hg : g (F x) ρ s with
      | none => rw [hg] at h1; exact h1.elim
      | some p =>
        obtain ⟨ρ1, s1⟩ := p
        rw [hg] at h1
        dsimp only [Ab.WpG] at h1 ⊢
        cases q : t ρ1 s1 with
        | bad => rw [q] at h1; exact h1.elim
        | exc x s2 => rw [q] at h1; exact h1.elim
        | ok y s3 =>
          rw [q] at h1
          obtain ⟨rfl, h2⟩ := h1
          dsimp only [R.noX, R.bind]
          rw [if_neg Bool.false_ne_true]
          exact ih s3 (fun y hy => hm y (by simp [hy])) (k.trans h2)
  exact key xs st (fun _ h => h) .refl
theorem v_eq00 {a b : Nat} (h1 : st[a]? = some (.lst [])) (h2 : st[b]? = some (.lst [])) (q : Q (.bl true) st) : WpR (Ab.vEq (.ref a) (.ref b) st) Q X := by
  simp only [uR, uO, uG] at *
  have d : ∀ {n : Nat}, st[n]? = some (.lst []) → Ab.deep st 16 (.ref n) = some (.list []) := fun h => by rw [Ab.deep, Ab.seqAt_lst h]; rfl
  show Ab.WpR (match Ab.deep st 16 (.ref a), Ab.deep st 16 (.ref b) with | some d, some e => .ok (.bl (PyData.eqv d e)) st | _, _ => .bad) Q X
  rw [d h1, d h2]; exact q
/-- two values alike, down to a depth -/
def Alike (st : Store) : Nat → Val → Val → Prop
  | 0, _, _ => False
  | n + 1, x, y => match x, y with
    | .non, .non => True
    | .bl a, .bl b => a = b
    | .int a, .int b => a = b
    | .str a, .str b => a = b
    | .tup xs, .tup ys => xs.length = ys.length ∧ xs.length ≤ 100000 ∧ ∀ (i : Nat) (x y : Val), xs[i]? = some x → ys[i]? = some y → Alike st n x y
    | .ref a, .ref b => ∃ xs ys, st[a]? = some (.lst xs) ∧ st[b]? = some (.lst ys) ∧ xs.length = ys.length ∧ xs.length ≤ 100000 ∧ ∀ (i : Nat) (x y : Val), xs[i]? = some x → ys[i]? = some y → Alike st n x y
    | _, _ => False
theorem Alike.keep {st s : Store} (k : Keep [] st s) : ∀ {n : Nat} {x y : Val}, Alike st n x y → Alike s n x y
  | 0, _, _, h => h.elim
  | n + 1, x, y, h => by
    unfold Alike at h ⊢
    split at h <;> first | exact h | skip
    · exact ⟨h.1, h.2.1, fun i x y hx hy => Alike.keep k (h.2.2 i x y hx hy)⟩
    · obtain ⟨xs, ys, h1, h2, h3, h4, h5⟩ := h
      exact ⟨xs, ys, k.get h1 (by simp), k.get h2 (by simp), h3, h4, fun i x y hx hy => Alike.keep k (h5 i x y hx hy)⟩
theorem put_new {kvs : List (Key × Val)} {k : Key} {w : Val} (h : ∀ p ∈ kvs, p.1 ≠ k) : Ab.putW kvs k w = kvs ++ [(k, w)] := by
  unfold Ab.putW
  rw [if_neg]
  rw [List.any_eq_true]
  rintro ⟨p, hp, e⟩
  exact h p hp (by simpa using e)
theorem alike_flat {n : Nat} {x : Val} (h : Ab.flatW x = true) : Alike st (n + 1) x x := by
  unfold Alike
  cases x <;> first | trivial | rfl | (simp [Ab.flatW] at h)
theorem alike_tup {n : Nat} {xs : List Val} (hl : xs.length ≤ 100000) (h : ∀ x ∈ xs, Alike st n x x) : Alike st (n + 1) (.tup xs) (.tup xs) :=
  ⟨rfl, hl, fun i x y hx hy => by rw [hx] at hy; cases hy; exact h x (List.mem_of_getElem? hx)⟩
theorem alike_flats {n : Nat} {xs : List Val} (hl : xs.length ≤ 100000) (h : xs.all Ab.flatW = true) : Alike st (n + 2) (.tup xs) (.tup xs) := alike_tup hl fun x hx => alike_flat (List.all_eq_true.mp h x hx)
theorem alike_lst {n a b : Nat} {xs : List Val} (h1 : st[a]? = some (.lst xs)) (h2 : st[b]? = some (.lst xs)) (hl : xs.length ≤ 100000) (h : ∀ x ∈ xs, Alike st n x x) : Alike st (n + 1) (.ref a) (.ref b) :=
  ⟨xs, xs, h1, h2, rfl, hl, fun i x y hx hy => by rw [hx] at hy; cases hy; exact h x (List.mem_of_getElem? hx)⟩
theorem viaN {o : O} {n n' : Slots → Store → Prop} {r : Val → Store → Prop} {k l : Slots → Store → Prop} (h : WpO o { nx := n' }) (q : ∀ ρ s, n' ρ s → n ρ s) : WpO o ⟨n, r, k, l, X⟩ := by
  simp only [uO] at *
  exact Ab.WpO.mono h q (fun _ _ h => h.elim) (fun _ _ h => h.elim) (fun _ _ h => h.elim) (fun _ _ h => h.elim)
theorem viaW {o : O} {n n' : Slots → Store → Prop} {r r' : Val → Store → Prop} {k l : Slots → Store → Prop} (h : WpO o ⟨n', r', fun _ _ => False, fun _ _ => False, fun _ _ => False⟩) (q : ∀ ρ s, n' ρ s → n ρ s) (q2 : ∀ v s, r' v s → r v s) : WpO o ⟨n, r, k, l, X⟩ := by
  simp only [uO] at *
  exact Ab.WpO.mono h q q2 (fun _ _ h => h.elim) (fun _ _ h => h.elim) (fun _ _ h => h.elim)
/-- sets of cells that have none in common -/
def Dis (xs ys : List Nat) : Prop := ∀ x ∈ xs, x ∉ ys
theorem Dis.symm {xs ys : List Nat} (h : Dis xs ys) : Dis ys xs := fun y hy hx => h y hx hy
theorem Dis.sub {xs ys ys' : List Nat} (h : Dis xs ys) (hy : ∀ y ∈ ys', y ∈ ys) : Dis xs ys' := fun x hx hy' => h x hx (hy x hy')
end
section
variable {X : Exc → Store → Prop} {n : Slots → Store → Prop} {r : Val → Store → Prop} {k l : Slots → Store → Prop}
/-- a while by a number that becomes less -/
theorem b_while {t : MT} {body : MS} (Inv : Nat → Slots → Store → Prop)
    (step : ∀ m ρ st, Inv m ρ st → WpR (t ρ st) (fun b st1 => if b = true then WpO (body ρ st1) ⟨fun ρ' s' => ∃ j, j < m ∧ Inv j ρ' s', r, n, fun ρ' s' => ∃ j, j < m ∧ Inv j ρ' s', X⟩ else n ρ st1) X)
    {m : Nat} {ρ : Slots} {st : Store} (h : Inv m ρ st) : WpO (Se.sWhile t body ρ st) ⟨n, r, k, l, X⟩ := by
  simp only [uR, uO] at *
  have key : ∀ (m : Nat) (ρ : Slots) (st : Store), Inv m ρ st → ∃ o i, Ab.whileN t body i ρ st = some o ∧ Ab.WpO o ⟨n, r, k, l, X⟩ := by
    intro m
    induction m using Nat.strongRecOn with
    | _ m ih =>
      intro ρ st hI
      have hs := step m ρ st hI
      cases ht : t ρ st with
      | bad => rw [ht] at hs; exact hs.elim
      | exc x s => rw [ht] at hs; exact ⟨.exc x ρ s, 1, by unfold Ab.whileN; rw [ht], hs⟩
      | ok b s =>
        rw [ht] at hs
        cases b with
        | false =>
          dsimp only [Ab.WpR] at hs
          rw [if_neg Bool.false_ne_true] at hs
          exact ⟨.nx ρ s, 1, by unfold Ab.whileN; rw [ht], hs⟩
        | true =>
          dsimp only [Ab.WpR] at hs
          rw [if_pos rfl] at hs
          cases hb : body ρ s with
          | bad => rw [hb] at hs; exact hs.elim
          | exc x ρ2 s2 => rw [hb] at hs; exact ⟨_, 1, by unfold Ab.whileN; rw [ht]; dsimp only; rw [hb], hs⟩
          | ret v s2 => rw [hb] at hs; exact ⟨_, 1, by unfold Ab.whileN; rw [ht]; dsimp only; rw [hb], hs⟩
          | brk ρ2 s2 => rw [hb] at hs; exact ⟨_, 1, by unfold Ab.whileN; rw [ht]; dsimp only; rw [hb], hs⟩
          | nx ρ2 s2 =>
            rw [hb] at hs
            obtain ⟨j, hj, hI2⟩ := hs
            obtain ⟨o, i, h1, h2⟩ := ih j hj ρ2 s2 hI2
            exact ⟨o, i + 1, by unfold Ab.whileN; rw [ht]; dsimp only; rw [hb]; exact h1, h2⟩
          | ct ρ2 s2 =>
            rw [hb] at hs
            obtain ⟨j, hj, hI2⟩ := hs
            obtain ⟨o, i, h1, h2⟩ := ih j hj ρ2 s2 hI2
            exact ⟨o, i + 1, by unfold Ab.whileN; rw [ht]; dsimp only; rw [hb]; exact h1, h2⟩
  obtain ⟨o, i, h1, h2⟩ := key m ρ st h
  rw [show Se.sWhile t body ρ st = o from Ab.sWhile_eq h1]
  exact h2
end
section
variable {α : Type} {X : Exc → Store → Prop} {Q : Val → Store → Prop} {st : Store}
theorem deep_lst {f : α → Val} {g : α → PyData} {n a : Nat} {xs : List α} (hs : st[a]? = some (.lst (xs.map f))) (h : ∀ x ∈ xs, Ab.deep st n (f x) = some (g x)) : Ab.deep st (n + 1) (.ref a) = some (.list (xs.map g)) := by
  rw [Ab.deep, Ab.seqAt_lst hs]; dsimp only; rw [deep_map h]; rfl
theorem v_eqLL {a b : Nat} {d e : PyData} (h1 : Ab.deep st 16 (.ref a) = some d) (h2 : Ab.deep st 16 (.ref b) = some e) (q : Q (.bl (PyData.eqv d e)) st) : WpR (Ab.vEq (.ref a) (.ref b) st) Q X := by
  simp only [uR] at *
  show Ab.WpR (match Ab.deep st 16 (.ref a), Ab.deep st 16 (.ref b) with | some d, some e => .ok (.bl (PyData.eqv d e)) st | _, _ => .bad) Q X
  rw [h1, h2]; exact q
theorem v_cutL {n : Nat} {xs : List Val} {lo hi : Option Int} (h : st[n]? = some (.lst xs)) (q : New (.lst (Ab.cut xs lo hi)) st fun m s => Q (.ref m) s) : WpR (Ab.vCut (.ref n) lo hi st) Q X := by
  simp only [uR] at *
  dsimp only [Ab.vCut]; rw [Ab.seqAt_lst h]; exact q.at
/-- a dict comprehension of names that differ, by an invariant -/
theorem dcY_l {α : Type} {xs : List α} {F : α → Val} {g : MG} {mk mv : ME} {okp : Store → Prop} {D : Nat} {ρ : Slots} (kf : α → Str) (vf : α → Val) (nd : (xs.map kf).Nodup) (Inv : List α → Store → Prop) (hok : ∀ d s, Inv d s → okp s) (hl : xs.length ≤ 900)
    (step : ∀ d x rest s, xs = d ++ x :: rest → Inv d s → s[D]? = some (.dct (d.map fun x => (.inr (kf x), vf x))) → WpG (g (F x) ρ s) (fun ρ1 s1 => WpR (mk ρ1 s1) (fun y s2 => y = .str (kf x) ∧ WpR (mv ρ1 s2) (fun z s3 => z = vf x ∧ s3[D]? = some (.dct (d.map fun x => (.inr (kf x), vf x))) ∧ ∀ s4, s4[D]? = some (.dct ((d ++ [x]).map fun x => (.inr (kf x), vf x))) → Keep [D] s3 s4 → Inv (d ++ [x]) s4) fun _ _ => False) fun _ _ => False))
    (fin : ∀ s, Inv xs s → s[D]? = some (.dct (xs.map fun x => (.inr (kf x), vf x))) → Q (.ref D) s) (h : Inv [] st) (hD : st[D]? = some (.dct [])) : WpR (Ab.dcM g Se.mYes mk mv okp D ρ (xs.map F) st) Q X := by
  simp only [uR, uG] at *
  have key : ∀ (rest d : List α) (s : Store), xs = d ++ rest → Inv d s → s[D]? = some (.dct (d.map fun x => (.inr (kf x), vf x))) → Ab.WpR (Ab.dcM g Se.mYes mk mv okp D ρ (rest.map F) s) Q X := by
    intro rest
    induction rest with
    | nil =>
      intro d s e hI hs
      rw [List.append_nil] at e; subst e
      unfold Ab.dcM
      rw [List.map_nil]; dsimp only
      rw [if_pos (hok _ _ hI)]
      exact fin s hI hs
    | cons x rest ih =>
      intro d s e hI hs
      have hlen : xs.length = d.length + (rest.length + 1) := by rw [e]; simp
      rw [List.map_cons]
      unfold Ab.dcM
      rw [if_pos (hok _ _ hI)]
      have h1 := step d x rest s e hI hs
      cases hg : g (F x) ρ s with
      | none => rw [hg] at h1; exact h1.elim
      | some p =>
        obtain ⟨ρ1, s1⟩ := p
        rw [hg] at h1
        dsimp only [Ab.WpG] at h1 ⊢
        rw [show Se.mYes ρ1 s1 = .ok true s1 from rfl]
        dsimp only [R.noX, R.bind]
        rw [if_pos rfl]
        cases q : mk ρ1 s1 with
        | bad => rw [q] at h1; exact h1.elim
        | exc x s2 => rw [q] at h1; exact h1.elim
        | ok y s2 =>
          rw [q] at h1
          obtain ⟨rfl, h1⟩ := h1
          dsimp only [R.noX, R.bind]
          cases q2 : mv ρ1 s2 with
          | bad => rw [q2] at h1; exact h1.elim
          | exc x s3 => rw [q2] at h1; exact h1.elim
          | ok z s3 =>
            rw [q2] at h1
            obtain ⟨rfl, h2, h3⟩ := h1
            dsimp only [R.noX, R.bind]
            rw [h2]
            dsimp only [Ab.keyW]
            rw [if_pos (by rw [List.length_map]; omega)]
            rw [put_new (fun p hp => by
              obtain ⟨y, hy, rfl⟩ := List.mem_map.mp hp
              intro e2
              have e3 : kf y = kf x := Sum.inr.inj e2
              rw [e, List.map_append, List.map_cons] at nd
              exact (List.nodup_append.mp nd).2.2 _ (List.mem_map_of_mem hy) _ (by simp) e3)]
            have e4 : (d.map fun x => ((.inr (kf x) : Key), vf x)) ++ [(.inr (kf x), vf x)] = (d ++ [x]).map fun x => (.inr (kf x), vf x) := by simp
            rw [e4]
            have g4 : (s3.set D (.dct ((d ++ [x]).map fun x => (.inr (kf x), vf x))))[D]? = some (.dct ((d ++ [x]).map fun x => (.inr (kf x), vf x))) := by rw [List.getElem?_set_self (lt_of h2)]
            exact ih (d ++ [x]) _ (by rw [e]; simp) (h3 _ g4 (.set (by simp))) g4
  exact key xs [] st rfl h hD
/-- a dict comprehension with a test, of names that differ, by an invariant -/
theorem dcF_l {α : Type} {xs : List α} {F : α → Val} {g : MG} {t : MT} {mk mv : ME} {okp : Store → Prop} {D : Nat} {ρ : Slots} (p : α → Bool) (kf : α → Str) (vf : α → Val) (nd : (xs.map kf).Nodup) (Inv : List α → Store → Prop) (hok : ∀ d s, Inv d s → okp s) (hl : xs.length ≤ 900)
    (step : ∀ d x rest s, xs = d ++ x :: rest → Inv d s → s[D]? = some (.dct ((d.filter p).map fun x => (.inr (kf x), vf x))) → WpG (g (F x) ρ s) (fun ρ1 s1 => WpR (t ρ1 s1) (fun b s2 => b = p x ∧ (p x = false → s2[D]? = some (.dct ((d.filter p).map fun x => (.inr (kf x), vf x))) ∧ Inv (d ++ [x]) s2) ∧ (p x = true → WpR (mk ρ1 s2) (fun y s3 => y = .str (kf x) ∧ WpR (mv ρ1 s3) (fun z s4 => z = vf x ∧ s4[D]? = some (.dct ((d.filter p).map fun x => (.inr (kf x), vf x))) ∧
      ∀ s5, s5[D]? = some (.dct (((d ++ [x]).filter p).map fun x => (.inr (kf x), vf x))) → Keep [D] s4 s5 → Inv (d ++ [x]) s5) fun _ _ => False) fun _ _ => False)) fun _ _ => False))
    (fin : ∀ s, Inv xs s → s[D]? = some (.dct ((xs.filter p).map fun x => (.inr (kf x), vf x))) → Q (.ref D) s) (h : Inv [] st) (hD : st[D]? = some (.dct [])) : WpR (Ab.dcM g t mk mv okp D ρ (xs.map F) st) Q X := by
  simp only [uR, uG] at *
  have key : ∀ (rest d : List α) (s : Store), xs = d ++ rest → Inv d s → s[D]? = some (.dct ((d.filter p).map fun x => (.inr (kf x), vf x))) → Ab.WpR (Ab.dcM g t mk mv okp D ρ (rest.map F) s) Q X := by
    intro rest
    induction rest with
    | nil =>
      intro d s e hI hs
      rw [List.append_nil] at e; subst e
      unfold Ab.dcM
      rw [List.map_nil]; dsimp only
      rw [if_pos (hok _ _ hI)]
      exact fin s hI hs
    | cons x rest ih =>
      intro d s e hI hs
      have hlen : xs.length = d.length + (rest.length + 1) := by rw [e]; simp
      rw [List.map_cons]
      unfold Ab.dcM
      rw [if_pos (hok _ _ hI)]
      have h1 := step d x rest s e hI hs
      cases hg : g (F x) ρ s with
      | none => rw [hg] at h1; exact h1.elim
      | some pr =>
        obtain ⟨ρ1, s1⟩ := pr
        rw [hg] at h1
        dsimp only [Ab.WpG] at h1 ⊢
        cases q0 : t ρ1 s1 with
        | bad => rw [q0] at h1; exact h1.elim
        | exc x s2 => rw [q0] at h1; exact h1.elim
        | ok b s2 =>
          rw [q0] at h1
          obtain ⟨rfl, hf, ht⟩ := h1
          dsimp only [R.noX, R.bind]
          cases hp : p x with
          | false =>
            obtain ⟨h2, h3⟩ := hf hp
            rw [if_neg Bool.false_ne_true]
            have e4 : (d ++ [x]).filter p = d.filter p := by rw [List.filter_append, List.filter_cons, hp]; simp
            exact ih (d ++ [x]) _ (by rw [e]; simp) h3 (by rw [e4]; exact h2)
          | true =>
            have h1 := ht hp
            rw [if_pos rfl]
            cases q : mk ρ1 s2 with
            | bad => rw [q] at h1; exact h1.elim
            | exc x s2 => rw [q] at h1; exact h1.elim
            | ok y s3 =>
              rw [q] at h1
              obtain ⟨rfl, h1⟩ := h1
              dsimp only [R.noX, R.bind]
              cases q2 : mv ρ1 s3 with
              | bad => rw [q2] at h1; exact h1.elim
              | exc x s3 => rw [q2] at h1; exact h1.elim
              | ok z s4 =>
                rw [q2] at h1
                obtain ⟨rfl, h2, h3⟩ := h1
                dsimp only [R.noX, R.bind]
                rw [h2]
                dsimp only [Ab.keyW]
                rw [if_pos (by have := List.length_filter_le p d; rw [List.length_map]; omega)]
                rw [put_new (fun pp hpp => by
                  obtain ⟨y, hy, rfl⟩ := List.mem_map.mp hpp
                  intro e2
                  have e3 : kf y = kf x := Sum.inr.inj e2
                  rw [e, List.map_append, List.map_cons] at nd
                  exact (List.nodup_append.mp nd).2.2 _ (List.mem_map_of_mem (List.mem_filter.mp hy).1) _ (by simp) e3)]
                have e4 : ((d.filter p).map fun x => ((.inr (kf x) : Key), vf x)) ++ [(.inr (kf x), vf x)] = ((d ++ [x]).filter p).map fun x => (.inr (kf x), vf x) := by rw [List.filter_append, List.filter_cons, hp]; simp
                rw [e4]
                have g4 : (s4.set D (.dct (((d ++ [x]).filter p).map fun x => (.inr (kf x), vf x))))[D]? = some (.dct (((d ++ [x]).filter p).map fun x => (.inr (kf x), vf x))) := by rw [List.getElem?_set_self (lt_of h2)]
                exact ih (d ++ [x]) _ (by rw [e]; simp) (h3 _ g4 (.set (by simp))) g4
  exact key xs [] st rfl h hD
theorem dc_new {g : MG} {mk mv : ME} {t : MT} {okp : Store → Prop} {ρ : Slots} {items : List Val} (q : New (.dct []) st fun D s => WpR (Ab.dcM g t mk mv okp D ρ items s) Q X) : WpR (Ab.dcM g t mk mv okp st.length ρ items (st ++ [.dct []])) Q X := by
  simp only [uR] at *
  exact q.at
theorem zip_range {α β : Type} {f : α → Val} {g : β → Val} {xs : List α} {ys : List β} (a : α) (b : β) (h : ys.length = xs.length) : Ab.zipW (xs.map f) (ys.map g) = (List.range xs.length).map fun k => .tup [f (xs.getD k a), g (ys.getD k b)] := by
  rw [zip_map]
  apply List.ext_getElem
  · simp [h]
  · intro i h1 h2
    have hi : i < xs.length := by simpa using h2
    simp [List.getD_eq_getElem?_getD, List.getElem?_eq_getElem hi, List.getElem?_eq_getElem (show i < ys.length by omega)]
theorem valW_map {α : Type} {xs : List α} {kf : α → Str} {vf : α → Val} (nd : (xs.map kf).Nodup) {x : α} (hx : x ∈ xs) : Ab.valW (xs.map fun x => (.inr (kf x), vf x)) (.inr (kf x)) = some (vf x) := by
  induction xs with
  | nil => cases hx
  | cons y ys ih =>
    rw [List.map_cons, Ab.valW]
    rw [List.map_cons, List.nodup_cons] at nd
    by_cases e : kf y = kf x
    · rw [if_pos (by rw [e])]
      rcases List.mem_cons.mp hx with h | h
      · rw [h]
      · exact absurd (e ▸ List.mem_map_of_mem h) nd.1
    · rw [if_neg fun z => e (Sum.inr.inj z)]
      rcases List.mem_cons.mp hx with h | h
      · exact absurd (by rw [h]) e
      · exact ih nd.2 h
end
end Vc

set_option Elab.async false
set_option linter.all false
/-! Flows, in plain Lean: what a barrel does in a round; rounds alike; few stretches. -/
namespace Fl
structure R4 where
  lev : Int
  drawn : Int
  missed : Int
  over : Int
  deriving DecidableEq
def tick (cap L w d : Int) : R4 := ⟨L + w - max 0 (L + w - cap) - min d (L + w - max 0 (L + w - cap)), min d (L + w - max 0 (L + w - cap)), d - min d (L + w - max 0 (L + w - cap)), max 0 (L + w - cap)⟩
/-- the ticks of a round: (water, draw) each -/
def play (cap : Int) : Int → List (Int × Int) → List R4
  | _, [] => []
  | L, (w, d) :: r => tick cap L w d :: play cap (tick cap L w d).lev r
def fin (cap : Int) : Int → List (Int × Int) → Int
  | L, [] => L
  | L, (w, d) :: r => fin cap (tick cap L w d).lev r
def gain : List (Int × Int) → Int
  | [] => 0
  | (w, d) :: r => w - d + gain r
def Pos (x : List (Int × Int)) : Prop := ∀ p ∈ x, 0 ≤ p.1 ∧ 0 ≤ p.2
def over (cap L : Int) (x : List (Int × Int)) : Prop := ∃ t ∈ play cap L x, 0 < t.over
def miss (cap L : Int) (x : List (Int × Int)) : Prop := ∃ t ∈ play cap L x, 0 < t.missed
theorem Pos.tail {p : Int × Int} {r : List (Int × Int)} (h : Pos (p :: r)) : Pos r := fun q hq => h q (List.mem_cons_of_mem _ hq)
theorem play_length (cap : Int) : ∀ (x : List (Int × Int)) (L : Int), (play cap L x).length = x.length
  | [], _ => rfl
  | (w, d) :: r, L => by rw [play, List.length_cons, play_length cap r, List.length_cons]
theorem tick_range {cap L w d : Int} (hc : 0 ≤ cap) (h0 : 0 ≤ L) (h1 : L ≤ cap) (hw : 0 ≤ w) (hd : 0 ≤ d) : 0 ≤ (tick cap L w d).lev ∧ (tick cap L w d).lev ≤ cap ∧ 0 ≤ (tick cap L w d).over ∧ 0 ≤ (tick cap L w d).missed ∧ 0 ≤ (tick cap L w d).drawn ∧ (tick cap L w d).drawn ≤ d := by
  unfold tick; dsimp only; omega
theorem fin_range {cap : Int} (hc : 0 ≤ cap) : ∀ {x : List (Int × Int)} {L : Int}, Pos x → 0 ≤ L → L ≤ cap → 0 ≤ fin cap L x ∧ fin cap L x ≤ cap
  | [], _, _, h0, h1 => ⟨h0, h1⟩
  | (w, d) :: r, L, hp, h0, h1 => by
    have t := tick_range hc h0 h1 (hp (w, d) (by simp)).1 (hp (w, d) (by simp)).2
    rw [fin]
    exact fin_range hc hp.tail t.1 t.2.1
/-- more water at the beginning, more at the end -/
theorem fin_mono {cap : Int} (hc : 0 ≤ cap) : ∀ {x : List (Int × Int)} {L L' : Int}, Pos x → 0 ≤ L → L ≤ L' → L' ≤ cap → fin cap L x ≤ fin cap L' x
  | [], _, _, _, _, h, _ => h
  | (w, d) :: r, L, L', hp, h0, h, h1 => by
    have p := hp (w, d) (by simp)
    have t := tick_range hc h0 (by omega) p.1 p.2
    have t' := tick_range hc (by omega : 0 ≤ L') h1 p.1 p.2
    rw [fin, fin]
    refine fin_mono hc hp.tail t.1 ?_ t'.2.1
    unfold tick; dsimp only; omega
/-- where it overflows, more water at the beginning changes nothing at the end -/
theorem fin_over {cap : Int} (hc : 0 ≤ cap) : ∀ {x : List (Int × Int)} {L L' : Int}, Pos x → 0 ≤ L → L ≤ L' → L' ≤ cap → over cap L x → fin cap L' x = fin cap L x ∧ over cap L' x
  | [], _, _, _, _, _, _, ho => by
    obtain ⟨t, ht, _⟩ := ho
    simp [play] at ht
  | (w, d) :: r, L, L', hp, h0, h, h1, ho => by
    have p := hp (w, d) (by simp)
    have t := tick_range hc h0 (by omega) p.1 p.2
    have t' := tick_range hc (by omega : 0 ≤ L') h1 p.1 p.2
    obtain ⟨q, hq, hpos⟩ := ho
    rw [play, List.mem_cons] at hq
    by_cases hov : 0 < (tick cap L w d).over
    · have e : (tick cap L' w d).lev = (tick cap L w d).lev := by
        revert hov; unfold tick; dsimp only; omega
      rw [fin, fin, e]
      refine ⟨rfl, tick cap L' w d, by rw [play]; simp, ?_⟩
      revert hov; unfold tick; dsimp only; omega
    · rcases hq with e | hq
      · subst e; exact absurd hpos hov
      · have hl : (tick cap L w d).lev ≤ (tick cap L' w d).lev := by unfold tick; dsimp only; omega
        obtain ⟨e, t2, ht2, hp2⟩ := fin_over hc hp.tail t.1 hl t'.2.1 ⟨q, hq, hpos⟩
        exact ⟨e, t2, by rw [play]; exact List.mem_cons_of_mem _ ht2, hp2⟩
/-- where something is missed, less water at the beginning changes nothing at the end -/
theorem fin_miss {cap : Int} (hc : 0 ≤ cap) : ∀ {x : List (Int × Int)} {L L' : Int}, Pos x → 0 ≤ L' → L' ≤ L → L ≤ cap → miss cap L x → fin cap L' x = fin cap L x ∧ miss cap L' x
  | [], _, _, _, _, _, _, ho => by
    obtain ⟨t, ht, _⟩ := ho
    simp [play] at ht
  | (w, d) :: r, L, L', hp, h0, h, h1, ho => by
    have p := hp (w, d) (by simp)
    have t := tick_range hc (by omega : 0 ≤ L) h1 p.1 p.2
    have t' := tick_range hc h0 (by omega) p.1 p.2
    obtain ⟨q, hq, hpos⟩ := ho
    rw [play, List.mem_cons] at hq
    by_cases hov : 0 < (tick cap L w d).missed
    · have e : (tick cap L' w d).lev = (tick cap L w d).lev := by
        revert hov; unfold tick; dsimp only; omega
      rw [fin, fin, e]
      refine ⟨rfl, tick cap L' w d, by rw [play]; simp, ?_⟩
      revert hov; unfold tick; dsimp only; omega
    · rcases hq with e | hq
      · subst e; exact absurd hpos hov
      · have hl : (tick cap L' w d).lev ≤ (tick cap L w d).lev := by unfold tick; dsimp only; omega
        obtain ⟨e, t2, ht2, hp2⟩ := fin_miss hc hp.tail t'.1 hl t.2.1 ⟨q, hq, hpos⟩
        exact ⟨e, t2, by rw [play]; exact List.mem_cons_of_mem _ ht2, hp2⟩
/-- a round in which nothing overflows and nothing is missed -/
def clean (cap L : Int) (x : List (Int × Int)) : Prop := ∀ t ∈ play cap L x, t.over = 0 ∧ t.missed = 0
/-- as the program finds them: the most that stands there, and the least, when nothing stops it -/
def pkF (p n : Int) : List (Int × Int) → Int
  | [] => p
  | (w, d) :: r => pkF (max p (n + w)) (n + w - d) r
def trF (t n : Int) : List (Int × Int) → Int
  | [] => t
  | (w, d) :: r => trF (min t (n + w - d)) (n + w - d) r
def Up (q : Int) : Int → List (Int × Int) → Prop
  | _, [] => True
  | n, (w, d) :: r => n + w ≤ q ∧ Up q (n + w - d) r
def Dn (q : Int) : Int → List (Int × Int) → Prop
  | _, [] => True
  | n, (w, d) :: r => q ≤ n + w - d ∧ Dn q (n + w - d) r
theorem pkF_le {q : Int} : ∀ {x : List (Int × Int)} {p n : Int}, pkF p n x ≤ q ↔ p ≤ q ∧ Up q n x
  | [], p, n => by simp [pkF, Up]
  | (w, d) :: r, p, n => by rw [pkF, pkF_le, Up]; exact ⟨fun h => ⟨by have := h.1; omega, by have := h.1; omega, h.2⟩, fun h => ⟨by have := h.1; have := h.2.1; omega, h.2.2⟩⟩
theorem le_trF {q : Int} : ∀ {x : List (Int × Int)} {t n : Int}, q ≤ trF t n x ↔ q ≤ t ∧ Dn q n x
  | [], p, n => by simp [trF, Dn]
  | (w, d) :: r, p, n => by rw [trF, le_trF, Dn]; exact ⟨fun h => ⟨by have := h.1; omega, by have := h.1; omega, h.2⟩, fun h => ⟨by have := h.1; have := h.2.1; omega, h.2.2⟩⟩
theorem Up_add {q k : Int} : ∀ {x : List (Int × Int)} {n : Int}, Up (q + k) (n + k) x ↔ Up q n x
  | [], n => by simp [Up]
  | (w, d) :: r, n => by
    rw [Up, Up, show n + k + w - d = n + w - d + k by omega, Up_add]; exact ⟨fun h => ⟨by have := h.1; omega, h.2⟩, fun h => ⟨by have := h.1; omega, h.2⟩⟩
theorem Dn_add {q k : Int} : ∀ {x : List (Int × Int)} {n : Int}, Dn (q + k) (n + k) x ↔ Dn q n x
  | [], n => by simp [Dn]
  | (w, d) :: r, n => by
    rw [Dn, Dn, show n + k + w - d = n + w - d + k by omega, Dn_add]; exact ⟨fun h => ⟨by have := h.1; omega, h.2⟩, fun h => ⟨by have := h.1; omega, h.2⟩⟩
theorem not_over {cap : Int} (hc : 0 ≤ cap) : ∀ {x : List (Int × Int)} {L n : Int}, Pos x → 0 ≤ L → L ≤ cap → n ≤ L → ¬over cap L x → Up cap n x
  | [], _, _, _, _, _, _, _ => trivial
  | (w, d) :: r, L, n, hp, h0, h1, hn, ho => by
    have p := hp (w, d) (by simp)
    have t := tick_range hc h0 h1 p.1 p.2
    have h2 : ¬0 < (tick cap L w d).over := fun z => ho ⟨_, by rw [play]; simp, z⟩
    rw [Up]
    refine ⟨by revert h2; unfold tick; dsimp only; omega, not_over hc hp.tail t.1 t.2.1 (by revert h2; unfold tick; dsimp only; omega) fun ⟨z, hz, hz2⟩ => ho ⟨z, by rw [play]; exact List.mem_cons_of_mem _ hz, hz2⟩⟩
theorem not_miss {cap : Int} (hc : 0 ≤ cap) : ∀ {x : List (Int × Int)} {L n : Int}, Pos x → 0 ≤ L → L ≤ cap → L ≤ n → ¬miss cap L x → Dn 0 n x
  | [], _, _, _, _, _, _, _ => trivial
  | (w, d) :: r, L, n, hp, h0, h1, hn, ho => by
    have p := hp (w, d) (by simp)
    have t := tick_range hc h0 h1 p.1 p.2
    have h2 : ¬0 < (tick cap L w d).missed := fun z => ho ⟨_, by rw [play]; simp, z⟩
    rw [Dn]
    refine ⟨by revert h2; unfold tick; dsimp only; omega, not_miss hc hp.tail t.1 t.2.1 (by revert h2; unfold tick; dsimp only; omega) fun ⟨z, hz, hz2⟩ => ho ⟨z, by rw [play]; exact List.mem_cons_of_mem _ hz, hz2⟩⟩
/-- where all is within, nothing overflows, nothing is missed, and the level moves by the gain -/
theorem clean_of {cap : Int} : ∀ {x : List (Int × Int)} {L : Int}, Up cap L x → Dn 0 L x → clean cap L x ∧ fin cap L x = L + gain x ∧ (play cap L x).map (·.drawn) = x.map (·.2)
  | [], L, _, _ => ⟨(fun t ht => by simp [play] at ht), by simp [fin, gain], rfl⟩
  | (w, d) :: r, L, hu, hd => by
    rw [Up] at hu; rw [Dn] at hd
    have e : tick cap L w d = ⟨L + w - d, d, 0, 0⟩ := by unfold tick; simp only [R4.mk.injEq]; omega
    obtain ⟨c1, c2, c3⟩ := clean_of (cap := cap) hu.2 hd.2
    refine ⟨fun t ht => ?_, ?_, ?_⟩
    · rw [play, e, List.mem_cons] at ht
      rcases ht with z | z
      · subst z; exact ⟨rfl, rfl⟩
      · exact c1 t z
    · rw [fin, e, gain]; dsimp only; rw [c2]; omega
    · rw [play, e, List.map_cons, List.map_cons]; dsimp only; rw [c3]
theorem clean_not {cap L : Int} {x : List (Int × Int)} (h : clean cap L x) : ¬over cap L x ∧ ¬miss cap L x :=
  ⟨fun ⟨t, ht, hp⟩ => by have := (h t ht).1; omega, fun ⟨t, ht, hp⟩ => by have := (h t ht).2; omega⟩
theorem play_pos {cap : Int} (hc : 0 ≤ cap) : ∀ {x : List (Int × Int)} {L : Int}, Pos x → 0 ≤ L → L ≤ cap → ∀ t ∈ play cap L x, 0 ≤ t.over ∧ 0 ≤ t.missed
  | [], _, _, _, _ => fun t ht => by simp [play] at ht
  | (w, d) :: r, L, hp, h0, h1 => fun t ht => by
    have p := hp (w, d) (by simp)
    have z := tick_range hc h0 h1 p.1 p.2
    rw [play, List.mem_cons] at ht
    rcases ht with e | ht
    · subst e; exact ⟨z.2.2.1, z.2.2.2.1⟩
    · exact play_pos hc hp.tail z.1 z.2.1 t ht
theorem not_clean {cap L : Int} {x : List (Int × Int)} (hc : 0 ≤ cap) (hp : Pos x) (h0 : 0 ≤ L) (h1 : L ≤ cap) (h : ¬clean cap L x) : over cap L x ∨ miss cap L x := by
  by_cases ho : over cap L x
  · exact .inl ho
  · by_cases hm : miss cap L x
    · exact .inr hm
    · refine absurd (fun t ht => ?_) h
      have z := play_pos hc hp h0 h1 t ht
      have h2 : ¬0 < t.over := fun q => ho ⟨t, ht, q⟩
      have h3 : ¬0 < t.missed := fun q => hm ⟨t, ht, q⟩
      omega
theorem clean_iff {cap L : Int} {x : List (Int × Int)} (hc : 0 ≤ cap) (hp : Pos x) (h0 : 0 ≤ L) (h1 : L ≤ cap) : clean cap L x ↔ pkF 0 0 x ≤ cap - L ∧ -L ≤ trF 0 0 x := by
  have a : Up cap L x ↔ Up (cap - L) 0 x := by have := Up_add (q := cap - L) (k := L) (n := 0) (x := x); rw [show cap - L + L = cap by omega, show (0 : Int) + L = L by omega] at this; exact this
  have b : Dn 0 L x ↔ Dn (-L) 0 x := by have := Dn_add (q := -L) (k := L) (n := 0) (x := x); rw [show -L + L = 0 by omega, show (0 : Int) + L = L by omega] at this; exact this
  rw [pkF_le, le_trF, ← a, ← b]
  constructor
  · intro h
    have z := clean_not h
    exact ⟨⟨by omega, not_over hc hp h0 h1 (Int.le_refl _) z.1⟩, ⟨by omega, not_miss hc hp h0 h1 (Int.le_refl _) z.2⟩⟩
  · intro h
    exact (clean_of h.1.2 h.2.2).1
theorem clean_fin {cap L : Int} {x : List (Int × Int)} (hc : 0 ≤ cap) (hp : Pos x) (h0 : 0 ≤ L) (h1 : L ≤ cap) (h : clean cap L x) : fin cap L x = L + gain x ∧ (play cap L x).map (·.drawn) = x.map (·.2) := by
  have z := clean_not h
  exact (clean_of (not_over hc hp h0 h1 (Int.le_refl _) z.1) (not_miss hc hp h0 h1 (Int.le_refl _) z.2)).2
theorem over_of_peak {cap L : Int} {x : List (Int × Int)} (hc : 0 ≤ cap) (hp : Pos x) (h0 : 0 ≤ L) (h1 : L ≤ cap) (h : cap - L < pkF 0 0 x) : over cap L x := by
  refine Classical.byContradiction fun ho => ?_
  have a : Up cap L x ↔ Up (cap - L) 0 x := by have := Up_add (q := cap - L) (k := L) (n := 0) (x := x); rw [show cap - L + L = cap by omega, show (0 : Int) + L = L by omega] at this; exact this
  have := pkF_le.mpr ⟨(by omega : 0 ≤ cap - L), a.mp (not_over hc hp h0 h1 (Int.le_refl _) ho)⟩
  omega
theorem miss_of_trough {cap L : Int} {x : List (Int × Int)} (hc : 0 ≤ cap) (hp : Pos x) (h0 : 0 ≤ L) (h1 : L ≤ cap) (h : trF 0 0 x < -L) : miss cap L x := by
  refine Classical.byContradiction fun ho => ?_
  have b : Dn 0 L x ↔ Dn (-L) 0 x := by have := Dn_add (q := -L) (k := L) (n := 0) (x := x); rw [show -L + L = 0 by omega, show (0 : Int) + L = L by omega] at this; exact this
  have := le_trF.mpr ⟨(by omega : -L ≤ 0), b.mp (not_miss hc hp h0 h1 (Int.le_refl _) ho)⟩
  omega
/-! ### rounds alike -/
/-- how many rounds without overflowing and missing follow each other -/
def alike (cap L s : Int) (x : List (Int × Int)) : Int := if 0 < s then (cap - pkF 0 0 x - L) / s + 1 else (L + trF 0 0 x) / (0 - s) + 1
theorem alike_pos {cap L s : Int} {x : List (Int × Int)} (hs : s ≠ 0) (h : pkF 0 0 x ≤ cap - L ∧ -L ≤ trF 0 0 x) : 0 < alike cap L s x := by
  unfold alike
  split
  · have : 0 ≤ (cap - pkF 0 0 x - L) / s := Int.ediv_nonneg (by omega) (by omega)
    omega
  · have : 0 ≤ (L + trF 0 0 x) / (0 - s) := Int.ediv_nonneg (by omega) (by omega)
    omega
/-- within so many rounds all is clean; behind them, on the way up it overflows, on the way down something is missed -/
theorem alike_in {cap L s : Int} {x : List (Int × Int)} (hs : s ≠ 0) (h : pkF 0 0 x ≤ cap - L ∧ -L ≤ trF 0 0 x) {k : Int} (hk0 : 0 ≤ k) (hk : k < alike cap L s x) : pkF 0 0 x ≤ cap - (L + k * s) ∧ -(L + k * s) ≤ trF 0 0 x := by
  unfold alike at hk
  split at hk
  · rename_i hp
    have h1 : k * s ≤ (cap - pkF 0 0 x - L) / s * s := Int.mul_le_mul_of_nonneg_right (by omega) (by omega)
    have h2 : (cap - pkF 0 0 x - L) / s * s ≤ cap - pkF 0 0 x - L := Int.ediv_mul_le _ (by omega)
    have h3 : 0 ≤ k * s := Int.mul_nonneg hk0 (by omega)
    omega
  · have h1 : k * (0 - s) ≤ (L + trF 0 0 x) / (0 - s) * (0 - s) := Int.mul_le_mul_of_nonneg_right (by omega) (by omega)
    have h2 : (L + trF 0 0 x) / (0 - s) * (0 - s) ≤ L + trF 0 0 x := Int.ediv_mul_le _ (by omega)
    have h3 : 0 ≤ k * (0 - s) := Int.mul_nonneg hk0 (by omega)
    rw [Int.mul_sub, Int.mul_zero] at h1 h3
    omega
theorem alike_out {cap L s : Int} {x : List (Int × Int)} (hs : s ≠ 0) : (0 < s → cap - (L + alike cap L s x * s) < pkF 0 0 x) ∧ (s < 0 → trF 0 0 x < -(L + alike cap L s x * s)) := by
  unfold alike
  constructor
  · intro hp
    rw [if_pos hp]
    have h := Int.lt_ediv_add_one_mul_self (cap - pkF 0 0 x - L) hp
    omega
  · intro hn
    rw [if_neg (by omega)]
    have h := Int.lt_ediv_add_one_mul_self (L + trF 0 0 x) (show 0 < 0 - s by omega)
    rw [Int.mul_sub, Int.mul_zero] at h
    omega
/-! ### the rounds of a barrel, one after another -/
section
variable (cap : Int) (draws : List Int) (I : Nat → List Int)
/-- the level at the beginning of a round -/
def Lv : Nat → Int
  | 0 => 0
  | n + 1 => fin cap (Lv n) ((I n).zip draws)
def rows (n : Nat) : List R4 := play cap (Lv cap draws I n) ((I n).zip draws)
end
def p3 (t : R4) : Int × Int × Int := (t.drawn, t.missed, t.over)
structure Str where
  begin : Nat
  count : Option Nat
  lev : Int
  step : Int
  inflow : List Int
def Within (n b : Nat) (c : Option Nat) : Prop := b ≤ n ∧ ∀ k, c = some k → n < b + k
def Str.play (cap : Int) (draws : List Int) (s : Str) : List R4 := Fl.play cap s.lev (s.inflow.zip draws)
def Str.at (cap : Int) (draws : List Int) (s : Str) (n : Nat) : List R4 := Fl.play cap (s.lev + ((n : Int) - s.begin) * s.step) (s.inflow.zip draws)
/-- a stretch tells its rounds right -/
structure Good (cap : Int) (draws : List Int) (I : Nat → List Int) (s : Str) : Prop where
  at_ : ∀ n, Within n s.begin s.count → s.at cap draws n = rows cap draws I n
  same : ∀ n, Within n s.begin s.count → (rows cap draws I n).map p3 = (s.play cap draws).map p3
  len : s.inflow.length = draws.length
  lev : ∀ n, Within n s.begin s.count → Lv cap draws I n = s.lev + ((n : Int) - s.begin) * s.step
  zero : s.count = none → s.step = 0
  sb : -(2 ^ 64) < s.step ∧ s.step < 2 ^ 64
  nxt : ∀ n, Within n s.begin s.count → Lv cap draws I (n + 1) = Lv cap draws I n + s.step
structure Fit (cap : Int) (draws : List Int) (I : Nat → List Int) : Prop where
  c0 : 0 ≤ cap
  d0 : ∀ d ∈ draws, 0 ≤ d
  i0 : ∀ n, ∀ w ∈ I n, 0 ≤ w
  il : ∀ n, (I n).length = draws.length
section
variable {cap : Int} {draws : List Int} {I : Nat → List Int}
theorem zip_pos {xs ds : List Int} (h1 : ∀ w ∈ xs, 0 ≤ w) (h2 : ∀ d ∈ ds, 0 ≤ d) : Pos (xs.zip ds) := fun p hp => ⟨h1 _ (List.of_mem_zip hp).1, h2 _ (List.of_mem_zip hp).2⟩
theorem Fit.pos (F : Fit cap draws I) (n : Nat) : Pos ((I n).zip draws) := zip_pos (F.i0 n) F.d0
theorem Lv_range (F : Fit cap draws I) : ∀ n, 0 ≤ Lv cap draws I n ∧ Lv cap draws I n ≤ cap
  | 0 => ⟨Int.le_refl _, F.c0⟩
  | n + 1 => fin_range F.c0 (F.pos n) (Lv_range F n).1 (Lv_range F n).2
/-- how far a run of rounds with one inflow is from its end -/
def Rk (cap : Int) (x : List (Int × Int)) : Nat → Int → Prop
  | 0, L => fin cap L x = L
  | 1, L => fin cap L x = L ∨ (L < fin cap L x ∧ over cap L x) ∨ (fin cap L x < L ∧ miss cap L x)
  | 2, L => fin cap L x = L ∨ (L < fin cap L x ∧ over cap L x) ∨ (fin cap L x < L ∧ miss cap L x) ∨ clean cap L x
  | _ + 3, _ => True
theorem rk_dirty {x : List (Int × Int)} {L : Int} (hc : 0 ≤ cap) (hp : Pos x) (h0 : 0 ≤ L) (h1 : L ≤ cap) : ∀ {k : Nat}, Rk cap x (k + 1) L → ¬clean cap L x → Rk cap x (min k 2) (fin cap L x) := by
  intro k hk hn
  have r := fin_range hc hp h0 h1
  have one : (fin cap L x = L ∨ (L < fin cap L x ∧ over cap L x) ∨ (fin cap L x < L ∧ miss cap L x)) → fin cap (fin cap L x) x = fin cap L x := by
    rintro (e | ⟨e, ho⟩ | ⟨e, hm⟩)
    · rw [e]; exact e
    · exact (fin_over hc hp h0 (Int.le_of_lt e) r.2 ho).1
    · exact (fin_miss hc hp r.1 (Int.le_of_lt e) h1 hm).1
  match k, hk with
  | 0, hk => exact one hk
  | 1, hk =>
    show _ ∨ _
    refine .inl (one ?_)
    rcases hk with e | e | e | e
    · exact .inl e
    · exact .inr (.inl e)
    · exact .inr (.inr e)
    · exact absurd e hn
  | k + 2, _ =>
    rw [show min (k + 2) 2 = 2 by omega]
    by_cases h1' : (fin cap L x = L ∨ (L < fin cap L x ∧ over cap L x) ∨ (fin cap L x < L ∧ miss cap L x))
    · exact .inl (one h1')
    · show _ ∨ _ ∨ _ ∨ _
      rcases Int.lt_trichotomy L (fin cap L x) with e | e | e
      · have ho : ¬over cap L x := fun z => h1' (.inr (.inl ⟨e, z⟩))
        have hm : miss cap L x := (not_clean hc hp h0 h1 hn).resolve_left ho
        have up := fin_mono hc hp h0 (Int.le_of_lt e) r.2
        by_cases c2 : clean cap (fin cap L x) x
        · exact .inr (.inr (.inr c2))
        · rcases not_clean hc hp r.1 r.2 c2 with z | z
          · by_cases e2 : fin cap (fin cap L x) x = fin cap L x
            · exact .inl e2
            · exact .inr (.inl ⟨by omega, z⟩)
          · exact .inl (fin_miss hc hp h0 (Int.le_of_lt e) r.2 z).1.symm
      · exact absurd (.inl e.symm) h1'
      · have hm : ¬miss cap L x := fun z => h1' (.inr (.inr ⟨e, z⟩))
        have ho : over cap L x := (not_clean hc hp h0 h1 hn).resolve_right hm
        have dn := fin_mono hc hp r.1 (Int.le_of_lt e) h1
        by_cases c2 : clean cap (fin cap L x) x
        · exact .inr (.inr (.inr c2))
        · rcases not_clean hc hp r.1 r.2 c2 with z | z
          · exact .inl (fin_over hc hp r.1 (Int.le_of_lt e) h1 z).1.symm
          · by_cases e2 : fin cap (fin cap L x) x = fin cap L x
            · exact .inl e2
            · exact .inr (.inr (.inl ⟨by omega, z⟩))
/-- behind a clean run all is at its end but one -/
theorem rk_clean {x : List (Int × Int)} {L s : Int} (hc : 0 ≤ cap) (hp : Pos x) (h0 : 0 ≤ L) (h1 : L ≤ cap) (hn : clean cap L x) (hs : s = fin cap L x - L) (hz : s ≠ 0) (k : Int) (hk : k = alike cap L s x) :
    0 ≤ L + k * s ∧ L + k * s ≤ cap ∧ Rk cap x 1 (L + k * s) := by
  have b := (clean_iff hc hp h0 h1).mp hn
  have g := (clean_fin hc hp h0 h1 hn).1
  have kp : 0 < k := by rw [hk]; exact alike_pos hz b
  have within : ∀ j : Int, 0 ≤ j → j < k → 0 ≤ L + j * s ∧ L + j * s ≤ cap ∧ clean cap (L + j * s) x ∧ fin cap (L + j * s) x = L + (j + 1) * s := by
    intro j j0 j1
    have b2 := alike_in hz b j0 (by omega)
    have e0 : (0 : Int) ≤ pkF 0 0 x := (pkF_le.mp (Int.le_refl (pkF 0 0 x))).1
    have e1 : trF 0 0 x ≤ 0 := (le_trF.mp (Int.le_refl (trF 0 0 x))).1
    have q0 : 0 ≤ L + j * s := by omega
    have q1 : L + j * s ≤ cap := by omega
    have c := (clean_iff hc hp q0 q1).mpr b2
    refine ⟨q0, q1, c, ?_⟩
    rw [(clean_fin hc hp q0 q1 c).1, Int.add_mul, Int.one_mul]; omega
  have last := within (k - 1) (by omega) (by omega)
  have e : L + (k - 1 + 1) * s = L + k * s := by rw [Int.sub_add_cancel]
  rw [e] at last
  have r := fin_range hc hp last.1 last.2.1
  rw [last.2.2.2] at r
  refine ⟨r.1, r.2, ?_⟩
  have out := alike_out (cap := cap) (L := L) (x := x) hz
  rw [← hk] at out
  show _ ∨ _ ∨ _
  have m : (k - 1) * s = k * s - s := by rw [Int.sub_mul, Int.one_mul]
  rcases Int.lt_or_gt_of_ne hz with z | z
  · have hm := miss_of_trough hc hp r.1 r.2 (out.2 z)
    have dn := fin_mono hc hp r.1 (by omega : L + k * s ≤ L + (k - 1) * s) last.2.1
    rw [last.2.2.2] at dn
    by_cases e2 : fin cap (L + k * s) x = L + k * s
    · exact .inl e2
    · exact .inr (.inr ⟨by omega, hm⟩)
  · have ho := over_of_peak hc hp r.1 r.2 (by have := out.1 z; omega)
    have up := fin_mono hc hp last.1 (by omega : L + (k - 1) * s ≤ L + k * s) r.2
    rw [last.2.2.2] at up
    by_cases e2 : fin cap (L + k * s) x = L + k * s
    · exact .inl e2
    · exact .inr (.inl ⟨by omega, ho⟩)
theorem clean_p3 {x : List (Int × Int)} {L : Int} (h : clean cap L x) (hd : (play cap L x).map (·.drawn) = x.map (·.2)) : (play cap L x).map p3 = x.map fun p => (p.2, 0, 0) := by
  have key : ∀ (a : List R4) (b : List (Int × Int)), (∀ t ∈ a, t.over = 0 ∧ t.missed = 0) → a.map (·.drawn) = b.map (·.2) → a.map p3 = b.map fun p => (p.2, 0, 0) := by
    intro a
    induction a with
    | nil => intro b _ h; cases b with
      | nil => rfl
      | cons => simp at h
    | cons t r ih =>
      intro b h1 h2
      cases b with
      | nil => simp at h2
      | cons p q =>
        simp only [List.map_cons, List.cons.injEq] at h2 ⊢
        refine ⟨?_, ih q (fun t ht => h1 t (by simp [ht])) h2.2⟩
        have z := h1 t (by simp)
        unfold p3; rw [z.1, z.2, h2.1]
  exact key _ _ h hd
theorem Lv_succ (n : Nat) : Lv cap draws I (n + 1) = fin cap (Lv cap draws I n) ((I n).zip draws) := rfl
/-- the level stays -/
theorem good_still {b : Nat} {c : Option Nat} {inf : List Int} (F : Fit cap draws I) (hl : inf.length = draws.length) (hI : ∀ n, Within n b c → I n = inf) (hz : fin cap (Lv cap draws I b) (inf.zip draws) = Lv cap draws I b) :
    Good cap draws I ⟨b, c, Lv cap draws I b, 0, inf⟩ ∧ ∀ k, c = some k → Lv cap draws I (b + k) = Lv cap draws I b := by
  have lev : ∀ j : Nat, (∀ k, c = some k → j ≤ k) → Lv cap draws I (b + j) = Lv cap draws I b := by
    intro j
    induction j with
    | zero => intro _; rfl
    | succ j ih =>
      intro hj
      have e := ih fun k hk => by have := hj k hk; omega
      rw [← Nat.add_assoc, Lv_succ, e, hI (b + j) ⟨by omega, fun k hk => by have := hj k hk; omega⟩]
      exact hz
  have at_ : ∀ n, Within n b c → Lv cap draws I n = Lv cap draws I b := fun n hn => by
    have := lev (n - b) fun k hk => by have := hn.2 k hk; omega
    rwa [show b + (n - b) = n by have := hn.1; omega] at this
  refine ⟨⟨fun n hn => ?_, fun n hn => ?_, hl, fun n hn => ?_, fun _ => rfl, (show -(2 ^ 64) < (0 : Int) ∧ (0 : Int) < 2 ^ 64 by decide), fun n hn => ?_⟩, fun k hk => lev k fun k' hk' => by rw [hk] at hk'; cases hk'; exact Nat.le_refl _⟩
  · unfold Str.at rows; dsimp only
    rw [at_ n hn, hI n hn, Int.mul_zero, Int.add_zero]
  · unfold Str.play rows; dsimp only
    rw [at_ n hn, hI n hn]
  · dsimp only; rw [at_ n hn, Int.mul_zero, Int.add_zero]
  · dsimp only; rw [Lv_succ, at_ n hn, hI n hn, hz, Int.add_zero]
/-- one round -/
theorem good_once {b : Nat} {inf : List Int} {s : Int} (sb : -(2 ^ 64) < s ∧ s < 2 ^ 64) (F : Fit cap draws I) (hl : inf.length = draws.length) (hI : I b = inf) (hs : s = fin cap (Lv cap draws I b) (inf.zip draws) - Lv cap draws I b) :
    Good cap draws I ⟨b, some 1, Lv cap draws I b, s, inf⟩ ∧ Lv cap draws I (b + 1) = Lv cap draws I b + s := by
  have one : ∀ n, Within n b (some 1) → n = b := fun n hn => by have := hn.1; have := hn.2 1 rfl; omega
  refine ⟨⟨fun n hn => ?_, fun n hn => ?_, hl, fun n hn => ?_, (fun z => by cases z), sb, fun n hn => ?_⟩, ?_⟩
  · have e : n = b := one n hn
    subst e
    unfold Str.at rows; dsimp only
    rw [hI, Int.sub_self, Int.zero_mul, Int.add_zero]
  · have e : n = b := one n hn
    subst e
    unfold Str.play rows; dsimp only
    rw [hI]
  · have e : n = b := one n hn
    subst e
    dsimp only; omega
  · have e : n = b := one n hn
    subst e
    dsimp only; rw [Lv_succ, hI]; omega
  · rw [Lv_succ, hI]; omega
/-- a clean run -/
theorem good_run {b t : Nat} {inf : List Int} {s : Int} (sb : -(2 ^ 64) < s ∧ s < 2 ^ 64) (F : Fit cap draws I) (hl : inf.length = draws.length) (hI : ∀ n, Within n b (some t) → I n = inf) (hs : s = fin cap (Lv cap draws I b) (inf.zip draws) - Lv cap draws I b) (hz : s ≠ 0) (hc : clean cap (Lv cap draws I b) (inf.zip draws)) (hI0 : I b = inf)
    (ht : (t : Int) ≤ alike cap (Lv cap draws I b) s (inf.zip draws)) :
    Good cap draws I ⟨b, some t, Lv cap draws I b, s, inf⟩ ∧ Lv cap draws I (b + t) = Lv cap draws I b + (t : Int) * s := by
  have hp : Pos (inf.zip draws) := by rw [← hI0]; exact F.pos b
  have r := Lv_range F b
  have bd := (clean_iff F.c0 hp r.1 r.2).mp hc
  have lev : ∀ j : Nat, j ≤ t → Lv cap draws I (b + j) = Lv cap draws I b + (j : Int) * s ∧ (j < t → clean cap (Lv cap draws I (b + j)) (inf.zip draws)) := by
    intro j
    induction j with
    | zero =>
      intro _
      exact ⟨by simp, fun _ => hc⟩
    | succ j ih =>
      intro hj
      obtain ⟨e, c⟩ := ih (by omega)
      have c := c (by omega)
      have rj := Lv_range F (b + j)
      have e1 : Lv cap draws I (b + (j + 1)) = Lv cap draws I b + ((j + 1 : Nat) : Int) * s := by
        rw [← Nat.add_assoc, Lv_succ, hI (b + j) ⟨by omega, fun k hk => by cases hk; omega⟩, (clean_fin F.c0 hp rj.1 rj.2 c).1, e]
        have g := (clean_fin F.c0 hp r.1 r.2 hc).1
        rw [Int.natCast_add, Int.add_mul]
        omega
      refine ⟨e1, fun hlt => ?_⟩
      have rj1 := Lv_range F (b + (j + 1))
      rw [clean_iff F.c0 hp rj1.1 rj1.2, e1]
      exact alike_in hz bd (by omega) (by omega)
  have at_ : ∀ n, Within n b (some t) → Lv cap draws I n = Lv cap draws I b + ((n : Int) - b) * s ∧ clean cap (Lv cap draws I n) (inf.zip draws) := fun n hn => by
    have h1 := hn.1; have h2 := hn.2 t rfl
    have z := lev (n - b) (by omega)
    rw [show b + (n - b) = n by omega, show ((n - b : Nat) : Int) = (n : Int) - b by omega] at z
    exact ⟨z.1, z.2 (by omega)⟩
  refine ⟨⟨fun n hn => ?_, fun n hn => ?_, hl, fun n hn => (at_ n hn).1, (fun z => by cases z), sb, fun n hn => ?_⟩, (lev t (Nat.le_refl _)).1⟩
  · unfold Str.at rows; dsimp only
    rw [hI n hn, (at_ n hn).1]
  · unfold Str.play rows; dsimp only
    rw [hI n hn]
    have c := (at_ n hn).2
    have rn := Lv_range F n
    rw [clean_p3 c (clean_fin F.c0 hp rn.1 rn.2 c).2, clean_p3 hc (clean_fin F.c0 hp r.1 r.2 hc).2]
  · have c := (at_ n hn).2
    have rn := Lv_range F n
    dsimp only
    rw [Lv_succ, hI n hn, (clean_fin F.c0 hp rn.1 rn.2 c).1]
    have g := (clean_fin F.c0 hp r.1 r.2 hc).1
    omega
/-! ### a chain of stretches -/
def Chain : Nat → List Str → Option Nat → Prop
  | b, [], e => e = some b
  | b, s :: r, e => s.begin = b ∧ match s.count with
    | some k => 0 < k ∧ Chain (b + k) r e
    | none => r = [] ∧ e = none
theorem Chain.snoc {s : Str} : ∀ {S : List Str} {b m : Nat}, Chain b S (some m) → s.begin = m → (∀ k, s.count = some k → 0 < k) → Chain b (S ++ [s]) (s.count.map (m + ·))
  | [], b, m, h, hs, hk => by
    rw [Chain] at h
    cases h
    rw [List.nil_append, Chain]
    refine ⟨hs, ?_⟩
    cases e : s.count with
    | none => exact ⟨rfl, rfl⟩
    | some k => exact ⟨hk k e, rfl⟩
  | x :: S, b, m, h, hs, hk => by
    rw [Chain] at h
    obtain ⟨h1, h2⟩ := h
    rw [List.cons_append, Chain]
    refine ⟨h1, ?_⟩
    cases e : x.count with
    | none => rw [e] at h2; cases h2.2
    | some k => rw [e] at h2; exact ⟨h2.1, h2.2.snoc hs hk⟩
/-- the stretch of a round -/
def findS (S : List Str) (s0 : Str) (n : Nat) : Str := S.foldl (fun f s => if s.begin ≤ n then s else f) s0
theorem chain_le : ∀ {S : List Str} {b : Nat} {e : Option Nat}, Chain b S e → ∀ s ∈ S, b ≤ s.begin
  | [], _, _, _ => fun s hs => by cases hs
  | x :: S, b, e, h => fun s hs => by
    rw [Chain] at h
    obtain ⟨h1, h2⟩ := h
    rcases List.mem_cons.mp hs with q | q
    · subst q; omega
    · cases ec : x.count with
      | none => rw [ec] at h2; rw [h2.1] at q; cases q
      | some k => rw [ec] at h2; have := chain_le h2.2 s q; omega
theorem find_none : ∀ {S : List Str} {s0 : Str} {n : Nat}, (∀ s ∈ S, n < s.begin) → findS S s0 n = s0
  | [], _, _, _ => rfl
  | x :: S, s0, n, h => by
    have := h x (by simp)
    unfold findS
    rw [List.foldl_cons, if_neg (by omega)]
    exact find_none fun s hs => h s (by simp [hs])
theorem find_in : ∀ {S : List Str} {b : Nat} {e : Option Nat} {s0 : Str} {n : Nat}, Chain b S e → b ≤ n → (∀ k, e = some k → n < k) → S ≠ [] → findS S s0 n ∈ S ∧ Within n (findS S s0 n).begin (findS S s0 n).count
  | [], _, _, _, _, _, _, _, h => absurd rfl h
  | x :: S, b, e, s0, n, h, hb, he, _ => by
    rw [Chain] at h
    obtain ⟨h1, h2⟩ := h
    have e0 : findS (x :: S) s0 n = findS S x n := by
      unfold findS
      rw [List.foldl_cons, if_pos (by omega)]
    rw [e0]
    cases ec : x.count with
    | none =>
      rw [ec] at h2
      rw [h2.1]
      show x ∈ [x] ∧ Within n x.begin x.count
      rw [ec]
      exact ⟨by simp, by omega, fun k hk => by cases hk⟩
    | some k =>
      rw [ec] at h2
      by_cases hn : b + k ≤ n
      · have hS : S ≠ [] := by
          intro hS
          rw [hS] at h2
          have := he _ h2.2
          omega
        have := find_in (s0 := x) h2.2 hn he hS
        exact ⟨by simp [this.1], this.2⟩
      · rw [find_none fun s hs => by have := chain_le h2.2 s hs; omega]
        refine ⟨by simp, by omega, fun k' hk' => by rw [ec] at hk'; cases hk'; omega⟩
/-! ### sums -/
def sumv (v : R4 → Int) (l : List R4) : Int := (l.map v).sum
def tot (cap : Int) (draws : List Int) (I : Nat → List Int) (v : R4 → Int) : Nat → Int
  | 0 => 0
  | n + 1 => tot cap draws I v n + sumv v (rows cap draws I n)
/-- v looks at drawn, missed, over alone -/
def OfP3 (v : R4 → Int) : Prop := ∃ w : Int × Int × Int → Int, ∀ t, v t = w (p3 t)
theorem sumv_p3 {v : R4 → Int} (hv : OfP3 v) {a b : List R4} (h : a.map p3 = b.map p3) : sumv v a = sumv v b := by
  obtain ⟨w, hw⟩ := hv
  unfold sumv
  rw [show v = w ∘ p3 from funext hw, ← List.map_map, ← List.map_map, h]
theorem tot_add {v : R4 → Int} {c : Int} {b : Nat} : ∀ {k : Nat}, (∀ n, b ≤ n → n < b + k → sumv v (rows cap draws I n) = c) → tot cap draws I v (b + k) = tot cap draws I v b + k * c
  | 0, _ => by simp
  | k + 1, h => by
    rw [← Nat.add_assoc, tot, tot_add (k := k) fun n h1 h2 => h n h1 (by omega), h (b + k) (by omega) (by omega), Int.natCast_add, Int.add_mul]
    omega
def cntS (R : Nat) (s : Str) : Int := match s.count with
  | some k => if (k : Int) < (R : Int) - s.begin then k else (R : Int) - s.begin
  | none => (R : Int) - s.begin
def partS (cap : Int) (draws : List Int) (v : R4 → Int) (R : Nat) (s : Str) : Int := if s.begin < R then cntS R s * sumv v (s.play cap draws) else 0
theorem part_far {v : R4 → Int} {R : Nat} : ∀ {S : List Str}, (∀ s ∈ S, R ≤ s.begin) → (S.map (partS cap draws v R)).sum = 0
  | [], _ => rfl
  | x :: S, h => by
    rw [List.map_cons, List.sum_cons, part_far fun s hs => h s (by simp [hs])]
    unfold partS
    rw [if_neg (by have := h x (by simp); omega)]; rfl
theorem sum_chain {v : R4 → Int} (hv : OfP3 v) {R : Nat} : ∀ {S : List Str} {b : Nat}, Chain b S none → (∀ s ∈ S, Good cap draws I s) → b ≤ R → tot cap draws I v b + (S.map (partS cap draws v R)).sum = tot cap draws I v R
  | [], b, h, _, _ => by rw [Chain] at h; cases h
  | x :: S, b, h, hg, hb => by
    rw [Chain] at h
    obtain ⟨h1, h2⟩ := h
    have gx := hg x (by simp)
    have same : ∀ n, Within n x.begin x.count → sumv v (rows cap draws I n) = sumv v (x.play cap draws) := fun n hn => sumv_p3 hv (gx.same n hn)
    rw [List.map_cons, List.sum_cons]
    by_cases hR : b = R
    · subst hR
      have hz : partS cap draws v b x = 0 := by unfold partS; rw [if_neg (by omega)]
      cases ec : x.count with
      | none => rw [ec] at h2; rw [h2.1, hz]; simp
      | some k =>
        rw [ec] at h2
        rw [part_far fun s hs => by have := chain_le h2.2 s hs; omega, hz]; simp
    · have hlt : b < R := by omega
      cases ec : x.count with
      | none =>
        rw [ec] at h2 same
        rw [h2.1]
        have e := tot_add (cap := cap) (draws := draws) (I := I) (v := v) (c := sumv v (x.play cap draws)) (b := b) (k := R - b) fun n n1 n2 => same n ⟨by omega, fun k hk => by cases hk⟩
        rw [show b + (R - b) = R by omega] at e
        rw [e]
        unfold partS cntS
        rw [if_pos (by omega), ec, h1, show ((R - b : Nat) : Int) = (R : Int) - b by omega]
        simp
      | some k =>
        rw [ec] at h2 same
        by_cases hk : b + k ≤ R
        · have ih := sum_chain hv h2.2 (fun s hs => hg s (by simp [hs])) hk
          rw [← ih]
          have e := tot_add (cap := cap) (draws := draws) (I := I) (v := v) (c := sumv v (x.play cap draws)) (b := b) (k := k) fun n n1 n2 => same n ⟨by omega, fun k' hk' => by cases hk'; omega⟩
          rw [e]
          unfold partS cntS
          rw [if_pos (by omega), ec, h1]
          dsimp only
          by_cases q : (k : Int) < (R : Int) - b
          · rw [if_pos q]; omega
          · rw [if_neg q, show (R : Int) - b = k by omega]; omega
        · rw [part_far fun s hs => by have := chain_le h2.2 s hs; omega]
          have e := tot_add (cap := cap) (draws := draws) (I := I) (v := v) (c := sumv v (x.play cap draws)) (b := b) (k := R - b) fun n n1 n2 => same n ⟨by omega, fun k' hk' => by cases hk'; omega⟩
          rw [show b + (R - b) = R by omega] at e
          rw [e]
          unfold partS cntS
          rw [if_pos (by omega), ec, h1]
          dsimp only
          rw [if_neg (by omega), show ((R - b : Nat) : Int) = (R : Int) - b by omega]
          omega
/-! ### the last stretches are one -/
theorem chain_last {z : Str} : ∀ {S : List Str} {b : Nat}, Chain b (S ++ [z]) none → z.count = none
  | [], b, h => by
    rw [List.nil_append, Chain] at h
    cases e : z.count with
    | none => rfl
    | some k => rw [e] at h; obtain ⟨_, _, h⟩ := h; rw [Chain] at h; cases h
  | x :: S, b, h => by
    rw [List.cons_append, Chain] at h
    obtain ⟨_, h⟩ := h
    cases e : x.count with
    | none => rw [e] at h; simp at h
    | some k => rw [e] at h; exact chain_last h.2
theorem chain_join {a z : Str} : ∀ {S : List Str} {b : Nat}, Chain b (S ++ [a, z]) none → (∃ k, a.count = some k ∧ z.begin = a.begin + k) ∧ Chain b (S ++ [{ a with count := none }]) none
  | [], b, h => by
    rw [List.nil_append, Chain] at h
    obtain ⟨h1, h2⟩ := h
    cases e : a.count with
    | none => rw [e] at h2; cases h2.1
    | some k =>
      rw [e] at h2
      obtain ⟨_, h3⟩ := h2
      rw [Chain] at h3
      exact ⟨⟨k, rfl, by omega⟩, by rw [List.nil_append, Chain]; exact ⟨h1, rfl, rfl⟩⟩
  | x :: S, b, h => by
    rw [List.cons_append, Chain] at h
    obtain ⟨h1, h2⟩ := h
    cases e : x.count with
    | none => rw [e] at h2; simp at h2
    | some k =>
      rw [e] at h2
      have := chain_join h2.2
      exact ⟨this.1, by rw [List.cons_append, Chain, e]; exact ⟨h1, h2.1, this.2⟩⟩
theorem good_join {a z : Str} (ga : Good cap draws I a) (gz : Good cap draws I z) (hz : z.count = none) (hk : ∃ k, a.count = some k ∧ z.begin = a.begin + k) (h0 : a.step = 0) (hl : a.lev = z.lev) (hp : a.play cap draws = z.play cap draws) : Good cap draws I { a with count := none } := by
  obtain ⟨k, ek, eb⟩ := hk
  have st := gz.zero hz
  have z_at : ∀ n, z.begin ≤ n → rows cap draws I n = z.play cap draws ∧ Lv cap draws I n = z.lev := fun n hn => by
    have w : Within n z.begin z.count := ⟨hn, fun k hk => by rw [hz] at hk; cases hk⟩
    refine ⟨?_, ?_⟩
    · rw [← gz.at_ n w]; unfold Str.at Str.play; rw [st, Int.mul_zero, Int.add_zero]
    · rw [gz.lev n w, st, Int.mul_zero, Int.add_zero]
  have a_at : ∀ n, a.begin ≤ n → rows cap draws I n = a.play cap draws ∧ Lv cap draws I n = a.lev := fun n hn => by
    by_cases q : z.begin ≤ n
    · rw [(z_at n q).1, (z_at n q).2, hp, hl]; exact ⟨rfl, rfl⟩
    · have w : Within n a.begin a.count := ⟨hn, fun k' hk' => by rw [ek] at hk'; cases hk'; omega⟩
      refine ⟨?_, ?_⟩
      · rw [← ga.at_ n w]; unfold Str.at Str.play; rw [h0, Int.mul_zero, Int.add_zero]
      · rw [ga.lev n w, h0, Int.mul_zero, Int.add_zero]
  refine ⟨fun n hn => ?_, fun n hn => ?_, ga.len, fun n hn => ?_, fun _ => h0, ga.sb, fun n hn => ?_⟩
  · rw [(a_at n hn.1).1]; unfold Str.at Str.play; dsimp only; rw [h0, Int.mul_zero, Int.add_zero]
  · rw [(a_at n hn.1).1]; rfl
  · rw [(a_at n hn.1).2]; dsimp only; rw [h0, Int.mul_zero, Int.add_zero]
  · have h1 : a.begin ≤ n := hn.1
    rw [(a_at n h1).2, (a_at (n + 1) (Nat.le_succ_of_le h1)).2]; dsimp only; rw [h0, Int.add_zero]
end
end Fl

set_option Elab.async false
set_option linter.all false
set_option maxRecDepth 100000
set_option maxHeartbeats 2000000
namespace K10
open PySem PySem.Spec PyProof.Rows L2
open Ab hiding sWhile mVar mC mBin mTest mChain tAndM tOrM tNotM mAnd mOr mNot mIf aNil aCons mTup mLst mApp mCut oNone oSome sNext sSeq sSet sRet sDrop sIf sAug sBreak sCont gSet gsNil gsCons gTupM sAsg sPar sFor iRange1 iRange2 mFld sFldM sFldAugM mMeth mProp vMake iEnumM iZipM iSeqM iStrM mYes mLc mBM gSubL mIsi sRaise sRaise0 aStar mOp mLen mDget gSubD mDisp mItems mDc gFld mOutcome mBad sBad mNeg mCall mGetO mOpT mIsiO gTupS iKeysM iValsM mDisp0
open Se
noncomputable def m_law_start : MS := sSeq (sSet 1 (mC (.int 1))) (sSeq (sFor (iSeqM (mVar 0)) (gSet 2) (sSet 1 (mBin vMod (mBin vAdd (mBin vAdd (mBin vMul (mVar 1) (mC (.int 48271))) (mVar 2)) (mC (.int 7))) (mC (.int 2147483647))))) (sRet (mLst (aCons (mVar 0) (aCons (mC (.int 0)) (aCons (mVar 1) (aCons (mC (.int 0)) (aNil))))))))
noncomputable def f_law_start : MF := defM 1 2 m_law_start
noncomputable def m_law_drawn : MS := sSeq (sIf (mTest (mBin vGt (mBin vIx (mVar 0) (mC (.int 3))) (mC (.int 0)))) (sSeq (sSet 2 (mBin vMod (mBin vIx (mVar 0) (mC (.int 3))) (mVar 1))) (sSeq (sAsg (mBin vDiv (mBin vIx (mVar 0) (mC (.int 3))) (mVar 1)) (gSubL (mVar 0) (mC (.int 3)))) (sRet (mVar 2)))) (sNext)) (sSeq (sAsg (mBin vAdd (mBin vIx (mVar 0) (mC (.int 1))) (mC (.int 1))) (gSubL (mVar 0) (mC (.int 1)))) (sSeq (sIf (mTest (mBin vLe (mBin vIx (mVar 0) (mC (.int 1))) (mApp bLen (aCons (mBin vIx (mVar 0) (mC (.int 0))) (aNil))))) (sSeq (sSet 3 (mBin vIx (mBin vIx (mVar 0) (mC (.int 0))) (mBin vSub (mBin vIx (mVar 0) (mC (.int 1))) (mC (.int 1))))) (sSeq (sAsg (mIf (mTest (mBin vGe (mVar 3) (mBin vPow (mC (.int 10)) (mC (.int 18))))) (mBin vDiv (mVar 3) (mVar 1)) (mC (.int 0))) (gSubL (mVar 0) (mC (.int 3)))) (sRet (mBin vMod (mVar 3) (mVar 1))))) (sNext)) (sSeq (sAsg (mBin vMod (mBin vAdd (mBin vMul (mBin vIx (mVar 0) (mC (.int 2))) (mC (.int 48271))) (mC (.int 11))) (mC (.int 2147483647))) (gSubL (mVar 0) (mC (.int 2)))) (sRet (mBin vMod (mBin vDiv (mBin vIx (mVar 0) (mC (.int 2))) (mC (.int 7))) (mVar 1))))))
noncomputable def f_law_drawn : MF := defM 2 2 m_law_drawn
noncomputable def m_law_plan : MS := sSeq (sSet 3 (mBin vAdd (mC (.int 1)) (mApp f_law_drawn (aCons (mVar 0) (aCons (mC (.int 4)) (aNil)))))) (sSeq (sSet 4 (mApp bTuple (aCons (mLc (iRange1 (aCons (mVar 3) (aNil))) (gSet 5) (mYes) (mBin vMul (mApp f_law_drawn (aCons (mVar 0) (aCons (mBin vAdd (mVar 2) (mC (.int 1))) (aNil)))) (mApp bIntB (aCons (mBin vGt (mApp f_law_drawn (aCons (mVar 0) (aCons (mC (.int 3)) (aNil)))) (mC (.int 0))) (aNil)))) [5]) (aNil)))) (sSeq (sSet 6 (mLst (aNil))) (sSeq (sFor (iRange1 (aCons (mBin vAdd (mC (.int 1)) (mApp f_law_drawn (aCons (mVar 0) (aCons (mVar 1) (aNil))))) (aNil))) (gSet 5) (sSeq (sSet 7 (mApp bTuple (aCons (mLc (iRange1 (aCons (mVar 3) (aNil))) (gSet 8) (mYes) (mBin vMul (mApp f_law_drawn (aCons (mVar 0) (aCons (mBin vAdd (mVar 2) (mC (.int 1))) (aNil)))) (mApp f_law_drawn (aCons (mVar 0) (aCons (mC (.int 2)) (aNil))))) [8]) (aNil)))) (sSeq (sSet 9 (mApp f_law_drawn (aCons (mVar 0) (aCons (mBin vIx (mLst (aCons (mBin vAdd (mBin vMul (mC (.int 2)) (mVar 2)) (mC (.int 1))) (aCons (mBin vAdd (mBin vMul (mC (.int 9)) (mVar 2)) (mC (.int 1))) (aNil)))) (mApp f_law_drawn (aCons (mVar 0) (aCons (mC (.int 2)) (aNil))))) (aNil))))) (sDrop (mBM "list" vAppend (mVar 6) (aCons (mTup (aCons (mBin vIx (mLst (aCons (mC (.str "top")) (aCons (mC (.str "b")) (aCons (mC (.str "c")) (aCons (mC (.str "dd")) (aCons (mC (.str "end")) (aNil))))))) (mVar 5)) (aCons (mVar 9) (aCons (mBin vIx (mLst (aCons (mC (.int 1)) (aCons (mC (.int 1)) (aCons (mC (.int 0)) (aCons (mC (.int 2)) (aNil)))))) (mApp f_law_drawn (aCons (mVar 0) (aCons (mC (.int 4)) (aNil))))) (aCons (mVar 7) (aNil)))))) aNil)))))) (sRet (mTup (aCons (mVar 4) (aCons (mVar 6) (aNil))))))))
noncomputable def f_law_plan : MF := defM 3 7 m_law_plan
noncomputable def m_is_name : MS := sRet (mAnd (mChain vLe vLe (mC (.int 1)) (mApp bLen (aCons (mVar 0) (aNil))) (mC (.int 8))) (mApp bAll (aCons (mLc (iStrM (mVar 0)) (gSet 1) (mYes) (mBin vIn (mVar 1) (mC (.str "abcdefghijklmnopqrstuvwxyz"))) [1]) (aNil))))
noncomputable def f_is_name : MF := defM 1 1 m_is_name
noncomputable def m_is_barrel : MS := sSeq (sAsg (mVar 0) (gTupM 4 (gsCons (gSet 2) (gsCons (gSet 3) (gsCons (gSet 4) (gsCons (gSet 5) (gsNil))))))) (sSeq (sIf (tOrM (tNotM (mTest (mApp f_is_name (aCons (mVar 2) (aNil))))) (tOrM (tNotM (mTest (mChain vLe vLe (mC (.int 0)) (mVar 3) (mC (.int 1000000000))))) (tNotM (mTest (mChain vLe vLe (mC (.int 0)) (mVar 4) (mC (.int 100))))))) (sRet (mC (.bl false))) (sNext)) (sRet (mAnd (mBin vEq (mApp bLen (aCons (mVar 5) (aNil))) (mVar 1)) (mApp bAll (aCons (mLc (iSeqM (mVar 5)) (gSet 6) (mYes) (mChain vLe vLe (mC (.int 0)) (mVar 6) (mC (.int 1000000000))) [6]) (aNil))))))
noncomputable def f_is_barrel : MF := defM 2 5 m_is_barrel
noncomputable def m_Row_init : MS := sSeq (sFor (iEnumM (mVar 1)) (gTupM 2 (gsCons (gSet 3) (gsCons (gSet 4) (gsNil)))) (sIf (tOrM (mTest (mBin vEq (mVar 3) (mC (.int 12)))) (tNotM (mTest (mChain vLe vLe (mC (.int 0)) (mVar 4) (mC (.int 1000000)))))) (sRaise 1 [24, 25] (aCons (mC (.str "rain")) (aCons (mVar 3) (aNil)))) (sNext))) (sSeq (sIf (mTest (mBin vEq (mVar 1) (mTup (aNil)))) (sRaise 1 [24, 25] (aCons (mC (.str "rain")) (aCons (mNeg (mC (.int 1))) (aNil)))) (sNext)) (sSeq (sFor (iEnumM (mVar 2)) (gTupM 2 (gsCons (gSet 3) (gsCons (gSet 5) (gsNil)))) (sSeq (sSet 6 (mLc (iSeqM (mCut (mVar 2) oNone (oSome (mVar 3)))) (gSet 7) (mYes) (mBin vIx (mVar 7) (mC (.int 0))) [7])) (sIf (tOrM (mTest (mBin vEq (mVar 3) (mC (.int 5)))) (tOrM (tNotM (mTest (mApp f_is_barrel (aCons (mVar 5) (aCons (mApp bLen (aCons (mVar 1) (aNil))) (aNil)))))) (mTest (mBin vIn (mBin vIx (mVar 5) (mC (.int 0))) (mVar 6))))) (sRaise 1 [24, 25] (aCons (mC (.str "barrels")) (aCons (mVar 3) (aNil)))) (sNext)))) (sSeq (sIf (mTest (mBin vEq (mVar 2) (mTup (aNil)))) (sRaise 1 [24, 25] (aCons (mC (.str "barrels")) (aCons (mNeg (mC (.int 1))) (aNil)))) (sNext)) (sSeq (sFldM [13] 29 (mVar 0) (mVar 1)) (sFldM [13] 30 (mVar 0) (mVar 2))))))
noncomputable def f_Row_init : MF := defStarM 2 5 m_Row_init
noncomputable def m_Row_add : MS := sSeq (sIf (mTest (mBin vNe (mFld [13] 29 (mVar 0)) (mFld [13] 29 (mVar 1)))) (sRaise0 3) (sNext)) (sSeq (sSet 2 (mBin vAdd (mFld [13] 30 (mVar 0)) (mFld [13] 30 (mVar 1)))) (sRet (mApp (vMake 13 f_Row_init) (aCons (mFld [13] 29 (mVar 0)) (aStar (mVar 2) (aNil))))))
noncomputable def f_Row_add : MF := defM 2 1 m_Row_add
noncomputable def m_law_row : MS := sSeq (sSet 2 (mApp (vMake 13 f_Row_init) (aCons (mVar 0) (aCons (mBin vIx (mVar 1) (mC (.int 0))) (aNil))))) (sSeq (sFor (iSeqM (mCut (mVar 1) (oSome (mC (.int 1))) oNone)) (gSet 3) (sSet 2 (mOp 13 f_Row_add (mVar 2) (mApp (vMake 13 f_Row_init) (aCons (mVar 0) (aCons (mVar 3) (aNil))))))) (sRet (mVar 2)))
noncomputable def f_law_row : MF := defM 2 2 m_law_row
noncomputable def m_Row_names : MS := sRet (mApp bTuple (aCons (mLc (iSeqM (mFld [13] 30 (mVar 0))) (gSet 1) (mYes) (mBin vIx (mVar 1) (mC (.int 0))) [1]) (aNil)))
noncomputable def f_Row_names : MF := defM 1 1 m_Row_names
noncomputable def m_validate_number : MS := sIf (tNotM (mTest (mChain vLe vLe (mVar 1) (mVar 0) (mVar 2)))) (sRaise0 4) (sNext)
noncomputable def f_validate_number : MF := defM 3 0 m_validate_number
noncomputable def m_Row_rain : MS := sRet (mFld [13] 29 (mVar 0))
noncomputable def f_Row_rain : MF := defM 1 0 m_Row_rain
noncomputable def m_split_ticks : MS := sSeq (sSet 2 (mApp bLen (aCons (mProp [(13, f_Row_rain)] (mVar 0)) (aNil)))) (sRet (mTup (aCons (mBin vDiv (mVar 1) (mVar 2)) (aCons (mBin vMod (mApp bIntB (aCons (mVar 1) (aNil))) (mVar 2)) (aNil)))))
noncomputable def f_split_ticks : MF := defM 2 1 m_split_ticks
noncomputable def m_Row_barrels : MS := sRet (mFld [13] 30 (mVar 0))
noncomputable def f_Row_barrels : MF := defM 1 0 m_Row_barrels
noncomputable def m_Flow_play_round : MS := sSeq (sSet 3 (mLst (aNil))) (sSeq (sFor (iZipM (mVar 2) (mFld [12] 37 (mVar 0))) (gTupM 2 (gsCons (gSet 4) (gsCons (gSet 5) (gsNil)))) (sSeq (sSet 6 (mBin vAdd (mVar 1) (mVar 4))) (sSeq (sSet 7 (mApp bMax2 (aCons (mC (.int 0)) (aCons (mBin vSub (mVar 6) (mFld [12] 36 (mVar 0))) (aNil))))) (sSeq (sSet 8 (mApp bMin2 (aCons (mVar 5) (aCons (mBin vSub (mVar 6) (mVar 7)) (aNil))))) (sSeq (sSet 1 (mBin vSub (mBin vSub (mVar 6) (mVar 7)) (mVar 8))) (sDrop (mBM "list" vAppend (mVar 3) (aCons (mTup (aCons (mVar 1) (aCons (mVar 8) (aCons (mBin vSub (mVar 5) (mVar 8)) (aCons (mVar 7) (aNil)))))) aNil)))))))) (sRet (mVar 3)))
noncomputable def f_Flow_play_round : MF := defM 3 6 m_Flow_play_round
noncomputable def m_Flow_alike : MS := sSeq (sAsg (mTup (aCons (mC (.int 0)) (aCons (mC (.int 0)) (aCons (mC (.int 0)) (aNil))))) (gTupM 3 (gsCons (gSet 4) (gsCons (gSet 5) (gsCons (gSet 6) (gsNil)))))) (sSeq (sFor (iZipM (mVar 2) (mFld [12] 37 (mVar 0))) (gTupM 2 (gsCons (gSet 7) (gsCons (gSet 8) (gsNil)))) (sSeq (sSet 4 (mApp bMax2 (aCons (mVar 4) (aCons (mBin vAdd (mVar 6) (mVar 7)) (aNil))))) (sSeq (sAug 6 vIAdd (mBin vSub (mVar 7) (mVar 8))) (sSet 5 (mApp bMin2 (aCons (mVar 5) (aCons (mVar 6) (aNil)))))))) (sSeq (sIf (mTest (mBin vGt (mVar 3) (mC (.int 0)))) (sRet (mBin vAdd (mBin vDiv (mBin vSub (mBin vSub (mFld [12] 36 (mVar 0)) (mVar 4)) (mVar 1)) (mVar 3)) (mC (.int 1)))) (sNext)) (sRet (mBin vAdd (mBin vDiv (mBin vAdd (mVar 1) (mVar 5)) (mBin vSub (mC (.int 0)) (mVar 3))) (mC (.int 1))))))
noncomputable def f_Flow_alike : MF := defM 4 5 m_Flow_alike
noncomputable def m_Stretch_init : MS := sSeq (sFldM [11] 31 (mVar 0) (mVar 1)) (sSeq (sFldM [11] 32 (mVar 0) (mVar 2)) (sSeq (sFldM [11] 33 (mVar 0) (mVar 3)) (sSeq (sFldM [11] 34 (mVar 0) (mVar 4)) (sFldM [11] 35 (mVar 0) (mVar 5)))))
noncomputable def f_Stretch_init : MF := defM 6 0 m_Stretch_init
noncomputable def m_Flow_extend : MS := sSeq (sSet 5 (mVar 2)) (sSeq (sWhile (tOrM (mTest (mBin vIsN (mVar 5) (mC .non))) (mTest (mBin vGt (mVar 5) (mC (.int 0))))) (sSeq (sSet 6 (mMeth [(12, f_Flow_play_round)] (mVar 0) (aCons (mVar 3) (aCons (mVar 4) (aNil))))) (sSeq (sSet 7 (mBin vSub (mBin vIx (mBin vIx (mVar 6) (mNeg (mC (.int 1)))) (mC (.int 0))) (mVar 3))) (sSeq (sIf (mTest (mBin vEq (mVar 7) (mC (.int 0)))) (sSet 8 (mVar 5)) (sIf (mTest (mApp bAny (aCons (mLc (iSeqM (mVar 6)) (gSet 9) (mYes) (mOr (mBin vGt (mBin vIx (mVar 9) (mC (.int 2))) (mC (.int 0))) (mBin vGt (mBin vIx (mVar 9) (mC (.int 3))) (mC (.int 0)))) [9]) (aNil)))) (sSet 8 (mC (.int 1))) (sSeq (sSet 8 (mMeth [(12, f_Flow_alike)] (mVar 0) (aCons (mVar 3) (aCons (mVar 4) (aCons (mVar 7) (aNil)))))) (sIf (tAndM (mTest (mBin vNotN (mVar 5) (mC .non))) (mTest (mBin vLt (mVar 5) (mVar 8)))) (sSet 8 (mVar 5)) (sNext))))) (sSeq (sDrop (mBM "list" vAppend (mFld [12] 38 (mVar 0)) (aCons (mApp (vMake 11 f_Stretch_init) (aCons (mVar 1) (aCons (mVar 8) (aCons (mVar 3) (aCons (mVar 7) (aCons (mVar 4) (aNil))))))) aNil))) (sSeq (sIf (mTest (mBin vIsN (mVar 8) (mC .non))) (sRet (mTup (aCons (mC .non) (aCons (mVar 3) (aNil))))) (sNext)) (sSeq (sPar 1 3 (aCons (mBin vAdd (mVar 1) (mVar 8)) (aCons (mBin vAdd (mVar 3) (mBin vMul (mVar 8) (mVar 7))) (aNil)))) (sIf (mTest (mBin vNotN (mVar 5) (mC .non))) (sAug 5 vISub (mVar 8)) (sNext))))))))) (sRet (mTup (aCons (mVar 1) (aCons (mVar 3) (aNil))))))
noncomputable def f_Flow_extend : MF := defM 5 5 m_Flow_extend
noncomputable def m_Flow_play : MS := sRet (mMeth [(12, f_Flow_play_round)] (mVar 0) (aCons (mFld [11] 33 (mVar 1)) (aCons (mFld [11] 35 (mVar 1)) (aNil))))
noncomputable def f_Flow_play : MF := defM 2 0 m_Flow_play
noncomputable def m_Flow_is_like_last : MS := sSeq (sSet 2 (mBin vIx (mFld [12] 38 (mVar 0)) (mNeg (mC (.int 1))))) (sRet (mAnd (mBin vEq (mFld [11] 34 (mVar 1)) (mC (.int 0))) (mAnd (mBin vEq (mFld [11] 33 (mVar 1)) (mFld [11] 33 (mVar 2))) (mBin vEq (mMeth [(12, f_Flow_play)] (mVar 0) (aCons (mVar 1) (aNil))) (mMeth [(12, f_Flow_play)] (mVar 0) (aCons (mVar 2) (aNil)))))))
noncomputable def f_Flow_is_like_last : MF := defM 2 1 m_Flow_is_like_last
noncomputable def m_Flow_init : MS := sSeq (sFldM [12] 36 (mVar 0) (mVar 1)) (sSeq (sFldM [12] 37 (mVar 0) (mVar 3)) (sSeq (sFldM [12] 38 (mVar 0) (mLst (aNil))) (sSeq (sAsg (mTup (aCons (mC (.int 0)) (aCons (mC (.int 0)) (aNil)))) (gTupM 2 (gsCons (gSet 5) (gsCons (gSet 6) (gsNil))))) (sSeq (sFor (iSeqM (mVar 4)) (gTupM 2 (gsCons (gSet 7) (gsCons (gSet 8) (gsNil)))) (sSeq (sSet 9 (mApp bTuple (aCons (mLc (iZipM (mVar 2) (mVar 8)) (gTupM 2 (gsCons (gSet 10) (gsCons (gSet 11) (gsNil)))) (mYes) (mBin vAdd (mVar 10) (mVar 11)) [10, 11]) (aNil)))) (sAsg (mMeth [(12, f_Flow_extend)] (mVar 0) (aCons (mVar 5) (aCons (mVar 7) (aCons (mVar 6) (aCons (mVar 9) (aNil)))))) (gTupM 2 (gsCons (gSet 5) (gsCons (gSet 6) (gsNil))))))) (sSeq (sFldM [12] 39 (mVar 0) (mFld [11] 31 (mBin vIx (mFld [12] 38 (mVar 0)) (mNeg (mC (.int 1)))))) (sWhile (tAndM (mTest (mBin vGt (mApp bLen (aCons (mFld [12] 38 (mVar 0)) (aNil))) (mC (.int 1)))) (mTest (mMeth [(12, f_Flow_is_like_last)] (mVar 0) (aCons (mBin vIx (mFld [12] 38 (mVar 0)) (mNeg (mC (.int 2)))) (aNil))))) (sSeq (sFldM [12] 39 (mVar 0) (mFld [11] 31 (mBin vIx (mFld [12] 38 (mVar 0)) (mNeg (mC (.int 2)))))) (sSeq (sFldM [11] 32 (mBin vIx (mFld [12] 38 (mVar 0)) (mNeg (mC (.int 2)))) (mC .non)) (sDrop (mBM "list" vPop (mFld [12] 38 (mVar 0)) aNil))))))))))
noncomputable def f_Flow_init : MF := defM 5 7 m_Flow_init
noncomputable def m_Flow_outflow : MS := sRet (mLc (iSeqM (mFld [12] 38 (mVar 0))) (gSet 2) (mYes) (mTup (aCons (mFld [11] 32 (mVar 2)) (aCons (mApp bTuple (aCons (mLc (iSeqM (mMeth [(12, f_Flow_play)] (mVar 0) (aCons (mVar 2) (aNil)))) (gSet 1) (mYes) (mBin vIx (mVar 1) (mC (.int 3))) [1]) (aNil))) (aNil)))) [2])
noncomputable def f_Flow_outflow : MF := defM 1 2 m_Flow_outflow
noncomputable def m_flows_of : MS := sSeq (sPar 1 2 (aCons (mLst (aNil)) (aCons (mLst (aCons (mTup (aCons (mC .non) (aCons (mBin vRepT (mTup (aCons (mC (.int 0)) (aNil))) (mApp bLen (aCons (mProp [(13, f_Row_rain)] (mVar 0)) (aNil)))) (aNil)))) (aNil))) (aNil)))) (sSeq (sFor (iSeqM (mProp [(13, f_Row_barrels)] (mVar 0))) (gTupM 4 (gsCons (gSet 3) (gsCons (gSet 4) (gsCons (gSet 5) (gsCons (gSet 6) (gsNil)))))) (sSeq (sSet 7 (mApp (vMake 12 f_Flow_init) (aCons (mVar 4) (aCons (mApp bTuple (aCons (mLc (iSeqM (mProp [(13, f_Row_rain)] (mVar 0))) (gSet 8) (mYes) (mBin vMul (mVar 5) (mVar 8)) [8]) (aNil))) (aCons (mVar 6) (aCons (mVar 2) (aNil))))))) (sSeq (sDrop (mBM "list" vAppend (mVar 1) (aCons (mVar 7) aNil))) (sSet 2 (mMeth [(12, f_Flow_outflow)] (mVar 7) aNil))))) (sRet (mVar 1)))
noncomputable def f_flows_of : MF := defM 1 8 m_flows_of
noncomputable def m_Flow_stretch_at : MS := sSeq (sSet 2 (mBin vIx (mFld [12] 38 (mVar 0)) (mC (.int 0)))) (sSeq (sFor (iSeqM (mFld [12] 38 (mVar 0))) (gSet 3) (sIf (mTest (mBin vLe (mFld [11] 31 (mVar 3)) (mVar 1))) (sSet 2 (mVar 3)) (sNext))) (sRet (mVar 2)))
noncomputable def f_Flow_stretch_at : MF := defM 2 2 m_Flow_stretch_at
noncomputable def m_Flow_rows_of : MS := sSeq (sSet 2 (mMeth [(12, f_Flow_stretch_at)] (mVar 0) (aCons (mVar 1) (aNil)))) (sRet (mMeth [(12, f_Flow_play_round)] (mVar 0) (aCons (mBin vAdd (mFld [11] 33 (mVar 2)) (mBin vMul (mBin vSub (mVar 1) (mFld [11] 31 (mVar 2))) (mFld [11] 34 (mVar 2)))) (aCons (mFld [11] 35 (mVar 2)) (aNil)))))
noncomputable def f_Flow_rows_of : MF := defM 2 1 m_Flow_rows_of
noncomputable def m_sums_of : MS := sRet (mApp bTuple (aCons (mLc (iSeqM (mTup (aCons (mC (.int 1)) (aCons (mC (.int 2)) (aCons (mC (.int 3)) (aNil)))))) (gSet 3) (mYes) (mBin vMul (mVar 1) (mApp bSum (aCons (mLc (iSeqM (mVar 0)) (gSet 2) (mYes) (mBin vIx (mVar 2) (mVar 3)) [2]) (aNil)))) [3]) (aNil)))
noncomputable def f_sums_of : MF := defM 2 2 m_sums_of
noncomputable def m_Flow_sums : MS := sSeq (sSet 3 (mApp f_sums_of (aCons (mCut (mMeth [(12, f_Flow_rows_of)] (mVar 0) (aCons (mVar 1) (aNil))) oNone (oSome (mVar 2))) (aCons (mC (.int 1)) (aNil))))) (sSeq (sFor (iSeqM (mFld [12] 38 (mVar 0))) (gSet 4) (sIf (mTest (mBin vLt (mFld [11] 31 (mVar 4)) (mVar 1))) (sSeq (sSet 5 (mBin vSub (mVar 1) (mFld [11] 31 (mVar 4)))) (sSeq (sIf (tAndM (mTest (mBin vNotN (mFld [11] 32 (mVar 4)) (mC .non))) (mTest (mBin vLt (mFld [11] 32 (mVar 4)) (mVar 5)))) (sSet 5 (mFld [11] 32 (mVar 4))) (sNext)) (sSet 3 (mApp bTuple (aCons (mLc (iZipM (mVar 3) (mApp f_sums_of (aCons (mMeth [(12, f_Flow_play)] (mVar 0) (aCons (mVar 4) (aNil))) (aCons (mVar 5) (aNil))))) (gTupM 2 (gsCons (gSet 6) (gsCons (gSet 7) (gsNil)))) (mYes) (mBin vAdd (mVar 6) (mVar 7)) [6, 7]) (aNil)))))) (sNext))) (sRet (mVar 3)))
noncomputable def f_Flow_sums : MF := defM 3 5 m_Flow_sums
noncomputable def m_totals : MS := sSeq (sDrop (mApp f_validate_number (aCons (mVar 1) (aCons (mC (.int 0)) (aCons (mC (.int 1000000000000000000)) (aNil)))))) (sSeq (sAsg (mApp f_split_ticks (aCons (mVar 0) (aCons (mVar 1) (aNil)))) (gTupM 2 (gsCons (gSet 2) (gsCons (gSet 3) (gsNil))))) (sRet (mDc (iZipM (mProp [(13, f_Row_names)] (mVar 0)) (mApp f_flows_of (aCons (mVar 0) (aNil)))) (gTupM 2 (gsCons (gSet 4) (gsCons (gSet 5) (gsNil)))) (mYes) (mVar 4) (mMeth [(12, f_Flow_sums)] (mVar 5) (aCons (mVar 2) (aCons (mVar 3) (aNil)))) [4, 5])))
noncomputable def f_totals : MF := defM 2 4 m_totals
noncomputable def m_Flow_last_sums : MS := sRet (mApp f_sums_of (aCons (mMeth [(12, f_Flow_play)] (mVar 0) (aCons (mBin vIx (mFld [12] 38 (mVar 0)) (mNeg (mC (.int 1)))) (aNil))) (aCons (mC (.int 1)) (aNil))))
noncomputable def f_Flow_last_sums : MF := defM 1 0 m_Flow_last_sums
noncomputable def m_long_run : MS := sRet (mDc (iZipM (mProp [(13, f_Row_names)] (mVar 0)) (mApp f_flows_of (aCons (mVar 0) (aNil)))) (gTupM 2 (gsCons (gSet 1) (gsCons (gSet 2) (gsNil)))) (mYes) (mVar 1) (mMeth [(12, f_Flow_last_sums)] (mVar 2) aNil) [1, 2])
noncomputable def f_long_run : MF := defM 1 2 m_long_run
noncomputable def m_place_of : MS := sSeq (sFor (iEnumM (mProp [(13, f_Row_names)] (mVar 0))) (gTupM 2 (gsCons (gSet 2) (gsCons (gSet 3) (gsNil)))) (sIf (mTest (mBin vEq (mVar 3) (mVar 1))) (sRet (mVar 2)) (sNext))) (sRaise 2 [26] (aCons (mVar 1) (aNil)))
noncomputable def f_place_of : MF := defM 2 2 m_place_of
noncomputable def m_missed_from : MS := sSeq (sFor (iRange2 (aCons (mVar 1) (aCons (mApp bLen (aCons (mVar 0) (aNil))) (aNil)))) (gSet 2) (sIf (mTest (mBin vGt (mBin vIx (mBin vIx (mVar 0) (mVar 2)) (mC (.int 2))) (mC (.int 0)))) (sRet (mVar 2)) (sNext))) (sRet (mC .non))
noncomputable def f_missed_from : MF := defM 2 1 m_missed_from
noncomputable def m_Flow_next_missed : MS := sSeq (sSet 3 (mApp f_missed_from (aCons (mMeth [(12, f_Flow_rows_of)] (mVar 0) (aCons (mVar 1) (aNil))) (aCons (mVar 2) (aNil))))) (sSeq (sIf (mTest (mBin vNotN (mVar 3) (mC .non))) (sRet (mTup (aCons (mVar 1) (aCons (mVar 3) (aNil))))) (sNext)) (sSeq (sFor (iSeqM (mFld [12] 38 (mVar 0))) (gSet 4) (sSeq (sSet 5 (mApp bMax2 (aCons (mFld [11] 31 (mVar 4)) (aCons (mBin vAdd (mVar 1) (mC (.int 1))) (aNil))))) (sIf (tOrM (mTest (mBin vIsN (mFld [11] 32 (mVar 4)) (mC .non))) (mTest (mBin vLt (mVar 5) (mBin vAdd (mFld [11] 31 (mVar 4)) (mFld [11] 32 (mVar 4)))))) (sSeq (sSet 3 (mApp f_missed_from (aCons (mMeth [(12, f_Flow_rows_of)] (mVar 0) (aCons (mVar 5) (aNil))) (aCons (mC (.int 0)) (aNil))))) (sIf (mTest (mBin vNotN (mVar 3) (mC .non))) (sRet (mTup (aCons (mVar 5) (aCons (mVar 3) (aNil))))) (sNext))) (sNext)))) (sRet (mC .non))))
noncomputable def f_Flow_next_missed : MF := defM 3 3 m_Flow_next_missed
noncomputable def m_first_missed : MS := sSeq (sSet 3 (mApp f_place_of (aCons (mVar 0) (aCons (mVar 1) (aNil))))) (sSeq (sDrop (mApp f_validate_number (aCons (mVar 2) (aCons (mC (.int 0)) (aCons (mC (.int 1000000000000000000)) (aNil)))))) (sSeq (sPar 4 5 (aCons (mApp bLen (aCons (mProp [(13, f_Row_rain)] (mVar 0)) (aNil))) (aCons (mBin vIx (mApp f_flows_of (aCons (mVar 0) (aNil))) (mVar 3)) (aNil)))) (sSeq (sSet 6 (mMeth [(12, f_Flow_next_missed)] (mVar 5) (aCons (mBin vDiv (mVar 2) (mVar 4)) (aCons (mBin vMod (mApp bIntB (aCons (mVar 2) (aNil))) (mVar 4)) (aNil))))) (sRet (mIf (mTest (mBin vIsN (mVar 6) (mC .non))) (mC .non) (mBin vAdd (mBin vMul (mBin vIx (mVar 6) (mC (.int 0))) (mVar 4)) (mBin vIx (mVar 6) (mC (.int 1)))))))))
noncomputable def f_first_missed : MF := defM 3 4 m_first_missed
noncomputable def m_settled_round : MS := sRet (mApp bMax1 (aCons (mLc (iSeqM (mApp f_flows_of (aCons (mVar 0) (aNil)))) (gSet 1) (mYes) (mFld [12] 39 (mVar 1)) [1]) (aNil)))
noncomputable def f_settled_round : MF := defM 1 1 m_settled_round
noncomputable def m_lost : MS := sSeq (sDrop (mApp f_validate_number (aCons (mVar 1) (aCons (mC (.int 0)) (aCons (mC (.int 1000000000000000000)) (aNil)))))) (sSeq (sAsg (mApp f_split_ticks (aCons (mVar 0) (aCons (mVar 1) (aNil)))) (gTupM 2 (gsCons (gSet 2) (gsCons (gSet 3) (gsNil))))) (sRet (mBin vIx (mMeth [(12, f_Flow_sums)] (mBin vIx (mApp f_flows_of (aCons (mVar 0) (aNil))) (mNeg (mC (.int 1)))) (aCons (mVar 2) (aCons (mVar 3) (aNil)))) (mC (.int 2)))))
noncomputable def f_lost : MF := defM 2 2 m_lost
noncomputable def m_Row_len : MS := sRet (mApp bLen (aCons (mFld [13] 30 (mVar 0)) (aNil)))
noncomputable def f_Row_len : MF := defM 1 0 m_Row_len
noncomputable def m_Row_sub : MS := sSeq (sIf (mTest (mBin vNotIn (mVar 1) (mProp [(13, f_Row_names)] (mVar 0)))) (sRaise 2 [26] (aCons (mVar 1) (aNil))) (sNext)) (sSeq (sSet 2 (mLc (iSeqM (mFld [13] 30 (mVar 0))) (gSet 3) (mTest (mBin vNe (mBin vIx (mVar 3) (mC (.int 0))) (mVar 1))) (mVar 3) [3])) (sRet (mApp (vMake 13 f_Row_init) (aCons (mFld [13] 29 (mVar 0)) (aStar (mVar 2) (aNil))))))
noncomputable def f_Row_sub : MF := defM 2 2 m_Row_sub
noncomputable def m_change_without : MS := sSeq (sDrop (mApp f_place_of (aCons (mVar 0) (aCons (mVar 1) (aNil))))) (sSeq (sIf (mTest (mBin vEq (mLen 13 f_Row_len (mVar 0)) (mC (.int 1)))) (sRet (mDisp0)) (sNext)) (sSeq (sAsg (mTup (aCons (mApp f_long_run (aCons (mVar 0) (aNil))) (aCons (mApp f_long_run (aCons (mOpT 13 f_Row_sub (mVar 0) (mVar 1)) (aNil))) (aNil)))) (gTupM 2 (gsCons (gSet 2) (gsCons (gSet 3) (gsNil))))) (sRet (mDc (iKeysM (mVar 3)) (gSet 4) (mTest (mBin vNe (mBin vIx (mDget (mVar 2) (mVar 4)) (mC (.int 0))) (mBin vIx (mDget (mVar 3) (mVar 4)) (mC (.int 0))))) (mVar 4) (mTup (aCons (mBin vIx (mDget (mVar 2) (mVar 4)) (mC (.int 0))) (aCons (mBin vIx (mDget (mVar 3) (mVar 4)) (mC (.int 0))) (aNil)))) [4]))))
noncomputable def f_change_without : MF := defM 2 3 m_change_without
noncomputable def m_lost_per_round : MS := sRet (mBin vIx (mDget (mApp f_long_run (aCons (mVar 0) (aNil))) (mBin vIx (mProp [(13, f_Row_names)] (mVar 0)) (mNeg (mC (.int 1))))) (mC (.int 2)))
noncomputable def f_lost_per_round : MF := defM 1 0 m_lost_per_round
noncomputable def m_held_back : MS := sSeq (sDrop (mApp f_place_of (aCons (mVar 0) (aCons (mVar 1) (aNil))))) (sSeq (sIf (mTest (mBin vEq (mLen 13 f_Row_len (mVar 0)) (mC (.int 1)))) (sRet (mBin vSub (mC (.int 0)) (mApp f_lost_per_round (aCons (mVar 0) (aNil))))) (sNext)) (sRet (mBin vSub (mApp f_lost_per_round (aCons (mOpT 13 f_Row_sub (mVar 0) (mVar 1)) (aNil))) (mApp f_lost_per_round (aCons (mVar 0) (aNil))))))
noncomputable def f_held_back : MF := defM 2 0 m_held_back
noncomputable def m_Flow_level : MS := sRet (mBin vIx (mBin vIx (mMeth [(12, f_Flow_rows_of)] (mVar 0) (aCons (mVar 1) (aNil))) (mVar 2)) (mC (.int 0)))
noncomputable def f_Flow_level : MF := defM 3 0 m_Flow_level
noncomputable def m_Row_call : MS := sSeq (sSet 3 (mApp f_place_of (aCons (mVar 0) (aCons (mVar 1) (aNil))))) (sSeq (sDrop (mApp f_validate_number (aCons (mVar 2) (aCons (mC (.int 0)) (aCons (mC (.int 1000000000000000000)) (aNil)))))) (sSeq (sSet 4 (mApp bLen (aCons (mFld [13] 29 (mVar 0)) (aNil)))) (sRet (mMeth [(12, f_Flow_level)] (mBin vIx (mApp f_flows_of (aCons (mVar 0) (aNil))) (mVar 3)) (aCons (mBin vDiv (mVar 2) (mVar 4)) (aCons (mBin vMod (mApp bIntB (aCons (mVar 2) (aNil))) (mVar 4)) (aNil)))))))
noncomputable def f_Row_call : MF := defM 3 2 m_Row_call
noncomputable def m_Row_with_rain : MS := sSeq (sDrop (mApp f_validate_number (aCons (mVar 1) (aCons (mC (.int 0)) (aCons (mBin vSub (mApp bLen (aCons (mFld [13] 29 (mVar 0)) (aNil))) (mC (.int 1))) (aNil)))))) (sSeq (sSet 3 (mBin vAdd (mBin vAdd (mCut (mFld [13] 29 (mVar 0)) oNone (oSome (mVar 1))) (mTup (aCons (mVar 2) (aNil)))) (mCut (mFld [13] 29 (mVar 0)) (oSome (mBin vAdd (mVar 1) (mC (.int 1)))) oNone))) (sRet (mApp (vMake 13 f_Row_init) (aCons (mVar 3) (aStar (mFld [13] 30 (mVar 0)) (aNil))))))
noncomputable def f_Row_with_rain : MF := defM 3 1 m_Row_with_rain
noncomputable def m_Row_with_capacity : MS := sSeq (sDrop (mApp f_place_of (aCons (mVar 0) (aCons (mVar 1) (aNil))))) (sSeq (sSet 3 (mLc (iSeqM (mFld [13] 30 (mVar 0))) (gTupS 2 (gsCons (gSet 4) (gsCons (gSet 5) (gsCons (gSet 6) (gsNil))))) (mYes) (mTup (aCons (mVar 4) (aCons (mIf (mTest (mBin vEq (mVar 4) (mVar 1))) (mVar 2) (mVar 5)) (aStar (mVar 6) (aNil))))) [4, 5, 6])) (sRet (mApp (vMake 13 f_Row_init) (aCons (mFld [13] 29 (mVar 0)) (aStar (mVar 3) (aNil))))))
noncomputable def f_Row_with_capacity : MF := defM 3 4 m_Row_with_capacity
noncomputable def m_least_capacity : MS := sSeq (sDrop (mApp f_place_of (aCons (mVar 0) (aCons (mVar 1) (aNil))))) (sSeq (sDrop (mApp f_validate_number (aCons (mVar 2) (aCons (mC (.int 0)) (aCons (mBin vPow (mC (.int 10)) (mC (.int 12))) (aNil)))))) (sSeq (sIf (mTest (mBin vGt (mBin vIx (mDget (mApp f_long_run (aCons (mMeth [(13, f_Row_with_capacity)] (mVar 0) (aCons (mVar 1) (aCons (mC (.int 1000000000)) (aNil)))) (aNil))) (mVar 1)) (mC (.int 1))) (mVar 2))) (sRet (mC .non)) (sNext)) (sSeq (sPar 3 4 (aCons (mC (.int 0)) (aCons (mC (.int 1000000000)) (aNil)))) (sSeq (sWhile (mTest (mBin vLt (mVar 3) (mVar 4))) (sSeq (sSet 5 (mBin vDiv (mBin vAdd (mVar 3) (mVar 4)) (mC (.int 2)))) (sIf (mTest (mBin vLe (mBin vIx (mDget (mApp f_long_run (aCons (mMeth [(13, f_Row_with_capacity)] (mVar 0) (aCons (mVar 1) (aCons (mVar 5) (aNil)))) (aNil))) (mVar 1)) (mC (.int 1))) (mVar 2))) (sSet 4 (mVar 5)) (sSet 3 (mBin vAdd (mVar 5) (mC (.int 1))))))) (sRet (mVar 3))))))
noncomputable def f_least_capacity : MF := defM 3 3 m_least_capacity
noncomputable def m_law_query : MS := sSeq (sSet 2 (mBin vIx (mProp [(13, f_Row_names)] (mVar 0)) (mC (.int 0)))) (sSeq (sIf (mTest (mBin vEq (mVar 1) (mC (.int 0)))) (sSeq (sSet 3 (mApp f_totals (aCons (mVar 0) (aCons (mBin vPow (mC (.int 10)) (mC (.int 9))) (aNil))))) (sSeq (sSet 4 (mItems (mVar 3))) (sSeq (sAsg (mC (.int 0)) (gSubD (mVar 3) (mVar 2))) (sRet (mVar 4))))) (sNext)) (sSeq (sIf (mTest (mBin vEq (mVar 1) (mC (.int 1)))) (sSeq (sSet 3 (mApp f_long_run (aCons (mVar 0) (aNil)))) (sSeq (sSet 4 (mItems (mVar 3))) (sSeq (sAsg (mC (.int 0)) (gSubD (mVar 3) (mC (.str "extra")))) (sRet (mVar 4))))) (sNext)) (sSeq (sIf (mTest (mBin vEq (mVar 1) (mC (.int 2)))) (sRet (mLst (aCons (mApp f_lost (aCons (mVar 0) (aCons (mBin vPow (mC (.int 10)) (mC (.int 12))) (aNil)))) (aCons (mApp f_settled_round (aCons (mVar 0) (aNil))) (aCons (mApp f_first_missed (aCons (mVar 0) (aCons (mVar 2) (aCons (mC (.int 5)) (aNil))))) (aNil)))))) (sNext)) (sSeq (sIf (mTest (mBin vEq (mVar 1) (mC (.int 3)))) (sSeq (sSet 3 (mApp f_change_without (aCons (mVar 0) (aCons (mVar 2) (aNil))))) (sSeq (sSet 4 (mItems (mVar 3))) (sSeq (sAsg (mC (.int 1)) (gSubD (mVar 3) (mC (.str "extra")))) (sRet (mBin vAdd (mVar 4) (mLst (aCons (mApp f_held_back (aCons (mVar 0) (aCons (mVar 2) (aNil)))) (aNil)))))))) (sNext)) (sRet (mLst (aCons (mApp f_least_capacity (aCons (mVar 0) (aCons (mVar 2) (aCons (mC (.int 2)) (aNil))))) (aCons (mCall 13 f_Row_call (mVar 0) (aCons (mVar 2) (aCons (mC (.int 77)) (aNil)))) (aCons (mCall 13 f_Row_call (mMeth [(13, f_Row_with_rain)] (mVar 0) (aCons (mC (.int 0)) (aCons (mC (.int 9)) (aNil)))) (aCons (mVar 2) (aCons (mC (.int 3)) (aNil)))) (aNil))))))))))
noncomputable def f_law_query : MF := defM 2 3 m_law_query
noncomputable def m_law_same (rec : MF) : MS := sSeq (sIf (mTest (mIsi [.tuple, .list] (mVar 1))) (sSeq (sIf (tOrM (tNotM (mTest (mIsi [.tuple, .list] (mVar 0)))) (mTest (mBin vNe (mIsi [.list] (mVar 0)) (mIsi [.list] (mVar 1))))) (sRet (mC (.bl false))) (sNext)) (sSeq (sIf (mTest (mBin vNe (mApp bLen (aCons (mVar 0) (aNil))) (mApp bLen (aCons (mVar 1) (aNil))))) (sRet (mC (.bl false))) (sNext)) (sRet (mBin vEq (mLc (iRange1 (aCons (mApp bLen (aCons (mVar 1) (aNil))) (aNil))) (gSet 2) (tNotM (mTest (mApp rec (aCons (mBin vIx (mVar 0) (mVar 2)) (aCons (mBin vIx (mVar 1) (mVar 2)) (aNil)))))) (mVar 2) [2]) (mLst (aNil)))))) (sNext)) (sSeq (sIf (mTest (mBin vNe (mIsi [.bool] (mVar 0)) (mIsi [.bool] (mVar 1)))) (sRet (mC (.bl false))) (sNext)) (sRet (mAnd (mBin vEq (mIsi [.int] (mVar 0)) (mIsi [.int] (mVar 1))) (mBin vEq (mVar 0) (mVar 1)))))
noncomputable def f_law_same : Nat → MF
  | 0 => defM 2 1 sBad
  | n + 1 => defM 2 1 (m_law_same (f_law_same n))
noncomputable def m_law : MS := sSeq (sSet 1 (mApp f_law_start (aCons (mVar 0) (aNil)))) (sSeq (sSet 2 (mLst (aNil))) (sSeq (sFor (iRange1 (aCons (mC (.int 2)) (aNil))) (gSet 3) (sSeq (sAsg (mApp f_law_plan (aCons (mVar 1) (aCons (mC (.int 4)) (aCons (mBin vIx (mLst (aCons (mC (.int 3)) (aCons (mC (.int 40)) (aNil)))) (mApp f_law_drawn (aCons (mVar 1) (aCons (mC (.int 2)) (aNil))))) (aNil))))) (gTupM 2 (gsCons (gSet 4) (gsCons (gSet 5) (gsNil))))) (sDrop (mBM "list" vAppend (mVar 2) (aCons (mApp f_law_row (aCons (mVar 4) (aCons (mVar 5) (aNil)))) aNil))))) (sSeq (sSet 6 (mLc (iSeqM (mVar 2)) (gSet 8) (mYes) (mLc (iRange1 (aCons (mC (.int 5)) (aNil))) (gSet 7) (mYes) (mApp bList (aCons (mApp f_law_query (aCons (mVar 8) (aCons (mVar 7) (aNil)))) (aNil))) [7]) [8])) (sSeq (sFor (iRange1 (aCons (mBin vAdd (mC (.int 4)) (mApp f_law_drawn (aCons (mVar 1) (aCons (mC (.int 12)) (aNil))))) (aNil))) (gSet 9) (sSeq (sPar 3 7 (aCons (mApp f_law_drawn (aCons (mVar 1) (aCons (mC (.int 2)) (aNil)))) (aCons (mApp f_law_drawn (aCons (mVar 1) (aCons (mC (.int 5)) (aNil)))) (aNil)))) (sSeq (sSet 10 (mApp f_law_query (aCons (mBin vIx (mVar 2) (mVar 3)) (aCons (mVar 7) (aNil))))) (sSeq (sIf (tNotM (mTest (mApp (f_law_same 5) (aCons (mVar 10) (aCons (mBin vIx (mBin vIx (mVar 6) (mVar 3)) (mVar 7)) (aNil)))))) (sRet (mC (.bl false))) (sNext)) (sSeq (sDrop (mBM "list" vAppend (mVar 10) (aCons (mC (.int 0)) aNil))) (sDrop (mBM "list" vReverse (mVar 10) aNil))))))) (sRet (mC (.bl true)))))))
end K10

set_option Elab.async false
set_option linter.all false
set_option maxRecDepth 100000
set_option maxHeartbeats 2000000
namespace K10
open PySem PySem.Spec PyProof.Rows L2 Ab
def top (i : Nat) : Stmt := PySem.Challenge.pw_barrelrow_k10_repeated_calls.main.body.getD i (.Pass ⟨0, 0, 0, 0⟩)
abbrev s_x_InvalidRow : Stmt := inClass (top 2) 0
abbrev s_x_UnknownBarrel : Stmt := inClass (top 3) 0
abbrev s_law_start : Stmt := top 36
abbrev s_law_drawn : Stmt := top 37
abbrev s_law_plan : Stmt := top 39
abbrev s_is_name : Stmt := top 19
abbrev s_is_barrel : Stmt := top 20
abbrev s_Row_init : Stmt := inClass (top 21) 2
abbrev s_Row_add : Stmt := inClass (top 21) 12
abbrev s_law_row : Stmt := top 40
abbrev s_Row_names : Stmt := inClass (top 21) 6
abbrev s_validate_number : Stmt := top 18
abbrev s_Row_rain : Stmt := inClass (top 21) 4
abbrev s_split_ticks : Stmt := top 24
abbrev s_Row_barrels : Stmt := inClass (top 21) 5
abbrev s_Flow_play_round : Stmt := inClass (top 8) 3
abbrev s_Flow_alike : Stmt := inClass (top 8) 5
abbrev s_Stretch_init : Stmt := inClass (top 7) 0
abbrev s_Flow_extend : Stmt := inClass (top 8) 4
abbrev s_Flow_play : Stmt := inClass (top 8) 2
abbrev s_Flow_is_like_last : Stmt := inClass (top 8) 1
abbrev s_Flow_init : Stmt := inClass (top 8) 0
abbrev s_Flow_outflow : Stmt := inClass (top 8) 6
abbrev s_flows_of : Stmt := top 23
abbrev s_Flow_stretch_at : Stmt := inClass (top 8) 7
abbrev s_Flow_rows_of : Stmt := inClass (top 8) 8
abbrev s_sums_of : Stmt := top 10
abbrev s_Flow_sums : Stmt := inClass (top 8) 10
abbrev s_totals : Stmt := top 25
abbrev s_Flow_last_sums : Stmt := inClass (top 8) 11
abbrev s_long_run : Stmt := top 28
abbrev s_place_of : Stmt := top 22
abbrev s_missed_from : Stmt := top 9
abbrev s_Flow_next_missed : Stmt := inClass (top 8) 12
abbrev s_first_missed : Stmt := top 29
abbrev s_settled_round : Stmt := top 27
abbrev s_lost : Stmt := top 26
abbrev s_Row_len : Stmt := inClass (top 21) 7
abbrev s_Row_sub : Stmt := inClass (top 21) 13
abbrev s_change_without : Stmt := top 33
abbrev s_lost_per_round : Stmt := top 31
abbrev s_held_back : Stmt := top 32
abbrev s_Flow_level : Stmt := inClass (top 8) 9
abbrev s_Row_call : Stmt := inClass (top 21) 14
abbrev s_Row_with_rain : Stmt := inClass (top 21) 16
abbrev s_Row_with_capacity : Stmt := inClass (top 21) 15
abbrev s_least_capacity : Stmt := top 34
abbrev s_law_query : Stmt := top 41
abbrev s_law_same : Stmt := top 38
abbrev s_law : Stmt := top 42
/-- what the top has written, as the walk asks it -/
structure Fx (T : Wh) : Prop where
  fn_law_start : ∃ f fd, T.mg "_law_start" = some (.ref f) ∧ Fun T.K "_law_start" "_law_start" s_law_start f fd ∧ Binds T.K fd ["_law_script"] []
  b_range : T.mg "range" = none
  b_len : T.mg "len" = none
  fn_law_drawn : ∃ f fd, T.mg "_law_drawn" = some (.ref f) ∧ Fun T.K "_law_drawn" "_law_drawn" s_law_drawn f fd ∧ Binds T.K fd ["_law_state", "_law_count"] []
  b_int : T.mg "int" = none
  b_tuple : T.mg "tuple" = none
  fn_law_plan : ∃ f fd, T.mg "_law_plan" = some (.ref f) ∧ Fun T.K "_law_plan" "_law_plan" s_law_plan f fd ∧ Binds T.K fd ["_law_state", "_law_most", "_law_high"] []
  b_enumerate : T.mg "enumerate" = none
  cc_Row_MAX_TICKS : ∃ Ca mc u, T.mg "Row" = some (.ref Ca) ∧ ClX.CRead T.K Ca mc ∧ ClX.CVal T.K Ca mc "MAX_TICKS" (.int 12) u
  g_MAX_RAIN : ∃ t, T.mg "MAX_RAIN" = some (.int 1000000 t)
  cc_Row_MAX_BARRELS : ∃ Ca mc u, T.mg "Row" = some (.ref Ca) ∧ ClX.CRead T.K Ca mc ∧ ClX.CVal T.K Ca mc "MAX_BARRELS" (.int 5) u
  g_MAX_LETTERS : ∃ t, T.mg "MAX_LETTERS" = some (.int 8 t)
  g_LETTERS : ∃ t, T.mg "LETTERS" = some (.str "abcdefghijklmnopqrstuvwxyz" t)
  b_all : T.mg "all" = none
  fn_is_name : ∃ f fd, T.mg "is_name" = some (.ref f) ∧ Fun T.K "is_name" "is_name" s_is_name f fd ∧ Binds T.K fd ["name"] []
  g_MAX_AMOUNT : ∃ t, T.mg "MAX_AMOUNT" = some (.int 1000000000 t)
  g_MAX_ROOF : ∃ t, T.mg "MAX_ROOF" = some (.int 100 t)
  fn_is_barrel : ∃ f fd, T.mg "is_barrel" = some (.ref f) ∧ Fun T.K "is_barrel" "is_barrel" s_is_barrel f fd ∧ Binds T.K fd ["barrel", "ticks"] []
  fo_Row_weather : FldOk T.K T.mg 13 29
  fo_Row_parts : FldOk T.K T.mg 13 30
  in_Row : ∃ Ca f fd, T.mg (nm 13) = some (.ref Ca) ∧ Mk T.K Ca f ∧ Fun T.K "__init__" "Row.__init__" s_Row_init f fd
  x0_OtherRain : Ex0 T 3
  me_Row_add : ∃ Ca f fd, T.mg (nm 13) = some (.ref Ca) ∧ Cls T.K Ca ∧ PySem.W.selfFirst T.K Ca = true ∧ PySem.W.findIn T.K (.ref Ca) (PySem.dunder Operator.Add.info.2) = some (some (.ref f)) ∧ PySem.W.isFn T.K (.ref f) = true ∧ Fun T.K "__add__" "Row.__add__" s_Row_add f fd ∧ Binds T.K fd ["self", "other"] []
  fn_law_row : ∃ f fd, T.mg "_law_row" = some (.ref f) ∧ Fun T.K "_law_row" "_law_row" s_law_row f fd ∧ Binds T.K fd ["_law_rain", "_law_barrels"] []
  me_Row_names : ∃ p f fd, (∀ Ca, T.mg (nm 13) = some (.ref Ca) → Cls T.K Ca ∧ PropOf T.K Ca "names" p f) ∧ Fun T.K "names" "Row.names" s_Row_names f fd ∧ Binds T.K fd ["self"] []
  cl_Row : ∃ Ca, T.mg (nm 13) = some (.ref Ca)
  g_MAX_TICK : ∃ t, T.mg "MAX_TICK" = some (.int 1000000000000000000 t)
  x0_InvalidNumber : Ex0 T 4
  fn_validate_number : ∃ f fd, T.mg "validate_number" = some (.ref f) ∧ Fun T.K "validate_number" "validate_number" s_validate_number f fd ∧ Binds T.K fd ["number", "smallest", "largest"] []
  me_Row_rain : ∃ p f fd, (∀ Ca, T.mg (nm 13) = some (.ref Ca) → Cls T.K Ca ∧ PropOf T.K Ca "rain" p f) ∧ Fun T.K "rain" "Row.rain" s_Row_rain f fd ∧ Binds T.K fd ["self"] []
  fn_split_ticks : ∃ f fd, T.mg "split_ticks" = some (.ref f) ∧ Fun T.K "split_ticks" "split_ticks" s_split_ticks f fd ∧ Binds T.K fd ["row", "ticks"] []
  me_Row_barrels : ∃ p f fd, (∀ Ca, T.mg (nm 13) = some (.ref Ca) → Cls T.K Ca ∧ PropOf T.K Ca "barrels" p f) ∧ Fun T.K "barrels" "Row.barrels" s_Row_barrels f fd ∧ Binds T.K fd ["self"] []
  fo_Flow_capacity : FldOk T.K T.mg 12 36
  fo_Flow_draws : FldOk T.K T.mg 12 37
  fo_Flow_stretches : FldOk T.K T.mg 12 38
  b_zip : T.mg "zip" = none
  b_max : T.mg "max" = none
  b_min : T.mg "min" = none
  me_Flow_play_round : ∃ f fd, (∀ Ca, T.mg (nm 12) = some (.ref Ca) → Cls T.K Ca ∧ Meth T.K Ca "play_round" f) ∧ Fun T.K "play_round" "Flow.play_round" s_Flow_play_round f fd ∧ Binds T.K fd ["self", "level", "inflow"] []
  cl_Flow : ∃ Ca, T.mg (nm 12) = some (.ref Ca)
  b_any : T.mg "any" = none
  me_Flow_alike : ∃ f fd, (∀ Ca, T.mg (nm 12) = some (.ref Ca) → Cls T.K Ca ∧ Meth T.K Ca "alike" f) ∧ Fun T.K "alike" "Flow.alike" s_Flow_alike f fd ∧ Binds T.K fd ["self", "level", "inflow", "step"] []
  fo_Stretch_begin : FldOk T.K T.mg 11 31
  fo_Stretch_count : FldOk T.K T.mg 11 32
  fo_Stretch_first_level : FldOk T.K T.mg 11 33
  fo_Stretch_step : FldOk T.K T.mg 11 34
  fo_Stretch_inflow : FldOk T.K T.mg 11 35
  in_Stretch : ∃ Ca f fd, T.mg (nm 11) = some (.ref Ca) ∧ Mk T.K Ca f ∧ Fun T.K "__init__" "Stretch.__init__" s_Stretch_init f fd ∧ Binds T.K fd ["self", "begin", "count", "level", "step", "inflow"] []
  me_Flow_extend : ∃ f fd, (∀ Ca, T.mg (nm 12) = some (.ref Ca) → Cls T.K Ca ∧ Meth T.K Ca "extend" f) ∧ Fun T.K "extend" "Flow.extend" s_Flow_extend f fd ∧ Binds T.K fd ["self", "begin", "count", "level", "inflow"] []
  fo_Flow_settled : FldOk T.K T.mg 12 39
  me_Flow_play : ∃ f fd, (∀ Ca, T.mg (nm 12) = some (.ref Ca) → Cls T.K Ca ∧ Meth T.K Ca "play" f) ∧ Fun T.K "play" "Flow.play" s_Flow_play f fd ∧ Binds T.K fd ["self", "stretch"] []
  me_Flow_is_like_last : ∃ f fd, (∀ Ca, T.mg (nm 12) = some (.ref Ca) → Cls T.K Ca ∧ Meth T.K Ca "is_like_last" f) ∧ Fun T.K "is_like_last" "Flow.is_like_last" s_Flow_is_like_last f fd ∧ Binds T.K fd ["self", "stretch"] []
  in_Flow : ∃ Ca f fd, T.mg (nm 12) = some (.ref Ca) ∧ Mk T.K Ca f ∧ Fun T.K "__init__" "Flow.__init__" s_Flow_init f fd ∧ Binds T.K fd ["self", "capacity", "rain", "draws", "above"] []
  me_Flow_outflow : ∃ f fd, (∀ Ca, T.mg (nm 12) = some (.ref Ca) → Cls T.K Ca ∧ Meth T.K Ca "outflow" f) ∧ Fun T.K "outflow" "Flow.outflow" s_Flow_outflow f fd ∧ Binds T.K fd ["self"] []
  fn_flows_of : ∃ f fd, T.mg "flows_of" = some (.ref f) ∧ Fun T.K "flows_of" "flows_of" s_flows_of f fd ∧ Binds T.K fd ["row"] []
  me_Flow_stretch_at : ∃ f fd, (∀ Ca, T.mg (nm 12) = some (.ref Ca) → Cls T.K Ca ∧ Meth T.K Ca "stretch_at" f) ∧ Fun T.K "stretch_at" "Flow.stretch_at" s_Flow_stretch_at f fd ∧ Binds T.K fd ["self", "number"] []
  me_Flow_rows_of : ∃ f fd, (∀ Ca, T.mg (nm 12) = some (.ref Ca) → Cls T.K Ca ∧ Meth T.K Ca "rows_of" f) ∧ Fun T.K "rows_of" "Flow.rows_of" s_Flow_rows_of f fd ∧ Binds T.K fd ["self", "number"] []
  b_sum : T.mg "sum" = none
  fn_sums_of : ∃ f fd, T.mg "sums_of" = some (.ref f) ∧ Fun T.K "sums_of" "sums_of" s_sums_of f fd ∧ Binds T.K fd ["rows", "times"] []
  me_Flow_sums : ∃ f fd, (∀ Ca, T.mg (nm 12) = some (.ref Ca) → Cls T.K Ca ∧ Meth T.K Ca "sums" f) ∧ Fun T.K "sums" "Flow.sums" s_Flow_sums f fd ∧ Binds T.K fd ["self", "rounds", "ticks"] []
  fn_totals : ∃ f fd, T.mg "totals" = some (.ref f) ∧ Fun T.K "totals" "totals" s_totals f fd ∧ Binds T.K fd ["row", "ticks"] []
  b_list : T.mg "list" = none
  me_Flow_last_sums : ∃ f fd, (∀ Ca, T.mg (nm 12) = some (.ref Ca) → Cls T.K Ca ∧ Meth T.K Ca "last_sums" f) ∧ Fun T.K "last_sums" "Flow.last_sums" s_Flow_last_sums f fd ∧ Binds T.K fd ["self"] []
  fn_long_run : ∃ f fd, T.mg "long_run" = some (.ref f) ∧ Fun T.K "long_run" "long_run" s_long_run f fd ∧ Binds T.K fd ["row"] []
  fn_place_of : ∃ f fd, T.mg "place_of" = some (.ref f) ∧ Fun T.K "place_of" "place_of" s_place_of f fd ∧ Binds T.K fd ["row", "name"] []
  fn_missed_from : ∃ f fd, T.mg "missed_from" = some (.ref f) ∧ Fun T.K "missed_from" "missed_from" s_missed_from f fd ∧ Binds T.K fd ["rows", "tick"] []
  me_Flow_next_missed : ∃ f fd, (∀ Ca, T.mg (nm 12) = some (.ref Ca) → Cls T.K Ca ∧ Meth T.K Ca "next_missed" f) ∧ Fun T.K "next_missed" "Flow.next_missed" s_Flow_next_missed f fd ∧ Binds T.K fd ["self", "number", "tick"] []
  fn_first_missed : ∃ f fd, T.mg "first_missed" = some (.ref f) ∧ Fun T.K "first_missed" "first_missed" s_first_missed f fd ∧ Binds T.K fd ["row", "name", "tick"] []
  fn_settled_round : ∃ f fd, T.mg "settled_round" = some (.ref f) ∧ Fun T.K "settled_round" "settled_round" s_settled_round f fd ∧ Binds T.K fd ["row"] []
  fn_lost : ∃ f fd, T.mg "lost" = some (.ref f) ∧ Fun T.K "lost" "lost" s_lost f fd ∧ Binds T.K fd ["row", "ticks"] []
  me_Row_len : ∃ Ca f fd, T.mg (nm 13) = some (.ref Ca) ∧ Cls T.K Ca ∧ PySem.W.findIn T.K (.ref Ca) "__len__" = some (some (.ref f)) ∧ PySem.W.isFn T.K (.ref f) = true ∧ Fun T.K "__len__" "Row.__len__" s_Row_len f fd ∧ Binds T.K fd ["self"] []
  me_Row_sub : ∃ (Ca f : Addr) (fd : FuncData) (fo ro rc : Option Value), T.mg (nm 13) = some (.ref Ca) ∧ PySem.W.selfFirst T.K Ca = true ∧ PySem.W.findIn T.K (.ref Ca) (PySem.dunder Operator.Sub.info.2) = some (some (.ref f)) ∧ PySem.W.isFn T.K (.ref f) = true ∧ PySem.W.findIn T.K (.ref Ca) (dunderR Operator.Sub.info.2) = some rc ∧ (rc = none ∨ ∃ g : Addr, rc = some (.ref g)) ∧ PySem.W.findIn T.K (.type "str") (PySem.dunder Operator.Sub.info.2) = some fo ∧ PySem.W.findIn T.K (.type "str") (dunderR Operator.Sub.info.2) = some ro ∧ PySem.W.subIn T.K (.type "str") (.ref Ca) = some false ∧ Fun T.K "__sub__" "Row.__sub__" s_Row_sub f fd ∧ Binds T.K fd ["self", "name"] []
  fn_change_without : ∃ f fd, T.mg "change_without" = some (.ref f) ∧ Fun T.K "change_without" "change_without" s_change_without f fd ∧ Binds T.K fd ["row", "name"] []
  fn_lost_per_round : ∃ f fd, T.mg "lost_per_round" = some (.ref f) ∧ Fun T.K "lost_per_round" "lost_per_round" s_lost_per_round f fd ∧ Binds T.K fd ["row"] []
  fn_held_back : ∃ f fd, T.mg "held_back" = some (.ref f) ∧ Fun T.K "held_back" "held_back" s_held_back f fd ∧ Binds T.K fd ["row", "name"] []
  me_Flow_level : ∃ f fd, (∀ Ca, T.mg (nm 12) = some (.ref Ca) → Cls T.K Ca ∧ Meth T.K Ca "level" f) ∧ Fun T.K "level" "Flow.level" s_Flow_level f fd ∧ Binds T.K fd ["self", "number", "tick"] []
  me_Row_call : ∃ Ca f fd, T.mg (nm 13) = some (.ref Ca) ∧ PySem.W.findIn T.K (.ref Ca) "__call__" = some (some (.ref f)) ∧ PySem.W.isFn T.K (.ref f) = true ∧ PySem.W.fnIn T.K f = true ∧ Fun T.K "__call__" "Row.__call__" s_Row_call f fd ∧ Binds T.K fd ["self", "name", "tick"] []
  me_Row_with_rain : ∃ f fd, (∀ Ca, T.mg (nm 13) = some (.ref Ca) → Cls T.K Ca ∧ Meth T.K Ca "with_rain" f) ∧ Fun T.K "with_rain" "Row.with_rain" s_Row_with_rain f fd ∧ Binds T.K fd ["self", "index", "amount"] []
  me_Row_with_capacity : ∃ f fd, (∀ Ca, T.mg (nm 13) = some (.ref Ca) → Cls T.K Ca ∧ Meth T.K Ca "with_capacity" f) ∧ Fun T.K "with_capacity" "Row.with_capacity" s_Row_with_capacity f fd ∧ Binds T.K fd ["self", "name", "capacity"] []
  fn_least_capacity : ∃ f fd, T.mg "least_capacity" = some (.ref f) ∧ Fun T.K "least_capacity" "least_capacity" s_least_capacity f fd ∧ Binds T.K fd ["row", "name", "goal"] []
  fn_law_query : ∃ f fd, T.mg "_law_query" = some (.ref f) ∧ Fun T.K "_law_query" "_law_query" s_law_query f fd ∧ Binds T.K fd ["_law_row_here", "_law_branch"] []
  b_isinstance : T.mg "isinstance" = none
  b_bool : T.mg "bool" = none
  fn_law_same : ∃ f fd, T.mg "_law_same" = some (.ref f) ∧ Fun T.K "_law_same" "_law_same" s_law_same f fd ∧ Binds T.K fd ["_law_result", "_law_expected"] []
  xi_InvalidRow : ∃ Ca f fd R, T.mg (nm 1) = some (.ref Ca) ∧ SupI T.K T.mg R ∧ OexC T.K Ca ∧ PySem.W.findIn T.K (.ref Ca) "__init__" = some (some (.ref f)) ∧ PySem.W.typeIn T.K (.ref f) = some (.type "function") ∧ PySem.W.findIn T.K (.ref Ca) "part" = some none ∧ PySem.W.findIn T.K (.ref Ca) "index" = some none ∧ Fun T.K "__init__" "InvalidRow.__init__" s_x_InvalidRow f fd
  xi_UnknownBarrel : ∃ Ca f fd R, T.mg (nm 2) = some (.ref Ca) ∧ SupI T.K T.mg R ∧ OexC T.K Ca ∧ PySem.W.findIn T.K (.ref Ca) "__init__" = some (some (.ref f)) ∧ PySem.W.typeIn T.K (.ref f) = some (.type "function") ∧ PySem.W.findIn T.K (.ref Ca) "name" = some none ∧ Fun T.K "__init__" "UnknownBarrel.__init__" s_x_UnknownBarrel f fd

theorem sc_x_InvalidRow : FnScope ["self", "part", "index"] ["self", "part", "index"] (defScope s_x_InvalidRow) := ⟨rfl, rfl, rfl, by decide +kernel, rfl, by decide +kernel, by decide +kernel⟩
theorem h_x_InvalidRow {T : Wh} (F : Fx T) : ExK T 1 1 [24, 25] := by
  refine ⟨by decide, ?_⟩
  obtain ⟨Ca, f, fd, R, hm, hS, hO, hi, ht, n0, n1, hF⟩ := F.xi_InvalidRow
  refine ⟨Ca, f, fd, ["self", "part", "index"], hm, hO, hi, ht, ?_, exinit2 (f1 := 24) (f2 := 25) hF sc_x_InvalidRow hS hO n0 n1 rfl (by decide +kernel) (by decide +kernel) (by decide +kernel) (by decide +kernel) rfl fun env => ⟨_, rfl⟩⟩
  obtain ⟨oc, od, kV, doc, pm, an, cdv, ct, osl, rfl, lk, hcd⟩ := hF.ex
  exact ⟨fun s us ws _ h1 h2 => match us, ws, h1, h2 with | [a], [b0, b1], _, _ => .of_eq rfl, fun r1 r2 => r1.append r2⟩
theorem sc_x_UnknownBarrel : FnScope ["self", "name"] ["self", "name"] (defScope s_x_UnknownBarrel) := ⟨rfl, rfl, rfl, by decide +kernel, rfl, by decide +kernel, by decide +kernel⟩
theorem h_x_UnknownBarrel {T : Wh} (F : Fx T) : ExK T 2 1 [26] := by
  refine ⟨by decide, ?_⟩
  obtain ⟨Ca, f, fd, R, hm, hS, hO, hi, ht, n0, hF⟩ := F.xi_UnknownBarrel
  refine ⟨Ca, f, fd, ["self", "name"], hm, hO, hi, ht, ?_, exinit1 (f1 := 26) hF sc_x_UnknownBarrel hS hO n0 rfl (by decide +kernel) (by decide +kernel) rfl fun env => ⟨_, rfl⟩⟩
  obtain ⟨oc, od, kV, doc, pm, an, cdv, ct, osl, rfl, lk, hcd⟩ := hF.ex
  exact ⟨fun s us ws _ h1 h2 => match us, ws, h1, h2 with | [a], [b0], _, _ => .of_eq rfl, fun r1 r2 => r1.append r2⟩
/-! ### _law_start -/
abbrev N_law_start : List Str := ["_law_script", "_law_mixed", "_law_cell"]
theorem sc_law_start : FnScope N_law_start ["_law_script"] (defScope s_law_start) := ⟨rfl, rfl, rfl, by decide +kernel, rfl, by decide +kernel, by decide +kernel⟩
theorem h_law_start {T : Wh} (F : Fx T) : Has T "_law_start" 1 1 f_law_start := by
  obtain ⟨f, fd, hm, hF, hB⟩ := F.fn_law_start
  exact ⟨f, hm, fnM_of1 (k := 0) (N := N_law_start) (m := 2) (body := m_law_start) hF hB sc_law_start rfl rfl (fun cdv A outer s H E hr => (by have hu := hr.units; have hu1 : _ + 1 < cLine := Nat.lt_of_le_of_lt (Nat.add_le_add_left (by decide) _) hu; have hu2 : _ + 2 < cLine := Nat.lt_of_le_of_lt (Nat.add_le_add_left (by decide) _) hu; delta m_law_start; delta Se.sWhile Se.mVar Se.mC Se.mBin Se.mTest Se.mChain Se.tAndM Se.tOrM Se.tNotM Se.mAnd Se.mOr Se.mNot Se.mIf Se.aNil Se.aCons Se.mTup Se.mLst Se.mApp Se.mCut Se.oNone Se.oSome Se.sNext Se.sSeq Se.sSet Se.sRet Se.sDrop Se.sIf Se.sAug Se.sBreak Se.sCont Se.gSet Se.gsNil Se.gsCons Se.gTupM Se.sAsg Se.sPar Se.sFor Se.iRange1 Se.iRange2 Se.mFld Se.sFldM Se.sFldAugM Se.mMeth Se.mProp Se.vMake Se.iEnumM Se.iZipM Se.iSeqM Se.iStrM Se.mYes Se.mLc Se.mBM Se.gSubL Se.mIsi Se.sRaise Se.sRaise0 Se.aStar Se.mOp Se.mLen Se.mDget Se.gSubD Se.mDisp Se.mItems Se.mDc Se.gFld Se.mOutcome Se.mBad Se.sBad Se.mNeg Se.mCall Se.mGetO Se.mOpT Se.mIsiO Se.gTupS Se.iKeysM Se.iValsM Se.mDisp0 Ab.mNeg; exact (jss_cons (js_set sc_law_start.nd (je_int)) (jss_cons (js_for cx1_pass rfl (ji_seq (je_var (i := 0))) (jg_name (i := 2) sc_law_start.nd) (jss_one (js_set sc_law_start.nd (je_op m2_mod quiet_mod (je_op m2_add quiet_add (je_op m2_add quiet_add (je_op m2_mul quiet_mul (je_var (i := 1)) (je_int)) (je_var (i := 2))) (je_int)) (je_int))))) (jss_one (js_ret (je_lst (ja_cons (je_var (i := 0)) (ja_cons (je_int) (ja_cons (je_var (i := 1)) (ja_cons (je_int) (ja_nil))))))))))))⟩
/-! ### _law_drawn -/
abbrev N_law_drawn : List Str := ["_law_state", "_law_count", "_law_result", "_law_cell"]
theorem sc_law_drawn : FnScope N_law_drawn ["_law_state", "_law_count"] (defScope s_law_drawn) := ⟨rfl, rfl, rfl, by decide +kernel, rfl, by decide +kernel, by decide +kernel⟩
theorem h_law_drawn {T : Wh} (F : Fx T) : Has T "_law_drawn" 1 2 f_law_drawn := by
  obtain ⟨f, fd, hm, hF, hB⟩ := F.fn_law_drawn
  exact ⟨f, hm, fnM_of1 (k := 0) (N := N_law_drawn) (m := 2) (body := m_law_drawn) hF hB sc_law_drawn rfl rfl (fun cdv A outer s H E hr => (by have hu := hr.units; have hu1 : _ + 1 < cLine := Nat.lt_of_le_of_lt (Nat.add_le_add_left (by decide) _) hu; have hu2 : _ + 2 < cLine := Nat.lt_of_le_of_lt (Nat.add_le_add_left (by decide) _) hu; delta m_law_drawn; delta Se.sWhile Se.mVar Se.mC Se.mBin Se.mTest Se.mChain Se.tAndM Se.tOrM Se.tNotM Se.mAnd Se.mOr Se.mNot Se.mIf Se.aNil Se.aCons Se.mTup Se.mLst Se.mApp Se.mCut Se.oNone Se.oSome Se.sNext Se.sSeq Se.sSet Se.sRet Se.sDrop Se.sIf Se.sAug Se.sBreak Se.sCont Se.gSet Se.gsNil Se.gsCons Se.gTupM Se.sAsg Se.sPar Se.sFor Se.iRange1 Se.iRange2 Se.mFld Se.sFldM Se.sFldAugM Se.mMeth Se.mProp Se.vMake Se.iEnumM Se.iZipM Se.iSeqM Se.iStrM Se.mYes Se.mLc Se.mBM Se.gSubL Se.mIsi Se.sRaise Se.sRaise0 Se.aStar Se.mOp Se.mLen Se.mDget Se.gSubD Se.mDisp Se.mItems Se.mDc Se.gFld Se.mOutcome Se.mBad Se.sBad Se.mNeg Se.mCall Se.mGetO Se.mOpT Se.mIsiO Se.gTupS Se.iKeysM Se.iValsM Se.mDisp0 Ab.mNeg; exact (jss_cons (js_if (jt_cmp m2_gt (quiet_cmpI _) (je_ix (je_var (i := 0)) (je_int)) (je_int)) (jss_cons (js_set sc_law_drawn.nd (je_op m2_mod quiet_mod (je_ix (je_var (i := 0)) (je_int)) (je_var (i := 1)))) (jss_cons (js_asg (je_op m2_div quiet_div (je_ix (je_var (i := 0)) (je_int)) (je_var (i := 1))) (jg_sub (je_var (i := 0)) (je_int))) (jss_one (js_ret (je_var (i := 2)))))) (jss_nil)) (jss_cons (js_asg (je_op m2_add quiet_add (je_ix (je_var (i := 0)) (je_int)) (je_int)) (jg_sub (je_var (i := 0)) (je_int))) (jss_cons (js_if (jt_cmp m2_le quiet_le (je_ix (je_var (i := 0)) (je_int)) (je_callB mc_len quiet_len F.b_len Boot.len (ja_cons (je_ix (je_var (i := 0)) (je_int)) (ja_nil)))) (jss_cons (js_set sc_law_drawn.nd (je_ix (je_ix (je_var (i := 0)) (je_int)) (je_op m2_sub quiet_sub (je_ix (je_var (i := 0)) (je_int)) (je_int)))) (jss_cons (js_asg (je_if (jt_cmp m2_ge (quiet_cmpI _) (je_var (i := 3)) (je_op m2_pow quiet_pow (je_int) (je_int))) (je_op m2_div quiet_div (je_var (i := 3)) (je_var (i := 1))) (je_int)) (jg_sub (je_var (i := 0)) (je_int))) (jss_one (js_ret (je_op m2_mod quiet_mod (je_var (i := 3)) (je_var (i := 1))))))) (jss_nil)) (jss_cons (js_asg (je_op m2_mod quiet_mod (je_op m2_add quiet_add (je_op m2_mul quiet_mul (je_ix (je_var (i := 0)) (je_int)) (je_int)) (je_int)) (je_int)) (jg_sub (je_var (i := 0)) (je_int))) (jss_one (js_ret (je_op m2_mod quiet_mod (je_op m2_div quiet_div (je_ix (je_var (i := 0)) (je_int)) (je_int)) (je_var (i := 1)))))))))))⟩
/-! ### _law_plan -/
abbrev N_law_plan : List Str := ["_law_state", "_law_most", "_law_high", "_law_size", "_law_rain", "_law_k", "_law_barrels", "_law_draws", "_law_tick", "_law_capacity"]
theorem sc_law_plan : FnScope N_law_plan ["_law_state", "_law_most", "_law_high"] (defScope s_law_plan) := ⟨rfl, rfl, rfl, by decide +kernel, rfl, by decide +kernel, by decide +kernel⟩
theorem h_law_plan {T : Wh} (F : Fx T) : Has T "_law_plan" 2 3 f_law_plan := by
  obtain ⟨f, fd, hm, hF, hB⟩ := F.fn_law_plan
  exact ⟨f, hm, fnM_of1 (k := 1) (N := N_law_plan) (m := 7) (body := m_law_plan) hF hB sc_law_plan rfl rfl (fun cdv A outer s H E hr => (by have hu := hr.units; have hu1 : _ + 1 < cLine := Nat.lt_of_le_of_lt (Nat.add_le_add_left (by decide) _) hu; have hu2 : _ + 2 < cLine := Nat.lt_of_le_of_lt (Nat.add_le_add_left (by decide) _) hu; delta m_law_plan; delta Se.sWhile Se.mVar Se.mC Se.mBin Se.mTest Se.mChain Se.tAndM Se.tOrM Se.tNotM Se.mAnd Se.mOr Se.mNot Se.mIf Se.aNil Se.aCons Se.mTup Se.mLst Se.mApp Se.mCut Se.oNone Se.oSome Se.sNext Se.sSeq Se.sSet Se.sRet Se.sDrop Se.sIf Se.sAug Se.sBreak Se.sCont Se.gSet Se.gsNil Se.gsCons Se.gTupM Se.sAsg Se.sPar Se.sFor Se.iRange1 Se.iRange2 Se.mFld Se.sFldM Se.sFldAugM Se.mMeth Se.mProp Se.vMake Se.iEnumM Se.iZipM Se.iSeqM Se.iStrM Se.mYes Se.mLc Se.mBM Se.gSubL Se.mIsi Se.sRaise Se.sRaise0 Se.aStar Se.mOp Se.mLen Se.mDget Se.gSubD Se.mDisp Se.mItems Se.mDc Se.gFld Se.mOutcome Se.mBad Se.sBad Se.mNeg Se.mCall Se.mGetO Se.mOpT Se.mIsiO Se.gTupS Se.iKeysM Se.iValsM Se.mDisp0 Ab.mNeg; exact (jss_cons (js_set sc_law_plan.nd (je_op m2_add quiet_add (je_int) (je_call (h_law_drawn F) (hr.mono (by decide)) (ja_cons (je_var (i := 0)) (ja_cons (je_int) (ja_nil)))))) (jss_cons (js_set sc_law_plan.nd (je_callTy mc_tuple quiet_tuple F.b_tuple Boot.tuple (ja_cons (je_lc rfl sc_law_plan.nd [("_law_k", 5)] (ji_range1 F.b_range (ja_cons (je_var (i := 3)) (ja_nil))) (by first | (change blkC N_law_plan (defScope s_law_plan) _ _ = true; decide +kernel) | rfl) (fun s H C cl fp => jg_name (i := 5) sc_law_plan.nd) (fun s H C cl fp => jts_nil) (fun s H C cl fp => je_op m2_mul quiet_mul (je_call (h_law_drawn F) (hr.mono (by decide)) (ja_cons (je_var (i := 0)) (ja_cons (je_op m2_add quiet_add (je_var (i := 2)) (je_int)) (ja_nil)))) (je_callTy mc_intB quiet_intB F.b_int Boot.int (ja_cons (je_cmp m2_gt (quiet_cmpI _) (je_call (h_law_drawn F) (hr.mono (by decide)) (ja_cons (je_var (i := 0)) (ja_cons (je_int) (ja_nil)))) (je_int)) (ja_nil))))) (ja_nil)))) (jss_cons (js_set sc_law_plan.nd (je_lst (ja_nil))) (jss_cons (js_for cx1_pass rfl (ji_range1 F.b_range (ja_cons (je_op m2_add quiet_add (je_int) (je_call (h_law_drawn F) (hr.mono (by decide)) (ja_cons (je_var (i := 0)) (ja_cons (je_var (i := 1)) (ja_nil))))) (ja_nil))) (jg_name (i := 5) sc_law_plan.nd) (jss_cons (js_set sc_law_plan.nd (je_callTy mc_tuple quiet_tuple F.b_tuple Boot.tuple (ja_cons (je_lc rfl sc_law_plan.nd [("_law_tick", 8)] (ji_range1 F.b_range (ja_cons (je_var (i := 3)) (ja_nil))) (by first | (change blkC N_law_plan (defScope s_law_plan) _ _ = true; decide +kernel) | rfl) (fun s H C cl fp => jg_name (i := 8) sc_law_plan.nd) (fun s H C cl fp => jts_nil) (fun s H C cl fp => je_op m2_mul quiet_mul (je_call (h_law_drawn F) (hr.mono (by decide)) (ja_cons (je_var (i := 0)) (ja_cons (je_op m2_add quiet_add (je_var (i := 2)) (je_int)) (ja_nil)))) (je_call (h_law_drawn F) (hr.mono (by decide)) (ja_cons (je_var (i := 0)) (ja_cons (je_int) (ja_nil)))))) (ja_nil)))) (jss_cons (js_set sc_law_plan.nd (je_call (h_law_drawn F) (hr.mono (by decide)) (ja_cons (je_var (i := 0)) (ja_cons (je_ix (je_lst (ja_cons (je_op m2_add quiet_add (je_op m2_mul quiet_mul (je_int) (je_var (i := 2))) (je_int)) (ja_cons (je_op m2_add quiet_add (je_op m2_mul quiet_mul (je_int) (je_var (i := 2))) (je_int)) (ja_nil)))) (je_call (h_law_drawn F) (hr.mono (by decide)) (ja_cons (je_var (i := 0)) (ja_cons (je_int) (ja_nil))))) (ja_nil))))) (jss_one (js_expr (je_append (je_var (i := 6)) (je_tup (ja_cons (je_ix (je_lst (ja_cons (je_str) (ja_cons (je_str) (ja_cons (je_str) (ja_cons (je_str) (ja_cons (je_str) (ja_nil))))))) (je_var (i := 5))) (ja_cons (je_var (i := 9)) (ja_cons (je_ix (je_lst (ja_cons (je_int) (ja_cons (je_int) (ja_cons (je_int) (ja_cons (je_int) (ja_nil)))))) (je_call (h_law_drawn F) (hr.mono (by decide)) (ja_cons (je_var (i := 0)) (ja_cons (je_int) (ja_nil))))) (ja_cons (je_var (i := 7)) (ja_nil)))))))))))) (jss_one (js_ret (je_tup (ja_cons (je_var (i := 4)) (ja_cons (je_var (i := 6)) (ja_nil))))))))))))⟩
/-! ### is_name -/
abbrev N_is_name : List Str := ["name", "letter"]
theorem sc_is_name : FnScope N_is_name ["name"] (defScope s_is_name) := ⟨rfl, rfl, rfl, by decide +kernel, rfl, by decide +kernel, by decide +kernel⟩
theorem h_is_name {T : Wh} (F : Fx T) : Has T "is_name" 1 1 f_is_name := by
  obtain ⟨f, fd, hm, hF, hB⟩ := F.fn_is_name
  exact ⟨f, hm, fnM_of1 (k := 0) (N := N_is_name) (m := 1) (body := m_is_name) hF hB sc_is_name rfl rfl (fun cdv A outer s H E hr => (by have hu := hr.units; have hu1 : _ + 1 < cLine := Nat.lt_of_le_of_lt (Nat.add_le_add_left (by decide) _) hu; have hu2 : _ + 2 < cLine := Nat.lt_of_le_of_lt (Nat.add_le_add_left (by decide) _) hu; delta m_is_name; delta Se.sWhile Se.mVar Se.mC Se.mBin Se.mTest Se.mChain Se.tAndM Se.tOrM Se.tNotM Se.mAnd Se.mOr Se.mNot Se.mIf Se.aNil Se.aCons Se.mTup Se.mLst Se.mApp Se.mCut Se.oNone Se.oSome Se.sNext Se.sSeq Se.sSet Se.sRet Se.sDrop Se.sIf Se.sAug Se.sBreak Se.sCont Se.gSet Se.gsNil Se.gsCons Se.gTupM Se.sAsg Se.sPar Se.sFor Se.iRange1 Se.iRange2 Se.mFld Se.sFldM Se.sFldAugM Se.mMeth Se.mProp Se.vMake Se.iEnumM Se.iZipM Se.iSeqM Se.iStrM Se.mYes Se.mLc Se.mBM Se.gSubL Se.mIsi Se.sRaise Se.sRaise0 Se.aStar Se.mOp Se.mLen Se.mDget Se.gSubD Se.mDisp Se.mItems Se.mDc Se.gFld Se.mOutcome Se.mBad Se.sBad Se.mNeg Se.mCall Se.mGetO Se.mOpT Se.mIsiO Se.gTupS Se.iKeysM Se.iValsM Se.mDisp0 Ab.mNeg; exact (jss_one (js_ret (je_and (je_chain m2_le quiet_le m2_le quiet_le (je_int) (je_callB mc_len quiet_len F.b_len Boot.len (ja_cons (je_var (i := 0)) (ja_nil))) (je_globI F.g_MAX_LETTERS)) (je_one (je_callB (mc_all rfl) quiet_all F.b_all Boot.all (ja_cons (je_lc rfl sc_is_name.nd [("letter", 1)] (ji_str (je_var (i := 0))) (by first | (change blkC N_is_name (defScope s_is_name) _ _ = true; decide +kernel) | rfl) (fun s H C cl fp => jg_name (i := 1) sc_is_name.nd) (fun s H C cl fp => jts_nil) (fun s H C cl fp => je_cmp m2_in quiet_in (je_var (i := 1)) (je_globS F.g_LETTERS))) (ja_nil)))))))))⟩
/-! ### is_barrel -/
abbrev N_is_barrel : List Str := ["barrel", "ticks", "name", "capacity", "roof", "draws", "draw"]
theorem sc_is_barrel : FnScope N_is_barrel ["barrel", "ticks"] (defScope s_is_barrel) := ⟨rfl, rfl, rfl, by decide +kernel, rfl, by decide +kernel, by decide +kernel⟩
theorem h_is_barrel {T : Wh} (F : Fx T) : Has T "is_barrel" 2 2 f_is_barrel := by
  obtain ⟨f, fd, hm, hF, hB⟩ := F.fn_is_barrel
  exact ⟨f, hm, fnM_of1 (k := 1) (N := N_is_barrel) (m := 5) (body := m_is_barrel) hF hB sc_is_barrel rfl rfl (fun cdv A outer s H E hr => (by have hu := hr.units; have hu1 : _ + 1 < cLine := Nat.lt_of_le_of_lt (Nat.add_le_add_left (by decide) _) hu; have hu2 : _ + 2 < cLine := Nat.lt_of_le_of_lt (Nat.add_le_add_left (by decide) _) hu; delta m_is_barrel; delta Se.sWhile Se.mVar Se.mC Se.mBin Se.mTest Se.mChain Se.tAndM Se.tOrM Se.tNotM Se.mAnd Se.mOr Se.mNot Se.mIf Se.aNil Se.aCons Se.mTup Se.mLst Se.mApp Se.mCut Se.oNone Se.oSome Se.sNext Se.sSeq Se.sSet Se.sRet Se.sDrop Se.sIf Se.sAug Se.sBreak Se.sCont Se.gSet Se.gsNil Se.gsCons Se.gTupM Se.sAsg Se.sPar Se.sFor Se.iRange1 Se.iRange2 Se.mFld Se.sFldM Se.sFldAugM Se.mMeth Se.mProp Se.vMake Se.iEnumM Se.iZipM Se.iSeqM Se.iStrM Se.mYes Se.mLc Se.mBM Se.gSubL Se.mIsi Se.sRaise Se.sRaise0 Se.aStar Se.mOp Se.mLen Se.mDget Se.gSubD Se.mDisp Se.mItems Se.mDc Se.gFld Se.mOutcome Se.mBad Se.sBad Se.mNeg Se.mCall Se.mGetO Se.mOpT Se.mIsiO Se.gTupS Se.iKeysM Se.iValsM Se.mDisp0 Ab.mNeg; exact (jss_cons (js_asg (je_var (i := 0)) (jg_tup rfl (jgs_cons (jg_name (i := 2) sc_is_barrel.nd) (jgs_cons (jg_name (i := 3) sc_is_barrel.nd) (jgs_cons (jg_name (i := 4) sc_is_barrel.nd) (jgs_cons (jg_name (i := 5) sc_is_barrel.nd) (jgs_nil))))))) (jss_cons (js_if ((jw_or (jt_not (jt_val (je_call (h_is_name F) (hr.mono (by decide)) (ja_cons (je_var (i := 2)) (ja_nil))))) (jw_or (jt_not (jt_chain m2_le quiet_le m2_le quiet_le (je_int) (je_var (i := 3)) (je_globI F.g_MAX_AMOUNT))) (jw_or1 (jt_not (jt_chain m2_le quiet_le m2_le quiet_le (je_int) (je_var (i := 4)) (je_globI F.g_MAX_ROOF)))))).jt) (jss_one (js_ret (je_bl))) (jss_nil)) (jss_one (js_ret (je_and (je_cmp (m2_eq hu) quiet_eq (je_callB mc_len quiet_len F.b_len Boot.len (ja_cons (je_var (i := 5)) (ja_nil))) (je_var (i := 1))) (je_one (je_callB (mc_all rfl) quiet_all F.b_all Boot.all (ja_cons (je_lc rfl sc_is_barrel.nd [("draw", 6)] (ji_seq (je_var (i := 5))) (by first | (change blkC N_is_barrel (defScope s_is_barrel) _ _ = true; decide +kernel) | rfl) (fun s H C cl fp => jg_name (i := 6) sc_is_barrel.nd) (fun s H C cl fp => jts_nil) (fun s H C cl fp => je_chain m2_le quiet_le m2_le quiet_le (je_int) (je_var (i := 6)) (je_globI F.g_MAX_AMOUNT))) (ja_nil)))))))))))⟩
/-! ### Row.__init__ -/
abbrev N_Row_init : List Str := ["self", "rain", "barrels", "index", "amount", "barrel", "earlier", "other"]
theorem sc_Row_init : FnScope N_Row_init ["self", "rain", "barrels"] (defScope s_Row_init) := ⟨rfl, rfl, rfl, by decide +kernel, rfl, by decide +kernel, by decide +kernel⟩
theorem h_Row_init {T : Wh} (F : Fx T) : HasIR T 13 3 f_Row_init := by
  obtain ⟨Ca, f, fd, hm, hM, hF⟩ := F.in_Row
  exact ⟨Ca, f, hm, hM, fnMR_of1 (k := 2) (N := N_Row_init) (ps := ["self", "rain"]) (pv := "barrels") (m := 5) (body := m_Row_init) hF sc_Row_init rfl rfl (fun kV doc pm an cdv ct us rest hl => StX.bind_star2 (B := fun us => bindArgs (PySem.W.fnOf "__init__" "Row.__init__" (defArgs s_Row_init) (defBody s_Row_init) (defScope s_Row_init) .none kV doc pm an cdv ct) ⟨us, []⟩) (fun _ _ => rfl) (fun _ _ _ _ => rfl) us rest hl) (fun cdv A outer s H E hr => (by have hu := hr.units; have hu1 : _ + 1 < cLine := Nat.lt_of_le_of_lt (Nat.add_le_add_left (by decide) _) hu; have hu2 : _ + 2 < cLine := Nat.lt_of_le_of_lt (Nat.add_le_add_left (by decide) _) hu; delta m_Row_init; delta Se.sWhile Se.mVar Se.mC Se.mBin Se.mTest Se.mChain Se.tAndM Se.tOrM Se.tNotM Se.mAnd Se.mOr Se.mNot Se.mIf Se.aNil Se.aCons Se.mTup Se.mLst Se.mApp Se.mCut Se.oNone Se.oSome Se.sNext Se.sSeq Se.sSet Se.sRet Se.sDrop Se.sIf Se.sAug Se.sBreak Se.sCont Se.gSet Se.gsNil Se.gsCons Se.gTupM Se.sAsg Se.sPar Se.sFor Se.iRange1 Se.iRange2 Se.mFld Se.sFldM Se.sFldAugM Se.mMeth Se.mProp Se.vMake Se.iEnumM Se.iZipM Se.iSeqM Se.iStrM Se.mYes Se.mLc Se.mBM Se.gSubL Se.mIsi Se.sRaise Se.sRaise0 Se.aStar Se.mOp Se.mLen Se.mDget Se.gSubD Se.mDisp Se.mItems Se.mDc Se.gFld Se.mOutcome Se.mBad Se.sBad Se.mNeg Se.mCall Se.mGetO Se.mOpT Se.mIsiO Se.gTupS Se.iKeysM Se.iValsM Se.mDisp0 Ab.mNeg; exact (jss_cons (js_for cx1_pass rfl (ji_enum F.b_enumerate (je_var (i := 1))) (jg_tup rfl (jgs_cons (jg_name (i := 3) sc_Row_init.nd) (jgs_cons (jg_name (i := 4) sc_Row_init.nd) (jgs_nil)))) (jss_one (js_if ((jw_or (jt_cmp (m2_eq hu) quiet_eq (je_var (i := 3)) ((let ⟨_, _, _, h1, h2, h3⟩ := F.cc_Row_MAX_TICKS; je_ccon h1 h2 h3))) (jw_or1 (jt_not (jt_chain m2_le quiet_le m2_le quiet_le (je_int) (je_var (i := 4)) (je_globI F.g_MAX_RAIN))))).jt) (jss_one (js_raise (h_x_InvalidRow F) rfl (hr.mono (by decide)) (jk_cons (je_str) (jk_cons (je_var (i := 3)) (jk_nil))))) (jss_nil)))) (jss_cons (js_if (jt_cmp (m2_eq hu) quiet_eq (je_var (i := 1)) (je_tup (ja_nil))) (jss_one (js_raise (h_x_InvalidRow F) rfl (hr.mono (by decide)) (jk_cons (je_str) (jk_cons (je_neg (je_int)) (jk_nil))))) (jss_nil)) (jss_cons (js_for cx1_pass rfl (ji_enum F.b_enumerate (je_var (i := 2))) (jg_tup rfl (jgs_cons (jg_name (i := 3) sc_Row_init.nd) (jgs_cons (jg_name (i := 5) sc_Row_init.nd) (jgs_nil)))) (jss_cons (js_setLc rfl sc_Row_init.nd [("other", 7)] (ji_seq (je_cut (je_var (i := 2)) jo_none (jo_some (je_var (i := 3))))) (by first | (change blkC N_Row_init (defScope s_Row_init) _ _ = true; decide +kernel) | rfl) (fun s H C cl fp => jg_name (i := 7) sc_Row_init.nd) (fun s H C cl fp => jts_nil) (fun s H C cl fp => je_ix (je_var (i := 7)) (je_int)) (by rfl)) (jss_one (js_if ((jw_or (jt_cmp (m2_eq hu) quiet_eq (je_var (i := 3)) ((let ⟨_, _, _, h1, h2, h3⟩ := F.cc_Row_MAX_BARRELS; je_ccon h1 h2 h3))) (jw_or (jt_not (jt_val (je_call (h_is_barrel F) (hr.mono (by decide)) (ja_cons (je_var (i := 5)) (ja_cons (je_callB mc_len quiet_len F.b_len Boot.len (ja_cons (je_var (i := 1)) (ja_nil))) (ja_nil)))))) (jw_or1 (jt_cmp m2_in quiet_in (je_ix (je_var (i := 5)) (je_int)) (je_var (i := 6)))))).jt) (jss_one (js_raise (h_x_InvalidRow F) rfl (hr.mono (by decide)) (jk_cons (je_str) (jk_cons (je_var (i := 3)) (jk_nil))))) (jss_nil))))) (jss_cons (js_if (jt_cmp (m2_eq hu) quiet_eq (je_var (i := 2)) (je_tup (ja_nil))) (jss_one (js_raise (h_x_InvalidRow F) rfl (hr.mono (by decide)) (jk_cons (je_str) (jk_cons (je_neg (je_int)) (jk_nil))))) (jss_nil)) (jss_cons (js_fld (fld1 F.fo_Row_weather) (je_var (i := 0)) (je_var (i := 1))) (jss_one (js_fld (fld1 F.fo_Row_parts) (je_var (i := 0)) (je_var (i := 2)))))))))))⟩
/-! ### Row.__add__ -/
abbrev N_Row_add : List Str := ["self", "other", "barrels"]
theorem sc_Row_add : FnScope N_Row_add ["self", "other"] (defScope s_Row_add) := ⟨rfl, rfl, rfl, by decide +kernel, rfl, by decide +kernel, by decide +kernel⟩
theorem h_Row_add {T : Wh} (F : Fx T) : HasOp T 13 .Add 5 f_Row_add := by
  obtain ⟨Ca, f, fd, h1, h2, h3, h4, h5, hF, hB⟩ := F.me_Row_add
  exact ⟨Ca, f, h1, h2, h3, h4, h5, fnM_of1 (k := 4) (N := N_Row_add) (m := 1) (body := m_Row_add) hF hB sc_Row_add rfl rfl (fun cdv A outer s H E hr => (by have hu := hr.units; have hu1 : _ + 1 < cLine := Nat.lt_of_le_of_lt (Nat.add_le_add_left (by decide) _) hu; have hu2 : _ + 2 < cLine := Nat.lt_of_le_of_lt (Nat.add_le_add_left (by decide) _) hu; delta m_Row_add; delta Se.sWhile Se.mVar Se.mC Se.mBin Se.mTest Se.mChain Se.tAndM Se.tOrM Se.tNotM Se.mAnd Se.mOr Se.mNot Se.mIf Se.aNil Se.aCons Se.mTup Se.mLst Se.mApp Se.mCut Se.oNone Se.oSome Se.sNext Se.sSeq Se.sSet Se.sRet Se.sDrop Se.sIf Se.sAug Se.sBreak Se.sCont Se.gSet Se.gsNil Se.gsCons Se.gTupM Se.sAsg Se.sPar Se.sFor Se.iRange1 Se.iRange2 Se.mFld Se.sFldM Se.sFldAugM Se.mMeth Se.mProp Se.vMake Se.iEnumM Se.iZipM Se.iSeqM Se.iStrM Se.mYes Se.mLc Se.mBM Se.gSubL Se.mIsi Se.sRaise Se.sRaise0 Se.aStar Se.mOp Se.mLen Se.mDget Se.gSubD Se.mDisp Se.mItems Se.mDc Se.gFld Se.mOutcome Se.mBad Se.sBad Se.mNeg Se.mCall Se.mGetO Se.mOpT Se.mIsiO Se.gTupS Se.iKeysM Se.iValsM Se.mDisp0 Ab.mNeg; exact (jss_cons (js_if (jt_cmp (m2_ne hu) quiet_ne (je_fld (fld1 F.fo_Row_weather) (je_var (i := 0))) (je_fld (fld1 F.fo_Row_weather) (je_var (i := 1)))) (jss_one (js_raise0 F.x0_OtherRain rfl)) (jss_nil)) (jss_cons (js_set sc_Row_add.nd (je_op m2_add quiet_add (je_fld (fld1 F.fo_Row_parts) (je_var (i := 0))) (je_fld (fld1 F.fo_Row_parts) (je_var (i := 1))))) (jss_one (js_ret (je_makeS (h_Row_init F) (by decide +kernel) (hr.mono (by decide)) (ja_cons (je_fld (fld1 F.fo_Row_weather) (je_var (i := 0))) (ja_star (je_var (i := 2)) (ja_nil))))))))))⟩
/-! ### _law_row -/
abbrev N_law_row : List Str := ["_law_rain", "_law_barrels", "_law_result", "_law_barrel"]
theorem sc_law_row : FnScope N_law_row ["_law_rain", "_law_barrels"] (defScope s_law_row) := ⟨rfl, rfl, rfl, by decide +kernel, rfl, by decide +kernel, by decide +kernel⟩
theorem h_law_row {T : Wh} (F : Fx T) : Has T "_law_row" 6 2 f_law_row := by
  obtain ⟨f, fd, hm, hF, hB⟩ := F.fn_law_row
  exact ⟨f, hm, fnM_of1 (k := 5) (N := N_law_row) (m := 2) (body := m_law_row) hF hB sc_law_row rfl rfl (fun cdv A outer s H E hr => (by have hu := hr.units; have hu1 : _ + 1 < cLine := Nat.lt_of_le_of_lt (Nat.add_le_add_left (by decide) _) hu; have hu2 : _ + 2 < cLine := Nat.lt_of_le_of_lt (Nat.add_le_add_left (by decide) _) hu; delta m_law_row; delta Se.sWhile Se.mVar Se.mC Se.mBin Se.mTest Se.mChain Se.tAndM Se.tOrM Se.tNotM Se.mAnd Se.mOr Se.mNot Se.mIf Se.aNil Se.aCons Se.mTup Se.mLst Se.mApp Se.mCut Se.oNone Se.oSome Se.sNext Se.sSeq Se.sSet Se.sRet Se.sDrop Se.sIf Se.sAug Se.sBreak Se.sCont Se.gSet Se.gsNil Se.gsCons Se.gTupM Se.sAsg Se.sPar Se.sFor Se.iRange1 Se.iRange2 Se.mFld Se.sFldM Se.sFldAugM Se.mMeth Se.mProp Se.vMake Se.iEnumM Se.iZipM Se.iSeqM Se.iStrM Se.mYes Se.mLc Se.mBM Se.gSubL Se.mIsi Se.sRaise Se.sRaise0 Se.aStar Se.mOp Se.mLen Se.mDget Se.gSubD Se.mDisp Se.mItems Se.mDc Se.gFld Se.mOutcome Se.mBad Se.sBad Se.mNeg Se.mCall Se.mGetO Se.mOpT Se.mIsiO Se.gTupS Se.iKeysM Se.iValsM Se.mDisp0 Ab.mNeg; exact (jss_cons (js_set sc_law_row.nd (je_makeR (h_Row_init F) (by decide +kernel) (hr.mono (by decide)) (ja_cons (je_var (i := 0)) (ja_cons (je_ix (je_var (i := 1)) (je_int)) (ja_nil))))) (jss_cons (js_for cx1_pass rfl (ji_seq (je_cut (je_var (i := 1)) (jo_some (je_int)) jo_none)) (jg_name (i := 3) sc_law_row.nd) (jss_one (js_set sc_law_row.nd (je_own (h_Row_add F) (hr.mono (by decide)) (je_var (i := 2)) (je_makeR (h_Row_init F) (by decide +kernel) (hr.mono (by decide)) (ja_cons (je_var (i := 0)) (ja_cons (je_var (i := 3)) (ja_nil)))))))) (jss_one (js_ret (je_var (i := 2))))))))⟩
/-! ### Row.names -/
abbrev N_Row_names : List Str := ["self", "barrel"]
theorem sc_Row_names : FnScope N_Row_names ["self"] (defScope s_Row_names) := ⟨rfl, rfl, rfl, by decide +kernel, rfl, by decide +kernel, by decide +kernel⟩
theorem h_Row_names {T : Wh} (F : Fx T) : HasP T 13 "names" 1 f_Row_names := by
  obtain ⟨p, f, fd, h1, hF, hB⟩ := F.me_Row_names
  exact fun Ca hC => ⟨p, f, (h1 Ca hC).1, (h1 Ca hC).2, fnM_of1 (k := 0) (N := N_Row_names) (m := 1) (body := m_Row_names) hF hB sc_Row_names rfl rfl (fun cdv A outer s H E hr => (by have hu := hr.units; have hu1 : _ + 1 < cLine := Nat.lt_of_le_of_lt (Nat.add_le_add_left (by decide) _) hu; have hu2 : _ + 2 < cLine := Nat.lt_of_le_of_lt (Nat.add_le_add_left (by decide) _) hu; delta m_Row_names; delta Se.sWhile Se.mVar Se.mC Se.mBin Se.mTest Se.mChain Se.tAndM Se.tOrM Se.tNotM Se.mAnd Se.mOr Se.mNot Se.mIf Se.aNil Se.aCons Se.mTup Se.mLst Se.mApp Se.mCut Se.oNone Se.oSome Se.sNext Se.sSeq Se.sSet Se.sRet Se.sDrop Se.sIf Se.sAug Se.sBreak Se.sCont Se.gSet Se.gsNil Se.gsCons Se.gTupM Se.sAsg Se.sPar Se.sFor Se.iRange1 Se.iRange2 Se.mFld Se.sFldM Se.sFldAugM Se.mMeth Se.mProp Se.vMake Se.iEnumM Se.iZipM Se.iSeqM Se.iStrM Se.mYes Se.mLc Se.mBM Se.gSubL Se.mIsi Se.sRaise Se.sRaise0 Se.aStar Se.mOp Se.mLen Se.mDget Se.gSubD Se.mDisp Se.mItems Se.mDc Se.gFld Se.mOutcome Se.mBad Se.sBad Se.mNeg Se.mCall Se.mGetO Se.mOpT Se.mIsiO Se.gTupS Se.iKeysM Se.iValsM Se.mDisp0 Ab.mNeg; exact (jss_one (js_ret (je_callTy mc_tuple quiet_tuple F.b_tuple Boot.tuple (ja_cons (je_lc rfl sc_Row_names.nd [("barrel", 1)] (ji_seq (je_fld (fld1 F.fo_Row_parts) (je_var (i := 0)))) (by first | (change blkC N_Row_names (defScope s_Row_names) _ _ = true; decide +kernel) | rfl) (fun s H C cl fp => jg_name (i := 1) sc_Row_names.nd) (fun s H C cl fp => jts_nil) (fun s H C cl fp => je_ix (je_var (i := 1)) (je_int))) (ja_nil)))))))⟩
/-! ### validate_number -/
abbrev N_validate_number : List Str := ["number", "smallest", "largest"]
theorem sc_validate_number : FnScope N_validate_number ["number", "smallest", "largest"] (defScope s_validate_number) := ⟨rfl, rfl, rfl, by decide +kernel, rfl, by decide +kernel, by decide +kernel⟩
theorem h_validate_number {T : Wh} (F : Fx T) : Has T "validate_number" 1 3 f_validate_number := by
  obtain ⟨f, fd, hm, hF, hB⟩ := F.fn_validate_number
  exact ⟨f, hm, fnM_of1 (k := 0) (N := N_validate_number) (m := 0) (body := m_validate_number) hF hB sc_validate_number rfl rfl (fun cdv A outer s H E hr => (by have hu := hr.units; have hu1 : _ + 1 < cLine := Nat.lt_of_le_of_lt (Nat.add_le_add_left (by decide) _) hu; have hu2 : _ + 2 < cLine := Nat.lt_of_le_of_lt (Nat.add_le_add_left (by decide) _) hu; delta m_validate_number; delta Se.sWhile Se.mVar Se.mC Se.mBin Se.mTest Se.mChain Se.tAndM Se.tOrM Se.tNotM Se.mAnd Se.mOr Se.mNot Se.mIf Se.aNil Se.aCons Se.mTup Se.mLst Se.mApp Se.mCut Se.oNone Se.oSome Se.sNext Se.sSeq Se.sSet Se.sRet Se.sDrop Se.sIf Se.sAug Se.sBreak Se.sCont Se.gSet Se.gsNil Se.gsCons Se.gTupM Se.sAsg Se.sPar Se.sFor Se.iRange1 Se.iRange2 Se.mFld Se.sFldM Se.sFldAugM Se.mMeth Se.mProp Se.vMake Se.iEnumM Se.iZipM Se.iSeqM Se.iStrM Se.mYes Se.mLc Se.mBM Se.gSubL Se.mIsi Se.sRaise Se.sRaise0 Se.aStar Se.mOp Se.mLen Se.mDget Se.gSubD Se.mDisp Se.mItems Se.mDc Se.gFld Se.mOutcome Se.mBad Se.sBad Se.mNeg Se.mCall Se.mGetO Se.mOpT Se.mIsiO Se.gTupS Se.iKeysM Se.iValsM Se.mDisp0 Ab.mNeg; exact (jss_one (js_if (jt_not (jt_chain m2_le quiet_le m2_le quiet_le (je_var (i := 1)) (je_var (i := 0)) (je_var (i := 2)))) (jss_one (js_raise0 F.x0_InvalidNumber rfl)) (jss_nil)))))⟩
/-! ### Row.rain -/
abbrev N_Row_rain : List Str := ["self"]
theorem sc_Row_rain : FnScope N_Row_rain ["self"] (defScope s_Row_rain) := ⟨rfl, rfl, rfl, by decide +kernel, rfl, by decide +kernel, by decide +kernel⟩
theorem h_Row_rain {T : Wh} (F : Fx T) : HasP T 13 "rain" 1 f_Row_rain := by
  obtain ⟨p, f, fd, h1, hF, hB⟩ := F.me_Row_rain
  exact fun Ca hC => ⟨p, f, (h1 Ca hC).1, (h1 Ca hC).2, fnM_of1 (k := 0) (N := N_Row_rain) (m := 0) (body := m_Row_rain) hF hB sc_Row_rain rfl rfl (fun cdv A outer s H E hr => (by have hu := hr.units; have hu1 : _ + 1 < cLine := Nat.lt_of_le_of_lt (Nat.add_le_add_left (by decide) _) hu; have hu2 : _ + 2 < cLine := Nat.lt_of_le_of_lt (Nat.add_le_add_left (by decide) _) hu; delta m_Row_rain; delta Se.sWhile Se.mVar Se.mC Se.mBin Se.mTest Se.mChain Se.tAndM Se.tOrM Se.tNotM Se.mAnd Se.mOr Se.mNot Se.mIf Se.aNil Se.aCons Se.mTup Se.mLst Se.mApp Se.mCut Se.oNone Se.oSome Se.sNext Se.sSeq Se.sSet Se.sRet Se.sDrop Se.sIf Se.sAug Se.sBreak Se.sCont Se.gSet Se.gsNil Se.gsCons Se.gTupM Se.sAsg Se.sPar Se.sFor Se.iRange1 Se.iRange2 Se.mFld Se.sFldM Se.sFldAugM Se.mMeth Se.mProp Se.vMake Se.iEnumM Se.iZipM Se.iSeqM Se.iStrM Se.mYes Se.mLc Se.mBM Se.gSubL Se.mIsi Se.sRaise Se.sRaise0 Se.aStar Se.mOp Se.mLen Se.mDget Se.gSubD Se.mDisp Se.mItems Se.mDc Se.gFld Se.mOutcome Se.mBad Se.sBad Se.mNeg Se.mCall Se.mGetO Se.mOpT Se.mIsiO Se.gTupS Se.iKeysM Se.iValsM Se.mDisp0 Ab.mNeg; exact (jss_one (js_ret (je_fld (fld1 F.fo_Row_weather) (je_var (i := 0)))))))⟩
/-! ### split_ticks -/
abbrev N_split_ticks : List Str := ["row", "ticks", "size"]
theorem sc_split_ticks : FnScope N_split_ticks ["row", "ticks"] (defScope s_split_ticks) := ⟨rfl, rfl, rfl, by decide +kernel, rfl, by decide +kernel, by decide +kernel⟩
theorem h_split_ticks {T : Wh} (F : Fx T) : Has T "split_ticks" 3 2 f_split_ticks := by
  obtain ⟨f, fd, hm, hF, hB⟩ := F.fn_split_ticks
  exact ⟨f, hm, fnM_of1 (k := 2) (N := N_split_ticks) (m := 1) (body := m_split_ticks) hF hB sc_split_ticks rfl rfl (fun cdv A outer s H E hr => (by have hu := hr.units; have hu1 : _ + 1 < cLine := Nat.lt_of_le_of_lt (Nat.add_le_add_left (by decide) _) hu; have hu2 : _ + 2 < cLine := Nat.lt_of_le_of_lt (Nat.add_le_add_left (by decide) _) hu; delta m_split_ticks; delta Se.sWhile Se.mVar Se.mC Se.mBin Se.mTest Se.mChain Se.tAndM Se.tOrM Se.tNotM Se.mAnd Se.mOr Se.mNot Se.mIf Se.aNil Se.aCons Se.mTup Se.mLst Se.mApp Se.mCut Se.oNone Se.oSome Se.sNext Se.sSeq Se.sSet Se.sRet Se.sDrop Se.sIf Se.sAug Se.sBreak Se.sCont Se.gSet Se.gsNil Se.gsCons Se.gTupM Se.sAsg Se.sPar Se.sFor Se.iRange1 Se.iRange2 Se.mFld Se.sFldM Se.sFldAugM Se.mMeth Se.mProp Se.vMake Se.iEnumM Se.iZipM Se.iSeqM Se.iStrM Se.mYes Se.mLc Se.mBM Se.gSubL Se.mIsi Se.sRaise Se.sRaise0 Se.aStar Se.mOp Se.mLen Se.mDget Se.gSubD Se.mDisp Se.mItems Se.mDc Se.gFld Se.mOutcome Se.mBad Se.sBad Se.mNeg Se.mCall Se.mGetO Se.mOpT Se.mIsiO Se.gTupS Se.iKeysM Se.iValsM Se.mDisp0 Ab.mNeg; exact (jss_cons (js_set sc_split_ticks.nd (je_callB mc_len quiet_len F.b_len Boot.len (ja_cons (je_prop (tbl1 ⟨F.cl_Row, h_Row_rain F⟩) (by simp) (hr.mono (by decide)) (je_var (i := 0))) (ja_nil)))) (jss_one (js_ret (je_tup (ja_cons (je_op m2_div quiet_div (je_var (i := 1)) (je_var (i := 2))) (ja_cons (je_op m2_mod quiet_mod (je_callTy mc_intB quiet_intB F.b_int Boot.int (ja_cons (je_var (i := 1)) (ja_nil))) (je_var (i := 2))) (ja_nil)))))))))⟩
/-! ### Row.barrels -/
abbrev N_Row_barrels : List Str := ["self"]
theorem sc_Row_barrels : FnScope N_Row_barrels ["self"] (defScope s_Row_barrels) := ⟨rfl, rfl, rfl, by decide +kernel, rfl, by decide +kernel, by decide +kernel⟩
theorem h_Row_barrels {T : Wh} (F : Fx T) : HasP T 13 "barrels" 1 f_Row_barrels := by
  obtain ⟨p, f, fd, h1, hF, hB⟩ := F.me_Row_barrels
  exact fun Ca hC => ⟨p, f, (h1 Ca hC).1, (h1 Ca hC).2, fnM_of1 (k := 0) (N := N_Row_barrels) (m := 0) (body := m_Row_barrels) hF hB sc_Row_barrels rfl rfl (fun cdv A outer s H E hr => (by have hu := hr.units; have hu1 : _ + 1 < cLine := Nat.lt_of_le_of_lt (Nat.add_le_add_left (by decide) _) hu; have hu2 : _ + 2 < cLine := Nat.lt_of_le_of_lt (Nat.add_le_add_left (by decide) _) hu; delta m_Row_barrels; delta Se.sWhile Se.mVar Se.mC Se.mBin Se.mTest Se.mChain Se.tAndM Se.tOrM Se.tNotM Se.mAnd Se.mOr Se.mNot Se.mIf Se.aNil Se.aCons Se.mTup Se.mLst Se.mApp Se.mCut Se.oNone Se.oSome Se.sNext Se.sSeq Se.sSet Se.sRet Se.sDrop Se.sIf Se.sAug Se.sBreak Se.sCont Se.gSet Se.gsNil Se.gsCons Se.gTupM Se.sAsg Se.sPar Se.sFor Se.iRange1 Se.iRange2 Se.mFld Se.sFldM Se.sFldAugM Se.mMeth Se.mProp Se.vMake Se.iEnumM Se.iZipM Se.iSeqM Se.iStrM Se.mYes Se.mLc Se.mBM Se.gSubL Se.mIsi Se.sRaise Se.sRaise0 Se.aStar Se.mOp Se.mLen Se.mDget Se.gSubD Se.mDisp Se.mItems Se.mDc Se.gFld Se.mOutcome Se.mBad Se.sBad Se.mNeg Se.mCall Se.mGetO Se.mOpT Se.mIsiO Se.gTupS Se.iKeysM Se.iValsM Se.mDisp0 Ab.mNeg; exact (jss_one (js_ret (je_fld (fld1 F.fo_Row_parts) (je_var (i := 0)))))))⟩
/-! ### Flow.play_round -/
abbrev N_Flow_play_round : List Str := ["self", "level", "inflow", "rows", "water", "draw", "full", "over", "drawn"]
theorem sc_Flow_play_round : FnScope N_Flow_play_round ["self", "level", "inflow"] (defScope s_Flow_play_round) := ⟨rfl, rfl, rfl, by decide +kernel, rfl, by decide +kernel, by decide +kernel⟩
theorem h_Flow_play_round {T : Wh} (F : Fx T) : HasM T 12 "play_round" 1 3 f_Flow_play_round := by
  obtain ⟨f, fd, h1, hF, hB⟩ := F.me_Flow_play_round
  exact ⟨by decide +kernel, fun Ca hC => ⟨f, (h1 Ca hC).1, (h1 Ca hC).2, fnM_of1 (k := 0) (N := N_Flow_play_round) (m := 6) (body := m_Flow_play_round) hF hB sc_Flow_play_round rfl rfl (fun cdv A outer s H E hr => (by have hu := hr.units; have hu1 : _ + 1 < cLine := Nat.lt_of_le_of_lt (Nat.add_le_add_left (by decide) _) hu; have hu2 : _ + 2 < cLine := Nat.lt_of_le_of_lt (Nat.add_le_add_left (by decide) _) hu; delta m_Flow_play_round; delta Se.sWhile Se.mVar Se.mC Se.mBin Se.mTest Se.mChain Se.tAndM Se.tOrM Se.tNotM Se.mAnd Se.mOr Se.mNot Se.mIf Se.aNil Se.aCons Se.mTup Se.mLst Se.mApp Se.mCut Se.oNone Se.oSome Se.sNext Se.sSeq Se.sSet Se.sRet Se.sDrop Se.sIf Se.sAug Se.sBreak Se.sCont Se.gSet Se.gsNil Se.gsCons Se.gTupM Se.sAsg Se.sPar Se.sFor Se.iRange1 Se.iRange2 Se.mFld Se.sFldM Se.sFldAugM Se.mMeth Se.mProp Se.vMake Se.iEnumM Se.iZipM Se.iSeqM Se.iStrM Se.mYes Se.mLc Se.mBM Se.gSubL Se.mIsi Se.sRaise Se.sRaise0 Se.aStar Se.mOp Se.mLen Se.mDget Se.gSubD Se.mDisp Se.mItems Se.mDc Se.gFld Se.mOutcome Se.mBad Se.sBad Se.mNeg Se.mCall Se.mGetO Se.mOpT Se.mIsiO Se.gTupS Se.iKeysM Se.iValsM Se.mDisp0 Ab.mNeg; exact (jss_cons (js_set sc_Flow_play_round.nd (je_lst (ja_nil))) (jss_cons (js_for cx1_pass rfl (ji_zip F.b_zip (je_var (i := 2)) (je_fld (fld1 F.fo_Flow_draws) (je_var (i := 0)))) (jg_tup rfl (jgs_cons (jg_name (i := 4) sc_Flow_play_round.nd) (jgs_cons (jg_name (i := 5) sc_Flow_play_round.nd) (jgs_nil)))) (jss_cons (js_set sc_Flow_play_round.nd (je_op m2_add quiet_add (je_var (i := 1)) (je_var (i := 4)))) (jss_cons (js_set sc_Flow_play_round.nd (je_callB (mc_max2 rfl) quiet_max2 F.b_max Boot.max (ja_cons (je_int) (ja_cons (je_op m2_sub quiet_sub (je_var (i := 6)) (je_fld (fld1 F.fo_Flow_capacity) (je_var (i := 0)))) (ja_nil))))) (jss_cons (js_set sc_Flow_play_round.nd (je_callB (mc_min2 rfl) quiet_min2 F.b_min Boot.min (ja_cons (je_var (i := 5)) (ja_cons (je_op m2_sub quiet_sub (je_var (i := 6)) (je_var (i := 7))) (ja_nil))))) (jss_cons (js_set sc_Flow_play_round.nd (je_op m2_sub quiet_sub (je_op m2_sub quiet_sub (je_var (i := 6)) (je_var (i := 7))) (je_var (i := 8)))) (jss_one (js_expr (je_append (je_var (i := 3)) (je_tup (ja_cons (je_var (i := 1)) (ja_cons (je_var (i := 8)) (ja_cons (je_op m2_sub quiet_sub (je_var (i := 5)) (je_var (i := 8))) (ja_cons (je_var (i := 7)) (ja_nil)))))))))))))) (jss_one (js_ret (je_var (i := 3))))))))⟩⟩
/-! ### Flow.alike -/
abbrev N_Flow_alike : List Str := ["self", "level", "inflow", "step", "peak", "trough", "now", "water", "draw"]
theorem sc_Flow_alike : FnScope N_Flow_alike ["self", "level", "inflow", "step"] (defScope s_Flow_alike) := ⟨rfl, rfl, rfl, by decide +kernel, rfl, by decide +kernel, by decide +kernel⟩
theorem h_Flow_alike {T : Wh} (F : Fx T) : HasM T 12 "alike" 1 4 f_Flow_alike := by
  obtain ⟨f, fd, h1, hF, hB⟩ := F.me_Flow_alike
  exact ⟨by decide +kernel, fun Ca hC => ⟨f, (h1 Ca hC).1, (h1 Ca hC).2, fnM_of1 (k := 0) (N := N_Flow_alike) (m := 5) (body := m_Flow_alike) hF hB sc_Flow_alike rfl rfl (fun cdv A outer s H E hr => (by have hu := hr.units; have hu1 : _ + 1 < cLine := Nat.lt_of_le_of_lt (Nat.add_le_add_left (by decide) _) hu; have hu2 : _ + 2 < cLine := Nat.lt_of_le_of_lt (Nat.add_le_add_left (by decide) _) hu; delta m_Flow_alike; delta Se.sWhile Se.mVar Se.mC Se.mBin Se.mTest Se.mChain Se.tAndM Se.tOrM Se.tNotM Se.mAnd Se.mOr Se.mNot Se.mIf Se.aNil Se.aCons Se.mTup Se.mLst Se.mApp Se.mCut Se.oNone Se.oSome Se.sNext Se.sSeq Se.sSet Se.sRet Se.sDrop Se.sIf Se.sAug Se.sBreak Se.sCont Se.gSet Se.gsNil Se.gsCons Se.gTupM Se.sAsg Se.sPar Se.sFor Se.iRange1 Se.iRange2 Se.mFld Se.sFldM Se.sFldAugM Se.mMeth Se.mProp Se.vMake Se.iEnumM Se.iZipM Se.iSeqM Se.iStrM Se.mYes Se.mLc Se.mBM Se.gSubL Se.mIsi Se.sRaise Se.sRaise0 Se.aStar Se.mOp Se.mLen Se.mDget Se.gSubD Se.mDisp Se.mItems Se.mDc Se.gFld Se.mOutcome Se.mBad Se.sBad Se.mNeg Se.mCall Se.mGetO Se.mOpT Se.mIsiO Se.gTupS Se.iKeysM Se.iValsM Se.mDisp0 Ab.mNeg; exact (jss_cons (js_asg (je_tup (ja_cons (je_int) (ja_cons (je_int) (ja_cons (je_int) (ja_nil))))) (jg_tup rfl (jgs_cons (jg_name (i := 4) sc_Flow_alike.nd) (jgs_cons (jg_name (i := 5) sc_Flow_alike.nd) (jgs_cons (jg_name (i := 6) sc_Flow_alike.nd) (jgs_nil)))))) (jss_cons (js_for cx1_pass rfl (ji_zip F.b_zip (je_var (i := 2)) (je_fld (fld1 F.fo_Flow_draws) (je_var (i := 0)))) (jg_tup rfl (jgs_cons (jg_name (i := 7) sc_Flow_alike.nd) (jgs_cons (jg_name (i := 8) sc_Flow_alike.nd) (jgs_nil)))) (jss_cons (js_set sc_Flow_alike.nd (je_callB (mc_max2 rfl) quiet_max2 F.b_max Boot.max (ja_cons (je_var (i := 4)) (ja_cons (je_op m2_add quiet_add (je_var (i := 6)) (je_var (i := 7))) (ja_nil))))) (jss_cons (js_aug sc_Flow_alike.nd m2_iadd quiet_iadd (je_op m2_sub quiet_sub (je_var (i := 7)) (je_var (i := 8)))) (jss_one (js_set sc_Flow_alike.nd (je_callB (mc_min2 rfl) quiet_min2 F.b_min Boot.min (ja_cons (je_var (i := 5)) (ja_cons (je_var (i := 6)) (ja_nil))))))))) (jss_cons (js_if (jt_cmp m2_gt (quiet_cmpI _) (je_var (i := 3)) (je_int)) (jss_one (js_ret (je_op m2_add quiet_add (je_op m2_div quiet_div (je_op m2_sub quiet_sub (je_op m2_sub quiet_sub (je_fld (fld1 F.fo_Flow_capacity) (je_var (i := 0))) (je_var (i := 4))) (je_var (i := 1))) (je_var (i := 3))) (je_int)))) (jss_nil)) (jss_one (js_ret (je_op m2_add quiet_add (je_op m2_div quiet_div (je_op m2_add quiet_add (je_var (i := 1)) (je_var (i := 5))) (je_op m2_sub quiet_sub (je_int) (je_var (i := 3)))) (je_int)))))))))⟩⟩
/-! ### Stretch.__init__ -/
abbrev N_Stretch_init : List Str := ["self", "begin", "count", "level", "step", "inflow"]
theorem sc_Stretch_init : FnScope N_Stretch_init ["self", "begin", "count", "level", "step", "inflow"] (defScope s_Stretch_init) := ⟨rfl, rfl, rfl, by decide +kernel, rfl, by decide +kernel, by decide +kernel⟩
theorem h_Stretch_init {T : Wh} (F : Fx T) : HasI T 11 1 6 f_Stretch_init := by
  obtain ⟨Ca, f, fd, hm, hM, hF, hB⟩ := F.in_Stretch
  exact ⟨Ca, f, hm, hM, fnM_of1 (k := 0) (N := N_Stretch_init) (m := 0) (body := m_Stretch_init) hF hB sc_Stretch_init rfl rfl (fun cdv A outer s H E hr => (by have hu := hr.units; have hu1 : _ + 1 < cLine := Nat.lt_of_le_of_lt (Nat.add_le_add_left (by decide) _) hu; have hu2 : _ + 2 < cLine := Nat.lt_of_le_of_lt (Nat.add_le_add_left (by decide) _) hu; delta m_Stretch_init; delta Se.sWhile Se.mVar Se.mC Se.mBin Se.mTest Se.mChain Se.tAndM Se.tOrM Se.tNotM Se.mAnd Se.mOr Se.mNot Se.mIf Se.aNil Se.aCons Se.mTup Se.mLst Se.mApp Se.mCut Se.oNone Se.oSome Se.sNext Se.sSeq Se.sSet Se.sRet Se.sDrop Se.sIf Se.sAug Se.sBreak Se.sCont Se.gSet Se.gsNil Se.gsCons Se.gTupM Se.sAsg Se.sPar Se.sFor Se.iRange1 Se.iRange2 Se.mFld Se.sFldM Se.sFldAugM Se.mMeth Se.mProp Se.vMake Se.iEnumM Se.iZipM Se.iSeqM Se.iStrM Se.mYes Se.mLc Se.mBM Se.gSubL Se.mIsi Se.sRaise Se.sRaise0 Se.aStar Se.mOp Se.mLen Se.mDget Se.gSubD Se.mDisp Se.mItems Se.mDc Se.gFld Se.mOutcome Se.mBad Se.sBad Se.mNeg Se.mCall Se.mGetO Se.mOpT Se.mIsiO Se.gTupS Se.iKeysM Se.iValsM Se.mDisp0 Ab.mNeg; exact (jss_cons (js_fld (fld1 F.fo_Stretch_begin) (je_var (i := 0)) (je_var (i := 1))) (jss_cons (js_fld (fld1 F.fo_Stretch_count) (je_var (i := 0)) (je_var (i := 2))) (jss_cons (js_fld (fld1 F.fo_Stretch_first_level) (je_var (i := 0)) (je_var (i := 3))) (jss_cons (js_fld (fld1 F.fo_Stretch_step) (je_var (i := 0)) (je_var (i := 4))) (jss_one (js_fld (fld1 F.fo_Stretch_inflow) (je_var (i := 0)) (je_var (i := 5))))))))))⟩
/-! ### Flow.extend -/
abbrev N_Flow_extend : List Str := ["self", "begin", "count", "level", "inflow", "left", "rows", "step", "times", "row"]
theorem sc_Flow_extend : FnScope N_Flow_extend ["self", "begin", "count", "level", "inflow"] (defScope s_Flow_extend) := ⟨rfl, rfl, rfl, by decide +kernel, rfl, by decide +kernel, by decide +kernel⟩
theorem h_Flow_extend {T : Wh} (F : Fx T) : HasM T 12 "extend" 3 5 f_Flow_extend := by
  obtain ⟨f, fd, h1, hF, hB⟩ := F.me_Flow_extend
  exact ⟨by decide +kernel, fun Ca hC => ⟨f, (h1 Ca hC).1, (h1 Ca hC).2, fnM_of1 (k := 2) (N := N_Flow_extend) (m := 5) (body := m_Flow_extend) hF hB sc_Flow_extend rfl rfl (fun cdv A outer s H E hr => (by have hu := hr.units; have hu1 : _ + 1 < cLine := Nat.lt_of_le_of_lt (Nat.add_le_add_left (by decide) _) hu; have hu2 : _ + 2 < cLine := Nat.lt_of_le_of_lt (Nat.add_le_add_left (by decide) _) hu; delta m_Flow_extend; delta Se.sWhile Se.mVar Se.mC Se.mBin Se.mTest Se.mChain Se.tAndM Se.tOrM Se.tNotM Se.mAnd Se.mOr Se.mNot Se.mIf Se.aNil Se.aCons Se.mTup Se.mLst Se.mApp Se.mCut Se.oNone Se.oSome Se.sNext Se.sSeq Se.sSet Se.sRet Se.sDrop Se.sIf Se.sAug Se.sBreak Se.sCont Se.gSet Se.gsNil Se.gsCons Se.gTupM Se.sAsg Se.sPar Se.sFor Se.iRange1 Se.iRange2 Se.mFld Se.sFldM Se.sFldAugM Se.mMeth Se.mProp Se.vMake Se.iEnumM Se.iZipM Se.iSeqM Se.iStrM Se.mYes Se.mLc Se.mBM Se.gSubL Se.mIsi Se.sRaise Se.sRaise0 Se.aStar Se.mOp Se.mLen Se.mDget Se.gSubD Se.mDisp Se.mItems Se.mDc Se.gFld Se.mOutcome Se.mBad Se.sBad Se.mNeg Se.mCall Se.mGetO Se.mOpT Se.mIsiO Se.gTupS Se.iKeysM Se.iValsM Se.mDisp0 Ab.mNeg; exact (jss_cons (js_set sc_Flow_extend.nd (je_var (i := 2))) (jss_cons (js_while cx1_pass ((jw_or (jt_cmp m2_isN quiet_isN (je_var (i := 5)) (je_non)) (jw_or1 (jt_cmp m2_gt (quiet_cmpI _) (je_var (i := 5)) (je_int)))).jt) (jss_cons (js_set sc_Flow_extend.nd (je_meth (tbl1 ⟨F.cl_Flow, h_Flow_play_round F⟩) (by simp) (hr.mono (by decide)) (je_var (i := 0)) (ja_cons (je_var (i := 3)) (ja_cons (je_var (i := 4)) (ja_nil))))) (jss_cons (js_set sc_Flow_extend.nd (je_op m2_sub quiet_sub (je_ix (je_ix (je_var (i := 6)) (je_neg (je_int))) (je_int)) (je_var (i := 3)))) (jss_cons (js_if (jt_cmp (m2_eq hu) quiet_eq (je_var (i := 7)) (je_int)) (jss_one (js_set sc_Flow_extend.nd (je_var (i := 5)))) (jss_one (js_if (jt_val (je_callB (mc_any rfl) quiet_any F.b_any Boot.any (ja_cons (je_lc rfl sc_Flow_extend.nd [("row", 9)] (ji_seq (je_var (i := 6))) (by first | (change blkC N_Flow_extend (defScope s_Flow_extend) _ _ = true; decide +kernel) | rfl) (fun s H C cl fp => jg_name (i := 9) sc_Flow_extend.nd) (fun s H C cl fp => jts_nil) (fun s H C cl fp => je_or (je_cmp m2_gt (quiet_cmpI _) (je_ix (je_var (i := 9)) (je_int)) (je_int)) (je_one (je_cmp m2_gt (quiet_cmpI _) (je_ix (je_var (i := 9)) (je_int)) (je_int))))) (ja_nil)))) (jss_one (js_set sc_Flow_extend.nd (je_int))) (jss_cons (js_set sc_Flow_extend.nd (je_meth (tbl1 ⟨F.cl_Flow, h_Flow_alike F⟩) (by simp) (hr.mono (by decide)) (je_var (i := 0)) (ja_cons (je_var (i := 3)) (ja_cons (je_var (i := 4)) (ja_cons (je_var (i := 7)) (ja_nil)))))) (jss_one (js_if ((jw_and (jt_cmp m2_notN quiet_notN (je_var (i := 5)) (je_non)) (jw_and1 (jt_cmp m2_lt (quiet_cmpI _) (je_var (i := 5)) (je_var (i := 8))))).jt) (jss_one (js_set sc_Flow_extend.nd (je_var (i := 5)))) (jss_nil))))))) (jss_cons (js_expr (je_append (je_fld (fld1 F.fo_Flow_stretches) (je_var (i := 0))) (je_make (h_Stretch_init F) (by decide +kernel) (hr.mono (by decide)) (ja_cons (je_var (i := 1)) (ja_cons (je_var (i := 8)) (ja_cons (je_var (i := 3)) (ja_cons (je_var (i := 7)) (ja_cons (je_var (i := 4)) (ja_nil))))))))) (jss_cons (js_if (jt_cmp m2_isN quiet_isN (je_var (i := 8)) (je_non)) (jss_one (js_ret (je_tup (ja_cons (je_non) (ja_cons (je_var (i := 3)) (ja_nil)))))) (jss_nil)) (jss_cons (js_par rfl sc_Flow_extend.nd (ja_cons (je_op m2_add quiet_add (je_var (i := 1)) (je_var (i := 8))) (ja_cons (je_op m2_add quiet_add (je_var (i := 3)) (je_op m2_mul quiet_mul (je_var (i := 8)) (je_var (i := 7)))) (ja_nil)))) (jss_one (js_if (jt_cmp m2_notN quiet_notN (je_var (i := 5)) (je_non)) (jss_one (js_aug sc_Flow_extend.nd m2_isub quiet_isub (je_var (i := 8)))) (jss_nil)))))))))) (jss_one (js_ret (je_tup (ja_cons (je_var (i := 1)) (ja_cons (je_var (i := 3)) (ja_nil))))))))))⟩⟩
/-! ### Flow.play -/
abbrev N_Flow_play : List Str := ["self", "stretch"]
theorem sc_Flow_play : FnScope N_Flow_play ["self", "stretch"] (defScope s_Flow_play) := ⟨rfl, rfl, rfl, by decide +kernel, rfl, by decide +kernel, by decide +kernel⟩
theorem h_Flow_play {T : Wh} (F : Fx T) : HasM T 12 "play" 2 2 f_Flow_play := by
  obtain ⟨f, fd, h1, hF, hB⟩ := F.me_Flow_play
  exact ⟨by decide +kernel, fun Ca hC => ⟨f, (h1 Ca hC).1, (h1 Ca hC).2, fnM_of1 (k := 1) (N := N_Flow_play) (m := 0) (body := m_Flow_play) hF hB sc_Flow_play rfl rfl (fun cdv A outer s H E hr => (by have hu := hr.units; have hu1 : _ + 1 < cLine := Nat.lt_of_le_of_lt (Nat.add_le_add_left (by decide) _) hu; have hu2 : _ + 2 < cLine := Nat.lt_of_le_of_lt (Nat.add_le_add_left (by decide) _) hu; delta m_Flow_play; delta Se.sWhile Se.mVar Se.mC Se.mBin Se.mTest Se.mChain Se.tAndM Se.tOrM Se.tNotM Se.mAnd Se.mOr Se.mNot Se.mIf Se.aNil Se.aCons Se.mTup Se.mLst Se.mApp Se.mCut Se.oNone Se.oSome Se.sNext Se.sSeq Se.sSet Se.sRet Se.sDrop Se.sIf Se.sAug Se.sBreak Se.sCont Se.gSet Se.gsNil Se.gsCons Se.gTupM Se.sAsg Se.sPar Se.sFor Se.iRange1 Se.iRange2 Se.mFld Se.sFldM Se.sFldAugM Se.mMeth Se.mProp Se.vMake Se.iEnumM Se.iZipM Se.iSeqM Se.iStrM Se.mYes Se.mLc Se.mBM Se.gSubL Se.mIsi Se.sRaise Se.sRaise0 Se.aStar Se.mOp Se.mLen Se.mDget Se.gSubD Se.mDisp Se.mItems Se.mDc Se.gFld Se.mOutcome Se.mBad Se.sBad Se.mNeg Se.mCall Se.mGetO Se.mOpT Se.mIsiO Se.gTupS Se.iKeysM Se.iValsM Se.mDisp0 Ab.mNeg; exact (jss_one (js_ret (je_meth (tbl1 ⟨F.cl_Flow, h_Flow_play_round F⟩) (by simp) (hr.mono (by decide)) (je_var (i := 0)) (ja_cons (je_fld (fld1 F.fo_Stretch_first_level) (je_var (i := 1))) (ja_cons (je_fld (fld1 F.fo_Stretch_inflow) (je_var (i := 1))) (ja_nil))))))))⟩⟩
/-! ### Flow.is_like_last -/
abbrev N_Flow_is_like_last : List Str := ["self", "stretch", "last"]
theorem sc_Flow_is_like_last : FnScope N_Flow_is_like_last ["self", "stretch"] (defScope s_Flow_is_like_last) := ⟨rfl, rfl, rfl, by decide +kernel, rfl, by decide +kernel, by decide +kernel⟩
theorem h_Flow_is_like_last {T : Wh} (F : Fx T) : HasM T 12 "is_like_last" 3 2 f_Flow_is_like_last := by
  obtain ⟨f, fd, h1, hF, hB⟩ := F.me_Flow_is_like_last
  exact ⟨by decide +kernel, fun Ca hC => ⟨f, (h1 Ca hC).1, (h1 Ca hC).2, fnM_of1 (k := 2) (N := N_Flow_is_like_last) (m := 1) (body := m_Flow_is_like_last) hF hB sc_Flow_is_like_last rfl rfl (fun cdv A outer s H E hr => (by have hu := hr.units; have hu1 : _ + 1 < cLine := Nat.lt_of_le_of_lt (Nat.add_le_add_left (by decide) _) hu; have hu2 : _ + 2 < cLine := Nat.lt_of_le_of_lt (Nat.add_le_add_left (by decide) _) hu; delta m_Flow_is_like_last; delta Se.sWhile Se.mVar Se.mC Se.mBin Se.mTest Se.mChain Se.tAndM Se.tOrM Se.tNotM Se.mAnd Se.mOr Se.mNot Se.mIf Se.aNil Se.aCons Se.mTup Se.mLst Se.mApp Se.mCut Se.oNone Se.oSome Se.sNext Se.sSeq Se.sSet Se.sRet Se.sDrop Se.sIf Se.sAug Se.sBreak Se.sCont Se.gSet Se.gsNil Se.gsCons Se.gTupM Se.sAsg Se.sPar Se.sFor Se.iRange1 Se.iRange2 Se.mFld Se.sFldM Se.sFldAugM Se.mMeth Se.mProp Se.vMake Se.iEnumM Se.iZipM Se.iSeqM Se.iStrM Se.mYes Se.mLc Se.mBM Se.gSubL Se.mIsi Se.sRaise Se.sRaise0 Se.aStar Se.mOp Se.mLen Se.mDget Se.gSubD Se.mDisp Se.mItems Se.mDc Se.gFld Se.mOutcome Se.mBad Se.sBad Se.mNeg Se.mCall Se.mGetO Se.mOpT Se.mIsiO Se.gTupS Se.iKeysM Se.iValsM Se.mDisp0 Ab.mNeg; exact (jss_cons (js_set sc_Flow_is_like_last.nd (je_ix (je_fld (fld1 F.fo_Flow_stretches) (je_var (i := 0))) (je_neg (je_int)))) (jss_one (js_ret (je_and (je_cmp (m2_eq hu) quiet_eq (je_fld (fld1 F.fo_Stretch_step) (je_var (i := 1))) (je_int)) (je_and (je_cmp (m2_eq hu) quiet_eq (je_fld (fld1 F.fo_Stretch_first_level) (je_var (i := 1))) (je_fld (fld1 F.fo_Stretch_first_level) (je_var (i := 2)))) (je_one (je_cmp (m2_eq hu) quiet_eq (je_meth (tbl1 ⟨F.cl_Flow, h_Flow_play F⟩) (by simp) (hr.mono (by decide)) (je_var (i := 0)) (ja_cons (je_var (i := 1)) (ja_nil))) (je_meth (tbl1 ⟨F.cl_Flow, h_Flow_play F⟩) (by simp) (hr.mono (by decide)) (je_var (i := 0)) (ja_cons (je_var (i := 2)) (ja_nil))))))))))))⟩⟩
/-! ### Flow.__init__ -/
abbrev N_Flow_init : List Str := ["self", "capacity", "rain", "draws", "above", "begin", "level", "count", "flow", "inflow", "one", "other"]
theorem sc_Flow_init : FnScope N_Flow_init ["self", "capacity", "rain", "draws", "above"] (defScope s_Flow_init) := ⟨rfl, rfl, rfl, by decide +kernel, rfl, by decide +kernel, by decide +kernel⟩
theorem h_Flow_init {T : Wh} (F : Fx T) : HasI T 12 4 5 f_Flow_init := by
  obtain ⟨Ca, f, fd, hm, hM, hF, hB⟩ := F.in_Flow
  exact ⟨Ca, f, hm, hM, fnM_of1 (k := 3) (N := N_Flow_init) (m := 7) (body := m_Flow_init) hF hB sc_Flow_init rfl rfl (fun cdv A outer s H E hr => (by have hu := hr.units; have hu1 : _ + 1 < cLine := Nat.lt_of_le_of_lt (Nat.add_le_add_left (by decide) _) hu; have hu2 : _ + 2 < cLine := Nat.lt_of_le_of_lt (Nat.add_le_add_left (by decide) _) hu; delta m_Flow_init; delta Se.sWhile Se.mVar Se.mC Se.mBin Se.mTest Se.mChain Se.tAndM Se.tOrM Se.tNotM Se.mAnd Se.mOr Se.mNot Se.mIf Se.aNil Se.aCons Se.mTup Se.mLst Se.mApp Se.mCut Se.oNone Se.oSome Se.sNext Se.sSeq Se.sSet Se.sRet Se.sDrop Se.sIf Se.sAug Se.sBreak Se.sCont Se.gSet Se.gsNil Se.gsCons Se.gTupM Se.sAsg Se.sPar Se.sFor Se.iRange1 Se.iRange2 Se.mFld Se.sFldM Se.sFldAugM Se.mMeth Se.mProp Se.vMake Se.iEnumM Se.iZipM Se.iSeqM Se.iStrM Se.mYes Se.mLc Se.mBM Se.gSubL Se.mIsi Se.sRaise Se.sRaise0 Se.aStar Se.mOp Se.mLen Se.mDget Se.gSubD Se.mDisp Se.mItems Se.mDc Se.gFld Se.mOutcome Se.mBad Se.sBad Se.mNeg Se.mCall Se.mGetO Se.mOpT Se.mIsiO Se.gTupS Se.iKeysM Se.iValsM Se.mDisp0 Ab.mNeg; exact (jss_cons (js_fld (fld1 F.fo_Flow_capacity) (je_var (i := 0)) (je_var (i := 1))) (jss_cons (js_fld (fld1 F.fo_Flow_draws) (je_var (i := 0)) (je_var (i := 3))) (jss_cons (js_fld (fld1 F.fo_Flow_stretches) (je_var (i := 0)) (je_lst (ja_nil))) (jss_cons (js_asg (je_tup (ja_cons (je_int) (ja_cons (je_int) (ja_nil)))) (jg_tup rfl (jgs_cons (jg_name (i := 5) sc_Flow_init.nd) (jgs_cons (jg_name (i := 6) sc_Flow_init.nd) (jgs_nil))))) (jss_cons (js_for cx1_pass rfl (ji_seq (je_var (i := 4))) (jg_tup rfl (jgs_cons (jg_name (i := 7) sc_Flow_init.nd) (jgs_cons (jg_name (i := 8) sc_Flow_init.nd) (jgs_nil)))) (jss_cons (js_set sc_Flow_init.nd (je_callTy mc_tuple quiet_tuple F.b_tuple Boot.tuple (ja_cons (je_lc rfl sc_Flow_init.nd [("one", 10), ("other", 11)] (ji_zip F.b_zip (je_var (i := 2)) (je_var (i := 8))) (by first | (change blkC N_Flow_init (defScope s_Flow_init) _ _ = true; decide +kernel) | rfl) (fun s H C cl fp => jg_tup rfl (jgs_cons (jg_name (i := 10) sc_Flow_init.nd) (jgs_cons (jg_name (i := 11) sc_Flow_init.nd) (jgs_nil)))) (fun s H C cl fp => jts_nil) (fun s H C cl fp => je_op m2_add quiet_add (je_var (i := 10)) (je_var (i := 11)))) (ja_nil)))) (jss_one (js_asg (je_meth (tbl1 ⟨F.cl_Flow, h_Flow_extend F⟩) (by simp) (hr.mono (by decide)) (je_var (i := 0)) (ja_cons (je_var (i := 5)) (ja_cons (je_var (i := 7)) (ja_cons (je_var (i := 6)) (ja_cons (je_var (i := 9)) (ja_nil)))))) (jg_tup rfl (jgs_cons (jg_name (i := 5) sc_Flow_init.nd) (jgs_cons (jg_name (i := 6) sc_Flow_init.nd) (jgs_nil)))))))) (jss_cons (js_fld (fld1 F.fo_Flow_settled) (je_var (i := 0)) (je_fld (fld1 F.fo_Stretch_begin) (je_ix (je_fld (fld1 F.fo_Flow_stretches) (je_var (i := 0))) (je_neg (je_int))))) (jss_one (js_while cx1_pass ((jw_and (jt_cmp m2_gt (quiet_cmpI _) (je_callB mc_len quiet_len F.b_len Boot.len (ja_cons (je_fld (fld1 F.fo_Flow_stretches) (je_var (i := 0))) (ja_nil))) (je_int)) (jw_and1 (jt_val (je_meth (tbl1 ⟨F.cl_Flow, h_Flow_is_like_last F⟩) (by simp) (hr.mono (by decide)) (je_var (i := 0)) (ja_cons (je_ix (je_fld (fld1 F.fo_Flow_stretches) (je_var (i := 0))) (je_neg (je_int))) (ja_nil)))))).jt) (jss_cons (js_fld (fld1 F.fo_Flow_settled) (je_var (i := 0)) (je_fld (fld1 F.fo_Stretch_begin) (je_ix (je_fld (fld1 F.fo_Flow_stretches) (je_var (i := 0))) (je_neg (je_int))))) (jss_cons (js_fld (fld1 F.fo_Stretch_count) (je_ix (je_fld (fld1 F.fo_Flow_stretches) (je_var (i := 0))) (je_neg (je_int))) (je_non)) (jss_one (js_expr (je_pop (je_fld (fld1 F.fo_Flow_stretches) (je_var (i := 0))))))))))))))))))⟩
/-! ### Flow.outflow -/
abbrev N_Flow_outflow : List Str := ["self", "row", "stretch"]
theorem sc_Flow_outflow : FnScope N_Flow_outflow ["self"] (defScope s_Flow_outflow) := ⟨rfl, rfl, rfl, by decide +kernel, rfl, by decide +kernel, by decide +kernel⟩
theorem h_Flow_outflow {T : Wh} (F : Fx T) : HasM T 12 "outflow" 3 1 f_Flow_outflow := by
  obtain ⟨f, fd, h1, hF, hB⟩ := F.me_Flow_outflow
  exact ⟨by decide +kernel, fun Ca hC => ⟨f, (h1 Ca hC).1, (h1 Ca hC).2, fnM_of1 (k := 2) (N := N_Flow_outflow) (m := 2) (body := m_Flow_outflow) hF hB sc_Flow_outflow rfl rfl (fun cdv A outer s H E hr => (by have hu := hr.units; have hu1 : _ + 1 < cLine := Nat.lt_of_le_of_lt (Nat.add_le_add_left (by decide) _) hu; have hu2 : _ + 2 < cLine := Nat.lt_of_le_of_lt (Nat.add_le_add_left (by decide) _) hu; delta m_Flow_outflow; delta Se.sWhile Se.mVar Se.mC Se.mBin Se.mTest Se.mChain Se.tAndM Se.tOrM Se.tNotM Se.mAnd Se.mOr Se.mNot Se.mIf Se.aNil Se.aCons Se.mTup Se.mLst Se.mApp Se.mCut Se.oNone Se.oSome Se.sNext Se.sSeq Se.sSet Se.sRet Se.sDrop Se.sIf Se.sAug Se.sBreak Se.sCont Se.gSet Se.gsNil Se.gsCons Se.gTupM Se.sAsg Se.sPar Se.sFor Se.iRange1 Se.iRange2 Se.mFld Se.sFldM Se.sFldAugM Se.mMeth Se.mProp Se.vMake Se.iEnumM Se.iZipM Se.iSeqM Se.iStrM Se.mYes Se.mLc Se.mBM Se.gSubL Se.mIsi Se.sRaise Se.sRaise0 Se.aStar Se.mOp Se.mLen Se.mDget Se.gSubD Se.mDisp Se.mItems Se.mDc Se.gFld Se.mOutcome Se.mBad Se.sBad Se.mNeg Se.mCall Se.mGetO Se.mOpT Se.mIsiO Se.gTupS Se.iKeysM Se.iValsM Se.mDisp0 Ab.mNeg; exact (jss_one (js_ret (je_lc rfl sc_Flow_outflow.nd [("stretch", 2)] (ji_seq (je_fld (fld1 F.fo_Flow_stretches) (je_var (i := 0)))) (by first | (change blkC N_Flow_outflow (defScope s_Flow_outflow) _ _ = true; decide +kernel) | rfl) (fun s H C cl fp => jg_name (i := 2) sc_Flow_outflow.nd) (fun s H C cl fp => jts_nil) (fun s H C cl fp => je_tup (ja_cons (je_fld (fld1 F.fo_Stretch_count) (je_var (i := 2))) (ja_cons (je_callTy mc_tuple quiet_tuple F.b_tuple Boot.tuple (ja_cons (je_lc rfl sc_Flow_outflow.nd [("row", 1)] (ji_seq (je_meth (tbl1 ⟨F.cl_Flow, h_Flow_play F⟩) (by simp) (hr.mono (by decide)) (je_var (i := 0)) (ja_cons (je_var (i := 2)) (ja_nil)))) (by first | (change blkC N_Flow_outflow (defScope s_Flow_outflow) _ _ = true; decide +kernel) | rfl) (fun s H C cl fp => jg_name (i := 1) sc_Flow_outflow.nd) (fun s H C cl fp => jts_nil) (fun s H C cl fp => je_ix (je_var (i := 1)) (je_int))) (ja_nil))) (ja_nil)))))))))⟩⟩
/-! ### flows_of -/
abbrev N_flows_of : List Str := ["row", "flows", "stretches", "name", "capacity", "roof", "draws", "flow", "amount"]
theorem sc_flows_of : FnScope N_flows_of ["row"] (defScope s_flows_of) := ⟨rfl, rfl, rfl, by decide +kernel, rfl, by decide +kernel, by decide +kernel⟩
theorem h_flows_of {T : Wh} (F : Fx T) : Has T "flows_of" 6 1 f_flows_of := by
  obtain ⟨f, fd, hm, hF, hB⟩ := F.fn_flows_of
  exact ⟨f, hm, fnM_of1 (k := 5) (N := N_flows_of) (m := 8) (body := m_flows_of) hF hB sc_flows_of rfl rfl (fun cdv A outer s H E hr => (by have hu := hr.units; have hu1 : _ + 1 < cLine := Nat.lt_of_le_of_lt (Nat.add_le_add_left (by decide) _) hu; have hu2 : _ + 2 < cLine := Nat.lt_of_le_of_lt (Nat.add_le_add_left (by decide) _) hu; delta m_flows_of; delta Se.sWhile Se.mVar Se.mC Se.mBin Se.mTest Se.mChain Se.tAndM Se.tOrM Se.tNotM Se.mAnd Se.mOr Se.mNot Se.mIf Se.aNil Se.aCons Se.mTup Se.mLst Se.mApp Se.mCut Se.oNone Se.oSome Se.sNext Se.sSeq Se.sSet Se.sRet Se.sDrop Se.sIf Se.sAug Se.sBreak Se.sCont Se.gSet Se.gsNil Se.gsCons Se.gTupM Se.sAsg Se.sPar Se.sFor Se.iRange1 Se.iRange2 Se.mFld Se.sFldM Se.sFldAugM Se.mMeth Se.mProp Se.vMake Se.iEnumM Se.iZipM Se.iSeqM Se.iStrM Se.mYes Se.mLc Se.mBM Se.gSubL Se.mIsi Se.sRaise Se.sRaise0 Se.aStar Se.mOp Se.mLen Se.mDget Se.gSubD Se.mDisp Se.mItems Se.mDc Se.gFld Se.mOutcome Se.mBad Se.sBad Se.mNeg Se.mCall Se.mGetO Se.mOpT Se.mIsiO Se.gTupS Se.iKeysM Se.iValsM Se.mDisp0 Ab.mNeg; exact (jss_cons (js_par rfl sc_flows_of.nd (ja_cons (je_lst (ja_nil)) (ja_cons (je_lst (ja_cons (je_tup (ja_cons (je_non) (ja_cons (je_op m2_repT quiet_repT (je_tup (ja_cons (je_int) (ja_nil))) (je_callB mc_len quiet_len F.b_len Boot.len (ja_cons (je_prop (tbl1 ⟨F.cl_Row, h_Row_rain F⟩) (by simp) (hr.mono (by decide)) (je_var (i := 0))) (ja_nil)))) (ja_nil)))) (ja_nil))) (ja_nil)))) (jss_cons (js_for cx1_pass rfl (ji_seq (je_prop (tbl1 ⟨F.cl_Row, h_Row_barrels F⟩) (by simp) (hr.mono (by decide)) (je_var (i := 0)))) (jg_tup rfl (jgs_cons (jg_name (i := 3) sc_flows_of.nd) (jgs_cons (jg_name (i := 4) sc_flows_of.nd) (jgs_cons (jg_name (i := 5) sc_flows_of.nd) (jgs_cons (jg_name (i := 6) sc_flows_of.nd) (jgs_nil)))))) (jss_cons (js_set sc_flows_of.nd (je_make (h_Flow_init F) (by decide +kernel) (hr.mono (by decide)) (ja_cons (je_var (i := 4)) (ja_cons (je_callTy mc_tuple quiet_tuple F.b_tuple Boot.tuple (ja_cons (je_lc rfl sc_flows_of.nd [("amount", 8)] (ji_seq (je_prop (tbl1 ⟨F.cl_Row, h_Row_rain F⟩) (by simp) (hr.mono (by decide)) (je_var (i := 0)))) (by first | (change blkC N_flows_of (defScope s_flows_of) _ _ = true; decide +kernel) | rfl) (fun s H C cl fp => jg_name (i := 8) sc_flows_of.nd) (fun s H C cl fp => jts_nil) (fun s H C cl fp => je_op m2_mul quiet_mul (je_var (i := 5)) (je_var (i := 8)))) (ja_nil))) (ja_cons (je_var (i := 6)) (ja_cons (je_var (i := 2)) (ja_nil))))))) (jss_cons (js_expr (je_append (je_var (i := 1)) (je_var (i := 7)))) (jss_one (js_set sc_flows_of.nd (je_meth0 (tbl1 ⟨F.cl_Flow, h_Flow_outflow F⟩) (by simp) (hr.mono (by decide)) (je_var (i := 7)))))))) (jss_one (js_ret (je_var (i := 1))))))))⟩
/-! ### Flow.stretch_at -/
abbrev N_Flow_stretch_at : List Str := ["self", "number", "found", "stretch"]
theorem sc_Flow_stretch_at : FnScope N_Flow_stretch_at ["self", "number"] (defScope s_Flow_stretch_at) := ⟨rfl, rfl, rfl, by decide +kernel, rfl, by decide +kernel, by decide +kernel⟩
theorem h_Flow_stretch_at {T : Wh} (F : Fx T) : HasM T 12 "stretch_at" 1 2 f_Flow_stretch_at := by
  obtain ⟨f, fd, h1, hF, hB⟩ := F.me_Flow_stretch_at
  exact ⟨by decide +kernel, fun Ca hC => ⟨f, (h1 Ca hC).1, (h1 Ca hC).2, fnM_of1 (k := 0) (N := N_Flow_stretch_at) (m := 2) (body := m_Flow_stretch_at) hF hB sc_Flow_stretch_at rfl rfl (fun cdv A outer s H E hr => (by have hu := hr.units; have hu1 : _ + 1 < cLine := Nat.lt_of_le_of_lt (Nat.add_le_add_left (by decide) _) hu; have hu2 : _ + 2 < cLine := Nat.lt_of_le_of_lt (Nat.add_le_add_left (by decide) _) hu; delta m_Flow_stretch_at; delta Se.sWhile Se.mVar Se.mC Se.mBin Se.mTest Se.mChain Se.tAndM Se.tOrM Se.tNotM Se.mAnd Se.mOr Se.mNot Se.mIf Se.aNil Se.aCons Se.mTup Se.mLst Se.mApp Se.mCut Se.oNone Se.oSome Se.sNext Se.sSeq Se.sSet Se.sRet Se.sDrop Se.sIf Se.sAug Se.sBreak Se.sCont Se.gSet Se.gsNil Se.gsCons Se.gTupM Se.sAsg Se.sPar Se.sFor Se.iRange1 Se.iRange2 Se.mFld Se.sFldM Se.sFldAugM Se.mMeth Se.mProp Se.vMake Se.iEnumM Se.iZipM Se.iSeqM Se.iStrM Se.mYes Se.mLc Se.mBM Se.gSubL Se.mIsi Se.sRaise Se.sRaise0 Se.aStar Se.mOp Se.mLen Se.mDget Se.gSubD Se.mDisp Se.mItems Se.mDc Se.gFld Se.mOutcome Se.mBad Se.sBad Se.mNeg Se.mCall Se.mGetO Se.mOpT Se.mIsiO Se.gTupS Se.iKeysM Se.iValsM Se.mDisp0 Ab.mNeg; exact (jss_cons (js_set sc_Flow_stretch_at.nd (je_ix (je_fld (fld1 F.fo_Flow_stretches) (je_var (i := 0))) (je_int))) (jss_cons (js_for cx1_pass rfl (ji_seq (je_fld (fld1 F.fo_Flow_stretches) (je_var (i := 0)))) (jg_name (i := 3) sc_Flow_stretch_at.nd) (jss_one (js_if (jt_cmp m2_le quiet_le (je_fld (fld1 F.fo_Stretch_begin) (je_var (i := 3))) (je_var (i := 1))) (jss_one (js_set sc_Flow_stretch_at.nd (je_var (i := 3)))) (jss_nil)))) (jss_one (js_ret (je_var (i := 2))))))))⟩⟩
/-! ### Flow.rows_of -/
abbrev N_Flow_rows_of : List Str := ["self", "number", "stretch"]
theorem sc_Flow_rows_of : FnScope N_Flow_rows_of ["self", "number"] (defScope s_Flow_rows_of) := ⟨rfl, rfl, rfl, by decide +kernel, rfl, by decide +kernel, by decide +kernel⟩
theorem h_Flow_rows_of {T : Wh} (F : Fx T) : HasM T 12 "rows_of" 2 2 f_Flow_rows_of := by
  obtain ⟨f, fd, h1, hF, hB⟩ := F.me_Flow_rows_of
  exact ⟨by decide +kernel, fun Ca hC => ⟨f, (h1 Ca hC).1, (h1 Ca hC).2, fnM_of1 (k := 1) (N := N_Flow_rows_of) (m := 1) (body := m_Flow_rows_of) hF hB sc_Flow_rows_of rfl rfl (fun cdv A outer s H E hr => (by have hu := hr.units; have hu1 : _ + 1 < cLine := Nat.lt_of_le_of_lt (Nat.add_le_add_left (by decide) _) hu; have hu2 : _ + 2 < cLine := Nat.lt_of_le_of_lt (Nat.add_le_add_left (by decide) _) hu; delta m_Flow_rows_of; delta Se.sWhile Se.mVar Se.mC Se.mBin Se.mTest Se.mChain Se.tAndM Se.tOrM Se.tNotM Se.mAnd Se.mOr Se.mNot Se.mIf Se.aNil Se.aCons Se.mTup Se.mLst Se.mApp Se.mCut Se.oNone Se.oSome Se.sNext Se.sSeq Se.sSet Se.sRet Se.sDrop Se.sIf Se.sAug Se.sBreak Se.sCont Se.gSet Se.gsNil Se.gsCons Se.gTupM Se.sAsg Se.sPar Se.sFor Se.iRange1 Se.iRange2 Se.mFld Se.sFldM Se.sFldAugM Se.mMeth Se.mProp Se.vMake Se.iEnumM Se.iZipM Se.iSeqM Se.iStrM Se.mYes Se.mLc Se.mBM Se.gSubL Se.mIsi Se.sRaise Se.sRaise0 Se.aStar Se.mOp Se.mLen Se.mDget Se.gSubD Se.mDisp Se.mItems Se.mDc Se.gFld Se.mOutcome Se.mBad Se.sBad Se.mNeg Se.mCall Se.mGetO Se.mOpT Se.mIsiO Se.gTupS Se.iKeysM Se.iValsM Se.mDisp0 Ab.mNeg; exact (jss_cons (js_set sc_Flow_rows_of.nd (je_meth (tbl1 ⟨F.cl_Flow, h_Flow_stretch_at F⟩) (by simp) (hr.mono (by decide)) (je_var (i := 0)) (ja_cons (je_var (i := 1)) (ja_nil)))) (jss_one (js_ret (je_meth (tbl1 ⟨F.cl_Flow, h_Flow_play_round F⟩) (by simp) (hr.mono (by decide)) (je_var (i := 0)) (ja_cons (je_op m2_add quiet_add (je_fld (fld1 F.fo_Stretch_first_level) (je_var (i := 2))) (je_op m2_mul quiet_mul (je_op m2_sub quiet_sub (je_var (i := 1)) (je_fld (fld1 F.fo_Stretch_begin) (je_var (i := 2)))) (je_fld (fld1 F.fo_Stretch_step) (je_var (i := 2))))) (ja_cons (je_fld (fld1 F.fo_Stretch_inflow) (je_var (i := 2))) (ja_nil)))))))))⟩⟩
/-! ### sums_of -/
abbrev N_sums_of : List Str := ["rows", "times", "row", "index"]
theorem sc_sums_of : FnScope N_sums_of ["rows", "times"] (defScope s_sums_of) := ⟨rfl, rfl, rfl, by decide +kernel, rfl, by decide +kernel, by decide +kernel⟩
theorem h_sums_of {T : Wh} (F : Fx T) : Has T "sums_of" 1 2 f_sums_of := by
  obtain ⟨f, fd, hm, hF, hB⟩ := F.fn_sums_of
  exact ⟨f, hm, fnM_of1 (k := 0) (N := N_sums_of) (m := 2) (body := m_sums_of) hF hB sc_sums_of rfl rfl (fun cdv A outer s H E hr => (by have hu := hr.units; have hu1 : _ + 1 < cLine := Nat.lt_of_le_of_lt (Nat.add_le_add_left (by decide) _) hu; have hu2 : _ + 2 < cLine := Nat.lt_of_le_of_lt (Nat.add_le_add_left (by decide) _) hu; delta m_sums_of; delta Se.sWhile Se.mVar Se.mC Se.mBin Se.mTest Se.mChain Se.tAndM Se.tOrM Se.tNotM Se.mAnd Se.mOr Se.mNot Se.mIf Se.aNil Se.aCons Se.mTup Se.mLst Se.mApp Se.mCut Se.oNone Se.oSome Se.sNext Se.sSeq Se.sSet Se.sRet Se.sDrop Se.sIf Se.sAug Se.sBreak Se.sCont Se.gSet Se.gsNil Se.gsCons Se.gTupM Se.sAsg Se.sPar Se.sFor Se.iRange1 Se.iRange2 Se.mFld Se.sFldM Se.sFldAugM Se.mMeth Se.mProp Se.vMake Se.iEnumM Se.iZipM Se.iSeqM Se.iStrM Se.mYes Se.mLc Se.mBM Se.gSubL Se.mIsi Se.sRaise Se.sRaise0 Se.aStar Se.mOp Se.mLen Se.mDget Se.gSubD Se.mDisp Se.mItems Se.mDc Se.gFld Se.mOutcome Se.mBad Se.sBad Se.mNeg Se.mCall Se.mGetO Se.mOpT Se.mIsiO Se.gTupS Se.iKeysM Se.iValsM Se.mDisp0 Ab.mNeg; exact (jss_one (js_ret (je_callTy mc_tuple quiet_tuple F.b_tuple Boot.tuple (ja_cons (je_lc rfl sc_sums_of.nd [("index", 3)] (ji_seq (je_tup (ja_cons (je_int) (ja_cons (je_int) (ja_cons (je_int) (ja_nil)))))) (by first | (change blkC N_sums_of (defScope s_sums_of) _ _ = true; decide +kernel) | rfl) (fun s H C cl fp => jg_name (i := 3) sc_sums_of.nd) (fun s H C cl fp => jts_nil) (fun s H C cl fp => je_op m2_mul quiet_mul (je_var (i := 1)) (je_callB (mc_sum rfl) quiet_sum F.b_sum Boot.sum (ja_cons (je_lc rfl sc_sums_of.nd [("row", 2)] (ji_seq (je_var (i := 0))) (by first | (change blkC N_sums_of (defScope s_sums_of) _ _ = true; decide +kernel) | rfl) (fun s H C cl fp => jg_name (i := 2) sc_sums_of.nd) (fun s H C cl fp => jts_nil) (fun s H C cl fp => je_ix (je_var (i := 2)) (je_var (i := 3)))) (ja_nil))))) (ja_nil)))))))⟩
/-! ### Flow.sums -/
abbrev N_Flow_sums : List Str := ["self", "rounds", "ticks", "found", "stretch", "count", "one", "other"]
theorem sc_Flow_sums : FnScope N_Flow_sums ["self", "rounds", "ticks"] (defScope s_Flow_sums) := ⟨rfl, rfl, rfl, by decide +kernel, rfl, by decide +kernel, by decide +kernel⟩
theorem h_Flow_sums {T : Wh} (F : Fx T) : HasM T 12 "sums" 3 3 f_Flow_sums := by
  obtain ⟨f, fd, h1, hF, hB⟩ := F.me_Flow_sums
  exact ⟨by decide +kernel, fun Ca hC => ⟨f, (h1 Ca hC).1, (h1 Ca hC).2, fnM_of1 (k := 2) (N := N_Flow_sums) (m := 5) (body := m_Flow_sums) hF hB sc_Flow_sums rfl rfl (fun cdv A outer s H E hr => (by have hu := hr.units; have hu1 : _ + 1 < cLine := Nat.lt_of_le_of_lt (Nat.add_le_add_left (by decide) _) hu; have hu2 : _ + 2 < cLine := Nat.lt_of_le_of_lt (Nat.add_le_add_left (by decide) _) hu; delta m_Flow_sums; delta Se.sWhile Se.mVar Se.mC Se.mBin Se.mTest Se.mChain Se.tAndM Se.tOrM Se.tNotM Se.mAnd Se.mOr Se.mNot Se.mIf Se.aNil Se.aCons Se.mTup Se.mLst Se.mApp Se.mCut Se.oNone Se.oSome Se.sNext Se.sSeq Se.sSet Se.sRet Se.sDrop Se.sIf Se.sAug Se.sBreak Se.sCont Se.gSet Se.gsNil Se.gsCons Se.gTupM Se.sAsg Se.sPar Se.sFor Se.iRange1 Se.iRange2 Se.mFld Se.sFldM Se.sFldAugM Se.mMeth Se.mProp Se.vMake Se.iEnumM Se.iZipM Se.iSeqM Se.iStrM Se.mYes Se.mLc Se.mBM Se.gSubL Se.mIsi Se.sRaise Se.sRaise0 Se.aStar Se.mOp Se.mLen Se.mDget Se.gSubD Se.mDisp Se.mItems Se.mDc Se.gFld Se.mOutcome Se.mBad Se.sBad Se.mNeg Se.mCall Se.mGetO Se.mOpT Se.mIsiO Se.gTupS Se.iKeysM Se.iValsM Se.mDisp0 Ab.mNeg; exact (jss_cons (js_set sc_Flow_sums.nd (je_call (h_sums_of F) (hr.mono (by decide)) (ja_cons (je_cut (je_meth (tbl1 ⟨F.cl_Flow, h_Flow_rows_of F⟩) (by simp) (hr.mono (by decide)) (je_var (i := 0)) (ja_cons (je_var (i := 1)) (ja_nil))) jo_none (jo_some (je_var (i := 2)))) (ja_cons (je_int) (ja_nil))))) (jss_cons (js_for cx1_pass rfl (ji_seq (je_fld (fld1 F.fo_Flow_stretches) (je_var (i := 0)))) (jg_name (i := 4) sc_Flow_sums.nd) (jss_one (js_if (jt_cmp m2_lt (quiet_cmpI _) (je_fld (fld1 F.fo_Stretch_begin) (je_var (i := 4))) (je_var (i := 1))) (jss_cons (js_set sc_Flow_sums.nd (je_op m2_sub quiet_sub (je_var (i := 1)) (je_fld (fld1 F.fo_Stretch_begin) (je_var (i := 4))))) (jss_cons (js_if ((jw_and (jt_cmp m2_notN quiet_notN (je_fld (fld1 F.fo_Stretch_count) (je_var (i := 4))) (je_non)) (jw_and1 (jt_cmp m2_lt (quiet_cmpI _) (je_fld (fld1 F.fo_Stretch_count) (je_var (i := 4))) (je_var (i := 5))))).jt) (jss_one (js_set sc_Flow_sums.nd (je_fld (fld1 F.fo_Stretch_count) (je_var (i := 4))))) (jss_nil)) (jss_one (js_set sc_Flow_sums.nd (je_callTy mc_tuple quiet_tuple F.b_tuple Boot.tuple (ja_cons (je_lc rfl sc_Flow_sums.nd [("one", 6), ("other", 7)] (ji_zip F.b_zip (je_var (i := 3)) (je_call (h_sums_of F) (hr.mono (by decide)) (ja_cons (je_meth (tbl1 ⟨F.cl_Flow, h_Flow_play F⟩) (by simp) (hr.mono (by decide)) (je_var (i := 0)) (ja_cons (je_var (i := 4)) (ja_nil))) (ja_cons (je_var (i := 5)) (ja_nil))))) (by first | (change blkC N_Flow_sums (defScope s_Flow_sums) _ _ = true; decide +kernel) | rfl) (fun s H C cl fp => jg_tup rfl (jgs_cons (jg_name (i := 6) sc_Flow_sums.nd) (jgs_cons (jg_name (i := 7) sc_Flow_sums.nd) (jgs_nil)))) (fun s H C cl fp => jts_nil) (fun s H C cl fp => je_op m2_add quiet_add (je_var (i := 6)) (je_var (i := 7)))) (ja_nil))))))) (jss_nil)))) (jss_one (js_ret (je_var (i := 3))))))))⟩⟩
/-! ### totals -/
abbrev N_totals : List Str := ["row", "ticks", "rounds", "rest", "name", "flow"]
theorem sc_totals : FnScope N_totals ["row", "ticks"] (defScope s_totals) := ⟨rfl, rfl, rfl, by decide +kernel, rfl, by decide +kernel, by decide +kernel⟩
theorem h_totals {T : Wh} (F : Fx T) : Has T "totals" 7 2 f_totals := by
  obtain ⟨f, fd, hm, hF, hB⟩ := F.fn_totals
  exact ⟨f, hm, fnM_of1 (k := 6) (N := N_totals) (m := 4) (body := m_totals) hF hB sc_totals rfl rfl (fun cdv A outer s H E hr => (by have hu := hr.units; have hu1 : _ + 1 < cLine := Nat.lt_of_le_of_lt (Nat.add_le_add_left (by decide) _) hu; have hu2 : _ + 2 < cLine := Nat.lt_of_le_of_lt (Nat.add_le_add_left (by decide) _) hu; delta m_totals; delta Se.sWhile Se.mVar Se.mC Se.mBin Se.mTest Se.mChain Se.tAndM Se.tOrM Se.tNotM Se.mAnd Se.mOr Se.mNot Se.mIf Se.aNil Se.aCons Se.mTup Se.mLst Se.mApp Se.mCut Se.oNone Se.oSome Se.sNext Se.sSeq Se.sSet Se.sRet Se.sDrop Se.sIf Se.sAug Se.sBreak Se.sCont Se.gSet Se.gsNil Se.gsCons Se.gTupM Se.sAsg Se.sPar Se.sFor Se.iRange1 Se.iRange2 Se.mFld Se.sFldM Se.sFldAugM Se.mMeth Se.mProp Se.vMake Se.iEnumM Se.iZipM Se.iSeqM Se.iStrM Se.mYes Se.mLc Se.mBM Se.gSubL Se.mIsi Se.sRaise Se.sRaise0 Se.aStar Se.mOp Se.mLen Se.mDget Se.gSubD Se.mDisp Se.mItems Se.mDc Se.gFld Se.mOutcome Se.mBad Se.sBad Se.mNeg Se.mCall Se.mGetO Se.mOpT Se.mIsiO Se.gTupS Se.iKeysM Se.iValsM Se.mDisp0 Ab.mNeg; exact (jss_cons (js_expr (je_call (h_validate_number F) (hr.mono (by decide)) (ja_cons (je_var (i := 1)) (ja_cons (je_int) (ja_cons (je_globI F.g_MAX_TICK) (ja_nil)))))) (jss_cons (js_asg (je_call (h_split_ticks F) (hr.mono (by decide)) (ja_cons (je_var (i := 0)) (ja_cons (je_var (i := 1)) (ja_nil)))) (jg_tup rfl (jgs_cons (jg_name (i := 2) sc_totals.nd) (jgs_cons (jg_name (i := 3) sc_totals.nd) (jgs_nil))))) (jss_one (js_ret (je_dc rfl sc_totals.nd [("name", 4), ("flow", 5)] (ji_zip F.b_zip (je_prop (tbl1 ⟨F.cl_Row, h_Row_names F⟩) (by simp) (hr.mono (by decide)) (je_var (i := 0))) (je_call (h_flows_of F) (hr.mono (by decide)) (ja_cons (je_var (i := 0)) (ja_nil)))) (by first | (change blkC N_totals (defScope s_totals) _ _ = true; decide +kernel) | rfl) (fun s H C cl fp => jg_tup rfl (jgs_cons (jg_name (i := 4) sc_totals.nd) (jgs_cons (jg_name (i := 5) sc_totals.nd) (jgs_nil)))) (fun s H C cl fp => jts_nil) (fun s H C cl fp => je_var (i := 4)) (fun s H C cl fp => je_meth (tbl1 ⟨F.cl_Flow, h_Flow_sums F⟩) (by simp) (hr.mono (by decide)) (je_var (i := 5)) (ja_cons (je_var (i := 2)) (ja_cons (je_var (i := 3)) (ja_nil)))))))))))⟩
/-! ### Flow.last_sums -/
abbrev N_Flow_last_sums : List Str := ["self"]
theorem sc_Flow_last_sums : FnScope N_Flow_last_sums ["self"] (defScope s_Flow_last_sums) := ⟨rfl, rfl, rfl, by decide +kernel, rfl, by decide +kernel, by decide +kernel⟩
theorem h_Flow_last_sums {T : Wh} (F : Fx T) : HasM T 12 "last_sums" 3 1 f_Flow_last_sums := by
  obtain ⟨f, fd, h1, hF, hB⟩ := F.me_Flow_last_sums
  exact ⟨by decide +kernel, fun Ca hC => ⟨f, (h1 Ca hC).1, (h1 Ca hC).2, fnM_of1 (k := 2) (N := N_Flow_last_sums) (m := 0) (body := m_Flow_last_sums) hF hB sc_Flow_last_sums rfl rfl (fun cdv A outer s H E hr => (by have hu := hr.units; have hu1 : _ + 1 < cLine := Nat.lt_of_le_of_lt (Nat.add_le_add_left (by decide) _) hu; have hu2 : _ + 2 < cLine := Nat.lt_of_le_of_lt (Nat.add_le_add_left (by decide) _) hu; delta m_Flow_last_sums; delta Se.sWhile Se.mVar Se.mC Se.mBin Se.mTest Se.mChain Se.tAndM Se.tOrM Se.tNotM Se.mAnd Se.mOr Se.mNot Se.mIf Se.aNil Se.aCons Se.mTup Se.mLst Se.mApp Se.mCut Se.oNone Se.oSome Se.sNext Se.sSeq Se.sSet Se.sRet Se.sDrop Se.sIf Se.sAug Se.sBreak Se.sCont Se.gSet Se.gsNil Se.gsCons Se.gTupM Se.sAsg Se.sPar Se.sFor Se.iRange1 Se.iRange2 Se.mFld Se.sFldM Se.sFldAugM Se.mMeth Se.mProp Se.vMake Se.iEnumM Se.iZipM Se.iSeqM Se.iStrM Se.mYes Se.mLc Se.mBM Se.gSubL Se.mIsi Se.sRaise Se.sRaise0 Se.aStar Se.mOp Se.mLen Se.mDget Se.gSubD Se.mDisp Se.mItems Se.mDc Se.gFld Se.mOutcome Se.mBad Se.sBad Se.mNeg Se.mCall Se.mGetO Se.mOpT Se.mIsiO Se.gTupS Se.iKeysM Se.iValsM Se.mDisp0 Ab.mNeg; exact (jss_one (js_ret (je_call (h_sums_of F) (hr.mono (by decide)) (ja_cons (je_meth (tbl1 ⟨F.cl_Flow, h_Flow_play F⟩) (by simp) (hr.mono (by decide)) (je_var (i := 0)) (ja_cons (je_ix (je_fld (fld1 F.fo_Flow_stretches) (je_var (i := 0))) (je_neg (je_int))) (ja_nil))) (ja_cons (je_int) (ja_nil))))))))⟩⟩
/-! ### long_run -/
abbrev N_long_run : List Str := ["row", "name", "flow"]
theorem sc_long_run : FnScope N_long_run ["row"] (defScope s_long_run) := ⟨rfl, rfl, rfl, by decide +kernel, rfl, by decide +kernel, by decide +kernel⟩
theorem h_long_run {T : Wh} (F : Fx T) : Has T "long_run" 7 1 f_long_run := by
  obtain ⟨f, fd, hm, hF, hB⟩ := F.fn_long_run
  exact ⟨f, hm, fnM_of1 (k := 6) (N := N_long_run) (m := 2) (body := m_long_run) hF hB sc_long_run rfl rfl (fun cdv A outer s H E hr => (by have hu := hr.units; have hu1 : _ + 1 < cLine := Nat.lt_of_le_of_lt (Nat.add_le_add_left (by decide) _) hu; have hu2 : _ + 2 < cLine := Nat.lt_of_le_of_lt (Nat.add_le_add_left (by decide) _) hu; delta m_long_run; delta Se.sWhile Se.mVar Se.mC Se.mBin Se.mTest Se.mChain Se.tAndM Se.tOrM Se.tNotM Se.mAnd Se.mOr Se.mNot Se.mIf Se.aNil Se.aCons Se.mTup Se.mLst Se.mApp Se.mCut Se.oNone Se.oSome Se.sNext Se.sSeq Se.sSet Se.sRet Se.sDrop Se.sIf Se.sAug Se.sBreak Se.sCont Se.gSet Se.gsNil Se.gsCons Se.gTupM Se.sAsg Se.sPar Se.sFor Se.iRange1 Se.iRange2 Se.mFld Se.sFldM Se.sFldAugM Se.mMeth Se.mProp Se.vMake Se.iEnumM Se.iZipM Se.iSeqM Se.iStrM Se.mYes Se.mLc Se.mBM Se.gSubL Se.mIsi Se.sRaise Se.sRaise0 Se.aStar Se.mOp Se.mLen Se.mDget Se.gSubD Se.mDisp Se.mItems Se.mDc Se.gFld Se.mOutcome Se.mBad Se.sBad Se.mNeg Se.mCall Se.mGetO Se.mOpT Se.mIsiO Se.gTupS Se.iKeysM Se.iValsM Se.mDisp0 Ab.mNeg; exact (jss_one (js_ret (je_dc rfl sc_long_run.nd [("name", 1), ("flow", 2)] (ji_zip F.b_zip (je_prop (tbl1 ⟨F.cl_Row, h_Row_names F⟩) (by simp) (hr.mono (by decide)) (je_var (i := 0))) (je_call (h_flows_of F) (hr.mono (by decide)) (ja_cons (je_var (i := 0)) (ja_nil)))) (by first | (change blkC N_long_run (defScope s_long_run) _ _ = true; decide +kernel) | rfl) (fun s H C cl fp => jg_tup rfl (jgs_cons (jg_name (i := 1) sc_long_run.nd) (jgs_cons (jg_name (i := 2) sc_long_run.nd) (jgs_nil)))) (fun s H C cl fp => jts_nil) (fun s H C cl fp => je_var (i := 1)) (fun s H C cl fp => je_meth0 (tbl1 ⟨F.cl_Flow, h_Flow_last_sums F⟩) (by simp) (hr.mono (by decide)) (je_var (i := 2))))))))⟩
/-! ### place_of -/
abbrev N_place_of : List Str := ["row", "name", "place", "known"]
theorem sc_place_of : FnScope N_place_of ["row", "name"] (defScope s_place_of) := ⟨rfl, rfl, rfl, by decide +kernel, rfl, by decide +kernel, by decide +kernel⟩
theorem h_place_of {T : Wh} (F : Fx T) : Has T "place_of" 3 2 f_place_of := by
  obtain ⟨f, fd, hm, hF, hB⟩ := F.fn_place_of
  exact ⟨f, hm, fnM_of1 (k := 2) (N := N_place_of) (m := 2) (body := m_place_of) hF hB sc_place_of rfl rfl (fun cdv A outer s H E hr => (by have hu := hr.units; have hu1 : _ + 1 < cLine := Nat.lt_of_le_of_lt (Nat.add_le_add_left (by decide) _) hu; have hu2 : _ + 2 < cLine := Nat.lt_of_le_of_lt (Nat.add_le_add_left (by decide) _) hu; delta m_place_of; delta Se.sWhile Se.mVar Se.mC Se.mBin Se.mTest Se.mChain Se.tAndM Se.tOrM Se.tNotM Se.mAnd Se.mOr Se.mNot Se.mIf Se.aNil Se.aCons Se.mTup Se.mLst Se.mApp Se.mCut Se.oNone Se.oSome Se.sNext Se.sSeq Se.sSet Se.sRet Se.sDrop Se.sIf Se.sAug Se.sBreak Se.sCont Se.gSet Se.gsNil Se.gsCons Se.gTupM Se.sAsg Se.sPar Se.sFor Se.iRange1 Se.iRange2 Se.mFld Se.sFldM Se.sFldAugM Se.mMeth Se.mProp Se.vMake Se.iEnumM Se.iZipM Se.iSeqM Se.iStrM Se.mYes Se.mLc Se.mBM Se.gSubL Se.mIsi Se.sRaise Se.sRaise0 Se.aStar Se.mOp Se.mLen Se.mDget Se.gSubD Se.mDisp Se.mItems Se.mDc Se.gFld Se.mOutcome Se.mBad Se.sBad Se.mNeg Se.mCall Se.mGetO Se.mOpT Se.mIsiO Se.gTupS Se.iKeysM Se.iValsM Se.mDisp0 Ab.mNeg; exact (jss_cons (js_for cx1_pass rfl (ji_enum F.b_enumerate (je_prop (tbl1 ⟨F.cl_Row, h_Row_names F⟩) (by simp) (hr.mono (by decide)) (je_var (i := 0)))) (jg_tup rfl (jgs_cons (jg_name (i := 2) sc_place_of.nd) (jgs_cons (jg_name (i := 3) sc_place_of.nd) (jgs_nil)))) (jss_one (js_if (jt_cmp (m2_eq hu) quiet_eq (je_var (i := 3)) (je_var (i := 1))) (jss_one (js_ret (je_var (i := 2)))) (jss_nil)))) (jss_one (js_raise (h_x_UnknownBarrel F) rfl (hr.mono (by decide)) (jk_cons (je_var (i := 1)) (jk_nil)))))))⟩
/-! ### missed_from -/
abbrev N_missed_from : List Str := ["rows", "tick", "place"]
theorem sc_missed_from : FnScope N_missed_from ["rows", "tick"] (defScope s_missed_from) := ⟨rfl, rfl, rfl, by decide +kernel, rfl, by decide +kernel, by decide +kernel⟩
theorem h_missed_from {T : Wh} (F : Fx T) : Has T "missed_from" 1 2 f_missed_from := by
  obtain ⟨f, fd, hm, hF, hB⟩ := F.fn_missed_from
  exact ⟨f, hm, fnM_of1 (k := 0) (N := N_missed_from) (m := 1) (body := m_missed_from) hF hB sc_missed_from rfl rfl (fun cdv A outer s H E hr => (by have hu := hr.units; have hu1 : _ + 1 < cLine := Nat.lt_of_le_of_lt (Nat.add_le_add_left (by decide) _) hu; have hu2 : _ + 2 < cLine := Nat.lt_of_le_of_lt (Nat.add_le_add_left (by decide) _) hu; delta m_missed_from; delta Se.sWhile Se.mVar Se.mC Se.mBin Se.mTest Se.mChain Se.tAndM Se.tOrM Se.tNotM Se.mAnd Se.mOr Se.mNot Se.mIf Se.aNil Se.aCons Se.mTup Se.mLst Se.mApp Se.mCut Se.oNone Se.oSome Se.sNext Se.sSeq Se.sSet Se.sRet Se.sDrop Se.sIf Se.sAug Se.sBreak Se.sCont Se.gSet Se.gsNil Se.gsCons Se.gTupM Se.sAsg Se.sPar Se.sFor Se.iRange1 Se.iRange2 Se.mFld Se.sFldM Se.sFldAugM Se.mMeth Se.mProp Se.vMake Se.iEnumM Se.iZipM Se.iSeqM Se.iStrM Se.mYes Se.mLc Se.mBM Se.gSubL Se.mIsi Se.sRaise Se.sRaise0 Se.aStar Se.mOp Se.mLen Se.mDget Se.gSubD Se.mDisp Se.mItems Se.mDc Se.gFld Se.mOutcome Se.mBad Se.sBad Se.mNeg Se.mCall Se.mGetO Se.mOpT Se.mIsiO Se.gTupS Se.iKeysM Se.iValsM Se.mDisp0 Ab.mNeg; exact (jss_cons (js_for cx1_pass rfl (ji_range2 F.b_range (ja_cons (je_var (i := 1)) (ja_cons (je_callB mc_len quiet_len F.b_len Boot.len (ja_cons (je_var (i := 0)) (ja_nil))) (ja_nil)))) (jg_name (i := 2) sc_missed_from.nd) (jss_one (js_if (jt_cmp m2_gt (quiet_cmpI _) (je_ix (je_ix (je_var (i := 0)) (je_var (i := 2))) (je_int)) (je_int)) (jss_one (js_ret (je_var (i := 2)))) (jss_nil)))) (jss_one (js_ret (je_non))))))⟩
/-! ### Flow.next_missed -/
abbrev N_Flow_next_missed : List Str := ["self", "number", "tick", "place", "stretch", "behind"]
theorem sc_Flow_next_missed : FnScope N_Flow_next_missed ["self", "number", "tick"] (defScope s_Flow_next_missed) := ⟨rfl, rfl, rfl, by decide +kernel, rfl, by decide +kernel, by decide +kernel⟩
theorem h_Flow_next_missed {T : Wh} (F : Fx T) : HasM T 12 "next_missed" 3 3 f_Flow_next_missed := by
  obtain ⟨f, fd, h1, hF, hB⟩ := F.me_Flow_next_missed
  exact ⟨by decide +kernel, fun Ca hC => ⟨f, (h1 Ca hC).1, (h1 Ca hC).2, fnM_of1 (k := 2) (N := N_Flow_next_missed) (m := 3) (body := m_Flow_next_missed) hF hB sc_Flow_next_missed rfl rfl (fun cdv A outer s H E hr => (by have hu := hr.units; have hu1 : _ + 1 < cLine := Nat.lt_of_le_of_lt (Nat.add_le_add_left (by decide) _) hu; have hu2 : _ + 2 < cLine := Nat.lt_of_le_of_lt (Nat.add_le_add_left (by decide) _) hu; delta m_Flow_next_missed; delta Se.sWhile Se.mVar Se.mC Se.mBin Se.mTest Se.mChain Se.tAndM Se.tOrM Se.tNotM Se.mAnd Se.mOr Se.mNot Se.mIf Se.aNil Se.aCons Se.mTup Se.mLst Se.mApp Se.mCut Se.oNone Se.oSome Se.sNext Se.sSeq Se.sSet Se.sRet Se.sDrop Se.sIf Se.sAug Se.sBreak Se.sCont Se.gSet Se.gsNil Se.gsCons Se.gTupM Se.sAsg Se.sPar Se.sFor Se.iRange1 Se.iRange2 Se.mFld Se.sFldM Se.sFldAugM Se.mMeth Se.mProp Se.vMake Se.iEnumM Se.iZipM Se.iSeqM Se.iStrM Se.mYes Se.mLc Se.mBM Se.gSubL Se.mIsi Se.sRaise Se.sRaise0 Se.aStar Se.mOp Se.mLen Se.mDget Se.gSubD Se.mDisp Se.mItems Se.mDc Se.gFld Se.mOutcome Se.mBad Se.sBad Se.mNeg Se.mCall Se.mGetO Se.mOpT Se.mIsiO Se.gTupS Se.iKeysM Se.iValsM Se.mDisp0 Ab.mNeg; exact (jss_cons (js_set sc_Flow_next_missed.nd (je_call (h_missed_from F) (hr.mono (by decide)) (ja_cons (je_meth (tbl1 ⟨F.cl_Flow, h_Flow_rows_of F⟩) (by simp) (hr.mono (by decide)) (je_var (i := 0)) (ja_cons (je_var (i := 1)) (ja_nil))) (ja_cons (je_var (i := 2)) (ja_nil))))) (jss_cons (js_if (jt_cmp m2_notN quiet_notN (je_var (i := 3)) (je_non)) (jss_one (js_ret (je_tup (ja_cons (je_var (i := 1)) (ja_cons (je_var (i := 3)) (ja_nil)))))) (jss_nil)) (jss_cons (js_for cx1_pass rfl (ji_seq (je_fld (fld1 F.fo_Flow_stretches) (je_var (i := 0)))) (jg_name (i := 4) sc_Flow_next_missed.nd) (jss_cons (js_set sc_Flow_next_missed.nd (je_callB (mc_max2 rfl) quiet_max2 F.b_max Boot.max (ja_cons (je_fld (fld1 F.fo_Stretch_begin) (je_var (i := 4))) (ja_cons (je_op m2_add quiet_add (je_var (i := 1)) (je_int)) (ja_nil))))) (jss_one (js_if ((jw_or (jt_cmp m2_isN quiet_isN (je_fld (fld1 F.fo_Stretch_count) (je_var (i := 4))) (je_non)) (jw_or1 (jt_cmp m2_lt (quiet_cmpI _) (je_var (i := 5)) (je_op m2_add quiet_add (je_fld (fld1 F.fo_Stretch_begin) (je_var (i := 4))) (je_fld (fld1 F.fo_Stretch_count) (je_var (i := 4))))))).jt) (jss_cons (js_set sc_Flow_next_missed.nd (je_call (h_missed_from F) (hr.mono (by decide)) (ja_cons (je_meth (tbl1 ⟨F.cl_Flow, h_Flow_rows_of F⟩) (by simp) (hr.mono (by decide)) (je_var (i := 0)) (ja_cons (je_var (i := 5)) (ja_nil))) (ja_cons (je_int) (ja_nil))))) (jss_one (js_if (jt_cmp m2_notN quiet_notN (je_var (i := 3)) (je_non)) (jss_one (js_ret (je_tup (ja_cons (je_var (i := 5)) (ja_cons (je_var (i := 3)) (ja_nil)))))) (jss_nil)))) (jss_nil))))) (jss_one (js_ret (je_non))))))))⟩⟩
/-! ### first_missed -/
abbrev N_first_missed : List Str := ["row", "name", "tick", "place", "size", "flow", "found"]
theorem sc_first_missed : FnScope N_first_missed ["row", "name", "tick"] (defScope s_first_missed) := ⟨rfl, rfl, rfl, by decide +kernel, rfl, by decide +kernel, by decide +kernel⟩
theorem h_first_missed {T : Wh} (F : Fx T) : Has T "first_missed" 7 3 f_first_missed := by
  obtain ⟨f, fd, hm, hF, hB⟩ := F.fn_first_missed
  exact ⟨f, hm, fnM_of1 (k := 6) (N := N_first_missed) (m := 4) (body := m_first_missed) hF hB sc_first_missed rfl rfl (fun cdv A outer s H E hr => (by have hu := hr.units; have hu1 : _ + 1 < cLine := Nat.lt_of_le_of_lt (Nat.add_le_add_left (by decide) _) hu; have hu2 : _ + 2 < cLine := Nat.lt_of_le_of_lt (Nat.add_le_add_left (by decide) _) hu; delta m_first_missed; delta Se.sWhile Se.mVar Se.mC Se.mBin Se.mTest Se.mChain Se.tAndM Se.tOrM Se.tNotM Se.mAnd Se.mOr Se.mNot Se.mIf Se.aNil Se.aCons Se.mTup Se.mLst Se.mApp Se.mCut Se.oNone Se.oSome Se.sNext Se.sSeq Se.sSet Se.sRet Se.sDrop Se.sIf Se.sAug Se.sBreak Se.sCont Se.gSet Se.gsNil Se.gsCons Se.gTupM Se.sAsg Se.sPar Se.sFor Se.iRange1 Se.iRange2 Se.mFld Se.sFldM Se.sFldAugM Se.mMeth Se.mProp Se.vMake Se.iEnumM Se.iZipM Se.iSeqM Se.iStrM Se.mYes Se.mLc Se.mBM Se.gSubL Se.mIsi Se.sRaise Se.sRaise0 Se.aStar Se.mOp Se.mLen Se.mDget Se.gSubD Se.mDisp Se.mItems Se.mDc Se.gFld Se.mOutcome Se.mBad Se.sBad Se.mNeg Se.mCall Se.mGetO Se.mOpT Se.mIsiO Se.gTupS Se.iKeysM Se.iValsM Se.mDisp0 Ab.mNeg; exact (jss_cons (js_set sc_first_missed.nd (je_call (h_place_of F) (hr.mono (by decide)) (ja_cons (je_var (i := 0)) (ja_cons (je_var (i := 1)) (ja_nil))))) (jss_cons (js_expr (je_call (h_validate_number F) (hr.mono (by decide)) (ja_cons (je_var (i := 2)) (ja_cons (je_int) (ja_cons (je_globI F.g_MAX_TICK) (ja_nil)))))) (jss_cons (js_par rfl sc_first_missed.nd (ja_cons (je_callB mc_len quiet_len F.b_len Boot.len (ja_cons (je_prop (tbl1 ⟨F.cl_Row, h_Row_rain F⟩) (by simp) (hr.mono (by decide)) (je_var (i := 0))) (ja_nil))) (ja_cons (je_ix (je_call (h_flows_of F) (hr.mono (by decide)) (ja_cons (je_var (i := 0)) (ja_nil))) (je_var (i := 3))) (ja_nil)))) (jss_cons (js_set sc_first_missed.nd (je_meth (tbl1 ⟨F.cl_Flow, h_Flow_next_missed F⟩) (by simp) (hr.mono (by decide)) (je_var (i := 5)) (ja_cons (je_op m2_div quiet_div (je_var (i := 2)) (je_var (i := 4))) (ja_cons (je_op m2_mod quiet_mod (je_callTy mc_intB quiet_intB F.b_int Boot.int (ja_cons (je_var (i := 2)) (ja_nil))) (je_var (i := 4))) (ja_nil))))) (jss_one (js_ret (je_if (jt_cmp m2_isN quiet_isN (je_var (i := 6)) (je_non)) (je_non) (je_op m2_add quiet_add (je_op m2_mul quiet_mul (je_ix (je_var (i := 6)) (je_int)) (je_var (i := 4))) (je_ix (je_var (i := 6)) (je_int))))))))))))⟩
/-! ### settled_round -/
abbrev N_settled_round : List Str := ["row", "flow"]
theorem sc_settled_round : FnScope N_settled_round ["row"] (defScope s_settled_round) := ⟨rfl, rfl, rfl, by decide +kernel, rfl, by decide +kernel, by decide +kernel⟩
theorem h_settled_round {T : Wh} (F : Fx T) : Has T "settled_round" 7 1 f_settled_round := by
  obtain ⟨f, fd, hm, hF, hB⟩ := F.fn_settled_round
  exact ⟨f, hm, fnM_of1 (k := 6) (N := N_settled_round) (m := 1) (body := m_settled_round) hF hB sc_settled_round rfl rfl (fun cdv A outer s H E hr => (by have hu := hr.units; have hu1 : _ + 1 < cLine := Nat.lt_of_le_of_lt (Nat.add_le_add_left (by decide) _) hu; have hu2 : _ + 2 < cLine := Nat.lt_of_le_of_lt (Nat.add_le_add_left (by decide) _) hu; delta m_settled_round; delta Se.sWhile Se.mVar Se.mC Se.mBin Se.mTest Se.mChain Se.tAndM Se.tOrM Se.tNotM Se.mAnd Se.mOr Se.mNot Se.mIf Se.aNil Se.aCons Se.mTup Se.mLst Se.mApp Se.mCut Se.oNone Se.oSome Se.sNext Se.sSeq Se.sSet Se.sRet Se.sDrop Se.sIf Se.sAug Se.sBreak Se.sCont Se.gSet Se.gsNil Se.gsCons Se.gTupM Se.sAsg Se.sPar Se.sFor Se.iRange1 Se.iRange2 Se.mFld Se.sFldM Se.sFldAugM Se.mMeth Se.mProp Se.vMake Se.iEnumM Se.iZipM Se.iSeqM Se.iStrM Se.mYes Se.mLc Se.mBM Se.gSubL Se.mIsi Se.sRaise Se.sRaise0 Se.aStar Se.mOp Se.mLen Se.mDget Se.gSubD Se.mDisp Se.mItems Se.mDc Se.gFld Se.mOutcome Se.mBad Se.sBad Se.mNeg Se.mCall Se.mGetO Se.mOpT Se.mIsiO Se.gTupS Se.iKeysM Se.iValsM Se.mDisp0 Ab.mNeg; exact (jss_one (js_ret (je_callB (mc_max1 rfl) quiet_max1 F.b_max Boot.max (ja_cons (je_lc rfl sc_settled_round.nd [("flow", 1)] (ji_seq (je_call (h_flows_of F) (hr.mono (by decide)) (ja_cons (je_var (i := 0)) (ja_nil)))) (by first | (change blkC N_settled_round (defScope s_settled_round) _ _ = true; decide +kernel) | rfl) (fun s H C cl fp => jg_name (i := 1) sc_settled_round.nd) (fun s H C cl fp => jts_nil) (fun s H C cl fp => je_fld (fld1 F.fo_Flow_settled) (je_var (i := 1)))) (ja_nil)))))))⟩
/-! ### lost -/
abbrev N_lost : List Str := ["row", "ticks", "rounds", "rest"]
theorem sc_lost : FnScope N_lost ["row", "ticks"] (defScope s_lost) := ⟨rfl, rfl, rfl, by decide +kernel, rfl, by decide +kernel, by decide +kernel⟩
theorem h_lost {T : Wh} (F : Fx T) : Has T "lost" 7 2 f_lost := by
  obtain ⟨f, fd, hm, hF, hB⟩ := F.fn_lost
  exact ⟨f, hm, fnM_of1 (k := 6) (N := N_lost) (m := 2) (body := m_lost) hF hB sc_lost rfl rfl (fun cdv A outer s H E hr => (by have hu := hr.units; have hu1 : _ + 1 < cLine := Nat.lt_of_le_of_lt (Nat.add_le_add_left (by decide) _) hu; have hu2 : _ + 2 < cLine := Nat.lt_of_le_of_lt (Nat.add_le_add_left (by decide) _) hu; delta m_lost; delta Se.sWhile Se.mVar Se.mC Se.mBin Se.mTest Se.mChain Se.tAndM Se.tOrM Se.tNotM Se.mAnd Se.mOr Se.mNot Se.mIf Se.aNil Se.aCons Se.mTup Se.mLst Se.mApp Se.mCut Se.oNone Se.oSome Se.sNext Se.sSeq Se.sSet Se.sRet Se.sDrop Se.sIf Se.sAug Se.sBreak Se.sCont Se.gSet Se.gsNil Se.gsCons Se.gTupM Se.sAsg Se.sPar Se.sFor Se.iRange1 Se.iRange2 Se.mFld Se.sFldM Se.sFldAugM Se.mMeth Se.mProp Se.vMake Se.iEnumM Se.iZipM Se.iSeqM Se.iStrM Se.mYes Se.mLc Se.mBM Se.gSubL Se.mIsi Se.sRaise Se.sRaise0 Se.aStar Se.mOp Se.mLen Se.mDget Se.gSubD Se.mDisp Se.mItems Se.mDc Se.gFld Se.mOutcome Se.mBad Se.sBad Se.mNeg Se.mCall Se.mGetO Se.mOpT Se.mIsiO Se.gTupS Se.iKeysM Se.iValsM Se.mDisp0 Ab.mNeg; exact (jss_cons (js_expr (je_call (h_validate_number F) (hr.mono (by decide)) (ja_cons (je_var (i := 1)) (ja_cons (je_int) (ja_cons (je_globI F.g_MAX_TICK) (ja_nil)))))) (jss_cons (js_asg (je_call (h_split_ticks F) (hr.mono (by decide)) (ja_cons (je_var (i := 0)) (ja_cons (je_var (i := 1)) (ja_nil)))) (jg_tup rfl (jgs_cons (jg_name (i := 2) sc_lost.nd) (jgs_cons (jg_name (i := 3) sc_lost.nd) (jgs_nil))))) (jss_one (js_ret (je_ix (je_meth (tbl1 ⟨F.cl_Flow, h_Flow_sums F⟩) (by simp) (hr.mono (by decide)) (je_ix (je_call (h_flows_of F) (hr.mono (by decide)) (ja_cons (je_var (i := 0)) (ja_nil))) (je_neg (je_int))) (ja_cons (je_var (i := 2)) (ja_cons (je_var (i := 3)) (ja_nil)))) (je_int))))))))⟩
/-! ### Row.__len__ -/
abbrev N_Row_len : List Str := ["self"]
theorem sc_Row_len : FnScope N_Row_len ["self"] (defScope s_Row_len) := ⟨rfl, rfl, rfl, by decide +kernel, rfl, by decide +kernel, by decide +kernel⟩
theorem h_Row_len {T : Wh} (F : Fx T) : HasLen T 13 1 f_Row_len := by
  obtain ⟨Ca, f, fd, h1, h2, h3, h4, hF, hB⟩ := F.me_Row_len
  exact ⟨Ca, f, h1, h2, h3, h4, fnM_of1 (k := 0) (N := N_Row_len) (m := 0) (body := m_Row_len) hF hB sc_Row_len rfl rfl (fun cdv A outer s H E hr => (by have hu := hr.units; have hu1 : _ + 1 < cLine := Nat.lt_of_le_of_lt (Nat.add_le_add_left (by decide) _) hu; have hu2 : _ + 2 < cLine := Nat.lt_of_le_of_lt (Nat.add_le_add_left (by decide) _) hu; delta m_Row_len; delta Se.sWhile Se.mVar Se.mC Se.mBin Se.mTest Se.mChain Se.tAndM Se.tOrM Se.tNotM Se.mAnd Se.mOr Se.mNot Se.mIf Se.aNil Se.aCons Se.mTup Se.mLst Se.mApp Se.mCut Se.oNone Se.oSome Se.sNext Se.sSeq Se.sSet Se.sRet Se.sDrop Se.sIf Se.sAug Se.sBreak Se.sCont Se.gSet Se.gsNil Se.gsCons Se.gTupM Se.sAsg Se.sPar Se.sFor Se.iRange1 Se.iRange2 Se.mFld Se.sFldM Se.sFldAugM Se.mMeth Se.mProp Se.vMake Se.iEnumM Se.iZipM Se.iSeqM Se.iStrM Se.mYes Se.mLc Se.mBM Se.gSubL Se.mIsi Se.sRaise Se.sRaise0 Se.aStar Se.mOp Se.mLen Se.mDget Se.gSubD Se.mDisp Se.mItems Se.mDc Se.gFld Se.mOutcome Se.mBad Se.sBad Se.mNeg Se.mCall Se.mGetO Se.mOpT Se.mIsiO Se.gTupS Se.iKeysM Se.iValsM Se.mDisp0 Ab.mNeg; exact (jss_one (js_ret (je_callB mc_len quiet_len F.b_len Boot.len (ja_cons (je_fld (fld1 F.fo_Row_parts) (je_var (i := 0))) (ja_nil)))))))⟩
/-! ### Row.__sub__ -/
abbrev N_Row_sub : List Str := ["self", "name", "barrels", "barrel"]
theorem sc_Row_sub : FnScope N_Row_sub ["self", "name"] (defScope s_Row_sub) := ⟨rfl, rfl, rfl, by decide +kernel, rfl, by decide +kernel, by decide +kernel⟩
theorem h_Row_sub {T : Wh} (F : Fx T) : HasOpT T 13 .Sub 5 f_Row_sub := by
  obtain ⟨Ca, f, fd, fo, ro, rc, h1, h2, h3, h4, h5, h6, h7, h8, h9, hF, hB⟩ := F.me_Row_sub
  exact ⟨Ca, f, fo, ro, rc, h1, h2, h3, h4, h5, h6, h7, h8, h9, fnM_of1 (k := 4) (N := N_Row_sub) (m := 2) (body := m_Row_sub) hF hB sc_Row_sub rfl rfl (fun cdv A outer s H E hr => (by have hu := hr.units; have hu1 : _ + 1 < cLine := Nat.lt_of_le_of_lt (Nat.add_le_add_left (by decide) _) hu; have hu2 : _ + 2 < cLine := Nat.lt_of_le_of_lt (Nat.add_le_add_left (by decide) _) hu; delta m_Row_sub; delta Se.sWhile Se.mVar Se.mC Se.mBin Se.mTest Se.mChain Se.tAndM Se.tOrM Se.tNotM Se.mAnd Se.mOr Se.mNot Se.mIf Se.aNil Se.aCons Se.mTup Se.mLst Se.mApp Se.mCut Se.oNone Se.oSome Se.sNext Se.sSeq Se.sSet Se.sRet Se.sDrop Se.sIf Se.sAug Se.sBreak Se.sCont Se.gSet Se.gsNil Se.gsCons Se.gTupM Se.sAsg Se.sPar Se.sFor Se.iRange1 Se.iRange2 Se.mFld Se.sFldM Se.sFldAugM Se.mMeth Se.mProp Se.vMake Se.iEnumM Se.iZipM Se.iSeqM Se.iStrM Se.mYes Se.mLc Se.mBM Se.gSubL Se.mIsi Se.sRaise Se.sRaise0 Se.aStar Se.mOp Se.mLen Se.mDget Se.gSubD Se.mDisp Se.mItems Se.mDc Se.gFld Se.mOutcome Se.mBad Se.sBad Se.mNeg Se.mCall Se.mGetO Se.mOpT Se.mIsiO Se.gTupS Se.iKeysM Se.iValsM Se.mDisp0 Ab.mNeg; exact (jss_cons (js_if (jt_cmp m2_notIn quiet_notIn (je_var (i := 1)) (je_prop (tbl1 ⟨F.cl_Row, h_Row_names F⟩) (by simp) (hr.mono (by decide)) (je_var (i := 0)))) (jss_one (js_raise (h_x_UnknownBarrel F) rfl (hr.mono (by decide)) (jk_cons (je_var (i := 1)) (jk_nil)))) (jss_nil)) (jss_cons (js_setLc rfl sc_Row_sub.nd [("barrel", 3)] (ji_seq (je_fld (fld1 F.fo_Row_parts) (je_var (i := 0)))) (by first | (change blkC N_Row_sub (defScope s_Row_sub) _ _ = true; decide +kernel) | rfl) (fun s H C cl fp => jg_name (i := 3) sc_Row_sub.nd) (fun s H C cl fp => jts_one (jt_cmp (m2_ne hu) quiet_ne (je_ix (je_var (i := 3)) (je_int)) (je_var (i := 1)))) (fun s H C cl fp => je_var (i := 3)) (by rfl)) (jss_one (js_ret (je_makeS (h_Row_init F) (by decide +kernel) (hr.mono (by decide)) (ja_cons (je_fld (fld1 F.fo_Row_weather) (je_var (i := 0))) (ja_star (je_var (i := 2)) (ja_nil))))))))))⟩
/-! ### change_without -/
abbrev N_change_without : List Str := ["row", "name", "before", "after", "one"]
theorem sc_change_without : FnScope N_change_without ["row", "name"] (defScope s_change_without) := ⟨rfl, rfl, rfl, by decide +kernel, rfl, by decide +kernel, by decide +kernel⟩
theorem h_change_without {T : Wh} (F : Fx T) : Has T "change_without" 8 2 f_change_without := by
  obtain ⟨f, fd, hm, hF, hB⟩ := F.fn_change_without
  exact ⟨f, hm, fnM_of1 (k := 7) (N := N_change_without) (m := 3) (body := m_change_without) hF hB sc_change_without rfl rfl (fun cdv A outer s H E hr => (by have hu := hr.units; have hu1 : _ + 1 < cLine := Nat.lt_of_le_of_lt (Nat.add_le_add_left (by decide) _) hu; have hu2 : _ + 2 < cLine := Nat.lt_of_le_of_lt (Nat.add_le_add_left (by decide) _) hu; delta m_change_without; delta Se.sWhile Se.mVar Se.mC Se.mBin Se.mTest Se.mChain Se.tAndM Se.tOrM Se.tNotM Se.mAnd Se.mOr Se.mNot Se.mIf Se.aNil Se.aCons Se.mTup Se.mLst Se.mApp Se.mCut Se.oNone Se.oSome Se.sNext Se.sSeq Se.sSet Se.sRet Se.sDrop Se.sIf Se.sAug Se.sBreak Se.sCont Se.gSet Se.gsNil Se.gsCons Se.gTupM Se.sAsg Se.sPar Se.sFor Se.iRange1 Se.iRange2 Se.mFld Se.sFldM Se.sFldAugM Se.mMeth Se.mProp Se.vMake Se.iEnumM Se.iZipM Se.iSeqM Se.iStrM Se.mYes Se.mLc Se.mBM Se.gSubL Se.mIsi Se.sRaise Se.sRaise0 Se.aStar Se.mOp Se.mLen Se.mDget Se.gSubD Se.mDisp Se.mItems Se.mDc Se.gFld Se.mOutcome Se.mBad Se.sBad Se.mNeg Se.mCall Se.mGetO Se.mOpT Se.mIsiO Se.gTupS Se.iKeysM Se.iValsM Se.mDisp0 Ab.mNeg; exact (jss_cons (js_expr (je_call (h_place_of F) (hr.mono (by decide)) (ja_cons (je_var (i := 0)) (ja_cons (je_var (i := 1)) (ja_nil))))) (jss_cons (js_if (jt_cmp (m2_eq hu) quiet_eq (je_lenO (h_Row_len F) (hr.mono (by decide)) (je_var (i := 0)) F.b_len) (je_int)) (jss_one (js_ret (je_disp0))) (jss_nil)) (jss_cons (js_asg (je_tup (ja_cons (je_call (h_long_run F) (hr.mono (by decide)) (ja_cons (je_var (i := 0)) (ja_nil))) (ja_cons (je_call (h_long_run F) (hr.mono (by decide)) (ja_cons (je_ownT (h_Row_sub F) (hr.mono (by decide)) (je_var (i := 0)) (je_var (i := 1))) (ja_nil))) (ja_nil)))) (jg_tup rfl (jgs_cons (jg_name (i := 2) sc_change_without.nd) (jgs_cons (jg_name (i := 3) sc_change_without.nd) (jgs_nil))))) (jss_one (js_ret (je_dc rfl sc_change_without.nd [("one", 4)] (ji_keys (je_var (i := 3))) (by first | (change blkC N_change_without (defScope s_change_without) _ _ = true; decide +kernel) | rfl) (fun s H C cl fp => jg_name (i := 4) sc_change_without.nd) (fun s H C cl fp => jts_one (jt_cmp (m2_ne hu) quiet_ne (je_ix (je_dget hu1 (je_var (i := 2)) (je_var (i := 4))) (je_int)) (je_ix (je_dget hu1 (je_var (i := 3)) (je_var (i := 4))) (je_int)))) (fun s H C cl fp => je_var (i := 4)) (fun s H C cl fp => je_tup (ja_cons (je_ix (je_dget hu1 (je_var (i := 2)) (je_var (i := 4))) (je_int)) (ja_cons (je_ix (je_dget hu1 (je_var (i := 3)) (je_var (i := 4))) (je_int)) (ja_nil))))))))))))⟩
/-! ### lost_per_round -/
abbrev N_lost_per_round : List Str := ["row"]
theorem sc_lost_per_round : FnScope N_lost_per_round ["row"] (defScope s_lost_per_round) := ⟨rfl, rfl, rfl, by decide +kernel, rfl, by decide +kernel, by decide +kernel⟩
theorem h_lost_per_round {T : Wh} (F : Fx T) : Has T "lost_per_round" 8 1 f_lost_per_round := by
  obtain ⟨f, fd, hm, hF, hB⟩ := F.fn_lost_per_round
  exact ⟨f, hm, fnM_of1 (k := 7) (N := N_lost_per_round) (m := 0) (body := m_lost_per_round) hF hB sc_lost_per_round rfl rfl (fun cdv A outer s H E hr => (by have hu := hr.units; have hu1 : _ + 1 < cLine := Nat.lt_of_le_of_lt (Nat.add_le_add_left (by decide) _) hu; have hu2 : _ + 2 < cLine := Nat.lt_of_le_of_lt (Nat.add_le_add_left (by decide) _) hu; delta m_lost_per_round; delta Se.sWhile Se.mVar Se.mC Se.mBin Se.mTest Se.mChain Se.tAndM Se.tOrM Se.tNotM Se.mAnd Se.mOr Se.mNot Se.mIf Se.aNil Se.aCons Se.mTup Se.mLst Se.mApp Se.mCut Se.oNone Se.oSome Se.sNext Se.sSeq Se.sSet Se.sRet Se.sDrop Se.sIf Se.sAug Se.sBreak Se.sCont Se.gSet Se.gsNil Se.gsCons Se.gTupM Se.sAsg Se.sPar Se.sFor Se.iRange1 Se.iRange2 Se.mFld Se.sFldM Se.sFldAugM Se.mMeth Se.mProp Se.vMake Se.iEnumM Se.iZipM Se.iSeqM Se.iStrM Se.mYes Se.mLc Se.mBM Se.gSubL Se.mIsi Se.sRaise Se.sRaise0 Se.aStar Se.mOp Se.mLen Se.mDget Se.gSubD Se.mDisp Se.mItems Se.mDc Se.gFld Se.mOutcome Se.mBad Se.sBad Se.mNeg Se.mCall Se.mGetO Se.mOpT Se.mIsiO Se.gTupS Se.iKeysM Se.iValsM Se.mDisp0 Ab.mNeg; exact (jss_one (js_ret (je_ix (je_dget hu1 (je_call (h_long_run F) (hr.mono (by decide)) (ja_cons (je_var (i := 0)) (ja_nil))) (je_ix (je_prop (tbl1 ⟨F.cl_Row, h_Row_names F⟩) (by simp) (hr.mono (by decide)) (je_var (i := 0))) (je_neg (je_int)))) (je_int))))))⟩
/-! ### held_back -/
abbrev N_held_back : List Str := ["row", "name"]
theorem sc_held_back : FnScope N_held_back ["row", "name"] (defScope s_held_back) := ⟨rfl, rfl, rfl, by decide +kernel, rfl, by decide +kernel, by decide +kernel⟩
theorem h_held_back {T : Wh} (F : Fx T) : Has T "held_back" 9 2 f_held_back := by
  obtain ⟨f, fd, hm, hF, hB⟩ := F.fn_held_back
  exact ⟨f, hm, fnM_of1 (k := 8) (N := N_held_back) (m := 0) (body := m_held_back) hF hB sc_held_back rfl rfl (fun cdv A outer s H E hr => (by have hu := hr.units; have hu1 : _ + 1 < cLine := Nat.lt_of_le_of_lt (Nat.add_le_add_left (by decide) _) hu; have hu2 : _ + 2 < cLine := Nat.lt_of_le_of_lt (Nat.add_le_add_left (by decide) _) hu; delta m_held_back; delta Se.sWhile Se.mVar Se.mC Se.mBin Se.mTest Se.mChain Se.tAndM Se.tOrM Se.tNotM Se.mAnd Se.mOr Se.mNot Se.mIf Se.aNil Se.aCons Se.mTup Se.mLst Se.mApp Se.mCut Se.oNone Se.oSome Se.sNext Se.sSeq Se.sSet Se.sRet Se.sDrop Se.sIf Se.sAug Se.sBreak Se.sCont Se.gSet Se.gsNil Se.gsCons Se.gTupM Se.sAsg Se.sPar Se.sFor Se.iRange1 Se.iRange2 Se.mFld Se.sFldM Se.sFldAugM Se.mMeth Se.mProp Se.vMake Se.iEnumM Se.iZipM Se.iSeqM Se.iStrM Se.mYes Se.mLc Se.mBM Se.gSubL Se.mIsi Se.sRaise Se.sRaise0 Se.aStar Se.mOp Se.mLen Se.mDget Se.gSubD Se.mDisp Se.mItems Se.mDc Se.gFld Se.mOutcome Se.mBad Se.sBad Se.mNeg Se.mCall Se.mGetO Se.mOpT Se.mIsiO Se.gTupS Se.iKeysM Se.iValsM Se.mDisp0 Ab.mNeg; exact (jss_cons (js_expr (je_call (h_place_of F) (hr.mono (by decide)) (ja_cons (je_var (i := 0)) (ja_cons (je_var (i := 1)) (ja_nil))))) (jss_cons (js_if (jt_cmp (m2_eq hu) quiet_eq (je_lenO (h_Row_len F) (hr.mono (by decide)) (je_var (i := 0)) F.b_len) (je_int)) (jss_one (js_ret (je_op m2_sub quiet_sub (je_int) (je_call (h_lost_per_round F) (hr.mono (by decide)) (ja_cons (je_var (i := 0)) (ja_nil)))))) (jss_nil)) (jss_one (js_ret (je_op m2_sub quiet_sub (je_call (h_lost_per_round F) (hr.mono (by decide)) (ja_cons (je_ownT (h_Row_sub F) (hr.mono (by decide)) (je_var (i := 0)) (je_var (i := 1))) (ja_nil))) (je_call (h_lost_per_round F) (hr.mono (by decide)) (ja_cons (je_var (i := 0)) (ja_nil))))))))))⟩
/-! ### Flow.level -/
abbrev N_Flow_level : List Str := ["self", "number", "tick"]
theorem sc_Flow_level : FnScope N_Flow_level ["self", "number", "tick"] (defScope s_Flow_level) := ⟨rfl, rfl, rfl, by decide +kernel, rfl, by decide +kernel, by decide +kernel⟩
theorem h_Flow_level {T : Wh} (F : Fx T) : HasM T 12 "level" 3 3 f_Flow_level := by
  obtain ⟨f, fd, h1, hF, hB⟩ := F.me_Flow_level
  exact ⟨by decide +kernel, fun Ca hC => ⟨f, (h1 Ca hC).1, (h1 Ca hC).2, fnM_of1 (k := 2) (N := N_Flow_level) (m := 0) (body := m_Flow_level) hF hB sc_Flow_level rfl rfl (fun cdv A outer s H E hr => (by have hu := hr.units; have hu1 : _ + 1 < cLine := Nat.lt_of_le_of_lt (Nat.add_le_add_left (by decide) _) hu; have hu2 : _ + 2 < cLine := Nat.lt_of_le_of_lt (Nat.add_le_add_left (by decide) _) hu; delta m_Flow_level; delta Se.sWhile Se.mVar Se.mC Se.mBin Se.mTest Se.mChain Se.tAndM Se.tOrM Se.tNotM Se.mAnd Se.mOr Se.mNot Se.mIf Se.aNil Se.aCons Se.mTup Se.mLst Se.mApp Se.mCut Se.oNone Se.oSome Se.sNext Se.sSeq Se.sSet Se.sRet Se.sDrop Se.sIf Se.sAug Se.sBreak Se.sCont Se.gSet Se.gsNil Se.gsCons Se.gTupM Se.sAsg Se.sPar Se.sFor Se.iRange1 Se.iRange2 Se.mFld Se.sFldM Se.sFldAugM Se.mMeth Se.mProp Se.vMake Se.iEnumM Se.iZipM Se.iSeqM Se.iStrM Se.mYes Se.mLc Se.mBM Se.gSubL Se.mIsi Se.sRaise Se.sRaise0 Se.aStar Se.mOp Se.mLen Se.mDget Se.gSubD Se.mDisp Se.mItems Se.mDc Se.gFld Se.mOutcome Se.mBad Se.sBad Se.mNeg Se.mCall Se.mGetO Se.mOpT Se.mIsiO Se.gTupS Se.iKeysM Se.iValsM Se.mDisp0 Ab.mNeg; exact (jss_one (js_ret (je_ix (je_ix (je_meth (tbl1 ⟨F.cl_Flow, h_Flow_rows_of F⟩) (by simp) (hr.mono (by decide)) (je_var (i := 0)) (ja_cons (je_var (i := 1)) (ja_nil))) (je_var (i := 2))) (je_int))))))⟩⟩
/-! ### Row.__call__ -/
abbrev N_Row_call : List Str := ["self", "name", "tick", "place", "size"]
theorem sc_Row_call : FnScope N_Row_call ["self", "name", "tick"] (defScope s_Row_call) := ⟨rfl, rfl, rfl, by decide +kernel, rfl, by decide +kernel, by decide +kernel⟩
theorem h_Row_call {T : Wh} (F : Fx T) : HasCall T 13 7 3 f_Row_call := by
  obtain ⟨Ca, f, fd, h1, h2, h3, h4, hF, hB⟩ := F.me_Row_call
  exact ⟨Ca, f, h1, h2, h3, h4, fnM_of1 (k := 6) (N := N_Row_call) (m := 2) (body := m_Row_call) hF hB sc_Row_call rfl rfl (fun cdv A outer s H E hr => (by have hu := hr.units; have hu1 : _ + 1 < cLine := Nat.lt_of_le_of_lt (Nat.add_le_add_left (by decide) _) hu; have hu2 : _ + 2 < cLine := Nat.lt_of_le_of_lt (Nat.add_le_add_left (by decide) _) hu; delta m_Row_call; delta Se.sWhile Se.mVar Se.mC Se.mBin Se.mTest Se.mChain Se.tAndM Se.tOrM Se.tNotM Se.mAnd Se.mOr Se.mNot Se.mIf Se.aNil Se.aCons Se.mTup Se.mLst Se.mApp Se.mCut Se.oNone Se.oSome Se.sNext Se.sSeq Se.sSet Se.sRet Se.sDrop Se.sIf Se.sAug Se.sBreak Se.sCont Se.gSet Se.gsNil Se.gsCons Se.gTupM Se.sAsg Se.sPar Se.sFor Se.iRange1 Se.iRange2 Se.mFld Se.sFldM Se.sFldAugM Se.mMeth Se.mProp Se.vMake Se.iEnumM Se.iZipM Se.iSeqM Se.iStrM Se.mYes Se.mLc Se.mBM Se.gSubL Se.mIsi Se.sRaise Se.sRaise0 Se.aStar Se.mOp Se.mLen Se.mDget Se.gSubD Se.mDisp Se.mItems Se.mDc Se.gFld Se.mOutcome Se.mBad Se.sBad Se.mNeg Se.mCall Se.mGetO Se.mOpT Se.mIsiO Se.gTupS Se.iKeysM Se.iValsM Se.mDisp0 Ab.mNeg; exact (jss_cons (js_set sc_Row_call.nd (je_call (h_place_of F) (hr.mono (by decide)) (ja_cons (je_var (i := 0)) (ja_cons (je_var (i := 1)) (ja_nil))))) (jss_cons (js_expr (je_call (h_validate_number F) (hr.mono (by decide)) (ja_cons (je_var (i := 2)) (ja_cons (je_int) (ja_cons (je_globI F.g_MAX_TICK) (ja_nil)))))) (jss_cons (js_set sc_Row_call.nd (je_callB mc_len quiet_len F.b_len Boot.len (ja_cons (je_fld (fld1 F.fo_Row_weather) (je_var (i := 0))) (ja_nil)))) (jss_one (js_ret (je_meth (tbl1 ⟨F.cl_Flow, h_Flow_level F⟩) (by simp) (hr.mono (by decide)) (je_ix (je_call (h_flows_of F) (hr.mono (by decide)) (ja_cons (je_var (i := 0)) (ja_nil))) (je_var (i := 3))) (ja_cons (je_op m2_div quiet_div (je_var (i := 2)) (je_var (i := 4))) (ja_cons (je_op m2_mod quiet_mod (je_callTy mc_intB quiet_intB F.b_int Boot.int (ja_cons (je_var (i := 2)) (ja_nil))) (je_var (i := 4))) (ja_nil)))))))))))⟩
/-! ### Row.with_rain -/
abbrev N_Row_with_rain : List Str := ["self", "index", "amount", "rain"]
theorem sc_Row_with_rain : FnScope N_Row_with_rain ["self", "index", "amount"] (defScope s_Row_with_rain) := ⟨rfl, rfl, rfl, by decide +kernel, rfl, by decide +kernel, by decide +kernel⟩
theorem h_Row_with_rain {T : Wh} (F : Fx T) : HasM T 13 "with_rain" 5 3 f_Row_with_rain := by
  obtain ⟨f, fd, h1, hF, hB⟩ := F.me_Row_with_rain
  exact ⟨by decide +kernel, fun Ca hC => ⟨f, (h1 Ca hC).1, (h1 Ca hC).2, fnM_of1 (k := 4) (N := N_Row_with_rain) (m := 1) (body := m_Row_with_rain) hF hB sc_Row_with_rain rfl rfl (fun cdv A outer s H E hr => (by have hu := hr.units; have hu1 : _ + 1 < cLine := Nat.lt_of_le_of_lt (Nat.add_le_add_left (by decide) _) hu; have hu2 : _ + 2 < cLine := Nat.lt_of_le_of_lt (Nat.add_le_add_left (by decide) _) hu; delta m_Row_with_rain; delta Se.sWhile Se.mVar Se.mC Se.mBin Se.mTest Se.mChain Se.tAndM Se.tOrM Se.tNotM Se.mAnd Se.mOr Se.mNot Se.mIf Se.aNil Se.aCons Se.mTup Se.mLst Se.mApp Se.mCut Se.oNone Se.oSome Se.sNext Se.sSeq Se.sSet Se.sRet Se.sDrop Se.sIf Se.sAug Se.sBreak Se.sCont Se.gSet Se.gsNil Se.gsCons Se.gTupM Se.sAsg Se.sPar Se.sFor Se.iRange1 Se.iRange2 Se.mFld Se.sFldM Se.sFldAugM Se.mMeth Se.mProp Se.vMake Se.iEnumM Se.iZipM Se.iSeqM Se.iStrM Se.mYes Se.mLc Se.mBM Se.gSubL Se.mIsi Se.sRaise Se.sRaise0 Se.aStar Se.mOp Se.mLen Se.mDget Se.gSubD Se.mDisp Se.mItems Se.mDc Se.gFld Se.mOutcome Se.mBad Se.sBad Se.mNeg Se.mCall Se.mGetO Se.mOpT Se.mIsiO Se.gTupS Se.iKeysM Se.iValsM Se.mDisp0 Ab.mNeg; exact (jss_cons (js_expr (je_call (h_validate_number F) (hr.mono (by decide)) (ja_cons (je_var (i := 1)) (ja_cons (je_int) (ja_cons (je_op m2_sub quiet_sub (je_callB mc_len quiet_len F.b_len Boot.len (ja_cons (je_fld (fld1 F.fo_Row_weather) (je_var (i := 0))) (ja_nil))) (je_int)) (ja_nil)))))) (jss_cons (js_set sc_Row_with_rain.nd (je_op m2_add quiet_add (je_op m2_add quiet_add (je_cut (je_fld (fld1 F.fo_Row_weather) (je_var (i := 0))) jo_none (jo_some (je_var (i := 1)))) (je_tup (ja_cons (je_var (i := 2)) (ja_nil)))) (je_cut (je_fld (fld1 F.fo_Row_weather) (je_var (i := 0))) (jo_some (je_op m2_add quiet_add (je_var (i := 1)) (je_int))) jo_none))) (jss_one (js_ret (je_makeS (h_Row_init F) (by decide +kernel) (hr.mono (by decide)) (ja_cons (je_var (i := 3)) (ja_star (je_fld (fld1 F.fo_Row_parts) (je_var (i := 0))) (ja_nil))))))))))⟩⟩
/-! ### Row.with_capacity -/
abbrev N_Row_with_capacity : List Str := ["self", "name", "capacity", "barrels", "one", "old", "rest"]
theorem sc_Row_with_capacity : FnScope N_Row_with_capacity ["self", "name", "capacity"] (defScope s_Row_with_capacity) := ⟨rfl, rfl, rfl, by decide +kernel, rfl, by decide +kernel, by decide +kernel⟩
theorem h_Row_with_capacity {T : Wh} (F : Fx T) : HasM T 13 "with_capacity" 5 3 f_Row_with_capacity := by
  obtain ⟨f, fd, h1, hF, hB⟩ := F.me_Row_with_capacity
  exact ⟨by decide +kernel, fun Ca hC => ⟨f, (h1 Ca hC).1, (h1 Ca hC).2, fnM_of1 (k := 4) (N := N_Row_with_capacity) (m := 4) (body := m_Row_with_capacity) hF hB sc_Row_with_capacity rfl rfl (fun cdv A outer s H E hr => (by have hu := hr.units; have hu1 : _ + 1 < cLine := Nat.lt_of_le_of_lt (Nat.add_le_add_left (by decide) _) hu; have hu2 : _ + 2 < cLine := Nat.lt_of_le_of_lt (Nat.add_le_add_left (by decide) _) hu; delta m_Row_with_capacity; delta Se.sWhile Se.mVar Se.mC Se.mBin Se.mTest Se.mChain Se.tAndM Se.tOrM Se.tNotM Se.mAnd Se.mOr Se.mNot Se.mIf Se.aNil Se.aCons Se.mTup Se.mLst Se.mApp Se.mCut Se.oNone Se.oSome Se.sNext Se.sSeq Se.sSet Se.sRet Se.sDrop Se.sIf Se.sAug Se.sBreak Se.sCont Se.gSet Se.gsNil Se.gsCons Se.gTupM Se.sAsg Se.sPar Se.sFor Se.iRange1 Se.iRange2 Se.mFld Se.sFldM Se.sFldAugM Se.mMeth Se.mProp Se.vMake Se.iEnumM Se.iZipM Se.iSeqM Se.iStrM Se.mYes Se.mLc Se.mBM Se.gSubL Se.mIsi Se.sRaise Se.sRaise0 Se.aStar Se.mOp Se.mLen Se.mDget Se.gSubD Se.mDisp Se.mItems Se.mDc Se.gFld Se.mOutcome Se.mBad Se.sBad Se.mNeg Se.mCall Se.mGetO Se.mOpT Se.mIsiO Se.gTupS Se.iKeysM Se.iValsM Se.mDisp0 Ab.mNeg; exact (jss_cons (js_expr (je_call (h_place_of F) (hr.mono (by decide)) (ja_cons (je_var (i := 0)) (ja_cons (je_var (i := 1)) (ja_nil))))) (jss_cons (js_setLc rfl sc_Row_with_capacity.nd [("one", 4), ("old", 5), ("rest", 6)] (ji_seq (je_fld (fld1 F.fo_Row_parts) (je_var (i := 0)))) (by first | (change blkC N_Row_with_capacity (defScope s_Row_with_capacity) _ _ = true; decide +kernel) | rfl) (fun s H C cl fp => jg_tupS rfl (jgs_cons (jg_name (i := 4) sc_Row_with_capacity.nd) (jgs_cons (jg_name (i := 5) sc_Row_with_capacity.nd) (jgs_star (jg_name (i := 6) sc_Row_with_capacity.nd))))) (fun s H C cl fp => jts_nil) (fun s H C cl fp => je_tup (ja_cons (je_var (i := 4)) (ja_cons (je_if (jt_cmp (m2_eq hu) quiet_eq (je_var (i := 4)) (je_var (i := 1))) (je_var (i := 2)) (je_var (i := 5))) (ja_star (je_var (i := 6)) (ja_nil))))) (by rfl)) (jss_one (js_ret (je_makeS (h_Row_init F) (by decide +kernel) (hr.mono (by decide)) (ja_cons (je_fld (fld1 F.fo_Row_weather) (je_var (i := 0))) (ja_star (je_var (i := 3)) (ja_nil))))))))))⟩⟩
/-! ### least_capacity -/
abbrev N_least_capacity : List Str := ["row", "name", "goal", "low", "high", "middle"]
theorem sc_least_capacity : FnScope N_least_capacity ["row", "name", "goal"] (defScope s_least_capacity) := ⟨rfl, rfl, rfl, by decide +kernel, rfl, by decide +kernel, by decide +kernel⟩
theorem h_least_capacity {T : Wh} (F : Fx T) : Has T "least_capacity" 8 3 f_least_capacity := by
  obtain ⟨f, fd, hm, hF, hB⟩ := F.fn_least_capacity
  exact ⟨f, hm, fnM_of1 (k := 7) (N := N_least_capacity) (m := 3) (body := m_least_capacity) hF hB sc_least_capacity rfl rfl (fun cdv A outer s H E hr => (by have hu := hr.units; have hu1 : _ + 1 < cLine := Nat.lt_of_le_of_lt (Nat.add_le_add_left (by decide) _) hu; have hu2 : _ + 2 < cLine := Nat.lt_of_le_of_lt (Nat.add_le_add_left (by decide) _) hu; delta m_least_capacity; delta Se.sWhile Se.mVar Se.mC Se.mBin Se.mTest Se.mChain Se.tAndM Se.tOrM Se.tNotM Se.mAnd Se.mOr Se.mNot Se.mIf Se.aNil Se.aCons Se.mTup Se.mLst Se.mApp Se.mCut Se.oNone Se.oSome Se.sNext Se.sSeq Se.sSet Se.sRet Se.sDrop Se.sIf Se.sAug Se.sBreak Se.sCont Se.gSet Se.gsNil Se.gsCons Se.gTupM Se.sAsg Se.sPar Se.sFor Se.iRange1 Se.iRange2 Se.mFld Se.sFldM Se.sFldAugM Se.mMeth Se.mProp Se.vMake Se.iEnumM Se.iZipM Se.iSeqM Se.iStrM Se.mYes Se.mLc Se.mBM Se.gSubL Se.mIsi Se.sRaise Se.sRaise0 Se.aStar Se.mOp Se.mLen Se.mDget Se.gSubD Se.mDisp Se.mItems Se.mDc Se.gFld Se.mOutcome Se.mBad Se.sBad Se.mNeg Se.mCall Se.mGetO Se.mOpT Se.mIsiO Se.gTupS Se.iKeysM Se.iValsM Se.mDisp0 Ab.mNeg; exact (jss_cons (js_expr (je_call (h_place_of F) (hr.mono (by decide)) (ja_cons (je_var (i := 0)) (ja_cons (je_var (i := 1)) (ja_nil))))) (jss_cons (js_expr (je_call (h_validate_number F) (hr.mono (by decide)) (ja_cons (je_var (i := 2)) (ja_cons (je_int) (ja_cons (je_op m2_pow quiet_pow (je_int) (je_int)) (ja_nil)))))) (jss_cons (js_if (jt_cmp m2_gt (quiet_cmpI _) (je_ix (je_dget hu1 (je_call (h_long_run F) (hr.mono (by decide)) (ja_cons (je_meth (tbl1 ⟨F.cl_Row, h_Row_with_capacity F⟩) (by simp) (hr.mono (by decide)) (je_var (i := 0)) (ja_cons (je_var (i := 1)) (ja_cons (je_globI F.g_MAX_AMOUNT) (ja_nil)))) (ja_nil))) (je_var (i := 1))) (je_int)) (je_var (i := 2))) (jss_one (js_ret (je_non))) (jss_nil)) (jss_cons (js_par rfl sc_least_capacity.nd (ja_cons (je_int) (ja_cons (je_globI F.g_MAX_AMOUNT) (ja_nil)))) (jss_cons (js_while cx1_pass (jt_cmp m2_lt (quiet_cmpI _) (je_var (i := 3)) (je_var (i := 4))) (jss_cons (js_set sc_least_capacity.nd (je_op m2_div quiet_div (je_op m2_add quiet_add (je_var (i := 3)) (je_var (i := 4))) (je_int))) (jss_one (js_if (jt_cmp m2_le quiet_le (je_ix (je_dget hu1 (je_call (h_long_run F) (hr.mono (by decide)) (ja_cons (je_meth (tbl1 ⟨F.cl_Row, h_Row_with_capacity F⟩) (by simp) (hr.mono (by decide)) (je_var (i := 0)) (ja_cons (je_var (i := 1)) (ja_cons (je_var (i := 5)) (ja_nil)))) (ja_nil))) (je_var (i := 1))) (je_int)) (je_var (i := 2))) (jss_one (js_set sc_least_capacity.nd (je_var (i := 5)))) (jss_one (js_set sc_least_capacity.nd (je_op m2_add quiet_add (je_var (i := 5)) (je_int)))))))) (jss_one (js_ret (je_var (i := 3)))))))))))⟩
/-! ### _law_query -/
abbrev N_law_query : List Str := ["_law_row_here", "_law_branch", "_law_name", "_law_found", "_law_rows"]
theorem sc_law_query : FnScope N_law_query ["_law_row_here", "_law_branch"] (defScope s_law_query) := ⟨rfl, rfl, rfl, by decide +kernel, rfl, by decide +kernel, by decide +kernel⟩
theorem h_law_query {T : Wh} (F : Fx T) : Has T "_law_query" 10 2 f_law_query := by
  obtain ⟨f, fd, hm, hF, hB⟩ := F.fn_law_query
  exact ⟨f, hm, fnM_of1 (k := 9) (N := N_law_query) (m := 3) (body := m_law_query) hF hB sc_law_query rfl rfl (fun cdv A outer s H E hr => (by have hu := hr.units; have hu1 : _ + 1 < cLine := Nat.lt_of_le_of_lt (Nat.add_le_add_left (by decide) _) hu; have hu2 : _ + 2 < cLine := Nat.lt_of_le_of_lt (Nat.add_le_add_left (by decide) _) hu; delta m_law_query; delta Se.sWhile Se.mVar Se.mC Se.mBin Se.mTest Se.mChain Se.tAndM Se.tOrM Se.tNotM Se.mAnd Se.mOr Se.mNot Se.mIf Se.aNil Se.aCons Se.mTup Se.mLst Se.mApp Se.mCut Se.oNone Se.oSome Se.sNext Se.sSeq Se.sSet Se.sRet Se.sDrop Se.sIf Se.sAug Se.sBreak Se.sCont Se.gSet Se.gsNil Se.gsCons Se.gTupM Se.sAsg Se.sPar Se.sFor Se.iRange1 Se.iRange2 Se.mFld Se.sFldM Se.sFldAugM Se.mMeth Se.mProp Se.vMake Se.iEnumM Se.iZipM Se.iSeqM Se.iStrM Se.mYes Se.mLc Se.mBM Se.gSubL Se.mIsi Se.sRaise Se.sRaise0 Se.aStar Se.mOp Se.mLen Se.mDget Se.gSubD Se.mDisp Se.mItems Se.mDc Se.gFld Se.mOutcome Se.mBad Se.sBad Se.mNeg Se.mCall Se.mGetO Se.mOpT Se.mIsiO Se.gTupS Se.iKeysM Se.iValsM Se.mDisp0 Ab.mNeg; exact (jss_cons (js_set sc_law_query.nd (je_ix (je_prop (tbl1 ⟨F.cl_Row, h_Row_names F⟩) (by simp) (hr.mono (by decide)) (je_var (i := 0))) (je_int))) (jss_cons (js_if (jt_cmp (m2_eq hu) quiet_eq (je_var (i := 1)) (je_int)) (jss_cons (js_set sc_law_query.nd (je_call (h_totals F) (hr.mono (by decide)) (ja_cons (je_var (i := 0)) (ja_cons (je_op m2_pow quiet_pow (je_int) (je_int)) (ja_nil))))) (jss_cons (js_set sc_law_query.nd (je_listItems rfl F.b_list (je_var (i := 3)))) (jss_cons (js_asg (je_int) (jg_dsub hu1 (je_var (i := 3)) (je_var (i := 2)))) (jss_one (js_ret (je_var (i := 4))))))) (jss_nil)) (jss_cons (js_if (jt_cmp (m2_eq hu) quiet_eq (je_var (i := 1)) (je_int)) (jss_cons (js_set sc_law_query.nd (je_call (h_long_run F) (hr.mono (by decide)) (ja_cons (je_var (i := 0)) (ja_nil)))) (jss_cons (js_set sc_law_query.nd (je_listItems rfl F.b_list (je_var (i := 3)))) (jss_cons (js_asg (je_int) (jg_dsub hu1 (je_var (i := 3)) (je_str))) (jss_one (js_ret (je_var (i := 4))))))) (jss_nil)) (jss_cons (js_if (jt_cmp (m2_eq hu) quiet_eq (je_var (i := 1)) (je_int)) (jss_one (js_ret (je_lst (ja_cons (je_call (h_lost F) (hr.mono (by decide)) (ja_cons (je_var (i := 0)) (ja_cons (je_op m2_pow quiet_pow (je_int) (je_int)) (ja_nil)))) (ja_cons (je_call (h_settled_round F) (hr.mono (by decide)) (ja_cons (je_var (i := 0)) (ja_nil))) (ja_cons (je_call (h_first_missed F) (hr.mono (by decide)) (ja_cons (je_var (i := 0)) (ja_cons (je_var (i := 2)) (ja_cons (je_int) (ja_nil))))) (ja_nil))))))) (jss_nil)) (jss_cons (js_if (jt_cmp (m2_eq hu) quiet_eq (je_var (i := 1)) (je_int)) (jss_cons (js_set sc_law_query.nd (je_call (h_change_without F) (hr.mono (by decide)) (ja_cons (je_var (i := 0)) (ja_cons (je_var (i := 2)) (ja_nil))))) (jss_cons (js_set sc_law_query.nd (je_listItems rfl F.b_list (je_var (i := 3)))) (jss_cons (js_asg (je_int) (jg_dsub hu1 (je_var (i := 3)) (je_str))) (jss_one (js_ret (je_op m2_add quiet_add (je_var (i := 4)) (je_lst (ja_cons (je_call (h_held_back F) (hr.mono (by decide)) (ja_cons (je_var (i := 0)) (ja_cons (je_var (i := 2)) (ja_nil)))) (ja_nil))))))))) (jss_nil)) (jss_one (js_ret (je_lst (ja_cons (je_call (h_least_capacity F) (hr.mono (by decide)) (ja_cons (je_var (i := 0)) (ja_cons (je_var (i := 2)) (ja_cons (je_int) (ja_nil))))) (ja_cons (je_callO (h_Row_call F) (hr.mono (by decide)) (je_var (i := 0)) (ja_cons (je_var (i := 2)) (ja_cons (je_int) (ja_nil)))) (ja_cons (je_callG (h_Row_call F) (hr.mono (by decide)) (je_meth (tbl1 ⟨F.cl_Row, h_Row_with_rain F⟩) (by simp) (hr.mono (by decide)) (je_var (i := 0)) (ja_cons (je_int) (ja_cons (je_int) (ja_nil)))) (ja_cons (je_var (i := 2)) (ja_cons (je_int) (ja_nil)))) (ja_nil))))))))))))))⟩
/-! ### _law_same -/
abbrev N_law_same : List Str := ["_law_result", "_law_expected", "_law_k"]
theorem sc_law_same : FnScope N_law_same ["_law_result", "_law_expected"] (defScope s_law_same) := ⟨rfl, rfl, rfl, by decide +kernel, rfl, by decide +kernel, by decide +kernel⟩
theorem h_law_same {T : Wh} (F : Fx T) : ∀ n, Has T "_law_same" (n + 1) 2 (f_law_same n)
  | 0 => let ⟨f, fd, hm, hF, hB⟩ := F.fn_law_same; ⟨f, hm, fnM_of1 (N := N_law_same) (m := 1) hF hB sc_law_same rfl rfl fun cdv A outer s H E hr => jss_never⟩
  | n + 1 => by
    have ih := h_law_same F n
    obtain ⟨f, fd, hm, hF, hB⟩ := F.fn_law_same
    exact ⟨f, hm, fnM_of1 (k := n + 1) (N := N_law_same) (m := 1) (body := m_law_same (f_law_same n)) hF hB sc_law_same rfl rfl (fun cdv A outer s H E hr => (by have hu := hr.units; have hu1 : _ + 1 < cLine := Nat.lt_of_le_of_lt (Nat.add_le_add_left (by decide) _) hu; have hu2 : _ + 2 < cLine := Nat.lt_of_le_of_lt (Nat.add_le_add_left (by decide) _) hu; delta m_law_same; delta Se.sWhile Se.mVar Se.mC Se.mBin Se.mTest Se.mChain Se.tAndM Se.tOrM Se.tNotM Se.mAnd Se.mOr Se.mNot Se.mIf Se.aNil Se.aCons Se.mTup Se.mLst Se.mApp Se.mCut Se.oNone Se.oSome Se.sNext Se.sSeq Se.sSet Se.sRet Se.sDrop Se.sIf Se.sAug Se.sBreak Se.sCont Se.gSet Se.gsNil Se.gsCons Se.gTupM Se.sAsg Se.sPar Se.sFor Se.iRange1 Se.iRange2 Se.mFld Se.sFldM Se.sFldAugM Se.mMeth Se.mProp Se.vMake Se.iEnumM Se.iZipM Se.iSeqM Se.iStrM Se.mYes Se.mLc Se.mBM Se.gSubL Se.mIsi Se.sRaise Se.sRaise0 Se.aStar Se.mOp Se.mLen Se.mDget Se.gSubD Se.mDisp Se.mItems Se.mDc Se.gFld Se.mOutcome Se.mBad Se.sBad Se.mNeg Se.mCall Se.mGetO Se.mOpT Se.mIsiO Se.gTupS Se.iKeysM Se.iValsM Se.mDisp0 Ab.mNeg; exact (jss_cons (js_if (jt_val (je_isi2 F.b_isinstance F.b_tuple F.b_list (je_var (i := 1)) .tuple .list Boot.tuple Boot.list)) (jss_cons (js_if ((jw_or (jt_not (jt_val (je_isi2 F.b_isinstance F.b_tuple F.b_list (je_var (i := 0)) .tuple .list Boot.tuple Boot.list))) (jw_or1 (jt_cmp (m2_ne hu) quiet_ne (je_isi F.b_isinstance F.b_list (je_var (i := 0)) .list Boot.list) (je_isi F.b_isinstance F.b_list (je_var (i := 1)) .list Boot.list)))).jt) (jss_one (js_ret (je_bl))) (jss_nil)) (jss_cons (js_if (jt_cmp (m2_ne hu) quiet_ne (je_callB mc_len quiet_len F.b_len Boot.len (ja_cons (je_var (i := 0)) (ja_nil))) (je_callB mc_len quiet_len F.b_len Boot.len (ja_cons (je_var (i := 1)) (ja_nil)))) (jss_one (js_ret (je_bl))) (jss_nil)) (jss_one (js_ret (je_cmp (m2_eq hu) quiet_eq (je_lc rfl sc_law_same.nd [("_law_k", 2)] (ji_range1 F.b_range (ja_cons (je_callB mc_len quiet_len F.b_len Boot.len (ja_cons (je_var (i := 1)) (ja_nil))) (ja_nil))) (by first | (change blkC N_law_same (defScope s_law_same) _ _ = true; decide +kernel) | rfl) (fun s H C cl fp => jg_name (i := 2) sc_law_same.nd) (fun s H C cl fp => jts_one (jt_not (jt_val (je_call ih (hr.mono (by omega)) (ja_cons (je_ix (je_var (i := 0)) (je_var (i := 2))) (ja_cons (je_ix (je_var (i := 1)) (je_var (i := 2))) (ja_nil))))))) (fun s H C cl fp => je_var (i := 2))) (je_lst (ja_nil))))))) (jss_nil)) (jss_cons (js_if (jt_cmp (m2_ne hu) quiet_ne (je_isi F.b_isinstance F.b_bool (je_var (i := 0)) .bool Boot.bool) (je_isi F.b_isinstance F.b_bool (je_var (i := 1)) .bool Boot.bool)) (jss_one (js_ret (je_bl))) (jss_nil)) (jss_one (js_ret (je_and (je_cmp (m2_eq hu) quiet_eq (je_isi F.b_isinstance F.b_int (je_var (i := 0)) .int Boot.int) (je_isi F.b_isinstance F.b_int (je_var (i := 1)) .int Boot.int)) (je_one (je_cmp (m2_eq hu) quiet_eq (je_var (i := 0)) (je_var (i := 1)))))))))))⟩
/-! ### law -/
abbrev N_law : List Str := ["_law_script", "_law_state", "_law_rows", "_law_k", "_law_rain", "_law_barrels", "_law_expected", "_law_branch", "_law_row_here", "_law_turn", "_law_actual"]
theorem sc_law : FnScope N_law ["_law_script"] (defScope s_law) := ⟨rfl, rfl, rfl, by decide +kernel, rfl, by decide +kernel, by decide +kernel⟩
theorem j_law {T : Wh} (F : Fx T) {c P : Addr} (TB : LamX.TabB T.base T.mg c P) (hmT : (P, ("law" : Str) ++ ".<locals>." ++ "<lambda>") ∈ tabsOf T.K T.mg) (huT : ∀ p ∈ tabsOf T.K T.mg, p.1 = P → p.2 = ("law" : Str) ++ ".<locals>." ++ "<lambda>") {f : Addr} {A : Around} {outer : List Env} {s : Shared} {H : Hp} {E : XK}
    (hr : Room 10 (cx1 T N_law "law" s_law f (.ref c) A outer s H E).A) : JSs (cx1 T N_law "law" s_law f (.ref c) A outer s H E) (defBody s_law) m_law := by
  have hu := hr.units; have hu1 : _ + 1 < cLine := Nat.lt_of_le_of_lt (Nat.add_le_add_left (by decide) _) hu; have hu2 : _ + 2 < cLine := Nat.lt_of_le_of_lt (Nat.add_le_add_left (by decide) _) hu
  delta m_law
  delta Se.sWhile Se.mVar Se.mC Se.mBin Se.mTest Se.mChain Se.tAndM Se.tOrM Se.tNotM Se.mAnd Se.mOr Se.mNot Se.mIf Se.aNil Se.aCons Se.mTup Se.mLst Se.mApp Se.mCut Se.oNone Se.oSome Se.sNext Se.sSeq Se.sSet Se.sRet Se.sDrop Se.sIf Se.sAug Se.sBreak Se.sCont Se.gSet Se.gsNil Se.gsCons Se.gTupM Se.sAsg Se.sPar Se.sFor Se.iRange1 Se.iRange2 Se.mFld Se.sFldM Se.sFldAugM Se.mMeth Se.mProp Se.vMake Se.iEnumM Se.iZipM Se.iSeqM Se.iStrM Se.mYes Se.mLc Se.mBM Se.gSubL Se.mIsi Se.sRaise Se.sRaise0 Se.aStar Se.mOp Se.mLen Se.mDget Se.gSubD Se.mDisp Se.mItems Se.mDc Se.gFld Se.mOutcome Se.mBad Se.sBad Se.mNeg Se.mCall Se.mGetO Se.mOpT Se.mIsiO Se.gTupS Se.iKeysM Se.iValsM Se.mDisp0 Ab.mNeg
  exact (jss_cons (js_set sc_law.nd (je_call (h_law_start F) (hr.mono (by decide)) (ja_cons (je_var (i := 0)) (ja_nil)))) (jss_cons (js_set sc_law.nd (je_lst (ja_nil))) (jss_cons (js_for cx1_pass rfl (ji_range1 F.b_range (ja_cons (je_int) (ja_nil))) (jg_name (i := 3) sc_law.nd) (jss_cons (js_asg (je_call (h_law_plan F) (hr.mono (by decide)) (ja_cons (je_var (i := 1)) (ja_cons (je_int) (ja_cons (je_ix (je_lst (ja_cons (je_int) (ja_cons (je_int) (ja_nil)))) (je_call (h_law_drawn F) (hr.mono (by decide)) (ja_cons (je_var (i := 1)) (ja_cons (je_int) (ja_nil))))) (ja_nil))))) (jg_tup rfl (jgs_cons (jg_name (i := 4) sc_law.nd) (jgs_cons (jg_name (i := 5) sc_law.nd) (jgs_nil))))) (jss_one (js_expr (je_append (je_var (i := 2)) (je_call (h_law_row F) (hr.mono (by decide)) (ja_cons (je_var (i := 4)) (ja_cons (je_var (i := 5)) (ja_nil))))))))) (jss_cons (js_setLc rfl sc_law.nd [("_law_row_here", 8)] (ji_seq (je_var (i := 2))) (by first | (change blkC N_law (defScope s_law) _ _ = true; decide +kernel) | rfl) (fun s H C cl fp => jg_name (i := 8) sc_law.nd) (fun s H C cl fp => jts_nil) (fun s H C cl fp => je_lc rfl sc_law.nd [("_law_branch", 7)] (ji_range1 F.b_range (ja_cons (je_int) (ja_nil))) (by first | (change blkC N_law (defScope s_law) _ _ = true; decide +kernel) | rfl) (fun s H C cl fp => jg_name (i := 7) sc_law.nd) (fun s H C cl fp => jts_nil) (fun s H C cl fp => je_callTy mc_list quiet_list F.b_list Boot.list (ja_cons (je_call (h_law_query F) (hr.mono (by decide)) (ja_cons (je_var (i := 8)) (ja_cons (je_var (i := 7)) (ja_nil)))) (ja_nil)))) (by rfl)) (jss_cons (js_for cx1_pass rfl (ji_range1 F.b_range (ja_cons (je_op m2_add quiet_add (je_int) (je_call (h_law_drawn F) (hr.mono (by decide)) (ja_cons (je_var (i := 1)) (ja_cons (je_int) (ja_nil))))) (ja_nil))) (jg_name (i := 9) sc_law.nd) (jss_cons (js_par rfl sc_law.nd (ja_cons (je_call (h_law_drawn F) (hr.mono (by decide)) (ja_cons (je_var (i := 1)) (ja_cons (je_int) (ja_nil)))) (ja_cons (je_call (h_law_drawn F) (hr.mono (by decide)) (ja_cons (je_var (i := 1)) (ja_cons (je_int) (ja_nil)))) (ja_nil)))) (jss_cons (js_set sc_law.nd (je_call (h_law_query F) (hr.mono (by decide)) (ja_cons (je_ix (je_var (i := 2)) (je_var (i := 3))) (ja_cons (je_var (i := 7)) (ja_nil))))) (jss_cons (js_if (jt_not (jt_val (je_call (h_law_same F 5) (hr.mono (by decide)) (ja_cons (je_var (i := 10)) (ja_cons (je_ix (je_ix (je_var (i := 6)) (je_var (i := 3))) (je_var (i := 7))) (ja_nil)))))) (jss_one (js_ret (je_bl))) (jss_nil)) (jss_cons (js_expr (je_append (je_var (i := 10)) (je_int))) (jss_one (js_expr (je_reverse (je_var (i := 10)))))))))) (jss_one (js_ret (je_bl))))))))
end K10

set_option Elab.async false
set_option linter.all false
set_option maxRecDepth 100000
set_option maxHeartbeats 4000000
namespace K10
open PySem PySem.Spec PyProof.Rows L2 Ab
theorem fx_mk {P : Program} {w : World} {K : PySem.W.Frag} {h : Heap} {mg : Str → Option Value} {f_law_start : Addr} {oc_law_start : Value} {od_law_start : Option Addr} {kV_law_start : Value} {dc_law_start : Value} {pm_law_start : Value} {an_law_start : Option Addr} {cd_law_start : Value} {ct_law_start : Value} {sl_law_start : Array (Option Value)} {f_law_drawn : Addr} {oc_law_drawn : Value} {od_law_drawn : Option Addr} {kV_law_drawn : Value} {dc_law_drawn : Value} {pm_law_drawn : Value} {an_law_drawn : Option Addr} {cd_law_drawn : Value} {ct_law_drawn : Value} {sl_law_drawn : Array (Option Value)} {f_law_plan : Addr} {oc_law_plan : Value} {od_law_plan : Option Addr} {kV_law_plan : Value} {dc_law_plan : Value} {pm_law_plan : Value} {an_law_plan : Option Addr} {cd_law_plan : Value} {ct_law_plan : Value} {sl_law_plan : Array (Option Value)} {C_Row : Addr} {tc_MAX_TICKS : Tok} {t_MAX_RAIN : Tok} {tc_MAX_BARRELS : Tok} {t_MAX_LETTERS : Tok} {t_LETTERS : Tok} {f_is_name : Addr} {oc_is_name : Value} {od_is_name : Option Addr} {kV_is_name : Value} {dc_is_name : Value} {pm_is_name : Value} {an_is_name : Option Addr} {cd_is_name : Value} {ct_is_name : Value} {sl_is_name : Array (Option Value)} {t_MAX_AMOUNT : Tok} {t_MAX_ROOF : Tok} {f_is_barrel : Addr} {oc_is_barrel : Value} {od_is_barrel : Option Addr} {kV_is_barrel : Value} {dc_is_barrel : Value} {pm_is_barrel : Value} {an_is_barrel : Option Addr} {cd_is_barrel : Value} {ct_is_barrel : Value} {sl_is_barrel : Array (Option Value)} {f_Row_init : Addr} {oc_Row_init : Value} {od_Row_init : Option Addr} {kV_Row_init : Value} {dc_Row_init : Value} {pm_Row_init : Value} {an_Row_init : Option Addr} {cd_Row_init : Value} {ct_Row_init : Value} {sl_Row_init : Array (Option Value)} {C_OtherRain : Addr} {nm_x_OtherRain : Str} {q_x_OtherRain : Str} {N_x_OtherRain : Addr} {bs_x_OtherRain : List Value} {bm_x_OtherRain : List Value} {sn_x_OtherRain : List Str} {sub_x_OtherRain : List Value} {ab_x_OtherRain : Bool} {col_x_OtherRain : Option Bool} {dd_x_OtherRain : Option Addr} {m0_x_OtherRain : Option Value} {m1_x_OtherRain : Option Value} {m2_x_OtherRain : Option Value} {m3_x_OtherRain : Option Value} {m5_x_OtherRain : Option Value} {f_Row_add : Addr} {oc_Row_add : Value} {od_Row_add : Option Addr} {kV_Row_add : Value} {dc_Row_add : Value} {pm_Row_add : Value} {an_Row_add : Option Addr} {cd_Row_add : Value} {ct_Row_add : Value} {sl_Row_add : Array (Option Value)} {f_law_row : Addr} {oc_law_row : Value} {od_law_row : Option Addr} {kV_law_row : Value} {dc_law_row : Value} {pm_law_row : Value} {an_law_row : Option Addr} {cd_law_row : Value} {ct_law_row : Value} {sl_law_row : Array (Option Value)} {f_Row_names : Addr} {oc_Row_names : Value} {od_Row_names : Option Addr} {kV_Row_names : Value} {dc_Row_names : Value} {pm_Row_names : Value} {an_Row_names : Option Addr} {cd_Row_names : Value} {ct_Row_names : Value} {sl_Row_names : Array (Option Value)} {p_Row_names : Addr} {r_Row_names : List Value} {t_MAX_TICK : Tok} {C_InvalidNumber : Addr} {nm_x_InvalidNumber : Str} {q_x_InvalidNumber : Str} {N_x_InvalidNumber : Addr} {bs_x_InvalidNumber : List Value} {bm_x_InvalidNumber : List Value} {sn_x_InvalidNumber : List Str} {sub_x_InvalidNumber : List Value} {ab_x_InvalidNumber : Bool} {col_x_InvalidNumber : Option Bool} {dd_x_InvalidNumber : Option Addr} {m0_x_InvalidNumber : Option Value} {m1_x_InvalidNumber : Option Value} {m2_x_InvalidNumber : Option Value} {m3_x_InvalidNumber : Option Value} {m5_x_InvalidNumber : Option Value} {f_validate_number : Addr} {oc_validate_number : Value} {od_validate_number : Option Addr} {kV_validate_number : Value} {dc_validate_number : Value} {pm_validate_number : Value} {an_validate_number : Option Addr} {cd_validate_number : Value} {ct_validate_number : Value} {sl_validate_number : Array (Option Value)} {f_Row_rain : Addr} {oc_Row_rain : Value} {od_Row_rain : Option Addr} {kV_Row_rain : Value} {dc_Row_rain : Value} {pm_Row_rain : Value} {an_Row_rain : Option Addr} {cd_Row_rain : Value} {ct_Row_rain : Value} {sl_Row_rain : Array (Option Value)} {p_Row_rain : Addr} {r_Row_rain : List Value} {f_split_ticks : Addr} {oc_split_ticks : Value} {od_split_ticks : Option Addr} {kV_split_ticks : Value} {dc_split_ticks : Value} {pm_split_ticks : Value} {an_split_ticks : Option Addr} {cd_split_ticks : Value} {ct_split_ticks : Value} {sl_split_ticks : Array (Option Value)} {f_Row_barrels : Addr} {oc_Row_barrels : Value} {od_Row_barrels : Option Addr} {kV_Row_barrels : Value} {dc_Row_barrels : Value} {pm_Row_barrels : Value} {an_Row_barrels : Option Addr} {cd_Row_barrels : Value} {ct_Row_barrels : Value} {sl_Row_barrels : Array (Option Value)} {p_Row_barrels : Addr} {r_Row_barrels : List Value} {C_Flow : Addr} {f_Flow_play_round : Addr} {oc_Flow_play_round : Value} {od_Flow_play_round : Option Addr} {kV_Flow_play_round : Value} {dc_Flow_play_round : Value} {pm_Flow_play_round : Value} {an_Flow_play_round : Option Addr} {cd_Flow_play_round : Value} {ct_Flow_play_round : Value} {sl_Flow_play_round : Array (Option Value)} {f_Flow_alike : Addr} {oc_Flow_alike : Value} {od_Flow_alike : Option Addr} {kV_Flow_alike : Value} {dc_Flow_alike : Value} {pm_Flow_alike : Value} {an_Flow_alike : Option Addr} {cd_Flow_alike : Value} {ct_Flow_alike : Value} {sl_Flow_alike : Array (Option Value)} {C_Stretch : Addr} {f_Stretch_init : Addr} {oc_Stretch_init : Value} {od_Stretch_init : Option Addr} {kV_Stretch_init : Value} {dc_Stretch_init : Value} {pm_Stretch_init : Value} {an_Stretch_init : Option Addr} {cd_Stretch_init : Value} {ct_Stretch_init : Value} {sl_Stretch_init : Array (Option Value)} {f_Flow_extend : Addr} {oc_Flow_extend : Value} {od_Flow_extend : Option Addr} {kV_Flow_extend : Value} {dc_Flow_extend : Value} {pm_Flow_extend : Value} {an_Flow_extend : Option Addr} {cd_Flow_extend : Value} {ct_Flow_extend : Value} {sl_Flow_extend : Array (Option Value)} {f_Flow_play : Addr} {oc_Flow_play : Value} {od_Flow_play : Option Addr} {kV_Flow_play : Value} {dc_Flow_play : Value} {pm_Flow_play : Value} {an_Flow_play : Option Addr} {cd_Flow_play : Value} {ct_Flow_play : Value} {sl_Flow_play : Array (Option Value)} {f_Flow_is_like_last : Addr} {oc_Flow_is_like_last : Value} {od_Flow_is_like_last : Option Addr} {kV_Flow_is_like_last : Value} {dc_Flow_is_like_last : Value} {pm_Flow_is_like_last : Value} {an_Flow_is_like_last : Option Addr} {cd_Flow_is_like_last : Value} {ct_Flow_is_like_last : Value} {sl_Flow_is_like_last : Array (Option Value)} {f_Flow_init : Addr} {oc_Flow_init : Value} {od_Flow_init : Option Addr} {kV_Flow_init : Value} {dc_Flow_init : Value} {pm_Flow_init : Value} {an_Flow_init : Option Addr} {cd_Flow_init : Value} {ct_Flow_init : Value} {sl_Flow_init : Array (Option Value)} {f_Flow_outflow : Addr} {oc_Flow_outflow : Value} {od_Flow_outflow : Option Addr} {kV_Flow_outflow : Value} {dc_Flow_outflow : Value} {pm_Flow_outflow : Value} {an_Flow_outflow : Option Addr} {cd_Flow_outflow : Value} {ct_Flow_outflow : Value} {sl_Flow_outflow : Array (Option Value)} {f_flows_of : Addr} {oc_flows_of : Value} {od_flows_of : Option Addr} {kV_flows_of : Value} {dc_flows_of : Value} {pm_flows_of : Value} {an_flows_of : Option Addr} {cd_flows_of : Value} {ct_flows_of : Value} {sl_flows_of : Array (Option Value)} {f_Flow_stretch_at : Addr} {oc_Flow_stretch_at : Value} {od_Flow_stretch_at : Option Addr} {kV_Flow_stretch_at : Value} {dc_Flow_stretch_at : Value} {pm_Flow_stretch_at : Value} {an_Flow_stretch_at : Option Addr} {cd_Flow_stretch_at : Value} {ct_Flow_stretch_at : Value} {sl_Flow_stretch_at : Array (Option Value)} {f_Flow_rows_of : Addr} {oc_Flow_rows_of : Value} {od_Flow_rows_of : Option Addr} {kV_Flow_rows_of : Value} {dc_Flow_rows_of : Value} {pm_Flow_rows_of : Value} {an_Flow_rows_of : Option Addr} {cd_Flow_rows_of : Value} {ct_Flow_rows_of : Value} {sl_Flow_rows_of : Array (Option Value)} {f_sums_of : Addr} {oc_sums_of : Value} {od_sums_of : Option Addr} {kV_sums_of : Value} {dc_sums_of : Value} {pm_sums_of : Value} {an_sums_of : Option Addr} {cd_sums_of : Value} {ct_sums_of : Value} {sl_sums_of : Array (Option Value)} {f_Flow_sums : Addr} {oc_Flow_sums : Value} {od_Flow_sums : Option Addr} {kV_Flow_sums : Value} {dc_Flow_sums : Value} {pm_Flow_sums : Value} {an_Flow_sums : Option Addr} {cd_Flow_sums : Value} {ct_Flow_sums : Value} {sl_Flow_sums : Array (Option Value)} {f_totals : Addr} {oc_totals : Value} {od_totals : Option Addr} {kV_totals : Value} {dc_totals : Value} {pm_totals : Value} {an_totals : Option Addr} {cd_totals : Value} {ct_totals : Value} {sl_totals : Array (Option Value)} {f_Flow_last_sums : Addr} {oc_Flow_last_sums : Value} {od_Flow_last_sums : Option Addr} {kV_Flow_last_sums : Value} {dc_Flow_last_sums : Value} {pm_Flow_last_sums : Value} {an_Flow_last_sums : Option Addr} {cd_Flow_last_sums : Value} {ct_Flow_last_sums : Value} {sl_Flow_last_sums : Array (Option Value)} {f_long_run : Addr} {oc_long_run : Value} {od_long_run : Option Addr} {kV_long_run : Value} {dc_long_run : Value} {pm_long_run : Value} {an_long_run : Option Addr} {cd_long_run : Value} {ct_long_run : Value} {sl_long_run : Array (Option Value)} {f_place_of : Addr} {oc_place_of : Value} {od_place_of : Option Addr} {kV_place_of : Value} {dc_place_of : Value} {pm_place_of : Value} {an_place_of : Option Addr} {cd_place_of : Value} {ct_place_of : Value} {sl_place_of : Array (Option Value)} {f_missed_from : Addr} {oc_missed_from : Value} {od_missed_from : Option Addr} {kV_missed_from : Value} {dc_missed_from : Value} {pm_missed_from : Value} {an_missed_from : Option Addr} {cd_missed_from : Value} {ct_missed_from : Value} {sl_missed_from : Array (Option Value)} {f_Flow_next_missed : Addr} {oc_Flow_next_missed : Value} {od_Flow_next_missed : Option Addr} {kV_Flow_next_missed : Value} {dc_Flow_next_missed : Value} {pm_Flow_next_missed : Value} {an_Flow_next_missed : Option Addr} {cd_Flow_next_missed : Value} {ct_Flow_next_missed : Value} {sl_Flow_next_missed : Array (Option Value)} {f_first_missed : Addr} {oc_first_missed : Value} {od_first_missed : Option Addr} {kV_first_missed : Value} {dc_first_missed : Value} {pm_first_missed : Value} {an_first_missed : Option Addr} {cd_first_missed : Value} {ct_first_missed : Value} {sl_first_missed : Array (Option Value)} {f_settled_round : Addr} {oc_settled_round : Value} {od_settled_round : Option Addr} {kV_settled_round : Value} {dc_settled_round : Value} {pm_settled_round : Value} {an_settled_round : Option Addr} {cd_settled_round : Value} {ct_settled_round : Value} {sl_settled_round : Array (Option Value)} {f_lost : Addr} {oc_lost : Value} {od_lost : Option Addr} {kV_lost : Value} {dc_lost : Value} {pm_lost : Value} {an_lost : Option Addr} {cd_lost : Value} {ct_lost : Value} {sl_lost : Array (Option Value)} {f_Row_len : Addr} {oc_Row_len : Value} {od_Row_len : Option Addr} {kV_Row_len : Value} {dc_Row_len : Value} {pm_Row_len : Value} {an_Row_len : Option Addr} {cd_Row_len : Value} {ct_Row_len : Value} {sl_Row_len : Array (Option Value)} {f_Row_sub : Addr} {oc_Row_sub : Value} {od_Row_sub : Option Addr} {kV_Row_sub : Value} {dc_Row_sub : Value} {pm_Row_sub : Value} {an_Row_sub : Option Addr} {cd_Row_sub : Value} {ct_Row_sub : Value} {sl_Row_sub : Array (Option Value)} {f_change_without : Addr} {oc_change_without : Value} {od_change_without : Option Addr} {kV_change_without : Value} {dc_change_without : Value} {pm_change_without : Value} {an_change_without : Option Addr} {cd_change_without : Value} {ct_change_without : Value} {sl_change_without : Array (Option Value)} {f_lost_per_round : Addr} {oc_lost_per_round : Value} {od_lost_per_round : Option Addr} {kV_lost_per_round : Value} {dc_lost_per_round : Value} {pm_lost_per_round : Value} {an_lost_per_round : Option Addr} {cd_lost_per_round : Value} {ct_lost_per_round : Value} {sl_lost_per_round : Array (Option Value)} {f_held_back : Addr} {oc_held_back : Value} {od_held_back : Option Addr} {kV_held_back : Value} {dc_held_back : Value} {pm_held_back : Value} {an_held_back : Option Addr} {cd_held_back : Value} {ct_held_back : Value} {sl_held_back : Array (Option Value)} {f_Flow_level : Addr} {oc_Flow_level : Value} {od_Flow_level : Option Addr} {kV_Flow_level : Value} {dc_Flow_level : Value} {pm_Flow_level : Value} {an_Flow_level : Option Addr} {cd_Flow_level : Value} {ct_Flow_level : Value} {sl_Flow_level : Array (Option Value)} {f_Row_call : Addr} {oc_Row_call : Value} {od_Row_call : Option Addr} {kV_Row_call : Value} {dc_Row_call : Value} {pm_Row_call : Value} {an_Row_call : Option Addr} {cd_Row_call : Value} {ct_Row_call : Value} {sl_Row_call : Array (Option Value)} {f_Row_with_rain : Addr} {oc_Row_with_rain : Value} {od_Row_with_rain : Option Addr} {kV_Row_with_rain : Value} {dc_Row_with_rain : Value} {pm_Row_with_rain : Value} {an_Row_with_rain : Option Addr} {cd_Row_with_rain : Value} {ct_Row_with_rain : Value} {sl_Row_with_rain : Array (Option Value)} {f_Row_with_capacity : Addr} {oc_Row_with_capacity : Value} {od_Row_with_capacity : Option Addr} {kV_Row_with_capacity : Value} {dc_Row_with_capacity : Value} {pm_Row_with_capacity : Value} {an_Row_with_capacity : Option Addr} {cd_Row_with_capacity : Value} {ct_Row_with_capacity : Value} {sl_Row_with_capacity : Array (Option Value)} {f_least_capacity : Addr} {oc_least_capacity : Value} {od_least_capacity : Option Addr} {kV_least_capacity : Value} {dc_least_capacity : Value} {pm_least_capacity : Value} {an_least_capacity : Option Addr} {cd_least_capacity : Value} {ct_least_capacity : Value} {sl_least_capacity : Array (Option Value)} {f_law_query : Addr} {oc_law_query : Value} {od_law_query : Option Addr} {kV_law_query : Value} {dc_law_query : Value} {pm_law_query : Value} {an_law_query : Option Addr} {cd_law_query : Value} {ct_law_query : Value} {sl_law_query : Array (Option Value)} {f_law_same : Addr} {oc_law_same : Value} {od_law_same : Option Addr} {kV_law_same : Value} {dc_law_same : Value} {pm_law_same : Value} {an_law_same : Option Addr} {cd_law_same : Value} {ct_law_same : Value} {sl_law_same : Array (Option Value)} {f_x_InvalidRow : Addr} {oc_x_InvalidRow : Value} {od_x_InvalidRow : Option Addr} {kV_x_InvalidRow : Value} {dc_x_InvalidRow : Value} {pm_x_InvalidRow : Value} {an_x_InvalidRow : Option Addr} {cd_x_InvalidRow : Value} {ct_x_InvalidRow : Value} {sl_x_InvalidRow : Array (Option Value)} {C_InvalidRow : Addr} {C_RowError : Addr} {nm_x_InvalidRow : Str} {q_x_InvalidRow : Str} {N_x_InvalidRow : Addr} {bs_x_InvalidRow : List Value} {bm_x_InvalidRow : List Value} {sn_x_InvalidRow : List Str} {sub_x_InvalidRow : List Value} {ab_x_InvalidRow : Bool} {col_x_InvalidRow : Option Bool} {dd_x_InvalidRow : Option Addr} {m0_x_InvalidRow : Option Value} {m1_x_InvalidRow : Option Value} {m2_x_InvalidRow : Option Value} {m3_x_InvalidRow : Option Value} {m5_x_InvalidRow : Option Value} {f_x_UnknownBarrel : Addr} {oc_x_UnknownBarrel : Value} {od_x_UnknownBarrel : Option Addr} {kV_x_UnknownBarrel : Value} {dc_x_UnknownBarrel : Value} {pm_x_UnknownBarrel : Value} {an_x_UnknownBarrel : Option Addr} {cd_x_UnknownBarrel : Value} {ct_x_UnknownBarrel : Value} {sl_x_UnknownBarrel : Array (Option Value)} {C_UnknownBarrel : Addr} {nm_x_UnknownBarrel : Str} {q_x_UnknownBarrel : Str} {N_x_UnknownBarrel : Addr} {bs_x_UnknownBarrel : List Value} {bm_x_UnknownBarrel : List Value} {sn_x_UnknownBarrel : List Str} {sub_x_UnknownBarrel : List Value} {ab_x_UnknownBarrel : Bool} {col_x_UnknownBarrel : Option Bool} {dd_x_UnknownBarrel : Option Addr} {m0_x_UnknownBarrel : Option Value} {m1_x_UnknownBarrel : Option Value} {m2_x_UnknownBarrel : Option Value} {m3_x_UnknownBarrel : Option Value} {m5_x_UnknownBarrel : Option Value}
    (X : K.In h) (G : h.Ns mainGlobals mg)
    (z_range : PySem.W.nsIn K mainGlobals "range" = some none)
    (z_len : PySem.W.nsIn K mainGlobals "len" = some none)
    (z_int : PySem.W.nsIn K mainGlobals "int" = some none)
    (z_tuple : PySem.W.nsIn K mainGlobals "tuple" = some none)
    (z_enumerate : PySem.W.nsIn K mainGlobals "enumerate" = some none)
    (v_MAX_RAIN : PySem.W.nsIn K mainGlobals "MAX_RAIN" = some (some (.int 1000000 t_MAX_RAIN)))
    (v_MAX_LETTERS : PySem.W.nsIn K mainGlobals "MAX_LETTERS" = some (some (.int 8 t_MAX_LETTERS)))
    (v_LETTERS : PySem.W.nsIn K mainGlobals "LETTERS" = some (some (.str "abcdefghijklmnopqrstuvwxyz" t_LETTERS)))
    (z_all : PySem.W.nsIn K mainGlobals "all" = some none)
    (v_MAX_AMOUNT : PySem.W.nsIn K mainGlobals "MAX_AMOUNT" = some (some (.int 1000000000 t_MAX_AMOUNT)))
    (v_MAX_ROOF : PySem.W.nsIn K mainGlobals "MAX_ROOF" = some (some (.int 100 t_MAX_ROOF)))
    (v_MAX_TICK : PySem.W.nsIn K mainGlobals "MAX_TICK" = some (some (.int 1000000000000000000 t_MAX_TICK)))
    (z_zip : PySem.W.nsIn K mainGlobals "zip" = some none)
    (z_max : PySem.W.nsIn K mainGlobals "max" = some none)
    (z_min : PySem.W.nsIn K mainGlobals "min" = some none)
    (z_any : PySem.W.nsIn K mainGlobals "any" = some none)
    (z_sum : PySem.W.nsIn K mainGlobals "sum" = some none)
    (z_list : PySem.W.nsIn K mainGlobals "list" = some none)
    (z_isinstance : PySem.W.nsIn K mainGlobals "isinstance" = some none)
    (z_bool : PySem.W.nsIn K mainGlobals "bool" = some none)
    (a_law_start : PySem.W.nsIn K mainGlobals "_law_start" = some (some (.ref f_law_start)))
    (a_law_drawn : PySem.W.nsIn K mainGlobals "_law_drawn" = some (some (.ref f_law_drawn)))
    (a_law_plan : PySem.W.nsIn K mainGlobals "_law_plan" = some (some (.ref f_law_plan)))
    (a_Row : PySem.W.nsIn K mainGlobals "Row" = some (some (.ref C_Row)))
    (a_is_name : PySem.W.nsIn K mainGlobals "is_name" = some (some (.ref f_is_name)))
    (a_is_barrel : PySem.W.nsIn K mainGlobals "is_barrel" = some (some (.ref f_is_barrel)))
    (a_OtherRain : PySem.W.nsIn K mainGlobals "OtherRain" = some (some (.ref C_OtherRain)))
    (a_law_row : PySem.W.nsIn K mainGlobals "_law_row" = some (some (.ref f_law_row)))
    (a_InvalidNumber : PySem.W.nsIn K mainGlobals "InvalidNumber" = some (some (.ref C_InvalidNumber)))
    (a_validate_number : PySem.W.nsIn K mainGlobals "validate_number" = some (some (.ref f_validate_number)))
    (a_split_ticks : PySem.W.nsIn K mainGlobals "split_ticks" = some (some (.ref f_split_ticks)))
    (a_Flow : PySem.W.nsIn K mainGlobals "Flow" = some (some (.ref C_Flow)))
    (a_Stretch : PySem.W.nsIn K mainGlobals "Stretch" = some (some (.ref C_Stretch)))
    (a_flows_of : PySem.W.nsIn K mainGlobals "flows_of" = some (some (.ref f_flows_of)))
    (a_sums_of : PySem.W.nsIn K mainGlobals "sums_of" = some (some (.ref f_sums_of)))
    (a_totals : PySem.W.nsIn K mainGlobals "totals" = some (some (.ref f_totals)))
    (a_long_run : PySem.W.nsIn K mainGlobals "long_run" = some (some (.ref f_long_run)))
    (a_place_of : PySem.W.nsIn K mainGlobals "place_of" = some (some (.ref f_place_of)))
    (a_missed_from : PySem.W.nsIn K mainGlobals "missed_from" = some (some (.ref f_missed_from)))
    (a_first_missed : PySem.W.nsIn K mainGlobals "first_missed" = some (some (.ref f_first_missed)))
    (a_settled_round : PySem.W.nsIn K mainGlobals "settled_round" = some (some (.ref f_settled_round)))
    (a_lost : PySem.W.nsIn K mainGlobals "lost" = some (some (.ref f_lost)))
    (a_change_without : PySem.W.nsIn K mainGlobals "change_without" = some (some (.ref f_change_without)))
    (a_lost_per_round : PySem.W.nsIn K mainGlobals "lost_per_round" = some (some (.ref f_lost_per_round)))
    (a_held_back : PySem.W.nsIn K mainGlobals "held_back" = some (some (.ref f_held_back)))
    (a_least_capacity : PySem.W.nsIn K mainGlobals "least_capacity" = some (some (.ref f_least_capacity)))
    (a_law_query : PySem.W.nsIn K mainGlobals "_law_query" = some (some (.ref f_law_query)))
    (a_law_same : PySem.W.nsIn K mainGlobals "_law_same" = some (some (.ref f_law_same)))
    (a_InvalidRow : PySem.W.nsIn K mainGlobals "InvalidRow" = some (some (.ref C_InvalidRow)))
    (a_RowError : PySem.W.nsIn K mainGlobals "RowError" = some (some (.ref C_RowError)))
    (a_UnknownBarrel : PySem.W.nsIn K mainGlobals "UnknownBarrel" = some (some (.ref C_UnknownBarrel)))
    (ii_Row : PySem.W.findIn K (.ref C_Row) "__init__" = some (some (.ref f_Row_init)))
    (at_Row_add : PySem.W.findIn K (.ref C_Row) "__add__" = some (some (.ref f_Row_add)))
    (at_Row_names : PySem.W.findIn K (.ref C_Row) "names" = some (some (.ref p_Row_names)))
    (at_Row_rain : PySem.W.findIn K (.ref C_Row) "rain" = some (some (.ref p_Row_rain)))
    (at_Row_barrels : PySem.W.findIn K (.ref C_Row) "barrels" = some (some (.ref p_Row_barrels)))
    (at_Flow_play_round : PySem.W.findIn K (.ref C_Flow) "play_round" = some (some (.ref f_Flow_play_round)))
    (at_Flow_alike : PySem.W.findIn K (.ref C_Flow) "alike" = some (some (.ref f_Flow_alike)))
    (ii_Stretch : PySem.W.findIn K (.ref C_Stretch) "__init__" = some (some (.ref f_Stretch_init)))
    (at_Flow_extend : PySem.W.findIn K (.ref C_Flow) "extend" = some (some (.ref f_Flow_extend)))
    (at_Flow_play : PySem.W.findIn K (.ref C_Flow) "play" = some (some (.ref f_Flow_play)))
    (at_Flow_is_like_last : PySem.W.findIn K (.ref C_Flow) "is_like_last" = some (some (.ref f_Flow_is_like_last)))
    (ii_Flow : PySem.W.findIn K (.ref C_Flow) "__init__" = some (some (.ref f_Flow_init)))
    (at_Flow_outflow : PySem.W.findIn K (.ref C_Flow) "outflow" = some (some (.ref f_Flow_outflow)))
    (at_Flow_stretch_at : PySem.W.findIn K (.ref C_Flow) "stretch_at" = some (some (.ref f_Flow_stretch_at)))
    (at_Flow_rows_of : PySem.W.findIn K (.ref C_Flow) "rows_of" = some (some (.ref f_Flow_rows_of)))
    (at_Flow_sums : PySem.W.findIn K (.ref C_Flow) "sums" = some (some (.ref f_Flow_sums)))
    (at_Flow_last_sums : PySem.W.findIn K (.ref C_Flow) "last_sums" = some (some (.ref f_Flow_last_sums)))
    (at_Flow_next_missed : PySem.W.findIn K (.ref C_Flow) "next_missed" = some (some (.ref f_Flow_next_missed)))
    (at_Row_len : PySem.W.findIn K (.ref C_Row) "__len__" = some (some (.ref f_Row_len)))
    (at_Row_sub : PySem.W.findIn K (.ref C_Row) (PySem.dunder Operator.Sub.info.2) = some (some (.ref f_Row_sub)))
    (at_Flow_level : PySem.W.findIn K (.ref C_Flow) "level" = some (some (.ref f_Flow_level)))
    (at_Row_call : PySem.W.findIn K (.ref C_Row) "__call__" = some (some (.ref f_Row_call)))
    (at_Row_with_rain : PySem.W.findIn K (.ref C_Row) "with_rain" = some (some (.ref f_Row_with_rain)))
    (at_Row_with_capacity : PySem.W.findIn K (.ref C_Row) "with_capacity" = some (some (.ref f_Row_with_capacity)))
    (ii_InvalidRow : PySem.W.findIn K (.ref C_InvalidRow) "__init__" = some (some (.ref f_x_InvalidRow)))
    (ii_UnknownBarrel : PySem.W.findIn K (.ref C_UnknownBarrel) "__init__" = some (some (.ref f_x_UnknownBarrel)))
    (gt_Row_names : PySem.W.specialIn K (.ref p_Row_names) "__get__" = some (some (.builtin "property.__get__")))
    (tk_Row_names : PySem.W.takesIn K (.ref p_Row_names) = some true)
    (rc_Row_names : PySem.W.recIn K p_Row_names "property" = some (.ref f_Row_names :: r_Row_names))
    (gt_Row_rain : PySem.W.specialIn K (.ref p_Row_rain) "__get__" = some (some (.builtin "property.__get__")))
    (tk_Row_rain : PySem.W.takesIn K (.ref p_Row_rain) = some true)
    (rc_Row_rain : PySem.W.recIn K p_Row_rain "property" = some (.ref f_Row_rain :: r_Row_rain))
    (gt_Row_barrels : PySem.W.specialIn K (.ref p_Row_barrels) "__get__" = some (some (.builtin "property.__get__")))
    (tk_Row_barrels : PySem.W.takesIn K (.ref p_Row_barrels) = some true)
    (rc_Row_barrels : PySem.W.recIn K p_Row_barrels "property" = some (.ref f_Row_barrels :: r_Row_barrels))
    (l_law_start : K.lookup f_law_start = some ⟨oc_law_start, od_law_start, .func (PySem.W.fnOf "_law_start" "_law_start" (defArgs s_law_start) (defBody s_law_start) (defScope s_law_start) .none kV_law_start dc_law_start pm_law_start an_law_start cd_law_start ct_law_start), sl_law_start⟩)
    (l_law_drawn : K.lookup f_law_drawn = some ⟨oc_law_drawn, od_law_drawn, .func (PySem.W.fnOf "_law_drawn" "_law_drawn" (defArgs s_law_drawn) (defBody s_law_drawn) (defScope s_law_drawn) .none kV_law_drawn dc_law_drawn pm_law_drawn an_law_drawn cd_law_drawn ct_law_drawn), sl_law_drawn⟩)
    (l_law_plan : K.lookup f_law_plan = some ⟨oc_law_plan, od_law_plan, .func (PySem.W.fnOf "_law_plan" "_law_plan" (defArgs s_law_plan) (defBody s_law_plan) (defScope s_law_plan) .none kV_law_plan dc_law_plan pm_law_plan an_law_plan cd_law_plan ct_law_plan), sl_law_plan⟩)
    (l_is_name : K.lookup f_is_name = some ⟨oc_is_name, od_is_name, .func (PySem.W.fnOf "is_name" "is_name" (defArgs s_is_name) (defBody s_is_name) (defScope s_is_name) .none kV_is_name dc_is_name pm_is_name an_is_name cd_is_name ct_is_name), sl_is_name⟩)
    (l_is_barrel : K.lookup f_is_barrel = some ⟨oc_is_barrel, od_is_barrel, .func (PySem.W.fnOf "is_barrel" "is_barrel" (defArgs s_is_barrel) (defBody s_is_barrel) (defScope s_is_barrel) .none kV_is_barrel dc_is_barrel pm_is_barrel an_is_barrel cd_is_barrel ct_is_barrel), sl_is_barrel⟩)
    (l_Row_init : K.lookup f_Row_init = some ⟨oc_Row_init, od_Row_init, .func (PySem.W.fnOf "__init__" "Row.__init__" (defArgs s_Row_init) (defBody s_Row_init) (defScope s_Row_init) .none kV_Row_init dc_Row_init pm_Row_init an_Row_init cd_Row_init ct_Row_init), sl_Row_init⟩)
    (l_Row_add : K.lookup f_Row_add = some ⟨oc_Row_add, od_Row_add, .func (PySem.W.fnOf "__add__" "Row.__add__" (defArgs s_Row_add) (defBody s_Row_add) (defScope s_Row_add) .none kV_Row_add dc_Row_add pm_Row_add an_Row_add cd_Row_add ct_Row_add), sl_Row_add⟩)
    (l_law_row : K.lookup f_law_row = some ⟨oc_law_row, od_law_row, .func (PySem.W.fnOf "_law_row" "_law_row" (defArgs s_law_row) (defBody s_law_row) (defScope s_law_row) .none kV_law_row dc_law_row pm_law_row an_law_row cd_law_row ct_law_row), sl_law_row⟩)
    (l_Row_names : K.lookup f_Row_names = some ⟨oc_Row_names, od_Row_names, .func (PySem.W.fnOf "names" "Row.names" (defArgs s_Row_names) (defBody s_Row_names) (defScope s_Row_names) .none kV_Row_names dc_Row_names pm_Row_names an_Row_names cd_Row_names ct_Row_names), sl_Row_names⟩)
    (l_validate_number : K.lookup f_validate_number = some ⟨oc_validate_number, od_validate_number, .func (PySem.W.fnOf "validate_number" "validate_number" (defArgs s_validate_number) (defBody s_validate_number) (defScope s_validate_number) .none kV_validate_number dc_validate_number pm_validate_number an_validate_number cd_validate_number ct_validate_number), sl_validate_number⟩)
    (l_Row_rain : K.lookup f_Row_rain = some ⟨oc_Row_rain, od_Row_rain, .func (PySem.W.fnOf "rain" "Row.rain" (defArgs s_Row_rain) (defBody s_Row_rain) (defScope s_Row_rain) .none kV_Row_rain dc_Row_rain pm_Row_rain an_Row_rain cd_Row_rain ct_Row_rain), sl_Row_rain⟩)
    (l_split_ticks : K.lookup f_split_ticks = some ⟨oc_split_ticks, od_split_ticks, .func (PySem.W.fnOf "split_ticks" "split_ticks" (defArgs s_split_ticks) (defBody s_split_ticks) (defScope s_split_ticks) .none kV_split_ticks dc_split_ticks pm_split_ticks an_split_ticks cd_split_ticks ct_split_ticks), sl_split_ticks⟩)
    (l_Row_barrels : K.lookup f_Row_barrels = some ⟨oc_Row_barrels, od_Row_barrels, .func (PySem.W.fnOf "barrels" "Row.barrels" (defArgs s_Row_barrels) (defBody s_Row_barrels) (defScope s_Row_barrels) .none kV_Row_barrels dc_Row_barrels pm_Row_barrels an_Row_barrels cd_Row_barrels ct_Row_barrels), sl_Row_barrels⟩)
    (l_Flow_play_round : K.lookup f_Flow_play_round = some ⟨oc_Flow_play_round, od_Flow_play_round, .func (PySem.W.fnOf "play_round" "Flow.play_round" (defArgs s_Flow_play_round) (defBody s_Flow_play_round) (defScope s_Flow_play_round) .none kV_Flow_play_round dc_Flow_play_round pm_Flow_play_round an_Flow_play_round cd_Flow_play_round ct_Flow_play_round), sl_Flow_play_round⟩)
    (l_Flow_alike : K.lookup f_Flow_alike = some ⟨oc_Flow_alike, od_Flow_alike, .func (PySem.W.fnOf "alike" "Flow.alike" (defArgs s_Flow_alike) (defBody s_Flow_alike) (defScope s_Flow_alike) .none kV_Flow_alike dc_Flow_alike pm_Flow_alike an_Flow_alike cd_Flow_alike ct_Flow_alike), sl_Flow_alike⟩)
    (l_Stretch_init : K.lookup f_Stretch_init = some ⟨oc_Stretch_init, od_Stretch_init, .func (PySem.W.fnOf "__init__" "Stretch.__init__" (defArgs s_Stretch_init) (defBody s_Stretch_init) (defScope s_Stretch_init) .none kV_Stretch_init dc_Stretch_init pm_Stretch_init an_Stretch_init cd_Stretch_init ct_Stretch_init), sl_Stretch_init⟩)
    (l_Flow_extend : K.lookup f_Flow_extend = some ⟨oc_Flow_extend, od_Flow_extend, .func (PySem.W.fnOf "extend" "Flow.extend" (defArgs s_Flow_extend) (defBody s_Flow_extend) (defScope s_Flow_extend) .none kV_Flow_extend dc_Flow_extend pm_Flow_extend an_Flow_extend cd_Flow_extend ct_Flow_extend), sl_Flow_extend⟩)
    (l_Flow_play : K.lookup f_Flow_play = some ⟨oc_Flow_play, od_Flow_play, .func (PySem.W.fnOf "play" "Flow.play" (defArgs s_Flow_play) (defBody s_Flow_play) (defScope s_Flow_play) .none kV_Flow_play dc_Flow_play pm_Flow_play an_Flow_play cd_Flow_play ct_Flow_play), sl_Flow_play⟩)
    (l_Flow_is_like_last : K.lookup f_Flow_is_like_last = some ⟨oc_Flow_is_like_last, od_Flow_is_like_last, .func (PySem.W.fnOf "is_like_last" "Flow.is_like_last" (defArgs s_Flow_is_like_last) (defBody s_Flow_is_like_last) (defScope s_Flow_is_like_last) .none kV_Flow_is_like_last dc_Flow_is_like_last pm_Flow_is_like_last an_Flow_is_like_last cd_Flow_is_like_last ct_Flow_is_like_last), sl_Flow_is_like_last⟩)
    (l_Flow_init : K.lookup f_Flow_init = some ⟨oc_Flow_init, od_Flow_init, .func (PySem.W.fnOf "__init__" "Flow.__init__" (defArgs s_Flow_init) (defBody s_Flow_init) (defScope s_Flow_init) .none kV_Flow_init dc_Flow_init pm_Flow_init an_Flow_init cd_Flow_init ct_Flow_init), sl_Flow_init⟩)
    (l_Flow_outflow : K.lookup f_Flow_outflow = some ⟨oc_Flow_outflow, od_Flow_outflow, .func (PySem.W.fnOf "outflow" "Flow.outflow" (defArgs s_Flow_outflow) (defBody s_Flow_outflow) (defScope s_Flow_outflow) .none kV_Flow_outflow dc_Flow_outflow pm_Flow_outflow an_Flow_outflow cd_Flow_outflow ct_Flow_outflow), sl_Flow_outflow⟩)
    (l_flows_of : K.lookup f_flows_of = some ⟨oc_flows_of, od_flows_of, .func (PySem.W.fnOf "flows_of" "flows_of" (defArgs s_flows_of) (defBody s_flows_of) (defScope s_flows_of) .none kV_flows_of dc_flows_of pm_flows_of an_flows_of cd_flows_of ct_flows_of), sl_flows_of⟩)
    (l_Flow_stretch_at : K.lookup f_Flow_stretch_at = some ⟨oc_Flow_stretch_at, od_Flow_stretch_at, .func (PySem.W.fnOf "stretch_at" "Flow.stretch_at" (defArgs s_Flow_stretch_at) (defBody s_Flow_stretch_at) (defScope s_Flow_stretch_at) .none kV_Flow_stretch_at dc_Flow_stretch_at pm_Flow_stretch_at an_Flow_stretch_at cd_Flow_stretch_at ct_Flow_stretch_at), sl_Flow_stretch_at⟩)
    (l_Flow_rows_of : K.lookup f_Flow_rows_of = some ⟨oc_Flow_rows_of, od_Flow_rows_of, .func (PySem.W.fnOf "rows_of" "Flow.rows_of" (defArgs s_Flow_rows_of) (defBody s_Flow_rows_of) (defScope s_Flow_rows_of) .none kV_Flow_rows_of dc_Flow_rows_of pm_Flow_rows_of an_Flow_rows_of cd_Flow_rows_of ct_Flow_rows_of), sl_Flow_rows_of⟩)
    (l_sums_of : K.lookup f_sums_of = some ⟨oc_sums_of, od_sums_of, .func (PySem.W.fnOf "sums_of" "sums_of" (defArgs s_sums_of) (defBody s_sums_of) (defScope s_sums_of) .none kV_sums_of dc_sums_of pm_sums_of an_sums_of cd_sums_of ct_sums_of), sl_sums_of⟩)
    (l_Flow_sums : K.lookup f_Flow_sums = some ⟨oc_Flow_sums, od_Flow_sums, .func (PySem.W.fnOf "sums" "Flow.sums" (defArgs s_Flow_sums) (defBody s_Flow_sums) (defScope s_Flow_sums) .none kV_Flow_sums dc_Flow_sums pm_Flow_sums an_Flow_sums cd_Flow_sums ct_Flow_sums), sl_Flow_sums⟩)
    (l_totals : K.lookup f_totals = some ⟨oc_totals, od_totals, .func (PySem.W.fnOf "totals" "totals" (defArgs s_totals) (defBody s_totals) (defScope s_totals) .none kV_totals dc_totals pm_totals an_totals cd_totals ct_totals), sl_totals⟩)
    (l_Flow_last_sums : K.lookup f_Flow_last_sums = some ⟨oc_Flow_last_sums, od_Flow_last_sums, .func (PySem.W.fnOf "last_sums" "Flow.last_sums" (defArgs s_Flow_last_sums) (defBody s_Flow_last_sums) (defScope s_Flow_last_sums) .none kV_Flow_last_sums dc_Flow_last_sums pm_Flow_last_sums an_Flow_last_sums cd_Flow_last_sums ct_Flow_last_sums), sl_Flow_last_sums⟩)
    (l_long_run : K.lookup f_long_run = some ⟨oc_long_run, od_long_run, .func (PySem.W.fnOf "long_run" "long_run" (defArgs s_long_run) (defBody s_long_run) (defScope s_long_run) .none kV_long_run dc_long_run pm_long_run an_long_run cd_long_run ct_long_run), sl_long_run⟩)
    (l_place_of : K.lookup f_place_of = some ⟨oc_place_of, od_place_of, .func (PySem.W.fnOf "place_of" "place_of" (defArgs s_place_of) (defBody s_place_of) (defScope s_place_of) .none kV_place_of dc_place_of pm_place_of an_place_of cd_place_of ct_place_of), sl_place_of⟩)
    (l_missed_from : K.lookup f_missed_from = some ⟨oc_missed_from, od_missed_from, .func (PySem.W.fnOf "missed_from" "missed_from" (defArgs s_missed_from) (defBody s_missed_from) (defScope s_missed_from) .none kV_missed_from dc_missed_from pm_missed_from an_missed_from cd_missed_from ct_missed_from), sl_missed_from⟩)
    (l_Flow_next_missed : K.lookup f_Flow_next_missed = some ⟨oc_Flow_next_missed, od_Flow_next_missed, .func (PySem.W.fnOf "next_missed" "Flow.next_missed" (defArgs s_Flow_next_missed) (defBody s_Flow_next_missed) (defScope s_Flow_next_missed) .none kV_Flow_next_missed dc_Flow_next_missed pm_Flow_next_missed an_Flow_next_missed cd_Flow_next_missed ct_Flow_next_missed), sl_Flow_next_missed⟩)
    (l_first_missed : K.lookup f_first_missed = some ⟨oc_first_missed, od_first_missed, .func (PySem.W.fnOf "first_missed" "first_missed" (defArgs s_first_missed) (defBody s_first_missed) (defScope s_first_missed) .none kV_first_missed dc_first_missed pm_first_missed an_first_missed cd_first_missed ct_first_missed), sl_first_missed⟩)
    (l_settled_round : K.lookup f_settled_round = some ⟨oc_settled_round, od_settled_round, .func (PySem.W.fnOf "settled_round" "settled_round" (defArgs s_settled_round) (defBody s_settled_round) (defScope s_settled_round) .none kV_settled_round dc_settled_round pm_settled_round an_settled_round cd_settled_round ct_settled_round), sl_settled_round⟩)
    (l_lost : K.lookup f_lost = some ⟨oc_lost, od_lost, .func (PySem.W.fnOf "lost" "lost" (defArgs s_lost) (defBody s_lost) (defScope s_lost) .none kV_lost dc_lost pm_lost an_lost cd_lost ct_lost), sl_lost⟩)
    (l_Row_len : K.lookup f_Row_len = some ⟨oc_Row_len, od_Row_len, .func (PySem.W.fnOf "__len__" "Row.__len__" (defArgs s_Row_len) (defBody s_Row_len) (defScope s_Row_len) .none kV_Row_len dc_Row_len pm_Row_len an_Row_len cd_Row_len ct_Row_len), sl_Row_len⟩)
    (l_Row_sub : K.lookup f_Row_sub = some ⟨oc_Row_sub, od_Row_sub, .func (PySem.W.fnOf "__sub__" "Row.__sub__" (defArgs s_Row_sub) (defBody s_Row_sub) (defScope s_Row_sub) .none kV_Row_sub dc_Row_sub pm_Row_sub an_Row_sub cd_Row_sub ct_Row_sub), sl_Row_sub⟩)
    (l_change_without : K.lookup f_change_without = some ⟨oc_change_without, od_change_without, .func (PySem.W.fnOf "change_without" "change_without" (defArgs s_change_without) (defBody s_change_without) (defScope s_change_without) .none kV_change_without dc_change_without pm_change_without an_change_without cd_change_without ct_change_without), sl_change_without⟩)
    (l_lost_per_round : K.lookup f_lost_per_round = some ⟨oc_lost_per_round, od_lost_per_round, .func (PySem.W.fnOf "lost_per_round" "lost_per_round" (defArgs s_lost_per_round) (defBody s_lost_per_round) (defScope s_lost_per_round) .none kV_lost_per_round dc_lost_per_round pm_lost_per_round an_lost_per_round cd_lost_per_round ct_lost_per_round), sl_lost_per_round⟩)
    (l_held_back : K.lookup f_held_back = some ⟨oc_held_back, od_held_back, .func (PySem.W.fnOf "held_back" "held_back" (defArgs s_held_back) (defBody s_held_back) (defScope s_held_back) .none kV_held_back dc_held_back pm_held_back an_held_back cd_held_back ct_held_back), sl_held_back⟩)
    (l_Flow_level : K.lookup f_Flow_level = some ⟨oc_Flow_level, od_Flow_level, .func (PySem.W.fnOf "level" "Flow.level" (defArgs s_Flow_level) (defBody s_Flow_level) (defScope s_Flow_level) .none kV_Flow_level dc_Flow_level pm_Flow_level an_Flow_level cd_Flow_level ct_Flow_level), sl_Flow_level⟩)
    (l_Row_call : K.lookup f_Row_call = some ⟨oc_Row_call, od_Row_call, .func (PySem.W.fnOf "__call__" "Row.__call__" (defArgs s_Row_call) (defBody s_Row_call) (defScope s_Row_call) .none kV_Row_call dc_Row_call pm_Row_call an_Row_call cd_Row_call ct_Row_call), sl_Row_call⟩)
    (l_Row_with_rain : K.lookup f_Row_with_rain = some ⟨oc_Row_with_rain, od_Row_with_rain, .func (PySem.W.fnOf "with_rain" "Row.with_rain" (defArgs s_Row_with_rain) (defBody s_Row_with_rain) (defScope s_Row_with_rain) .none kV_Row_with_rain dc_Row_with_rain pm_Row_with_rain an_Row_with_rain cd_Row_with_rain ct_Row_with_rain), sl_Row_with_rain⟩)
    (l_Row_with_capacity : K.lookup f_Row_with_capacity = some ⟨oc_Row_with_capacity, od_Row_with_capacity, .func (PySem.W.fnOf "with_capacity" "Row.with_capacity" (defArgs s_Row_with_capacity) (defBody s_Row_with_capacity) (defScope s_Row_with_capacity) .none kV_Row_with_capacity dc_Row_with_capacity pm_Row_with_capacity an_Row_with_capacity cd_Row_with_capacity ct_Row_with_capacity), sl_Row_with_capacity⟩)
    (l_least_capacity : K.lookup f_least_capacity = some ⟨oc_least_capacity, od_least_capacity, .func (PySem.W.fnOf "least_capacity" "least_capacity" (defArgs s_least_capacity) (defBody s_least_capacity) (defScope s_least_capacity) .none kV_least_capacity dc_least_capacity pm_least_capacity an_least_capacity cd_least_capacity ct_least_capacity), sl_least_capacity⟩)
    (l_law_query : K.lookup f_law_query = some ⟨oc_law_query, od_law_query, .func (PySem.W.fnOf "_law_query" "_law_query" (defArgs s_law_query) (defBody s_law_query) (defScope s_law_query) .none kV_law_query dc_law_query pm_law_query an_law_query cd_law_query ct_law_query), sl_law_query⟩)
    (l_law_same : K.lookup f_law_same = some ⟨oc_law_same, od_law_same, .func (PySem.W.fnOf "_law_same" "_law_same" (defArgs s_law_same) (defBody s_law_same) (defScope s_law_same) .none kV_law_same dc_law_same pm_law_same an_law_same cd_law_same ct_law_same), sl_law_same⟩)
    (l_x_InvalidRow : K.lookup f_x_InvalidRow = some ⟨oc_x_InvalidRow, od_x_InvalidRow, .func (PySem.W.fnOf "__init__" "InvalidRow.__init__" (defArgs s_x_InvalidRow) (defBody s_x_InvalidRow) (defScope s_x_InvalidRow) .none kV_x_InvalidRow dc_x_InvalidRow pm_x_InvalidRow an_x_InvalidRow cd_x_InvalidRow ct_x_InvalidRow), sl_x_InvalidRow⟩)
    (l_x_UnknownBarrel : K.lookup f_x_UnknownBarrel = some ⟨oc_x_UnknownBarrel, od_x_UnknownBarrel, .func (PySem.W.fnOf "__init__" "UnknownBarrel.__init__" (defArgs s_x_UnknownBarrel) (defBody s_x_UnknownBarrel) (defScope s_x_UnknownBarrel) .none kV_x_UnknownBarrel dc_x_UnknownBarrel pm_x_UnknownBarrel an_x_UnknownBarrel cd_x_UnknownBarrel ct_x_UnknownBarrel), sl_x_UnknownBarrel⟩)
    (xL_x_OtherRain : K.lookup C_OtherRain = some (excClassObj nm_x_OtherRain q_x_OtherRain C_OtherRain N_x_OtherRain bs_x_OtherRain bm_x_OtherRain true sn_x_OtherRain sub_x_OtherRain ab_x_OtherRain col_x_OtherRain dd_x_OtherRain m0_x_OtherRain m1_x_OtherRain m2_x_OtherRain m3_x_OtherRain m5_x_OtherRain "ValueError.__new__"))
    (xL_x_InvalidNumber : K.lookup C_InvalidNumber = some (excClassObj nm_x_InvalidNumber q_x_InvalidNumber C_InvalidNumber N_x_InvalidNumber bs_x_InvalidNumber bm_x_InvalidNumber true sn_x_InvalidNumber sub_x_InvalidNumber ab_x_InvalidNumber col_x_InvalidNumber dd_x_InvalidNumber m0_x_InvalidNumber m1_x_InvalidNumber m2_x_InvalidNumber m3_x_InvalidNumber m5_x_InvalidNumber "ValueError.__new__"))
    (xL_x_InvalidRow : K.lookup C_InvalidRow = some (excClassObj nm_x_InvalidRow q_x_InvalidRow C_InvalidRow N_x_InvalidRow bs_x_InvalidRow bm_x_InvalidRow true sn_x_InvalidRow sub_x_InvalidRow ab_x_InvalidRow col_x_InvalidRow dd_x_InvalidRow m0_x_InvalidRow m1_x_InvalidRow m2_x_InvalidRow m3_x_InvalidRow m5_x_InvalidRow "ValueError.__new__"))
    (xL_x_UnknownBarrel : K.lookup C_UnknownBarrel = some (excClassObj nm_x_UnknownBarrel q_x_UnknownBarrel C_UnknownBarrel N_x_UnknownBarrel bs_x_UnknownBarrel bm_x_UnknownBarrel true sn_x_UnknownBarrel sub_x_UnknownBarrel ab_x_UnknownBarrel col_x_UnknownBarrel dd_x_UnknownBarrel m0_x_UnknownBarrel m1_x_UnknownBarrel m2_x_UnknownBarrel m3_x_UnknownBarrel m5_x_UnknownBarrel "ValueError.__new__"))
    (c_law_start : PySem.W.codeIn K cd_law_start "_law_start" = true)
    (k_law_start : PySem.W.keepIn K (.ref f_law_start) = true)
    (c_law_drawn : PySem.W.codeIn K cd_law_drawn "_law_drawn" = true)
    (k_law_drawn : PySem.W.keepIn K (.ref f_law_drawn) = true)
    (c_law_plan : PySem.W.codeIn K cd_law_plan "_law_plan" = true)
    (k_law_plan : PySem.W.keepIn K (.ref f_law_plan) = true)
    (rd_Row : PySem.W.readsIn K C_Row (.type "type") = true)
    (ga_Row : PySem.W.specialIn K (.ref C_Row) "__getattribute__" = some (some (.builtin "type.__getattribute__")))
    (cv_MAX_TICKS : PySem.W.findCls K (.ref C_Row) (.type "type") "MAX_TICKS" = some (.val (.int 12 tc_MAX_TICKS)))
    (cv_MAX_BARRELS : PySem.W.findCls K (.ref C_Row) (.type "type") "MAX_BARRELS" = some (.val (.int 5 tc_MAX_BARRELS)))
    (c_is_name : PySem.W.codeIn K cd_is_name "is_name" = true)
    (k_is_name : PySem.W.keepIn K (.ref f_is_name) = true)
    (c_is_barrel : PySem.W.codeIn K cd_is_barrel "is_barrel" = true)
    (k_is_barrel : PySem.W.keepIn K (.ref f_is_barrel) = true)
    (pg_Row : PySem.W.plainGet K C_Row Str.empty = true)
    (hd_Row : PySem.W.hasDictIn K C_Row = true)
    (po_Row : PySem.W.plainOver K C_Row = true)
    (sa_Row : PySem.W.findIn K (.ref C_Row) "__setattr__" = some (some (.builtin "object.__setattr__")))
    (no_Row_weather : PySem.W.findIn K (.ref C_Row) "weather" = some none)
    (no_Row_parts : PySem.W.findIn K (.ref C_Row) "parts" = some none)
    (c_Row_init : PySem.W.codeIn K cd_Row_init "Row.__init__" = true)
    (k_Row_init : PySem.W.keepIn K (.ref f_Row_init) = true)
    (mk_Row : PySem.W.makesIn K C_Row = true)
    (if_Row : PySem.W.isFn K (.ref f_Row_init) = true)
    (kc_Row : PySem.W.keepIn K (.ref C_Row) = true)
    (rV_x_OtherRain : PySem.HandSPX.refsVE bm_x_OtherRain = true)
    (sa_OtherRain : PySem.W.findIn K (.ref C_OtherRain) "__setattr__" = some (some (.builtin "object.__setattr__")))
    (bx_OtherRain : PySem.W.subIn K (.ref C_OtherRain) (.type "BaseException") = some true)
    (tx_OtherRain : PySem.W.typeIn K (.ref C_OtherRain) = some (.type "type"))
    (kc_OtherRain : PySem.W.keepIn K (.ref C_OtherRain) = true)
    (ib_OtherRain : PySem.W.findIn K (.ref C_OtherRain) "__init__" = some (some (.builtin "ValueError.__init__")))
    (c_Row_add : PySem.W.codeIn K cd_Row_add "Row.__add__" = true)
    (k_Row_add : PySem.W.keepIn K (.ref f_Row_add) = true)
    (i_Row_add : PySem.W.isFn K (.ref f_Row_add) = true)
    (sf_Row : PySem.W.selfFirst K C_Row = true)
    (c_law_row : PySem.W.codeIn K cd_law_row "_law_row" = true)
    (k_law_row : PySem.W.keepIn K (.ref f_law_row) = true)
    (c_Row_names : PySem.W.codeIn K cd_Row_names "Row.names" = true)
    (k_Row_names : PySem.W.keepIn K (.ref f_Row_names) = true)
    (rV_x_InvalidNumber : PySem.HandSPX.refsVE bm_x_InvalidNumber = true)
    (sa_InvalidNumber : PySem.W.findIn K (.ref C_InvalidNumber) "__setattr__" = some (some (.builtin "object.__setattr__")))
    (bx_InvalidNumber : PySem.W.subIn K (.ref C_InvalidNumber) (.type "BaseException") = some true)
    (tx_InvalidNumber : PySem.W.typeIn K (.ref C_InvalidNumber) = some (.type "type"))
    (kc_InvalidNumber : PySem.W.keepIn K (.ref C_InvalidNumber) = true)
    (ib_InvalidNumber : PySem.W.findIn K (.ref C_InvalidNumber) "__init__" = some (some (.builtin "ValueError.__init__")))
    (c_validate_number : PySem.W.codeIn K cd_validate_number "validate_number" = true)
    (k_validate_number : PySem.W.keepIn K (.ref f_validate_number) = true)
    (c_Row_rain : PySem.W.codeIn K cd_Row_rain "Row.rain" = true)
    (k_Row_rain : PySem.W.keepIn K (.ref f_Row_rain) = true)
    (c_split_ticks : PySem.W.codeIn K cd_split_ticks "split_ticks" = true)
    (k_split_ticks : PySem.W.keepIn K (.ref f_split_ticks) = true)
    (c_Row_barrels : PySem.W.codeIn K cd_Row_barrels "Row.barrels" = true)
    (k_Row_barrels : PySem.W.keepIn K (.ref f_Row_barrels) = true)
    (pg_Flow : PySem.W.plainGet K C_Flow Str.empty = true)
    (hd_Flow : PySem.W.hasDictIn K C_Flow = true)
    (po_Flow : PySem.W.plainOver K C_Flow = true)
    (sa_Flow : PySem.W.findIn K (.ref C_Flow) "__setattr__" = some (some (.builtin "object.__setattr__")))
    (no_Flow_capacity : PySem.W.findIn K (.ref C_Flow) "capacity" = some none)
    (no_Flow_draws : PySem.W.findIn K (.ref C_Flow) "draws" = some none)
    (no_Flow_stretches : PySem.W.findIn K (.ref C_Flow) "stretches" = some none)
    (c_Flow_play_round : PySem.W.codeIn K cd_Flow_play_round "Flow.play_round" = true)
    (k_Flow_play_round : PySem.W.keepIn K (.ref f_Flow_play_round) = true)
    (i_Flow_play_round : PySem.W.isFn K (.ref f_Flow_play_round) = true)
    (c_Flow_alike : PySem.W.codeIn K cd_Flow_alike "Flow.alike" = true)
    (k_Flow_alike : PySem.W.keepIn K (.ref f_Flow_alike) = true)
    (i_Flow_alike : PySem.W.isFn K (.ref f_Flow_alike) = true)
    (pg_Stretch : PySem.W.plainGet K C_Stretch Str.empty = true)
    (hd_Stretch : PySem.W.hasDictIn K C_Stretch = true)
    (po_Stretch : PySem.W.plainOver K C_Stretch = true)
    (sa_Stretch : PySem.W.findIn K (.ref C_Stretch) "__setattr__" = some (some (.builtin "object.__setattr__")))
    (no_Stretch_begin : PySem.W.findIn K (.ref C_Stretch) "begin" = some none)
    (no_Stretch_count : PySem.W.findIn K (.ref C_Stretch) "count" = some none)
    (no_Stretch_first_level : PySem.W.findIn K (.ref C_Stretch) "first_level" = some none)
    (no_Stretch_step : PySem.W.findIn K (.ref C_Stretch) "step" = some none)
    (no_Stretch_inflow : PySem.W.findIn K (.ref C_Stretch) "inflow" = some none)
    (c_Stretch_init : PySem.W.codeIn K cd_Stretch_init "Stretch.__init__" = true)
    (k_Stretch_init : PySem.W.keepIn K (.ref f_Stretch_init) = true)
    (mk_Stretch : PySem.W.makesIn K C_Stretch = true)
    (if_Stretch : PySem.W.isFn K (.ref f_Stretch_init) = true)
    (kc_Stretch : PySem.W.keepIn K (.ref C_Stretch) = true)
    (c_Flow_extend : PySem.W.codeIn K cd_Flow_extend "Flow.extend" = true)
    (k_Flow_extend : PySem.W.keepIn K (.ref f_Flow_extend) = true)
    (i_Flow_extend : PySem.W.isFn K (.ref f_Flow_extend) = true)
    (no_Flow_settled : PySem.W.findIn K (.ref C_Flow) "settled" = some none)
    (c_Flow_play : PySem.W.codeIn K cd_Flow_play "Flow.play" = true)
    (k_Flow_play : PySem.W.keepIn K (.ref f_Flow_play) = true)
    (i_Flow_play : PySem.W.isFn K (.ref f_Flow_play) = true)
    (c_Flow_is_like_last : PySem.W.codeIn K cd_Flow_is_like_last "Flow.is_like_last" = true)
    (k_Flow_is_like_last : PySem.W.keepIn K (.ref f_Flow_is_like_last) = true)
    (i_Flow_is_like_last : PySem.W.isFn K (.ref f_Flow_is_like_last) = true)
    (c_Flow_init : PySem.W.codeIn K cd_Flow_init "Flow.__init__" = true)
    (k_Flow_init : PySem.W.keepIn K (.ref f_Flow_init) = true)
    (mk_Flow : PySem.W.makesIn K C_Flow = true)
    (if_Flow : PySem.W.isFn K (.ref f_Flow_init) = true)
    (kc_Flow : PySem.W.keepIn K (.ref C_Flow) = true)
    (c_Flow_outflow : PySem.W.codeIn K cd_Flow_outflow "Flow.outflow" = true)
    (k_Flow_outflow : PySem.W.keepIn K (.ref f_Flow_outflow) = true)
    (i_Flow_outflow : PySem.W.isFn K (.ref f_Flow_outflow) = true)
    (c_flows_of : PySem.W.codeIn K cd_flows_of "flows_of" = true)
    (k_flows_of : PySem.W.keepIn K (.ref f_flows_of) = true)
    (c_Flow_stretch_at : PySem.W.codeIn K cd_Flow_stretch_at "Flow.stretch_at" = true)
    (k_Flow_stretch_at : PySem.W.keepIn K (.ref f_Flow_stretch_at) = true)
    (i_Flow_stretch_at : PySem.W.isFn K (.ref f_Flow_stretch_at) = true)
    (c_Flow_rows_of : PySem.W.codeIn K cd_Flow_rows_of "Flow.rows_of" = true)
    (k_Flow_rows_of : PySem.W.keepIn K (.ref f_Flow_rows_of) = true)
    (i_Flow_rows_of : PySem.W.isFn K (.ref f_Flow_rows_of) = true)
    (c_sums_of : PySem.W.codeIn K cd_sums_of "sums_of" = true)
    (k_sums_of : PySem.W.keepIn K (.ref f_sums_of) = true)
    (c_Flow_sums : PySem.W.codeIn K cd_Flow_sums "Flow.sums" = true)
    (k_Flow_sums : PySem.W.keepIn K (.ref f_Flow_sums) = true)
    (i_Flow_sums : PySem.W.isFn K (.ref f_Flow_sums) = true)
    (c_totals : PySem.W.codeIn K cd_totals "totals" = true)
    (k_totals : PySem.W.keepIn K (.ref f_totals) = true)
    (c_Flow_last_sums : PySem.W.codeIn K cd_Flow_last_sums "Flow.last_sums" = true)
    (k_Flow_last_sums : PySem.W.keepIn K (.ref f_Flow_last_sums) = true)
    (i_Flow_last_sums : PySem.W.isFn K (.ref f_Flow_last_sums) = true)
    (c_long_run : PySem.W.codeIn K cd_long_run "long_run" = true)
    (k_long_run : PySem.W.keepIn K (.ref f_long_run) = true)
    (c_place_of : PySem.W.codeIn K cd_place_of "place_of" = true)
    (k_place_of : PySem.W.keepIn K (.ref f_place_of) = true)
    (c_missed_from : PySem.W.codeIn K cd_missed_from "missed_from" = true)
    (k_missed_from : PySem.W.keepIn K (.ref f_missed_from) = true)
    (c_Flow_next_missed : PySem.W.codeIn K cd_Flow_next_missed "Flow.next_missed" = true)
    (k_Flow_next_missed : PySem.W.keepIn K (.ref f_Flow_next_missed) = true)
    (i_Flow_next_missed : PySem.W.isFn K (.ref f_Flow_next_missed) = true)
    (c_first_missed : PySem.W.codeIn K cd_first_missed "first_missed" = true)
    (k_first_missed : PySem.W.keepIn K (.ref f_first_missed) = true)
    (c_settled_round : PySem.W.codeIn K cd_settled_round "settled_round" = true)
    (k_settled_round : PySem.W.keepIn K (.ref f_settled_round) = true)
    (c_lost : PySem.W.codeIn K cd_lost "lost" = true)
    (k_lost : PySem.W.keepIn K (.ref f_lost) = true)
    (c_Row_len : PySem.W.codeIn K cd_Row_len "Row.__len__" = true)
    (k_Row_len : PySem.W.keepIn K (.ref f_Row_len) = true)
    (i_Row_len : PySem.W.isFn K (.ref f_Row_len) = true)
    (c_Row_sub : PySem.W.codeIn K cd_Row_sub "Row.__sub__" = true)
    (k_Row_sub : PySem.W.keepIn K (.ref f_Row_sub) = true)
    (i_Row_sub : PySem.W.isFn K (.ref f_Row_sub) = true)
    (rr_Row_sub : PySem.W.findIn K (.ref C_Row) (dunderR Operator.Sub.info.2) = some none)
    (s1_Row_sub : PySem.W.findIn K (.type "str") (PySem.dunder Operator.Sub.info.2) = some none)
    (s2_Row_sub : PySem.W.findIn K (.type "str") (dunderR Operator.Sub.info.2) = some none)
    (s3_Row_sub : PySem.W.subIn K (.type "str") (.ref C_Row) = some false)
    (c_change_without : PySem.W.codeIn K cd_change_without "change_without" = true)
    (k_change_without : PySem.W.keepIn K (.ref f_change_without) = true)
    (c_lost_per_round : PySem.W.codeIn K cd_lost_per_round "lost_per_round" = true)
    (k_lost_per_round : PySem.W.keepIn K (.ref f_lost_per_round) = true)
    (c_held_back : PySem.W.codeIn K cd_held_back "held_back" = true)
    (k_held_back : PySem.W.keepIn K (.ref f_held_back) = true)
    (c_Flow_level : PySem.W.codeIn K cd_Flow_level "Flow.level" = true)
    (k_Flow_level : PySem.W.keepIn K (.ref f_Flow_level) = true)
    (i_Flow_level : PySem.W.isFn K (.ref f_Flow_level) = true)
    (c_Row_call : PySem.W.codeIn K cd_Row_call "Row.__call__" = true)
    (k_Row_call : PySem.W.keepIn K (.ref f_Row_call) = true)
    (i_Row_call : PySem.W.isFn K (.ref f_Row_call) = true)
    (fn_Row_call : PySem.W.fnIn K f_Row_call = true)
    (c_Row_with_rain : PySem.W.codeIn K cd_Row_with_rain "Row.with_rain" = true)
    (k_Row_with_rain : PySem.W.keepIn K (.ref f_Row_with_rain) = true)
    (i_Row_with_rain : PySem.W.isFn K (.ref f_Row_with_rain) = true)
    (c_Row_with_capacity : PySem.W.codeIn K cd_Row_with_capacity "Row.with_capacity" = true)
    (k_Row_with_capacity : PySem.W.keepIn K (.ref f_Row_with_capacity) = true)
    (i_Row_with_capacity : PySem.W.isFn K (.ref f_Row_with_capacity) = true)
    (c_least_capacity : PySem.W.codeIn K cd_least_capacity "least_capacity" = true)
    (k_least_capacity : PySem.W.keepIn K (.ref f_least_capacity) = true)
    (c_law_query : PySem.W.codeIn K cd_law_query "_law_query" = true)
    (k_law_query : PySem.W.keepIn K (.ref f_law_query) = true)
    (c_law_same : PySem.W.codeIn K cd_law_same "_law_same" = true)
    (k_law_same : PySem.W.keepIn K (.ref f_law_same) = true)
    (c_x_InvalidRow : PySem.W.codeIn K cd_x_InvalidRow "InvalidRow.__init__" = true)
    (k_x_InvalidRow : PySem.W.keepIn K (.ref f_x_InvalidRow) = true)
    (rd_RowError : PySem.W.readsIn K C_RowError (.type "type") = true)
    (ga_RowError : PySem.W.specialIn K (.ref C_RowError) "__getattribute__" = some (some (.builtin "type.__getattribute__")))
    (iv_RowError : PySem.W.findCls K (.ref C_RowError) (.type "type") "__init__" = some (.val (.builtin "ValueError.__init__")))
    (rV_x_InvalidRow : PySem.HandSPX.refsVE bm_x_InvalidRow = true)
    (sa_InvalidRow : PySem.W.findIn K (.ref C_InvalidRow) "__setattr__" = some (some (.builtin "object.__setattr__")))
    (bx_InvalidRow : PySem.W.subIn K (.ref C_InvalidRow) (.type "BaseException") = some true)
    (tx_InvalidRow : PySem.W.typeIn K (.ref C_InvalidRow) = some (.type "type"))
    (kc_InvalidRow : PySem.W.keepIn K (.ref C_InvalidRow) = true)
    (ti_InvalidRow : PySem.W.typeIn K (.ref f_x_InvalidRow) = some (.type "function"))
    (no_InvalidRow_part : PySem.W.findIn K (.ref C_InvalidRow) "part" = some none)
    (no_InvalidRow_index : PySem.W.findIn K (.ref C_InvalidRow) "index" = some none)
    (c_x_UnknownBarrel : PySem.W.codeIn K cd_x_UnknownBarrel "UnknownBarrel.__init__" = true)
    (k_x_UnknownBarrel : PySem.W.keepIn K (.ref f_x_UnknownBarrel) = true)
    (rV_x_UnknownBarrel : PySem.HandSPX.refsVE bm_x_UnknownBarrel = true)
    (sa_UnknownBarrel : PySem.W.findIn K (.ref C_UnknownBarrel) "__setattr__" = some (some (.builtin "object.__setattr__")))
    (bx_UnknownBarrel : PySem.W.subIn K (.ref C_UnknownBarrel) (.type "BaseException") = some true)
    (tx_UnknownBarrel : PySem.W.typeIn K (.ref C_UnknownBarrel) = some (.type "type"))
    (kc_UnknownBarrel : PySem.W.keepIn K (.ref C_UnknownBarrel) = true)
    (ti_UnknownBarrel : PySem.W.typeIn K (.ref f_x_UnknownBarrel) = some (.type "function"))
    (no_UnknownBarrel_name : PySem.W.findIn K (.ref C_UnknownBarrel) "name" = some none) : ∀ base : Heap, Fx ⟨P, w, K, mg, base⟩ := fun base => by
  constructor
  · exact ⟨_, _, PySem.W.mg_of X G a_law_start, (fun_mk (st := s_law_start) l_law_start c_law_start k_law_start), ((fun_mk (st := s_law_start) l_law_start c_law_start k_law_start).binds (ps := ["_law_script"]) fun _ _ _ _ _ _ us hl => match us, hl with | [_], _ => rfl)⟩
  · exact PySem.W.mg_none_of X G z_range
  · exact PySem.W.mg_none_of X G z_len
  · exact ⟨_, _, PySem.W.mg_of X G a_law_drawn, (fun_mk (st := s_law_drawn) l_law_drawn c_law_drawn k_law_drawn), ((fun_mk (st := s_law_drawn) l_law_drawn c_law_drawn k_law_drawn).binds (ps := ["_law_state", "_law_count"]) fun _ _ _ _ _ _ us hl => match us, hl with | [_, _], _ => rfl)⟩
  · exact PySem.W.mg_none_of X G z_int
  · exact PySem.W.mg_none_of X G z_tuple
  · exact ⟨_, _, PySem.W.mg_of X G a_law_plan, (fun_mk (st := s_law_plan) l_law_plan c_law_plan k_law_plan), ((fun_mk (st := s_law_plan) l_law_plan c_law_plan k_law_plan).binds (ps := ["_law_state", "_law_most", "_law_high"]) fun _ _ _ _ _ _ us hl => match us, hl with | [_, _, _], _ => rfl)⟩
  · exact PySem.W.mg_none_of X G z_enumerate
  · exact ⟨_, _, _, (PySem.W.mg_of X G a_Row), ⟨rd_Row, ga_Row⟩, ⟨cv_MAX_TICKS, ⟨_, rfl⟩⟩⟩
  · exact ⟨_, PySem.W.mg_of X G v_MAX_RAIN⟩
  · exact ⟨_, _, _, (PySem.W.mg_of X G a_Row), ⟨rd_Row, ga_Row⟩, ⟨cv_MAX_BARRELS, ⟨_, rfl⟩⟩⟩
  · exact ⟨_, PySem.W.mg_of X G v_MAX_LETTERS⟩
  · exact ⟨_, PySem.W.mg_of X G v_LETTERS⟩
  · exact PySem.W.mg_none_of X G z_all
  · exact ⟨_, _, PySem.W.mg_of X G a_is_name, (fun_mk (st := s_is_name) l_is_name c_is_name k_is_name), ((fun_mk (st := s_is_name) l_is_name c_is_name k_is_name).binds (ps := ["name"]) fun _ _ _ _ _ _ us hl => match us, hl with | [_], _ => rfl)⟩
  · exact ⟨_, PySem.W.mg_of X G v_MAX_AMOUNT⟩
  · exact ⟨_, PySem.W.mg_of X G v_MAX_ROOF⟩
  · exact ⟨_, _, PySem.W.mg_of X G a_is_barrel, (fun_mk (st := s_is_barrel) l_is_barrel c_is_barrel k_is_barrel), ((fun_mk (st := s_is_barrel) l_is_barrel c_is_barrel k_is_barrel).binds (ps := ["barrel", "ticks"]) fun _ _ _ _ _ _ us hl => match us, hl with | [_, _], _ => rfl)⟩
  · exact ⟨by decide, (fun Ca hC => by cases (PySem.W.mg_of X G a_Row).symm.trans hC; exact ⟨⟨pg_Row, hd_Row, po_Row, sa_Row⟩, no_Row_weather⟩)⟩
  · exact ⟨by decide, (fun Ca hC => by cases (PySem.W.mg_of X G a_Row).symm.trans hC; exact ⟨⟨pg_Row, hd_Row, po_Row, sa_Row⟩, no_Row_parts⟩)⟩
  · exact ⟨_, _, _, (PySem.W.mg_of X G a_Row), ⟨mk_Row, ii_Row, if_Row, kc_Row⟩, (fun_mk (st := s_Row_init) l_Row_init c_Row_init k_Row_init)⟩
  · exact ⟨_, (PySem.W.mg_of X G a_OtherRain), ⟨⟨_, _, _, _, _, _, _, _, _, _, _, _, _, _, _, xL_x_OtherRain, rV_x_OtherRain⟩, sa_OtherRain, bx_OtherRain, tx_OtherRain, kc_OtherRain⟩, ib_OtherRain⟩
  · exact ⟨_, _, _, (PySem.W.mg_of X G a_Row), ⟨pg_Row, hd_Row, po_Row, sa_Row⟩, sf_Row, at_Row_add, i_Row_add, (fun_mk (st := s_Row_add) l_Row_add c_Row_add k_Row_add), ((fun_mk (st := s_Row_add) l_Row_add c_Row_add k_Row_add).binds (ps := ["self", "other"]) fun _ _ _ _ _ _ us hl => match us, hl with | [_, _], _ => rfl)⟩
  · exact ⟨_, _, PySem.W.mg_of X G a_law_row, (fun_mk (st := s_law_row) l_law_row c_law_row k_law_row), ((fun_mk (st := s_law_row) l_law_row c_law_row k_law_row).binds (ps := ["_law_rain", "_law_barrels"]) fun _ _ _ _ _ _ us hl => match us, hl with | [_, _], _ => rfl)⟩
  · exact ⟨_, _, _, (fun Ca hC => by cases (PySem.W.mg_of X G a_Row).symm.trans hC; exact ⟨⟨pg_Row, hd_Row, po_Row, sa_Row⟩, ⟨at_Row_names, gt_Row_names, tk_Row_names, ⟨_, rc_Row_names⟩⟩⟩), (fun_mk (st := s_Row_names) l_Row_names c_Row_names k_Row_names), ((fun_mk (st := s_Row_names) l_Row_names c_Row_names k_Row_names).binds (ps := ["self"]) fun _ _ _ _ _ _ us hl => match us, hl with | [_], _ => rfl)⟩
  · exact ⟨_, (PySem.W.mg_of X G a_Row)⟩
  · exact ⟨_, PySem.W.mg_of X G v_MAX_TICK⟩
  · exact ⟨_, (PySem.W.mg_of X G a_InvalidNumber), ⟨⟨_, _, _, _, _, _, _, _, _, _, _, _, _, _, _, xL_x_InvalidNumber, rV_x_InvalidNumber⟩, sa_InvalidNumber, bx_InvalidNumber, tx_InvalidNumber, kc_InvalidNumber⟩, ib_InvalidNumber⟩
  · exact ⟨_, _, PySem.W.mg_of X G a_validate_number, (fun_mk (st := s_validate_number) l_validate_number c_validate_number k_validate_number), ((fun_mk (st := s_validate_number) l_validate_number c_validate_number k_validate_number).binds (ps := ["number", "smallest", "largest"]) fun _ _ _ _ _ _ us hl => match us, hl with | [_, _, _], _ => rfl)⟩
  · exact ⟨_, _, _, (fun Ca hC => by cases (PySem.W.mg_of X G a_Row).symm.trans hC; exact ⟨⟨pg_Row, hd_Row, po_Row, sa_Row⟩, ⟨at_Row_rain, gt_Row_rain, tk_Row_rain, ⟨_, rc_Row_rain⟩⟩⟩), (fun_mk (st := s_Row_rain) l_Row_rain c_Row_rain k_Row_rain), ((fun_mk (st := s_Row_rain) l_Row_rain c_Row_rain k_Row_rain).binds (ps := ["self"]) fun _ _ _ _ _ _ us hl => match us, hl with | [_], _ => rfl)⟩
  · exact ⟨_, _, PySem.W.mg_of X G a_split_ticks, (fun_mk (st := s_split_ticks) l_split_ticks c_split_ticks k_split_ticks), ((fun_mk (st := s_split_ticks) l_split_ticks c_split_ticks k_split_ticks).binds (ps := ["row", "ticks"]) fun _ _ _ _ _ _ us hl => match us, hl with | [_, _], _ => rfl)⟩
  · exact ⟨_, _, _, (fun Ca hC => by cases (PySem.W.mg_of X G a_Row).symm.trans hC; exact ⟨⟨pg_Row, hd_Row, po_Row, sa_Row⟩, ⟨at_Row_barrels, gt_Row_barrels, tk_Row_barrels, ⟨_, rc_Row_barrels⟩⟩⟩), (fun_mk (st := s_Row_barrels) l_Row_barrels c_Row_barrels k_Row_barrels), ((fun_mk (st := s_Row_barrels) l_Row_barrels c_Row_barrels k_Row_barrels).binds (ps := ["self"]) fun _ _ _ _ _ _ us hl => match us, hl with | [_], _ => rfl)⟩
  · exact ⟨by decide, (fun Ca hC => by cases (PySem.W.mg_of X G a_Flow).symm.trans hC; exact ⟨⟨pg_Flow, hd_Flow, po_Flow, sa_Flow⟩, no_Flow_capacity⟩)⟩
  · exact ⟨by decide, (fun Ca hC => by cases (PySem.W.mg_of X G a_Flow).symm.trans hC; exact ⟨⟨pg_Flow, hd_Flow, po_Flow, sa_Flow⟩, no_Flow_draws⟩)⟩
  · exact ⟨by decide, (fun Ca hC => by cases (PySem.W.mg_of X G a_Flow).symm.trans hC; exact ⟨⟨pg_Flow, hd_Flow, po_Flow, sa_Flow⟩, no_Flow_stretches⟩)⟩
  · exact PySem.W.mg_none_of X G z_zip
  · exact PySem.W.mg_none_of X G z_max
  · exact PySem.W.mg_none_of X G z_min
  · exact ⟨_, _, (fun Ca hC => by cases (PySem.W.mg_of X G a_Flow).symm.trans hC; exact ⟨⟨pg_Flow, hd_Flow, po_Flow, sa_Flow⟩, ⟨at_Flow_play_round, i_Flow_play_round, k_Flow_play_round⟩⟩), (fun_mk (st := s_Flow_play_round) l_Flow_play_round c_Flow_play_round k_Flow_play_round), ((fun_mk (st := s_Flow_play_round) l_Flow_play_round c_Flow_play_round k_Flow_play_round).binds (ps := ["self", "level", "inflow"]) fun _ _ _ _ _ _ us hl => match us, hl with | [_, _, _], _ => rfl)⟩
  · exact ⟨_, (PySem.W.mg_of X G a_Flow)⟩
  · exact PySem.W.mg_none_of X G z_any
  · exact ⟨_, _, (fun Ca hC => by cases (PySem.W.mg_of X G a_Flow).symm.trans hC; exact ⟨⟨pg_Flow, hd_Flow, po_Flow, sa_Flow⟩, ⟨at_Flow_alike, i_Flow_alike, k_Flow_alike⟩⟩), (fun_mk (st := s_Flow_alike) l_Flow_alike c_Flow_alike k_Flow_alike), ((fun_mk (st := s_Flow_alike) l_Flow_alike c_Flow_alike k_Flow_alike).binds (ps := ["self", "level", "inflow", "step"]) fun _ _ _ _ _ _ us hl => match us, hl with | [_, _, _, _], _ => rfl)⟩
  · exact ⟨by decide, (fun Ca hC => by cases (PySem.W.mg_of X G a_Stretch).symm.trans hC; exact ⟨⟨pg_Stretch, hd_Stretch, po_Stretch, sa_Stretch⟩, no_Stretch_begin⟩)⟩
  · exact ⟨by decide, (fun Ca hC => by cases (PySem.W.mg_of X G a_Stretch).symm.trans hC; exact ⟨⟨pg_Stretch, hd_Stretch, po_Stretch, sa_Stretch⟩, no_Stretch_count⟩)⟩
  · exact ⟨by decide, (fun Ca hC => by cases (PySem.W.mg_of X G a_Stretch).symm.trans hC; exact ⟨⟨pg_Stretch, hd_Stretch, po_Stretch, sa_Stretch⟩, no_Stretch_first_level⟩)⟩
  · exact ⟨by decide, (fun Ca hC => by cases (PySem.W.mg_of X G a_Stretch).symm.trans hC; exact ⟨⟨pg_Stretch, hd_Stretch, po_Stretch, sa_Stretch⟩, no_Stretch_step⟩)⟩
  · exact ⟨by decide, (fun Ca hC => by cases (PySem.W.mg_of X G a_Stretch).symm.trans hC; exact ⟨⟨pg_Stretch, hd_Stretch, po_Stretch, sa_Stretch⟩, no_Stretch_inflow⟩)⟩
  · exact ⟨_, _, _, (PySem.W.mg_of X G a_Stretch), ⟨mk_Stretch, ii_Stretch, if_Stretch, kc_Stretch⟩, (fun_mk (st := s_Stretch_init) l_Stretch_init c_Stretch_init k_Stretch_init), ((fun_mk (st := s_Stretch_init) l_Stretch_init c_Stretch_init k_Stretch_init).binds (ps := ["self", "begin", "count", "level", "step", "inflow"]) fun _ _ _ _ _ _ us hl => match us, hl with | [_, _, _, _, _, _], _ => rfl)⟩
  · exact ⟨_, _, (fun Ca hC => by cases (PySem.W.mg_of X G a_Flow).symm.trans hC; exact ⟨⟨pg_Flow, hd_Flow, po_Flow, sa_Flow⟩, ⟨at_Flow_extend, i_Flow_extend, k_Flow_extend⟩⟩), (fun_mk (st := s_Flow_extend) l_Flow_extend c_Flow_extend k_Flow_extend), ((fun_mk (st := s_Flow_extend) l_Flow_extend c_Flow_extend k_Flow_extend).binds (ps := ["self", "begin", "count", "level", "inflow"]) fun _ _ _ _ _ _ us hl => match us, hl with | [_, _, _, _, _], _ => rfl)⟩
  · exact ⟨by decide, (fun Ca hC => by cases (PySem.W.mg_of X G a_Flow).symm.trans hC; exact ⟨⟨pg_Flow, hd_Flow, po_Flow, sa_Flow⟩, no_Flow_settled⟩)⟩
  · exact ⟨_, _, (fun Ca hC => by cases (PySem.W.mg_of X G a_Flow).symm.trans hC; exact ⟨⟨pg_Flow, hd_Flow, po_Flow, sa_Flow⟩, ⟨at_Flow_play, i_Flow_play, k_Flow_play⟩⟩), (fun_mk (st := s_Flow_play) l_Flow_play c_Flow_play k_Flow_play), ((fun_mk (st := s_Flow_play) l_Flow_play c_Flow_play k_Flow_play).binds (ps := ["self", "stretch"]) fun _ _ _ _ _ _ us hl => match us, hl with | [_, _], _ => rfl)⟩
  · exact ⟨_, _, (fun Ca hC => by cases (PySem.W.mg_of X G a_Flow).symm.trans hC; exact ⟨⟨pg_Flow, hd_Flow, po_Flow, sa_Flow⟩, ⟨at_Flow_is_like_last, i_Flow_is_like_last, k_Flow_is_like_last⟩⟩), (fun_mk (st := s_Flow_is_like_last) l_Flow_is_like_last c_Flow_is_like_last k_Flow_is_like_last), ((fun_mk (st := s_Flow_is_like_last) l_Flow_is_like_last c_Flow_is_like_last k_Flow_is_like_last).binds (ps := ["self", "stretch"]) fun _ _ _ _ _ _ us hl => match us, hl with | [_, _], _ => rfl)⟩
  · exact ⟨_, _, _, (PySem.W.mg_of X G a_Flow), ⟨mk_Flow, ii_Flow, if_Flow, kc_Flow⟩, (fun_mk (st := s_Flow_init) l_Flow_init c_Flow_init k_Flow_init), ((fun_mk (st := s_Flow_init) l_Flow_init c_Flow_init k_Flow_init).binds (ps := ["self", "capacity", "rain", "draws", "above"]) fun _ _ _ _ _ _ us hl => match us, hl with | [_, _, _, _, _], _ => rfl)⟩
  · exact ⟨_, _, (fun Ca hC => by cases (PySem.W.mg_of X G a_Flow).symm.trans hC; exact ⟨⟨pg_Flow, hd_Flow, po_Flow, sa_Flow⟩, ⟨at_Flow_outflow, i_Flow_outflow, k_Flow_outflow⟩⟩), (fun_mk (st := s_Flow_outflow) l_Flow_outflow c_Flow_outflow k_Flow_outflow), ((fun_mk (st := s_Flow_outflow) l_Flow_outflow c_Flow_outflow k_Flow_outflow).binds (ps := ["self"]) fun _ _ _ _ _ _ us hl => match us, hl with | [_], _ => rfl)⟩
  · exact ⟨_, _, PySem.W.mg_of X G a_flows_of, (fun_mk (st := s_flows_of) l_flows_of c_flows_of k_flows_of), ((fun_mk (st := s_flows_of) l_flows_of c_flows_of k_flows_of).binds (ps := ["row"]) fun _ _ _ _ _ _ us hl => match us, hl with | [_], _ => rfl)⟩
  · exact ⟨_, _, (fun Ca hC => by cases (PySem.W.mg_of X G a_Flow).symm.trans hC; exact ⟨⟨pg_Flow, hd_Flow, po_Flow, sa_Flow⟩, ⟨at_Flow_stretch_at, i_Flow_stretch_at, k_Flow_stretch_at⟩⟩), (fun_mk (st := s_Flow_stretch_at) l_Flow_stretch_at c_Flow_stretch_at k_Flow_stretch_at), ((fun_mk (st := s_Flow_stretch_at) l_Flow_stretch_at c_Flow_stretch_at k_Flow_stretch_at).binds (ps := ["self", "number"]) fun _ _ _ _ _ _ us hl => match us, hl with | [_, _], _ => rfl)⟩
  · exact ⟨_, _, (fun Ca hC => by cases (PySem.W.mg_of X G a_Flow).symm.trans hC; exact ⟨⟨pg_Flow, hd_Flow, po_Flow, sa_Flow⟩, ⟨at_Flow_rows_of, i_Flow_rows_of, k_Flow_rows_of⟩⟩), (fun_mk (st := s_Flow_rows_of) l_Flow_rows_of c_Flow_rows_of k_Flow_rows_of), ((fun_mk (st := s_Flow_rows_of) l_Flow_rows_of c_Flow_rows_of k_Flow_rows_of).binds (ps := ["self", "number"]) fun _ _ _ _ _ _ us hl => match us, hl with | [_, _], _ => rfl)⟩
  · exact PySem.W.mg_none_of X G z_sum
  · exact ⟨_, _, PySem.W.mg_of X G a_sums_of, (fun_mk (st := s_sums_of) l_sums_of c_sums_of k_sums_of), ((fun_mk (st := s_sums_of) l_sums_of c_sums_of k_sums_of).binds (ps := ["rows", "times"]) fun _ _ _ _ _ _ us hl => match us, hl with | [_, _], _ => rfl)⟩
  · exact ⟨_, _, (fun Ca hC => by cases (PySem.W.mg_of X G a_Flow).symm.trans hC; exact ⟨⟨pg_Flow, hd_Flow, po_Flow, sa_Flow⟩, ⟨at_Flow_sums, i_Flow_sums, k_Flow_sums⟩⟩), (fun_mk (st := s_Flow_sums) l_Flow_sums c_Flow_sums k_Flow_sums), ((fun_mk (st := s_Flow_sums) l_Flow_sums c_Flow_sums k_Flow_sums).binds (ps := ["self", "rounds", "ticks"]) fun _ _ _ _ _ _ us hl => match us, hl with | [_, _, _], _ => rfl)⟩
  · exact ⟨_, _, PySem.W.mg_of X G a_totals, (fun_mk (st := s_totals) l_totals c_totals k_totals), ((fun_mk (st := s_totals) l_totals c_totals k_totals).binds (ps := ["row", "ticks"]) fun _ _ _ _ _ _ us hl => match us, hl with | [_, _], _ => rfl)⟩
  · exact PySem.W.mg_none_of X G z_list
  · exact ⟨_, _, (fun Ca hC => by cases (PySem.W.mg_of X G a_Flow).symm.trans hC; exact ⟨⟨pg_Flow, hd_Flow, po_Flow, sa_Flow⟩, ⟨at_Flow_last_sums, i_Flow_last_sums, k_Flow_last_sums⟩⟩), (fun_mk (st := s_Flow_last_sums) l_Flow_last_sums c_Flow_last_sums k_Flow_last_sums), ((fun_mk (st := s_Flow_last_sums) l_Flow_last_sums c_Flow_last_sums k_Flow_last_sums).binds (ps := ["self"]) fun _ _ _ _ _ _ us hl => match us, hl with | [_], _ => rfl)⟩
  · exact ⟨_, _, PySem.W.mg_of X G a_long_run, (fun_mk (st := s_long_run) l_long_run c_long_run k_long_run), ((fun_mk (st := s_long_run) l_long_run c_long_run k_long_run).binds (ps := ["row"]) fun _ _ _ _ _ _ us hl => match us, hl with | [_], _ => rfl)⟩
  · exact ⟨_, _, PySem.W.mg_of X G a_place_of, (fun_mk (st := s_place_of) l_place_of c_place_of k_place_of), ((fun_mk (st := s_place_of) l_place_of c_place_of k_place_of).binds (ps := ["row", "name"]) fun _ _ _ _ _ _ us hl => match us, hl with | [_, _], _ => rfl)⟩
  · exact ⟨_, _, PySem.W.mg_of X G a_missed_from, (fun_mk (st := s_missed_from) l_missed_from c_missed_from k_missed_from), ((fun_mk (st := s_missed_from) l_missed_from c_missed_from k_missed_from).binds (ps := ["rows", "tick"]) fun _ _ _ _ _ _ us hl => match us, hl with | [_, _], _ => rfl)⟩
  · exact ⟨_, _, (fun Ca hC => by cases (PySem.W.mg_of X G a_Flow).symm.trans hC; exact ⟨⟨pg_Flow, hd_Flow, po_Flow, sa_Flow⟩, ⟨at_Flow_next_missed, i_Flow_next_missed, k_Flow_next_missed⟩⟩), (fun_mk (st := s_Flow_next_missed) l_Flow_next_missed c_Flow_next_missed k_Flow_next_missed), ((fun_mk (st := s_Flow_next_missed) l_Flow_next_missed c_Flow_next_missed k_Flow_next_missed).binds (ps := ["self", "number", "tick"]) fun _ _ _ _ _ _ us hl => match us, hl with | [_, _, _], _ => rfl)⟩
  · exact ⟨_, _, PySem.W.mg_of X G a_first_missed, (fun_mk (st := s_first_missed) l_first_missed c_first_missed k_first_missed), ((fun_mk (st := s_first_missed) l_first_missed c_first_missed k_first_missed).binds (ps := ["row", "name", "tick"]) fun _ _ _ _ _ _ us hl => match us, hl with | [_, _, _], _ => rfl)⟩
  · exact ⟨_, _, PySem.W.mg_of X G a_settled_round, (fun_mk (st := s_settled_round) l_settled_round c_settled_round k_settled_round), ((fun_mk (st := s_settled_round) l_settled_round c_settled_round k_settled_round).binds (ps := ["row"]) fun _ _ _ _ _ _ us hl => match us, hl with | [_], _ => rfl)⟩
  · exact ⟨_, _, PySem.W.mg_of X G a_lost, (fun_mk (st := s_lost) l_lost c_lost k_lost), ((fun_mk (st := s_lost) l_lost c_lost k_lost).binds (ps := ["row", "ticks"]) fun _ _ _ _ _ _ us hl => match us, hl with | [_, _], _ => rfl)⟩
  · exact ⟨_, _, _, (PySem.W.mg_of X G a_Row), ⟨pg_Row, hd_Row, po_Row, sa_Row⟩, at_Row_len, i_Row_len, (fun_mk (st := s_Row_len) l_Row_len c_Row_len k_Row_len), ((fun_mk (st := s_Row_len) l_Row_len c_Row_len k_Row_len).binds (ps := ["self"]) fun _ _ _ _ _ _ us hl => match us, hl with | [_], _ => rfl)⟩
  · exact ⟨_, _, _, _, _, _, (PySem.W.mg_of X G a_Row), sf_Row, at_Row_sub, i_Row_sub, rr_Row_sub, .inl rfl, s1_Row_sub, s2_Row_sub, s3_Row_sub, (fun_mk (st := s_Row_sub) l_Row_sub c_Row_sub k_Row_sub), ((fun_mk (st := s_Row_sub) l_Row_sub c_Row_sub k_Row_sub).binds (ps := ["self", "name"]) fun _ _ _ _ _ _ us hl => match us, hl with | [_, _], _ => rfl)⟩
  · exact ⟨_, _, PySem.W.mg_of X G a_change_without, (fun_mk (st := s_change_without) l_change_without c_change_without k_change_without), ((fun_mk (st := s_change_without) l_change_without c_change_without k_change_without).binds (ps := ["row", "name"]) fun _ _ _ _ _ _ us hl => match us, hl with | [_, _], _ => rfl)⟩
  · exact ⟨_, _, PySem.W.mg_of X G a_lost_per_round, (fun_mk (st := s_lost_per_round) l_lost_per_round c_lost_per_round k_lost_per_round), ((fun_mk (st := s_lost_per_round) l_lost_per_round c_lost_per_round k_lost_per_round).binds (ps := ["row"]) fun _ _ _ _ _ _ us hl => match us, hl with | [_], _ => rfl)⟩
  · exact ⟨_, _, PySem.W.mg_of X G a_held_back, (fun_mk (st := s_held_back) l_held_back c_held_back k_held_back), ((fun_mk (st := s_held_back) l_held_back c_held_back k_held_back).binds (ps := ["row", "name"]) fun _ _ _ _ _ _ us hl => match us, hl with | [_, _], _ => rfl)⟩
  · exact ⟨_, _, (fun Ca hC => by cases (PySem.W.mg_of X G a_Flow).symm.trans hC; exact ⟨⟨pg_Flow, hd_Flow, po_Flow, sa_Flow⟩, ⟨at_Flow_level, i_Flow_level, k_Flow_level⟩⟩), (fun_mk (st := s_Flow_level) l_Flow_level c_Flow_level k_Flow_level), ((fun_mk (st := s_Flow_level) l_Flow_level c_Flow_level k_Flow_level).binds (ps := ["self", "number", "tick"]) fun _ _ _ _ _ _ us hl => match us, hl with | [_, _, _], _ => rfl)⟩
  · exact ⟨_, _, _, (PySem.W.mg_of X G a_Row), at_Row_call, i_Row_call, fn_Row_call, (fun_mk (st := s_Row_call) l_Row_call c_Row_call k_Row_call), ((fun_mk (st := s_Row_call) l_Row_call c_Row_call k_Row_call).binds (ps := ["self", "name", "tick"]) fun _ _ _ _ _ _ us hl => match us, hl with | [_, _, _], _ => rfl)⟩
  · exact ⟨_, _, (fun Ca hC => by cases (PySem.W.mg_of X G a_Row).symm.trans hC; exact ⟨⟨pg_Row, hd_Row, po_Row, sa_Row⟩, ⟨at_Row_with_rain, i_Row_with_rain, k_Row_with_rain⟩⟩), (fun_mk (st := s_Row_with_rain) l_Row_with_rain c_Row_with_rain k_Row_with_rain), ((fun_mk (st := s_Row_with_rain) l_Row_with_rain c_Row_with_rain k_Row_with_rain).binds (ps := ["self", "index", "amount"]) fun _ _ _ _ _ _ us hl => match us, hl with | [_, _, _], _ => rfl)⟩
  · exact ⟨_, _, (fun Ca hC => by cases (PySem.W.mg_of X G a_Row).symm.trans hC; exact ⟨⟨pg_Row, hd_Row, po_Row, sa_Row⟩, ⟨at_Row_with_capacity, i_Row_with_capacity, k_Row_with_capacity⟩⟩), (fun_mk (st := s_Row_with_capacity) l_Row_with_capacity c_Row_with_capacity k_Row_with_capacity), ((fun_mk (st := s_Row_with_capacity) l_Row_with_capacity c_Row_with_capacity k_Row_with_capacity).binds (ps := ["self", "name", "capacity"]) fun _ _ _ _ _ _ us hl => match us, hl with | [_, _, _], _ => rfl)⟩
  · exact ⟨_, _, PySem.W.mg_of X G a_least_capacity, (fun_mk (st := s_least_capacity) l_least_capacity c_least_capacity k_least_capacity), ((fun_mk (st := s_least_capacity) l_least_capacity c_least_capacity k_least_capacity).binds (ps := ["row", "name", "goal"]) fun _ _ _ _ _ _ us hl => match us, hl with | [_, _, _], _ => rfl)⟩
  · exact ⟨_, _, PySem.W.mg_of X G a_law_query, (fun_mk (st := s_law_query) l_law_query c_law_query k_law_query), ((fun_mk (st := s_law_query) l_law_query c_law_query k_law_query).binds (ps := ["_law_row_here", "_law_branch"]) fun _ _ _ _ _ _ us hl => match us, hl with | [_, _], _ => rfl)⟩
  · exact PySem.W.mg_none_of X G z_isinstance
  · exact PySem.W.mg_none_of X G z_bool
  · exact ⟨_, _, PySem.W.mg_of X G a_law_same, (fun_mk (st := s_law_same) l_law_same c_law_same k_law_same), ((fun_mk (st := s_law_same) l_law_same c_law_same k_law_same).binds (ps := ["_law_result", "_law_expected"]) fun _ _ _ _ _ _ us hl => match us, hl with | [_, _], _ => rfl)⟩
  · exact ⟨_, _, _, _, (PySem.W.mg_of X G a_InvalidRow), ⟨(PySem.W.mg_of X G a_RowError), rd_RowError, ga_RowError, iv_RowError⟩, ⟨⟨_, _, _, _, _, _, _, _, _, _, _, _, _, _, _, xL_x_InvalidRow, rV_x_InvalidRow⟩, sa_InvalidRow, bx_InvalidRow, tx_InvalidRow, kc_InvalidRow⟩, ii_InvalidRow, ti_InvalidRow, no_InvalidRow_part, no_InvalidRow_index, (fun_mk (st := s_x_InvalidRow) l_x_InvalidRow c_x_InvalidRow k_x_InvalidRow)⟩
  · exact ⟨_, _, _, _, (PySem.W.mg_of X G a_UnknownBarrel), ⟨(PySem.W.mg_of X G a_RowError), rd_RowError, ga_RowError, iv_RowError⟩, ⟨⟨_, _, _, _, _, _, _, _, _, _, _, _, _, _, _, xL_x_UnknownBarrel, rV_x_UnknownBarrel⟩, sa_UnknownBarrel, bx_UnknownBarrel, tx_UnknownBarrel, kc_UnknownBarrel⟩, ii_UnknownBarrel, ti_UnknownBarrel, no_UnknownBarrel_name, (fun_mk (st := s_x_UnknownBarrel) l_x_UnknownBarrel c_x_UnknownBarrel k_x_UnknownBarrel)⟩

theorem end_at {l : PySem.W.OpenLaw} {w : World} {K : PySem.W.Frag} {mg : Str → Option Value} {h : Heap} {fa f c P : Addr} {kV doc pm ct oc : Value} {an od : Option Addr} {osl : Array (Option Value)} {e : Value} {dd : Option Addr} {vs : Array Value} {sl : Array (Option Value)}
    (X : K.In h) (G : h.Ns mainGlobals mg) (own : LamX.OwnTab K fa h) (hfa : mg "law" = some (.ref fa)) (fx : ∀ base : Heap, Fx ⟨l.prog, w, K, mg, base⟩)
    (plain : ∀ (ns : List Int) (cell : Cell), IsScript ns cell → ns.length ≤ 63 → (∀ z ∈ ns, Builtin.Int.intBits z ≤ 1048576) → ∃ st', defM 1 10 m_law [.ref 0] [cell] = .ok (.bl true) st')
    (a_law : PySem.W.nsIn K mainGlobals "law" = some (some (.ref f))) (z1 : PySem.W.nsIn K mainGlobals "_law_refused" = some none) (z2 : PySem.W.nsIn K mainGlobals "_law_changed" = some none)
    (lk : K.lookup f = some ⟨oc, od, .func (PySem.W.fnOf "law" "law" (defArgs s_law) (defBody s_law) (defScope s_law) .none kV doc pm an (.ref c) ct), osl⟩) (hcd : PySem.W.codeIn K (.ref c) "law" = true)
    (lc : K.lookup c = some ⟨e, dd, .fields vs, sl⟩) (h11 : vs[11]? = some (.ref P)) (nP : K.lookup P = none) (hh : codeHdB e vs c P = true) :
    LamX.LawAtS l w K (L2.CX l.prog w) 11 63 "_law_script" mg fa h := by
  cases hfa.symm.trans (PySem.W.mg_of X G a_law)
  exact law_at X own hfa (PySem.W.mg_none_of X G z1) (PySem.W.mg_none_of X G z2) lk hcd lc h11 nP (codeHd_by lc hh) sc_law rfl (fun s u => .of_eq rfl) (fun base hK hNs TB hmT huT A outer s H E hr => j_law (fx base) TB hmT huT hr) plain

end K10

set_option Elab.async false
set_option linter.all false
set_option maxRecDepth 100000
set_option maxHeartbeats 2000000
namespace K10
open PySem PySem.Spec PyProof.Rows L2
open Ab (Val Cell Store Slots R O ME MT MA MS MF MG MGs MI MO Chk Wish Exc seqAt Keep Draws New Wr)
open Vc (WpR WpO WpG)
/-! steppers: sizeOf_list_dec closes side conditions; array_get_dec looks a cell up; array_mem_dec is one step of a wish -/
local macro_rules | `(tactic| sizeOf_list_dec) => `(tactic| (simp only [List.length_append, List.length_map, List.length_cons, List.length_nil, List.length_set, List.length_range] at *; omega))
local macro_rules | `(tactic| sizeOf_list_dec) => `(tactic| decide)
local macro_rules | `(tactic| sizeOf_list_dec) => `(tactic| ((with_reducible apply Vc.ne_new'); assumption; array_get_dec))
local macro_rules | `(tactic| sizeOf_list_dec) => `(tactic| ((with_reducible apply Vc.ne_new); assumption; array_get_dec))
local macro_rules | `(tactic| sizeOf_list_dec) => `(tactic| (with_reducible exact Ne.symm (by assumption)))
local macro_rules | `(tactic| sizeOf_list_dec) => `(tactic| omega)
local macro_rules | `(tactic| sizeOf_list_dec) => `(tactic| ((refine Nat.le_trans ?_ (by assumption : Nat.le (List.length (α := Ab.Cell) _) _)); sizeOf_list_dec))
local macro_rules | `(tactic| sizeOf_list_dec) => `(tactic| ((with_reducible refine Vc.k_len (by assumption) ?_); sizeOf_list_dec))
local macro_rules | `(tactic| sizeOf_list_dec) => `(tactic| with_reducible exact Nat.le_refl _)
local macro_rules | `(tactic| sizeOf_list_dec) => `(tactic| ((with_reducible refine Vc.nin_cons ?_ ?_); sizeOf_list_dec; sizeOf_list_dec))
local macro_rules | `(tactic| sizeOf_list_dec) => `(tactic| with_reducible exact List.not_mem_nil)
local macro_rules | `(tactic| sizeOf_list_dec) => `(tactic| ((with_reducible refine Vc.hs_cons ?_ ?_); ((first | exact Or.inl (List.Mem.head _) | exact Or.inl (List.Mem.tail _ (List.Mem.head _)) | exact Or.inl (List.Mem.tail _ (List.Mem.tail _ (List.Mem.head _))) | exact Or.inl (List.Mem.tail _ (List.Mem.tail _ (List.Mem.tail _ (List.Mem.head _)))) | exact Or.inl (List.Mem.tail _ (List.Mem.tail _ (List.Mem.tail _ (List.Mem.tail _ (List.Mem.head _))))) | exact Or.inl (List.Mem.tail _ (List.Mem.tail _ (List.Mem.tail _ (List.Mem.tail _ (List.Mem.tail _ (List.Mem.head _)))))) | exact Or.inl (List.Mem.tail _ (List.Mem.tail _ (List.Mem.tail _ (List.Mem.tail _ (List.Mem.tail _ (List.Mem.tail _ (List.Mem.head _))))))) | (apply Or.inr; sizeOf_list_dec))); sizeOf_list_dec))
local macro_rules | `(tactic| sizeOf_list_dec) => `(tactic| with_reducible exact Vc.hs_nil)
local macro_rules | `(tactic| sizeOf_list_dec) => `(tactic| ((with_reducible refine Vc.k_seq ?_ (by assumption) ?_); sizeOf_list_dec; sizeOf_list_dec))
local macro_rules | `(tactic| sizeOf_list_dec) => `(tactic| with_reducible exact Ab.Keep.refl)
local macro_rules | `(tactic| sizeOf_list_dec) => `(tactic| assumption)
local macro_rules | `(tactic| array_get_dec) => `(tactic| ((with_reducible apply Vc.get_push); array_get_dec))
local macro_rules | `(tactic| array_get_dec) => `(tactic| with_reducible exact Vc.get_last)
local macro_rules | `(tactic| array_get_dec) => `(tactic| (refine Ab.Keep.get (by assumption) (by first | array_get_dec | fail) ?_; sizeOf_list_dec))
local macro_rules | `(tactic| array_get_dec) => `(tactic| assumption)
local macro_rules | `(tactic| array_mem_dec) => `(tactic| ((first | (with_reducible show Vc.WpO _ _) | (with_reducible show Vc.WpR _ _ _) | (with_reducible show Ab.NF _ _ _ _)); simp only [List.set_cons_succ, List.set_cons_zero, Ab.wipeM, List.map_cons, List.map_nil, List.cons_append, List.nil_append, List.replicate, -eq_self]))
local macro_rules | `(tactic| array_mem_dec) => `(tactic| with_reducible apply Vc.b_ok)
local macro_rules | `(tactic| array_mem_dec) => `(tactic| with_reducible apply Vc.and_wp)
local macro_rules | `(tactic| array_mem_dec) => `(tactic| ((with_reducible apply Vc.wr_by); intro _ _ _))
local macro_rules | `(tactic| array_mem_dec) => `(tactic| ((with_reducible apply Vc.new_by); intro _ _ _ _ _))
local macro_rules | `(tactic| array_mem_dec) => `(tactic| ((with_reducible apply And.intro); ((with_reducible apply Vc.ty_lst); array_get_dec)))
local macro_rules | `(tactic| array_mem_dec) => `(tactic| with_reducible apply Vc.ite_nrfl)
local macro_rules | `(tactic| array_mem_dec) => `(tactic| with_reducible apply Vc.ite_rfl)
local macro_rules | `(tactic| array_mem_dec) => `(tactic| with_reducible apply Vc.ite_nf)
local macro_rules | `(tactic| array_mem_dec) => `(tactic| with_reducible apply Vc.ite_nt)
local macro_rules | `(tactic| array_mem_dec) => `(tactic| with_reducible apply Vc.ite_f)
local macro_rules | `(tactic| array_mem_dec) => `(tactic| with_reducible apply Vc.ite_t)
local macro_rules | `(tactic| array_mem_dec) => `(tactic| with_reducible apply Vc.chk_bl)
local macro_rules | `(tactic| array_mem_dec) => `(tactic| with_reducible apply Vc.v_pow18)
local macro_rules | `(tactic| array_mem_dec) => `(tactic| with_reducible apply Vc.v_pow9)
local macro_rules | `(tactic| array_mem_dec) => `(tactic| with_reducible apply Vc.v_pow6)
local macro_rules | `(tactic| array_mem_dec) => `(tactic| with_reducible apply Vc.v_ge)
local macro_rules | `(tactic| array_mem_dec) => `(tactic| with_reducible apply Vc.v_gt)
local macro_rules | `(tactic| array_mem_dec) => `(tactic| with_reducible apply Vc.v_lt)
local macro_rules | `(tactic| array_mem_dec) => `(tactic| ((with_reducible apply Vc.ex_int); sizeOf_list_dec))
local macro_rules | `(tactic| array_mem_dec) => `(tactic| ((with_reducible apply Vc.one_ins); array_get_dec))
local macro_rules | `(tactic| array_mem_dec) => `(tactic| ((with_reducible apply Vc.two_ins); array_get_dec; array_get_dec))
local macro_rules | `(tactic| array_mem_dec) => `(tactic| with_reducible apply Vc.ex_isiT)
local macro_rules | `(tactic| array_mem_dec) => `(tactic| ((with_reducible apply Vc.ex_isiO); array_get_dec; exact rfl))
local macro_rules | `(tactic| array_mem_dec) => `(tactic| with_reducible apply Vc.v_sumT)
local macro_rules | `(tactic| array_mem_dec) => `(tactic| ((with_reducible apply Vc.v_neO); array_get_dec; array_get_dec))
local macro_rules | `(tactic| array_mem_dec) => `(tactic| ((with_reducible apply Vc.v_eqO); array_get_dec; array_get_dec))
local macro_rules | `(tactic| array_mem_dec) => `(tactic| ((with_reducible apply Vc.v_ninO); array_get_dec))
local macro_rules | `(tactic| array_mem_dec) => `(tactic| ((with_reducible apply Vc.v_inO); array_get_dec))
local macro_rules | `(tactic| array_mem_dec) => `(tactic| ((with_reducible apply Vc.v_div); sizeOf_list_dec))
local macro_rules | `(tactic| array_mem_dec) => `(tactic| ((with_reducible apply Vc.v_mod); sizeOf_list_dec))
local macro_rules | `(tactic| array_mem_dec) => `(tactic| ((with_reducible apply Vc.v_mul); sizeOf_list_dec))
local macro_rules | `(tactic| array_mem_dec) => `(tactic| ((with_reducible apply Vc.v_app); array_get_dec; sizeOf_list_dec))
local macro_rules | `(tactic| array_mem_dec) => `(tactic| ((with_reducible apply Vc.v_addT); sizeOf_list_dec))
local macro_rules | `(tactic| array_mem_dec) => `(tactic| ((with_reducible apply Vc.v_addL); array_get_dec; array_get_dec; sizeOf_list_dec))
local macro_rules | `(tactic| array_mem_dec) => `(tactic| ((with_reducible apply Vc.v_lstL); array_get_dec))
local macro_rules | `(tactic| array_mem_dec) => `(tactic| ((with_reducible apply Vc.v_tupL); array_get_dec))
local macro_rules | `(tactic| array_mem_dec) => `(tactic| ((with_reducible apply Vc.v_lenL); array_get_dec))
local macro_rules | `(tactic| array_mem_dec) => `(tactic| ((with_reducible apply Vc.v_dgetF); array_get_dec; exact rfl))
local macro_rules | `(tactic| array_mem_dec) => `(tactic| ((with_reducible apply Vc.v_dget); array_get_dec; exact rfl))
local macro_rules | `(tactic| array_mem_dec) => `(tactic| ((with_reducible apply Vc.v_ixT); exact rfl))
local macro_rules | `(tactic| array_mem_dec) => `(tactic| ((with_reducible apply Vc.v_ixL); array_get_dec; exact rfl))
local macro_rules | `(tactic| array_mem_dec) => `(tactic| ((with_reducible apply Vc.v_fld'); array_get_dec; exact rfl; first | exact rfl | assumption))
local macro_rules | `(tactic| array_mem_dec) => `(tactic| ((with_reducible apply Vc.ex_subD); array_get_dec; exact rfl))
local macro_rules | `(tactic| array_mem_dec) => `(tactic| ((with_reducible apply Vc.chk_lst); array_get_dec; exact rfl))
local macro_rules | `(tactic| array_mem_dec) => `(tactic| ((with_reducible apply Vc.ex_fld); array_get_dec; exact rfl; exact rfl))
local macro_rules | `(tactic| array_mem_dec) => `(tactic| ((with_reducible apply Vc.ex_meth); ((with_reducible apply Vc.cls_at); array_get_dec); exact rfl))
local macro_rules | `(tactic| array_mem_dec) => `(tactic| ((with_reducible apply Vc.isb_f); exact rfl))
local macro_rules | `(tactic| array_mem_dec) => `(tactic| ((with_reducible apply Vc.isb_t); exact rfl))
local macro_rules | `(tactic| array_mem_dec) => `(tactic| ((with_reducible apply Vc.ex_isi); exact rfl))
local macro_rules | `(tactic| array_mem_dec) => `(tactic| ((with_reducible apply Vc.ex_isiL); array_get_dec))
local macro_rules | `(tactic| array_mem_dec) => `(tactic| ((with_reducible apply Vc.ex_items); array_get_dec))
local macro_rules | `(tactic| array_mem_dec) => `(tactic| ((with_reducible apply Vc.ex_starL); array_get_dec))
local macro_rules | `(tactic| array_mem_dec) => `(tactic| ((with_reducible apply Vc.ex_seqL); array_get_dec))
local macro_rules | `(tactic| array_mem_dec) => `(tactic| with_reducible apply Vc.ex_starT)
local macro_rules | `(tactic| array_mem_dec) => `(tactic| with_reducible apply Vc.ex_zipT)
local macro_rules | `(tactic| array_mem_dec) => `(tactic| with_reducible apply Vc.ex_enumT)
local macro_rules | `(tactic| array_mem_dec) => `(tactic| with_reducible apply Vc.ex_seqT)
local macro_rules | `(tactic| array_mem_dec) => `(tactic| with_reducible apply Vc.ex_key)
local macro_rules | `(tactic| array_mem_dec) => `(tactic| with_reducible apply Vc.ex_chain)
local macro_rules | `(tactic| array_mem_dec) => `(tactic| with_reducible apply Vc.ex_par)
local macro_rules | `(tactic| array_mem_dec) => `(tactic| ((with_reducible apply Vc.len_and); exact rfl))
local macro_rules | `(tactic| array_mem_dec) => `(tactic| with_reducible apply Vc.i_range2)
local macro_rules | `(tactic| array_mem_dec) => `(tactic| with_reducible apply Vc.i_range1)
local macro_rules | `(tactic| array_mem_dec) => `(tactic| with_reducible apply Vc.i_str)
local macro_rules | `(tactic| array_mem_dec) => `(tactic| with_reducible apply Vc.i_zip)
local macro_rules | `(tactic| array_mem_dec) => `(tactic| with_reducible apply Vc.i_enum)
local macro_rules | `(tactic| array_mem_dec) => `(tactic| with_reducible apply Vc.i_seq)
local macro_rules | `(tactic| array_mem_dec) => `(tactic| with_reducible apply Vc.g_subD)
local macro_rules | `(tactic| array_mem_dec) => `(tactic| with_reducible apply Vc.g_subL)
local macro_rules | `(tactic| array_mem_dec) => `(tactic| with_reducible apply Vc.g_fld)
local macro_rules | `(tactic| array_mem_dec) => `(tactic| ((with_reducible apply Vc.g_tupS); sizeOf_list_dec))
local macro_rules | `(tactic| array_mem_dec) => `(tactic| ((with_reducible apply Vc.g_tup); exact rfl))
local macro_rules | `(tactic| array_mem_dec) => `(tactic| with_reducible apply Vc.g_nil)
local macro_rules | `(tactic| array_mem_dec) => `(tactic| with_reducible apply Vc.g_cons)
local macro_rules | `(tactic| array_mem_dec) => `(tactic| with_reducible apply Vc.g_set)
local macro_rules | `(tactic| array_mem_dec) => `(tactic| with_reducible apply Vc.b_yes)
local macro_rules | `(tactic| array_mem_dec) => `(tactic| with_reducible apply Vc.b_dc)
local macro_rules | `(tactic| array_mem_dec) => `(tactic| with_reducible apply Vc.b_lc)
local macro_rules | `(tactic| array_mem_dec) => `(tactic| with_reducible apply Vc.b_for)
local macro_rules | `(tactic| array_mem_dec) => `(tactic| with_reducible apply Vc.b_raise0)
local macro_rules | `(tactic| array_mem_dec) => `(tactic| with_reducible apply Vc.b_raise)
local macro_rules | `(tactic| array_mem_dec) => `(tactic| with_reducible apply Vc.b_fldaug)
local macro_rules | `(tactic| array_mem_dec) => `(tactic| with_reducible apply Vc.b_fldm)
local macro_rules | `(tactic| array_mem_dec) => `(tactic| with_reducible apply Vc.b_par)
local macro_rules | `(tactic| array_mem_dec) => `(tactic| with_reducible apply Vc.b_asg)
local macro_rules | `(tactic| array_mem_dec) => `(tactic| with_reducible apply Vc.b_cont)
local macro_rules | `(tactic| array_mem_dec) => `(tactic| with_reducible apply Vc.b_break)
local macro_rules | `(tactic| array_mem_dec) => `(tactic| ((with_reducible apply Vc.b_aug); exact rfl))
local macro_rules | `(tactic| array_mem_dec) => `(tactic| with_reducible apply Vc.b_outcome)
local macro_rules | `(tactic| array_mem_dec) => `(tactic| with_reducible apply Vc.b_len)
local macro_rules | `(tactic| array_mem_dec) => `(tactic| with_reducible apply Vc.i_vals)
local macro_rules | `(tactic| array_mem_dec) => `(tactic| with_reducible apply Vc.i_keys)
local macro_rules | `(tactic| array_mem_dec) => `(tactic| with_reducible apply Vc.b_disp0)
local macro_rules | `(tactic| array_mem_dec) => `(tactic| with_reducible apply Vc.b_isiO)
local macro_rules | `(tactic| array_mem_dec) => `(tactic| with_reducible apply Vc.b_opT)
local macro_rules | `(tactic| array_mem_dec) => `(tactic| with_reducible apply Vc.b_getO)
local macro_rules | `(tactic| array_mem_dec) => `(tactic| with_reducible apply Vc.b_call)
local macro_rules | `(tactic| array_mem_dec) => `(tactic| with_reducible apply Vc.b_op)
local macro_rules | `(tactic| array_mem_dec) => `(tactic| with_reducible apply Vc.b_star)
local macro_rules | `(tactic| array_mem_dec) => `(tactic| with_reducible apply Vc.b_isi)
local macro_rules | `(tactic| array_mem_dec) => `(tactic| with_reducible apply Vc.b_items)
local macro_rules | `(tactic| array_mem_dec) => `(tactic| with_reducible apply Vc.b_pnil)
local macro_rules | `(tactic| array_mem_dec) => `(tactic| with_reducible apply Vc.b_pcons)
local macro_rules | `(tactic| array_mem_dec) => `(tactic| with_reducible apply Vc.b_disp)
local macro_rules | `(tactic| array_mem_dec) => `(tactic| with_reducible apply Vc.b_neg)
local macro_rules | `(tactic| array_mem_dec) => `(tactic| with_reducible apply Vc.b_oSome)
local macro_rules | `(tactic| array_mem_dec) => `(tactic| with_reducible apply Vc.b_oNone)
local macro_rules | `(tactic| array_mem_dec) => `(tactic| with_reducible apply Vc.b_cut)
local macro_rules | `(tactic| array_mem_dec) => `(tactic| with_reducible apply Vc.b_dget)
local macro_rules | `(tactic| array_mem_dec) => `(tactic| with_reducible apply Vc.b_make)
local macro_rules | `(tactic| array_mem_dec) => `(tactic| with_reducible apply Vc.b_prop)
local macro_rules | `(tactic| array_mem_dec) => `(tactic| with_reducible apply Vc.b_meth)
local macro_rules | `(tactic| array_mem_dec) => `(tactic| with_reducible apply Vc.b_BM)
local macro_rules | `(tactic| array_mem_dec) => `(tactic| with_reducible apply Vc.b_fld)
local macro_rules | `(tactic| array_mem_dec) => `(tactic| with_reducible apply Vc.b_mnot)
local macro_rules | `(tactic| array_mem_dec) => `(tactic| with_reducible apply Vc.b_or)
local macro_rules | `(tactic| array_mem_dec) => `(tactic| with_reducible apply Vc.b_and)
local macro_rules | `(tactic| array_mem_dec) => `(tactic| with_reducible apply Vc.b_if)
local macro_rules | `(tactic| array_mem_dec) => `(tactic| with_reducible apply Vc.b_chainI)
local macro_rules | `(tactic| array_mem_dec) => `(tactic| with_reducible apply Vc.b_lst)
local macro_rules | `(tactic| array_mem_dec) => `(tactic| with_reducible apply Vc.b_tup)
local macro_rules | `(tactic| array_mem_dec) => `(tactic| with_reducible apply Vc.b_app)
local macro_rules | `(tactic| array_mem_dec) => `(tactic| with_reducible apply Vc.b_tor)
local macro_rules | `(tactic| array_mem_dec) => `(tactic| with_reducible apply Vc.b_tand)
local macro_rules | `(tactic| array_mem_dec) => `(tactic| with_reducible apply Vc.b_not)
local macro_rules | `(tactic| array_mem_dec) => `(tactic| with_reducible apply Vc.b_test)
local macro_rules | `(tactic| array_mem_dec) => `(tactic| with_reducible apply Vc.b_next)
local macro_rules | `(tactic| array_mem_dec) => `(tactic| with_reducible apply Vc.b_sif)
local macro_rules | `(tactic| array_mem_dec) => `(tactic| with_reducible apply Vc.b_drop)
local macro_rules | `(tactic| array_mem_dec) => `(tactic| with_reducible apply Vc.b_ret)
local macro_rules | `(tactic| array_mem_dec) => `(tactic| with_reducible apply Vc.b_set)
local macro_rules | `(tactic| array_mem_dec) => `(tactic| with_reducible apply Vc.b_seq)
local macro_rules | `(tactic| array_mem_dec) => `(tactic| with_reducible apply Vc.b_aNil)
local macro_rules | `(tactic| array_mem_dec) => `(tactic| with_reducible apply Vc.b_aCons)
local macro_rules | `(tactic| array_mem_dec) => `(tactic| with_reducible apply Vc.b_bin)
local macro_rules | `(tactic| array_mem_dec) => `(tactic| with_reducible apply Vc.b_C)
local macro_rules | `(tactic| array_mem_dec) => `(tactic| ((with_reducible apply Vc.b_var); exact rfl))
local macro_rules | `(tactic| array_mem_dec) => `(tactic| with_reducible apply Vc.nf0)
local macro_rules | `(tactic| array_mem_dec) => `(tactic| with_reducible apply Vc.nf1)
local macro_rules | `(tactic| array_mem_dec) => `(tactic| with_reducible apply Vc.nf4)
theorem val_spec {a b c : Int} {st : Store} : WpR (f_validate_number [.int a, .int b, .int c] st) (fun v s => v = .non ∧ s = st ∧ b ≤ a ∧ a ≤ c) (fun x s => x = ⟨4, []⟩ ∧ s = st ∧ ¬(b ≤ a ∧ a ≤ c)) := by
  refine Vc.b_def rfl ?_
  unfold m_validate_number
  repeat' (first | array_mem_dec | fail)
  refine Vc.ite_nd (fun h => ?_) (fun h => ?_)
  · repeat' (first | array_mem_dec | fail)
    exact ⟨rfl, rfl, h⟩
  · repeat' (first | array_mem_dec | fail)
    exact ⟨rfl, rfl, h⟩
theorem Row_barrels_spec {i : Nat} {w v : Val} {st : Store} (h : st[i]? = some (.ins 13 [(29, w), (30, v)])) : WpR (f_Row_barrels [.ref i] st) (fun x s => x = v ∧ s = st) (fun _ _ => False) := by
  refine Vc.b_def rfl ?_
  unfold m_Row_barrels
  repeat' (first | array_mem_dec | fail)
  exact ⟨rfl, rfl⟩
theorem rep_zero (n : Nat) : Ab.repW' n [Val.int 0] = (List.replicate n (0 : Int)).map .int := by
  unfold Ab.repW'
  induction n with
  | zero => rfl
  | succ n ih => rw [List.replicate_succ, List.flatten_cons, ih, List.replicate_succ]; rfl

structure Bar where
  nm : Str
  cap : Int
  roof : Int
  dr : List Int
def Bar.val (b : Bar) : Val := .tup [.str b.nm, .int b.cap, .int b.roof, .tup (b.dr.map .int)]
def Bar.dat (b : Bar) : PyData := .tuple [.str b.nm, .int b.cap, .int b.roof, .tuple (b.dr.map .int)]
theorem Bar.val_eq (b : Bar) : b.val = .tup [.str b.nm, .int b.cap, .int b.roof, .tup (b.dr.map .int)] := rfl
def nameOk (z : Str) : Prop := 1 ≤ z.length ∧ z.length ≤ 8 ∧ ∀ c ∈ z.cps.toList, c ∈ ("abcdefghijklmnopqrstuvwxyz" : Str).cps.toList
structure Bar.Ok (b : Bar) (t : Nat) : Prop where
  nm : nameOk b.nm
  lay : PyData.canLay0 (.str b.nm) = true
  c0 : 0 ≤ b.cap
  c1 : b.cap ≤ 1000000000
  r0 : 0 ≤ b.roof
  r1 : b.roof ≤ 100
  dl : b.dr.length = t
  d01 : ∀ d ∈ b.dr, 0 ≤ d ∧ d ≤ 1000000000
theorem Bar.deep {b : Bar} {t : Nat} (h : b.Ok t) {st : Store} {n : Nat} : Ab.deep st (n + 3) b.val = some b.dat := by
  have e : ∀ i : Int, Ab.deep st (n + 2) (.int i) = some (.int i) := fun i => by rw [Ab.deep]
  have s : Ab.deep st (n + 2) (.str b.nm) = some (.str b.nm) := by rw [Ab.deep, if_pos h.lay]
  unfold Bar.val Bar.dat
  rw [Ab.deep, Ab.mapO, s, Ab.mapO, e, Ab.mapO, e, Ab.mapO, Vc.deep_ints]
  rfl
theorem is_name_spec {z : Str} {st : Store} (h : nameOk z) : WpR (f_is_name [.str z] st) (fun v s => v = .bl true ∧ Keep [] st s) (fun _ _ => False) := by
  obtain ⟨h1, h2, h3⟩ := h
  refine Vc.b_def rfl ?_
  unfold m_is_name
  repeat' (first | array_mem_dec | fail)
  refine Vc.b_ifok (by rw [sizeLine_eq]; omega) ?_
  repeat' (first | array_mem_dec | fail)
  rw [decide_eq_true (by omega)]
  repeat' (first | array_mem_dec | fail)
  refine ⟨z, rfl, ?_⟩
  repeat' (first | array_mem_dec | fail)
  refine Vc.lc_map (fun c => .bl true) (fun _ => trivial) (by rw [Array.length_toList]; show z.length ≤ _; omega) (fun c hc acc => ?_) ?_
  · repeat' (first | array_mem_dec | fail)
    refine ⟨?_, rfl⟩
    rw [decide_eq_true (h3 c hc)]
  repeat' (first | array_mem_dec | fail)
  refine Vc.v_allL (bs := z.cps.toList.map fun _ => true) (by rw [List.map_map]; (first | array_get_dec | fail)) ?_
  refine ⟨?_, by (first | sizeOf_list_dec | fail)⟩
  simp
theorem is_barrel_spec {b : Bar} {t : Nat} {st : Store} (h : b.Ok t) (ht : t ≤ 100000) : WpR (f_is_barrel [b.val, .int t] st) (fun v s => v = .bl true ∧ Keep [] st s) (fun _ _ => False) := by
  refine Vc.b_def rfl ?_
  unfold m_is_barrel Bar.val
  repeat' (first | array_mem_dec | fail)
  refine Vc.via0 (is_name_spec h.nm) fun v s hv => ?_
  obtain ⟨rfl, k1⟩ := hv
  repeat' (first | array_mem_dec | fail)
  try simp only [Bool.not_true, Bool.not_false, -eq_self]
  repeat' (first | array_mem_dec | fail)
  have := h.c0; have := h.c1; have := h.r0; have := h.r1
  rw [decide_eq_true (by omega)]
  try simp only [Bool.not_true, Bool.not_false, -eq_self]
  repeat' (first | array_mem_dec | fail)
  rw [decide_eq_true (by omega)]
  try simp only [Bool.not_true, Bool.not_false, -eq_self]
  repeat' (first | array_mem_dec | fail)
  rw [List.length_map, decide_eq_true (by have := h.dl; omega)]
  repeat' (first | array_mem_dec | fail)
  refine Vc.lc_map (fun c => .bl true) (fun _ => trivial) (by have := h.dl; omega) (fun c hc acc => ?_) ?_
  · repeat' (first | array_mem_dec | fail)
    refine ⟨?_, rfl⟩
    rw [decide_eq_true (h.d01 c hc)]
  repeat' (first | array_mem_dec | fail)
  refine Vc.v_allL (bs := b.dr.map fun _ => true) (by rw [List.map_map]; (first | array_get_dec | fail)) ?_
  refine ⟨?_, by (first | sizeOf_list_dec | fail)⟩
  simp

def RF (rain : List Int) (bars : List Bar) : List (Nat × Val) := [(29, .tup (rain.map .int)), (30, .tup (bars.map Bar.val))]
structure RowOk (rain : List Int) (bars : List Bar) : Prop where
  n0 : 0 < rain.length
  n1 : rain.length ≤ 12
  r01 : ∀ r ∈ rain, 0 ≤ r ∧ r ≤ 1000000
  b0 : 0 < bars.length
  b1 : bars.length ≤ 5
  ok : ∀ b ∈ bars, b.Ok rain.length
  nd : (bars.map Bar.nm).Nodup
theorem take_not_mem {α β : Type} {f : α → β} {xs : List α} {i : Nat} {x : α} (h : (xs.map f).Nodup) (e : xs[i]? = some x) : f x ∉ (xs.take i).map f := fun z => by
  obtain ⟨y, hy, e'⟩ := List.mem_map.mp z
  obtain ⟨j, hj, e2⟩ := List.mem_iff_getElem.mp hy
  rw [List.getElem_take] at e2
  have hj' : j < i ∧ j < xs.length := by simp at hj; omega
  obtain ⟨hi, e3⟩ := List.getElem?_eq_some_iff.mp e
  have hij : i ≠ j := by omega
  refine hij ((List.getElem_inj (i := i) (j := j) (h₀ := by simpa using hi) (h₁ := by simpa using hj'.2) h).mp ?_)
  rw [List.getElem_map, List.getElem_map, e3, e2, e']
theorem Row_init_spec {i : Nat} {rain : List Int} {bars : List Bar} {st : Store} (h : RowOk rain bars) (hi : st[i]? = some (.ins 13 [])) :
    WpR (f_Row_init (.ref i :: .tup (rain.map .int) :: bars.map Bar.val) st) (fun v s => v = .non ∧ s[i]? = some (.ins 13 (RF rain bars)) ∧ Keep [i] st s) (fun _ _ => False) := by
  refine Vc.b_defS (by have := h.b1; simp; omega) ?_
  unfold m_Row_init
  have := h.n0; have := h.n1; have := h.b0; have := h.b1
  simp only [List.take, List.drop, -eq_self]
  repeat' (first | array_mem_dec | fail)
  rw [Vc.enum_map]
  refine Vc.for_l (fun d ρ s => s = st ∧ ∃ a b, ρ = [some (.ref i), some (.tup (rain.map .int)), some (.tup (bars.map Bar.val)), a, b, none, none, none]) (fun _ _ _ _ => trivial) ?_ ?_ ⟨rfl, none, none, rfl⟩
  · rintro d ⟨r, j⟩ rest ρ s e ⟨rfl, a, b, rfl⟩
    obtain ⟨e1, e2, e3, e4⟩ := Vc.idx_split e
    simp only at e1 e2
    repeat' (first | array_mem_dec | fail)
    rw [decide_eq_false (by omega)]
    repeat' (first | array_mem_dec | fail)
    rw [decide_eq_true (h.r01 r (List.mem_of_getElem? e1))]
    try simp only [Bool.not_true, Bool.not_false, -eq_self]
    repeat' (first | array_mem_dec | fail)
    exact ⟨rfl, _, _, rfl⟩
  · rintro ρ s ⟨rfl, a, b, rfl⟩
    repeat' (first | array_mem_dec | fail)
    refine Vc.v_eqTI0 ?_
    repeat' (first | array_mem_dec | fail)
    rw [decide_eq_false (List.ne_nil_of_length_pos (by omega))]
    repeat' (first | array_mem_dec | fail)
    rw [Vc.enum_map]
    refine Vc.for_l (fun d ρ s' => Keep [] s s' ∧ ∃ a b c d, ρ = [some (.ref i), some (.tup (rain.map .int)), some (.tup (bars.map Bar.val)), a, b, c, d, none]) (fun _ _ _ _ => trivial) ?_ ?_ ⟨by (first | sizeOf_list_dec | fail), _, _, _, _, rfl⟩
    · rintro d ⟨r, j⟩ rest ρ s1 e ⟨k1, a, b, c, dd, rfl⟩
      obtain ⟨e1, e2, e3, e4⟩ := Vc.idx_split e
      simp only at e1 e2
      repeat' (first | array_mem_dec | fail)
      rw [Vc.cut_take, ← List.map_take]
      repeat' (first | array_mem_dec | fail)
      refine Vc.lc_map (fun b : Bar => .str b.nm) (fun _ => trivial) (by simp; omega) (fun c hc acc => ?_) ?_
      · unfold Bar.val
        repeat' (first | array_mem_dec | fail)
        exact ⟨rfl, rfl⟩
      repeat' (first | array_mem_dec | fail)
      rw [decide_eq_false (by omega)]
      repeat' (first | array_mem_dec | fail)
      rw [List.length_map]
      refine Vc.via0 (is_barrel_spec (h.ok r (List.mem_of_getElem? e1)) (by omega)) fun v s2 hv => ?_
      obtain ⟨rfl, k2⟩ := hv
      repeat' (first | array_mem_dec | fail)
      try simp only [Bool.not_true, Bool.not_false, -eq_self]
      repeat' (first | array_mem_dec | fail)
      unfold Bar.val
      repeat' (first | array_mem_dec | fail)
      refine Vc.v_inLs (ys := (bars.take j).map Bar.nm) (by rw [List.map_map]; (first | array_get_dec | fail)) ?_
      repeat' (first | array_mem_dec | fail)
      rw [decide_eq_false (take_not_mem h.nd (e2 ▸ e1))]
      repeat' (first | array_mem_dec | fail)
      exact ⟨by (first | sizeOf_list_dec | fail), _, _, _, _, rfl⟩
    · rintro ρ s1 ⟨k1, a, b, c, d, rfl⟩
      repeat' (first | array_mem_dec | fail)
      refine Vc.v_eqT0 (fun b hb => Bar.deep (h.ok b hb)) ?_
      repeat' (first | array_mem_dec | fail)
      rw [decide_eq_false (List.ne_nil_of_length_pos (by omega))]
      repeat' (first | array_mem_dec | fail)
      refine ⟨rfl, by assumption, ?_⟩
      (first | sizeOf_list_dec | fail)
theorem Row_add_spec {i j : Nat} {rain : List Int} {b1 b2 : List Bar} {st : Store} (h : RowOk rain (b1 ++ b2)) (hi : st[i]? = some (.ins 13 (RF rain b1))) (hj : st[j]? = some (.ins 13 (RF rain b2))) :
    WpR (f_Row_add [.ref i, .ref j] st) (fun v s => ∃ k, v = .ref k ∧ s[k]? = some (.ins 13 (RF rain (b1 ++ b2))) ∧ Keep [] st s ∧ st.length ≤ k) (fun _ _ => False) := by
  refine Vc.b_def rfl ?_
  unfold m_Row_add
  have := h.b1
  simp only [List.length_append] at this
  repeat' (first | array_mem_dec | fail)
  refine Vc.v_neTI ?_
  repeat' (first | array_mem_dec | fail)
  rw [← List.map_append]
  repeat' (first | array_mem_dec | fail)
  rw [List.append_nil]
  refine Vc.via0 (Row_init_spec h (by (first | array_get_dec | fail))) fun v s hv => ?_
  obtain ⟨rfl, h1, h2⟩ := hv
  exact ⟨rfl, _, rfl, h1, by (first | sizeOf_list_dec | fail), by (first | sizeOf_list_dec | fail)⟩
theorem names_spec {i : Nat} {rain : List Int} {bars : List Bar} {st : Store} (hb : bars.length ≤ 1000) (h : st[i]? = some (.ins 13 (RF rain bars))) : WpR (f_Row_names [.ref i] st) (fun v s => v = .tup ((bars.map Bar.nm).map .str) ∧ Keep [] st s) (fun _ _ => False) := by
  refine Vc.b_def rfl ?_
  unfold m_Row_names
  repeat' (first | array_mem_dec | fail)
  refine Vc.lc_map (fun b : Bar => .str b.nm) (fun _ => trivial) (by omega) (fun c hc acc => ?_) ?_
  · rw [Bar.val_eq]
    repeat' (first | array_mem_dec | fail)
    exact ⟨rfl, rfl⟩
  repeat' (first | array_mem_dec | fail)
  exact ⟨by rw [List.map_map]; rfl, by (first | sizeOf_list_dec | fail)⟩
theorem idxOf_take {xs : List Str} {n : Str} : ∀ {i : Nat}, xs[i]? = some n → n ∉ xs.take i → xs.idxOf n = i := by
  induction xs with
  | nil => intro i h; simp at h
  | cons x xs ih =>
    intro i h hn
    cases i with
    | zero => simp at h; subst h; simp
    | succ i =>
      simp only [List.take_succ_cons, List.mem_cons, not_or] at hn
      rw [List.idxOf_cons, beq_eq_false_iff_ne.mpr (Ne.symm hn.1), cond_false, ih (by simpa using h) hn.2]
theorem place_spec {i : Nat} {rain : List Int} {bars : List Bar} {n : Str} {st : Store} (hb : bars.length ≤ 1000) (h : st[i]? = some (.ins 13 (RF rain bars))) :
    WpR (f_place_of [.ref i, .str n] st) (fun v s => v = .int ((bars.map Bar.nm).idxOf n : Nat) ∧ n ∈ bars.map Bar.nm ∧ Keep [] st s) (fun x s => x = ⟨2, [(26, .str n)]⟩ ∧ n ∉ bars.map Bar.nm ∧ Keep [] st s) := by
  refine Vc.b_def rfl ?_
  unfold m_place_of
  repeat' (first | array_mem_dec | fail)
  refine Vc.via0 (names_spec hb h) fun v s hv => ?_
  obtain ⟨rfl, k⟩ := hv
  repeat' (first | array_mem_dec | fail)
  rw [Vc.enum_map]
  refine Vc.for_l (fun d ρ s' => s' = s ∧ (∃ a b, ρ = [some (.ref i), some (.str n), a, b]) ∧ n ∉ d.map (·.1)) (fun _ _ _ _ => trivial) ?_ ?_ ⟨rfl, ⟨_, _, rfl⟩, by simp⟩
  · rintro d ⟨z, j⟩ rest ρ s' e ⟨rfl, ⟨a, b, rfl⟩, hn⟩
    obtain ⟨e1, e2, e3, e4⟩ := Vc.idx_split e
    simp only at e1 e2
    repeat' (first | array_mem_dec | fail)
    refine Vc.ite_d (fun q => ?_) (fun q => ?_)
    · repeat' (first | array_mem_dec | fail)
      subst q
      rw [e3] at hn
      exact ⟨by rw [idxOf_take e1 hn, e2], List.mem_of_getElem? e1, k⟩
    · repeat' (first | array_mem_dec | fail)
      refine ⟨rfl, ⟨_, _, rfl⟩, ?_⟩
      simp only [List.map_append, List.map_cons, List.map_nil, List.mem_append, List.mem_singleton]
      exact fun z => z.elim hn fun e => q e.symm
  · rintro ρ s' ⟨rfl, ⟨a, b, rfl⟩, hn⟩
    repeat' (first | array_mem_dec | fail)
    rw [List.zipIdx_map_fst] at hn
    exact ⟨rfl, rfl, hn, k⟩

def r4 (t : Fl.R4) : Val := .tup [.int t.lev, .int t.drawn, .int t.missed, .int t.over]
def cntV : Option Nat → Val
  | none => .non
  | some k => .int k

def SF (s : Fl.Str) : List (Nat × Val) := [(31, .int s.begin), (32, cntV s.count), (33, .int s.lev), (34, .int s.step), (35, .tup (s.inflow.map .int))]
theorem fl_play_snoc {cap : Int} {w dr : Int} : ∀ {d : List (Int × Int)} {L : Int}, Fl.play cap L (d ++ [(w, dr)]) = Fl.play cap L d ++ [Fl.tick cap (Fl.fin cap L d) w dr]
  | [], _ => rfl
  | (x, y) :: r, L => by rw [List.cons_append, Fl.play, Fl.play, Fl.fin, fl_play_snoc, List.cons_append]
theorem fl_fin_snoc {cap : Int} {w dr : Int} : ∀ {d : List (Int × Int)} {L : Int}, Fl.fin cap L (d ++ [(w, dr)]) = (Fl.tick cap (Fl.fin cap L d) w dr).lev
  | [], _ => rfl
  | (x, y) :: r, L => by rw [List.cons_append, Fl.fin, Fl.fin, fl_fin_snoc]

structure FlowAt (fl : Nat) (cap : Int) (draws : List Int) (s : Store) : Prop where
  at_ : ∃ fs, s[fl]? = some (.ins 12 fs) ∧ fs.lookup 36 = some (.int cap) ∧ fs.lookup 37 = some (.tup (draws.map .int))
theorem FlowAt.keep {fl : Nat} {cap : Int} {draws : List Int} {s s' : Store} {S : List Nat} (h : FlowAt fl cap draws s) (k : Keep S s s') (hn : fl ∉ S) : FlowAt fl cap draws s' := by
  obtain ⟨fs, h1, h2⟩ := h.at_
  exact ⟨fs, k.get h1 hn, h2⟩
theorem play_round_spec {fl : Nat} {cap : Int} {draws inflow : List Int} {L : Int} {st : Store} (h : FlowAt fl cap draws st) (hl : inflow.length ≤ 1000) :
    WpR (f_Flow_play_round [.ref fl, .int L, .tup (inflow.map .int)] st) (fun v s => ∃ D, v = .ref D ∧ s[D]? = some (.lst ((Fl.play cap L (inflow.zip draws)).map r4)) ∧ Keep [] st s ∧ st.length ≤ D) (fun _ _ => False) := by
  obtain ⟨fs, h1, h2, h3⟩ := h.at_
  refine Vc.b_def rfl ?_
  unfold m_Flow_play_round
  repeat' (first | array_mem_dec | fail)
  rename_i D s0 hD k0 l0
  rw [Vc.zip_map]
  refine Vc.for_l (fun d ρ s => ∃ (L' : Int) (a b c e f : Option Val), ρ = [some (.ref fl), some (.int L'), some (.tup (inflow.map .int)), some (.ref D), a, b, c, e, f] ∧ s[D]? = some (.lst ((Fl.play cap L d).map r4)) ∧ Keep [D] s0 s ∧ Fl.fin cap L d = L' ∧ d.length ≤ 1000) (fun _ _ _ _ => ⟨trivial, trivial⟩) ?_ ?_ ⟨L, _, _, _, _, _, rfl, hD, by (first | sizeOf_list_dec | fail), rfl, Nat.zero_le _⟩
  · rintro d ⟨w, dr⟩ rest ρ s e ⟨L', a, b, c, e', f, rfl, h4, k4, hL, hd⟩
    have hfD : fl ≠ D := by have := Vc.lt_of h1; omega
    have hlen := congrArg List.length e
    simp only [List.length_append, List.length_cons, List.length_zip] at hlen
    repeat' (first | array_mem_dec | fail)
    refine Vc.v_app h4 (by rw [List.length_map, Fl.play_length]; omega) ?_
    repeat' (first | array_mem_dec | fail)
    rename_i s1 h5 k5
    refine ⟨_, _, _, _, _, _, rfl, ?_, by (first | sizeOf_list_dec | fail), ?_, by simp; omega⟩
    · rw [h5, fl_play_snoc, hL, List.map_append]; rfl
    · rw [fl_fin_snoc, hL]; rfl
  · rintro ρ s ⟨L', a, b, c, e', f, rfl, h4, k4, hL, hd⟩
    repeat' (first | array_mem_dec | fail)
    exact ⟨D, rfl, h4, by (first | sizeOf_list_dec | fail), l0⟩
def FFo (cap : Int) (draws : List Int) (sl : Nat) (o : Option Int) : List (Nat × Val) := (36, .int cap) :: (37, .tup (draws.map .int)) :: (38, .ref sl) :: match o with
  | none => []
  | some t => [(39, .int t)]

structure Flw (fl sl : Nat) (cap : Int) (draws : List Int) (S : List Fl.Str) (rs : List Nat) (s : Store) : Prop where
  at_ : ∃ fs, s[fl]? = some (.ins 12 fs) ∧ fs.lookup 36 = some (.int cap) ∧ fs.lookup 37 = some (.tup (draws.map .int)) ∧ fs.lookup 38 = some (.ref sl) ∧ ∃ o, fs = FFo cap draws sl o
  lst : s[sl]? = some (.lst (rs.map .ref))
  len : rs.length = S.length
  nd : rs.Nodup
  cells : ∀ (i r : Nat) (st : Fl.Str), rs[i]? = some r → S[i]? = some st → s[r]? = some (.ins 11 (SF st))
theorem Flw.flow {fl sl : Nat} {cap : Int} {draws : List Int} {S : List Fl.Str} {rs : List Nat} {s : Store} (h : Flw fl sl cap draws S rs s) : FlowAt fl cap draws s := by
  obtain ⟨fs, h1, h2, h3, _⟩ := h.at_
  exact ⟨fs, h1, h2, h3⟩
theorem Flw.keep {fl sl : Nat} {cap : Int} {draws : List Int} {S : List Fl.Str} {rs : List Nat} {s s' : Store} {T : List Nat} (h : Flw fl sl cap draws S rs s) (k : Keep T s s') (h1 : fl ∉ T) (h2 : sl ∉ T) (h3 : ∀ r ∈ rs, r ∉ T) : Flw fl sl cap draws S rs s' := by
  obtain ⟨fs, e1, e2⟩ := h.at_
  exact ⟨⟨fs, k.get e1 h1, e2⟩, k.get h.lst h2, h.len, h.nd, fun i r st hr hs => k.get (h.cells i r st hr hs) (h3 r (List.mem_of_getElem? hr))⟩
theorem Flw.keep0 {fl sl : Nat} {cap : Int} {draws : List Int} {S : List Fl.Str} {rs : List Nat} {s s' : Store} (h : Flw fl sl cap draws S rs s) (k : Keep [] s s') : Flw fl sl cap draws S rs s' := h.keep k (by simp) (by simp) (fun _ _ => by simp)
theorem play_spec {fl r : Nat} {cap : Int} {draws : List Int} {x : Fl.Str} {st : Store} (h : FlowAt fl cap draws st) (hx : st[r]? = some (.ins 11 (SF x))) (hl : x.inflow.length ≤ 1000) :
    WpR (f_Flow_play [.ref fl, .ref r] st) (fun v s => ∃ D, v = .ref D ∧ s[D]? = some (.lst ((x.play cap draws).map r4)) ∧ Keep [] st s ∧ st.length ≤ D) (fun _ _ => False) := by
  obtain ⟨fs, h1, h2, h3⟩ := h.at_
  refine Vc.b_def rfl ?_
  unfold m_Flow_play
  repeat' (first | array_mem_dec | fail)
  exact play_round_spec h hl
theorem alike_spec' {fl : Nat} {cap : Int} {draws inflow : List Int} {L t : Int} {st : Store} (h : FlowAt fl cap draws st) (hl : inflow.length ≤ 1000) (ht : t ≠ 0) (hb : -(2 ^ 64) < t ∧ t < 2 ^ 64) :
    WpR (f_Flow_alike [.ref fl, .int L, .tup (inflow.map .int), .int t] st) (fun v s => v = .int (Fl.alike cap L t (inflow.zip draws)) ∧ Keep [] st s) (fun _ _ => False) := by
  obtain ⟨fs, h1, h2, h3⟩ := h.at_
  refine Vc.b_def rfl ?_
  unfold m_Flow_alike
  repeat' (first | array_mem_dec | fail)
  rw [Vc.zip_map]
  refine Vc.for_l (fun d ρ s => s = st ∧ ∃ (rest : List (Int × Int)) (p q n : Int) (a b : Option Val), inflow.zip draws = d ++ rest ∧ ρ = [some (.ref fl), some (.int L), some (.tup (inflow.map .int)), some (.int t), some (.int p), some (.int q), some (.int n), a, b] ∧ Fl.pkF 0 0 (inflow.zip draws) = Fl.pkF p n rest ∧ Fl.trF 0 0 (inflow.zip draws) = Fl.trF q n rest) (fun _ _ _ _ => ⟨trivial, trivial⟩) ?_ ?_ ⟨rfl, _, _, _, _, _, _, rfl, rfl, rfl, rfl⟩
  · rintro d ⟨w, dr⟩ rest ρ s e ⟨rfl, rest', p, q, n, a, b, e', rfl, h4, h5⟩
    have er : rest' = (w, dr) :: rest := List.append_cancel_left (e'.symm.trans e)
    subst er
    repeat' (first | array_mem_dec | fail)
    refine ⟨rfl, rest, _, _, _, _, _, by rw [e]; simp, rfl, ?_, ?_⟩
    · rw [h4, Fl.pkF, Int.add_sub_assoc]
    · rw [h5, Fl.trF, Int.add_sub_assoc]
  · rintro ρ s ⟨rfl, rest', p, q, n, a, b, e', rfl, h4, h5⟩
    have er : rest' = [] := by simpa using e'
    subst er
    rw [Fl.pkF] at h4; rw [Fl.trF] at h5
    repeat' (first | array_mem_dec | fail)
    refine Vc.ite_d (fun g => ?_) (fun g => ?_)
    · repeat' (first | array_mem_dec | fail)
      exact ⟨by unfold Fl.alike; rw [if_pos g, h4], by (first | sizeOf_list_dec | fail)⟩
    · repeat' (first | array_mem_dec | fail)
      exact ⟨by unfold Fl.alike; rw [if_neg g, h5], by (first | sizeOf_list_dec | fail)⟩
theorem str_init_spec {r : Nat} {x : Fl.Str} {st : Store} (h : st[r]? = some (.ins 11 [])) :
    WpR (f_Stretch_init [.ref r, .int x.begin, cntV x.count, .int x.lev, .int x.step, .tup (x.inflow.map .int)] st) (fun v s => v = .non ∧ s[r]? = some (.ins 11 (SF x)) ∧ Keep [r] st s) (fun _ _ => False) := by
  refine Vc.b_def rfl ?_
  unfold m_Stretch_init
  repeat' (first | array_mem_dec | fail)
  exact ⟨rfl, by assumption, by (first | sizeOf_list_dec | fail)⟩
noncomputable def t_ext : MS := (Se.sSeq (Se.sDrop (Se.mBM "list" Ab.vAppend (Se.mFld [12] 38 (Se.mVar 0)) (Se.aCons (Se.mApp (Se.vMake 11 f_Stretch_init) (Se.aCons (Se.mVar 1) (Se.aCons (Se.mVar 8) (Se.aCons (Se.mVar 3) (Se.aCons (Se.mVar 7) (Se.aCons (Se.mVar 4) (Se.aNil))))))) Se.aNil))) (Se.sSeq (Se.sIf (Se.mTest (Se.mBin Ab.vIsN (Se.mVar 8) (Se.mC .non))) (Se.sRet (Se.mTup (Se.aCons (Se.mC .non) (Se.aCons (Se.mVar 3) (Se.aNil))))) (Se.sNext)) (Se.sSeq (Se.sPar 1 3 (Se.aCons (Se.mBin Ab.vAdd (Se.mVar 1) (Se.mVar 8)) (Se.aCons (Se.mBin Ab.vAdd (Se.mVar 3) (Se.mBin Ab.vMul (Se.mVar 8) (Se.mVar 7))) (Se.aNil)))) (Se.sIf (Se.mTest (Se.mBin Ab.vNotN (Se.mVar 5) (Se.mC .non))) (Se.sAug 5 Ab.vISub (Se.mVar 8)) (Se.sNext)))))

theorem any_dirty {cap L : Int} {x : List (Int × Int)} (hc : 0 ≤ cap) (hp : Fl.Pos x) (h0 : 0 ≤ L) (h1 : L ≤ cap) : (((Fl.play cap L x).map fun t => decide (0 < t.missed) || decide (0 < t.over)).any id = true) ↔ ¬Fl.clean cap L x := by
  rw [List.any_map, List.any_eq_true]
  constructor
  · rintro ⟨t, ht, h⟩ hn
    have z := hn t ht
    simp only [Function.comp, id, Bool.or_eq_true, decide_eq_true_eq] at h
    omega
  · intro hn
    rcases Fl.not_clean hc hp h0 h1 hn with ⟨t, ht, h⟩ | ⟨t, ht, h⟩
    · exact ⟨t, ht, by simp [h]⟩
    · exact ⟨t, ht, by simp [h]⟩
theorem play_last {cap : Int} {x : List (Int × Int)} {L : Int} (h : x ≠ []) : ∃ t, (Fl.play cap L x)[(Fl.play cap L x).length - 1]? = some t ∧ t.lev = Fl.fin cap L x := by
  obtain ⟨d, ⟨w, dr⟩, rfl⟩ : ∃ d p, x = d ++ [p] := ⟨x.dropLast, x.getLast h, (List.dropLast_concat_getLast h).symm⟩
  rw [fl_play_snoc, fl_fin_snoc]
  exact ⟨_, by simp, rfl⟩
theorem Flw.snoc {fl sl r : Nat} {cap : Int} {draws : List Int} {S : List Fl.Str} {rs : List Nat} {x : Fl.Str} {s s' : Store} (W : Flw fl sl cap draws S rs s) (k : Keep [sl] s s') (h1 : s'[sl]? = some (.lst ((rs ++ [r]).map .ref))) (h2 : s'[r]? = some (.ins 11 (SF x))) (hf : fl ≠ sl) (hr : ∀ q ∈ rs, q ≠ sl) (hnew : s.length ≤ r) : Flw fl sl cap draws (S ++ [x]) (rs ++ [r]) s' := by
  obtain ⟨fs, e1, e2⟩ := W.at_
  refine ⟨⟨fs, k.get e1 (by simpa using hf), e2⟩, h1, by simp [W.len], ?_, fun i q y hq hy => ?_⟩
  · refine List.nodup_append.mpr ⟨W.nd, by simp, fun a ha b hb e => ?_⟩
    rw [List.mem_singleton.mp hb] at e
    subst e
    obtain ⟨i, hi, e⟩ := List.mem_iff_getElem.mp ha
    have hS : i < S.length := by have := W.len; omega
    have := Vc.lt_of (W.cells i _ S[i] (List.getElem?_eq_getElem hi) (List.getElem?_eq_getElem hS))
    omega
  have hl := W.len
  by_cases hi : i < rs.length
  · rw [List.getElem?_append_left hi] at hq
    rw [List.getElem?_append_left (by omega)] at hy
    exact k.get (W.cells i q y hq hy) (by simpa using hr q (List.mem_of_getElem? hq))
  · rw [List.getElem?_append_right (by omega)] at hq
    rw [List.getElem?_append_right (by omega)] at hy
    have : i - rs.length = 0 := by
      by_cases z : i - rs.length = 0
      · exact z
      · rw [List.getElem?_eq_none (by simp; omega)] at hq; cases hq
    rw [this] at hq
    rw [show i - S.length = 0 by omega] at hy
    cases hq; cases hy
    exact h2
theorem Flw.ne {fl sl : Nat} {cap : Int} {draws : List Int} {S : List Fl.Str} {rs : List Nat} {s : Store} (W : Flw fl sl cap draws S rs s) : ∀ q ∈ rs, q ≠ sl ∧ q ≠ fl := fun q hq => by
  obtain ⟨i, hi, e⟩ := List.mem_iff_getElem.mp hq
  have hS : i < S.length := by have := W.len; omega
  have z := W.cells i q S[i] (by rw [List.getElem?_eq_getElem hi, e]) (List.getElem?_eq_getElem hS)
  obtain ⟨fs, e1, _⟩ := W.at_
  refine ⟨fun h => ?_, fun h => ?_⟩
  · subst h; rw [W.lst] at z; cases z
  · subst h; rw [e1] at z; cases z
theorem ext_tail {fl sl : Nat} {cap : Int} {draws : List Int} {S : List Fl.Str} {rs : List Nat} {x : Fl.Str} {c left : Option Nat} {a6 a9 : Option Val} {st : Store} {n : Slots → Store → Prop} {r : Val → Store → Prop} {k l : Slots → Store → Prop} {X : Exc → Store → Prop}
    (W : Flw fl sl cap draws S rs st) (hsl : sl ≠ fl) (hS : S.length ≤ 6000) (hstep : -(2 ^ 64) < x.step ∧ x.step < 2 ^ 64)
    (hr : x.count = none → ∀ s q, Flw fl sl cap draws (S ++ [x]) (rs ++ [q]) s → Keep [sl] st s → st.length ≤ q → r (.tup [.non, .int x.lev]) s)
    (hn : ∀ j, x.count = some j → ∀ s q, Flw fl sl cap draws (S ++ [x]) (rs ++ [q]) s → Keep [sl] st s → st.length ≤ q → n [some (.ref fl), some (.int ((x.begin + j : Nat) : Int)), some (cntV c), some (.int (x.lev + (j : Int) * x.step)), some (.tup (x.inflow.map .int)), some (cntV (left.map (· - j))), a6, some (.int x.step), some (.int j), a9] s)
    (hj : ∀ j m, x.count = some j → left = some m → j ≤ m) :
    WpO (t_ext [some (.ref fl), some (.int x.begin), some (cntV c), some (.int x.lev), some (.tup (x.inflow.map .int)), some (cntV left), a6, some (.int x.step), some (cntV x.count), a9] st) ⟨n, r, k, l, X⟩ := by
  obtain ⟨fs, h1, h2, h3, h4, _⟩ := W.at_
  have h5 := W.lst
  have hlen := W.len
  have hne := W.ne
  unfold t_ext
  repeat' (first | array_mem_dec | fail)
  refine Vc.via0 (str_init_spec (x := x) (by (first | array_get_dec | fail))) fun v s hv => ?_
  obtain ⟨rfl, g1, k1⟩ := hv
  refine ⟨rfl, ?_⟩
  repeat' (first | array_mem_dec | fail)
  rename_i q s0 _ k0 l0 s2 g2 k2
  have W2 : Flw fl sl cap draws (S ++ [x]) (rs ++ [q]) s2 := by
    refine W.snoc (r := q) (by (first | sizeOf_list_dec | fail)) (by rw [g2, List.map_append]; rfl) ?_ (Ne.symm hsl) (fun z hz => (hne z hz).1) l0
    have : q ≠ sl := by have := Vc.lt_of h5; omega
    exact k2.get g1 (by simpa using this)
  have kk : Keep [sl] st s2 := by (first | sizeOf_list_dec | fail)
  cases hc : x.count with
  | none =>
    simp only [cntV, -eq_self]
    repeat' (first | array_mem_dec | fail)
    exact hr hc s2 q W2 kk l0
  | some j =>
    have z := hn j hc s2 q W2 kk l0
    simp only [cntV, -eq_self]
    repeat' (first | array_mem_dec | fail)
    cases hlf : left with
    | none =>
      rw [hlf] at z
      simp only [cntV, Option.map, -eq_self] at z ⊢
      repeat' (first | array_mem_dec | fail)
      exact z
    | some m =>
      rw [hlf] at z
      have hjm := hj j m hc hlf
      simp only [cntV, Option.map, -eq_self] at z ⊢
      repeat' (first | array_mem_dec | fail)
      rw [show (m : Int) - (j : Int) = ((m - j : Nat) : Int) by omega]
      exact z
theorem atI_last1 {α : Type} {xs : List α} {t : α} (h : xs[xs.length - 1]? = some t) : L2.atI xs (-1) = some t := by
  have hl := (List.getElem?_eq_some_iff.mp h).1
  unfold L2.atI L2.ixN
  rw [if_neg (by decide), if_pos (by omega), Option.bind_some, show (-1 + (xs.length : Int)).toNat = xs.length - 1 by omega, h]
def ExtR (fl sl : Nat) (cap : Int) (draws : List Int) (I : Nat → List Int) (S : List Fl.Str) (rs : List Nat) (b : Nat) (c : Option Nat) (st : Store) (v : Val) (s : Store) : Prop :=
  ∃ S' rs' z, v = .tup [cntV (c.map (b + ·)), .int z] ∧ (∀ k, c = some k → z = Fl.Lv cap draws I (b + k)) ∧ Flw fl sl cap draws (S ++ S') (rs ++ rs') s ∧ Fl.Chain 0 (S ++ S') (c.map (b + ·)) ∧ (∀ s ∈ S ++ S', Fl.Good cap draws I s) ∧ S' ≠ [] ∧ S'.length ≤ 4 ∧ Keep [sl] st s ∧ ∀ r ∈ rs', st.length ≤ r
def ExtI (fl sl : Nat) (cap : Int) (draws : List Int) (I : Nat → List Int) (S : List Fl.Str) (rs : List Nat) (b : Nat) (c : Option Nat) (inf : List Int) (st : Store) (m : Nat) (ρ : Slots) (s : Store) : Prop :=
  ∃ S' rs' b' left a6 a7 a8 a9, ρ = [some (.ref fl), some (.int ((b' : Nat) : Int)), some (cntV c), some (.int (Fl.Lv cap draws I b')), some (.tup (inf.map .int)), some (cntV left), a6, a7, a8, a9] ∧ Flw fl sl cap draws (S ++ S') (rs ++ rs') s ∧ Fl.Chain 0 (S ++ S') (some b') ∧ (∀ s ∈ S ++ S', Fl.Good cap draws I s) ∧ Keep [sl] st s ∧ (∀ r ∈ rs', st.length ≤ r) ∧ left.map (b' + ·) = c.map (b + ·) ∧ b ≤ b' ∧
      (left = some 0 ∨ ∃ k, m = k + 1 ∧ Fl.Rk cap (inf.zip draws) k (Fl.Lv cap draws I b')) ∧ S'.length + m ≤ 4 ∧ (left = some 0 → S' ≠ [])

theorem ext_more {fl sl : Nat} {cap : Int} {draws : List Int} {I : Nat → List Int} {S S' : List Fl.Str} {rs rs' : List Nat} {b b' : Nat} {c left : Option Nat} {inf : List Int} {st s1 : Store} {x : Fl.Str} {a6 a9 : Option Val} {kk : Nat} {k' l' : Slots → Store → Prop} {X : Exc → Store → Prop}
    (W : Flw fl sl cap draws (S ++ S') (rs ++ rs') s1) (hsl : sl ≠ fl) (hS : (S ++ S').length ≤ 6000) (hstep : -(2 ^ 64) < x.step ∧ x.step < 2 ^ 64)
    (hb : x.begin = b') (hlev : x.lev = Fl.Lv cap draws I b') (hinf : x.inflow = inf) (hg : Fl.Good cap draws I x) (hc : Fl.Chain 0 (S ++ S') (some b')) (hgs : ∀ s ∈ S ++ S', Fl.Good cap draws I s)
    (kp : Keep [sl] st s1) (hrs : ∀ r ∈ rs', st.length ≤ r) (hlf : left.map (b' + ·) = c.map (b + ·)) (hbb : b ≤ b') (hm : S'.length + (kk + 1) ≤ 4)
    (h0 : x.count = none → left = none) (h1 : ∀ j, x.count = some j → 0 < j ∧ (∀ m, left = some m → j ≤ m) ∧ Fl.Lv cap draws I (b' + j) = x.lev + (j : Int) * x.step ∧ (left.map (· - j) = some 0 ∨ ∃ q, q < kk ∧ Fl.Rk cap (inf.zip draws) q (Fl.Lv cap draws I (b' + j)))) :
    WpO (t_ext [some (.ref fl), some (.int ((b' : Nat) : Int)), some (cntV c), some (.int (Fl.Lv cap draws I b')), some (.tup (inf.map .int)), some (cntV left), a6, some (.int x.step), some (cntV x.count), a9] s1)
      ⟨fun ρ s => ∃ j, j < kk + 1 ∧ ExtI fl sl cap draws I S rs b c inf st j ρ s, ExtR fl sl cap draws I S rs b c st, k', l', X⟩ := by
  subst hinf
  rw [← hlev, ← hb]
  have ch : Fl.Chain 0 (S ++ S' ++ [x]) (x.count.map (b' + ·)) := hc.snoc hb (fun j hj => (h1 j hj).1)
  have gd : ∀ s ∈ S ++ S' ++ [x], Fl.Good cap draws I s := fun z hz => by
    rcases List.mem_append.mp hz with hz | hz
    · exact hgs z hz
    · rw [List.mem_singleton.mp hz]; exact hg
  have nr : ∀ q : Nat, s1.length ≤ q → ∀ r ∈ rs' ++ [q], st.length ≤ r := fun q hq r hr => by
    rcases List.mem_append.mp hr with hr | hr
    · exact hrs r hr
    · rw [List.mem_singleton.mp hr]; have := kp.1; omega
  refine ext_tail W hsl hS hstep (fun hn s q W2 k2 l2 => ?_) (fun j hj s q W2 k2 l2 => ?_) (fun j m hj hm => (h1 j hj).2.1 m hm)
  · rw [hn] at ch
    have hl := h0 hn
    rw [hl] at hlf
    cases hcc : c with
    | some k => rw [hcc] at hlf; cases hlf
    | none =>
      refine ⟨S' ++ [x], rs' ++ [q], x.lev, rfl, (fun k hk => by cases hk), ?_, ?_, ?_, by simp, by simp; omega, ?_, nr q l2⟩
      · rw [← List.append_assoc, ← List.append_assoc]; exact W2
      · rw [← List.append_assoc]; exact ch
      · rw [← List.append_assoc]; exact gd
      · clear hcc; (first | sizeOf_list_dec | fail)
  · rw [hj] at ch
    obtain ⟨j0, hle, hLv, hnext⟩ := h1 j hj
    have hlf2 : (left.map (· - j)).map (b' + j + ·) = c.map (b + ·) := by
      rw [← hlf]
      cases hl : left with
      | none => rfl
      | some m =>
        have := hle m hl
        show some (b' + j + (m - j)) = some (b' + m)
        congr 1; omega
    rw [← hLv, hb]
    have mk : ∀ q', (left.map (· - j) = some 0 ∨ ∃ k, q' = k + 1 ∧ Fl.Rk cap (x.inflow.zip draws) k (Fl.Lv cap draws I (b' + j))) → q' < kk + 1 → ∃ jj, jj < kk + 1 ∧ ExtI fl sl cap draws I S rs b c x.inflow st jj [some (.ref fl), some (.int ((b' + j : Nat) : Int)), some (cntV c), some (.int (Fl.Lv cap draws I (b' + j))), some (.tup (x.inflow.map .int)), some (cntV (left.map (· - j))), a6, some (.int x.step), some (.int j), a9] s := fun q' hq' hlt =>
      ⟨q', hlt, S' ++ [x], rs' ++ [q], b' + j, left.map (· - j), _, _, _, _, rfl, by rw [← List.append_assoc, ← List.append_assoc]; exact W2, by rw [← List.append_assoc]; exact ch, by rw [← List.append_assoc]; exact gd, by (first | sizeOf_list_dec | fail), nr q l2, hlf2, by omega, hq', by simp; omega, fun _ => by simp⟩
    rcases hnext with hz | ⟨q', hq', hR⟩
    · exact mk 0 (.inl hz) (by omega)
    · exact mk (q' + 1) (.inr ⟨q', rfl, hR⟩) (by omega)
theorem extend_spec {fl sl : Nat} {cap : Int} {draws : List Int} {I : Nat → List Int} {S : List Fl.Str} {rs : List Nat} {b : Nat} {c : Option Nat} {inf : List Int} {st : Store}
    (W : Flw fl sl cap draws S rs st) (hsl : sl ≠ fl) (F : Fl.Fit cap draws I) (hcap : cap ≤ 1000000000) (hd0 : 0 < draws.length) (hd1 : draws.length ≤ 1000)
    (hc : Fl.Chain 0 S (some b)) (hg : ∀ s ∈ S, Fl.Good cap draws I s) (hl : inf.length = draws.length) (hI : ∀ n, Fl.Within n b c → I n = inf) (hc0 : c ≠ some 0) (hS : S.length ≤ 5000) :
    WpR (f_Flow_extend [.ref fl, .int b, cntV c, .int (Fl.Lv cap draws I b), .tup (inf.map .int)] st)
      (ExtR fl sl cap draws I S rs b c st) (fun _ _ => False) := by
  refine Vc.b_def rfl ?_
  unfold m_Flow_extend
  show WpO (Se.sSeq _ (Se.sSeq (Se.sWhile _ (Se.sSeq _ (Se.sSeq _ (Se.sSeq _ t_ext)))) _) _ _) _
  repeat' (first | array_mem_dec | fail)
  have hx : ∀ n, Fl.Within n b c → (I n).zip draws = inf.zip draws := fun n hn => by rw [hI n hn]
  have hIb : I b = inf := hI b ⟨Nat.le_refl _, fun k hk => by
    have : k ≠ 0 := fun z => hc0 (by rw [hk, z])
    omega⟩
  have hp : Fl.Pos (inf.zip draws) := by rw [← hIb]; exact F.pos b
  have hxne : inf.zip draws ≠ [] := by
    intro z
    have := congrArg List.length z
    rw [List.length_zip, List.length_nil] at this; omega
  refine Vc.b_while (ExtI fl sl cap draws I S rs b c inf st) ?_ (m := 4)
    ⟨[], [], b, c, _, _, _, _, rfl, by simpa using W, by simpa using hc, by simpa using hg, by (first | sizeOf_list_dec | fail), (fun _ z => by cases z), rfl, Nat.le_refl _, .inr ⟨3, rfl, trivial⟩, by simp, fun z => absurd z hc0⟩
  rintro m ρ s ⟨S', rs', b', left, a6, a7, a8, a9, rfl, W', hc', hg', kk, hrs, hlf, hb', hrk, hm, hne⟩
  have hwith : left ≠ some 0 → ∀ n, Fl.Within n b' left → Fl.Within n b c := fun h0 n hn => by
    refine ⟨by have := hn.1; omega, fun k hk => ?_⟩
    cases hl2 : left with
    | none => rw [hl2, hk] at hlf; cases hlf
    | some j =>
      rw [hl2, hk] at hlf
      have e : b' + j = b + k := Option.some.inj hlf
      have := hn.2 j hl2
      omega
  have tst : ∀ (QB : Bool → Store → Prop), QB (decide (left ≠ some 0)) s → WpR (Se.tOrM (Se.mTest (Se.mBin Ab.vIsN (Se.mVar 5) (Se.mC .non))) (Se.mTest (Se.mBin Ab.vGt (Se.mVar 5) (Se.mC (.int 0)))) [some (.ref fl), some (.int ((b' : Nat) : Int)), some (cntV c), some (.int (Fl.Lv cap draws I b')), some (.tup (inf.map .int)), some (cntV left), a6, a7, a8, a9] s) QB (fun _ _ => False) := by
    intro QB hQ
    cases left with
    | none =>
      simp only [cntV, -eq_self]
      repeat' (first | array_mem_dec | fail)
      simpa using hQ
    | some j =>
      simp only [cntV, -eq_self]
      repeat' (first | array_mem_dec | fail)
      have : decide ((0 : Int) < (j : Nat)) = decide (some j ≠ some 0) := by
        by_cases q : j = 0
        · subst q; rfl
        · rw [decide_eq_true (by omega), decide_eq_true (by simpa using q)]
      rw [this]; exact hQ
  refine tst _ ?_
  by_cases h0 : left = some 0
  · rw [decide_eq_false (by simpa using h0)]
    repeat' (first | array_mem_dec | fail)
    subst h0
    cases hcc : c with
    | none => rw [hcc] at hlf; cases hlf
    | some k =>
      rw [hcc] at hlf
      have e : b' + 0 = b + k := Option.some.inj hlf
      have e' : b' = b + k := e
      subst e'
      refine ⟨S', rs', _, rfl, fun k' hk' => by cases hk'; rfl, W', hc', hg', hne rfl, by omega, kk, hrs⟩
  · rw [decide_eq_true (by simpa using h0)]
    obtain ⟨k, rfl, hrk'⟩ := hrk.resolve_left h0
    clear hrk
    have hIw := hwith h0
    have hWb : Fl.Within b' b' left := ⟨Nat.le_refl _, fun j hj => by
      have : j ≠ 0 := fun z => h0 (by rw [hj, z])
      omega⟩
    have hIb' : I b' = inf := hI b' (hIw b' hWb)
    have rng := Fl.Lv_range F b'
    have rng2 := Fl.fin_range F.c0 hp rng.1 rng.2
    have hSl : (S ++ S').length ≤ 6000 := by rw [List.length_append]; omega
    obtain ⟨tl, htl, hfin⟩ := play_last (cap := cap) (L := Fl.Lv cap draws I b') hxne
    have hne' := W'.ne
    have hat := W'.at_
    obtain ⟨fs, f1, f2, f3, f4, _⟩ := hat
    repeat' (first | array_mem_dec | fail)
    refine Vc.via0 (play_round_spec W'.flow (by omega)) fun v s1 hv => ?_
    obtain ⟨D, rfl, hD, k1, l1⟩ := hv
    have W1 := W'.keep0 k1
    repeat' (first | array_mem_dec | fail)
    refine Vc.v_ixL hD (atI_last1 (by rw [List.length_map, List.getElem?_map, htl]; rfl)) ?_
    unfold r4
    repeat' (first | array_mem_dec | fail)
    rw [hfin]
    generalize hst : Fl.fin cap (Fl.Lv cap draws I b') (inf.zip draws) - Fl.Lv cap draws I b' = step at *
    have NFS : True := trivial
    have hkm : S'.length + (k + 1) ≤ 4 := hm
    refine Vc.ite_d (fun hz => ?_) (fun hz => ?_)
    · with_reducible apply Vc.b_set
      with_reducible apply Vc.b_var
      · exact rfl
      repeat (first | with_reducible apply Vc.nf4 | with_reducible apply Vc.nf1 | with_reducible apply Vc.nf0)
      have hst0 : Fl.fin cap (Fl.Lv cap draws I b') (inf.zip draws) = Fl.Lv cap draws I b' := by omega
      obtain ⟨g1, g2⟩ := Fl.good_still F hl (fun n hn => hI n (hIw n hn)) hst0
      subst hz
      refine ext_more (x := ⟨b', left, Fl.Lv cap draws I b', 0, inf⟩) W1 hsl hSl (by show -(2 ^ 64) < (0 : Int) ∧ (0 : Int) < 2 ^ 64; decide) rfl rfl rfl g1 hc' hg' (by (first | sizeOf_list_dec | fail)) hrs hlf hb' hkm (fun z => z) (fun j hj => ⟨?_, fun m hm2 => ?_, ?_, .inl ?_⟩)
      · have : j ≠ 0 := fun z => h0 (by rw [← z]; exact hj)
        omega
      · have hj' : left = some j := hj
        rw [hj'] at hm2; cases hm2; exact Nat.le_refl _
      · rw [g2 j hj]; show _ = Fl.Lv cap draws I b' + _ * 0; rw [Int.mul_zero, Int.add_zero]
      · rw [show left = some j from hj]; simp
    · have hbd : -(2 ^ 64) < step ∧ step < 2 ^ 64 := by omega
      repeat' (first | array_mem_dec | fail)
      refine Vc.lc_map (fun t => .bl (decide (0 < t.missed) || decide (0 < t.over))) (fun acc => Ab.seqAt_lst (by (first | array_get_dec | fail))) (by rw [Fl.play_length, List.length_zip]; omega) (fun t ht acc => ?_) ?_
      · show WpG (Se.gSet 9 (.tup [.int t.lev, .int t.drawn, .int t.missed, .int t.over]) _ _) _
        repeat' (first | array_mem_dec | fail)
        refine Vc.ite_d (fun h1 => ?_) (fun h1 => ?_)
        · exact ⟨by rw [decide_eq_true h1]; rfl, rfl⟩
        · repeat' (first | array_mem_dec | fail)
          exact ⟨by rw [decide_eq_false h1]; rfl, rfl⟩
      repeat' (first | array_mem_dec | fail)
      rename_i B s2 hB k2 l2
      refine Vc.v_anyL (bs := (Fl.play cap (Fl.Lv cap draws I b') (inf.zip draws)).map fun t => decide (0 < t.missed) || decide (0 < t.over)) (by rw [List.map_map]; (first | array_get_dec | fail)) ?_
      repeat' (first | array_mem_dec | fail)
      have W2 := W1.keep0 k2
      by_cases hcl : Fl.clean cap (Fl.Lv cap draws I b') (inf.zip draws)
      · have hany : ((Fl.play cap (Fl.Lv cap draws I b') (inf.zip draws)).map fun t => decide (0 < t.missed) || decide (0 < t.over)).any id = false := by
          rw [Bool.eq_false_iff, ne_eq, any_dirty F.c0 hp rng.1 rng.2]; exact fun z => z hcl
        rw [hany]
        repeat' (first | array_mem_dec | fail)
        refine Vc.via0 (alike_spec' W2.flow (by omega) hz hbd) fun v s3 hv => ?_
        obtain ⟨rfl, k3⟩ := hv
        have W3 := W2.keep0 k3
        have kp3 : Keep [sl] st s3 := by (first | sizeOf_list_dec | fail)
        have hbnd := (Fl.clean_iff F.c0 hp rng.1 rng.2).mp hcl
        have apos := Fl.alike_pos hz hbnd
        obtain ⟨t, ht⟩ : ∃ t : Nat, Fl.alike cap (Fl.Lv cap draws I b') step (inf.zip draws) = (t : Int) := ⟨(Fl.alike cap (Fl.Lv cap draws I b') step (inf.zip draws)).toNat, by omega⟩
        have t0 : 0 < t := by omega
        rw [ht]
        have k2' : 2 ≤ k := by
          have cn := Fl.clean_not hcl
          match k, hrk' with
          | 0, h => exact absurd (show step = 0 by have : Fl.fin cap _ _ = _ := h; omega) hz
          | 1, h =>
            rcases h with h | ⟨_, h⟩ | ⟨_, h⟩
            · exact absurd (show step = 0 by omega) hz
            · exact absurd h cn.1
            · exact absurd h cn.2
          | q + 2, _ => omega
        have rk1 := (Fl.rk_clean F.c0 hp rng.1 rng.2 hcl hst.symm hz t ht.symm).2.2
        have hwt : ∀ j : Nat, (∀ m, left = some m → j ≤ m) → ∀ n, Fl.Within n b' (some j) → I n = inf := fun j hj n hn => hI n (hIw n ⟨hn.1, fun m hm2 => by have := hn.2 j rfl; have := hj m hm2; omega⟩)
        have tail : ∀ (j : Nat) (a8 : Val), a8 = .int j → 0 < j → j ≤ t → (∀ m, left = some m → j ≤ m) → (left.map (· - j) = some 0 ∨ j = t) →
            WpO (t_ext [some (.ref fl), some (.int ((b' : Nat) : Int)), some (cntV c), some (.int (Fl.Lv cap draws I b')), some (.tup (inf.map .int)), some (cntV left), some (.ref D), some (.int step), some a8, a9] s3)
              ⟨fun ρ s => ∃ j, j < k + 1 ∧ ExtI fl sl cap draws I S rs b c inf st j ρ s, ExtR fl sl cap draws I S rs b c st, fun ρ st_2 => WpO (Se.sRet (Se.mTup (Se.aCons (Se.mVar 1) (Se.aCons (Se.mVar 3) Se.aNil))) ρ st_2) { nx := fun x st_3 => ExtR fl sl cap draws I S rs b c st .non st_3, rt := ExtR fl sl cap draws I S rs b c st }, fun ρ s => ∃ j, j < k + 1 ∧ ExtI fl sl cap draws I S rs b c inf st j ρ s, fun _ _ => False⟩ := by
          rintro j _ rfl j0 jt hjm hend
          obtain ⟨g1, g2⟩ := Fl.good_run (t := j) (s := step) hbd F hl (hwt j hjm) hst.symm hz hcl hIb' (by omega)
          refine ext_more (x := ⟨b', some j, Fl.Lv cap draws I b', step, inf⟩) W3 hsl hSl hbd rfl rfl rfl g1 hc' hg' kp3 hrs hlf hb' hkm (fun z => by cases z) (fun j' hj => ?_)
          have hj' : j = j' := Option.some.inj hj
          subst hj'
          refine ⟨j0, hjm, g2, ?_⟩
          rcases hend with h | h
          · exact .inl h
          · refine .inr ⟨1, by omega, ?_⟩
            rw [g2, h]; exact rk1
        cases hlc : left with
        | none =>
          rw [hlc] at tail
          simp only [cntV, -eq_self]
          repeat' (first | array_mem_dec | fail)
          exact tail t _ rfl t0 (Nat.le_refl _) (fun m hm2 => by cases hm2) (.inr rfl)
        | some m0 =>
          rw [hlc] at tail
          have m00 : m0 ≠ 0 := fun z => h0 (by rw [hlc, z])
          simp only [cntV, -eq_self] at tail ⊢
          repeat' (first | array_mem_dec | fail)
          refine Vc.ite_d (fun hlt => ?_) (fun hlt => ?_)
          · repeat' (first | array_mem_dec | fail)
            exact tail m0 _ rfl (by omega) (by omega) (fun m hm2 => by cases hm2; exact Nat.le_refl _) (.inl (by simp))
          · repeat' (first | array_mem_dec | fail)
            exact tail t _ rfl t0 (Nat.le_refl _) (fun m hm2 => by cases hm2; omega) (.inr rfl)
      · have hany := (any_dirty F.c0 hp rng.1 rng.2).mpr hcl
        rw [hany]
        have kp : Keep [sl] st s2 := by (first | sizeOf_list_dec | fail)
        with_reducible apply Vc.ite_t
        with_reducible apply Vc.b_set
        with_reducible apply Vc.b_C
        repeat (first | with_reducible apply Vc.nf4 | with_reducible apply Vc.nf1 | with_reducible apply Vc.nf0)
        obtain ⟨g1, g2⟩ := Fl.good_once (s := step) hbd F hl hIb' hst.symm
        obtain ⟨q, rfl⟩ : ∃ q, k = q + 1 := by
          cases k with
          | zero => exact absurd (show step = 0 by have : Fl.fin cap _ _ = _ := hrk'; omega) hz
          | succ q => exact ⟨q, rfl⟩
        have nr := Fl.rk_dirty F.c0 hp rng.1 rng.2 hrk' hcl
        refine ext_more (x := ⟨b', some 1, Fl.Lv cap draws I b', step, inf⟩) W2 hsl hSl hbd rfl rfl rfl g1 hc' hg' kp hrs hlf hb' hkm (fun z => by cases z) (fun j hj => ?_)
        have hj' : 1 = j := Option.some.inj hj
        subst hj'
        refine ⟨by omega, fun m hm2 => ?_, by show _ = Fl.Lv cap draws I b' + ((1 : Nat) : Int) * step; rw [g2]; omega, .inr ⟨min q 2, by omega, ?_⟩⟩
        · have : m ≠ 0 := fun z => h0 (by rw [hm2, z])
          omega
        · rw [g2, ← hst, show Fl.Lv cap draws I b' + (Fl.fin cap (Fl.Lv cap draws I b') (inf.zip draws) - Fl.Lv cap draws I b') = Fl.fin cap (Fl.Lv cap draws I b') (inf.zip draws) by omega]
          exact nr
def r4D (t : Fl.R4) : PyData := .tuple [.int t.lev, .int t.drawn, .int t.missed, .int t.over]
theorem r4_deep {st : Store} {n : Nat} (t : Fl.R4) : Ab.deep st (n + 2) (r4 t) = some (r4D t) := by
  have e : ∀ i : Int, Ab.deep st (n + 1) (.int i) = some (.int i) := fun i => by rw [Ab.deep]
  unfold r4 r4D
  rw [Ab.deep, Ab.mapO, e, Ab.mapO, e, Ab.mapO, e, Ab.mapO, e]; rfl
theorem r4_eqv : ∀ A B : List Fl.R4, PyData.eqvAll (A.map r4D) (B.map r4D) = decide (A = B)
  | [], [] => rfl
  | [], _ :: _ => rfl
  | _ :: _, [] => rfl
  | x :: xs, y :: ys => by
    rw [List.map_cons, List.map_cons, PyData.eqvAll, r4_eqv xs ys]
    have : PyData.eqv (r4D x) (r4D y) = decide (x = y) := by
      obtain ⟨a, b, c, d⟩ := x
      obtain ⟨a', b', c', d'⟩ := y
      simp only [r4D, PyData.eqv, PyData.eqvAll, Fl.R4.mk.injEq, Bool.decide_and, Bool.and_true]
      rfl
    rw [this]
    simp only [List.cons.injEq, Bool.decide_and]
theorem like_spec {fl sl ra : Nat} {cap : Int} {draws : List Int} {S : List Fl.Str} {rs : List Nat} {a z : Fl.Str} {st : Store} (W : Flw fl sl cap draws S rs st) (ha : st[ra]? = some (.ins 11 (SF a))) (hz : S[S.length - 1]? = some z) (hla : a.inflow.length ≤ 1000) (hlz : z.inflow.length ≤ 1000) :
    WpR (f_Flow_is_like_last [.ref fl, .ref ra] st) (fun v s => v = .bl (decide (a.step = 0 ∧ a.lev = z.lev ∧ a.play cap draws = z.play cap draws)) ∧ Keep [] st s) (fun _ _ => False) := by
  obtain ⟨fs, h1, h2, h3, h4, _⟩ := W.at_
  have h5 := W.lst
  have hlen := W.len
  have hi := (List.getElem?_eq_some_iff.mp hz).1
  obtain ⟨rz, hrz⟩ : ∃ rz, rs[rs.length - 1]? = some rz := ⟨_, List.getElem?_eq_getElem (by omega)⟩
  have hcz := W.cells (rs.length - 1) rz z hrz (by rw [hlen]; exact hz)
  refine Vc.b_def rfl ?_
  unfold m_Flow_is_like_last
  repeat' (first | array_mem_dec | fail)
  refine Vc.v_ixL h5 (atI_last1 (by rw [List.length_map, List.getElem?_map, hrz]; rfl)) ?_
  repeat' (first | array_mem_dec | fail)
  refine Vc.ite_d (fun q1 => ?_) (fun q1 => ?_)
  · repeat' (first | array_mem_dec | fail)
    refine Vc.ite_d (fun q2 => ?_) (fun q2 => ?_)
    · repeat' (first | array_mem_dec | fail)
      refine Vc.via0 (play_spec W.flow ha hla) fun v s1 hv => ?_
      obtain ⟨D, rfl, hD, k1, l1⟩ := hv
      have W1 := W.keep0 k1
      repeat' (first | array_mem_dec | fail)
      refine Vc.via0 (play_spec W1.flow (k1.get hcz (by simp)) hlz) fun v s2 hv => ?_
      obtain ⟨E, rfl, hE, k2, l2⟩ := hv
      refine Vc.v_eqLL (Vc.deep_lst (k2.get hD (by simp)) fun t _ => r4_deep t) (Vc.deep_lst hE fun t _ => r4_deep t) ?_
      refine ⟨?_, k1.trans k2⟩
      show Val.bl (PyData.eqvAll _ _) = _
      rw [r4_eqv]; simp only [q1, q2, true_and]
    · repeat' (first | array_mem_dec | fail)
      exact ⟨by simp only [q2, false_and, and_false, decide_false], by (first | sizeOf_list_dec | fail)⟩
  · repeat' (first | array_mem_dec | fail)
    exact ⟨by simp only [q1, false_and, decide_false], by (first | sizeOf_list_dec | fail)⟩

def outs (cap : Int) (draws : List Int) (S : List Fl.Str) : List (Option Nat × List Int) := S.map fun x => (x.count, (x.play cap draws).map (·.over))
def outV (p : Option Nat × List Int) : Val := .tup [cntV p.1, .tup (p.2.map .int)]
theorem outflow_spec {fl sl : Nat} {cap : Int} {draws : List Int} {S : List Fl.Str} {rs : List Nat} {st : Store} (W : Flw fl sl cap draws S rs st) (hl : ∀ x ∈ S, x.inflow.length ≤ 1000) (hS : S.length ≤ 10000) :
    WpR (f_Flow_outflow [.ref fl] st) (fun v s => ∃ D, v = .ref D ∧ s[D]? = some (.lst ((outs cap draws S).map outV)) ∧ Keep [] st s ∧ st.length ≤ D) (fun _ _ => False) := by
  obtain ⟨fs, h1, h2, h3, h4, _⟩ := W.at_
  have h5 := W.lst
  have hlen := W.len
  refine Vc.b_def rfl ?_
  unfold m_Flow_outflow
  repeat' (first | array_mem_dec | fail)
  refine Vc.lc_new fun D s1 hD k1 hl1 => ?_
  refine Vc.lcY_l (fun d acc s => acc = ((outs cap draws S).take d.length).map outV ∧ Keep [D] s1 s) (fun d acc s hI => ?_) ?_ ?_ ⟨by simp, by (first | sizeOf_list_dec | fail)⟩ hD
  · have : st.length ≤ D := hl1
    exact Ab.seqAt_lst (hI.2.get (k1.get h5 (by simp)) (by have := Vc.lt_of h5; simp; omega))
  · rintro d r rest acc s e ⟨rfl, kk⟩ hs
    obtain ⟨e1, e2, e3⟩ := Vc.map_split e
    have hS2 : S[d.length]? = some S[d.length] := List.getElem?_eq_getElem (by omega)
    have hc := W.cells d.length r _ e1 hS2
    have hx := hl _ (List.mem_of_getElem? hS2)
    generalize hxx : S[d.length] = x at *
    have kk2 : Keep [] st s := Vc.k_seq k1 kk (fun i hi => .inr (by rw [List.mem_singleton.mp hi]; exact hl1))
    have W2 := W.keep0 kk2
    clear kk2
    have g1 := W2.at_
    obtain ⟨fs', g1, g2⟩ := g1
    have hcs : s[r]? = some (.ins 11 (SF x)) := W2.cells d.length r x e1 hS2
    repeat' (first | array_mem_dec | fail)
    refine Vc.via0 (play_spec W2.flow hcs hx) fun v s2 hv => ?_
    obtain ⟨P, rfl, hP, k2, l2⟩ := hv
    repeat' (first | array_mem_dec | fail)
    refine Vc.lc_map (fun t => .int t.over) (fun acc => Ab.seqAt_lst (by (first | array_get_dec | fail))) (by unfold Fl.Str.play; rw [Fl.play_length, List.length_zip]; omega) (fun t ht acc => ?_) ?_
    · unfold r4
      repeat' (first | array_mem_dec | fail)
      exact ⟨rfl, rfl⟩
    repeat' (first | array_mem_dec | fail)
    rename_i O s3 hO k3 l3
    have hs3 : s3[D]? = some (.lst (((outs cap draws S).take d.length).map outV)) := k3.get (k2.get hs (by simp)) (by simp)
    refine ⟨hs3, by rw [List.length_map, List.length_take]; omega, ?_⟩
    intro s4 hs4 k4
    refine ⟨?_, ?_⟩
    · have e4 : (outs cap draws S)[d.length]? = some (x.count, (x.play cap draws).map (·.over)) := by unfold outs; rw [List.getElem?_map, hS2]; rfl
      rw [List.length_append, List.length_singleton, List.take_succ, e4, List.map_append]
      show _ ++ [Val.tup [cntV x.count, .tup _]] = _ ++ [Val.tup [cntV x.count, .tup _]]
      rw [List.map_map]; rfl
    · (first | sizeOf_list_dec | fail)
  · rintro acc s ⟨rfl, kk⟩ hs
    refine ⟨D, rfl, ?_, ?_, hl1⟩
    · rw [hs, hlen, List.take_of_length_le (by unfold outs; simp)]
    · (first | sizeOf_list_dec | fail)
def addL (a b : List Int) : List Int := (a.zip b).map fun p => p.1 + p.2

def Segs (I : Nat → List Int) (rain : List Int) : Nat → List (Option Nat × List Int) → Prop
  | _, [] => False
  | b, (none, f) :: r => r = [] ∧ f.length = rain.length ∧ ∀ n, b ≤ n → I n = addL rain f
  | b, (some k, f) :: r => 0 < k ∧ f.length = rain.length ∧ (∀ n, b ≤ n → n < b + k → I n = addL rain f) ∧ Segs I rain (b + k) r

def Tight (cap : Int) (draws : List Int) (S : List Fl.Str) : Prop := ∀ S0 a z, S = S0 ++ [a, z] → ¬(a.step = 0 ∧ a.lev = z.lev ∧ a.play cap draws = z.play cap draws)
theorem atI_last2 {α : Type} {xs : List α} {t : α} (hl : 2 ≤ xs.length) (h : xs[xs.length - 2]? = some t) : L2.atI xs (-2) = some t := by
  unfold L2.atI L2.ixN
  rw [if_neg (by decide), if_pos (by omega), Option.bind_some, show (-2 + (xs.length : Int)).toNat = xs.length - 2 by omega, h]
theorem two_last {α : Type} : ∀ {S : List α}, 2 ≤ S.length → ∃ S0 a z, S = S0 ++ [a, z] := fun {S} h => by
  refine ⟨S.take (S.length - 2), S[S.length - 2], S[S.length - 1], ?_⟩
  apply List.ext_getElem?
  intro i
  by_cases h1 : i < S.length - 2
  · rw [List.getElem?_append_left (by simp; omega), List.getElem?_take_of_lt h1]
  · rw [List.getElem?_append_right (by simp; omega)]
    simp only [List.length_take]
    by_cases h2 : i = S.length - 2
    · subst h2; simp [Nat.min_eq_left (show S.length - 2 ≤ S.length by omega)]
    · by_cases h3 : i = S.length - 1
      · subst h3; rw [show S.length - 1 - min (S.length - 2) S.length = 1 by omega]; simp
      · rw [List.getElem?_eq_none (by omega), List.getElem?_eq_none (by simp; omega)]
theorem ff_put {cap : Int} {draws : List Int} {sl : Nat} {o : Option Int} {t : Int} : Ab.putM 39 (.int t) (FFo cap draws sl o) = FFo cap draws sl (some t) := by cases o <;> rfl
theorem ff_len {cap : Int} {draws : List Int} {sl : Nat} {o : Option Int} : (FFo cap draws sl o).length < 1000 := by cases o <;> simp [FFo]
theorem FlowInit_spec {fl A : Nat} {cap : Int} {draws rain : List Int} {I : Nat → List Int} {U : List (Option Nat × List Int)} {st : Store}
    (hfl : st[fl]? = some (.ins 12 [])) (hA : st[A]? = some (.lst (U.map outV))) (F : Fl.Fit cap draws I) (hcap : cap ≤ 1000000000) (hd0 : 0 < draws.length) (hd1 : draws.length ≤ 1000) (hr : rain.length = draws.length)
    (hU : Segs I rain 0 U) (hU1 : U.length ≤ 1100) :
    WpR (f_Flow_init [.ref fl, .int cap, .tup (rain.map .int), .tup (draws.map .int), .ref A] st)
      (fun v s => v = .non ∧ ∃ sl S rs, Flw fl sl cap draws S rs s ∧ Fl.Chain 0 S none ∧ (∀ x ∈ S, Fl.Good cap draws I x) ∧ S ≠ [] ∧ S.length ≤ 4 * U.length ∧ Tight cap draws S ∧ (∃ z, S[S.length - 1]? = some z ∧ s[fl]? = some (.ins 12 (FFo cap draws sl (some z.begin)))) ∧ Keep [fl] st s ∧ st.length ≤ sl ∧ ∀ r ∈ rs, st.length ≤ r) (fun _ _ => False) := by
  have hfA : A ≠ fl := fun e => by subst e; rw [hfl] at hA; cases hA
  have hfa := Vc.lt_of hfl
  have hAa := Vc.lt_of hA
  refine Vc.b_def rfl ?_
  unfold m_Flow_init
  repeat' (first | array_mem_dec | fail)
  rename_i s1 g1 k1 s2 g2 k2 sl s3 hsl k3 l3 s4 g4 k4
  have hslf : sl ≠ fl := by have := k1.1; have := k2.1; omega
  have hsl4 : s4[sl]? = some (.lst []) := k4.get hsl (by simpa using hslf)
  have W0 : Flw fl sl cap draws [] [] s4 := ⟨⟨FFo cap draws sl none, g4, rfl, rfl, rfl, none, rfl⟩, hsl4, rfl, List.nodup_nil, fun i r x h => by simp at h⟩
  have hA4 : s4[A]? = some (.lst (U.map outV)) := by (first | array_get_dec | fail)
  have kp4 : Keep [fl] st s4 := by (first | sizeOf_list_dec | fail)
  have l4 : st.length ≤ sl := by have := k1.1; have := k2.1; omega
  clear hsl k1 k2 k3 k4 g1 g2
  refine Vc.for_l (fun d ρ s => ∃ S rs, Flw fl sl cap draws S rs s ∧ (∀ x ∈ S, Fl.Good cap draws I x) ∧ S.length ≤ 4 * d.length ∧ Keep [sl] s4 s ∧ (∀ r ∈ rs, s4.length ≤ r) ∧ ∃ (bv : Val) (lv : Int) (a7 a8 a9 a10 a11 : Option Val), ρ = [some (.ref fl), some (.int cap), some (.tup (rain.map .int)), some (.tup (draws.map .int)), some (.ref A), some bv, some (.int lv), a7, a8, a9, a10, a11] ∧
      ((∃ (b : Nat) (rest : List (Option Nat × List Int)), U = d ++ rest ∧ Fl.Chain 0 S (some b) ∧ Segs I rain b rest ∧ bv = .int b ∧ lv = Fl.Lv cap draws I b) ∨ (d = U ∧ Fl.Chain 0 S none))) (fun d ρ s h => ?_) ?_ ?_
      ⟨[], [], W0, (fun x hx => by cases hx), by simp, by (first | sizeOf_list_dec | fail), (fun r hx => by cases hx), .int 0, 0, _, _, _, _, _, rfl, .inl ⟨0, U, rfl, rfl, hU, rfl, rfl⟩⟩
  · obtain ⟨S, rs, _, _, _, kp, _⟩ := h
    exact Ab.seqAt_lst (kp.get hA4 (by simp; omega))
  · rintro d ⟨cnt, f⟩ rest ρ s e ⟨S, rs, W, hg, hSl, kp, hrs, bv, lv, a7, a8, a9, a10, a11, rfl, hb⟩
    rcases hb with ⟨b, rest', e', hch, hseg, rfl, rfl⟩ | ⟨e', _⟩
    · have er : rest' = (cnt, f) :: rest := List.append_cancel_left (e'.symm.trans e)
      subst er
      have hdU : d.length + (rest.length + 1) = U.length := by rw [e]; simp
      unfold outV
      have hfl' : f.length = rain.length ∧ (∀ n, Fl.Within n b cnt → I n = addL rain f) ∧ cnt ≠ some 0 := by
        cases cnt with
        | none => exact ⟨hseg.2.1, fun n hn => hseg.2.2 n hn.1, by simp⟩
        | some k => exact ⟨hseg.2.1, fun n hn => hseg.2.2.1 n hn.1 (hn.2 k rfl), by have := hseg.1; simp; omega⟩
      repeat' (first | array_mem_dec | fail)
      rw [Vc.zip_map]
      refine Vc.lc_map (fun p : Int × Int => .int (p.1 + p.2)) (fun acc => ⟨trivial, trivial⟩) (by rw [List.length_zip]; omega) (fun p hp acc => ?_) ?_
      · repeat' (first | array_mem_dec | fail)
        exact ⟨rfl, rfl⟩
      repeat' (first | array_mem_dec | fail)
      rename_i T s5 hT k5 l5
      have W5 := W.keep0 k5
      obtain ⟨fs, w1, w2⟩ := W5.at_
      repeat' (first | array_mem_dec | fail)
      rw [show (rain.zip f).map (fun p : Int × Int => Val.int (p.1 + p.2)) = (addL rain f).map .int by unfold addL; rw [List.map_map]; rfl]
      refine Vc.via0 (extend_spec W5 hslf F hcap hd0 hd1 hch hg (by unfold addL; rw [List.length_map, List.length_zip]; omega) hfl'.2.1 hfl'.2.2 (by omega)) fun v s6 hv => ?_
      obtain ⟨S', rs', z, rfl, hz, W6, ch6, g6, ne6, l6, k6, r6⟩ := hv
      repeat' (first | array_mem_dec | fail)
      refine ⟨S ++ S', rs ++ rs', W6, g6, by simp; omega, by (first | sizeOf_list_dec | fail), fun r hr2 => ?_, cntV (cnt.map (b + ·)), z, _, _, _, _, _, rfl, ?_⟩
      · rcases List.mem_append.mp hr2 with hr2 | hr2
        · exact hrs r hr2
        · have := r6 r hr2; have := kp.1; have := k5.1; omega
      · cases hcn : cnt with
        | none =>
          subst hcn
          rw [hseg.1] at e
          exact .inr ⟨e.symm, ch6⟩
        | some k =>
          subst hcn
          exact .inl ⟨b + k, rest, by rw [e]; simp, ch6, hseg.2.2.2, rfl, hz k rfl⟩
    · exfalso
      have := congrArg List.length (e'.trans e)
      simp at this
  · rintro ρ s ⟨S, rs, W, hg, hSl, kp, hrs, bv, lv, a7, a8, a9, a10, a11, rfl, hb⟩
    have hch : Fl.Chain 0 S none := by
      rcases hb with ⟨b, rest', e', _, hseg, _⟩ | ⟨_, h⟩
      · have : rest' = [] := by simpa using e'
        subst this
        exact hseg.elim
      · exact h
    clear hb
    have hSne : S ≠ [] := by intro z; subst z; rw [Fl.Chain] at hch; cases hch
    have hS0 : 0 < S.length := List.length_pos_iff.mpr hSne
    obtain ⟨fs, w1, w2, w3, w4, o, rfl⟩ := W.at_
    have wl := W.lst
    have wlen := W.len
    have wne := W.ne
    obtain ⟨zl, hzl⟩ : ∃ z, S[S.length - 1]? = some z := ⟨_, List.getElem?_eq_getElem (by omega)⟩
    obtain ⟨rz, hrz⟩ : ∃ rz, rs[rs.length - 1]? = some rz := ⟨_, List.getElem?_eq_getElem (by omega)⟩
    have hcz := W.cells _ rz zl hrz (by rw [wlen]; exact hzl)
    repeat' (first | array_mem_dec | fail)
    refine Vc.v_ixL wl (atI_last1 (by rw [List.length_map, List.getElem?_map, hrz]; rfl)) ?_
    repeat' (first | array_mem_dec | fail)
    refine ⟨_, _, _, rfl, w1, by simp, ff_len, ?_⟩
    intro s5 g5 k5
    rw [ff_put] at g5
    have W5 : Flw fl sl cap draws S rs s5 := ⟨⟨_, g5, rfl, rfl, rfl, _, rfl⟩, k5.get wl (by simpa using hslf), wlen, W.nd, fun i r x h1 h2 => k5.get (W.cells i r x h1 h2) (by simpa using (wne r (List.mem_of_getElem? h1)).2)⟩
    have kq : Keep [fl] st s5 := by (first | sizeOf_list_dec | fail)
    have hrs5 : ∀ r ∈ rs, st.length ≤ r := fun r hr2 => by have := hrs r hr2; have := kp4.1; omega
    refine Vc.b_while (fun m ρ s => ρ = [some (.ref fl), some (.int cap), some (.tup (rain.map .int)), some (.tup (draws.map .int)), some (.ref A), some bv, some (.int lv), a7, a8, a9, a10, a11] ∧ ∃ S rs, m = S.length ∧ Flw fl sl cap draws S rs s ∧ Fl.Chain 0 S none ∧ (∀ x ∈ S, Fl.Good cap draws I x) ∧ S ≠ [] ∧ S.length ≤ 4 * U.length ∧ (∃ z, S[S.length - 1]? = some z ∧ s[fl]? = some (.ins 12 (FFo cap draws sl (some z.begin)))) ∧ Keep [fl] st s ∧ ∀ r ∈ rs, st.length ≤ r) ?_ (m := S.length)
      ⟨rfl, S, rs, rfl, W5, hch, hg, hSne, hSl, ⟨zl, hzl, g5⟩, kq, hrs5⟩
    clear W5 kq hrs5 hrs kp W wl wlen wne w1 w2 w3 w4 hcz hrz hzl hg hch hSne hS0 hSl k5 g5
    rintro m ρ s ⟨rfl, S, rs, rfl, W, hch, hg, hSne, hSl, ⟨z, hz, hset⟩, kq, hrs⟩
    have wl := W.lst
    have wlen := W.len
    have wne := W.ne
    obtain ⟨fs, w1, w2, w3, w4, _⟩ := W.at_
    have hin : ∀ x ∈ S, x.inflow.length ≤ 1000 := fun x hx => by rw [(hg x hx).len]; exact hd1
    have done : Tight cap draws S → Val.non = Val.non ∧ ∃ sl S rs, Flw fl sl cap draws S rs s ∧ Fl.Chain 0 S none ∧ (∀ x ∈ S, Fl.Good cap draws I x) ∧ S ≠ [] ∧ S.length ≤ 4 * U.length ∧ Tight cap draws S ∧ (∃ z, S[S.length - 1]? = some z ∧ s[fl]? = some (.ins 12 (FFo cap draws sl (some z.begin)))) ∧ Keep [fl] st s ∧ st.length ≤ sl ∧ ∀ r ∈ rs, st.length ≤ r := fun ht => ⟨rfl, sl, S, rs, W, hch, hg, hSne, hSl, ht, ⟨z, hz, hset⟩, kq, l4, hrs⟩
    repeat' (first | array_mem_dec | fail)
    refine Vc.ite_d (fun q => ?_) (fun q => ?_)
    · have hS2 : 2 ≤ S.length := by rw [List.length_map] at q; omega
      obtain ⟨S0, a, z', rfl⟩ := two_last hS2
      have hz' : z' = z := by rw [List.length_append] at hz; simpa using hz
      subst hz'
      obtain ⟨rs0, ra, rz, rfl⟩ := two_last (show 2 ≤ rs.length by omega)
      have hl0 : rs0.length = S0.length := by simpa using wlen
      have hra : (rs0 ++ [ra, rz])[(rs0 ++ [ra, rz]).length - 2]? = some ra := by simp
      have hca : s[ra]? = some (.ins 11 (SF a)) := W.cells rs0.length ra a (by simp) (by rw [hl0]; simp)
      have hv2 : L2.atI ((rs0 ++ [ra, rz]).map Val.ref) (-2) = some (.ref ra) := atI_last2 (by simp) (by rw [List.length_map, List.getElem?_map, hra]; rfl)
      repeat' (first | array_mem_dec | fail)
      refine Vc.v_ixL wl hv2 ?_
      repeat' (first | array_mem_dec | fail)
      refine Vc.via0 (like_spec W hca hz (hin a (by simp)) (hin z' (by simp))) fun v s6 hv => ?_
      obtain ⟨rfl, k6⟩ := hv
      have W6 := W.keep0 k6
      repeat' (first | array_mem_dec | fail)
      refine Vc.ite_d (fun hq => ?_) (fun hq => ?_)
      · obtain ⟨fs6, x1, x2, x3, x4, o6, rfl⟩ := W6.at_
        have wl6 := W6.lst
        have hca6 := k6.get hca (by simp)
        have nra := wne ra (by simp)
        have nra0 := W6.cells rs0.length ra a (by simp) (by rw [hl0]; simp)
        repeat' (first | array_mem_dec | fail)
        refine Vc.v_ixL wl6 hv2 ?_
        repeat' (first | array_mem_dec | fail)
        refine ⟨_, _, _, rfl, x1, by simp, ff_len, ?_⟩
        intro s7 g7 k7
        rw [ff_put] at g7
        have wl7 := k7.get wl6 (by simpa using hslf)
        have hca7 := k7.get hca6 (by simpa using nra.2)
        repeat' (first | array_mem_dec | fail)
        refine Vc.v_ixL wl7 hv2 ?_
        repeat' (first | array_mem_dec | fail)
        rename_i s8 g8 k8
        have wl8 : s8[sl]? = some (.lst ((rs0 ++ [ra]).map Val.ref ++ [.ref rz])) := by
          have := k8.get wl7 (by simpa using nra.1.symm)
          rw [this]; simp
        have g78 := k8.get g7 (by simpa using nra.2.symm)
        repeat' (first | array_mem_dec | fail)
        refine Vc.v_pop wl8 ?_
        repeat' (first | array_mem_dec | fail)
        rename_i s9 g9 k9
        have cj := Fl.chain_join hch
        have gj := Fl.good_join (hg a (by simp)) (hg z' (by simp)) (Fl.chain_last (S := S0 ++ [a]) (by simpa using hch)) cj.1 hq.1 hq.2.1 hq.2.2
        have g8' : s9[ra]? = some (.ins 11 (SF { a with count := none })) := k9.get g8 (by simpa using nra.1)
        have nd := W6.nd
        refine ⟨(S0 ++ [{ a with count := none }]).length, by simp, rfl, S0 ++ [{ a with count := none }], rs0 ++ [ra], rfl, ⟨⟨_, k9.get g78 (by simpa using hslf.symm), rfl, rfl, rfl, _, rfl⟩, g9, by simp [hl0], ?_, fun i r x h1 h2 => ?_⟩, cj.2, fun x hx => ?_, by simp, by simp at hSl ⊢; omega, ⟨{ a with count := none }, by simp, k9.get g78 (by simpa using hslf.symm)⟩, ?_, fun r hr2 => hrs r ?_⟩
        · rw [show rs0 ++ [ra, rz] = (rs0 ++ [ra]) ++ [rz] by simp] at nd
          exact (List.nodup_append.mp nd).1
        · by_cases hi : i < rs0.length
          · rw [List.getElem?_append_left hi] at h1
            rw [List.getElem?_append_left (by omega)] at h2
            have hc := W6.cells i r x (by rw [List.getElem?_append_left hi]; exact h1) (by rw [List.getElem?_append_left (by omega)]; exact h2)
            have hr0 : r ∈ rs0 := List.mem_of_getElem? h1
            have hne := wne r (by simp [hr0])
            have hra2 : r ≠ ra := (List.nodup_append.mp nd).2.2 r hr0 ra (by simp)
            exact k9.get (k8.get (k7.get hc (by simpa using hne.2)) (by simpa using hra2)) (by simpa using hne.1)
          · have hi1 := (List.getElem?_eq_some_iff.mp h1).1
            have e0 : i = rs0.length := by simp at hi1; omega
            subst e0
            simp at h1
            rw [hl0] at h2
            simp at h2
            subst h1; subst h2
            exact g8'
        · rcases List.mem_append.mp hx with hx | hx
          · exact hg x (by simp [hx])
          · rw [List.mem_singleton.mp hx]; exact gj
        · have hra0 := hrs ra (by simp)
          have kk1 : Keep [fl] st s6 := Vc.k_nil kq k6
          have kk2 : Keep [fl] st s7 := Vc.k_seq kk1 k7 (fun i hi => .inl hi)
          have kk3 : Keep [fl] st s8 := Vc.k_seq kk2 k8 (fun i hi => .inr (by rw [List.mem_singleton.mp hi]; exact hra0))
          exact Vc.k_seq kk3 k9 (fun i hi => .inr (by rw [List.mem_singleton.mp hi]; exact l4))
        · rcases List.mem_append.mp hr2 with hr2 | hr2
          · simp [hr2]
          · rw [List.mem_singleton.mp hr2]; simp
      · repeat' (first | array_mem_dec | fail)
        refine ⟨rfl, sl, _, _, W6, hch, hg, hSne, hSl, fun S1 a1 z1 e => ?_, ⟨z', hz, k6.get hset (by simp)⟩, by (first | sizeOf_list_dec | fail), l4, hrs⟩
        have := List.append_inj' e (by simp)
        obtain ⟨_, e2⟩ := this
        cases e2
        exact hq
    · refine Vc.ite_f ?_
      repeat' (first | array_mem_dec | fail)
      exact done fun S0 a z' e _ => by
        rw [List.length_map, wlen, e] at q
        simp at q
        omega

structure FOk (fl sl : Nat) (cap : Int) (draws : List Int) (I : Nat → List Int) (S : List Fl.Str) (rs : List Nat) (s : Store) : Prop where
  w : Flw fl sl cap draws S rs s
  fit : Fl.Fit cap draws I
  ch : Fl.Chain 0 S none
  good : ∀ x ∈ S, Fl.Good cap draws I x
  ne : S ≠ []
  hd1 : draws.length ≤ 1000
  tight : Tight cap draws S
  set : ∃ z, S[S.length - 1]? = some z ∧ s[fl]? = some (.ins 12 (FFo cap draws sl (some z.begin)))
  len : S.length ≤ 8000
theorem FOk.keep0 {fl sl : Nat} {cap : Int} {draws : List Int} {I : Nat → List Int} {S : List Fl.Str} {rs : List Nat} {s s' : Store} (h : FOk fl sl cap draws I S rs s) (k : Keep [] s s') : FOk fl sl cap draws I S rs s' :=
  ⟨h.w.keep0 k, h.fit, h.ch, h.good, h.ne, h.hd1, h.tight, let ⟨z, h1, h2⟩ := h.set; ⟨z, h1, k.get h2 (by simp)⟩, h.len⟩
section
variable {fl sl : Nat} {cap : Int} {draws : List Int} {I : Nat → List Int} {S : List Fl.Str} {rs : List Nat} {st : Store}
theorem stretch_at_spec {n : Nat} (O : FOk fl sl cap draws I S rs st) : WpR (f_Flow_stretch_at [.ref fl, .int n] st) (fun v s => ∃ r x, v = .ref r ∧ x ∈ S ∧ Fl.Within n x.begin x.count ∧ st[r]? = some (.ins 11 (SF x)) ∧ s = st) (fun _ _ => False) := by
  obtain ⟨fs, h1, h2, h3, h4, _⟩ := O.w.at_
  have h5 := O.w.lst
  have hlen := O.w.len
  have h0 : 0 < S.length := List.length_pos_iff.mpr O.ne
  have e0 : S[0]? = some S[0] := List.getElem?_eq_getElem h0
  obtain ⟨r0, er0⟩ : ∃ r0, rs[0]? = some r0 := ⟨_, List.getElem?_eq_getElem (by omega)⟩
  generalize S[0] = s0 at *
  refine Vc.b_def rfl ?_
  unfold m_Flow_stretch_at
  repeat' (first | array_mem_dec | fail)
  refine Vc.v_ixLn (i := 0) (f := .ref) h5 er0 ?_
  repeat' (first | array_mem_dec | fail)
  refine Vc.for_l (fun d ρ s => s = st ∧ ∃ (i r : Nat) (x : Fl.Str) (a : Option Val), ρ = [some (.ref fl), some (.int n), some (.ref r), a] ∧ rs[i]? = some r ∧ S[i]? = some x ∧ x = Fl.findS (S.take d.length) s0 n) (fun _ _ s h => by obtain ⟨rfl, _⟩ := h; exact Ab.seqAt_lst h5) ?_ ?_ ⟨rfl, 0, r0, s0, _, rfl, er0, e0, rfl⟩
  · rintro d r rest ρ s e ⟨rfl, i, r', x, a, rfl, hr, hx, hf⟩
    obtain ⟨e1, e2, e3⟩ := Vc.map_split e
    have hS2 : S[d.length]? = some S[d.length] := List.getElem?_eq_getElem (by omega)
    have hc := O.w.cells d.length r _ e1 hS2
    have ht : Fl.findS (S.take (d ++ [r]).length) s0 n = if S[d.length].begin ≤ n then S[d.length] else x := by
      rw [List.length_append, List.length_singleton, List.take_succ, hS2, hf]
      unfold Fl.findS
      rw [Option.toList, List.foldl_append]; rfl
    rw [ht]
    generalize hxx : S[d.length] = y at *
    repeat' (first | array_mem_dec | fail)
    refine Vc.ite_d (fun q => ?_) (fun q => ?_)
    · repeat' (first | array_mem_dec | fail)
      exact ⟨rfl, d.length, r, y, _, rfl, e1, hS2, by rw [if_pos (by omega)]⟩
    · repeat' (first | array_mem_dec | fail)
      exact ⟨rfl, i, r', x, _, rfl, hr, hx, by rw [if_neg (by omega)]⟩
  · rintro ρ s ⟨rfl, i, r', x, a, rfl, hr, hx, hf⟩
    rw [hlen, List.take_of_length_le (Nat.le_refl _)] at hf
    have z := Fl.find_in (s0 := s0) O.ch (Nat.zero_le n) (fun k hk => by cases hk) O.ne
    rw [← hf] at z
    repeat' (first | array_mem_dec | fail)
    exact ⟨r', x, rfl, z.1, z.2, O.w.cells i r' x hr hx, rfl⟩
theorem rows_of_spec {n : Nat} (O : FOk fl sl cap draws I S rs st) : WpR (f_Flow_rows_of [.ref fl, .int n] st) (fun v s => ∃ D, v = .ref D ∧ s[D]? = some (.lst ((Fl.rows cap draws I n).map r4)) ∧ Keep [] st s ∧ st.length ≤ D) (fun _ _ => False) := by
  obtain ⟨fs, h1, h2, h3, h4, _⟩ := O.w.at_
  refine Vc.b_def rfl ?_
  unfold m_Flow_rows_of
  repeat' (first | array_mem_dec | fail)
  refine Vc.via0 (stretch_at_spec O) fun v s hv => ?_
  obtain ⟨r, x, rfl, hx, hw, hc, rfl⟩ := hv
  have g := O.good x hx
  have sb := g.sb
  repeat' (first | array_mem_dec | fail)
  refine Vc.via0 (play_round_spec (L := x.lev + ((n : Int) - x.begin) * x.step) O.w.flow (by rw [g.len]; exact O.hd1)) fun v s2 hv => ?_
  have e : Fl.play cap (x.lev + ((n : Int) - x.begin) * x.step) (x.inflow.zip draws) = Fl.rows cap draws I n := g.at_ n hw
  rw [e] at hv
  exact hv
theorem missed_from_spec {A : List Fl.R4} {D t : Nat} (hD : st[D]? = some (.lst (A.map r4))) (hA : A.length ≤ 1000) (ht : t ≤ A.length) : WpR (f_missed_from [.ref D, .int t] st) (fun v s => s = st ∧ ((∃ j r, v = .int ((j : Nat) : Int) ∧ t ≤ j ∧ A[j]? = some r ∧ 0 < r.missed ∧ ∀ i r, t ≤ i → i < j → A[i]? = some r → r.missed ≤ 0) ∨ (v = .non ∧ ∀ i r, t ≤ i → A[i]? = some r → r.missed ≤ 0))) (fun _ _ => False) := by
  refine Vc.b_def rfl ?_
  unfold m_missed_from
  repeat' (first | array_mem_dec | fail)
  refine ⟨_, _, rfl, by rw [List.length_map]; omega, ?_⟩
  rw [List.length_map, show ((A.length : Int) - (t : Int)).toNat = A.length - t by omega]
  refine Vc.for_l (fun d ρ s => s = st ∧ (∃ a, ρ = [some (.ref D), some (.int t), a]) ∧ ∀ i r, t ≤ i → i < t + d.length → A[i]? = some r → r.missed ≤ 0) (fun _ _ _ _ => trivial) ?_ ?_ ⟨rfl, ⟨_, rfl⟩, fun i r h1 h2 _ => by simp at h2; omega⟩
  · rintro d k rest ρ s e ⟨rfl, ⟨a, rfl⟩, hno⟩
    obtain ⟨e1, e2, e3⟩ := Vc.range_split e
    have hk : A[t + k]? = some A[t + k] := List.getElem?_eq_getElem (by omega)
    generalize A[t + k] = y at *
    rw [show (t : Int) + (k : Int) = ((t + k : Nat) : Int) by omega]
    repeat' (first | array_mem_dec | fail)
    refine Vc.v_ixLn hD hk ?_
    unfold r4
    repeat' (first | array_mem_dec | fail)
    refine Vc.ite_d (fun q => ?_) (fun q => ?_)
    · repeat' (first | array_mem_dec | fail)
      exact ⟨rfl, .inl ⟨t + k, y, rfl, by omega, hk, q, fun i r h1 h2 h3 => hno i r h1 (by omega) h3⟩⟩
    · repeat' (first | array_mem_dec | fail)
      refine ⟨rfl, ⟨_, rfl⟩, fun i r h1 h2 h3 => ?_⟩
      by_cases hi : i = t + k
      · subst hi
        rw [hk] at h3; cases h3; omega
      · exact hno i r h1 (by simp at h2; omega) h3
  · rintro ρ s ⟨rfl, ⟨a, rfl⟩, hno⟩
    repeat' (first | array_mem_dec | fail)
    refine ⟨rfl, .inr ⟨rfl, fun i r h1 h3 => hno i r h1 ?_ h3⟩⟩
    have := (List.getElem?_eq_some_iff.mp h3).1
    simp; omega
end
noncomputable def t_nm : MS := (Se.sSeq (Se.sSet 3 (Se.mApp f_missed_from (Se.aCons (Se.mMeth [(12, f_Flow_rows_of)] (Se.mVar 0) (Se.aCons (Se.mVar 5) (Se.aNil))) (Se.aCons (Se.mC (.int 0)) (Se.aNil))))) (Se.sIf (Se.mTest (Se.mBin Ab.vNotN (Se.mVar 3) (Se.mC .non))) (Se.sRet (Se.mTup (Se.aCons (Se.mVar 5) (Se.aCons (Se.mVar 3) (Se.aNil))))) (Se.sNext)))
section
variable {fl sl : Nat} {cap : Int} {draws : List Int} {I : Nat → List Int} {S : List Fl.Str} {rs : List Nat} {st : Store}
def Miss (cap : Int) (draws : List Int) (I : Nat → List Int) (n j : Nat) : Prop := ∃ r, (Fl.rows cap draws I n)[j]? = some r ∧ 0 < r.missed
theorem miss_same {x : Fl.Str} {n m j : Nat} (g : Fl.Good cap draws I x) (hn : Fl.Within n x.begin x.count) (hm : Fl.Within m x.begin x.count) (h : Miss cap draws I n j) : Miss cap draws I m j := by
  obtain ⟨r, h1, h2⟩ := h
  have e : (Fl.rows cap draws I n).map Fl.p3 = (Fl.rows cap draws I m).map Fl.p3 := (g.same n hn).trans (g.same m hm).symm
  have e1 : ((Fl.rows cap draws I n).map Fl.p3)[j]? = some (Fl.p3 r) := by rw [List.getElem?_map, h1]; rfl
  rw [e, List.getElem?_map] at e1
  cases q : (Fl.rows cap draws I m)[j]? with
  | none => rw [q] at e1; cases e1
  | some r' =>
    rw [q] at e1
    have e2 : Fl.p3 r' = Fl.p3 r := Option.some.inj e1
    refine ⟨r', q, ?_⟩
    have : r'.missed = r.missed := congrArg (fun z => z.2.1) e2
    omega
theorem chain_mono : ∀ {S : List Fl.Str} {b : Nat} {e : Option Nat} {i j : Nat} {x y : Fl.Str}, Fl.Chain b S e → S[i]? = some x → S[j]? = some y → i ≤ j → x.begin ≤ y.begin
  | [], _, _, _, _, _, _, _, h, _, _ => by simp at h
  | z :: S, b, e, 0, j, x, y, hc, hx, hy, _ => by
    simp at hx; subst hx
    have h1 := Fl.chain_le hc y (List.mem_of_getElem? hy)
    rw [Fl.Chain] at hc
    omega
  | z :: S, b, e, i + 1, 0, x, y, hc, hx, hy, h => by omega
  | z :: S, b, e, i + 1, j + 1, x, y, hc, hx, hy, h => by
    rw [Fl.Chain] at hc
    obtain ⟨h1, h2⟩ := hc
    cases ec : z.count with
    | none => rw [ec] at h2; rw [h2.1] at hx; simp at hx
    | some k =>
      rw [ec] at h2
      exact chain_mono h2.2 (by simpa using hx) (by simpa using hy) (by omega)
theorem in_some {n : Nat} (O : FOk fl sl cap draws I S rs st) : ∃ (i : Nat) (x : Fl.Str), S[i]? = some x ∧ Fl.Within n x.begin x.count := by
  have z := Fl.find_in (s0 := ⟨0, none, 0, 0, []⟩) O.ch (Nat.zero_le n) (fun k hk => by cases hk) O.ne
  obtain ⟨i, hi, e⟩ := List.mem_iff_getElem.mp z.1
  exact ⟨i, _, List.getElem?_eq_getElem hi, by rw [e]; exact z.2⟩
theorem rows_len (n : Nat) (F : Fl.Fit cap draws I) : (Fl.rows cap draws I n).length = draws.length := by
  unfold Fl.rows; rw [Fl.play_length, List.length_zip, F.il]; simp
def From (n0 t0 n j : Nat) : Prop := (n = n0 ∧ t0 ≤ j) ∨ n0 < n
theorem next_missed_spec {n0 t0 : Nat} (O : FOk fl sl cap draws I S rs st) (ht : t0 ≤ draws.length) :
    WpR (f_Flow_next_missed [.ref fl, .int n0, .int t0] st) (fun v s => Keep [] st s ∧ ((∃ n j, v = .tup [.int ((n : Nat) : Int), .int ((j : Nat) : Int)] ∧ Miss cap draws I n j ∧ From n0 t0 n j ∧ ∀ n' j', Miss cap draws I n' j' → From n0 t0 n' j' → n < n' ∨ (n = n' ∧ j ≤ j')) ∨ (v = .non ∧ ∀ n' j', From n0 t0 n' j' → ¬Miss cap draws I n' j'))) (fun _ _ => False) := by
  have hlen := O.w.len
  have F := O.fit
  have hd1 := O.hd1
  obtain ⟨fs, h1, h2, h3, h4, _⟩ := O.w.at_
  refine Vc.b_def rfl ?_
  unfold m_Flow_next_missed
  show WpO (Se.sSeq _ (Se.sSeq _ (Se.sSeq (Se.sFor _ _ (Se.sSeq _ (Se.sIf _ t_nm _))) _)) _ _) _
  repeat' (first | array_mem_dec | fail)
  refine Vc.via0 (rows_of_spec O) fun v s1 hv => ?_
  obtain ⟨D, rfl, hD, k1, l1⟩ := hv
  repeat' (first | array_mem_dec | fail)
  refine Vc.via0 (missed_from_spec hD (by rw [rows_len n0 F]; exact hd1) (by rw [rows_len n0 F]; exact ht)) fun v s hv => ?_
  obtain ⟨rfl, hv⟩ := hv
  rcases hv with ⟨j, r, rfl, hj, hr, hpos, hmin⟩ | ⟨rfl, hno⟩
  · repeat' (first | array_mem_dec | fail)
    refine ⟨k1, .inl ⟨n0, j, rfl, ⟨r, hr, hpos⟩, .inl ⟨rfl, hj⟩, fun n' j' hm hf => ?_⟩⟩
    rcases hf with ⟨e, hf⟩ | hf
    · subst e
      refine .inr ⟨rfl, ?_⟩
      refine Classical.byContradiction fun hlt => ?_
      obtain ⟨r', h5, h6⟩ := hm
      have := hmin j' r' hf (by omega) h5
      omega
    · exact .inl hf
  · have no0 : ∀ j', t0 ≤ j' → ¬Miss cap draws I n0 j' := fun j' hj' ⟨r, h5, h6⟩ => by have := hno j' r hj' h5; omega
    have O1 := O.keep0 k1
    have w1 := O1.w.lst
    repeat' (first | array_mem_dec | fail)
    refine Vc.for_l (fun d ρ s' => Keep [] s s' ∧ (∃ a b c : Option Val, ρ = [some (.ref fl), some (.int n0), some (.int t0), a, b, c]) ∧ ∀ n' j', n0 < n' → Miss cap draws I n' j' → ∀ i x, i < d.length → S[i]? = some x → ¬Fl.Within n' x.begin x.count) (fun _ _ s' h => Ab.seqAt_lst (h.1.get w1 (by simp))) ?_ ?_ ⟨.refl, ⟨_, _, _, rfl⟩, fun _ _ _ _ i _ hi => by simp at hi⟩
    · rintro d r rest ρ s' e ⟨kk, ⟨a, b, c, rfl⟩, hinv⟩
      obtain ⟨e1, e2, e3⟩ := Vc.map_split e
      have hS2 : S[d.length]? = some S[d.length] := List.getElem?_eq_getElem (by omega)
      have O2 := O1.keep0 kk
      have hc := O2.w.cells d.length r _ e1 hS2
      have hx := O.good _ (List.mem_of_getElem? hS2)
      generalize hxx : S[d.length] = x at *
      have step : (∀ n' j', n0 < n' → Fl.Within n' x.begin x.count → ¬Miss cap draws I n' j') → ∀ n' j', n0 < n' → Miss cap draws I n' j' → ∀ i y, i < (d ++ [r]).length → S[i]? = some y → ¬Fl.Within n' y.begin y.count := fun hno n' j' h5 h6 i y hi hy hw => by
        by_cases q : i < d.length
        · exact hinv n' j' h5 h6 i y q hy hw
        · have : i = d.length := by simp at hi; omega
          subst this
          rw [hS2] at hy; cases hy
          exact hno n' j' h5 hw h6
      have last : ∀ n' j', n0 < n' → n' < max x.begin (n0 + 1) → ¬Miss cap draws I n' j' := fun n' j' h5 h6 hm => by
        obtain ⟨i, y, hi, hw⟩ := in_some (n := n') O
        refine hinv n' j' h5 hm i y ?_ hi hw
        refine Classical.byContradiction fun hge => ?_
        have := chain_mono O.ch hS2 hi (by omega)
        have := hw.1
        omega
      have go : Fl.Within (max x.begin (n0 + 1)) x.begin x.count → WpO (t_nm [some (.ref fl), some (.int n0), some (.int t0), a, some (.ref r), some (.int ((max x.begin (n0 + 1) : Nat) : Int))] s')
          ⟨fun ρ s' => Keep [] s s' ∧ (∃ a b c : Option Val, ρ = [some (.ref fl), some (.int n0), some (.int t0), a, b, c]) ∧ ∀ n' j', n0 < n' → Miss cap draws I n' j' → ∀ i x, i < (d ++ [r]).length → S[i]? = some x → ¬Fl.Within n' x.begin x.count,
           fun v s => Keep [] st s ∧ ((∃ n j, v = .tup [.int ((n : Nat) : Int), .int ((j : Nat) : Int)] ∧ Miss cap draws I n j ∧ From n0 t0 n j ∧ ∀ n' j', Miss cap draws I n' j' → From n0 t0 n' j' → n < n' ∨ (n = n' ∧ j ≤ j')) ∨ (v = .non ∧ ∀ n' j', From n0 t0 n' j' → ¬Miss cap draws I n' j')), fun _ _ => False, fun _ _ => False, fun _ _ => False⟩ := fun hw => by
        obtain ⟨fs2, y1, y2, y3, y4, _⟩ := O2.w.at_
        unfold t_nm
        repeat' (first | array_mem_dec | fail)
        refine Vc.via0 (rows_of_spec O2) fun v s2 hv => ?_
        obtain ⟨E, rfl, hE, k3, l3⟩ := hv
        repeat' (first | array_mem_dec | fail)
        refine Vc.via0 (missed_from_spec (t := 0) hE (by rw [rows_len _ F]; exact hd1) (Nat.zero_le _)) fun v s3 hv => ?_
        obtain ⟨rfl, hv⟩ := hv
        rcases hv with ⟨j, q, rfl, hj, hr, hpos, hmin⟩ | ⟨rfl, hno2⟩
        · repeat' (first | array_mem_dec | fail)
          refine ⟨k1.trans (kk.trans k3), .inl ⟨_, j, rfl, ⟨q, hr, hpos⟩, .inr (by omega), fun n' j' hm hf => ?_⟩⟩
          rcases hf with ⟨e, hf⟩ | hf
          · subst e; exact absurd hm (no0 j' hf)
          · by_cases hlt : n' < max x.begin (n0 + 1)
            · exact absurd hm (last n' j' hf hlt)
            · by_cases he : n' = max x.begin (n0 + 1)
              · refine .inr ⟨he.symm, ?_⟩
                refine Classical.byContradiction fun hlt2 => ?_
                rw [he] at hm
                obtain ⟨r', h5, h6⟩ := hm
                have := hmin j' r' (Nat.zero_le _) (by omega) h5
                omega
              · exact .inl (by omega)
        · repeat' (first | array_mem_dec | fail)
          refine ⟨kk.trans k3, ⟨_, _, _, rfl⟩, step fun n' j' h5 hwn hm => ?_⟩
          obtain ⟨r', h6, h7⟩ := miss_same hx hwn hw hm
          have := hno2 j' r' (Nat.zero_le _) h6
          omega
      have skip : ¬Fl.Within (max x.begin (n0 + 1)) x.begin x.count → ∀ n' j', n0 < n' → Fl.Within n' x.begin x.count → ¬Miss cap draws I n' j' := fun hn n' j' h5 hw _ => hn ⟨by omega, fun k hk => by have := hw.1; have := hw.2 k hk; omega⟩
      repeat' (first | array_mem_dec | fail)
      rw [show max (x.begin : Int) ((n0 : Int) + 1) = ((max x.begin (n0 + 1) : Nat) : Int) by omega]
      cases hcn : x.count with
      | none =>
        simp only [cntV, -eq_self]
        repeat' (first | array_mem_dec | fail)
        refine Vc.viaW (go ⟨by omega, fun k hk => by rw [hcn] at hk; cases hk⟩) (fun _ _ h => h) (fun _ _ h => h)
      | some k =>
        simp only [cntV, -eq_self]
        repeat' (first | array_mem_dec | fail)
        rw [hcn]
        simp only [cntV, -eq_self]
        repeat' (first | array_mem_dec | fail)
        refine Vc.ite_d (fun q => ?_) (fun q => ?_)
        · refine Vc.viaW (go ⟨by omega, fun k' hk => by rw [hcn] at hk; cases hk; omega⟩) (fun _ _ h => h) (fun _ _ h => h)
        · repeat' (first | array_mem_dec | fail)
          refine ⟨kk, ⟨_, _, _, rfl⟩, step (skip fun hw => ?_)⟩
          have := hw.2 k hcn
          omega
    · rintro ρ s' ⟨kk, ⟨a, b, c, rfl⟩, hinv⟩
      repeat' (first | array_mem_dec | fail)
      refine ⟨k1.trans kk, .inr ⟨rfl, fun n' j' hf hm => ?_⟩⟩
      rcases hf with ⟨e, hf⟩ | hf
      · subst e; exact no0 j' hf hm
      · obtain ⟨i, x, hi, hw⟩ := in_some (n := n') O
        exact hinv n' j' hf hm i x (by have := (List.getElem?_eq_some_iff.mp hi).1; omega) hi hw
end
noncomputable def t_add : MS := (Se.sSet 3 (Se.mApp Ab.bTuple (Se.aCons (Se.mLc (Se.iZipM (Se.mVar 3) (Se.mApp f_sums_of (Se.aCons (Se.mMeth [(12, f_Flow_play)] (Se.mVar 0) (Se.aCons (Se.mVar 4) (Se.aNil))) (Se.aCons (Se.mVar 5) (Se.aNil))))) (Se.gTupM 2 (Se.gsCons (Se.gSet 6) (Se.gsCons (Se.gSet 7) (Se.gsNil)))) (Se.mYes) (Se.mBin Ab.vAdd (Se.mVar 6) (Se.mVar 7)) [6, 7]) (Se.aNil))))
section
variable {fl sl : Nat} {cap : Int} {draws : List Int} {I : Nat → List Int} {S : List Fl.Str} {rs : List Nat} {st : Store}
def V3 (g : (Fl.R4 → Int) → Int) : Val := .tup [.int (g (·.drawn)), .int (g (·.missed)), .int (g (·.over))]
def compI (i : Int) (t : Fl.R4) : Int := if i = 1 then t.drawn else if i = 2 then t.missed else t.over
theorem sums_of_spec {A : List Fl.R4} {D : Nat} {k : Int} (hD : st[D]? = some (.lst (A.map r4))) (hA : A.length ≤ 1000) (hk : -(2 ^ 64) < k ∧ k < 2 ^ 64) :
    WpR (f_sums_of [.ref D, .int k] st) (fun v s => v = V3 (fun g => k * Fl.sumv g A) ∧ Keep [] st s) (fun _ _ => False) := by
  have hDl := Vc.lt_of hD
  refine Vc.b_def rfl ?_
  unfold m_sums_of
  repeat' (first | array_mem_dec | fail)
  refine Vc.lc_new fun E s1 hE k1 l1 => ?_
  show WpR (Ab.lcM _ _ _ _ _ _ (([1, 2, 3] : List Int).map Val.int) _) _ _
  refine Vc.lcY_l (fun d acc s => acc = d.map (fun i => .int (k * Fl.sumv (compI i) A)) ∧ Keep [E] s1 s) (fun _ _ _ _ => trivial) ?_ ?_ ⟨rfl, .refl⟩ hE
  · rintro d i rest acc s e ⟨rfl, kk⟩ hs
    have hi : i ∈ ([1, 2, 3] : List Int) := by rw [e]; simp
    have hdl : d.length ≤ 3 := by have := congrArg List.length e; simp at this; omega
    have hDs : s[D]? = some (.lst (A.map r4)) := kk.get (k1.get hD (by simp)) (by simp; omega)
    repeat' (first | array_mem_dec | fail)
    refine Vc.lc_map (fun t => .int (compI i t)) (fun acc => Ab.seqAt_lst (by (first | array_get_dec | fail))) (by omega) (fun t ht acc => ?_) ?_
    · unfold r4
      repeat' (first | array_mem_dec | fail)
      refine Vc.v_ixT (w := .int (compI i t)) ?_ ?_
      · simp only [List.mem_cons, List.not_mem_nil, or_false] at hi
        rcases hi with h | h | h <;> subst h <;> rfl
      · repeat' (first | array_mem_dec | fail)
        exact ⟨rfl, rfl⟩
    repeat' (first | array_mem_dec | fail)
    rename_i G s2 hG k2 l2
    refine Vc.v_sumL (ns := A.map (compI i)) (by rw [List.map_map]; (first | array_get_dec | fail)) ?_
    repeat' (first | array_mem_dec | fail)
    refine ⟨k2.get hs (by simp), by simp; omega, ?_⟩
    intro s3 hs3 k3
    refine ⟨by rw [List.map_append]; rfl, by (first | sizeOf_list_dec | fail)⟩
  · rintro acc s ⟨rfl, kk⟩ hs
    repeat' (first | array_mem_dec | fail)
    exact ⟨rfl, by (first | sizeOf_list_dec | fail)⟩
theorem p3_drawn : Fl.OfP3 (·.drawn) := ⟨fun z => z.1, fun _ => rfl⟩
theorem p3_missed : Fl.OfP3 (·.missed) := ⟨fun z => z.2.1, fun _ => rfl⟩
theorem p3_over : Fl.OfP3 (·.over) := ⟨fun z => z.2.2, fun _ => rfl⟩
theorem add_spec {g : (Fl.R4 → Int) → Int} {x : Fl.Str} {r : Nat} {cnt : Int} {v1 v2 v6 v7 : Option Val} (O : FOk fl sl cap draws I S rs st) (hc : st[r]? = some (.ins 11 (SF x))) (hl : x.inflow.length ≤ 1000) (hb : -(2 ^ 64) < cnt ∧ cnt < 2 ^ 64) :
    WpO (t_add [some (.ref fl), v1, v2, some (V3 g), some (.ref r), some (.int cnt), v6, v7] st)
      { nx := fun ρ s => Keep [] st s ∧ ρ = [some (.ref fl), v1, v2, some (V3 fun v => g v + cnt * Fl.sumv v (x.play cap draws)), some (.ref r), some (.int cnt), v6, v7] } := by
  obtain ⟨fs, h1, h2, h3, h4, _⟩ := O.w.at_
  unfold t_add V3
  repeat' (first | array_mem_dec | fail)
  refine Vc.via0 (play_spec O.w.flow hc hl) fun v s1 hv => ?_
  obtain ⟨D, rfl, hD, k1, l1⟩ := hv
  repeat' (first | array_mem_dec | fail)
  refine Vc.via0 (sums_of_spec hD (by unfold Fl.Str.play; rw [Fl.play_length, List.length_zip]; omega) hb) fun v s2 hv => ?_
  obtain ⟨rfl, k2⟩ := hv
  unfold V3
  repeat' (first | array_mem_dec | fail)
  show WpR (Ab.lcM _ _ _ _ _ _ (([((g (·.drawn)), cnt * Fl.sumv (·.drawn) (x.play cap draws)), ((g (·.missed)), cnt * Fl.sumv (·.missed) (x.play cap draws)), ((g (·.over)), cnt * Fl.sumv (·.over) (x.play cap draws))] : List (Int × Int)).map fun p => Val.tup [.int p.1, .int p.2]) _) _ _
  refine Vc.lc_map (fun p : Int × Int => .int (p.1 + p.2)) (fun _ => ⟨trivial, trivial⟩) (by simp) (fun p hp acc => ?_) ?_
  · repeat' (first | array_mem_dec | fail)
    exact ⟨rfl, rfl⟩
  repeat' (first | array_mem_dec | fail)
  exact ⟨by (first | sizeOf_list_dec | fail), rfl⟩
end
section
variable {fl sl : Nat} {cap : Int} {draws : List Int} {I : Nat → List Int} {S : List Fl.Str} {rs : List Nat} {st : Store}
def totV (cap : Int) (draws : List Int) (I : Nat → List Int) (R t : Nat) : Val := V3 fun v => Fl.tot cap draws I v R + Fl.sumv v ((Fl.rows cap draws I R).take t)
theorem cnt_bound {x : Fl.Str} {R : Nat} (h : x.begin < R) (hR : R < 2 ^ 63) : -(2 ^ 64) < Fl.cntS R x ∧ Fl.cntS R x < 2 ^ 64 := by
  unfold Fl.cntS
  split
  · split <;> omega
  · omega
theorem sums_spec {R t : Nat} (O : FOk fl sl cap draws I S rs st) (hR : R < 2 ^ 63) (ht : t ≤ 1000) :
    WpR (f_Flow_sums [.ref fl, .int R, .int t] st) (fun v s => v = totV cap draws I R t ∧ Keep [] st s) (fun _ _ => False) := by
  have hlen := O.w.len
  have F := O.fit
  have hd1 := O.hd1
  obtain ⟨fs, h1, h2, h3, h4, _⟩ := O.w.at_
  refine Vc.b_def rfl ?_
  unfold m_Flow_sums
  show WpO (Se.sSeq _ (Se.sSeq (Se.sFor _ _ (Se.sIf _ (Se.sSeq _ (Se.sSeq _ t_add)) _)) _) _ _) _
  repeat' (first | array_mem_dec | fail)
  refine Vc.via0 (rows_of_spec O) fun v s1 hv => ?_
  obtain ⟨D, rfl, hD, k1, l1⟩ := hv
  have O1 := O.keep0 k1
  repeat' (first | array_mem_dec | fail)
  refine Vc.v_cutL hD ?_
  rw [Vc.cut_take, ← List.map_take]
  repeat' (first | array_mem_dec | fail)
  rename_i C s2 hC k2 l2
  refine Vc.via0 (sums_of_spec hC (by rw [List.length_take, rows_len R F]; omega) (by decide)) fun v s3 hv => ?_
  obtain ⟨rfl, k3⟩ := hv
  have O3 := (O1.keep0 k2).keep0 k3
  have w3 := O3.w.lst
  simp only [Int.one_mul]
  repeat' (first | array_mem_dec | fail)
  refine Vc.for_l (fun d ρ s => Keep [] s3 s ∧ ∃ a b c e, ρ = [some (.ref fl), some (.int R), some (.int t), some (V3 fun v => ((S.take d.length).map (Fl.partS cap draws v R)).sum + Fl.sumv v ((Fl.rows cap draws I R).take t)), a, b, c, e]) (fun _ _ s h => Ab.seqAt_lst (h.1.get w3 (by simp))) ?_ ?_ ⟨.refl, none, none, none, none, by simp only [List.length_nil, List.take_zero, List.map_nil, List.sum_nil, Int.zero_add]⟩
  · rintro d r rest ρ s e ⟨kk, a, b, c, e', rfl⟩
    obtain ⟨e1, e2, e3⟩ := Vc.map_split e
    have hS2 : S[d.length]? = some S[d.length] := List.getElem?_eq_getElem (by omega)
    have O4 := O3.keep0 kk
    have hc := O4.w.cells d.length r _ e1 hS2
    have hx := O.good _ (List.mem_of_getElem? hS2)
    have ht : ∀ v, ((S.take (d ++ [r]).length).map (Fl.partS cap draws v R)).sum = ((S.take d.length).map (Fl.partS cap draws v R)).sum + Fl.partS cap draws v R S[d.length] := fun v => by
      rw [List.length_append, List.length_singleton, List.take_succ, hS2, Option.toList, List.map_append, List.sum_append]; simp
    simp only [ht]
    generalize hxx : S[d.length] = x at *
    generalize hG : (fun v => ((S.take d.length).map (Fl.partS cap draws v R)).sum) = G at *
    have hG' : ∀ v, ((S.take d.length).map (Fl.partS cap draws v R)).sum = G v := fun v => by rw [← hG]
    simp only [hG']
    repeat' (first | array_mem_dec | fail)
    refine Vc.ite_d (fun q => ?_) (fun q => ?_)
    · have hbd := cnt_bound (x := x) (R := R) (by omega) hR
      have fin : ∀ cnt : Int, cnt = Fl.cntS R x → WpO (t_add [some (.ref fl), some (.int R), some (.int t), some (V3 fun v => G v + Fl.sumv v ((Fl.rows cap draws I R).take t)), some (.ref r), some (.int cnt), c, e'] s)
          { nx := fun ρ s => Keep [] s3 s ∧ ∃ a b c e, ρ = [some (.ref fl), some (.int R), some (.int t), some (V3 fun v => G v + Fl.partS cap draws v R x + Fl.sumv v ((Fl.rows cap draws I R).take t)), a, b, c, e] } := by
        rintro _ rfl
        refine Vc.viaN (add_spec O4 hc (by rw [hx.len]; exact hd1) hbd) ?_
        rintro ρ s' ⟨k5, rfl⟩
        refine ⟨kk.trans k5, some (.ref r), some (.int (Fl.cntS R x)), c, e', ?_⟩
        have : (fun v => G v + Fl.sumv v ((Fl.rows cap draws I R).take t) + Fl.cntS R x * Fl.sumv v (x.play cap draws)) = fun v => G v + Fl.partS cap draws v R x + Fl.sumv v ((Fl.rows cap draws I R).take t) := by
          funext v
          unfold Fl.partS
          rw [if_pos (by omega)]; omega
        rw [this]
      repeat' (first | array_mem_dec | fail)
      cases hcn : x.count with
      | none =>
        simp only [cntV, -eq_self]
        repeat' (first | array_mem_dec | fail)
        exact Vc.viaN (fin _ (by unfold Fl.cntS; rw [hcn])) (fun _ _ h => h)
      | some k =>
        simp only [cntV, -eq_self]
        repeat' (first | array_mem_dec | fail)
        rw [hcn]
        simp only [cntV, -eq_self]
        repeat' (first | array_mem_dec | fail)
        refine Vc.ite_d (fun q2 => ?_) (fun q2 => ?_)
        · repeat' (first | array_mem_dec | fail)
          rw [hcn]
          simp only [cntV, -eq_self]
          repeat' (first | array_mem_dec | fail)
          exact Vc.viaN (fin _ (by unfold Fl.cntS; rw [hcn]; dsimp only; rw [if_pos q2])) (fun _ _ h => h)
        · repeat' (first | array_mem_dec | fail)
          exact Vc.viaN (fin _ (by unfold Fl.cntS; rw [hcn]; dsimp only; rw [if_neg q2])) (fun _ _ h => h)
    · repeat' (first | array_mem_dec | fail)
      have : ∀ v, Fl.partS cap draws v R x = 0 := fun v => by unfold Fl.partS; rw [if_neg (by omega)]
      simp only [this, Int.add_zero]
      exact ⟨kk, _, _, _, _, rfl⟩
  · rintro ρ s ⟨kk, a, b, c, e', rfl⟩
    repeat' (first | array_mem_dec | fail)
    refine ⟨?_, by (first | sizeOf_list_dec | fail)⟩
    have hsum : ∀ v, Fl.OfP3 v → (S.map (Fl.partS cap draws v R)).sum = Fl.tot cap draws I v R := fun v hv => by
      have := Fl.sum_chain hv (R := R) O.ch O.good (Nat.zero_le _)
      rw [Fl.tot, Int.zero_add] at this; exact this
    rw [hlen, List.take_of_length_le (Nat.le_refl _)]
    unfold totV V3
    dsimp only
    rw [hsum _ p3_drawn, hsum _ p3_missed, hsum _ p3_over]
theorem last_sums_spec (O : FOk fl sl cap draws I S rs st) {z : Fl.Str} (hz : S[S.length - 1]? = some z) :
    WpR (f_Flow_last_sums [.ref fl] st) (fun v s => v = V3 (fun v => Fl.sumv v (z.play cap draws)) ∧ Keep [] st s) (fun _ _ => False) := by
  have hlen := O.w.len
  have hd1 := O.hd1
  obtain ⟨fs, h1, h2, h3, h4, _⟩ := O.w.at_
  have h5 := O.w.lst
  have hi := (List.getElem?_eq_some_iff.mp hz).1
  obtain ⟨rz, hrz⟩ : ∃ rz, rs[rs.length - 1]? = some rz := ⟨_, List.getElem?_eq_getElem (by omega)⟩
  have hcz := O.w.cells (rs.length - 1) rz z hrz (by rw [hlen]; exact hz)
  have hg := O.good z (List.mem_of_getElem? hz)
  refine Vc.b_def rfl ?_
  unfold m_Flow_last_sums
  repeat' (first | array_mem_dec | fail)
  refine Vc.v_ixL h5 (atI_last1 (by rw [List.length_map, List.getElem?_map, hrz]; rfl)) ?_
  repeat' (first | array_mem_dec | fail)
  refine Vc.via0 (play_spec O.w.flow hcz (by rw [hg.len]; exact hd1)) fun v s1 hv => ?_
  obtain ⟨D, rfl, hD, k1, l1⟩ := hv
  repeat' (first | array_mem_dec | fail)
  refine Vc.via0 (sums_of_spec hD (by unfold Fl.Str.play; rw [Fl.play_length, List.length_zip]; omega) (by decide)) fun v s2 hv => ?_
  obtain ⟨rfl, k2⟩ := hv
  refine ⟨?_, k1.trans k2⟩
  simp only [Int.one_mul]
end

def Ib (rain : List Int) (b : Bar) (U : Nat → List Int) (n : Nat) : List Int := addL (rain.map (b.roof * ·)) (U n)
def outF (rain : List Int) (U : Nat → List Int) (b : Bar) (n : Nat) : List Int := (Fl.rows b.cap b.dr (Ib rain b U) n).map (·.over)

def UK (rain : List Int) (bs : List Bar) : Nat → List Int := bs.foldl (outF rain) (fun _ => List.replicate rain.length 0)
theorem UK_snoc (rain : List Int) (bs : List Bar) (b : Bar) : UK rain (bs ++ [b]) = outF rain (UK rain bs) b := by unfold UK; rw [List.foldl_append]; rfl
theorem addL_len {a b : List Int} (h : b.length = a.length) : (addL a b).length = a.length := by unfold addL; rw [List.length_map, List.length_zip]; omega
structure UOk (rain : List Int) (U : Nat → List Int) : Prop where
  len : ∀ n, (U n).length = rain.length
  pos : ∀ n, ∀ w ∈ U n, 0 ≤ w
theorem fit_of {rain : List Int} {b : Bar} {U : Nat → List Int} (hb : b.Ok rain.length) (hr : ∀ r ∈ rain, 0 ≤ r) (u : UOk rain U) : Fl.Fit b.cap b.dr (Ib rain b U) := by
  refine ⟨hb.c0, fun d hd => (hb.d01 d hd).1, fun n w hw => ?_, fun n => ?_⟩
  · unfold Ib addL at hw
    obtain ⟨p, hp, rfl⟩ := List.mem_map.mp hw
    have h1 := (List.of_mem_zip hp).1
    have h2 := u.pos n _ (List.of_mem_zip hp).2
    obtain ⟨r, hr2, e⟩ := List.mem_map.mp h1
    have := Int.mul_nonneg hb.r0 (hr r hr2)
    omega
  · unfold Ib
    rw [addL_len (by rw [u.len, List.length_map]), List.length_map, hb.dl]
theorem uok_next {rain : List Int} {b : Bar} {U : Nat → List Int} (hb : b.Ok rain.length) (hr : ∀ r ∈ rain, 0 ≤ r) (u : UOk rain U) : UOk rain (outF rain U b) := by
  have F := fit_of hb hr u
  refine ⟨fun n => ?_, fun n w hw => ?_⟩
  · unfold outF; rw [List.length_map, rows_len n F, hb.dl]
  · unfold outF at hw
    obtain ⟨t, ht, rfl⟩ := List.mem_map.mp hw
    have rg := Fl.Lv_range F n
    exact (Fl.play_pos F.c0 (F.pos n) rg.1 rg.2 t ht).1
theorem uok {rain : List Int} {bars : List Bar} (ok : RowOk rain bars) : ∀ k, UOk rain (UK rain (bars.take k)) := by
  intro k
  induction k with
  | zero => exact ⟨fun n => by simp [UK], fun n w hw => by simp only [UK, List.take_zero, List.foldl_nil, List.mem_replicate] at hw; omega⟩
  | succ k ih =>
    rw [List.take_succ]
    cases e : bars[k]? with
    | none => simpa using ih
    | some b =>
      rw [Option.toList, UK_snoc]
      exact uok_next (ok.ok b (List.mem_of_getElem? e)) (fun r hr => (ok.r01 r hr).1) ih
theorem segs_outs {cap : Int} {draws rain : List Int} {I I' : Nat → List Int} (hd : ∀ n, (Fl.rows cap draws I n).length = rain.length) (hI : ∀ n, I' n = addL rain ((Fl.rows cap draws I n).map (·.over))) : ∀ {S : List Fl.Str} {b : Nat}, Fl.Chain b S none → (∀ x ∈ S, Fl.Good cap draws I x) → Segs I' rain b (outs cap draws S)
  | [], b, h, _ => by rw [Fl.Chain] at h; cases h
  | x :: S, b, h, hg => by
    rw [Fl.Chain] at h
    obtain ⟨h1, h2⟩ := h
    have gx := hg x (by simp)
    have ov : ∀ n, Fl.Within n x.begin x.count → (Fl.rows cap draws I n).map (·.over) = (x.play cap draws).map (·.over) := fun n hn => by
      have e := gx.same n hn
      have : ∀ l : List Fl.R4, l.map (·.over) = (l.map Fl.p3).map (fun z => z.2.2) := fun l => by rw [List.map_map]; rfl
      rw [this, this, e]
    have ol : ((x.play cap draws).map (·.over)).length = rain.length := by
      rw [← ov x.begin ⟨Nat.le_refl _, fun k hk => by
        cases ec : x.count with
        | none => rw [ec] at hk; cases hk
        | some k' => rw [ec] at hk h2; cases hk; have := h2.1; omega⟩, List.length_map, hd]
    show Segs I' rain b ((x.count, (x.play cap draws).map (·.over)) :: outs cap draws S)
    cases ec : x.count with
    | none =>
      rw [ec] at h2
      rw [Segs, h2.1]
      exact ⟨rfl, ol, fun n hn => by rw [hI, ov n ⟨by omega, fun k hk => by rw [ec] at hk; cases hk⟩]⟩
    | some k =>
      rw [ec] at h2
      rw [Segs]
      exact ⟨h2.1, ol, fun n n1 n2 => by rw [hI, ov n ⟨by omega, fun k' hk => by rw [ec] at hk; cases hk; omega⟩], segs_outs hd hI h2.2 fun y hy => hg y (by simp [hy])⟩
theorem FOk.keep {fl sl : Nat} {cap : Int} {draws : List Int} {I : Nat → List Int} {S : List Fl.Str} {rs : List Nat} {s s' : Store} {T : List Nat} (h : FOk fl sl cap draws I S rs s) (k : Keep T s s') (h1 : fl ∉ T) (h2 : sl ∉ T) (h3 : ∀ r ∈ rs, r ∉ T) : FOk fl sl cap draws I S rs s' :=
  ⟨h.w.keep k h1 h2 h3, h.fit, h.ch, h.good, h.ne, h.hd1, h.tight, let ⟨z, q1, q2⟩ := h.set; ⟨z, q1, k.get q2 h1⟩, h.len⟩

def FlowsOk (rain : List Int) (bars : List Bar) (m : Nat) (fls : List Nat) (s : Store) : Prop := ∀ (k fl : Nat) (b : Bar), fls[k]? = some fl → bars[k]? = some b → ∃ sl S rs, FOk fl sl b.cap b.dr (Ib rain b (UK rain (bars.take k))) S rs s ∧ m ≤ fl ∧ m ≤ sl ∧ ∀ r ∈ rs, m ≤ r
theorem FlowsOk.keep {rain : List Int} {bars : List Bar} {m : Nat} {fls : List Nat} {s s' : Store} {T : List Nat} (h : FlowsOk rain bars m fls s) (k : Keep T s s') (hT : ∀ z ∈ T, z < m ∨ s.length ≤ z) : FlowsOk rain bars m fls s' := fun i fl b h1 h2 => by
  obtain ⟨sl, S, rs, O, m1, m2, m3⟩ := h i fl b h1 h2
  have lt : ∀ z : Nat, m ≤ z → z < s.length → z ∉ T := fun z hz hl ht => by rcases hT z ht with q | q <;> omega
  obtain ⟨fs, e1, _⟩ := O.w.at_
  have lr : ∀ r ∈ rs, r < s.length := fun r hr => by
    obtain ⟨j, hj, e⟩ := List.mem_iff_getElem.mp hr
    have hS : j < S.length := by have := O.w.len; omega
    exact Vc.lt_of (O.w.cells j r S[j] (by rw [List.getElem?_eq_getElem hj, e]) (List.getElem?_eq_getElem hS))
  exact ⟨sl, S, rs, O.keep k (lt fl m1 (Vc.lt_of e1)) (lt sl m2 (Vc.lt_of O.w.lst)) (fun r hr => lt r (m3 r hr) (lr r hr)), m1, m2, m3⟩
theorem rain_spec {i : Nat} {rain : List Int} {bars : List Bar} {st : Store} (h : st[i]? = some (.ins 13 (RF rain bars))) : WpR (f_Row_rain [.ref i] st) (fun v s => v = .tup (rain.map .int) ∧ s = st) (fun _ _ => False) := by
  refine Vc.b_def rfl ?_
  unfold m_Row_rain
  repeat' (first | array_mem_dec | fail)
  exact ⟨rfl, rfl⟩
theorem flows_spec {i : Nat} {rain : List Int} {bars : List Bar} {st : Store} (ok : RowOk rain bars) (h : st[i]? = some (.ins 13 (RF rain bars))) :
    WpR (f_flows_of [.ref i] st) (fun v s => ∃ FL fls, v = .ref FL ∧ s[FL]? = some (.lst (fls.map .ref)) ∧ fls.length = bars.length ∧ FlowsOk rain bars st.length fls s ∧ Keep [] st s ∧ st.length ≤ FL) (fun _ _ => False) := by
  have n0 := ok.n0; have n1 := ok.n1; have b1 := ok.b1
  refine Vc.b_def rfl ?_
  unfold m_flows_of
  repeat' (first | array_mem_dec | fail)
  rename_i FL s1 hFL k1 l1
  refine Vc.via0 (rain_spec (bars := bars) (by (first | array_get_dec | fail))) fun v s hv => ?_
  obtain ⟨rfl, rfl⟩ := hv
  repeat' (first | array_mem_dec | fail)
  refine Vc.v_repT ⟨by simp, by simp; omega, by simp; omega, by simp⟩ ?_
  rw [rep_zero, List.length_map, Int.toNat_natCast]
  repeat' (first | array_mem_dec | fail)
  rename_i A s2 hA k2 l2
  refine Vc.via0 (Row_barrels_spec (v := .tup (bars.map Bar.val)) (by (first | array_get_dec | fail))) fun v s hv => ?_
  obtain ⟨rfl, rfl⟩ := hv
  repeat' (first | array_mem_dec | fail)
  have hi := Vc.lt_of h
  have hFl := Vc.lt_of hFL
  have kp : Keep [] st s := k1.trans k2
  have hFL2 : s[FL]? = some (.lst (([] : List Nat).map .ref)) := k2.get hFL (by simp)
  have hm := kp.1
  clear k1 k2 hFL
  refine Vc.for_l (fun d ρ s' => ∃ (fls : List Nat) (A' : Nat) (U : List (Option Nat × List Int)) (a b c e f g : Option Val), ρ = [some (.ref i), some (.ref FL), some (.ref A'), a, b, c, e, f, g] ∧ s'[FL]? = some (.lst (fls.map .ref)) ∧ fls.length = d.length ∧ FlowsOk rain bars (FL + 1) fls s' ∧ Keep [FL] s s' ∧ FL < A' ∧
      s'[A']? = some (.lst (U.map outV)) ∧ U.length ≤ 4 ^ d.length ∧ ∀ (rain' : List Int) (I' : Nat → List Int), rain'.length = rain.length → (∀ n, I' n = addL rain' (UK rain (bars.take d.length) n)) → Segs I' rain' 0 U) (fun _ _ _ _ => trivial) ?_ ?_
    ⟨[], A, [(none, List.replicate rain.length 0)], _, _, _, _, _, _, rfl, hFL2, rfl, (fun k fl b h1 => by simp at h1), by (first | sizeOf_list_dec | fail), by have := Vc.lt_of hFL2; omega, by rw [hA]; rfl, by simp, fun rain' I' hl hI => by rw [Segs]; exact ⟨rfl, by simp [hl], fun n _ => by rw [hI]; simp [UK]⟩⟩
  · rintro d b rest ρ s' e ⟨fls, A', U, a, b', c, e', f, g, rfl, g1, g2, g3, k3, lA, g4, g5, g6⟩
    obtain ⟨e1, e2, e3⟩ := Vc.map_split e
    have hb := ok.ok b (List.mem_of_getElem? e1)
    have hpow : 4 ^ d.length ≤ 256 := by
      have : d.length ≤ 4 := by omega
      calc 4 ^ d.length ≤ 4 ^ 4 := Nat.pow_le_pow_right (by decide) this
        _ = 256 := rfl
    have hrow : s'[i]? = some (.ins 13 (RF rain bars)) := k3.get (kp.get h (by simp)) (by simp; omega)
    rw [Bar.val_eq b]
    repeat' (first | array_mem_dec | fail)
    refine Vc.via0 (rain_spec hrow) fun v s hv => ?_
    obtain ⟨rfl, rfl⟩ := hv
    repeat' (first | array_mem_dec | fail)
    have := hb.r0; have := hb.r1
    refine Vc.lc_map (fun x : Int => .int (b.roof * x)) (fun _ => trivial) (by omega) (fun x hx acc => ?_) ?_
    · repeat' (first | array_mem_dec | fail)
      exact ⟨rfl, rfl⟩
    repeat' (first | array_mem_dec | fail)
    rename_i T s4 hT k4 l4 fl s5 hfl k5 l5
    rw [show rain.map (fun x : Int => Val.int (b.roof * x)) = (rain.map (b.roof * ·)).map .int by rw [List.map_map]; rfl]
    have hA5 : s5[A']? = some (.lst (U.map outV)) := k5.get (k4.get g4 (by simp)) (by simp)
    have F := fit_of hb (fun r hr => (ok.r01 r hr).1) (uok ok d.length)
    refine Vc.via0 (FlowInit_spec (I := Ib rain b (UK rain (bars.take d.length))) hfl hA5 F hb.c1 (by rw [hb.dl]; exact n0) (by rw [hb.dl]; omega) (by rw [List.length_map, hb.dl]) (g6 _ _ (by simp) fun n => rfl) (by omega)) fun v s6 hv => ?_
    obtain ⟨rfl, sl, S, rs, W6, ch6, good6, ne6, len6, tight6, set6, k6, lsl, lrs⟩ := hv
    have O6 : FOk fl sl b.cap b.dr (Ib rain b (UK rain (bars.take d.length))) S rs s6 := ⟨W6, F, ch6, good6, ne6, by rw [hb.dl]; omega, tight6, set6, by omega⟩
    have hFLs := Vc.lt_of g1
    have z4 := k4.1; have z5 := k5.1; have z6 := k6.1
    have hFL6 : s6[FL]? = some (.lst (fls.map .ref)) := k6.get (k5.get (k4.get g1 (by simp)) (by simp)) (by simp; omega)
    obtain ⟨fs, w1, w2⟩ := W6.at_
    refine ⟨rfl, ?_⟩
    repeat' (first | array_mem_dec | fail)
    rename_i s7 g7 k7
    have O7 := O6.keep k7 (by simp; omega) (by simp; omega) (fun r hr => by have := lrs r hr; simp; omega)
    have lin : ∀ x ∈ S, x.inflow.length ≤ 1000 := fun x hx => by rw [(good6 x hx).len, hb.dl]; omega
    refine Vc.via0 (outflow_spec O7.w lin (by omega)) fun v s8 hv => ?_
    obtain ⟨E, rfl, hE, k8, l8⟩ := hv
    repeat' (first | array_mem_dec | fail)
    have hl7 := k7.1
    have kk : Keep [FL] s s8 := Vc.k_nil (Vc.k_seq (Vc.k_seq (k4.trans k5).nil k6 fun z hz => .inr (by rw [List.mem_singleton.mp hz]; omega)) k7 fun z hz => .inl hz) k8
    have tk : bars.take (d ++ [b]).length = bars.take d.length ++ [b] := by rw [List.length_append, List.length_singleton, List.take_succ, e1]; rfl
    refine ⟨fls ++ [fl], E, outs b.cap b.dr S, _, _, _, _, _, _, rfl, ?_, by simp [g2], ?_, ?_, by omega, hE, ?_, fun rain' I' hl hI => ?_⟩
    · rw [k8.get g7 (by simp), List.map_append]; rfl
    · intro k x y h1 h2
      by_cases hk : k < fls.length
      · rw [List.getElem?_append_left hk] at h1
        exact (g3.keep kk fun z hz => .inl (by rw [List.mem_singleton.mp hz]; omega)) k x y h1 h2
      · have hk1 := (List.getElem?_eq_some_iff.mp h1).1
        have : k = fls.length := by simp at hk1; omega
        subst this
        simp at h1
        subst h1
        rw [g2, e1] at h2
        cases h2
        rw [g2]
        exact ⟨sl, S, rs, O7.keep0 k8, by omega, by omega, fun r hr => by have := lrs r hr; omega⟩
    · exact Vc.k_seq k3 kk fun z hz => .inl hz
    · unfold outs
      rw [List.length_map, List.length_append, List.length_singleton, Nat.pow_succ]; omega
    · refine segs_outs (fun n => by rw [rows_len n F, hb.dl, hl]) (fun n => ?_) ch6 good6
      rw [hI, tk, UK_snoc]; rfl
  · rintro ρ s' ⟨fls, A', U, a, b, c, e, f, g, rfl, g1, g2, g3, k3, _⟩
    repeat' (first | array_mem_dec | fail)
    refine ⟨FL, fls, rfl, g1, g2, fun k fl b h1 h2 => ?_, ?_, l1⟩
    · obtain ⟨sl, S, rs, O, m1, m2, m3⟩ := g3 k fl b h1 h2
      exact ⟨sl, S, rs, O, by omega, by omega, fun r hr => by have := m3 r hr; omega⟩
    · exact Vc.k_seq kp k3 fun z hz => .inr (by rw [List.mem_singleton.mp hz]; exact l1)
def nmK (bars : List Bar) (k : Nat) : Str := (bars.map Bar.nm).getD k ""
def totK (rain : List Int) (bars : List Bar) (R t k : Nat) : Val := match bars[k]? with
  | some b => totV b.cap b.dr (Ib rain b (UK rain (bars.take k))) R t
  | none => .non
def totD (rain : List Int) (bars : List Bar) (R t : Nat) : List (Key × Val) := (List.range bars.length).map fun k => (.inr (nmK bars k), totK rain bars R t k)
theorem nmK_get {bars : List Bar} {k : Nat} {b : Bar} (h : bars[k]? = some b) : nmK bars k = b.nm := by
  unfold nmK; rw [List.getD_eq_getElem?_getD, List.getElem?_map, h]; rfl
theorem nmK_nodup {bars : List Bar} (nd : (bars.map Bar.nm).Nodup) : ((List.range bars.length).map (nmK bars)).Nodup := by
  have : (List.range bars.length).map (nmK bars) = bars.map Bar.nm := by
    apply List.ext_getElem
    · simp
    · intro i h1 h2
      have hi : i < bars.length := by simpa using h2
      rw [List.getElem_map, List.getElem_range, nmK_get (List.getElem?_eq_getElem hi), List.getElem_map]
  rw [this]; exact nd
section
variable {i : Nat} {rain : List Int} {bars : List Bar} {st : Store}
theorem split_spec {T : Nat} (ok : RowOk rain bars) (h : st[i]? = some (.ins 13 (RF rain bars))) : WpR (f_split_ticks [.ref i, .int T] st) (fun v s => v = .tup [.int ((T / rain.length : Nat) : Int), .int ((T % rain.length : Nat) : Int)] ∧ s = st) (fun _ _ => False) := by
  have := ok.n0; have := ok.n1
  refine Vc.b_def rfl ?_
  unfold m_split_ticks
  repeat' (first | array_mem_dec | fail)
  refine Vc.via0 (rain_spec h) fun v s hv => ?_
  obtain ⟨rfl, rfl⟩ := hv
  repeat' (first | array_mem_dec | fail)
  rw [List.length_map]
  repeat' (first | array_mem_dec | fail)
  exact ⟨by rw [← Int.natCast_ediv, ← Int.natCast_emod], rfl⟩
theorem flow_at {m k fl : Nat} {fls : List Nat} {b : Bar} {s : Store} (F : FlowsOk rain bars m fls s) (h1 : fls[k]? = some fl) (h2 : bars[k]? = some b) : ∃ sl S rs, FOk fl sl b.cap b.dr (Ib rain b (UK rain (bars.take k))) S rs s := by
  obtain ⟨sl, S, rs, O, _⟩ := F k fl b h1 h2
  exact ⟨sl, S, rs, O⟩
theorem totals_spec {T : Nat} (ok : RowOk rain bars) (h : st[i]? = some (.ins 13 (RF rain bars))) (hT : T ≤ 1000000000000000000) : WpR (f_totals [.ref i, .int T] st) (fun v s => ∃ D, v = .ref D ∧ s[D]? = some (.dct (totD rain bars (T / rain.length) (T % rain.length))) ∧ Keep [] st s ∧ st.length ≤ D) (fun _ _ => False) := by
  have n0 := ok.n0; have n1 := ok.n1; have b1 := ok.b1
  refine Vc.b_def rfl ?_
  unfold m_totals
  repeat' (first | array_mem_dec | fail)
  refine Vc.via val_spec (fun v s hv => ?_) (fun x s hx => by exact absurd ⟨by omega, by omega⟩ hx.2.2)
  obtain ⟨rfl, rfl, _⟩ := hv
  repeat' (first | array_mem_dec | fail)
  refine Vc.via0 (split_spec ok h) fun v s hv => ?_
  obtain ⟨rfl, rfl⟩ := hv
  repeat' (first | array_mem_dec | fail)
  refine Vc.via0 (names_spec (by omega) h) fun v s1 hv => ?_
  obtain ⟨rfl, k1⟩ := hv
  repeat' (first | array_mem_dec | fail)
  refine Vc.via0 (flows_spec ok (k1.get h (by simp))) fun v s2 hv => ?_
  obtain ⟨FL, fls, rfl, hFL, hfl, hF, k2, l2⟩ := hv
  refine ⟨_, _, _, _, rfl, Vc.items_lst hFL, ?_⟩
  rw [Vc.zip_range ("" : Str) (0 : Nat) (by rw [hfl, List.length_map])]
  repeat' (first | array_mem_dec | fail)
  refine Vc.dc_new fun D s3 hD k3 l3 => ?_
  rw [List.length_map]
  have lFL := Vc.lt_of hFL
  have hR : T / rain.length < 2 ^ 63 := by have := Nat.div_le_self T rain.length; omega
  have ht : T % rain.length ≤ 1000 := by have := Nat.mod_lt T n0; omega
  refine Vc.dcY_l (nmK bars) (totK rain bars (T / rain.length) (T % rain.length)) (nmK_nodup ok.nd) (fun d s => Keep [D] s2 s) (fun d s hI => ⟨trivial, ?_⟩) (by simp; omega) ?_ ?_ k3.nil hD
  · exact Ab.seqAt_lst (hI.get hFL (by simp; omega))
  · intro d k rest s e kk hs
    obtain ⟨e1, e2, e3⟩ := Vc.range_split e
    have hb : bars[k]? = some bars[k] := List.getElem?_eq_getElem e3
    have hfk : fls[k]? = some (fls.getD k 0) := by rw [List.getD_eq_getElem?_getD, List.getElem?_eq_getElem (by omega)]; rfl
    have hF2 : FlowsOk rain bars s1.length fls s := hF.keep kk fun z hz => .inr (by rw [List.mem_singleton.mp hz]; exact l3)
    obtain ⟨sl, S, rs, O⟩ := flow_at hF2 hfk hb
    generalize hbb : bars[k] = b at *
    generalize hff : fls.getD k 0 = fl at *
    repeat' (first | array_mem_dec | fail)
    refine ⟨rfl, ?_⟩
    obtain ⟨fs, w1, w2⟩ := O.w.at_
    repeat' (first | array_mem_dec | fail)
    refine Vc.via0 (sums_spec O hR ht) fun v s4 hv => ?_
    obtain ⟨rfl, k4⟩ := hv
    refine ⟨by unfold totK; rw [hb], k4.get hs (by simp), fun s5 hs5 k5 => Vc.k_seq (Vc.k_nil kk k4) k5 fun z hz => .inl hz⟩
  · intro s kk hs
    exact ⟨D, rfl, hs, Vc.k_seq (k1.trans k2) kk fun z hz => .inr (by rw [List.mem_singleton.mp hz]; have := k1.1; have := k2.1; omega), by have := k1.1; have := k2.1; omega⟩
def Bm (cap : Int) (draws : List Int) (I : Nat → List Int) (size T : Nat) : Prop := Miss cap draws I (T / size) (T % size)
theorem last_miss {fl sl : Nat} {cap : Int} {draws : List Int} {I : Nat → List Int} {S : List Fl.Str} {rs : List Nat} {st : Store} (O : FOk fl sl cap draws I S rs st) {z : Fl.Str} (hz : S[S.length - 1]? = some z) : Fl.Good cap draws I z ∧ ∀ n, z.begin ≤ n → Fl.Within n z.begin z.count := by
  have hg := O.good z (List.mem_of_getElem? hz)
  refine ⟨hg, fun n hn => ⟨hn, fun k hk => ?_⟩⟩
  have e : S = S.dropLast ++ [z] := by
    have hne := O.ne
    rw [List.getElem?_eq_getElem (by have := List.length_pos_iff.mpr hne; omega)] at hz
    rw [← Option.some.inj hz, ← List.getLast_eq_getElem hne]
    exact (List.dropLast_concat_getLast hne).symm
  have ch := O.ch
  rw [e] at ch
  rw [Fl.chain_last ch] at hk
  cases hk
theorem first_missed_spec {n : Str} {T : Nat} (ok : RowOk rain bars) (h : st[i]? = some (.ins 13 (RF rain bars))) (hT : T ≤ 1000000000000000000) {k : Nat} {b : Bar} (hb : bars[k]? = some b) (hn : b.nm = n) :
    WpR (f_first_missed [.ref i, .str n, .int T] st) (fun v s => Keep [] st s ∧ ((∃ T' : Nat, v = .int T' ∧ T ≤ T' ∧ Bm b.cap b.dr (Ib rain b (UK rain (bars.take k))) rain.length T' ∧ ∀ t, T ≤ t → t < T' → ¬Bm b.cap b.dr (Ib rain b (UK rain (bars.take k))) rain.length t) ∨ (v = .non ∧ ∀ t, T ≤ t → ¬Bm b.cap b.dr (Ib rain b (UK rain (bars.take k))) rain.length t))) (fun _ _ => False) := by
  have n0 := ok.n0; have n1 := ok.n1; have b1 := ok.b1
  have hk : (bars.map Bar.nm).idxOf n = k := by
    refine idxOf_take (by rw [List.getElem?_map, hb, ← hn]; rfl) ?_
    rw [← hn, ← List.map_take]
    exact take_not_mem ok.nd hb
  have hmem : n ∈ bars.map Bar.nm := by rw [← hn]; exact List.mem_map_of_mem (List.mem_of_getElem? hb)
  refine Vc.b_def rfl ?_
  unfold m_first_missed
  repeat' (first | array_mem_dec | fail)
  refine Vc.via (place_spec (by omega) h) (fun v s1 hv => ?_) (fun x s hx => absurd hmem hx.2.1)
  obtain ⟨rfl, _, k1⟩ := hv
  rw [hk]
  repeat' (first | array_mem_dec | fail)
  refine Vc.via val_spec (fun v s hv => ?_) (fun x s hx => by exact absurd ⟨by omega, by omega⟩ hx.2.2)
  obtain ⟨rfl, rfl, _⟩ := hv
  have h1 := k1.get h (by simp)
  repeat' (first | array_mem_dec | fail)
  refine Vc.via0 (rain_spec h1) fun v s hv => ?_
  obtain ⟨rfl, rfl⟩ := hv
  repeat' (first | array_mem_dec | fail)
  refine Vc.via0 (flows_spec ok h1) fun v s2 hv => ?_
  obtain ⟨FL, fls, rfl, hFL, hfl, hF, k2, l2⟩ := hv
  have hkl := (List.getElem?_eq_some_iff.mp hb).1
  have hfk : fls[k]? = some fls[k] := List.getElem?_eq_getElem (by omega)
  obtain ⟨sl, S, rs, O⟩ := flow_at hF hfk hb
  generalize fls[k] = fl at *
  repeat' (first | array_mem_dec | fail)
  refine Vc.v_ixLn hFL hfk ?_
  obtain ⟨fs, w1, w2⟩ := O.w.at_
  rw [List.length_map]
  repeat' (first | array_mem_dec | fail)
  rw [← Int.natCast_ediv, ← Int.natCast_emod]
  have hbok := ok.ok b (List.mem_of_getElem? hb)
  refine Vc.via0 (next_missed_spec O (by rw [hbok.dl]; exact Nat.le_of_lt (Nat.mod_lt T n0))) fun v s3 hv => ?_
  obtain ⟨k3, hv⟩ := hv
  have rl : ∀ n, (Fl.rows b.cap b.dr (Ib rain b (UK rain (bars.take k))) n).length = rain.length := fun n => by rw [rows_len n O.fit, hbok.dl]
  have ml : ∀ n j, Miss b.cap b.dr (Ib rain b (UK rain (bars.take k))) n j → j < rain.length := fun n j ⟨r, h1, _⟩ => by have := (List.getElem?_eq_some_iff.mp h1).1; rw [rl] at this; exact this
  have fr : ∀ t, T ≤ t → From (T / rain.length) (T % rain.length) (t / rain.length) (t % rain.length) := fun t ht => by
    have h1 := Nat.div_add_mod T rain.length
    have h2 := Nat.div_add_mod t rain.length
    have h3 := Nat.div_le_div_right (c := rain.length) ht
    by_cases e : t / rain.length = T / rain.length
    · refine .inl ⟨e, ?_⟩
      rw [e] at h2; omega
    · exact .inr (by omega)
  rcases hv with ⟨n', j', rfl, hm, hf, hmin⟩ | ⟨rfl, hno⟩
  · have hj := ml n' j' hm
    have ed : (n' * rain.length + j') / rain.length = n' := by rw [Nat.mul_comm, Nat.mul_add_div n0, Nat.div_eq_of_lt hj, Nat.add_zero]
    have em : (n' * rain.length + j') % rain.length = j' := by rw [Nat.mul_comm, Nat.mul_add_mod, Nat.mod_eq_of_lt hj]
    repeat' (first | array_mem_dec | fail)
    refine ⟨k1.trans (k2.trans k3), .inl ⟨n' * rain.length + j', ?_, ?_, ?_, fun t h1 h2 hb2 => ?_⟩⟩
    · rw [Int.natCast_add, Int.natCast_mul]
    · have h1 := Nat.div_add_mod T rain.length
      rcases hf with ⟨e, hf⟩ | hf
      · subst e; rw [Nat.mul_comm]; omega
      · have : (T / rain.length + 1) * rain.length ≤ n' * rain.length := Nat.mul_le_mul_right _ hf
        have h3 := Nat.mod_lt T n0
        rw [Nat.add_mul, Nat.one_mul, Nat.mul_comm] at this
        omega
    · unfold Bm; rw [ed, em]; exact hm
    · have h4 := Nat.div_add_mod t rain.length
      have h5 := Nat.mod_lt t n0
      rcases hmin _ _ hb2 (fr t h1) with q | ⟨q1, q2⟩
      · have : (n' + 1) * rain.length ≤ t / rain.length * rain.length := Nat.mul_le_mul_right _ q
        rw [Nat.add_mul, Nat.one_mul, Nat.mul_comm (t / rain.length)] at this
        omega
      · rw [← q1, Nat.mul_comm] at h4; omega
  · repeat' (first | array_mem_dec | fail)
    exact ⟨k1.trans (k2.trans k3), .inr ⟨rfl, fun t ht hb2 => hno _ _ (fr t ht) hb2⟩⟩
end

theorem rec_late {c : Nat} (a : Nat → Int) (r : ∀ k, 0 ≤ a k ∧ a k ≤ c) (m : (∀ k, a k ≤ a (k + 1)) ∨ ∀ k, a (k + 1) ≤ a k) (st : ∀ k, a (k + 1) = a k → a (k + 2) = a (k + 1)) : ∀ n, c ≤ n → a n = a c := by
  have stay : ∀ j d, a (j + 1) = a j → a (j + d) = a j := by
    intro j d h
    have : a (j + d) = a j ∧ a (j + d + 1) = a (j + d) := by
      induction d with
      | zero => exact ⟨rfl, h⟩
      | succ d ih => exact ⟨by rw [← Nat.add_assoc, ih.2, ih.1], by rw [← Nat.add_assoc]; exact st _ ih.2⟩
    exact this.1
  have ex : ∃ j, j ≤ c ∧ a (j + 1) = a j := by
    rcases m with m | m
    · have : ∀ k : Nat, (k : Int) ≤ a k ∨ ∃ j, j < k ∧ a (j + 1) = a j := by
        intro k
        induction k with
        | zero => exact .inl (by have := (r 0).1; omega)
        | succ k ih =>
          rcases ih with ih | ⟨j, h1, h2⟩
          · by_cases e : a (k + 1) = a k
            · exact .inr ⟨k, by omega, e⟩
            · have := m k; exact .inl (by omega)
          · exact .inr ⟨j, by omega, h2⟩
      rcases this (c + 1) with h | ⟨j, h1, h2⟩
      · have := (r (c + 1)).2; omega
      · exact ⟨j, by omega, h2⟩
    · have : ∀ k : Nat, (k : Int) + a k ≤ c ∨ ∃ j, j < k ∧ a (j + 1) = a j := by
        intro k
        induction k with
        | zero => exact .inl (by have := (r 0).2; omega)
        | succ k ih =>
          rcases ih with ih | ⟨j, h1, h2⟩
          · by_cases e : a (k + 1) = a k
            · exact .inr ⟨k, by omega, e⟩
            · have := m k; exact .inl (by omega)
          · exact .inr ⟨j, by omega, h2⟩
      rcases this (c + 1) with h | ⟨j, h1, h2⟩
      · have := (r (c + 1)).1; omega
      · exact ⟨j, by omega, h2⟩
  obtain ⟨j, h1, h2⟩ := ex
  intro n hn
  have e1 := stay j (n - j) h2
  have e2 := stay j (c - j) h2
  rw [show j + (n - j) = n by omega] at e1
  rw [show j + (c - j) = c by omega] at e2
  rw [e1, e2]
theorem rows_late {cap : Int} {draws : List Int} {I : Nat → List Int} {Z : Nat} (F : Fl.Fit cap draws I) (hI : ∀ n, Z ≤ n → I n = I Z) : ∀ n, Z + cap.toNat ≤ n → Fl.rows cap draws I n = Fl.rows cap draws I (Z + cap.toNat) := by
  have c0 := F.c0
  have step : ∀ k, Fl.Lv cap draws I (Z + k + 1) = Fl.fin cap (Fl.Lv cap draws I (Z + k)) ((I Z).zip draws) := fun k => by rw [Fl.Lv_succ, hI _ (by omega)]
  have rg := Fl.Lv_range F
  have mono : ∀ {L L' : Int}, 0 ≤ L → L ≤ L' → L' ≤ cap → Fl.fin cap L ((I Z).zip draws) ≤ Fl.fin cap L' ((I Z).zip draws) := fun h0 h h1 => Fl.fin_mono c0 (F.pos Z) h0 h h1
  have key := rec_late (c := cap.toNat) (fun k => Fl.Lv cap draws I (Z + k)) (fun k => by have := rg (Z + k); omega) (by
    by_cases h : Fl.Lv cap draws I (Z + 0) ≤ Fl.Lv cap draws I (Z + 1)
    · refine .inl fun k => ?_
      induction k with
      | zero => exact h
      | succ k ih =>
        have e1 := step k; have e2 := step (k + 1)
        rw [Nat.add_assoc] at e1 e2
        rw [e1, e2]
        exact mono (rg _).1 ih (rg _).2
    · refine .inr fun k => ?_
      induction k with
      | zero => exact Int.le_of_lt (Int.not_le.mp h)
      | succ k ih =>
        have e1 := step k; have e2 := step (k + 1)
        rw [Nat.add_assoc] at e1 e2
        rw [e1, e2]
        exact mono (rg _).1 ih (rg _).2) (fun k h => by
    have e1 := step k; have e2 := step (k + 1)
    rw [Nat.add_assoc] at e1 e2
    rw [show k + 2 = k + 1 + 1 from rfl, e2, h, ← e1, h])
  intro n hn
  have := key (n - Z) (by omega)
  rw [show Z + (n - Z) = n by omega] at this
  unfold Fl.rows
  rw [this, hI n (by omega), hI (Z + cap.toNat) (by omega)]
def late (bs : List Bar) : Nat := (bs.map fun b => b.cap.toNat).sum
theorem late_snoc (bs : List Bar) (b : Bar) : late (bs ++ [b]) = late bs + b.cap.toNat := by unfold late; rw [List.map_append, List.sum_append]; simp
section
variable {i : Nat} {rain : List Int} {bars : List Bar} {st : Store}
theorem fit_at {k : Nat} {b : Bar} (ok : RowOk rain bars) (hb : bars[k]? = some b) : Fl.Fit b.cap b.dr (Ib rain b (UK rain (bars.take k))) :=
  fit_of (ok.ok b (List.mem_of_getElem? hb)) (fun r hr => (ok.r01 r hr).1) (uok ok k)
theorem take_snoc {k : Nat} {b : Bar} (hb : bars[k]? = some b) : bars.take (k + 1) = bars.take k ++ [b] := by rw [List.take_succ, hb]; rfl
theorem uk_late (ok : RowOk rain bars) : ∀ k, k ≤ bars.length → ∀ n, late (bars.take k) ≤ n → UK rain (bars.take k) n = UK rain (bars.take k) (late (bars.take k)) := by
  intro k
  induction k with
  | zero => intro _ n _; simp [UK]
  | succ k ih =>
    intro hk n hn
    have hb : bars[k]? = some bars[k] := List.getElem?_eq_getElem (by omega)
    generalize bars[k] = b at hb
    rw [take_snoc hb, late_snoc] at hn ⊢
    rw [UK_snoc]
    unfold outF
    rw [rows_late (fit_at ok hb) (fun m hm => by unfold Ib; rw [ih (by omega) m hm]) n hn]
theorem late_le {C : Nat} (hC : ∀ b ∈ bars, b.cap.toNat ≤ C) (k : Nat) : late (bars.take k) ≤ k * C := by
  induction k with
  | zero => rw [List.take_zero, Nat.zero_mul]; exact Nat.le_refl _
  | succ k ih =>
    rw [Nat.succ_mul]
    cases e : bars[k]? with
    | none =>
      rw [List.take_succ, e, Option.toList, List.append_nil]; exact Nat.le_trans ih (Nat.le_add_right _ _)
    | some b => rw [take_snoc e, late_snoc]; exact Nat.add_le_add ih (hC b (List.mem_of_getElem? e))
theorem rows_far {k : Nat} {b : Bar} (ok : RowOk rain bars) (hb : bars[k]? = some b) {n : Nat} (hn : 5000000000 ≤ n) : Fl.rows b.cap b.dr (Ib rain b (UK rain (bars.take k))) n = Fl.rows b.cap b.dr (Ib rain b (UK rain (bars.take k))) 5000000000 := by
  have hk := (List.getElem?_eq_some_iff.mp hb).1
  have b1 := ok.b1
  have l1 := late_le (bars := bars) (C := 1000000000) (fun b hb => by have := (ok.ok b hb).c1; omega) (k + 1)
  rw [take_snoc hb, late_snoc] at l1
  have r := rows_late (fit_at ok hb) (fun m hm => by unfold Ib; rw [uk_late ok k (by omega) m hm])
  have hk5 : (k + 1) * 1000000000 ≤ 5000000000 := by omega
  rw [r n (by omega), ← r 5000000000 (by omega)]
end

theorem next_at {size T : Nat} (h : 0 < size) : (T % size + 1 < size ∧ (T + 1) / size = T / size ∧ (T + 1) % size = T % size + 1) ∨ (T % size + 1 = size ∧ (T + 1) / size = T / size + 1 ∧ (T + 1) % size = 0) := by
  have h1 := Nat.div_add_mod T size
  have h2 := Nat.mod_lt T h
  by_cases e : T % size + 1 < size
  · have e1 : T + 1 = T % size + 1 + size * (T / size) := by omega
    refine .inl ⟨e, ?_, ?_⟩
    · conv => lhs; rw [e1]
      rw [Nat.add_mul_div_left _ _ h, Nat.div_eq_of_lt e, Nat.zero_add]
    · conv => lhs; rw [e1]
      rw [Nat.add_mul_mod_self_left, Nat.mod_eq_of_lt e]
  · have e0 : T % size + 1 = size := by omega
    have e1 : T + 1 = size * (T / size + 1) := by rw [Nat.mul_add, Nat.mul_one]; omega
    refine .inr ⟨e0, ?_, ?_⟩
    · conv => lhs; rw [e1]
      rw [Nat.mul_div_cancel_left _ h]
    · conv => lhs; rw [e1]
      rw [Nat.mul_mod_right]
theorem tot_step {cap : Int} {draws : List Int} {I : Nat → List Int} {size T : Nat} (v : Fl.R4 → Int) (F : Fl.Fit cap draws I) (hs : draws.length = size) (h : 0 < size) : ∃ r, (Fl.rows cap draws I (T / size))[T % size]? = some r ∧
    Fl.tot cap draws I v ((T + 1) / size) + Fl.sumv v ((Fl.rows cap draws I ((T + 1) / size)).take ((T + 1) % size)) = Fl.tot cap draws I v (T / size) + Fl.sumv v ((Fl.rows cap draws I (T / size)).take (T % size)) + v r := by
  have hl := rows_len (T / size) F
  have h2 := Nat.mod_lt T h
  have e : (Fl.rows cap draws I (T / size))[T % size]? = some _ := List.getElem?_eq_getElem (by omega)
  refine ⟨_, e, ?_⟩
  generalize (Fl.rows cap draws I (T / size))[T % size] = r at e
  have e3 : Fl.sumv v ((Fl.rows cap draws I (T / size)).take (T % size + 1)) = Fl.sumv v ((Fl.rows cap draws I (T / size)).take (T % size)) + v r := by
    unfold Fl.sumv
    rw [List.take_succ, e, List.map_append, List.sum_append]; simp
  rcases next_at (T := T) h with ⟨a, b, c⟩ | ⟨a, b, c⟩
  · rw [b, c, e3]; omega
  · rw [b, c, Fl.tot, List.take_zero]
    rw [a, List.take_of_length_le (by omega)] at e3
    rw [e3]
    simp [Fl.sumv]
    omega
section
variable {i : Nat} {rain : List Int} {bars : List Bar} {st : Store}
def limK (rain : List Int) (bars : List Bar) (k : Nat) : Val := match bars[k]? with
  | some b => V3 fun v => Fl.sumv v (Fl.rows b.cap b.dr (Ib rain b (UK rain (bars.take k))) 5000000000)
  | none => .non
theorem long_run_spec (ok : RowOk rain bars) (h : st[i]? = some (.ins 13 (RF rain bars))) : WpR (f_long_run [.ref i] st) (fun v s => ∃ D, v = .ref D ∧ s[D]? = some (.dct ((List.range bars.length).map fun k => (.inr (nmK bars k), limK rain bars k))) ∧ Keep [] st s ∧ st.length ≤ D) (fun _ _ => False) := by
  have n0 := ok.n0; have n1 := ok.n1; have b1 := ok.b1
  refine Vc.b_def rfl ?_
  unfold m_long_run
  repeat' (first | array_mem_dec | fail)
  refine Vc.via0 (names_spec (by omega) h) fun v s1 hv => ?_
  obtain ⟨rfl, k1⟩ := hv
  repeat' (first | array_mem_dec | fail)
  refine Vc.via0 (flows_spec ok (k1.get h (by simp))) fun v s2 hv => ?_
  obtain ⟨FL, fls, rfl, hFL, hfl, hF, k2, l2⟩ := hv
  refine ⟨_, _, _, _, rfl, Vc.items_lst hFL, ?_⟩
  rw [Vc.zip_range ("" : Str) (0 : Nat) (by rw [hfl, List.length_map])]
  repeat' (first | array_mem_dec | fail)
  refine Vc.dc_new fun D s3 hD k3 l3 => ?_
  rw [List.length_map]
  have lFL := Vc.lt_of hFL
  refine Vc.dcY_l (nmK bars) (limK rain bars) (nmK_nodup ok.nd) (fun d s => Keep [D] s2 s) (fun d s hI => ⟨trivial, ?_⟩) (by simp; omega) ?_ ?_ k3.nil hD
  · exact Ab.seqAt_lst (hI.get hFL (by simp; omega))
  · intro d k rest s e kk hs
    obtain ⟨e1, e2, e3⟩ := Vc.range_split e
    have hb : bars[k]? = some bars[k] := List.getElem?_eq_getElem e3
    have hfk : fls[k]? = some (fls.getD k 0) := by rw [List.getD_eq_getElem?_getD, List.getElem?_eq_getElem (by omega)]; rfl
    have hF2 : FlowsOk rain bars s1.length fls s := hF.keep kk fun z hz => .inr (by rw [List.mem_singleton.mp hz]; exact l3)
    obtain ⟨sl, S, rs, O⟩ := flow_at hF2 hfk hb
    generalize hbb : bars[k] = b at *
    generalize hff : fls.getD k 0 = fl at *
    obtain ⟨z, hz, _⟩ := O.set
    have lm := last_miss O hz
    repeat' (first | array_mem_dec | fail)
    refine ⟨rfl, ?_⟩
    obtain ⟨fs, w1, w2⟩ := O.w.at_
    repeat' (first | array_mem_dec | fail)
    refine Vc.via0 (last_sums_spec O hz) fun v s4 hv => ?_
    obtain ⟨rfl, k4⟩ := hv
    refine ⟨?_, k4.get hs (by simp), fun s5 hs5 k5 => Vc.k_seq (Vc.k_nil kk k4) k5 fun z hz => .inl hz⟩
    unfold limK
    rw [hb]
    have sm := lm.1.same (max z.begin 5000000000) (lm.2 _ (by omega))
    rw [rows_far ok hb (by omega)] at sm
    unfold V3
    dsimp only
    rw [Fl.sumv_p3 p3_drawn sm, Fl.sumv_p3 p3_missed sm, Fl.sumv_p3 p3_over sm]
  · intro s kk hs
    exact ⟨D, rfl, hs, Vc.k_seq (k1.trans k2) kk fun z hz => .inr (by rw [List.mem_singleton.mp hz]; have := k1.1; have := k2.1; omega), by have := k1.1; have := k2.1; omega⟩
theorem limD_get {k : Nat} {b : Bar} (ok : RowOk rain bars) (hb : bars[k]? = some b) : Ab.valW ((List.range bars.length).map fun k => (.inr (nmK bars k), limK rain bars k)) (.inr b.nm) = some (V3 fun v => Fl.sumv v (Fl.rows b.cap b.dr (Ib rain b (UK rain (bars.take k))) 5000000000)) := by
  have := Vc.valW_map (xs := List.range bars.length) (kf := nmK bars) (vf := limK rain bars) (nmK_nodup ok.nd) (x := k) (List.mem_range.mpr (List.getElem?_eq_some_iff.mp hb).1)
  rw [nmK_get hb] at this
  rw [this]
  unfold limK
  rw [hb]
end

theorem seqAt_keep {S : List Nat} {st s : Store} {c : Nat} {xs : List Val} (k : Keep S st s) (hc : c ∉ S) (e : seqAt st c = some xs) : seqAt s c = some xs := by
  unfold seqAt at e ⊢
  cases q : st[c]? with
  | none => rw [q] at e; cases e
  | some cell => rw [q] at e; rw [k.get q hc]; exact e
structure Drawn (ns : List Int) (h c : Nat) (st : Store) : Prop where
  hd : ∃ a m p : Int, st[h]? = some (.lst [.ref c, .int a, .int m, .int p]) ∧ 0 ≤ a ∧ 0 ≤ p
  sc : seqAt st c = some (ns.map .int)
  ne : c ≠ h
theorem Drawn.lt {ns : List Int} {h c : Nat} {st : Store} (d : Drawn ns h c st) : h < st.length := by
  obtain ⟨a, m, p, e, _⟩ := d.hd
  exact Vc.lt_of e
theorem Drawn.keep {ns : List Int} {h c : Nat} {S : List Nat} {st s : Store} (d : Drawn ns h c st) (k : Keep S st s) (h1 : h ∉ S) (h2 : c ∉ S) : Drawn ns h c s := by
  obtain ⟨a, m, p, e, e1, e2⟩ := d.hd
  exact ⟨⟨a, m, p, k.get e h1, e1, e2⟩, seqAt_keep k h2 d.sc, d.ne⟩
theorem Drawn.keep0 {ns : List Int} {h c : Nat} {st s : Store} (d : Drawn ns h c st) (k : Keep [] st s) : Drawn ns h c s := d.keep k (by simp) (by simp)
theorem start_spec {ns : List Int} {c : Nat} {st : Store} (hs : seqAt st c = some (ns.map .int)) (hl : ns.length ≤ 63) : WpR (f_law_start [.ref c] st) (fun v s => ∃ h, v = .ref h ∧ Drawn ns h c s ∧ Keep [] st s) (fun _ _ => False) := by
  refine Vc.b_def rfl ?_
  unfold m_law_start
  repeat' (first | array_mem_dec | fail)
  refine ⟨(ns.map .int, fun st' => seqAt st' c = some (ns.map .int)), by unfold Ab.itemsOf; dsimp only; rw [hs], ?_⟩
  refine Vc.for_l (fun d ρ s => ∃ (m : Int) (a : Option Val), ρ = [some (.ref c), some (.int m), a] ∧ s = st) (fun d ρ s hI => by obtain ⟨_, _, _, rfl⟩ := hI; exact hs) ?_ ?_ ⟨1, none, rfl, rfl⟩
  · rintro d x rest ρ s e ⟨m, a, rfl, rfl⟩
    repeat' (first | array_mem_dec | fail)
    exact ⟨_, _, rfl, rfl⟩
  · rintro ρ s ⟨m, a, rfl, rfl⟩
    repeat' (first | array_mem_dec | fail)
    rename_i D s2 hD k2 l2
    have hc : c < s.length := by
      unfold seqAt at hs
      cases q : s[c]? with
      | none => rw [q] at hs; cases hs
      | some cell => exact Vc.lt_of q
    exact ⟨D, rfl, ⟨⟨_, _, _, hD, by omega, by omega⟩, seqAt_keep k2 (by simp) hs, by omega⟩, k2⟩
theorem v_ixS {Q : Val → Store → Prop} {X : Exc → Store → Prop} {st : Store} {i : Nat} {z : Int} {xs : List Val} {w : Val} (h : seqAt st i = some xs) (hi : L2.atI xs z = some w) (q : Q w st) : WpR (Ab.vIx (.ref i) (.int z) st) Q X := by
  simp only [Vc.uR] at *
  exact (Ab.ix_ref h hi).mpr q
theorem v_lenS {Q : Val → Store → Prop} {X : Exc → Store → Prop} {st : Store} {i : Nat} {xs : List Val} (h : seqAt st i = some xs) (q : Q (.int xs.length) st) : WpR (Ab.bLen [.ref i] st) Q X := by
  simp only [Vc.uR] at *
  dsimp only [Ab.bLen]; rw [h]; exact q
theorem drawn_spec {ns : List Int} {h c : Nat} {st : Store} {lim : Int} (d : Drawn ns h c st) (h0 : 0 < lim) (h1 : lim < 2 ^ 64) :
    WpR (f_law_drawn [.ref h, .int lim] st) (fun v s => (∃ r : Int, v = .int r ∧ 0 ≤ r ∧ r < lim) ∧ Drawn ns h c s ∧ Keep [h] st s) (fun _ _ => False) := by
  obtain ⟨a, m, p, e, a0, p0⟩ := d.hd
  have sc := d.sc
  have ne := d.ne
  have hn : c ∉ [h] := by simpa using ne
  have rg : ∀ z : Int, 0 ≤ z % lim ∧ z % lim < lim := fun z => ⟨Int.emod_nonneg _ (by omega), Int.emod_lt_of_pos _ h0⟩
  refine Vc.b_def rfl ?_
  unfold m_law_drawn
  repeat' (first | array_mem_dec | fail)
  refine Vc.ite_d (fun hp => ?_) (fun hp => ?_)
  · repeat' (first | array_mem_dec | fail)
    refine Vc.ex_subL e rfl ?_
    repeat' (first | array_mem_dec | fail)
    rename_i s1 hs1 k1
    exact ⟨⟨_, rfl, rg _⟩, ⟨⟨a, m, p / lim, hs1, a0, Int.ediv_nonneg p0 (by omega)⟩, seqAt_keep k1 hn sc, ne⟩, k1⟩
  · repeat' (first | array_mem_dec | fail)
    refine Vc.ex_subL e rfl ?_
    repeat' (first | array_mem_dec | fail)
    rename_i s1 hs1 k1
    have hs1 : s1[h]? = some (.lst [.ref c, .int (a + 1), .int m, .int p]) := hs1
    have sc1 := seqAt_keep k1 hn sc
    repeat' (first | array_mem_dec | fail)
    refine v_lenS sc1 ?_
    rw [List.length_map]
    repeat' (first | array_mem_dec | fail)
    refine Vc.ite_d (fun hle => ?_) (fun hle => ?_)
    · repeat' (first | array_mem_dec | fail)
      obtain ⟨z, hz⟩ : ∃ z, ns[a.toNat]? = some z := ⟨_, List.getElem?_eq_getElem (by omega)⟩
      refine v_ixS (w := .int z) sc1 (by rw [show a + 1 - 1 = ((a.toNat : Nat) : Int) by omega]; exact L2.atI_nat (by rw [List.getElem?_map, hz]; rfl)) ?_
      repeat' (first | array_mem_dec | fail)
      refine Vc.ite_d (fun hge => ?_) (fun hlt => ?_)
      · repeat' (first | array_mem_dec | fail)
        refine Vc.ex_subL hs1 rfl ?_
        repeat' (first | array_mem_dec | fail)
        rename_i s2 hs2 k2
        exact ⟨⟨_, rfl, rg _⟩, ⟨⟨a + 1, m, z / lim, hs2, by omega, Int.ediv_nonneg (by omega) (by omega)⟩, seqAt_keep k2 hn sc1, ne⟩, k1.trans k2⟩
      · repeat' (first | array_mem_dec | fail)
        refine Vc.ex_subL hs1 rfl ?_
        repeat' (first | array_mem_dec | fail)
        rename_i s2 hs2 k2
        exact ⟨⟨_, rfl, rg _⟩, ⟨⟨a + 1, m, 0, hs2, by omega, by omega⟩, seqAt_keep k2 hn sc1, ne⟩, k1.trans k2⟩
    · repeat' (first | array_mem_dec | fail)
      refine Vc.ex_subL hs1 rfl ?_
      repeat' (first | array_mem_dec | fail)
      rename_i s2 hs2 k2
      have hs2 : s2[h]? = some (.lst [.ref c, .int (a + 1), .int ((m * 48271 + 11) % 2147483647), .int p]) := hs2
      repeat' (first | array_mem_dec | fail)
      exact ⟨⟨_, rfl, rg _⟩, ⟨⟨a + 1, _, p, hs2, by omega, p0⟩, seqAt_keep k2 hn sc1, ne⟩, k1.trans k2⟩
def nm5 : List Str := ["top", "b", "c", "dd", "end"]
theorem nm5_ok : ∀ z ∈ nm5, nameOk z ∧ PyData.canLay0 (.str z) = true := by
  intro z hz
  simp only [nm5, List.mem_cons, List.not_mem_nil, or_false] at hz
  rcases hz with e | e | e | e | e <;> subst e <;> exact ⟨⟨by decide +kernel, by decide +kernel, by decide +kernel⟩, by decide +kernel⟩
theorem nm5_nd : nm5.Nodup := by decide +kernel

structure Plan (rain : List Int) (bars : List Bar) (most high : Int) : Prop where
  n0 : 0 < rain.length
  n1 : rain.length ≤ 4
  r01 : ∀ r ∈ rain, 0 ≤ r ∧ r ≤ high
  b0 : 0 < bars.length
  b1 : (bars.length : Int) ≤ most
  nms : bars.map Bar.nm = nm5.take bars.length
  ok : ∀ b ∈ bars, 0 ≤ b.cap ∧ b.cap ≤ 9 * high ∧ 0 ≤ b.roof ∧ b.roof < 3 ∧ b.dr.length = rain.length ∧ ∀ d ∈ b.dr, 0 ≤ d ∧ d ≤ high
theorem Plan.row {rain : List Int} {bars : List Bar} {most high : Int} (p : Plan rain bars most high) (h1 : most ≤ 5) (h2 : high ≤ 1000000) : RowOk rain bars := by
  have hn : ∀ b ∈ bars, b.nm ∈ nm5 := fun b hb => List.mem_of_mem_take (p.nms ▸ List.mem_map_of_mem hb)
  have := p.n1; have := p.b1
  exact ⟨p.n0, by omega, fun r hr => ⟨(p.r01 r hr).1, by have := (p.r01 r hr).2; omega⟩, p.b0, by omega,
    fun b hb => by
      obtain ⟨c0, c1, r0, r1, dl, hd⟩ := p.ok b hb
      exact ⟨(nm5_ok _ (hn b hb)).1, (nm5_ok _ (hn b hb)).2, c0, by omega, r0, by omega, dl, fun d hh => ⟨(hd d hh).1, by have := (hd d hh).2; omega⟩⟩,
    by rw [p.nms]; exact nm5_nd.sublist (List.take_sublist _ _)⟩
theorem Drawn.ltc {ns : List Int} {h c : Nat} {st : Store} (d : Drawn ns h c st) : c < st.length := by
  have hs := d.sc
  unfold seqAt at hs
  cases q : st[c]? with
  | none => rw [q] at hs; cases hs
  | some cell => exact Vc.lt_of q
theorem drawn_lc {ns : List Int} {h c n : Nat} {lim : Int} {st : Store} {g : Nat} {ρ : Slots} {elt : ME} {X : Exc → Store → Prop} {Q : Val → Store → Prop} {okp : Store → Prop} (hok : ∀ s, okp s) (hn : n ≤ 1000) (d0 : Drawn ns h c st)
    (he : ∀ (i : Nat) s, Drawn ns h c s → WpR (elt (ρ.set g (some (.int i))) s) (fun v s' => (∃ r : Int, v = .int r ∧ 0 ≤ r ∧ r < lim) ∧ Drawn ns h c s' ∧ Keep [h] s s') fun _ _ => False)
    (q : ∀ (D : Nat) (rs : List Int) (s : Store), s[D]? = some (.lst (rs.map .int)) → rs.length = n → (∀ r ∈ rs, 0 ≤ r ∧ r < lim) → Drawn ns h c s → Keep [h] st s → st.length ≤ D → Q (.ref D) s) :
    WpR (Ab.lcM (Se.gSet g) Se.mYes elt okp st.length ρ ((List.range n).map fun i : Nat => Val.int i) (st ++ [.lst []])) Q X := by
  refine Vc.lc_new fun D s0 hD k0 hl => ?_
  have h1 := d0.lt; have h2 := d0.ltc
  refine Vc.lcY_l (fun d acc s => ∃ rs : List Int, acc = rs.map .int ∧ rs.length = d.length ∧ (∀ r ∈ rs, 0 ≤ r ∧ r < lim) ∧ Drawn ns h c s ∧ Keep [h] st s ∧ D < s.length) (fun _ _ s _ => hok s) ?_ ?_ ⟨[], rfl, rfl, (fun _ z => by cases z), d0.keep k0 (by simp) (by simp), by (first | sizeOf_list_dec | fail), Vc.lt_of hD⟩ hD
  · rintro d x rest acc s e ⟨rs, rfl, hl1, hr, dr, kp, _⟩ hs
    obtain ⟨e1, e2, e3⟩ := Vc.range_split e
    repeat' (first | array_mem_dec | fail)
    refine Vc.via0 (he x s dr) fun v s1 hv => ?_
    obtain ⟨⟨r, rfl, r0, r1⟩, d1, k1⟩ := hv
    have hs1 : s1[D]? = some (.lst (rs.map .int)) := k1.get hs (by simp; omega)
    refine ⟨hs1, by simp; omega, ?_⟩
    intro s2 hs2 k2
    refine ⟨rs ++ [r], by simp, by simp [hl1], fun z hz => ?_, d1.keep k2 (by simp; omega) (by simp; omega), ?_, Vc.lt_of hs2⟩
    · rcases List.mem_append.mp hz with hz | hz
      · exact hr z hz
      · rw [List.mem_singleton.mp hz]; exact ⟨r0, r1⟩
    · (first | sizeOf_list_dec | fail)
  · rintro acc s ⟨rs, rfl, hl1, hr, dr, kp, _⟩ hs
    exact q D rs s hs (by simpa using hl1) hr dr kp hl
theorem times01 {r lim : Int} {b : Bool} (h0 : 0 ≤ r) (h1 : r < lim) : 0 ≤ r * (if b then 1 else 0) ∧ r * (if b then 1 else 0) < lim := by
  cases b <;> simp <;> omega
theorem times2 {r r' lim : Int} (h0 : 0 ≤ r) (h1 : r < lim) (h2 : 0 ≤ r') (h3 : r' < 2) : 0 ≤ r * r' ∧ r * r' < lim := by
  have : r' = 0 ∨ r' = 1 := by omega
  rcases this with e | e <;> subst e <;> simp <;> omega
theorem pick2 {a b r : Int} (h0 : 0 ≤ r) (h1 : r < 2) : ∃ z : Int, L2.atI [.int a, .int b] r = some (Val.int z) ∧ (z = a ∨ z = b) := by
  have : r = 0 ∨ r = 1 := by omega
  rcases this with e | e <;> subst e
  · exact ⟨a, rfl, .inl rfl⟩
  · exact ⟨b, rfl, .inr rfl⟩
theorem pick4 {r : Int} (h0 : 0 ≤ r) (h1 : r < 4) : ∃ z : Int, L2.atI [.int 1, .int 1, .int 0, .int 2] r = some (Val.int z) ∧ 0 ≤ z ∧ z < 3 := by
  have : r = 0 ∨ r = 1 ∨ r = 2 ∨ r = 3 := by omega
  rcases this with e | e | e | e <;> subst e
  · exact ⟨1, rfl, by omega, by omega⟩
  · exact ⟨1, rfl, by omega, by omega⟩
  · exact ⟨0, rfl, by omega, by omega⟩
  · exact ⟨2, rfl, by omega, by omega⟩
theorem plan_spec {ns : List Int} {h c : Nat} {most high : Int} {st : Store} (d0 : Drawn ns h c st) (m0 : 0 < most) (m1 : most ≤ 5) (w0 : 0 ≤ high) (w1 : high ≤ 1000000) :
    WpR (f_law_plan [.ref h, .int most, .int high] st) (fun v s => ∃ rain bars B, v = .tup [.tup (rain.map .int), .ref B] ∧ s[B]? = some (.lst (bars.map Bar.val)) ∧ Plan rain bars most high ∧ Drawn ns h c s ∧ Keep [h] st s ∧ st.length ≤ B) (fun _ _ => False) := by
  have lh := d0.lt; have lc := d0.ltc
  refine Vc.b_def rfl ?_
  unfold m_law_plan
  repeat' (first | array_mem_dec | fail)
  refine Vc.via0 (drawn_spec d0 (by decide) (by decide)) fun v s1 hv => ?_
  obtain ⟨⟨r, rfl, r0, r1⟩, d1, k1⟩ := hv
  repeat' (first | array_mem_dec | fail)
  refine Vc.ex_range1 (by omega) ?_
  refine drawn_lc (lim := high + 1) (ns := ns) (h := h) (c := c) (fun _ => trivial) (by omega) d1 (fun i s d => ?_) fun D rs s3 h3 l3 b3 d3 k3 hDl => ?_
  · repeat' (first | array_mem_dec | fail)
    refine Vc.via0 (drawn_spec d (by omega) (by omega)) fun v s1 hv => ?_
    obtain ⟨⟨r, rfl, r0, r1⟩, d1, k1⟩ := hv
    repeat' (first | array_mem_dec | fail)
    refine Vc.via0 (drawn_spec d1 (by decide) (by decide)) fun v s2 hv => ?_
    obtain ⟨⟨r', rfl, r0', r1'⟩, d2, k2⟩ := hv
    repeat' (first | array_mem_dec | fail)
    exact ⟨⟨_, rfl, times01 r0 r1⟩, d2, by (first | sizeOf_list_dec | fail)⟩
  repeat' (first | array_mem_dec | fail)
  rename_i F s2 hF k2 hFl
  have d2 := d3.keep k2 (by simp) (by simp)
  refine Vc.via0 (drawn_spec d2 m0 (by omega)) fun v s4 hv => ?_
  obtain ⟨⟨nb, rfl, nb0, nb1⟩, d4, k4⟩ := hv
  have hFh : F ≠ h ∧ F ≠ c := by have := k1.1; have := k3.1; omega
  have f4 : s4[F]? = some (.lst (([] : List Bar).map Bar.val)) := k4.get hF (by simp; omega)
  repeat' (first | array_mem_dec | fail)
  refine Vc.ex_range1 (by omega) ?_
  refine Vc.for_l (fun d ρ s => ∃ (bars : List Bar) (a b e f : Option Val), ρ = [some (.ref h), some (.int most), some (.int high), some (.int (1 + r)), some (.tup (rs.map .int)), a, some (.ref F), b, e, f] ∧ s[F]? = some (.lst (bars.map Bar.val)) ∧ bars.length = d.length ∧ bars.map Bar.nm = nm5.take bars.length ∧
    (∀ b ∈ bars, 0 ≤ b.cap ∧ b.cap ≤ 9 * high ∧ 0 ≤ b.roof ∧ b.roof < 3 ∧ b.dr.length = rs.length ∧ ∀ d ∈ b.dr, 0 ≤ d ∧ d ≤ high) ∧ Drawn ns h c s ∧ Keep [h, F] s4 s) (fun _ _ _ _ => trivial) ?_ ?_ ⟨[], _, _, _, _, rfl, f4, rfl, rfl, (fun _ z => by cases z), d4, by (first | sizeOf_list_dec | fail)⟩
  · rintro d x rest ρ s e ⟨bars, a, b, e', f, rfl, hF5, hbl, hnm, hbs, d5, k5⟩
    obtain ⟨e1, e2, e3⟩ := Vc.range_split e
    have hx5 : x < 5 := by omega
    repeat' (first | array_mem_dec | fail)
    refine Vc.ex_range1 (by omega) ?_
    have := Vc.lt_of hF5
    refine drawn_lc (lim := high + 1) (ns := ns) (h := h) (c := c) (fun _ => trivial) (by omega) d5 (fun i s d => ?_) fun D ds s7 h7 l7 b7 d7 k7 hDl => ?_
    · repeat' (first | array_mem_dec | fail)
      refine Vc.via0 (drawn_spec d (by omega) (by omega)) fun v s1 hv => ?_
      obtain ⟨⟨r, rfl, r0, r1⟩, d1, k1⟩ := hv
      repeat' (first | array_mem_dec | fail)
      refine Vc.via0 (drawn_spec d1 (by decide) (by decide)) fun v s2 hv => ?_
      obtain ⟨⟨r', rfl, r0', r1'⟩, d2, k2⟩ := hv
      repeat' (first | array_mem_dec | fail)
      exact ⟨⟨_, rfl, times2 r0 r1 r0' r1'⟩, d2, by (first | sizeOf_list_dec | fail)⟩
    have h7F := k7.get hF5 (by simp; omega)
    repeat' (first | array_mem_dec | fail)
    rename_i T s8 hT k8 hTl
    have d8 := d7.keep k8 (by simp) (by simp)
    refine Vc.via0 (drawn_spec d8 (by decide) (by decide)) fun v s9 hv => ?_
    obtain ⟨⟨q, rfl, q0, q1⟩, d9, k9⟩ := hv
    have lh7 := d7.lt
    have hT9 := k9.get hT (by simp; omega)
    obtain ⟨z, hz, hz2⟩ := pick2 (a := 2 * high + 1) (b := 9 * high + 1) q0 q1
    refine Vc.v_ixL hT9 hz ?_
    repeat' (first | array_mem_dec | fail)
    refine Vc.via0 (drawn_spec d9 (by omega) (by omega)) fun v s10 hv => ?_
    obtain ⟨⟨cap, rfl, c0, c1⟩, d10, k10⟩ := hv
    repeat' (first | array_mem_dec | fail)
    rename_i N s11 hN k11 hNl
    have hx : nm5[x]? = some nm5[x] := List.getElem?_eq_getElem (by simp [nm5]; omega)
    refine Vc.v_ixLn (xs := nm5) (f := .str) hN hx ?_
    repeat' (first | array_mem_dec | fail)
    rename_i R s12 hR k12 hRl
    have d12 := (d10.keep k11 (by simp) (by simp)).keep k12 (by simp) (by simp)
    refine Vc.via0 (drawn_spec d12 (by decide) (by decide)) fun v s13 hv => ?_
    obtain ⟨⟨q2, rfl, q20, q21⟩, d13, k13⟩ := hv
    have lh12 := (d10.keep k11 (by simp) (by simp)).lt
    have hR13 := k13.get hR (by simp; omega)
    obtain ⟨ro, hro, ro0, ro1⟩ := pick4 q20 q21
    refine Vc.v_ixL hR13 hro ?_
    have h13F := k13.get (k12.get (k11.get (k10.get (k9.get (k8.get h7F (by simp)) (by simp; omega)) (by simp; omega)) (by simp)) (by simp)) (by simp; omega)
    repeat' (first | array_mem_dec | fail)
    rename_i s14 h14 k14
    refine ⟨bars ++ [⟨nm5[x], cap, ro, ds⟩], _, _, _, _, rfl, by rw [List.map_append]; exact h14, by simp [hbl], ?_, ?_, d13.keep k14 (by simp; omega) (by simp; omega), by (first | sizeOf_list_dec | fail)⟩
    · rw [List.map_append, hnm, List.length_append, show bars.length = x by omega]
      simp [List.take_succ, hx]
    · intro b hb
      rcases List.mem_append.mp hb with hb | hb
      · exact hbs b hb
      · rw [List.mem_singleton.mp hb]
        exact ⟨c0, by show cap ≤ 9 * high; omega, ro0, ro1, by show ds.length = rs.length; omega, fun d hd => ⟨(b7 d hd).1, by have := (b7 d hd).2; omega⟩⟩
  · rintro ρ s ⟨bars, a, b, e', f, rfl, hF5, hbl, hnm, hbs, d5, k5⟩
    repeat' (first | array_mem_dec | fail)
    simp only [List.length_range] at hbl
    refine ⟨rs, bars, F, rfl, hF5, ⟨by omega, by omega, fun d hd => ⟨(b3 d hd).1, by have := (b3 d hd).2; omega⟩, by omega, by omega, hnm, hbs⟩, d5, ?_, ?_⟩
    · (first | sizeOf_list_dec | fail)
    · have := k1.1; have := k3.1; omega
theorem RowOk.sub {rain : List Int} {bars bs : List Bar} (h : RowOk rain bars) (hs : bs.Sublist bars) (h0 : 0 < bs.length) : RowOk rain bs :=
  ⟨h.n0, h.n1, h.r01, h0, Nat.le_trans hs.length_le h.b1, fun b hb => h.ok b (hs.subset hb), h.nd.sublist (hs.map _)⟩
theorem row_of_spec {rain : List Int} {bars : List Bar} {B : Nat} {st : Store} (h : RowOk rain bars) (hB : st[B]? = some (.lst (bars.map Bar.val))) :
    WpR (f_law_row [.tup (rain.map .int), .ref B] st) (fun v s => ∃ k, v = .ref k ∧ s[k]? = some (.ins 13 (RF rain bars)) ∧ Keep [] st s ∧ st.length ≤ k) (fun _ _ => False) := by
  have hb := h.b0; have b1 := h.b1
  obtain ⟨b0, bs, rfl⟩ : ∃ b bs, bars = b :: bs := by
    cases bars with
    | nil => simp at hb
    | cons b bs => exact ⟨b, bs, rfl⟩
  refine Vc.b_def rfl ?_
  unfold m_law_row
  repeat' (first | array_mem_dec | fail)
  refine Vc.v_ixLn (xs := b0 :: bs) (f := Bar.val) (i := 0) hB rfl ?_
  repeat' (first | array_mem_dec | fail)
  rename_i R s0 hR k0 l0
  refine Vc.via0 (Row_init_spec (bars := [b0]) (h.sub (by simp) (by simp)) hR) fun v s1 hv => ?_
  obtain ⟨rfl, h1, h2⟩ := hv
  refine ⟨rfl, ?_⟩
  repeat' (first | array_mem_dec | fail)
  have hB1 : s1[B]? = some (.lst ((b0 :: bs).map Bar.val)) := by
    have := Vc.lt_of hB
    exact h2.get (k0.get hB (by simp)) (by simp; omega)
  refine Vc.v_cutL hB1 ?_
  repeat' (first | array_mem_dec | fail)
  rename_i C s2 hC k2 l2
  have ec : Ab.cut ((b0 :: bs).map Bar.val) (some 1) none = bs.map Bar.val := Vc.cut_drop (b0.val :: bs.map Bar.val) 1
  rw [ec] at hC
  try rw [ec]
  try rw [show Ab.cut (b0.val :: bs.map Bar.val) (some 1) none = bs.map Bar.val from ec]
  have lR := Vc.lt_of h1
  refine Vc.for_l (fun d ρ s' => ∃ (k : Nat) (a : Option Val), ρ = [some (.tup (rain.map .int)), some (.ref B), some (.ref k), a] ∧ s'[k]? = some (.ins 13 (RF rain (b0 :: d))) ∧ Keep [] st s' ∧ st.length ≤ k ∧ s'[C]? = some (.lst (bs.map Bar.val))) (fun _ _ _ hI => by obtain ⟨_, _, _, _, _, _, hI⟩ := hI; exact Ab.seqAt_lst hI) ?_ ?_ ⟨_, none, rfl, k2.get h1 (by simp), ?_, by have := k0.1; omega, hC⟩
  · rintro d x rest ρ s1 e ⟨k, a, rfl, h3, h4, h5, h6c⟩
    repeat' (first | array_mem_dec | fail)
    rename_i R2 s5 hR2 k5 l5
    refine Vc.via0 (Row_init_spec (bars := [x]) (h.sub (by subst e; simp) (by simp)) hR2) fun v s2 hv => ?_
    obtain ⟨rfl, h6, h7⟩ := hv
    refine ⟨rfl, ?_⟩
    have lk := Vc.lt_of h3
    have lC := Vc.lt_of h6c
    have h8 : s2[k]? = some (.ins 13 (RF rain (b0 :: d))) := h7.get (k5.get h3 (by simp)) (by simp; omega)
    have hC8 := h7.get (k5.get h6c (by simp)) (by simp; omega)
    repeat' (first | array_mem_dec | fail)
    refine Vc.via0 (Row_add_spec (b1 := b0 :: d) (b2 := [x]) (h.sub (by subst e; simp) (by simp)) h8 h6) fun v s3 hv => ?_
    obtain ⟨k3, rfl, h9, k9, l9⟩ := hv
    repeat' (first | array_mem_dec | fail)
    have := h7.1; have := k5.1; have := h4.1
    refine ⟨_, _, rfl, h9, ?_, by omega, k9.get hC8 (by simp)⟩
    exact Vc.k_seq (Vc.k_seq h4 (Vc.k_seq k5.nil h7 fun z hz => .inl hz) fun z hz => .inr (by rw [List.mem_singleton.mp hz]; omega)) k9 fun z hz => by simp at hz
  · rintro ρ s1 ⟨k, a, rfl, h3, h4, h5, _⟩
    repeat' (first | array_mem_dec | fail)
    exact ⟨k, rfl, h3, h4, h5⟩
  · exact Vc.k_seq (Vc.k_seq k0 h2 fun z hz => .inr (by rw [List.mem_singleton.mp hz]; exact l0)) k2 fun z hz => by simp at hz
def rowAt (rain : List Int) (bars : List Bar) (k t : Nat) : Fl.R4 := match bars[k]? with
  | some b => ((Fl.rows b.cap b.dr (Ib rain b (UK rain (bars.take k))) (t / rain.length))[t % rain.length]?).getD ⟨0, 0, 0, 0⟩
  | none => ⟨0, 0, 0, 0⟩
section
variable {i : Nat} {rain : List Int} {bars : List Bar} {st : Store}
theorem rowAt_get {k t : Nat} {b : Bar} (ok : RowOk rain bars) (hb : bars[k]? = some b) : (Fl.rows b.cap b.dr (Ib rain b (UK rain (bars.take k))) (t / rain.length))[t % rain.length]? = some (rowAt rain bars k t) := by
  have hl := rows_len (t / rain.length) (fit_at ok hb)
  have h2 := Nat.mod_lt t ok.n0
  have hbo := ok.ok b (List.mem_of_getElem? hb)
  have e : (Fl.rows b.cap b.dr (Ib rain b (UK rain (bars.take k))) (t / rain.length))[t % rain.length]? = some _ := List.getElem?_eq_getElem (by rw [hl, hbo.dl]; exact h2)
  unfold rowAt
  rw [hb]
  dsimp only
  rw [e]
  rfl
end
section
variable {i : Nat} {rain : List Int} {bars : List Bar} {st : Store}
end
section
variable {X : Exc → Store → Prop} {Q : Val → Store → Prop} {st : Store}
end
section
variable {fl sl : Nat} {cap : Int} {draws : List Int} {I : Nat → List Int} {S : List Fl.Str} {rs : List Nat} {st : Store}
theorem level_spec {n j : Nat} {r : Fl.R4} (O : FOk fl sl cap draws I S rs st) (hr : (Fl.rows cap draws I n)[j]? = some r) : WpR (f_Flow_level [.ref fl, .int n, .int j] st) (fun v s => v = .int r.lev ∧ Keep [] st s) (fun _ _ => False) := by
  refine Vc.b_def rfl ?_
  unfold m_Flow_level
  obtain ⟨fs, w1, w2⟩ := O.w.at_
  repeat' (first | array_mem_dec | fail)
  refine Vc.via0 (rows_of_spec O) fun v s1 hv => ?_
  obtain ⟨D, rfl, hD, k1⟩ := hv
  repeat' (first | array_mem_dec | fail)
  refine Vc.v_ixLn hD hr ?_
  unfold r4
  repeat' (first | array_mem_dec | fail)
  exact ⟨rfl, by first | exact k1 | exact k1.1⟩
end
section
variable {i : Nat} {rain : List Int} {bars : List Bar} {st : Store}
theorem Row_call_spec {n : Str} {T k : Nat} {b : Bar} (ok : RowOk rain bars) (h : st[i]? = some (.ins 13 (RF rain bars))) (hT : T ≤ 1000000000000000000) (hb : bars[k]? = some b) (hn : b.nm = n) :
    WpR (f_Row_call [.ref i, .str n, .int T] st) (fun v s => v = .int (rowAt rain bars k T).lev ∧ Keep [] st s) (fun _ _ => False) := by
  have n0 := ok.n0; have n1 := ok.n1; have b1 := ok.b1
  have hk : (bars.map Bar.nm).idxOf n = k := by
    refine idxOf_take (by rw [List.getElem?_map, hb, ← hn]; rfl) ?_
    rw [← hn, ← List.map_take]
    exact take_not_mem ok.nd hb
  have hmem : n ∈ bars.map Bar.nm := by rw [← hn]; exact List.mem_map_of_mem (List.mem_of_getElem? hb)
  refine Vc.b_def rfl ?_
  unfold m_Row_call
  repeat' (first | array_mem_dec | fail)
  refine Vc.via (place_spec (by omega) h) (fun v s1 hv => ?_) (fun x s hx => absurd hmem hx.2.1)
  obtain ⟨rfl, _, k1⟩ := hv
  rw [hk]
  repeat' (first | array_mem_dec | fail)
  refine Vc.via val_spec (fun v s hv => ?_) (fun x s hx => by exact absurd ⟨by omega, by omega⟩ hx.2.2)
  obtain ⟨rfl, rfl, _⟩ := hv
  have h1 := k1.get h (by simp)
  repeat' (first | array_mem_dec | fail)
  refine Vc.via0 (flows_spec ok h1) fun v s2 hv => ?_
  obtain ⟨FL, fls, rfl, hFL, hfl, hF, k2, l2⟩ := hv
  have hkl := (List.getElem?_eq_some_iff.mp hb).1
  have hfk : fls[k]? = some fls[k] := List.getElem?_eq_getElem (by omega)
  obtain ⟨sl, S, rs, O⟩ := flow_at hF hfk hb
  generalize fls[k] = fl at *
  repeat' (first | array_mem_dec | fail)
  refine Vc.v_ixLn hFL hfk ?_
  obtain ⟨fs, w1, w2⟩ := O.w.at_
  repeat' (first | array_mem_dec | fail)
  rw [List.length_map]
  repeat' (first | array_mem_dec | fail)
  rw [← Int.natCast_ediv, ← Int.natCast_emod]
  refine Vc.via0 (level_spec O (rowAt_get (t := T) ok hb)) fun v s3 hv => ?_
  obtain ⟨rfl, k3⟩ := hv
  exact ⟨rfl, k1.trans (k2.trans k3)⟩
end
def sumTo (rain : List Int) (bars : List Bar) (k T : Nat) (v : Fl.R4 → Int) : Int := ((List.range T).map fun t => v (rowAt rain bars k t)).sum
section
variable {i : Nat} {rain : List Int} {bars : List Bar} {st : Store}
theorem sumTo_tot {k : Nat} {b : Bar} (ok : RowOk rain bars) (hb : bars[k]? = some b) (v : Fl.R4 → Int) : ∀ T : Nat, Fl.tot b.cap b.dr (Ib rain b (UK rain (bars.take k))) v (T / rain.length) + Fl.sumv v ((Fl.rows b.cap b.dr (Ib rain b (UK rain (bars.take k))) (T / rain.length)).take (T % rain.length)) = sumTo rain bars k T v
  | 0 => by simp [Fl.tot, Fl.sumv, sumTo]
  | T + 1 => by
    obtain ⟨r, e1, e2⟩ := tot_step (T := T) v (fit_at ok hb) (ok.ok b (List.mem_of_getElem? hb)).dl ok.n0
    rw [rowAt_get ok hb] at e1
    cases e1
    rw [e2, sumTo_tot ok hb v T]
    unfold sumTo
    rw [List.range_succ, List.map_append, List.sum_append]
    simp
theorem totV_sum {k T : Nat} {b : Bar} (ok : RowOk rain bars) (hb : bars[k]? = some b) : totV b.cap b.dr (Ib rain b (UK rain (bars.take k))) (T / rain.length) (T % rain.length) = V3 (sumTo rain bars k T) := by
  unfold totV V3
  dsimp only
  rw [sumTo_tot ok hb, sumTo_tot ok hb, sumTo_tot ok hb]
theorem lost_spec {T k : Nat} {b : Bar} (ok : RowOk rain bars) (h : st[i]? = some (.ins 13 (RF rain bars))) (hT : T ≤ 1000000000000000000) (hb : bars[k]? = some b) (hk : k + 1 = bars.length) :
    WpR (f_lost [.ref i, .int T] st) (fun v s => v = .int (sumTo rain bars k T (·.over)) ∧ Keep [] st s) (fun _ _ => False) := by
  have n0 := ok.n0; have n1 := ok.n1; have b1 := ok.b1
  refine Vc.b_def rfl ?_
  unfold m_lost
  repeat' (first | array_mem_dec | fail)
  refine Vc.via val_spec (fun v s hv => ?_) (fun x s hx => by exact absurd ⟨by omega, by omega⟩ hx.2.2)
  obtain ⟨rfl, rfl, _⟩ := hv
  repeat' (first | array_mem_dec | fail)
  refine Vc.via0 (split_spec ok h) fun v s hv => ?_
  obtain ⟨rfl, rfl⟩ := hv
  repeat' (first | array_mem_dec | fail)
  refine Vc.via0 (flows_spec ok h) fun v s2 hv => ?_
  obtain ⟨FL, fls, rfl, hFL, hfl, hF, k2, l2⟩ := hv
  have hfk : fls[k]? = some (fls.getD k 0) := by rw [List.getD_eq_getElem?_getD, List.getElem?_eq_getElem (by omega)]; rfl
  obtain ⟨sl, S, rs, O⟩ := flow_at hF hfk hb
  generalize fls.getD k 0 = fl at *
  have hR : T / rain.length < 2 ^ 63 := by have := Nat.div_le_self T rain.length; omega
  have ht : T % rain.length ≤ 1000 := by have := Nat.mod_lt T n0; omega
  repeat' (first | array_mem_dec | fail)
  refine Vc.v_ixL hFL (atI_last1 (t := .ref fl) (by rw [List.length_map, List.getElem?_map, show fls.length - 1 = k by omega, hfk]; rfl)) ?_
  obtain ⟨fs, w1, w2⟩ := O.w.at_
  repeat' (first | array_mem_dec | fail)
  refine Vc.via0 (sums_spec O hR ht) fun v s4 hv => ?_
  obtain ⟨rfl, k4⟩ := hv
  rw [totV_sum ok hb]
  unfold V3
  repeat' (first | array_mem_dec | fail)
  exact ⟨rfl, k2.trans k4⟩
end

def limv (rain : List Int) (bars : List Bar) (k : Nat) (v : Fl.R4 → Int) : Int := match bars[k]? with
  | some b => Fl.sumv v (Fl.rows b.cap b.dr (Ib rain b (UK rain (bars.take k))) 5000000000)
  | none => 0
theorem limK_get {rain : List Int} {bars : List Bar} {k : Nat} (hk : k < bars.length) : limK rain bars k = V3 (limv rain bars k) := by
  have hb : bars[k]? = some bars[k] := List.getElem?_eq_getElem hk
  unfold limK limv
  rw [hb]
theorem limD_at {rain : List Int} {bars : List Bar} {k : Nat} {b : Bar} (ok : RowOk rain bars) (hb : bars[k]? = some b) : Ab.valW ((List.range bars.length).map fun k => (.inr (nmK bars k), limK rain bars k)) (.inr b.nm) = some (V3 (limv rain bars k)) := by
  rw [limD_get ok hb]
  unfold limv
  rw [hb]
theorem chain_pos {e : Option Nat} : ∀ {S : List Fl.Str} {b : Nat}, Fl.Chain b S e → ∀ x ∈ S, ∀ k, x.count = some k → 0 < k
  | [], _, _ => fun x hx => by cases hx
  | y :: S, b, h => fun x hx k hk => by
    rw [Fl.Chain] at h
    obtain ⟨h1, h2⟩ := h
    rcases List.mem_cons.mp hx with q | q
    · subst q; rw [hk] at h2; exact h2.1
    · cases ec : y.count with
      | none => rw [ec] at h2; rw [h2.1] at q; cases q
      | some k' => rw [ec] at h2; exact chain_pos h2.2 x q k hk
theorem least_of {P : Nat → Prop} : ∀ n, P n → ∃ k, P k ∧ ∀ j, j < k → ¬P j := by
  intro n
  induction n using Nat.strongRecOn with
  | _ n ih =>
    intro h
    by_cases q : ∃ j, j < n ∧ P j
    · obtain ⟨j, h1, h2⟩ := q
      exact ih j h1 h2
    · exact ⟨n, h, fun j hj hp => q ⟨j, hj, hp⟩⟩
section
variable {fl sl : Nat} {cap : Int} {draws : List Int} {I : Nat → List Int} {S : List Fl.Str} {rs : List Nat} {st : Store}
theorem last_at (O : FOk fl sl cap draws I S rs st) {z : Fl.Str} (hz : S[S.length - 1]? = some z) {n : Nat} (hn : z.begin ≤ n) : Fl.rows cap draws I n = z.play cap draws ∧ Fl.Lv cap draws I n = z.lev := by
  have lm := last_miss O hz
  have w := lm.2 n hn
  have hc : z.count = none := by
    cases e : z.count with
    | none => rfl
    | some k =>
      have := (lm.2 (z.begin + k) (Nat.le_add_right _ _)).2 k e
      omega
  have hs := lm.1.zero hc
  refine ⟨?_, ?_⟩
  · rw [← lm.1.at_ n w]; unfold Fl.Str.at Fl.Str.play; rw [hs, Int.mul_zero, Int.add_zero]
  · rw [lm.1.lev n w, hs, Int.mul_zero, Int.add_zero]
theorem last_diff (O : FOk fl sl cap draws I S rs st) {z : Fl.Str} (hz : S[S.length - 1]? = some z) (hd : 0 < draws.length) (hb : 0 < z.begin) (hI : I (z.begin - 1) = I z.begin) : Fl.rows cap draws I (z.begin - 1) ≠ Fl.rows cap draws I z.begin := by
  intro e
  have hne : S ≠ [] := O.ne
  have hS2 : 2 ≤ S.length := by
    refine Nat.lt_of_not_le fun h1 => ?_
    match S, hne, h1, hz, O.ch with
    | [x], _, _, hz, ch =>
      rw [Fl.Chain] at ch
      simp at hz
      subst hz
      have := ch.1; omega
    | x :: y :: t, _, h1, _, _ => simp at h1
  obtain ⟨S0, a, z', rfl⟩ := two_last hS2
  have hz' : z' = z := by rw [List.length_append] at hz; simpa using hz
  subst hz'
  obtain ⟨⟨k, ek, eb⟩, _⟩ := Fl.chain_join O.ch
  have k0 := chain_pos O.ch a (by simp) k ek
  have ga := O.good a (by simp)
  have w : Fl.Within (z'.begin - 1) a.begin a.count := ⟨by omega, fun k' hk' => by rw [ek] at hk'; cases hk'; omega⟩
  have hLv : Fl.Lv cap draws I (z'.begin - 1) = Fl.Lv cap draws I z'.begin := by
    unfold Fl.rows at e
    rw [hI] at e
    have il := O.fit.il z'.begin
    generalize Fl.Lv cap draws I (z'.begin - 1) = L at *
    generalize Fl.Lv cap draws I z'.begin = L' at *
    match hx : (I z'.begin).zip draws with
    | [] => have := congrArg List.length hx; rw [List.length_zip, List.length_nil] at this; omega
    | (p, q) :: r =>
      rw [hx, Fl.play, Fl.play] at e
      have e1 := (List.cons.inj e).1
      unfold Fl.tick at e1
      simp only [Fl.R4.mk.injEq] at e1
      omega
  have nx := ga.nxt _ w
  rw [Nat.sub_add_cancel hb, hLv] at nx
  have st0 : a.step = 0 := by omega
  have e2 := ga.at_ _ w
  have e3 := ga.lev _ w
  rw [st0, Int.mul_zero, Int.add_zero, hLv] at e3
  have zl := last_at O (z := z') (by simp) (Nat.le_refl _)
  have pa : a.play cap draws = Fl.rows cap draws I (z'.begin - 1) := by
    rw [← e2]; unfold Fl.Str.at Fl.Str.play; rw [st0, Int.mul_zero, Int.add_zero]
  exact O.tight S0 a z' rfl ⟨st0, by rw [← e3, zl.2], by rw [pa, e, zl.1]⟩
end
section
variable {i : Nat} {rain : List Int} {bars : List Bar} {st : Store}

def rdK (rain : List Int) (bars : List Bar) (k n : Nat) : List Fl.R4 := match bars[k]? with
  | some b => Fl.rows b.cap b.dr (Ib rain b (UK rain (bars.take k))) n
  | none => []
theorem rdK_get {k n : Nat} {b : Bar} (hb : bars[k]? = some b) : rdK rain bars k n = Fl.rows b.cap b.dr (Ib rain b (UK rain (bars.take k))) n := by unfold rdK; rw [hb]
theorem uk_same {k n m : Nat} (ok : RowOk rain bars) (hk : k ≤ bars.length) (h : ∀ j, k = j + 1 → rdK rain bars j n = rdK rain bars j m) : UK rain (bars.take k) n = UK rain (bars.take k) m := by
  cases k with
  | zero => simp [UK]
  | succ j =>
    have hb : bars[j]? = some bars[j] := List.getElem?_eq_getElem (by omega)
    have := h j rfl
    rw [rdK_get hb, rdK_get hb] at this
    rw [take_snoc hb, UK_snoc]
    unfold outF
    rw [this]

structure Settled (rain : List Int) (bars : List Bar) (Z : Nat) : Prop where
  same : ∀ k n, Z ≤ n → rdK rain bars k n = rdK rain bars k Z
  diff : 0 < Z → ∃ k, k < bars.length ∧ rdK rain bars k (Z - 1) ≠ rdK rain bars k Z
theorem settled2_spec (ok : RowOk rain bars) (h : st[i]? = some (.ins 13 (RF rain bars))) : WpR (f_settled_round [.ref i] st) (fun v s => ∃ Z : Nat, v = .int Z ∧ Keep [] st s ∧ Settled rain bars Z) (fun _ _ => False) := by
  have b0 := ok.b0; have b1 := ok.b1; have n0 := ok.n0
  refine Vc.b_def rfl ?_
  unfold m_settled_round
  repeat' (first | array_mem_dec | fail)
  refine Vc.via0 (flows_spec ok h) fun v s1 hv => ?_
  obtain ⟨FL, fls, rfl, hFL, hfl, hF, k1, l1⟩ := hv
  repeat' (first | array_mem_dec | fail)
  refine Vc.lc_new fun D s2 hD k2 l2 => ?_
  have lFL := Vc.lt_of hFL
  refine Vc.lcY_l (fun d acc s => Keep [D] s1 s ∧ ∃ zs : List Nat, acc = (zs.map fun z : Nat => (z : Int)).map Val.int ∧ zs.length = d.length ∧ ∀ (k z : Nat) (b : Bar), zs[k]? = some z → bars[k]? = some b → (∀ n, z ≤ n → rdK rain bars k n = rdK rain bars k z) ∧ (0 < z → Ib rain b (UK rain (bars.take k)) (z - 1) = Ib rain b (UK rain (bars.take k)) z → rdK rain bars k (z - 1) ≠ rdK rain bars k z)) (fun d acc s hI => Ab.seqAt_lst (hI.1.get hFL (by simp; omega))) ?_ ?_ ⟨k2.nil, [], rfl, rfl, fun k z b h1 => by simp at h1⟩ hD
  · rintro d fl rest acc s e ⟨kk, zs, rfl, hzl, hzs⟩ hs
    obtain ⟨e1, e2, e3⟩ := Vc.map_split e
    have hb : bars[d.length]? = some bars[d.length] := List.getElem?_eq_getElem (by omega)
    have hF2 : FlowsOk rain bars st.length fls s := hF.keep kk fun z hz => .inr (by rw [List.mem_singleton.mp hz]; exact l2)
    obtain ⟨sl, S, rs, O⟩ := flow_at hF2 e1 hb
    generalize hbb : bars[d.length] = b at *
    obtain ⟨z, hz, hset⟩ := O.set
    have lm := last_miss O hz
    repeat' (first | array_mem_dec | fail)
    refine ⟨hs, by simp; omega, fun s3 hs3 k3 => ⟨Vc.k_seq kk k3 fun i hi => .inl hi, zs ++ [z.begin], by simp, by simp [hzl], fun k y b' h1 h2 => ?_⟩⟩
    by_cases hk : k < zs.length
    · rw [List.getElem?_append_left hk] at h1
      exact hzs k y b' h1 h2
    · have hk1 := (List.getElem?_eq_some_iff.mp h1).1
      have hkk : k = zs.length := by simp at hk1; omega
      subst hkk
      simp at h1
      subst h1
      rw [hzl, hb] at h2
      cases h2
      rw [hzl]
      have dl := (ok.ok b (List.mem_of_getElem? hb)).dl
      refine ⟨fun n hn => ?_, fun z0 hI => ?_⟩
      · rw [rdK_get hb, rdK_get hb, (last_at O hz hn).1, (last_at O hz (Nat.le_refl _)).1]
      · rw [rdK_get hb, rdK_get hb]
        exact last_diff O hz (by omega) z0 hI
  · rintro acc s ⟨kk, zs, rfl, hzl, hzs⟩ hs
    repeat' (first | array_mem_dec | fail)
    have hne : (zs.map fun z : Nat => (z : Int)) ≠ [] := List.ne_nil_of_length_pos (by rw [List.length_map]; omega)
    have mx := Ab.maxI_spec hne
    refine Vc.v_max1L hs hne ?_
    obtain ⟨Z, hZ, eZ⟩ := List.mem_map.mp mx.1
    have le : ∀ k z, zs[k]? = some z → z ≤ Z := fun k z hk => by
      have := mx.2 (z : Nat) (List.mem_map.mpr ⟨_, List.mem_of_getElem? hk, rfl⟩)
      rw [← eZ] at this
      omega
    have at_ : ∀ k z, zs[k]? = some z → ∀ n, z ≤ n → rdK rain bars k n = rdK rain bars k Z := fun k z hk n hn => by
      have hkl := (List.getElem?_eq_some_iff.mp hk).1
      have hb : bars[k]? = some bars[k] := List.getElem?_eq_getElem (by omega)
      have g := (hzs k z _ hk hb).1
      rw [g n hn, g Z (le k z hk)]
    refine ⟨Z, by rw [← eZ], Vc.k_seq k1 kk fun z hz => .inr (by rw [List.mem_singleton.mp hz]; have := k1.1; omega), fun k n hn => ?_, fun Z0 => ?_⟩
    · by_cases hk : k < bars.length
      · have hzk : zs[k]? = some zs[k] := List.getElem?_eq_getElem (by omega)
        exact at_ k _ hzk n (Nat.le_trans (le k _ hzk) hn)
      · unfold rdK
        rw [List.getElem?_eq_none (by omega)]
    · obtain ⟨j, hj, ej⟩ := List.mem_iff_getElem.mp hZ
      obtain ⟨k, hk, hmin⟩ := least_of (P := fun j => zs[j]? = some Z) j (by rw [List.getElem?_eq_getElem hj, ej])
      have hkl := (List.getElem?_eq_some_iff.mp hk).1
      have hb : bars[k]? = some bars[k] := List.getElem?_eq_getElem (by omega)
      refine ⟨k, by omega, (hzs k Z _ hk hb).2 Z0 ?_⟩
      unfold Ib
      rw [uk_same (n := Z - 1) (m := Z) ok (by omega) fun j hjk => ?_]
      subst hjk
      have hzj : zs[j]? = some zs[j] := List.getElem?_eq_getElem (by omega)
      have h1 := le j _ hzj
      have h2 : zs[j] ≠ Z := fun e => hmin j (by omega) (by rw [hzj, e])
      rw [at_ j _ hzj (Z - 1) (by omega)]
end
section
variable {i : Nat} {rain : List Int} {bars : List Bar} {st : Store}
theorem rlen_spec (h : st[i]? = some (.ins 13 (RF rain bars))) : WpR (f_Row_len [.ref i] st) (fun v s => v = .int bars.length ∧ s = st) (fun _ _ => False) := by
  refine Vc.b_def rfl ?_
  unfold m_Row_len
  repeat' (first | array_mem_dec | fail)
  rw [List.length_map]
  exact ⟨rfl, rfl⟩
theorem RowOk.wet (ok : RowOk rain bars) {j : Nat} {a : Int} (ha : 0 ≤ a ∧ a ≤ 1000000) : RowOk (rain.set j a) bars :=
  ⟨by rw [List.length_set]; exact ok.n0, by rw [List.length_set]; exact ok.n1, fun r hr => by
    rcases List.mem_or_eq_of_mem_set hr with q | q
    · exact ok.r01 r q
    · subst q; exact ha, ok.b0, ok.b1, fun b hb => by rw [List.length_set]; exact ok.ok b hb, ok.nd⟩
theorem with_rain_spec {j : Nat} {a : Int} (ok : RowOk rain bars) (h : st[i]? = some (.ins 13 (RF rain bars))) (hj : j < rain.length) (ha : 0 ≤ a ∧ a ≤ 1000000) :
    WpR (f_Row_with_rain [.ref i, .int j, .int a] st) (fun v s => ∃ k, v = .ref k ∧ s[k]? = some (.ins 13 (RF (rain.set j a) bars)) ∧ Keep [] st s ∧ st.length ≤ k) (fun _ _ => False) := by
  have n0 := ok.n0; have n1 := ok.n1; have b1 := ok.b1
  refine Vc.b_def rfl ?_
  unfold m_Row_with_rain
  repeat' (first | array_mem_dec | fail)
  rw [List.length_map]
  refine Vc.via val_spec (fun v s hv => ?_) (fun x s hx => by exact absurd ⟨by omega, by omega⟩ hx.2.2)
  obtain ⟨rfl, rfl, _⟩ := hv
  repeat' (first | array_mem_dec | fail)
  rw [Vc.cut_take, ← List.map_take]
  refine Vc.v_addT (by simp; omega) ?_
  repeat' (first | array_mem_dec | fail)
  rw [show (j : Int) + 1 = ((j + 1 : Nat) : Int) by omega, Vc.cut_drop, ← List.map_drop]
  refine Vc.v_addT (by simp; omega) ?_
  have e : (rain.take j).map Val.int ++ [Val.int a] ++ (rain.drop (j + 1)).map Val.int = (rain.set j a).map Val.int := by
    rw [List.set_eq_take_append_cons_drop, if_pos hj]; simp
  rw [e]
  repeat' (first | array_mem_dec | fail)
  rw [List.append_nil]
  refine Vc.via0 (Row_init_spec (ok.wet ha) (by (first | array_get_dec | fail))) fun v s hv => ?_
  obtain ⟨rfl, h1, h2⟩ := hv
  exact ⟨rfl, _, rfl, h1, by (first | sizeOf_list_dec | fail), by (first | sizeOf_list_dec | fail)⟩
def capB (b : Bar) (c : Int) : Bar := ⟨b.nm, c, b.roof, b.dr⟩
theorem RowOk.cap (ok : RowOk rain bars) {k : Nat} {b : Bar} {c : Int} (hb : bars[k]? = some b) (hc : 0 ≤ c ∧ c ≤ 1000000000) : RowOk rain (bars.set k (capB b c)) :=
  ⟨ok.n0, ok.n1, ok.r01, by rw [List.length_set]; exact ok.b0, by rw [List.length_set]; exact ok.b1, fun x hx => by
    rcases List.mem_or_eq_of_mem_set hx with q | q
    · exact ok.ok x q
    · subst q
      have o := ok.ok b (List.mem_of_getElem? hb)
      exact ⟨o.nm, o.lay, hc.1, hc.2, o.r0, o.r1, o.dl, o.d01⟩, by
    have e : (bars.set k (capB b c)).map Bar.nm = bars.map Bar.nm := by
      rw [List.map_set]
      apply List.ext_getElem?
      intro i
      rw [List.getElem?_set]
      split
      · rename_i q
        subst q
        rw [List.getElem?_map, hb]
        have := (List.getElem?_eq_some_iff.mp hb).1
        simp [this, capB]
      · rfl
    rw [e]; exact ok.nd⟩
theorem cap_map {n : Str} {k : Nat} {b : Bar} {c : Int} (nd : (bars.map Bar.nm).Nodup) (hb : bars[k]? = some b) (hn : b.nm = n) : bars.map (fun x => if x.nm = n then capB x c else x) = bars.set k (capB b c) := by
  apply List.ext_getElem?
  intro i
  rw [List.getElem?_map, List.getElem?_set]
  split
  · rename_i q
    subst q
    have := (List.getElem?_eq_some_iff.mp hb).1
    rw [hb, if_pos this]
    simp [hn]
  · rename_i q
    cases e : bars[i]? with
    | none => rfl
    | some x =>
      have : x.nm ≠ n := fun z => q (by
        obtain ⟨hi, ei⟩ := List.getElem?_eq_some_iff.mp e
        obtain ⟨hk, ek⟩ := List.getElem?_eq_some_iff.mp hb
        have h0 : (bars.map Bar.nm)[k]'(by simpa using hk) = (bars.map Bar.nm)[i]'(by simpa using hi) := by
          rw [List.getElem_map, List.getElem_map, ek, ei, hn, z]
        exact (List.getElem_inj nd).mp h0)
      simp [this]
theorem with_capacity_spec {n : Str} {k : Nat} {b : Bar} {c : Int} (ok : RowOk rain bars) (h : st[i]? = some (.ins 13 (RF rain bars))) (hb : bars[k]? = some b) (hn : b.nm = n) (hc : 0 ≤ c ∧ c ≤ 1000000000) :
    WpR (f_Row_with_capacity [.ref i, .str n, .int c] st) (fun v s => ∃ k', v = .ref k' ∧ s[k']? = some (.ins 13 (RF rain (bars.set k (capB b c)))) ∧ Keep [] st s ∧ st.length ≤ k') (fun _ _ => False) := by
  have n0 := ok.n0; have n1 := ok.n1; have b1 := ok.b1
  have hmem : n ∈ bars.map Bar.nm := by rw [← hn]; exact List.mem_map_of_mem (List.mem_of_getElem? hb)
  refine Vc.b_def rfl ?_
  unfold m_Row_with_capacity
  repeat' (first | array_mem_dec | fail)
  refine Vc.via (place_spec (by omega) h) (fun v s1 hv => ?_) (fun x s hx => absurd hmem hx.2.1)
  obtain ⟨rfl, _, k1⟩ := hv
  have h1 := k1.get h (by simp)
  repeat' (first | array_mem_dec | fail)
  refine Vc.lc_new fun D s2 hD k2 l2 => ?_
  have h2 := k2.get h1 (by simp)
  have li := Vc.lt_of h1
  refine Vc.lcY_l (fun d acc s => acc = (d.map fun x => if x.nm = n then capB x c else x).map Bar.val ∧ Keep [D] s2 s) (fun _ _ _ _ => trivial) ?_ ?_ ⟨rfl, .refl⟩ hD
  · rintro d x rest acc s3 e ⟨rfl, kk⟩ hs
    have hdl : d.length ≤ 5 := by have := congrArg List.length e; simp at this; omega
    rw [Bar.val_eq x]
    repeat' (first | array_mem_dec | fail)
    rename_i L s4 hL k4 l4
    simp only [List.take, List.drop, List.cons_append, List.nil_append, -eq_self] at hL ⊢
    repeat' (first | array_mem_dec | fail)
    have fin : ∀ cv : Int, (if x.nm = n then capB x c else x) = ⟨x.nm, cv, x.roof, x.dr⟩ → s4[D]? = some (Cell.lst ((d.map fun x => if x.nm = n then capB x c else x).map Bar.val)) ∧ ((d.map fun x => if x.nm = n then capB x c else x).map Bar.val).length < 100000 ∧
        Wr D (.lst ((d.map fun x => if x.nm = n then capB x c else x).map Bar.val ++ [.tup [.str x.nm, .int cv, .int x.roof, .tup (x.dr.map .int)]])) s4 fun s4 => (d.map fun x => if x.nm = n then capB x c else x).map Bar.val ++ [.tup [.str x.nm, .int cv, .int x.roof, .tup (x.dr.map .int)]] = ((d ++ [x]).map fun x => if x.nm = n then capB x c else x).map Bar.val ∧ Keep [D] s2 s4 := by
      intro cv hcv
      refine ⟨k4.get hs (by simp), by simp; omega, ?_⟩
      intro s5 h5 k5
      refine ⟨by rw [List.map_append, List.map_append]; simp [hcv, Bar.val], Vc.k_seq (Vc.k_nil kk k4) k5 fun z hz => .inl hz⟩
    refine Vc.ite_d (fun q => ?_) (fun q => ?_)
    · repeat' (first | array_mem_dec | fail)
      exact fin c (by rw [if_pos q]; rfl)
    · repeat' (first | array_mem_dec | fail)
      exact fin x.cap (by rw [if_neg q])
  · rintro acc s3 ⟨rfl, kk⟩ hs
    have h3 := kk.get h2 (by simp; omega)
    rw [cap_map ok.nd hb hn] at hs
    repeat' (first | array_mem_dec | fail)
    rw [List.append_nil]
    refine Vc.via0 (Row_init_spec (ok.cap hb hc) (by (first | array_get_dec | fail))) fun v s hv => ?_
    obtain ⟨rfl, h4, h5⟩ := hv
    have kn : Keep [] st s3 := Vc.k_seq (k1.trans k2) kk fun z hz => .inr (by rw [List.mem_singleton.mp hz]; have := k1.1; omega)
    exact ⟨rfl, _, rfl, h4, by (first | sizeOf_list_dec | fail), by (first | sizeOf_list_dec | fail)⟩
end
theorem same_step {n : Nat} {rec : MF} (ih : ∀ x y st, Vc.Alike st n x y → WpR (rec [x, y] st) (fun v s => v = .bl true ∧ Keep [] st s) (fun _ _ => False)) {x y : Val} {st : Store} (h : Vc.Alike st (n + 1) x y) : WpR (Ab.defM 2 1 (m_law_same rec) [x, y] st) (fun v s => v = .bl true ∧ Keep [] st s) (fun _ _ => False) := by
    have seqs : ∀ (xs ys : List Val), xs.length = ys.length → xs.length ≤ 100000 → (∀ (i : Nat) (x y : Val), xs[i]? = some x → ys[i]? = some y → Vc.Alike st n x y) → ∀ i < ys.length, ∃ a b, L2.atI xs (i : Int) = some a ∧ L2.atI ys (i : Int) = some b ∧ Vc.Alike st n a b := by
      intro xs ys h1 h2 h3 i hi
      have e1 : xs[i]? = some xs[i] := List.getElem?_eq_getElem (by omega)
      have e2 : ys[i]? = some ys[i] := List.getElem?_eq_getElem hi
      exact ⟨_, _, L2.atI_nat e1, L2.atI_nat e2, h3 i _ _ e1 e2⟩
    refine Vc.b_def rfl ?_
    unfold m_law_same
    simp only [List.map_cons, List.map_nil, List.cons_append, List.nil_append, List.replicate, -eq_self]
    unfold Vc.Alike at h
    split at h
    · repeat' (first | array_mem_dec | fail)
      refine Vc.v_eqNN ?_
      repeat' (first | array_mem_dec | fail)
      exact ⟨rfl, by (first | sizeOf_list_dec | fail)⟩
    · subst h
      repeat' (first | array_mem_dec | fail)
      exact ⟨by simp, by (first | sizeOf_list_dec | fail)⟩
    · subst h
      repeat' (first | array_mem_dec | fail)
      exact ⟨by simp, by (first | sizeOf_list_dec | fail)⟩
    · subst h
      repeat' (first | array_mem_dec | fail)
      exact ⟨by simp, by (first | sizeOf_list_dec | fail)⟩
    · rename_i xs ys
      obtain ⟨h1, h2, h3⟩ := h
      repeat' (first | array_mem_dec | fail)
      refine Vc.ite_ndp (by omega) ?_
      repeat' (first | array_mem_dec | fail)
      refine Vc.ex_range1 (by omega) ?_
      refine Vc.lc_new fun D s1 hD k1 hl => ?_
      refine Vc.lc_none (fun _ _ => trivial) (fun i hi s k => ?_) fun s2 k2 => ?_
      · obtain ⟨a, b, e1, e2, e3⟩ := seqs xs ys h1 h2 h3 i (by simpa using hi)
        have kk := k1.trans k
        repeat' (first | array_mem_dec | fail)
        refine Vc.v_ixT e1 ?_
        repeat' (first | array_mem_dec | fail)
        refine Vc.v_ixT e2 ?_
        repeat' (first | array_mem_dec | fail)
        refine Vc.via0 (ih _ _ _ (e3.keep kk)) fun v s hv => ?_
        obtain ⟨rfl, k3⟩ := hv
        repeat' (first | array_mem_dec | fail)
        exact ⟨rfl, k3⟩
      · repeat' (first | array_mem_dec | fail)
        rename_i E s3 hE k3 hEl
        refine Vc.v_eq00 (by (first | array_get_dec | fail)) (by (first | array_get_dec | fail)) ?_
        exact ⟨rfl, by (first | sizeOf_list_dec | fail)⟩
    · rename_i ra rb
      obtain ⟨xs, ys, ha, hb, h1, h2, h3⟩ := h
      repeat' (first | array_mem_dec | fail)
      refine Vc.ite_ndp (by omega) ?_
      repeat' (first | array_mem_dec | fail)
      refine Vc.ex_range1 (by omega) ?_
      refine Vc.lc_new fun D s1 hD k1 hl => ?_
      refine Vc.lc_none (fun _ _ => trivial) (fun i hi s k => ?_) fun s2 k2 => ?_
      · obtain ⟨a, b, e1, e2, e3⟩ := seqs xs ys h1 h2 h3 i (by simpa using hi)
        have kk := k1.trans k
        repeat' (first | array_mem_dec | fail)
        refine Vc.v_ixL (xs := xs) (kk.get ha (by simp)) e1 ?_
        repeat' (first | array_mem_dec | fail)
        refine Vc.v_ixL (xs := ys) (kk.get hb (by simp)) e2 ?_
        repeat' (first | array_mem_dec | fail)
        refine Vc.via0 (ih _ _ _ (e3.keep kk)) fun v s hv => ?_
        obtain ⟨rfl, k3⟩ := hv
        repeat' (first | array_mem_dec | fail)
        exact ⟨rfl, k3⟩
      · repeat' (first | array_mem_dec | fail)
        rename_i E s3 hE k3 hEl
        refine Vc.v_eq00 (by (first | array_get_dec | fail)) (by (first | array_get_dec | fail)) ?_
        exact ⟨rfl, by (first | sizeOf_list_dec | fail)⟩
    · exact h.elim
theorem same_spec : ∀ {n : Nat} {x y : Val} {st : Store}, Vc.Alike st n x y → WpR (f_law_same n [x, y] st) (fun v s => v = .bl true ∧ Keep [] st s) (fun _ _ => False)
  | 0, _, _, _, h => h.elim
  | n + 1, x, y, st, h => same_step (fun _ _ _ h => same_spec h) h

section
variable {rain : List Int} {bars : List Bar}
def sg (k i : Nat) : Nat := if i < k then i else i + 1
theorem erase_get {α : Type} {xs : List α} {k i : Nat} : (xs.eraseIdx k)[i]? = xs[sg k i]? := by
  unfold sg
  rw [List.getElem?_eraseIdx]
  split <;> rfl
theorem RowOk.less (ok : RowOk rain bars) {k : Nat} (h : 1 < bars.length) (hk : k < bars.length) : RowOk rain (bars.eraseIdx k) :=
  ok.sub (List.eraseIdx_sublist _ _) (by rw [List.length_eraseIdx, if_pos hk]; omega)

end
section
variable {i B : Nat} {rain : List Int} {bars : List Bar} {st : Store}
theorem rest_filter {n : Str} : ∀ {bars : List Bar} {k : Nat} {b : Bar}, (bars.map Bar.nm).Nodup → bars[k]? = some b → b.nm = n → bars.filter (fun x => !decide (x.nm = n)) = bars.eraseIdx k
  | [], k, b, _, h, _ => by simp at h
  | x :: xs, 0, b, nd, h, hn => by
    simp at h; subst h
    rw [List.filter_cons, hn]
    simp only [decide_true, Bool.not_true, Bool.false_eq_true, if_false, List.eraseIdx_zero, List.tail_cons]
    rw [List.filter_eq_self]
    intro y hy
    rw [List.map_cons, List.nodup_cons] at nd
    have : y.nm ≠ n := fun e => nd.1 (by rw [hn, ← e]; exact List.mem_map_of_mem hy)
    simp [this]
  | x :: xs, k + 1, b, nd, h, hn => by
    rw [List.map_cons, List.nodup_cons] at nd
    have hx : x.nm ≠ n := fun e => nd.1 (by rw [e, ← hn]; exact List.mem_map_of_mem (List.mem_of_getElem? (by simpa using h)))
    rw [List.filter_cons, List.eraseIdx_cons_succ, rest_filter nd.2 (by simpa using h) hn]
    simp [hx]
theorem Row_sub_spec {n : Str} {k : Nat} {b : Bar} (ok : RowOk rain bars) (h1 : 1 < bars.length) (h : st[i]? = some (.ins 13 (RF rain bars))) (hb : bars[k]? = some b) (hn : b.nm = n) :
    WpR (f_Row_sub [.ref i, .str n] st) (fun v s => ∃ k', v = .ref k' ∧ s[k']? = some (.ins 13 (RF rain (bars.eraseIdx k))) ∧ Keep [] st s ∧ st.length ≤ k') (fun _ _ => False) := by
  have b1 := ok.b1
  have hk := (List.getElem?_eq_some_iff.mp hb).1
  have hmem : n ∈ bars.map Bar.nm := by rw [← hn]; exact List.mem_map_of_mem (List.mem_of_getElem? hb)
  refine Vc.b_def rfl ?_
  unfold m_Row_sub
  repeat' (first | array_mem_dec | fail)
  refine Vc.via0 (names_spec (by omega) h) fun v s1 hv => ?_
  obtain ⟨rfl, k1⟩ := hv
  repeat' (first | array_mem_dec | fail)
  refine Vc.v_ninTs (ys := bars.map Bar.nm) ?_
  rw [decide_eq_true hmem]
  repeat' (first | array_mem_dec | fail)
  have hs1 := k1.get h (by simp)
  repeat' (first | array_mem_dec | fail)
  refine Vc.lc_pure (fun x : Bar => !decide (x.nm = n)) (fun x : Bar => x.val) (fun _ => trivial) (by omega) (fun x hx acc => ?_) ?_
  · rw [Bar.val_eq x]
    repeat' (first | array_mem_dec | fail)
    exact ⟨rfl, rfl, fun _ => by repeat' (first | array_mem_dec | fail); exact ⟨rfl, rfl⟩⟩
  rw [rest_filter ok.nd hb hn]
  repeat' (first | array_mem_dec | fail)
  rename_i D s2 hD k2 l2 R s3 hR k3 l3
  rw [List.append_nil]
  refine Vc.via0 (Row_init_spec (ok.less h1 hk) hR) fun v s hv => ?_
  obtain ⟨rfl, h4, h5⟩ := hv
  exact ⟨rfl, _, rfl, h4, by (first | sizeOf_list_dec | fail), by (first | sizeOf_list_dec | fail)⟩
theorem lost_round_spec (ok : RowOk rain bars) (h : st[i]? = some (.ins 13 (RF rain bars))) : WpR (f_lost_per_round [.ref i] st) (fun v s => v = .int (limv rain bars (bars.length - 1) (·.over)) ∧ Keep [] st s) (fun _ _ => False) := by
  have b0 := ok.b0; have b1 := ok.b1
  have hL : bars[bars.length - 1]? = some bars[bars.length - 1] := List.getElem?_eq_getElem (by omega)
  refine Vc.b_def rfl ?_
  unfold m_lost_per_round
  repeat' (first | array_mem_dec | fail)
  refine Vc.via0 (long_run_spec ok h) fun v s1 hv => ?_
  obtain ⟨G, rfl, hG, k1, lG⟩ := hv
  repeat' (first | array_mem_dec | fail)
  refine Vc.via0 (names_spec (by omega) (k1.get h (by simp))) fun v s2 hv => ?_
  obtain ⟨rfl, k2⟩ := hv
  have hG2 := k2.get hG (by simp)
  repeat' (first | array_mem_dec | fail)
  refine Vc.v_ixT (w := .str bars[bars.length - 1].nm) (atI_last1 (by rw [List.length_map, List.length_map, List.getElem?_map, List.getElem?_map, hL]; rfl)) ?_
  repeat' (first | array_mem_dec | fail)
  refine Vc.v_dget hG2 (limD_at ok hL) ?_
  unfold V3
  repeat' (first | array_mem_dec | fail)
  exact ⟨rfl, k1.trans k2⟩
theorem held_spec {n : Str} {k : Nat} {b : Bar} (ok : RowOk rain bars) (h : st[i]? = some (.ins 13 (RF rain bars))) (hb : bars[k]? = some b) (hn : b.nm = n) :
    WpR (f_held_back [.ref i, .str n] st) (fun v s => v = .int ((if bars.length = 1 then 0 else limv rain (bars.eraseIdx k) (bars.length - 2) (·.over)) - limv rain bars (bars.length - 1) (·.over)) ∧ Keep [] st s) (fun _ _ => False) := by
  have b0 := ok.b0; have b1 := ok.b1
  have hk := (List.getElem?_eq_some_iff.mp hb).1
  have hmem : n ∈ bars.map Bar.nm := by rw [← hn]; exact List.mem_map_of_mem (List.mem_of_getElem? hb)
  refine Vc.b_def rfl ?_
  unfold m_held_back
  repeat' (first | array_mem_dec | fail)
  refine Vc.via (place_spec (by omega) h) (fun v s1 hv => ?_) (fun x s hx => absurd hmem hx.2.1)
  obtain ⟨rfl, _, k1⟩ := hv
  have h1 := k1.get h (by simp)
  repeat' (first | array_mem_dec | fail)
  refine Vc.via0 (rlen_spec h1) fun v s hv => ?_
  obtain ⟨rfl, rfl⟩ := hv
  refine ⟨_, rfl, by omega, by omega, ?_⟩
  repeat' (first | array_mem_dec | fail)
  refine Vc.ite_d (fun q => ?_) (fun q => ?_)
  · repeat' (first | array_mem_dec | fail)
    refine Vc.via0 (lost_round_spec ok h1) fun v s2 hv => ?_
    obtain ⟨rfl, k2⟩ := hv
    repeat' (first | array_mem_dec | fail)
    exact ⟨by rw [if_pos (by omega)], k1.trans k2⟩
  · repeat' (first | array_mem_dec | fail)
    refine ⟨rfl, ?_⟩
    refine Vc.via0 (Row_sub_spec ok (by omega) h1 hb hn) fun v s2 hv => ?_
    obtain ⟨R2, rfl, hR2, k2, l2⟩ := hv
    repeat' (first | array_mem_dec | fail)
    refine Vc.via0 (lost_round_spec (ok.less (by omega) hk) hR2) fun v s3 hv => ?_
    obtain ⟨rfl, k3⟩ := hv
    have k23 := k2.trans k3
    repeat' (first | array_mem_dec | fail)
    refine Vc.via0 (lost_round_spec ok (k23.get h1 (by simp))) fun v s4 hv => ?_
    obtain ⟨rfl, k4⟩ := hv
    repeat' (first | array_mem_dec | fail)
    refine ⟨?_, (k1.trans k23).trans k4⟩
    rw [if_neg (by omega), List.length_eraseIdx, if_pos hk, show bars.length - 1 - 1 = bars.length - 2 by omega]

def chV (rain : List Int) (bars : List Bar) (k j : Nat) : Val := .tup [.int (limv rain bars (sg k j) (·.drawn)), .int (limv rain (bars.eraseIdx k) j (·.drawn))]
def chP (rain : List Int) (bars : List Bar) (k j : Nat) : Bool := !decide (limv rain bars (sg k j) (·.drawn) = limv rain (bars.eraseIdx k) j (·.drawn))
def chD (rain : List Int) (bars : List Bar) (k : Nat) : List (Key × Val) := ((List.range (bars.length - 1)).filter (chP rain bars k)).map fun j => (.inr (nmK (bars.eraseIdx k) j), chV rain bars k j)
theorem change_spec {n : Str} {k : Nat} {b : Bar} (ok : RowOk rain bars) (h : st[i]? = some (.ins 13 (RF rain bars))) (hb : bars[k]? = some b) (hn : b.nm = n) :
    WpR (f_change_without [.ref i, .str n] st) (fun v s => ∃ D, v = .ref D ∧ s[D]? = some (.dct (chD rain bars k)) ∧ Keep [] st s ∧ st.length ≤ D) (fun _ _ => False) := by
  have b0 := ok.b0; have b1 := ok.b1
  have hk := (List.getElem?_eq_some_iff.mp hb).1
  have hmem : n ∈ bars.map Bar.nm := by rw [← hn]; exact List.mem_map_of_mem (List.mem_of_getElem? hb)
  refine Vc.b_def rfl ?_
  unfold m_change_without
  repeat' (first | array_mem_dec | fail)
  refine Vc.via (place_spec (by omega) h) (fun v s1 hv => ?_) (fun x s hx => absurd hmem hx.2.1)
  obtain ⟨rfl, _, k1⟩ := hv
  have h1 := k1.get h (by simp)
  repeat' (first | array_mem_dec | fail)
  refine Vc.via0 (rlen_spec h1) fun v s hv => ?_
  obtain ⟨rfl, rfl⟩ := hv
  refine ⟨_, rfl, by omega, by omega, ?_⟩
  repeat' (first | array_mem_dec | fail)
  refine Vc.ite_d (fun q => ?_) (fun q => ?_)
  · repeat' (first | array_mem_dec | fail)
    rename_i D s2 hD k2 l2
    refine ⟨D, rfl, ?_, k1.trans k2, by have := k1.1; omega⟩
    unfold chD
    rw [show bars.length - 1 = 0 by omega]
    exact hD
  · have hlt : 1 < bars.length := by omega
    have ok' := ok.less hlt hk
    have hl : (bars.eraseIdx k).length = bars.length - 1 := by rw [List.length_eraseIdx, if_pos hk]
    repeat' (first | array_mem_dec | fail)
    refine Vc.via0 (long_run_spec ok h1) fun v s2 hv => ?_
    obtain ⟨G, rfl, hG, k2, lG⟩ := hv
    repeat' (first | array_mem_dec | fail)
    refine ⟨rfl, ?_⟩
    refine Vc.via0 (Row_sub_spec ok hlt (k2.get h1 (by simp)) hb hn) fun v s3 hv => ?_
    obtain ⟨R2, rfl, hR2, k3, l3⟩ := hv
    repeat' (first | array_mem_dec | fail)
    refine Vc.via0 (long_run_spec ok' hR2) fun v s4 hv => ?_
    obtain ⟨A, rfl, hA, k4, lA⟩ := hv
    have hG4 := k4.get (k3.get hG (by simp)) (by simp)
    have lGl := Vc.lt_of (k3.get hG (by simp))
    repeat' (first | array_mem_dec | fail)
    rename_i s5 hA5 k5
    have hG5 := k5.get hG4 (by simp; omega)
    rw [List.map_map]
    refine Vc.dc_new fun D s6 hD k6 l6 => ?_
    have hA6 := k6.get hA5 (by simp)
    have hG6 := k6.get hG5 (by simp)
    have lA5 := Vc.lt_of hA5
    have lG5 := Vc.lt_of hG5
    refine Vc.dcF_l (xs := List.range (bars.eraseIdx k).length) (chP rain bars k) (nmK (bars.eraseIdx k)) (chV rain bars k) (nmK_nodup ok'.nd) (fun d s => Keep [D] s6 s) (fun d s hI => hI.get hA6 (by simp; omega)) (by simp; omega) ?_ ?_ .refl hD
    · intro d j rest s7 e kk hs
      obtain ⟨e1, e2, e3⟩ := Vc.range_split e
      have hc' : (bars.eraseIdx k)[j]? = some (bars.eraseIdx k)[j] := List.getElem?_eq_getElem e3
      generalize (bars.eraseIdx k)[j] = c at hc'
      have hc : bars[sg k j]? = some c := by rw [← erase_get]; exact hc'
      have hG7 := kk.get hG6 (by simp; omega)
      have hA7 := kk.get hA6 (by simp; omega)
      have hl7 := limD_at ok hc
      have hl8 := limD_at ok' hc'
      show WpG (Se.gSet 4 (.str (nmK (bars.eraseIdx k) j)) _ _) _
      rw [nmK_get hc']
      repeat' (first | array_mem_dec | fail)
      refine Vc.v_dget hG7 hl7 ?_
      unfold V3
      repeat' (first | array_mem_dec | fail)
      refine Vc.v_dgetF hA7 hl8 ?_
      unfold V3
      repeat' (first | array_mem_dec | fail)
      refine ⟨rfl, fun _ => ⟨hs, Vc.k_seq kk .refl fun z hz => .inl hz⟩, fun _ => ?_⟩
      repeat' (first | array_mem_dec | fail)
      refine ⟨rfl, ?_⟩
      repeat' (first | array_mem_dec | fail)
      refine Vc.v_dget hG7 hl7 ?_
      unfold V3
      repeat' (first | array_mem_dec | fail)
      refine Vc.v_dgetF hA7 hl8 ?_
      unfold V3
      repeat' (first | array_mem_dec | fail)
      exact ⟨rfl, hs, fun s8 hs8 k8 => Vc.k_seq kk k8 fun z hz => .inl hz⟩
    · intro s7 kk hs
      refine ⟨D, rfl, by unfold chD; rw [← hl]; exact hs, ?_, by have := k1.1; have := k2.1; have := k3.1; have := k4.1; have := k5.1; omega⟩
      have ka : Keep [] st s5 := Vc.k_seq (((k1.trans k2).trans k3).trans k4) k5 fun z hz => .inr (by rw [List.mem_singleton.mp hz]; have := k1.1; have := k2.1; have := k3.1; omega)
      exact Vc.k_seq (ka.trans k6) kk fun z hz => .inr (by rw [List.mem_singleton.mp hz]; have := ka.1; omega)
end

def bsF (P : Nat → Bool) : Nat → Nat → Nat → Nat
  | 0, lo, _ => lo
  | f + 1, lo, hi => if lo < hi then (if P ((lo + hi) / 2) = true then bsF P f lo ((lo + hi) / 2) else bsF P f ((lo + hi) / 2 + 1) hi) else lo
theorem bsF_done {P : Nat → Bool} {f lo hi : Nat} (h : ¬lo < hi) : bsF P f lo hi = lo := by
  cases f with
  | zero => rfl
  | succ f => rw [bsF, if_neg h]
section
variable {i : Nat} {rain : List Int} {bars : List Bar} {st : Store}

def missC (rain : List Int) (bars : List Bar) (k c : Nat) : Int := match bars[k]? with
  | some b => limv rain (bars.set k (capB b c)) k (·.missed)
  | none => 0
def fitsC (rain : List Int) (bars : List Bar) (k : Nat) (goal : Int) (c : Nat) : Bool := decide (missC rain bars k c ≤ goal)

def leastC (rain : List Int) (bars : List Bar) (k : Nat) (goal : Int) : Option Nat := if fitsC rain bars k goal 1000000000 = true then some (bsF (fitsC rain bars k goal) 30 0 1000000000) else none
def leastV : Option Nat → Val
  | none => .non
  | some r => .int r
theorem capped_spec {n : Str} {k c : Nat} {b : Bar} (ok : RowOk rain bars) (h : st[i]? = some (.ins 13 (RF rain bars))) (hb : bars[k]? = some b) (hn : b.nm = n) (hc : c ≤ 1000000000) :
    WpR (f_Row_with_capacity [.ref i, .str n, .int c] st) (fun v s => WpR (f_long_run [v] s) (fun v s => ∃ D kvs y z, v = .ref D ∧ s[D]? = some (.dct kvs) ∧ Ab.valW kvs (.inr n) = some (.tup [y, .int (missC rain bars k c), z]) ∧ Keep [] st s) (fun _ _ => False)) (fun _ _ => False) := by
  have hk := (List.getElem?_eq_some_iff.mp hb).1
  refine Vc.via0 (with_capacity_spec ok h hb hn (c := (c : Int)) ⟨by omega, by omega⟩) fun v s hv => ?_
  obtain ⟨W, rfl, hW, k1, lW⟩ := hv
  have okc : RowOk rain (bars.set k (capB b c)) := ok.cap hb ⟨by omega, by omega⟩
  have hbc : (bars.set k (capB b c))[k]? = some (capB b c) := by rw [List.getElem?_set_self hk]
  refine Vc.via0 (long_run_spec okc hW) fun v s2 hv => ?_
  obtain ⟨G, rfl, hG, k2, lG⟩ := hv
  have hl := limD_at okc hbc
  rw [show (capB b (c : Int)).nm = n from hn] at hl
  have hm : missC rain bars k c = limv rain (bars.set k (capB b c)) k (·.missed) := by unfold missC; rw [hb]
  rw [hm]
  exact ⟨G, _, _, _, rfl, hG, hl, k1.trans k2⟩
theorem least_spec {n : Str} {k : Nat} {b : Bar} {goal : Int} (ok : RowOk rain bars) (h : st[i]? = some (.ins 13 (RF rain bars))) (hb : bars[k]? = some b) (hn : b.nm = n) (hg : 0 ≤ goal ∧ goal ≤ 1000000000000) :
    WpR (f_least_capacity [.ref i, .str n, .int goal] st) (fun v s => v = leastV (leastC rain bars k goal) ∧ Keep [] st s) (fun _ _ => False) := by
  have b0 := ok.b0; have b1 := ok.b1
  have hk := (List.getElem?_eq_some_iff.mp hb).1
  have hmem : n ∈ bars.map Bar.nm := by rw [← hn]; exact List.mem_map_of_mem (List.mem_of_getElem? hb)
  refine Vc.b_def rfl ?_
  unfold m_least_capacity
  repeat' (first | array_mem_dec | fail)
  refine Vc.via (place_spec (by omega) h) (fun v s1 hv => ?_) (fun x s hx => absurd hmem hx.2.1)
  obtain ⟨rfl, _, k1⟩ := hv
  have h1 := k1.get h (by simp)
  repeat' (first | array_mem_dec | fail)
  refine Vc.v_pow (k := 1000000000000) (by decide) rfl ?_
  repeat' (first | array_mem_dec | fail)
  refine Vc.via val_spec (fun v s hv => ?_) (fun x s hx => absurd ⟨hg.1, hg.2⟩ hx.2.2)
  obtain ⟨rfl, rfl, _⟩ := hv
  repeat' (first | array_mem_dec | fail)
  refine Vc.via0 (capped_spec (c := 1000000000) ok h1 hb hn (by omega)) fun v s2 hv => ?_
  repeat' (first | array_mem_dec | fail)
  refine Vc.via0 hv fun v s3 hv => ?_
  obtain ⟨D, kvs, y, z, rfl, hD, hl, k3⟩ := hv
  repeat' (first | array_mem_dec | fail)
  refine Vc.v_dget hD hl ?_
  repeat' (first | array_mem_dec | fail)
  have k03 := k1.trans k3
  refine Vc.ite_d (fun q => ?_) (fun q => ?_)
  · repeat' (first | array_mem_dec | fail)
    refine ⟨?_, k03⟩
    unfold leastC
    rw [if_neg (by unfold fitsC; simp; omega)]; rfl
  · have fit : fitsC rain bars k goal 1000000000 = true := by unfold fitsC; simp; omega
    repeat' (first | array_mem_dec | fail)
    refine Vc.b_while (fun f ρ s => ∃ (lo hi : Nat) (a5 : Option Val), ρ = [some (.ref i), some (.str n), some (.int goal), some (.int lo), some (.int hi), a5] ∧ lo ≤ hi ∧ hi ≤ 1000000000 ∧ hi - lo < 2 ^ f ∧ bsF (fitsC rain bars k goal) f lo hi = bsF (fitsC rain bars k goal) 30 0 1000000000 ∧ Keep [] st s) ?_ (m := 30) ⟨0, 1000000000, _, rfl, by omega, by omega, by decide, rfl, k03⟩
    rintro f ρ s ⟨lo, hi, a5, rfl, e1, e2, e3, e4, ks⟩
    repeat' (first | array_mem_dec | fail)
    refine Vc.ite_d (fun q => ?_) (fun q => ?_)
    · repeat' (first | array_mem_dec | fail)
      have em : ((lo : Int) + (hi : Int)) / 2 = (((lo + hi) / 2 : Nat) : Int) := by omega
      rw [em]
      have hlt : lo < hi := by omega
      obtain ⟨g, rfl⟩ : ∃ g, f = g + 1 := by
        cases f with
        | zero => simp at e3; omega
        | succ g => exact ⟨g, rfl⟩
      rw [bsF, if_pos hlt] at e4
      have e3' : hi - lo < 2 ^ g * 2 := e3
      generalize hmid : (lo + hi) / 2 = mid at *
      refine Vc.via0 (capped_spec (c := mid) ok (ks.get h (by simp)) hb hn (by omega)) fun v s4 hv => ?_
      repeat' (first | array_mem_dec | fail)
      refine Vc.via0 hv fun v s5 hv => ?_
      obtain ⟨D2, kvs2, y2, z2, rfl, hD2, hl2, k5⟩ := hv
      repeat' (first | array_mem_dec | fail)
      refine Vc.v_dget hD2 hl2 ?_
      repeat' (first | array_mem_dec | fail)
      have kq := ks.trans k5
      refine Vc.ite_d (fun w => ?_) (fun w => ?_)
      · repeat' (first | array_mem_dec | fail)
        refine ⟨g, by omega, lo, mid, _, rfl, by omega, by omega, by omega, ?_, kq⟩
        rw [if_pos (by unfold fitsC; exact decide_eq_true w)] at e4
        exact e4
      · repeat' (first | array_mem_dec | fail)
        have e5 : (mid : Int) + 1 = ((mid + 1 : Nat) : Int) := by omega
        rw [e5]
        refine ⟨g, by omega, mid + 1, hi, _, rfl, by omega, by omega, by omega, ?_, kq⟩
        rw [if_neg (by unfold fitsC; simp; omega)] at e4
        exact e4
    · repeat' (first | array_mem_dec | fail)
      refine ⟨?_, ks⟩
      unfold leastC
      rw [if_pos fit, ← e4, bsF_done (by omega)]; rfl
end
section
variable {i : Nat} {rain : List Int} {bars : List Bar} {st : Store}
theorem Settled.uniq {Z Z' : Nat} (h : Settled rain bars Z) (h' : Settled rain bars Z') : Z = Z' := by
  have one : ∀ {Z Z' : Nat}, Settled rain bars Z → Settled rain bars Z' → ¬Z < Z' := by
    intro Z Z' h h' q
    obtain ⟨k, hk, hd⟩ := h'.diff (by omega)
    exact hd (by rw [h.same k (Z' - 1) (by omega), h.same k Z' (by omega)])
  have := one h h'; have := one h' h; omega

def FM5 (rain : List Int) (bars : List Bar) (b : Bar) (v : Val) : Prop := (∃ T' : Nat, v = .int T' ∧ 5 ≤ T' ∧ Bm b.cap b.dr (Ib rain b (UK rain (bars.take 0))) rain.length T' ∧ ∀ t, 5 ≤ t → t < T' → ¬Bm b.cap b.dr (Ib rain b (UK rain (bars.take 0))) rain.length t) ∨ (v = .non ∧ ∀ t, 5 ≤ t → ¬Bm b.cap b.dr (Ib rain b (UK rain (bars.take 0))) rain.length t)
theorem FM5.uniq {b : Bar} {v w : Val} (h : FM5 rain bars b v) (h' : FM5 rain bars b w) : v = w := by
  rcases h with ⟨T, rfl, h1, h2, h3⟩ | ⟨rfl, h1⟩ <;> rcases h' with ⟨T', rfl, g1, g2, g3⟩ | ⟨rfl, g1⟩
  · by_cases q : T < T'
    · exact absurd h2 (g3 T h1 q)
    · by_cases q' : T' < T
      · exact absurd g2 (h3 T' g1 q')
      · rw [show T = T' by omega]
  · exact absurd h2 (g1 T h1)
  · exact absurd g2 (h1 T' g1)
  · rfl
def itemV (kv : Key × Val) : Val := .tup [Ab.unkey kv.1, kv.2]

def QR (rain : List Int) (bars : List Bar) (b : Bar) (j : Int) (xs : List Val) : Prop :=
  if j = 0 then xs = (totD rain bars (1000000000 / rain.length) (1000000000 % rain.length)).map itemV
  else if j = 1 then xs = ((List.range bars.length).map fun k => ((.inr (nmK bars k), limK rain bars k) : Key × Val)).map itemV
  else if j = 2 then ∃ Z f, Settled rain bars Z ∧ FM5 rain bars b f ∧ xs = [.int (sumTo rain bars (bars.length - 1) 1000000000000 (·.over)), .int (Z : Nat), f]
  else if j = 3 then xs = (chD rain bars 0).map itemV ++ [.int ((if bars.length = 1 then 0 else limv rain (bars.eraseIdx 0) (bars.length - 2) (·.over)) - limv rain bars (bars.length - 1) (·.over))]
  else xs = [leastV (leastC rain bars 0 2), .int (rowAt rain bars 0 77).lev, .int (rowAt (rain.set 0 9) bars 0 3).lev]
theorem QR.uniq {b : Bar} {j : Int} {xs ys : List Val} (h : QR rain bars b j xs) (h' : QR rain bars b j ys) : xs = ys := by
  unfold QR at h h'
  split at h
  · rename_i q; rw [if_pos q] at h'; rw [h, h']
  · rename_i q; rw [if_neg q] at h'
    split at h
    · rename_i q; rw [if_pos q] at h'; rw [h, h']
    · rename_i q; rw [if_neg q] at h'
      split at h
      · rename_i q; rw [if_pos q] at h'
        obtain ⟨Z, f, h1, h2, h3⟩ := h
        obtain ⟨Z', f', g1, g2, g3⟩ := h'
        rw [h3, g3, h1.uniq g1, h2.uniq g2]
      · rename_i q; rw [if_neg q] at h'
        split at h
        · rename_i q; rw [if_pos q] at h'; rw [h, h']
        · rename_i q; rw [if_neg q] at h'; rw [h, h']
theorem item_alike {kv : Key × Val} {g : List Val} (hf : Ab.flatW (Ab.unkey kv.1) = true) (hk : kv.2 = .tup g) (hl : g.length ≤ 3) (hg : g.all Ab.flatW = true) : Vc.Alike st 4 (itemV kv) (itemV kv) := by
  unfold itemV
  refine Vc.alike_tup (by simp) fun x hx => ?_
  simp only [List.mem_cons, List.not_mem_nil, or_false] at hx
  rcases hx with e | e
  · rw [e]; exact Vc.alike_flat hf
  · rw [e, hk]; exact Vc.alike_flats (by omega) hg
theorem QR.alike {b : Bar} {j : Int} {xs : List Val} (ok : RowOk rain bars) (h : QR rain bars b j xs) : xs.length ≤ 6 ∧ ∀ x ∈ xs, Vc.Alike st 4 x x := by
  have b1 := ok.b1
  unfold QR at h
  split at h
  · subst h
    unfold totD
    refine ⟨by simp; omega, fun x hx => ?_⟩
    obtain ⟨kv, hkv, rfl⟩ := List.mem_map.mp hx
    obtain ⟨k, hk, rfl⟩ := List.mem_map.mp hkv
    have hk' := List.mem_range.mp hk
    have ht : ∃ x y z : Int, totK rain bars (1000000000 / rain.length) (1000000000 % rain.length) k = .tup [.int x, .int y, .int z] := by
      unfold totK
      rw [List.getElem?_eq_getElem hk']
      exact ⟨_, _, _, rfl⟩
    obtain ⟨x, y, z, ht⟩ := ht
    exact item_alike (g := [.int x, .int y, .int z]) rfl ht (by simp) rfl
  · split at h
    · subst h
      refine ⟨by simp; omega, fun x hx => ?_⟩
      obtain ⟨kv, hkv, rfl⟩ := List.mem_map.mp hx
      obtain ⟨k, hk, rfl⟩ := List.mem_map.mp hkv
      have hk' := List.mem_range.mp hk
      exact item_alike (g := [.int (limv rain bars k (·.drawn)), .int (limv rain bars k (·.missed)), .int (limv rain bars k (·.over))]) rfl (limK_get hk') (by simp) rfl
    · split at h
      · obtain ⟨Z, f, _, hf, rfl⟩ := h
        refine ⟨by simp, fun x hx => ?_⟩
        simp only [List.mem_cons, List.not_mem_nil, or_false] at hx
        rcases hx with e | e | e
        · rw [e]; exact Vc.alike_flat rfl
        · rw [e]; exact Vc.alike_flat rfl
        · rw [e]
          rcases hf with ⟨T, rfl, _⟩ | ⟨rfl, _⟩ <;> exact Vc.alike_flat rfl
      · split at h
        · subst h
          have hl : (chD rain bars 0).length ≤ 5 := by
            unfold chD
            have := List.length_filter_le (chP rain bars 0) (List.range (bars.length - 1))
            rw [List.length_range] at this
            rw [List.length_map]
            omega
          refine ⟨by simp; omega, fun x hx => ?_⟩
          rcases List.mem_append.mp hx with hx | hx
          · obtain ⟨kv, hkv, rfl⟩ := List.mem_map.mp hx
            unfold chD at hkv
            obtain ⟨k, hk, rfl⟩ := List.mem_map.mp hkv
            exact item_alike (g := [.int (limv rain bars (sg 0 k) (·.drawn)), .int (limv rain (bars.eraseIdx 0) k (·.drawn))]) rfl rfl (by simp) rfl
          · rw [List.mem_singleton.mp hx]; exact Vc.alike_flat rfl
        · subst h
          refine ⟨by simp, fun x hx => ?_⟩
          simp only [List.mem_cons, List.not_mem_nil, or_false] at hx
          rcases hx with e | e | e
          · rw [e]; cases leastC rain bars 0 2 <;> exact Vc.alike_flat rfl
          · rw [e]; exact Vc.alike_flat rfl
          · rw [e]; exact Vc.alike_flat rfl
theorem query_spec {b : Bar} {j : Int} (ok : RowOk rain bars) (h : st[i]? = some (.ins 13 (RF rain bars))) (hb : bars[0]? = some b) (j0 : 0 ≤ j) (j1 : j < 5) :
    WpR (f_law_query [.ref i, .int j] st) (fun v s => ∃ D xs, v = .ref D ∧ s[D]? = some (.lst xs) ∧ QR rain bars b j xs ∧ Keep [] st s ∧ st.length ≤ D) (fun _ _ => False) := by
  have b0 := ok.b0; have b1 := ok.b1; have n0 := ok.n0; have n1 := ok.n1
  have a0 : L2.atI ((bars.map Bar.nm).map Val.str) 0 = some (.str b.nm) := atI_nat (j := 0) (by rw [List.getElem?_map, List.getElem?_map, hb]; rfl)
  refine Vc.b_def rfl ?_
  unfold m_law_query
  repeat' (first | array_mem_dec | fail)
  refine Vc.via0 (names_spec (by omega) h) fun v s1 hv => ?_
  obtain ⟨rfl, k1⟩ := hv
  have h1 := k1.get h (by simp)
  repeat' (first | array_mem_dec | fail)
  refine Vc.v_ixT a0 ?_
  repeat' (first | array_mem_dec | fail)
  refine Vc.ite_d (fun q0 => ?_) (fun q0 => ?_)
  · repeat' (first | array_mem_dec | fail)
    refine Vc.via0 (totals_spec (T := 1000000000) ok h1 (by omega)) fun v s2 hv => ?_
    obtain ⟨D, rfl, hD, k2, lD⟩ := hv
    repeat' (first | array_mem_dec | fail)
    rename_i L s3 hL k3 l3
    have lDL := Vc.lt_of hD
    refine ⟨D, _, _, rfl, rfl, k3.get hD (by simp), by unfold totD; simp; omega, ?_⟩
    intro s4 hs4 k4
    repeat' (first | array_mem_dec | fail)
    have hL4 := k4.get hL (by simp; omega)
    refine ⟨L, _, rfl, hL4, by unfold QR; rw [if_pos q0]; rfl, ?_, by have := k1.1; have := k2.1; omega⟩
    exact Vc.k_seq ((k1.trans k2).trans k3) k4 fun z hz => .inr (by rw [List.mem_singleton.mp hz]; have := k1.1; omega)
  · repeat' (first | array_mem_dec | fail)
    refine Vc.ite_d (fun q1 => ?_) (fun q1 => ?_)
    · repeat' (first | array_mem_dec | fail)
      refine Vc.via0 (long_run_spec ok h1) fun v s2 hv => ?_
      obtain ⟨D, rfl, hD, k2, lD⟩ := hv
      repeat' (first | array_mem_dec | fail)
      rename_i L s3 hL k3 l3
      have lDL := Vc.lt_of hD
      refine ⟨D, _, _, rfl, rfl, k3.get hD (by simp), by simp; omega, ?_⟩
      intro s4 hs4 k4
      repeat' (first | array_mem_dec | fail)
      have hL4 := k4.get hL (by simp; omega)
      refine ⟨L, _, rfl, hL4, by unfold QR; rw [if_neg q0, if_pos q1]; rfl, ?_, by have := k1.1; have := k2.1; omega⟩
      exact Vc.k_seq ((k1.trans k2).trans k3) k4 fun z hz => .inr (by rw [List.mem_singleton.mp hz]; have := k1.1; omega)
    · repeat' (first | array_mem_dec | fail)
      refine Vc.ite_d (fun q2 => ?_) (fun q2 => ?_)
      · repeat' (first | array_mem_dec | fail)
        refine Vc.v_pow (k := 1000000000000) (by decide) rfl ?_
        repeat' (first | array_mem_dec | fail)
        have hL : bars[bars.length - 1]? = some bars[bars.length - 1] := List.getElem?_eq_getElem (by omega)
        refine Vc.via0 (lost_spec (T := 1000000000000) (k := bars.length - 1) ok h1 (by omega) hL (by omega)) fun v s2 hv => ?_
        obtain ⟨rfl, k2⟩ := hv
        repeat' (first | array_mem_dec | fail)
        refine Vc.via0 (settled2_spec ok (k2.get h1 (by simp))) fun v s3 hv => ?_
        obtain ⟨Z, rfl, k3, hZ⟩ := hv
        have k23 := k2.trans k3
        repeat' (first | array_mem_dec | fail)
        refine Vc.via0 (first_missed_spec (T := 5) ok (k23.get h1 (by simp)) (by omega) hb rfl) fun v s4 hv => ?_
        obtain ⟨k4, hf⟩ := hv
        repeat' (first | array_mem_dec | fail)
        rename_i L s5 hL k5 l5
        refine ⟨L, _, rfl, hL, by unfold QR; rw [if_neg q0, if_neg q1, if_pos q2]; exact ⟨Z, v, hZ, hf, rfl⟩, ((k1.trans k23).trans k4).trans k5, ?_⟩
        have := (((k1.trans k23).trans k4)).1
        omega
      · repeat' (first | array_mem_dec | fail)
        refine Vc.ite_d (fun q3 => ?_) (fun q3 => ?_)
        · repeat' (first | array_mem_dec | fail)
          refine Vc.via0 (change_spec ok h1 hb rfl) fun v s2 hv => ?_
          obtain ⟨D, rfl, hD, k2, lD⟩ := hv
          have hcl : (chD rain bars 0).length ≤ 5 := by
            unfold chD
            have := List.length_filter_le (chP rain bars 0) (List.range (bars.length - 1))
            rw [List.length_range] at this
            rw [List.length_map]
            omega
          repeat' (first | array_mem_dec | fail)
          rename_i L s3 hL k3 l3
          have lDL := Vc.lt_of hD
          refine ⟨D, _, _, rfl, rfl, k3.get hD (by simp), by omega, ?_⟩
          intro s4 hs4 k4
          have hL4 := k4.get hL (by simp; omega)
          have kS : Keep [] s1 s4 := Vc.k_seq (k2.trans k3) k4 fun z hz => .inr (by rw [List.mem_singleton.mp hz]; omega)
          repeat' (first | array_mem_dec | fail)
          refine Vc.via0 (held_spec ok (kS.get h1 (by simp)) hb rfl) fun v s5 hv => ?_
          obtain ⟨rfl, k5⟩ := hv
          repeat' (first | array_mem_dec | fail)
          rename_i M s6 hM k6 l6 N s7 hN k7 l7
          refine ⟨N, _, rfl, hN, by unfold QR; rw [if_neg q0, if_neg q1, if_neg q2, if_pos q3]; rfl, (((k1.trans kS).trans k5).trans k6).trans k7, ?_⟩
          have := (((k1.trans kS).trans k5).trans k6).1
          omega
        · repeat' (first | array_mem_dec | fail)
          refine Vc.via0 (least_spec ok h1 hb rfl ⟨by omega, by omega⟩) fun v s2 hv => ?_
          obtain ⟨rfl, k2⟩ := hv
          have h2 := k2.get h1 (by simp)
          repeat' (first | array_mem_dec | fail)
          refine Vc.via0 (Row_call_spec (T := 77) ok h2 (by omega) hb rfl) fun v s3 hv => ?_
          obtain ⟨rfl, k3⟩ := hv
          have h3 := k3.get h2 (by simp)
          repeat' (first | array_mem_dec | fail)
          refine Vc.via0 (with_rain_spec (j := 0) (a := 9) ok h3 n0 (by omega)) fun v s4 hv => ?_
          obtain ⟨W, rfl, hW, k4, lW⟩ := hv
          repeat' (first | array_mem_dec | fail)
          refine Vc.via0 (Row_call_spec (T := 3) (ok.wet (j := 0) (a := 9) (by omega)) hW (by omega) hb rfl) fun v s5 hv => ?_
          obtain ⟨rfl, k5⟩ := hv
          repeat' (first | array_mem_dec | fail)
          rename_i L s6 hL k6 l6
          refine ⟨L, _, rfl, hL, by unfold QR; rw [if_neg q0, if_neg q1, if_neg q2, if_neg q3], ((((k1.trans k2).trans k3).trans k4).trans k5).trans k6, ?_⟩
          have := ((((k1.trans k2).trans k3).trans k4).trans k5).1
          omega
end
theorem v_rev {X : Exc → Store → Prop} {Q : Val → Store → Prop} {st : Store} {i : Nat} {xs : List Val} (h : st[i]? = some (.lst xs)) (q : Wr i (.lst xs.reverse) st fun s => Q .non s) : WpR (Ab.vReverse (.ref i) [] st) Q X := by
  simp only [Vc.uR, Vc.uO, Vc.uG] at *
  dsimp only [Ab.vReverse]; rw [h]; exact q.at h
structure RowT where
  r : Nat
  rain : List Int
  bars : List Bar
  b : Bar
def RowT.Ok (t : RowT) (s : Store) : Prop := RowOk t.rain t.bars ∧ t.bars[0]? = some t.b ∧ s[t.r]? = some (.ins 13 (RF t.rain t.bars))
theorem RowT.Ok.keep {t : RowT} {S : List Nat} {s s' : Store} (h : t.Ok s) (k : Keep S s s') (hS : t.r ∉ S) : t.Ok s' := ⟨h.1, h.2.1, k.get h.2.2 hS⟩
def Asked (t : RowT) (L : Nat) (es : List Nat) (n : Nat) (s : Store) : Prop := es.length = n ∧ ∀ (j e : Nat), es[j]? = some e → L ≤ e ∧ ∃ xs, s[e]? = some (.lst xs) ∧ QR t.rain t.bars t.b j xs
theorem Asked.keep {t : RowT} {L n : Nat} {es : List Nat} {S : List Nat} {s s' : Store} (h : Asked t L es n s) (k : Keep S s s') (hS : ∀ x ∈ S, x < L ∨ s.length ≤ x) : Asked t L es n s' := by
  refine ⟨h.1, fun j e he => ?_⟩
  obtain ⟨h1, xs, h2, h3⟩ := h.2 j e he
  have := Vc.lt_of h2
  refine ⟨h1, xs, k.get h2 fun hm => ?_, h3⟩
  have := hS _ hm
  omega
theorem Asked.snoc {t : RowT} {L n e : Nat} {es : List Nat} {s : Store} {xs : List Val} (h : Asked t L es n s) (hL : L ≤ e) (he : s[e]? = some (.lst xs)) (q : QR t.rain t.bars t.b n xs) : Asked t L (es ++ [e]) (n + 1) s := by
  refine ⟨by simp [h.1], fun j e' he' => ?_⟩
  by_cases hj : j < es.length
  · rw [List.getElem?_append_left hj] at he'
    exact h.2 j e' he'
  · rw [List.getElem?_append_right (by omega)] at he'
    have : j - es.length = 0 := by
      by_cases z : j - es.length = 0
      · exact z
      · rw [List.getElem?_eq_none (by simp; omega)] at he'; cases he'
    rw [this] at he'
    simp at he'
    subst he'
    have : j = n := by have := h.1; omega
    subst this
    exact ⟨hL, xs, he, q⟩
def Told (t : RowT) (L o : Nat) (s : Store) : Prop := L ≤ o ∧ ∃ es, s[o]? = some (.lst (es.map .ref)) ∧ Asked t L es 5 s
theorem Told.keep {t : RowT} {L o : Nat} {S : List Nat} {s s' : Store} (h : Told t L o s) (k : Keep S s s') (hS : ∀ x ∈ S, x < L ∨ s.length ≤ x) : Told t L o s' := by
  obtain ⟨h1, es, h2, h3⟩ := h
  have := Vc.lt_of h2
  refine ⟨h1, es, k.get h2 fun hm => ?_, h3.keep k hS⟩
  have := hS _ hm
  omega
noncomputable def t_ask : ME := Se.mLc (Se.iRange1 (Se.aCons (Se.mC (.int 5)) (Se.aNil))) (Se.gSet 7) (Se.mYes) (Se.mApp Ab.bList (Se.aCons (Se.mApp f_law_query (Se.aCons (Se.mVar 8) (Se.aCons (Se.mVar 7) (Se.aNil)))) (Se.aNil))) [7]
theorem asks_spec {t : RowT} {s : Store} {v0 v1 v2 : Val} {a3 a4 a5 a6 a7 a9 a10 : Option Val} (ok : t.Ok s) :
    WpR (t_ask [some v0, some v1, some v2, a3, a4, a5, a6, a7, some (.ref t.r), a9, a10] s)
      (fun v s' => ∃ o, v = .ref o ∧ Told t s.length o s' ∧ Keep [] s s') (fun _ _ => False) := by
  unfold t_ask
  repeat' (first | array_mem_dec | fail)
  refine Vc.ex_range1 (by omega) ?_
  refine Vc.lc_new fun D s1 hD k1 l1 => ?_
  have lD := Vc.lt_of hD
  have ok1 := ok.keep k1 (by simp)
  refine Vc.lcY_l (xs := List.range 5) (F := fun k : Nat => Val.int k) (fun d acc s' => ∃ es : List Nat, acc = es.map Val.ref ∧ Asked t s1.length es d.length s' ∧ Keep [D] s1 s') (fun _ _ _ _ => trivial) ?_ ?_ ⟨[], rfl, ⟨rfl, fun j e he => by simp at he⟩, .refl⟩ hD
  · rintro d j rest acc s2 ee ⟨es, rfl, hA, kk⟩ hs
    obtain ⟨e1, e2, e3⟩ := Vc.range_split ee
    have ltr := Vc.lt_of ok.2.2
    have ok2 := ok1.keep kk (by simp; omega)
    repeat' (first | array_mem_dec | fail)
    refine Vc.via0 (query_spec (j := (j : Int)) ok2.1 ok2.2.2 ok2.2.1 (by omega) (by omega)) fun v s3 hv => ?_
    obtain ⟨A, xs, rfl, hxs, hq, k3, lA⟩ := hv
    repeat' (first | array_mem_dec | fail)
    rename_i B s4 hB k4 l4
    have k24 := k3.trans k4
    have k12 := kk.1
    have k31 := k3.1
    refine ⟨k24.get hs (by simp), by rw [List.length_map]; have := hA.1; omega, ?_⟩
    intro s5 hs5 k5
    refine ⟨es ++ [B], by rw [List.map_append]; rfl, ?_, ?_⟩
    · rw [List.length_append, List.length_singleton]
      have hB5 := k5.get hB (by simp; omega)
      have hA4 : Asked t s1.length es d.length s4 := hA.keep k24 (by simp)
      refine (hA4.keep k5 (fun x hx => .inl (by rw [List.mem_singleton.mp hx]; omega))).snoc (by omega) hB5 ?_
      rw [← e1]; exact hq
    · exact Vc.k_seq (Vc.k_nil kk k24) k5 fun z hz => .inl hz
  · rintro acc s2 ⟨es, rfl, hA, kk⟩ hs
    refine ⟨D, rfl, ⟨l1, es, hs, ?_⟩, ?_⟩
    · rw [List.length_range] at hA
      exact ⟨hA.1, fun j e he => ⟨by have := (hA.2 j e he).1; have := k1.1; omega, (hA.2 j e he).2⟩⟩
    · exact Vc.k_seq k1 kk fun z hz => .inr (by rw [List.mem_singleton.mp hz]; omega)
theorem law_spec {ns : List Int} {cell : Cell} (hs : seqAt [cell] 0 = some (ns.map .int)) (hl : ns.length ≤ 63) : WpR (Ab.defM 1 10 m_law [.ref 0] [cell]) (fun v _ => v = .bl true) (fun _ _ => False) := by
  refine Vc.b_def rfl ?_
  unfold m_law
  show WpO (Se.sSeq _ (Se.sSeq _ (Se.sSeq _ (Se.sSeq (Se.sSet 6 (Se.mLc (Se.iSeqM (Se.mVar 2)) (Se.gSet 8) Se.mYes t_ask [8])) _))) _ _) _
  repeat' (first | array_mem_dec | fail)
  refine Vc.via0 (start_spec hs hl) fun v s1 hv => ?_
  obtain ⟨h, rfl, d1, k1⟩ := hv
  repeat' (first | array_mem_dec | fail)
  rename_i W s2 hW k2 l2
  have d2 := d1.keep0 k2
  have lh := d1.lt
  have lW := Vc.lt_of hW
  refine Vc.ex_range1 (by omega) ?_
  refine Vc.for_l (fun d ρ s => Drawn ns h 0 s ∧ ∃ (T : List RowT) (b3 b4 b5 b6 b7 b8 b9 b10 : Option Val), ρ = [some (.ref 0), some (.ref h), some (.ref W), b3, b4, b5, b6, b7, b8, b9, b10] ∧ s[W]? = some (.lst (T.map fun t => .ref t.r)) ∧ T.length = d.length ∧ s2.length ≤ s.length ∧ ∀ t ∈ T, s2.length ≤ t.r ∧ t.Ok s) (fun _ _ _ _ => trivial) ?_ ?_ ⟨d2, [], _, _, _, _, _, _, _, _, rfl, hW, rfl, Nat.le_refl _, by simp⟩
  · rintro d k rest ρ s3 ee ⟨d3, T, b3, b4, b5, b6, b7, b8, b9, b10, rfl, hW3, hTl, l3, hT⟩
    obtain ⟨e1, e2, e3⟩ := Vc.range_split ee
    repeat' (first | array_mem_dec | fail)
    rename_i M s4 hM k4 l4
    have d4 := d3.keep0 k4
    refine Vc.via0 (drawn_spec d4 (by decide) (by decide)) fun v s5 hv => ?_
    obtain ⟨⟨r, rfl, r0, r1⟩, d5, k5⟩ := hv
    have hM5 := k5.get hM (by simp; omega)
    obtain ⟨high, hh, hh2⟩ := pick2 (a := 3) (b := 40) r0 r1
    refine Vc.v_ixL hM5 hh ?_
    repeat' (first | array_mem_dec | fail)
    refine Vc.via0 (plan_spec d5 (by decide) (by decide) (by omega) (by omega)) fun v s6 hv => ?_
    obtain ⟨rain, bars, B, rfl, hB, pl, d6, k6, lB⟩ := hv
    have ok := pl.row (by decide) (by omega)
    have b0' := ok.b0
    repeat' (first | array_mem_dec | fail)
    refine Vc.via0 (row_of_spec ok hB) fun v s7 hv => ?_
    obtain ⟨R, rfl, hR, k7, lR⟩ := hv
    have d7 := d6.keep0 k7
    have k41 := k4.1; have k51 := k5.1; have k61 := k6.1
    have k37 : Keep [h] s3 s7 := ((k4.nil.trans k5).trans k6).trans k7.nil
    have hW7 := k37.get hW3 (by simp; omega)
    repeat' (first | array_mem_dec | fail)
    rename_i s8 hW8 k8
    have hbK : bars[0]? = some bars[0] := List.getElem?_eq_getElem b0'
    have k81 := k8.1
    refine ⟨d7.keep k8 (by simp; omega) (by simp; omega), T ++ [⟨R, rain, bars, bars[0]⟩], _, _, _, _, _, _, _, _, rfl, by rw [List.map_append]; exact hW8, by rw [List.length_append, List.length_append, hTl]; rfl, by have := k37.1; omega, ?_⟩
    intro t ht
    rcases List.mem_append.mp ht with ht | ht
    · obtain ⟨g1, g2⟩ := hT t ht
      exact ⟨g1, (g2.keep k37 (by simp; omega)).keep k8 (by simp; omega)⟩
    · rw [List.mem_singleton.mp ht]
      exact ⟨by show s2.length ≤ R; omega, ok, hbK, k8.get hR (by simp; omega)⟩
  · rintro ρ s3 ⟨d3, T, b3, b4, b5, b6, b7, b8, b9, b10, rfl, hW3, hTl, l3, hT⟩
    repeat' (first | array_mem_dec | fail)
    refine Vc.lc_new fun D s4 hD k4 l4 => ?_
    have lD := Vc.lt_of hD
    have k41 := k4.1
    have hW4 := k4.get hW3 (by simp)
    have d4 := d3.keep0 k4
    have hT4 : ∀ t ∈ T, s2.length ≤ t.r ∧ t.r < D ∧ t.Ok s4 := fun t ht => ⟨(hT t ht).1, by have := Vc.lt_of (hT t ht).2.2.2; omega, (hT t ht).2.keep k4 (by simp)⟩
    refine Vc.lcY_l (xs := T) (F := fun t => .ref t.r) (fun d acc s => ∃ os : List Nat, acc = os.map Val.ref ∧ os.length = d.length ∧ Keep [D] s4 s ∧ ∀ (k : Nat) (t : RowT) (o : Nat), d[k]? = some t → os[k]? = some o → Told t s4.length o s) (fun d acc s ⟨os, _, _, kk, _⟩ => Ab.seqAt_lst (kk.get hW4 (by simp; omega))) ?_ ?_ ⟨[], rfl, rfl, .refl, fun k t o h1 _ => by simp at h1⟩ hD
    · rintro d t rest acc s5 ee ⟨os, rfl, hol, kk, hos⟩ hs
      have htm : t ∈ T := by rw [ee]; simp
      obtain ⟨t1, t2, t3⟩ := hT4 t htm
      have t5 := t3.keep kk (by simp; omega)
      have dl : d.length ≤ T.length := by rw [ee]; simp
      have hTl2 : T.length ≤ 2 := by rw [hTl]; decide
      have kk1 := kk.1
      repeat' (first | array_mem_dec | fail)
      refine Vc.via0 (asks_spec t5) fun v s6 hv => ?_
      obtain ⟨o, rfl, ho, k6⟩ := hv
      refine ⟨k6.get hs (by simp), by rw [List.length_map]; omega, ?_⟩
      intro s7 hs7 k7
      refine ⟨os ++ [o], by rw [List.map_append]; rfl, by simp [hol], Vc.k_seq (Vc.k_nil kk k6) k7 fun z hz => .inl hz, ?_⟩
      have hin : ∀ x ∈ [D], x < s4.length ∨ s6.length ≤ x := fun x hx => .inl (by rw [List.mem_singleton.mp hx]; exact lD)
      intro k t' o' h1 h2
      by_cases hk : k < d.length
      · rw [List.getElem?_append_left hk] at h1
        rw [List.getElem?_append_left (by omega)] at h2
        exact ((hos k t' o' h1 h2).keep k6 (by simp)).keep k7 hin
      · rw [List.getElem?_append_right (by omega)] at h1 h2
        have hz : k - d.length = 0 := by
          by_cases z : k - d.length = 0
          · exact z
          · rw [List.getElem?_eq_none (by simp; omega)] at h1; cases h1
        rw [hz] at h1
        rw [hol, hz] at h2
        simp at h1 h2
        subst h1 h2
        obtain ⟨g1, es, g2, g3⟩ := ho
        have ho2 : Told t s4.length o s6 := ⟨by omega, es, g2, g3.1, fun j e he => ⟨by have := (g3.2 j e he).1; omega, (g3.2 j e he).2⟩⟩
        exact ho2.keep k7 hin
    · rintro acc s5 ⟨os, rfl, hol, kk, hos⟩ hE
      have d5 := d4.keep kk (by simp; omega) (by simp; omega)
      have lh4 := d4.lt
      have hT5 : ∀ t ∈ T, s2.length ≤ t.r ∧ t.Ok s5 := fun t ht => ⟨(hT4 t ht).1, (hT4 t ht).2.2.keep kk (by have := (hT4 t ht).2.1; simp; omega)⟩
      have hW5 := kk.get hW4 (by simp; omega)
      have hTl2 : T.length = 2 := by rw [hTl]; decide
      have lE : D ≠ h := by omega
      repeat' (first | array_mem_dec | fail)
      refine Vc.via0 (drawn_spec d5 (by decide) (by decide)) fun v s6 hv => ?_
      obtain ⟨⟨r, rfl, r0, r1⟩, d6, k6⟩ := hv
      repeat' (first | array_mem_dec | fail)
      refine Vc.ex_range1 (by omega) ?_
      refine Vc.for_l (fun d ρ s => Drawn ns h 0 s ∧ Keep [h] s5 s ∧ ∃ (b3 b4 b5 b7 b8 b9 b10 : Option Val), ρ = [some (.ref 0), some (.ref h), some (.ref W), b3, b4, b5, some (.ref D), b7, b8, b9, b10]) (fun _ _ _ _ => trivial) ?_ ?_ ⟨d6, k6, _, _, _, _, _, _, _, rfl⟩
      · rintro d n rest ρ s7 _ ⟨d7, k7, b3, b4, b5, b7, b8, b9, b10, rfl⟩
        repeat' (first | array_mem_dec | fail)
        refine Vc.via0 (drawn_spec d7 (by decide) (by decide)) fun v s8 hv => ?_
        obtain ⟨⟨r8, rfl, r80, r81⟩, d8, k8⟩ := hv
        obtain ⟨K, rfl⟩ : ∃ K : Nat, r8 = K := ⟨r8.toNat, by omega⟩
        repeat' (first | array_mem_dec | fail)
        refine Vc.via0 (drawn_spec d8 (by decide) (by decide)) fun v s9 hv => ?_
        obtain ⟨⟨r9, rfl, r90, r91⟩, d9, k9⟩ := hv
        obtain ⟨J, rfl⟩ : ∃ J : Nat, r9 = J := ⟨r9.toNat, by omega⟩
        have k59 := (k7.trans k8).trans k9
        have hW9 := k59.get hW5 (by simp; omega)
        have hE9 := k59.get hE (by simp; omega)
        have hTK : T[K]? = some T[K] := List.getElem?_eq_getElem (by omega)
        generalize T[K] = t at hTK
        have hoK : os[K]? = some os[K] := List.getElem?_eq_getElem (by omega)
        generalize os[K] = o at hoK
        obtain ⟨t1, t2⟩ := hT5 t (List.mem_of_getElem? hTK)
        have t9 := t2.keep k59 (by simp; omega)
        have o9 := (hos K t o hTK hoK).keep k59 (fun x hx => .inl (by rw [List.mem_singleton.mp hx]; omega))
        repeat' (first | array_mem_dec | fail)
        refine Vc.v_ixLn hW9 hTK ?_
        repeat' (first | array_mem_dec | fail)
        refine Vc.via0 (query_spec (j := (J : Int)) t9.1 t9.2.2 t9.2.1 (by omega) (by omega)) fun v s10 hv => ?_
        obtain ⟨A, xs, rfl, hxs, hq, k10, lA⟩ := hv
        have o10 := o9.keep k10 (by simp)
        obtain ⟨g1, es, g2, g3, g4⟩ := o10
        have heJ : es[J]? = some es[J] := List.getElem?_eq_getElem (by omega)
        generalize es[J] = e at heJ
        obtain ⟨f1, ys, f2, f3⟩ := g4 J e heJ
        have hxy := hq.uniq f3
        subst hxy
        obtain ⟨al1, al2⟩ := hq.alike (st := s10) t9.1
        repeat' (first | array_mem_dec | fail)
        refine Vc.v_ixLn (k10.get hE9 (by simp)) hoK ?_
        repeat' (first | array_mem_dec | fail)
        refine Vc.v_ixLn g2 heJ ?_
        repeat' (first | array_mem_dec | fail)
        refine Vc.via0 (same_spec (Vc.alike_lst hxs f2 (by omega) al2)) fun v s11 hv => ?_
        obtain ⟨rfl, k11⟩ := hv
        have d11 := (d9.keep0 k10).keep0 k11
        have hA11 := k11.get hxs (by simp)
        have lh9 := d9.lt
        have c0 := d9.ltc
        repeat' (first | array_mem_dec | fail)
        rename_i s12 hA12 k12
        refine v_rev hA12 ?_
        intro s13 hA13 k13
        have kk12 : Keep [h] s5 s11 := (k59.trans k10.nil).trans k11.nil
        have l5 := k59.1
        have ld5 := d5.lt
        have kA : Keep [h] s5 s12 := Vc.k_seq kk12 k12 fun z hz => .inr (by rw [List.mem_singleton.mp hz]; omega)
        have kB : Keep [h] s5 s13 := Vc.k_seq kA k13 fun z hz => .inr (by rw [List.mem_singleton.mp hz]; omega)
        exact ⟨(d11.keep k12 (by simp; omega) (by simp; omega)).keep k13 (by simp; omega) (by simp; omega), kB, _, _, _, _, _, _, _, rfl⟩
      · rintro ρ s7 ⟨d7, k7, b3, b4, b5, b7, b8, b9, b10, rfl⟩
        repeat' (first | array_mem_dec | fail)
        rfl
theorem plain (ns : List Int) (cell : Cell) (hc : Ab.IsScript ns cell) (hl : ns.length ≤ 63) (hb : ∀ z ∈ ns, Builtin.Int.intBits z ≤ 1048576) : ∃ st', Ab.defM 1 10 m_law [.ref 0] [cell] = .ok (.bl true) st' := by
  have hs : seqAt [cell] 0 = some (ns.map .int) := by rcases hc with e | e <;> subst e <;> rfl
  obtain ⟨a, st', e, h⟩ := Ab.wp_eq (Vc.to_ab (law_spec hs hl))
  exact ⟨st', by rw [e, h]⟩
end K10

set_option Elab.async false
set_option linter.all false
open PySem PySem.W PyProof.Rows in
set_option maxRecDepth 100000 in
set_option maxHeartbeats 0 in
theorem PySem.Challenge.cw_barrelrow_k10_repeated_calls_holds : PySem.Challenge.rw_barrelrow_k10_repeated_calls.Holds := by
  w_on; o_law; k_head; (case hw => w_witness2)
  k_fill
  refine LamX.walk_ofOwn (l := PySem.Challenge.rw_barrelrow_k10_repeated_calls) (n := 63) (k := 11) (CX := fun w => L2.CX PySem.Challenge.rw_barrelrow_k10_repeated_calls.prog w) (x := "_law_script") rfl (by decide) rfl ⟨rfl, by decide, by decide⟩ (by decide +kernel) (fun w h Y => by first | exact PySem.W.km_in_of Y | exact PySem.W.kIn_of Y) ?F (fun w H s e s' hx => by
    obtain ⟨_, _, _, _, _, _, _, _, _, _, _, _, z⟩ := hx
    exact z)
  case F =>
    intro w mg fa h Y KX G hmg own
    refine' K10.end_at KX G own hmg ?fx K10.plain ?a_law ?z1 ?z2 ?lk ?hcd ?lc ?h11 ?nP ?hh
    (case a_law => k_is); (case z1 => k_is); (case z2 => k_is); (case lk => k_is); (case hcd => k_is); (case lc => k_is); (case h11 => first | rfl | decide +kernel); (case nP => first | k_is | rfl | decide +kernel); (case hh => first | rfl | decide +kernel)
    case fx =>
      refine' K10.fx_mk KX G ?z_range ?z_len ?z_int ?z_tuple ?z_enumerate ?v_MAX_RAIN ?v_MAX_LETTERS ?v_LETTERS ?z_all ?v_MAX_AMOUNT ?v_MAX_ROOF ?v_MAX_TICK ?z_zip ?z_max ?z_min ?z_any ?z_sum ?z_list ?z_isinstance ?z_bool ?a_law_start ?a_law_drawn ?a_law_plan ?a_Row ?a_is_name ?a_is_barrel ?a_OtherRain ?a_law_row ?a_InvalidNumber ?a_validate_number ?a_split_ticks ?a_Flow ?a_Stretch ?a_flows_of ?a_sums_of ?a_totals ?a_long_run ?a_place_of ?a_missed_from ?a_first_missed ?a_settled_round ?a_lost ?a_change_without ?a_lost_per_round ?a_held_back ?a_least_capacity ?a_law_query ?a_law_same ?a_InvalidRow ?a_RowError ?a_UnknownBarrel ?ii_Row ?at_Row_add ?at_Row_names ?at_Row_rain ?at_Row_barrels ?at_Flow_play_round ?at_Flow_alike ?ii_Stretch ?at_Flow_extend ?at_Flow_play ?at_Flow_is_like_last ?ii_Flow ?at_Flow_outflow ?at_Flow_stretch_at ?at_Flow_rows_of ?at_Flow_sums ?at_Flow_last_sums ?at_Flow_next_missed ?at_Row_len ?at_Row_sub ?at_Flow_level ?at_Row_call ?at_Row_with_rain ?at_Row_with_capacity ?ii_InvalidRow ?ii_UnknownBarrel ?gt_Row_names ?tk_Row_names ?rc_Row_names ?gt_Row_rain ?tk_Row_rain ?rc_Row_rain ?gt_Row_barrels ?tk_Row_barrels ?rc_Row_barrels ?l_law_start ?l_law_drawn ?l_law_plan ?l_is_name ?l_is_barrel ?l_Row_init ?l_Row_add ?l_law_row ?l_Row_names ?l_validate_number ?l_Row_rain ?l_split_ticks ?l_Row_barrels ?l_Flow_play_round ?l_Flow_alike ?l_Stretch_init ?l_Flow_extend ?l_Flow_play ?l_Flow_is_like_last ?l_Flow_init ?l_Flow_outflow ?l_flows_of ?l_Flow_stretch_at ?l_Flow_rows_of ?l_sums_of ?l_Flow_sums ?l_totals ?l_Flow_last_sums ?l_long_run ?l_place_of ?l_missed_from ?l_Flow_next_missed ?l_first_missed ?l_settled_round ?l_lost ?l_Row_len ?l_Row_sub ?l_change_without ?l_lost_per_round ?l_held_back ?l_Flow_level ?l_Row_call ?l_Row_with_rain ?l_Row_with_capacity ?l_least_capacity ?l_law_query ?l_law_same ?l_x_InvalidRow ?l_x_UnknownBarrel ?xL_x_OtherRain ?xL_x_InvalidNumber ?xL_x_InvalidRow ?xL_x_UnknownBarrel ?c_law_start ?k_law_start ?c_law_drawn ?k_law_drawn ?c_law_plan ?k_law_plan ?rd_Row ?ga_Row ?cv_MAX_TICKS ?cv_MAX_BARRELS ?c_is_name ?k_is_name ?c_is_barrel ?k_is_barrel ?pg_Row ?hd_Row ?po_Row ?sa_Row ?no_Row_weather ?no_Row_parts ?c_Row_init ?k_Row_init ?mk_Row ?if_Row ?kc_Row ?rV_x_OtherRain ?sa_OtherRain ?bx_OtherRain ?tx_OtherRain ?kc_OtherRain ?ib_OtherRain ?c_Row_add ?k_Row_add ?i_Row_add ?sf_Row ?c_law_row ?k_law_row ?c_Row_names ?k_Row_names ?rV_x_InvalidNumber ?sa_InvalidNumber ?bx_InvalidNumber ?tx_InvalidNumber ?kc_InvalidNumber ?ib_InvalidNumber ?c_validate_number ?k_validate_number ?c_Row_rain ?k_Row_rain ?c_split_ticks ?k_split_ticks ?c_Row_barrels ?k_Row_barrels ?pg_Flow ?hd_Flow ?po_Flow ?sa_Flow ?no_Flow_capacity ?no_Flow_draws ?no_Flow_stretches ?c_Flow_play_round ?k_Flow_play_round ?i_Flow_play_round ?c_Flow_alike ?k_Flow_alike ?i_Flow_alike ?pg_Stretch ?hd_Stretch ?po_Stretch ?sa_Stretch ?no_Stretch_begin ?no_Stretch_count ?no_Stretch_first_level ?no_Stretch_step ?no_Stretch_inflow ?c_Stretch_init ?k_Stretch_init ?mk_Stretch ?if_Stretch ?kc_Stretch ?c_Flow_extend ?k_Flow_extend ?i_Flow_extend ?no_Flow_settled ?c_Flow_play ?k_Flow_play ?i_Flow_play ?c_Flow_is_like_last ?k_Flow_is_like_last ?i_Flow_is_like_last ?c_Flow_init ?k_Flow_init ?mk_Flow ?if_Flow ?kc_Flow ?c_Flow_outflow ?k_Flow_outflow ?i_Flow_outflow ?c_flows_of ?k_flows_of ?c_Flow_stretch_at ?k_Flow_stretch_at ?i_Flow_stretch_at ?c_Flow_rows_of ?k_Flow_rows_of ?i_Flow_rows_of ?c_sums_of ?k_sums_of ?c_Flow_sums ?k_Flow_sums ?i_Flow_sums ?c_totals ?k_totals ?c_Flow_last_sums ?k_Flow_last_sums ?i_Flow_last_sums ?c_long_run ?k_long_run ?c_place_of ?k_place_of ?c_missed_from ?k_missed_from ?c_Flow_next_missed ?k_Flow_next_missed ?i_Flow_next_missed ?c_first_missed ?k_first_missed ?c_settled_round ?k_settled_round ?c_lost ?k_lost ?c_Row_len ?k_Row_len ?i_Row_len ?c_Row_sub ?k_Row_sub ?i_Row_sub ?rr_Row_sub ?s1_Row_sub ?s2_Row_sub ?s3_Row_sub ?c_change_without ?k_change_without ?c_lost_per_round ?k_lost_per_round ?c_held_back ?k_held_back ?c_Flow_level ?k_Flow_level ?i_Flow_level ?c_Row_call ?k_Row_call ?i_Row_call ?fn_Row_call ?c_Row_with_rain ?k_Row_with_rain ?i_Row_with_rain ?c_Row_with_capacity ?k_Row_with_capacity ?i_Row_with_capacity ?c_least_capacity ?k_least_capacity ?c_law_query ?k_law_query ?c_law_same ?k_law_same ?c_x_InvalidRow ?k_x_InvalidRow ?rd_RowError ?ga_RowError ?iv_RowError ?rV_x_InvalidRow ?sa_InvalidRow ?bx_InvalidRow ?tx_InvalidRow ?kc_InvalidRow ?ti_InvalidRow ?no_InvalidRow_part ?no_InvalidRow_index ?c_x_UnknownBarrel ?k_x_UnknownBarrel ?rV_x_UnknownBarrel ?sa_UnknownBarrel ?bx_UnknownBarrel ?tx_UnknownBarrel ?kc_UnknownBarrel ?ti_UnknownBarrel ?no_UnknownBarrel_name
      (case z_range => k_is)
      (case z_len => k_is)
      (case z_int => k_is)
      (case z_tuple => k_is)
      (case z_enumerate => k_is)
      (case v_MAX_RAIN => k_is)
      (case v_MAX_LETTERS => k_is)
      (case v_LETTERS => k_is)
      (case z_all => k_is)
      (case v_MAX_AMOUNT => k_is)
      (case v_MAX_ROOF => k_is)
      (case v_MAX_TICK => k_is)
      (case z_zip => k_is)
      (case z_max => k_is)
      (case z_min => k_is)
      (case z_any => k_is)
      (case z_sum => k_is)
      (case z_list => k_is)
      (case z_isinstance => k_is)
      (case z_bool => k_is)
      (case a_law_start => k_is)
      (case a_law_drawn => k_is)
      (case a_law_plan => k_is)
      (case a_Row => k_is)
      (case a_is_name => k_is)
      (case a_is_barrel => k_is)
      (case a_OtherRain => k_is)
      (case a_law_row => k_is)
      (case a_InvalidNumber => k_is)
      (case a_validate_number => k_is)
      (case a_split_ticks => k_is)
      (case a_Flow => k_is)
      (case a_Stretch => k_is)
      (case a_flows_of => k_is)
      (case a_sums_of => k_is)
      (case a_totals => k_is)
      (case a_long_run => k_is)
      (case a_place_of => k_is)
      (case a_missed_from => k_is)
      (case a_first_missed => k_is)
      (case a_settled_round => k_is)
      (case a_lost => k_is)
      (case a_change_without => k_is)
      (case a_lost_per_round => k_is)
      (case a_held_back => k_is)
      (case a_least_capacity => k_is)
      (case a_law_query => k_is)
      (case a_law_same => k_is)
      (case a_InvalidRow => k_is)
      (case a_RowError => k_is)
      (case a_UnknownBarrel => k_is)
      (case ii_Row => k_is)
      (case at_Row_add => k_is)
      (case at_Row_names => k_is)
      (case at_Row_rain => k_is)
      (case at_Row_barrels => k_is)
      (case at_Flow_play_round => k_is)
      (case at_Flow_alike => k_is)
      (case ii_Stretch => k_is)
      (case at_Flow_extend => k_is)
      (case at_Flow_play => k_is)
      (case at_Flow_is_like_last => k_is)
      (case ii_Flow => k_is)
      (case at_Flow_outflow => k_is)
      (case at_Flow_stretch_at => k_is)
      (case at_Flow_rows_of => k_is)
      (case at_Flow_sums => k_is)
      (case at_Flow_last_sums => k_is)
      (case at_Flow_next_missed => k_is)
      (case at_Row_len => k_is)
      (case at_Row_sub => k_is)
      (case at_Flow_level => k_is)
      (case at_Row_call => k_is)
      (case at_Row_with_rain => k_is)
      (case at_Row_with_capacity => k_is)
      (case ii_InvalidRow => k_is)
      (case ii_UnknownBarrel => k_is)
      (case gt_Row_names => k_is)
      (case tk_Row_names => k_is)
      (case rc_Row_names => k_is)
      (case gt_Row_rain => k_is)
      (case tk_Row_rain => k_is)
      (case rc_Row_rain => k_is)
      (case gt_Row_barrels => k_is)
      (case tk_Row_barrels => k_is)
      (case rc_Row_barrels => k_is)
      (case l_law_start => k_is)
      (case l_law_drawn => k_is)
      (case l_law_plan => k_is)
      (case l_is_name => k_is)
      (case l_is_barrel => k_is)
      (case l_Row_init => k_is)
      (case l_Row_add => k_is)
      (case l_law_row => k_is)
      (case l_Row_names => k_is)
      (case l_validate_number => k_is)
      (case l_Row_rain => k_is)
      (case l_split_ticks => k_is)
      (case l_Row_barrels => k_is)
      (case l_Flow_play_round => k_is)
      (case l_Flow_alike => k_is)
      (case l_Stretch_init => k_is)
      (case l_Flow_extend => k_is)
      (case l_Flow_play => k_is)
      (case l_Flow_is_like_last => k_is)
      (case l_Flow_init => k_is)
      (case l_Flow_outflow => k_is)
      (case l_flows_of => k_is)
      (case l_Flow_stretch_at => k_is)
      (case l_Flow_rows_of => k_is)
      (case l_sums_of => k_is)
      (case l_Flow_sums => k_is)
      (case l_totals => k_is)
      (case l_Flow_last_sums => k_is)
      (case l_long_run => k_is)
      (case l_place_of => k_is)
      (case l_missed_from => k_is)
      (case l_Flow_next_missed => k_is)
      (case l_first_missed => k_is)
      (case l_settled_round => k_is)
      (case l_lost => k_is)
      (case l_Row_len => k_is)
      (case l_Row_sub => k_is)
      (case l_change_without => k_is)
      (case l_lost_per_round => k_is)
      (case l_held_back => k_is)
      (case l_Flow_level => k_is)
      (case l_Row_call => k_is)
      (case l_Row_with_rain => k_is)
      (case l_Row_with_capacity => k_is)
      (case l_least_capacity => k_is)
      (case l_law_query => k_is)
      (case l_law_same => k_is)
      (case l_x_InvalidRow => k_is)
      (case l_x_UnknownBarrel => k_is)
      (case xL_x_OtherRain => k_is)
      (case xL_x_InvalidNumber => k_is)
      (case xL_x_InvalidRow => k_is)
      (case xL_x_UnknownBarrel => k_is)
      (case c_law_start => k_is)
      (case k_law_start => k_is)
      (case c_law_drawn => k_is)
      (case k_law_drawn => k_is)
      (case c_law_plan => k_is)
      (case k_law_plan => k_is)
      (case rd_Row => k_is)
      (case ga_Row => k_is)
      (case cv_MAX_TICKS => k_is)
      (case cv_MAX_BARRELS => k_is)
      (case c_is_name => k_is)
      (case k_is_name => k_is)
      (case c_is_barrel => k_is)
      (case k_is_barrel => k_is)
      (case pg_Row => k_is)
      (case hd_Row => k_is)
      (case po_Row => k_is)
      (case sa_Row => k_is)
      (case no_Row_weather => k_is)
      (case no_Row_parts => k_is)
      (case c_Row_init => k_is)
      (case k_Row_init => k_is)
      (case mk_Row => k_is)
      (case if_Row => k_is)
      (case kc_Row => k_is)
      (case rV_x_OtherRain => decide +kernel)
      (case sa_OtherRain => k_is)
      (case bx_OtherRain => k_is)
      (case tx_OtherRain => k_is)
      (case kc_OtherRain => k_is)
      (case ib_OtherRain => k_is)
      (case c_Row_add => k_is)
      (case k_Row_add => k_is)
      (case i_Row_add => k_is)
      (case sf_Row => k_is)
      (case c_law_row => k_is)
      (case k_law_row => k_is)
      (case c_Row_names => k_is)
      (case k_Row_names => k_is)
      (case rV_x_InvalidNumber => decide +kernel)
      (case sa_InvalidNumber => k_is)
      (case bx_InvalidNumber => k_is)
      (case tx_InvalidNumber => k_is)
      (case kc_InvalidNumber => k_is)
      (case ib_InvalidNumber => k_is)
      (case c_validate_number => k_is)
      (case k_validate_number => k_is)
      (case c_Row_rain => k_is)
      (case k_Row_rain => k_is)
      (case c_split_ticks => k_is)
      (case k_split_ticks => k_is)
      (case c_Row_barrels => k_is)
      (case k_Row_barrels => k_is)
      (case pg_Flow => k_is)
      (case hd_Flow => k_is)
      (case po_Flow => k_is)
      (case sa_Flow => k_is)
      (case no_Flow_capacity => k_is)
      (case no_Flow_draws => k_is)
      (case no_Flow_stretches => k_is)
      (case c_Flow_play_round => k_is)
      (case k_Flow_play_round => k_is)
      (case i_Flow_play_round => k_is)
      (case c_Flow_alike => k_is)
      (case k_Flow_alike => k_is)
      (case i_Flow_alike => k_is)
      (case pg_Stretch => k_is)
      (case hd_Stretch => k_is)
      (case po_Stretch => k_is)
      (case sa_Stretch => k_is)
      (case no_Stretch_begin => k_is)
      (case no_Stretch_count => k_is)
      (case no_Stretch_first_level => k_is)
      (case no_Stretch_step => k_is)
      (case no_Stretch_inflow => k_is)
      (case c_Stretch_init => k_is)
      (case k_Stretch_init => k_is)
      (case mk_Stretch => k_is)
      (case if_Stretch => k_is)
      (case kc_Stretch => k_is)
      (case c_Flow_extend => k_is)
      (case k_Flow_extend => k_is)
      (case i_Flow_extend => k_is)
      (case no_Flow_settled => k_is)
      (case c_Flow_play => k_is)
      (case k_Flow_play => k_is)
      (case i_Flow_play => k_is)
      (case c_Flow_is_like_last => k_is)
      (case k_Flow_is_like_last => k_is)
      (case i_Flow_is_like_last => k_is)
      (case c_Flow_init => k_is)
      (case k_Flow_init => k_is)
      (case mk_Flow => k_is)
      (case if_Flow => k_is)
      (case kc_Flow => k_is)
      (case c_Flow_outflow => k_is)
      (case k_Flow_outflow => k_is)
      (case i_Flow_outflow => k_is)
      (case c_flows_of => k_is)
      (case k_flows_of => k_is)
      (case c_Flow_stretch_at => k_is)
      (case k_Flow_stretch_at => k_is)
      (case i_Flow_stretch_at => k_is)
      (case c_Flow_rows_of => k_is)
      (case k_Flow_rows_of => k_is)
      (case i_Flow_rows_of => k_is)
      (case c_sums_of => k_is)
      (case k_sums_of => k_is)
      (case c_Flow_sums => k_is)
      (case k_Flow_sums => k_is)
      (case i_Flow_sums => k_is)
      (case c_totals => k_is)
      (case k_totals => k_is)
      (case c_Flow_last_sums => k_is)
      (case k_Flow_last_sums => k_is)
      (case i_Flow_last_sums => k_is)
      (case c_long_run => k_is)
      (case k_long_run => k_is)
      (case c_place_of => k_is)
      (case k_place_of => k_is)
      (case c_missed_from => k_is)
      (case k_missed_from => k_is)
      (case c_Flow_next_missed => k_is)
      (case k_Flow_next_missed => k_is)
      (case i_Flow_next_missed => k_is)
      (case c_first_missed => k_is)
      (case k_first_missed => k_is)
      (case c_settled_round => k_is)
      (case k_settled_round => k_is)
      (case c_lost => k_is)
      (case k_lost => k_is)
      (case c_Row_len => k_is)
      (case k_Row_len => k_is)
      (case i_Row_len => k_is)
      (case c_Row_sub => k_is)
      (case k_Row_sub => k_is)
      (case i_Row_sub => k_is)
      (case rr_Row_sub => k_is)
      (case s1_Row_sub => k_is)
      (case s2_Row_sub => k_is)
      (case s3_Row_sub => k_is)
      (case c_change_without => k_is)
      (case k_change_without => k_is)
      (case c_lost_per_round => k_is)
      (case k_lost_per_round => k_is)
      (case c_held_back => k_is)
      (case k_held_back => k_is)
      (case c_Flow_level => k_is)
      (case k_Flow_level => k_is)
      (case i_Flow_level => k_is)
      (case c_Row_call => k_is)
      (case k_Row_call => k_is)
      (case i_Row_call => k_is)
      (case fn_Row_call => k_is)
      (case c_Row_with_rain => k_is)
      (case k_Row_with_rain => k_is)
      (case i_Row_with_rain => k_is)
      (case c_Row_with_capacity => k_is)
      (case k_Row_with_capacity => k_is)
      (case i_Row_with_capacity => k_is)
      (case c_least_capacity => k_is)
      (case k_least_capacity => k_is)
      (case c_law_query => k_is)
      (case k_law_query => k_is)
      (case c_law_same => k_is)
      (case k_law_same => k_is)
      (case c_x_InvalidRow => k_is)
      (case k_x_InvalidRow => k_is)
      (case rd_RowError => k_is)
      (case ga_RowError => k_is)
      (case iv_RowError => k_is)
      (case rV_x_InvalidRow => decide +kernel)
      (case sa_InvalidRow => k_is)
      (case bx_InvalidRow => k_is)
      (case tx_InvalidRow => k_is)
      (case kc_InvalidRow => k_is)
      (case ti_InvalidRow => k_is)
      (case no_InvalidRow_part => k_is)
      (case no_InvalidRow_index => k_is)
      (case c_x_UnknownBarrel => k_is)
      (case k_x_UnknownBarrel => k_is)
      (case rV_x_UnknownBarrel => decide +kernel)
      (case sa_UnknownBarrel => k_is)
      (case bx_UnknownBarrel => k_is)
      (case tx_UnknownBarrel => k_is)
      (case kc_UnknownBarrel => k_is)
      (case ti_UnknownBarrel => k_is)
      (case no_UnknownBarrel_name => k_is)
