import PyProof.Rows.All
import Wide.All
import OpenK.AllK
import Wide.FinOn
import PyProof.EqAt
import PyProof.EqKinds
import PyProof.TupleCall
import HandS.ForMost
import HandS.ForExc
import HandS.TupAny
import HandS.Lambda
import HandS.Wide
import HandS.Property
import HandS.Zip
import KE.GoesEnum
import KE.GoesZip
import KE.KFromBytes
import HandS.Base
import HandS.Call
import HandS.List
import HandS.Ends
import HandS.Exc
import HandS.ExcInit
import HandS.Defaults
import HandS.WordsExc
import HandS.IsInst
import HandS.ExcField
import HandS.ExcIs
import KE.KExcIs
import HandS.SetFor
import HandS.Star
import HandS.ClsMeth
import OpenK.KOps
import OpenK.KMeth
import HandS.Dict
import HandS.DictComp
import HandS.ListItems
import HandS.TupMul
import HandS.EndOwn
import HandS.NestedK
import PySem.Challenge.RW_barrelrow_k43_whole_live_rows
set_option Elab.async false
set_option linter.all false
set_option maxRecDepth 100000
/-! Ab: a second abstract layer over the hand layer. Tuples are values, lists and instances are cells of a store; each def becomes a plain Lean function (its mirror) and its promise says: hands back what the mirror computes. -/
namespace Ab
open PySem PySem.Spec L2

/-- the names of classes and attributes, by number -/
def nmT : List Str := (["RowError", "InvalidRow", "UnknownBarrel", "OtherRain", "InvalidNumber", "Contradiction", "InvalidWeather", "InvalidOperation"] : List Str) ++ (["InvalidText", "DaybookError", "DecodeError", "Stretch", "Flow", "Row", "RainObserver", "Weather"] : List Str) ++ (["SumWeather", "SteadyWeather", "SpellWeather", "StormWeather", "LiveRow", "Trial", "Daybook", "CodeReader"] : List Str) ++ (["part", "index", "name", "line", "offset", "weather", "parts", "begin"] : List Str) ++ (["count", "first_level", "step", "inflow", "capacity", "draws", "stretches", "settled"] : List Str) ++ (["row", "low", "high", "accepted", "amount", "wet", "dry", "first"] : List Str) ++ (["every", "one", "other", "plan", "water", "passed", "gone", "shut"] : List Str) ++ (["past", "future", "events", "code"] : List Str)
def nm (i : Nat) : Str := nmT.getD i ""
def nmN : Nat := nmT.length
theorem nmT_nodup : nmT.Nodup := by decide +kernel
theorem nm_inj {i j : Nat} (hi : i < nmN) (hj : j < nmN) (h : nm i = nm j) : i = j := by
  unfold nm at h
  rw [List.getD_eq_getElem?_getD, List.getD_eq_getElem?_getD, List.getElem?_eq_getElem hi, List.getElem?_eq_getElem hj] at h
  exact (List.getElem_inj nmT_nodup).mp h

inductive Val where
  | non | bl (b : Bool) | int (i : Int) | str (s : Str) | tup (xs : List Val) | ref (n : Nat) | gl (x : Nat) | adr (a : Addr)

/-- an exception of a class of the program: the class's global name, its own fields -/
structure Exc where
  cls : Nat
  fs : List (Nat × Val)

inductive Cell where
  | lst (xs : List Val)
  | frz (xs : List Val)
  | ins (C : Nat) (fs : List (Nat × Val))
  | dct (kvs : List (Key × Val))
  | xfs (d : Addr) (fs : List (Nat × Val))

abbrev Store := List Cell
abbrev Slots := List (Option Val)

inductive R (α : Type) where
  | ok (a : α) (st : Store)
  | exc (x : Exc) (st : Store)
  | bad
inductive O where
  | nx (ρ : Slots) (st : Store)
  | ret (v : Val) (st : Store)
  | brk (ρ : Slots) (st : Store)
  | ct (ρ : Slots) (st : Store)
  | exc (x : Exc) (ρ : Slots) (st : Store)
  | bad

@[reducible] def R.bind {α β : Type} (r : R α) (f : α → Store → R β) : R β := match r with
  | .ok a st => f a st
  | .exc x st => .exc x st
  | .bad => .bad

abbrev ME := Slots → Store → R Val
abbrev MT := Slots → Store → R Bool
abbrev MA := Slots → Store → R (List Val)
abbrev MS := Slots → Store → O
abbrev MF := List Val → Store → R Val

/-! ### how values and cells lie in the abstract heap -/
section
variable (mg : Str → Option Value) (ι : List Addr) (H : Hp)
mutual
def Rep : Val → V → Prop
  | .non, v => v = .non
  | .bl b, v => v = .bl b
  | .int i, v => v = .int i
  | .str s, v => v = .str s
  | .tup xs, v => ∃ a vs, v = .ref a ∧ H a = some (.tup vs) ∧ Reps xs vs
  | .ref n, v => ∃ a, v = .ref a ∧ ι[n]? = some a
  | .gl x, v => ∃ a, v = .ref a ∧ mg (nm x) = some (.ref a)
  | .adr a, v => v = .ref a
def Reps : List Val → List V → Prop
  | [], vs => vs = []
  | x :: xs, vs => ∃ v r, vs = v :: r ∧ Rep x v ∧ Reps xs r
end
end

/-- fields, by name -/
def RepF (mg : Str → Option Value) (ι : List Addr) (H : Hp) : List (Nat × Val) → List (Str × V) → Prop := Paired fun p q => p.1 < nmN ∧ nm p.1 = q.1 ∧ Rep mg ι H p.2 q.2
def RepK (mg : Str → Option Value) (ι : List Addr) (H : Hp) : List (Key × Val) → List (Key × V) → Prop := Paired fun p q => p.1 = q.1 ∧ Rep mg ι H p.2 q.2

/-- a list of the written part -/
def KL (K : PySem.W.Frag) (a : Addr) (xs : List V) : Prop :=
  ∃ (o : Obj) (its : Array Value) (n : Nat), K.lookup a = some o ∧ o.cls = .type "list" ∧ o.dict = none ∧ o.data = .seq its n ∧ its.size ≤ sizeLine ∧ Vals xs its.toList
def CellOk (K : PySem.W.Frag) (mg : Str → Option Value) (ι : List Addr) (H : Hp) (a : Addr) : Cell → Prop
  | .lst xs => ∃ vs, H a = some (.lst vs) ∧ Reps mg ι H xs vs
  | .frz xs => ∃ vs, ((∃ o, H a = some (.frz o (.lst vs))) ∨ KL K a vs) ∧ Reps mg ι H xs vs
  | .ins C fs => ∃ Ca dx vs, mg (nm C) = some (.ref Ca) ∧ H a = some (.ins Ca dx vs) ∧ RepF mg ι H fs vs
  | .dct kvs => ∃ vs, H a = some (.dK vs) ∧ RepK mg ι H kvs vs
  | .xfs d fs => a = d ∧ ∃ vs, H a = some (.xd vs) ∧ RepF mg ι H fs vs

def Cell.live : Cell → Bool
  | .frz _ => false
  | .xfs _ _ => false
  | _ => true

/-- the defs that make lambdas; the table of code objects of each -/
def lamNames : List Str := ["law", "_law_refused", "_law_changed"]
def tabOf (K : PySem.W.Frag) (mg : Str → Option Value) (x : Str) : Option (Addr × Str) := match mg x with
  | some (.ref f) => match K.lookup f with
    | some ⟨_, _, .func fd, _⟩ => match fd.code with
      | .ref c => match K.lookup c with
        | some ⟨_, _, .fields vs, _⟩ => match (vs[11]? : Option Value) with
          | some (Value.ref P) => some (P, x ++ ".<locals>." ++ "<lambda>")
          | _ => none
        | _ => none
      | _ => none
    | _ => none
  | _ => none
def tabsOf (K : PySem.W.Frag) (mg : Str → Option Value) : List (Addr × Str) := lamNames.filterMap (tabOf K mg)
structure Sim (K : PySem.W.Frag) (mg : Str → Option Value) (ι : List Addr) (st : Store) (H : Hp) : Prop where
  len : ι.length = st.length
  inj : ∀ (n m : Nat) (a : Addr) (c d : Cell), ι[n]? = some a → ι[m]? = some a → st[n]? = some c → st[m]? = some d → c.live = true → d.live = true → n = m
  cell : ∀ (n : Nat) (c : Cell) (a : Addr), st[n]? = some c → ι[n]? = some a → CellOk K mg ι H a c
  tabs : LamX.Tabs (tabsOf K mg) H

def SlotsOk (mg : Str → Option Value) (ι : List Addr) (H : Hp) (ρ : Slots) (σ : St) : Prop :=
  ρ.length = σ.length ∧ ∀ (i : Nat) (w : Val), ρ[i]? = some (some w) → ∃ v, σ[i]? = some (some v) ∧ Rep mg ι H w v

structure Later (ι : List Addr) (H : Hp) (ι' : List Addr) (H' : Hp) : Prop where
  pre : ∃ more, ι' = ι ++ more
  tups : ∀ b xs, H b = some (.tup xs) → H' b = some (.tup xs)

theorem Later.refl (ι : List Addr) (H : Hp) : Later ι H ι H := ⟨⟨[], by simp⟩, fun _ _ h => h⟩
theorem Later.trans {ι ι1 ι2 : List Addr} {H H1 H2 : Hp} (a : Later ι H ι1 H1) (b : Later ι1 H1 ι2 H2) : Later ι H ι2 H2 := by
  obtain ⟨m1, e1⟩ := a.pre
  obtain ⟨m2, e2⟩ := b.pre
  exact ⟨⟨m1 ++ m2, by rw [e2, e1, List.append_assoc]⟩, fun c xs h => b.tups c xs (a.tups c xs h)⟩
theorem Later.get {ι ι' : List Addr} {H H' : Hp} (l : Later ι H ι' H') {n : Nat} {a : Addr} (h : ι[n]? = some a) : ι'[n]? = some a := by
  obtain ⟨m, e⟩ := l.pre
  rw [e, List.getElem?_append_left (List.getElem?_eq_some_iff.mp h).1]
  exact h

section
variable {mg : Str → Option Value} {ι ι' : List Addr} {H H' : Hp}
mutual
theorem Rep.later (l : Later ι H ι' H') : ∀ {w : Val} {v : V}, Rep mg ι H w v → Rep mg ι' H' w v
  | .non, _, h => by simpa [Rep] using h
  | .bl _, _, h => by simpa [Rep] using h
  | .int _, _, h => by simpa [Rep] using h
  | .str _, _, h => by simpa [Rep] using h
  | .tup xs, v, h => by
    rw [Rep] at h ⊢
    obtain ⟨a, vs, e, ha, hr⟩ := h
    exact ⟨a, vs, e, l.tups _ _ ha, Reps.later l hr⟩
  | .ref n, v, h => by
    rw [Rep] at h ⊢
    obtain ⟨a, e, ha⟩ := h
    exact ⟨a, e, l.get ha⟩
  | .gl x, v, h => by simpa [Rep] using h
  | .adr _, _, h => by simpa [Rep] using h
theorem Reps.later (l : Later ι H ι' H') : ∀ {ws : List Val} {vs : List V}, Reps mg ι H ws vs → Reps mg ι' H' ws vs
  | [], _, h => by simpa [Reps] using h
  | w :: ws, vs, h => by
    rw [Reps] at h ⊢
    obtain ⟨v, r, e, h1, h2⟩ := h
    exact ⟨v, r, e, Rep.later l h1, Reps.later l h2⟩
end
theorem RepF.later (l : Later ι H ι' H') : ∀ {ws : List (Nat × Val)} {vs : List (Str × V)}, RepF mg ι H ws vs → RepF mg ι' H' ws vs
  | _, _, .nil => .nil
  | _, _, .cons h t => .cons ⟨h.1, h.2.1, h.2.2.later l⟩ (RepF.later l t)
theorem RepK.later (l : Later ι H ι' H') : ∀ {ws : List (Key × Val)} {vs : List (Key × V)}, RepK mg ι H ws vs → RepK mg ι' H' ws vs
  | _, _, .nil => .nil
  | _, _, .cons h t => .cons ⟨h.1, h.2.later l⟩ (RepK.later l t)
theorem SlotsOk.later (l : Later ι H ι' H') {ρ : Slots} {σ : St} (h : SlotsOk mg ι H ρ σ) : SlotsOk mg ι' H' ρ σ :=
  ⟨h.1, fun i w e => let ⟨v, e2, r⟩ := h.2 i w e; ⟨v, e2, r.later l⟩⟩
theorem SlotsOk.set {ρ : Slots} {σ : St} (h : SlotsOk mg ι H ρ σ) (i : Nat) {w : Val} {v : V} (r : Rep mg ι H w v) : SlotsOk mg ι H (ρ.set i (some w)) (σ.set i (some v)) := by
  refine ⟨by simp [h.1], fun j u e => ?_⟩
  by_cases hj : i = j
  · subst hj
    rw [List.getElem?_set] at e
    by_cases hl : i < ρ.length
    · simp [hl] at e
      subst e
      exact ⟨v, by rw [List.getElem?_set]; simp [← h.1, hl], r⟩
    · simp [hl] at e
  · rw [List.getElem?_set_ne hj] at e
    obtain ⟨v', e2, r'⟩ := h.2 j u e
    exact ⟨v', by rw [List.getElem?_set_ne hj]; exact e2, r'⟩
theorem Reps.length : ∀ {ws : List Val} {vs : List V}, Reps mg ι H ws vs → ws.length = vs.length
  | [], _, h => by rw [Reps] at h; subst h; rfl
  | w :: ws, vs, h => by
    rw [Reps] at h
    obtain ⟨v, r, e, _, h2⟩ := h
    subst e
    simp [Reps.length h2]
theorem Reps.nil : Reps mg ι H [] [] := by rw [Reps]
theorem Reps.cons {w : Val} {ws : List Val} {v : V} {vs : List V} (h : Rep mg ι H w v) (t : Reps mg ι H ws vs) : Reps mg ι H (w :: ws) (v :: vs) := by
  rw [Reps]; exact ⟨v, vs, rfl, h, t⟩
theorem Reps.of_cons {w : Val} {ws : List Val} {vs : List V} (h : Reps mg ι H (w :: ws) vs) : ∃ v r, vs = v :: r ∧ Rep mg ι H w v ∧ Reps mg ι H ws r := by
  rw [Reps] at h; exact h
theorem Reps.of_nil {vs : List V} (h : Reps mg ι H [] vs) : vs = [] := by rw [Reps] at h; exact h
theorem Reps.append : ∀ {ws ws' : List Val} {vs vs' : List V}, Reps mg ι H ws vs → Reps mg ι H ws' vs' → Reps mg ι H (ws ++ ws') (vs ++ vs')
  | [], _, _, _, h, h' => by rw [h.of_nil]; exact h'
  | w :: ws, _, _, _, h, h' => by
    obtain ⟨v, r, e, h1, h2⟩ := h.of_cons
    subst e
    exact .cons h1 (Reps.append h2 h')
theorem Reps.get : ∀ {ws : List Val} {vs : List V} {i : Nat} {w : Val}, Reps mg ι H ws vs → ws[i]? = some w → ∃ v, vs[i]? = some v ∧ Rep mg ι H w v
  | [], _, _, _, _, e => by simp at e
  | w :: ws, _, 0, _, h, e => by
    obtain ⟨v, r, e1, h1, h2⟩ := h.of_cons
    subst e1
    simp at e; subst e
    exact ⟨v, rfl, h1⟩
  | w :: ws, _, i + 1, u, h, e => by
    obtain ⟨v, r, e1, h1, h2⟩ := h.of_cons
    subst e1
    obtain ⟨v', e2, r2⟩ := Reps.get (i := i) h2 (by simpa using e)
    exact ⟨v', by simpa using e2, r2⟩
theorem Reps.get' {ws : List Val} {vs : List V} {i : Nat} {v : V} (h : Reps mg ι H ws vs) (e : vs[i]? = some v) : ∃ w, ws[i]? = some w ∧ Rep mg ι H w v := by
  have hl : i < ws.length := by rw [h.length]; exact (List.getElem?_eq_some_iff.mp e).1
  obtain ⟨v', e2, r⟩ := h.get (List.getElem?_eq_getElem hl)
  rw [e] at e2; cases e2
  exact ⟨_, List.getElem?_eq_getElem hl, r⟩
theorem Reps.set {w : Val} {v : V} (r : Rep mg ι H w v) : ∀ {ws : List Val} {vs : List V} (i : Nat), Reps mg ι H ws vs → Reps mg ι H (ws.set i w) (vs.set i v)
  | [], _, _, h => by rw [h.of_nil]; exact .nil
  | _ :: _, _, 0, h => by
    obtain ⟨_, _, e, _, h2⟩ := h.of_cons
    subst e
    exact .cons r h2
  | _ :: _, _, i + 1, h => by
    obtain ⟨_, _, e, h1, h2⟩ := h.of_cons
    subst e
    exact .cons h1 (Reps.set r i h2)
theorem Reps.drop : ∀ {ws : List Val} {vs : List V} (n : Nat), Reps mg ι H ws vs → Reps mg ι H (ws.drop n) (vs.drop n)
  | _, _, 0, h => by simpa using h
  | [], _, n + 1, h => by rw [h.of_nil]; exact .nil
  | _ :: _, _, n + 1, h => by
    obtain ⟨_, _, e, _, h2⟩ := h.of_cons
    subst e
    simpa using Reps.drop n h2
theorem Reps.take : ∀ {ws : List Val} {vs : List V} (n : Nat), Reps mg ι H ws vs → Reps mg ι H (ws.take n) (vs.take n)
  | _, _, 0, h => by simpa using Reps.nil
  | [], _, n + 1, h => by rw [h.of_nil]; exact .nil
  | _ :: _, _, n + 1, h => by
    obtain ⟨_, _, e, h1, h2⟩ := h.of_cons
    subst e
    simpa using Reps.cons h1 (Reps.take n h2)
theorem RepF.lookup {f : Nat} {w : Val} (hf : f < nmN) : ∀ {ws : List (Nat × Val)} {vs : List (Str × V)}, RepF mg ι H ws vs → ws.lookup f = some w → ∃ v, vs.lookup (nm f) = some v ∧ Rep mg ι H w v
  | _, _, .nil, e => by simp at e
  | (n, u) :: ws, _, .cons (b := (n', v)) h t, e => by
    obtain ⟨h0, h1, h2⟩ := h
    simp only at h0 h1 h2
    subst h1
    rw [List.lookup_cons] at e ⊢
    by_cases q : f = n
    · subst q
      simp only [beq_self_eq_true] at e ⊢
      cases e
      exact ⟨v, rfl, h2⟩
    · have q1 : (f == n) = false := beq_eq_false_iff_ne.mpr q
      have q2 : (nm f == nm n) = false := beq_eq_false_iff_ne.mpr fun z => q (nm_inj hf h0 z)
      rw [q1] at e
      rw [q2]
      exact RepF.lookup hf t e
/-- a name that no attribute of ours has -/
theorem RepF.lookup_other {m : Str} (hm : m ∉ nmT) : ∀ {ws : List (Nat × Val)} {vs : List (Str × V)}, RepF mg ι H ws vs → vs.lookup m = none
  | _, _, .nil => by simp
  | (n, u) :: ws, _, .cons (b := (n', v)) h t => by
    obtain ⟨h0, h1, h2⟩ := h
    simp only at h0 h1 h2
    subst h1
    rw [List.lookup_cons]
    have q2 : (m == nm n) = false := beq_eq_false_iff_ne.mpr fun z => hm (by
      rw [z]
      unfold nm
      rw [List.getD_eq_getElem?_getD, List.getElem?_eq_getElem h0]
      exact List.getElem_mem _)
    rw [q2]
    exact RepF.lookup_other hm t
def putM (f : Nat) (w : Val) : List (Nat × Val) → List (Nat × Val)
  | [] => [(f, w)]
  | (g, u) :: r => if g = f then (f, w) :: r else (g, u) :: putM f w r
theorem RepF.put {f : Nat} {w : Val} {v : V} (hf : f < nmN) (r : Rep mg ι H w v) : ∀ {ws : List (Nat × Val)} {vs : List (Str × V)}, RepF mg ι H ws vs → RepF mg ι H (putM f w ws) (putF (nm f) v vs)
  | _, _, .nil => .cons ⟨hf, rfl, r⟩ .nil
  | (n, u) :: ws, _, .cons (b := (n', v')) h t => by
    obtain ⟨h0, h1, h2⟩ := h
    simp only at h0 h1 h2
    subst h1
    unfold putM putF
    by_cases q : n = f
    · subst q
      rw [if_pos rfl, if_pos rfl]
      exact .cons ⟨hf, rfl, r⟩ t
    · rw [if_neg q, if_neg fun z => q (nm_inj h0 hf z)]
      exact .cons ⟨h0, rfl, h2⟩ (RepF.put hf r t)
theorem RepF.length : ∀ {ws : List (Nat × Val)} {vs : List (Str × V)}, RepF mg ι H ws vs → ws.length = vs.length
  | _, _, .nil => rfl
  | _, _, .cons _ t => by simp [RepF.length t]
end

/-! ### changes of the heap -/
section
variable {K : PySem.W.Frag} {mg : Str → Option Value} {ι : List Addr} {st : Store} {H : Hp}
theorem CellOk.keep {ι' : List Addr} {H' : Hp} {a : Addr} {c : Cell} (x : CellOk K mg ι H a c) (l : Later ι H ι' H') (h : ∀ o, H a = some o → H' a = some o) : CellOk K mg ι' H' a c := by
  cases c with
  | lst xs => obtain ⟨vs, e, r⟩ := x; exact ⟨vs, h _ e, r.later l⟩
  | frz xs =>
    obtain ⟨vs, e, r⟩ := x
    refine ⟨vs, ?_, r.later l⟩
    rcases e with ⟨o, e⟩ | e
    · exact .inl ⟨o, h _ e⟩
    · exact .inr e
  | ins C fs => obtain ⟨Ca, dx, vs, e1, e2, r⟩ := x; exact ⟨Ca, dx, vs, e1, h _ e2, r.later l⟩
  | dct kvs => obtain ⟨vs, e, r⟩ := x; exact ⟨vs, h _ e, r.later l⟩
  | xfs d fs => obtain ⟨ed, vs, e, r⟩ := x; exact ⟨ed, vs, h _ e, r.later l⟩
theorem CellOk.later {ι' : List Addr} {a : Addr} {c : Cell} (x : CellOk K mg ι H a c) (l : Later ι H ι' H) : CellOk K mg ι' H a c := x.keep l fun _ e => e
/-- all that was tracked is kept -/
theorem Same.laterH {H' : Hp} (s : Same H H') : Later ι H ι H' := ⟨⟨[], by simp⟩, fun b xs e => s b _ e⟩
theorem Sim.same {H' : Hp} (S : Sim K mg ι st H) (s : Same H H') : Sim K mg ι st H' :=
  ⟨S.len, S.inj, fun n d a h1 h2 => (S.cell n d a h1 h2).keep (Same.laterH s) fun o => s a o, S.tabs.ext s⟩
theorem same_new {p : Addr} {o : HO} (hp : H p = none) : Same H (upd H p o) := fun b u e => by rw [upd_ne (ne_of_none e hp)]; exact e
theorem Rep.newTup {p : Addr} {xs : List Val} {vs : List V} (hp : H p = none) (r : Reps mg ι H xs vs) : Rep mg ι (upd H p (.tup vs)) (.tup xs) (.ref p) := by
  rw [Rep]
  exact ⟨p, vs, rfl, upd_same, r.later (Same.laterH (same_new hp))⟩
theorem live_tracked (S : Sim K mg ι st H) {n : Nat} {c : Cell} {a : Addr} (h1 : st[n]? = some c) (h2 : ι[n]? = some a) (hl : c.live = true) : ∃ o, H a = some o := by
  have z := S.cell n c a h1 h2
  cases c with
  | lst xs => obtain ⟨vs, e, _⟩ := z; exact ⟨_, e⟩
  | frz xs => cases hl
  | ins C fs => obtain ⟨_, _, _, _, e, _⟩ := z; exact ⟨_, e⟩
  | dct kvs => obtain ⟨vs, e, _⟩ := z; exact ⟨_, e⟩
  | xfs d fs => cases hl
/-- a new cell -/
theorem Sim.push {p : Addr} {c : Cell} (S : Sim K mg ι st H) (hp : H p = none) {H' : Hp} (hs : Same H H')
    (hc : CellOk K mg (ι ++ [p]) H' p c) : Sim K mg (ι ++ [p]) (st ++ [c]) H' ∧ Later ι H (ι ++ [p]) H' := by
  have L : Later ι H (ι ++ [p]) H' := ⟨⟨[p], rfl⟩, fun b xs e => hs b _ e⟩
  have old : ∀ n a, (ι ++ [p])[n]? = some a → n < st.length → ι[n]? = some a := fun n a e hl => by
    rw [List.getElem?_append_left (by rw [S.len]; exact hl)] at e; exact e
  have last : ∀ n a, (ι ++ [p])[n]? = some a → n = st.length → a = p := fun n a e hl => by
    rw [hl, ← S.len, List.getElem?_append_right (Nat.le_refl _)] at e
    simpa using e.symm
  have split : ∀ n d, (st ++ [c])[n]? = some d → (st[n]? = some d ∧ n < st.length) ∨ (n = st.length ∧ d = c) := fun n d e => by
    by_cases hl : n < st.length
    · rw [List.getElem?_append_left hl] at e; exact .inl ⟨e, hl⟩
    · rw [List.getElem?_append_right (by omega)] at e
      have : n - st.length = 0 := by
        by_cases q : n - st.length = 0
        · exact q
        · rw [List.getElem?_eq_none (by simp; omega)] at e; cases e
      rw [this] at e
      simp at e
      exact .inr ⟨by omega, e.symm⟩
  refine ⟨⟨by simp [S.len], fun n m a d e h1 h2 h3 h4 l1 l2 => ?_, fun n d a h1 h2 => ?_, S.tabs.ext hs⟩, L⟩
  · rcases split n d h3 with ⟨q1, z1⟩ | ⟨q1, z1⟩ <;> rcases split m e h4 with ⟨q2, z2⟩ | ⟨q2, z2⟩
    · exact S.inj n m a d e (old n a h1 z1) (old m a h2 z2) q1 q2 l1 l2
    · exfalso
      obtain ⟨u, hu⟩ := live_tracked S q1 (old n a h1 z1) l1
      rw [last m a h2 q2, hp] at hu; cases hu
    · exfalso
      obtain ⟨u, hu⟩ := live_tracked S q2 (old m a h2 z2) l2
      rw [last n a h1 q1, hp] at hu; cases hu
    · omega
  · rcases split n d h1 with ⟨q1, z1⟩ | ⟨q1, z1⟩
    · exact (S.cell n d a q1 (old n a h2 z1)).keep L fun o e => hs a o e
    · rw [last n a h2 q1, z1]
      exact hc
/-- a cell is written -/
theorem Sim.write {n : Nat} {c c' : Cell} {a : Addr} {o o' : HO} (S : Sim K mg ι st H) (h1 : st[n]? = some c) (h2 : ι[n]? = some a) (hl : c.live = true) (hl' : c'.live = true) (ho : H a = some o) (hnt : ∀ xs, o ≠ .tup xs)
    (hnf : ∀ ob xs, o ≠ .frz ob (.lst xs)) (hc : CellOk K mg ι (upd H a o') a c') : Sim K mg ι (st.set n c') (upd H a o') ∧ Later ι H ι (upd H a o') := by
  have L : Later ι H ι (upd H a o') := ⟨⟨[], by simp⟩, fun b xs e => by
    rw [upd_ne fun q => by subst q; rw [ho] at e; cases e; exact hnt _ rfl]
    exact e⟩
  have hlen : n < st.length := (List.getElem?_eq_some_iff.mp h1).1
  have at_ : ∀ m d, (st.set n c')[m]? = some d → (m = n ∧ d = c') ∨ (m ≠ n ∧ st[m]? = some d) := fun m d e => by
    by_cases q : m = n
    · subst q
      rw [List.getElem?_set_self hlen] at e
      exact .inl ⟨rfl, (Option.some.inj e).symm⟩
    · rw [List.getElem?_set_ne (Ne.symm q)] at e
      exact .inr ⟨q, e⟩
  refine ⟨⟨by simp [S.len], fun i j b d e q1 q2 q3 q4 l1 l2 => ?_, fun m d b q1 q2 => ?_, ?_⟩, L⟩
  · rcases at_ i d q3 with ⟨x1, y1⟩ | ⟨x1, y1⟩ <;> rcases at_ j e q4 with ⟨x2, y2⟩ | ⟨x2, y2⟩
    · omega
    · subst x1
      exact S.inj i j b c e q1 q2 h1 y2 hl l2
    · subst x2
      exact S.inj i j b d c q1 q2 y1 h1 l1 hl
    · exact S.inj i j b d e q1 q2 y1 y2 l1 l2
  · rcases at_ m d q1 with ⟨x1, y1⟩ | ⟨x1, y1⟩
    · subst x1 y1
      rw [h2] at q2; cases q2
      exact hc
    · have z := S.cell m d b y1 q2
      by_cases hb : b = a
      · subst hb
        cases hd : d.live with
        | true => exact absurd (S.inj m n b d c q2 h2 y1 h1 hd hl) x1
        | false =>
          cases d with
          | frz xs =>
            obtain ⟨vs, e, r⟩ := z
            rcases e with ⟨ob, e⟩ | e
            · rw [ho] at e; cases e; exact absurd rfl (hnf _ _)
            · exact ⟨vs, .inr e, r.later L⟩
          | xfs d' fs =>
            obtain ⟨_, vs, e, r⟩ := z
            have zz := S.cell n c b h1 h2
            cases c with
            | lst xs => obtain ⟨_, e', _⟩ := zz; rw [e] at e'; cases e'
            | frz xs => cases hl
            | ins C fs => obtain ⟨_, _, _, _, e', _⟩ := zz; rw [e] at e'; cases e'
            | dct kvs => obtain ⟨_, e', _⟩ := zz; rw [e] at e'; cases e'
            | xfs d fs => cases hl
          | _ => cases hd
      · exact z.keep L fun u e => by rw [upd_ne hb]; exact e
  · have hno : ∀ u, u ≠ o → ∀ b, H b = some u → upd H a o' b = some u := fun u hu b e => by
      rw [upd_ne fun q => by subst q; rw [ho] at e; exact hu (Option.some.inj e).symm]
      exact e
    have kind : (∀ ps, HO.tbl ps ≠ o) ∧ ∀ c q, LamX.CodeO c q ≠ o := by
      have z := S.cell n c a h1 h2
      cases c with
      | lst xs => obtain ⟨vs, e, _⟩ := z; rw [ho] at e; cases e; exact ⟨(fun _ q => by cases q), (fun _ _ q => by unfold LamX.CodeO at q; cases q)⟩
      | frz xs => cases hl
      | xfs d fs => cases hl
      | ins C fs => obtain ⟨_, _, _, _, e, _⟩ := z; rw [ho] at e; cases e; exact ⟨(fun _ q => by cases q), (fun _ _ q => by unfold LamX.CodeO at q; cases q)⟩
      | dct kvs => obtain ⟨vs, e, _⟩ := z; rw [ho] at e; cases e; exact ⟨(fun _ q => by cases q), (fun _ _ q => by unfold LamX.CodeO at q; cases q)⟩
    intro p hp
    obtain ⟨ps, t1, t2, t3⟩ := S.tabs p hp
    refine ⟨ps, hno _ (kind.1 ps) _ t1, t2, fun pos cv hc => ?_⟩
    obtain ⟨c', e1, e2⟩ := t3 pos cv hc
    exact ⟨c', e1, hno _ (kind.2 _ _) _ e2⟩
end

/-! ### the judgements -/
def ExcRep (mg : Str → Option Value) (ι : List Addr) (H : Hp) (x : Exc) (c : Value) (d : Option Addr) : Prop :=
  ∃ a, mg (nm x.cls) = some (.ref a) ∧ c = .ref a ∧ ((x.fs = [] ∧ d = none) ∨ ∃ da vs, d = some da ∧ H da = some (.xd vs) ∧ RepF mg ι H x.fs vs)

/-- what a mirror's result asks -/
def Post {α β : Type} (K : PySem.W.Frag) (mg : Str → Option Value) (rel : List Addr → Hp → α → β → Prop) (ι : List Addr) (H : Hp) (Q : β → Hp → Prop) (E : Value → Option Addr → Hp → Prop) : R α → Prop
  | .ok a st' => ∀ ι' H' b, Later ι H ι' H' → Sim K mg ι' st' H' → rel ι' H' a b → Q b H'
  | .exc x st' => ∀ ι' H' c d, Later ι H ι' H' → Sim K mg ι' st' H' → ExcRep mg ι' H' x c d → E c d H'
  | .bad => False
theorem Post.later {α β : Type} {K : PySem.W.Frag} {mg : Str → Option Value} {rel : List Addr → Hp → α → β → Prop} {ι ι1 : List Addr} {H H1 : Hp} {Q : β → Hp → Prop} {E : Value → Option Addr → Hp → Prop} {r : R α}
    (p : Post K mg rel ι H Q E r) (l : Later ι H ι1 H1) : Post K mg rel ι1 H1 Q E r := by
  cases r with
  | ok a st' => exact fun ι' H' b l' S r => p ι' H' b (l.trans l') S r
  | exc x st' => exact fun ι' H' c d l' S r => p ι' H' c d (l.trans l') S r
  | bad => exact p
theorem Post.bind {α β α' β' : Type} {K : PySem.W.Frag} {mg : Str → Option Value} {rel : List Addr → Hp → α → β → Prop} {rel' : List Addr → Hp → α' → β' → Prop} {ι : List Addr} {H : Hp} {Q : β' → Hp → Prop} {Q1 : β → Hp → Prop} {E : Value → Option Addr → Hp → Prop} {r : R α}
    {f : α → Store → R α'} (p : Post K mg rel' ι H Q E (r.bind f))
    (k : ∀ a st1 ι1 H1 b, Later ι H ι1 H1 → Sim K mg ι1 st1 H1 → rel ι1 H1 a b → Post K mg rel' ι1 H1 Q E (f a st1) → Q1 b H1) : Post K mg rel ι H Q1 E r := by
  cases r with
  | ok a st1 => exact fun ι1 H1 b l S r => k a st1 ι1 H1 b l S r (Post.later p l)
  | exc x st1 => exact p
  | bad => exact p

def rdG {α β : Type} (K : PySem.W.Frag) (mg : Str → Option Value) (rel : List Addr → Hp → α → β → Prop) (W : WX) (m : Slots → Store → R α) : St → Hp → (β → Hp → Prop) → Prop := fun σ H Q =>
  ∃ ι ρ st, Sim K mg ι st H ∧ SlotsOk mg ι H ρ σ ∧ Post K mg rel ι H Q (fun c d H' => W c d σ H') (m ρ st)
abbrev rel1 (mg : Str → Option Value) : List Addr → Hp → Val → V → Prop := fun ι H => Rep mg ι H
abbrev relB : List Addr → Hp → Bool → Bool → Prop := fun _ _ a b => a = b
abbrev relL (mg : Str → Option Value) : List Addr → Hp → List Val → List V → Prop := fun ι H => Reps mg ι H

/-- what a statement's mirror asks -/
def PostO (K : PySem.W.Frag) (mg : Str → Option Value) (W : WX) (ι : List Addr) (H : Hp) (D : Ends) : O → Prop
  | .nx ρ st => ∀ ι' H' σ', Later ι H ι' H' → Sim K mg ι' st H' → SlotsOk mg ι' H' ρ σ' → D.nx σ' H'
  | .ret w st => ∀ ι' H' v, Later ι H ι' H' → Sim K mg ι' st H' → Rep mg ι' H' w v → D.rt v H'
  | .brk ρ st => ∀ ι' H' σ', Later ι H ι' H' → Sim K mg ι' st H' → SlotsOk mg ι' H' ρ σ' → D.bk σ' H'
  | .ct ρ st => ∀ ι' H' σ', Later ι H ι' H' → Sim K mg ι' st H' → SlotsOk mg ι' H' ρ σ' → D.ct σ' H'
  | .exc x ρ st => ∀ ι' H' σ' c d, Later ι H ι' H' → Sim K mg ι' st H' → SlotsOk mg ι' H' ρ σ' → ExcRep mg ι' H' x c d → W c d σ' H'
  | .bad => False
theorem PostO.later {K : PySem.W.Frag} {mg : Str → Option Value} {W : WX} {ι ι1 : List Addr} {H H1 : Hp} {D : Ends} {r : O} (p : PostO K mg W ι H D r) (l : Later ι H ι1 H1) : PostO K mg W ι1 H1 D r := by
  cases r with
  | nx ρ st => exact fun ι' H' σ' l' => p ι' H' σ' (l.trans l')
  | ret w st => exact fun ι' H' v l' => p ι' H' v (l.trans l')
  | brk ρ st => exact fun ι' H' σ' l' => p ι' H' σ' (l.trans l')
  | ct ρ st => exact fun ι' H' σ' l' => p ι' H' σ' (l.trans l')
  | exc x ρ st => exact fun ι' H' σ' c d l' => p ι' H' σ' c d (l.trans l')
  | bad => exact p
def rdS (K : PySem.W.Frag) (mg : Str → Option Value) (W : WX) (m : MS) : TS := fun D σ H =>
  ∃ ι ρ st, Sim K mg ι st H ∧ SlotsOk mg ι H ρ σ ∧ PostO K mg W ι H D (m ρ st)

def JE (X : Cx) (e : Expr) (m : ME) : Prop := ∀ W, Takes X W → PE X e (rdG X.K X.mg (rel1 X.mg) W m)
def JT (X : Cx) (e : Expr) (m : MT) : Prop := ∀ W, Takes X W → PT X e (rdG X.K X.mg relB W m)
def JA (X : Cx) (es : List Expr) (m : MA) : Prop := ∀ W, Takes X W → PA X es (rdG X.K X.mg (relL X.mg) W m)
def JS (X : Cx) (s : Stmt) (m : MS) : Prop := ∀ W, Takes X W → PS X s (rdS X.K X.mg W m)
def JSs (X : Cx) (s : List Stmt) (m : MS) : Prop := ∀ W, Takes X W → PSs X s (rdS X.K X.mg W m)

theorem PE.weak {X : Cx} {e : Expr} {t t' : TE} (h : PE X e t) (w : ∀ σ H Q, t' σ H Q → t σ H Q) : PE X e t' := ⟨fun pins s σ H Q I q => h.run pins s σ H Q I (w σ H Q q)⟩
theorem PT.weak {X : Cx} {e : Expr} {t t' : TT} (h : PT X e t) (w : ∀ σ H Q, t' σ H Q → t σ H Q) : PT X e t' := ⟨fun pins s σ H Q I q => h.run pins s σ H Q I (w σ H Q q)⟩
theorem PA.weak {X : Cx} {e : List Expr} {t t' : TA} (h : PA X e t) (w : ∀ σ H Q, t' σ H Q → t σ H Q) : PA X e t' := ⟨fun pos pins s σ H Q I q => h.run pos pins s σ H Q I (w σ H Q q)⟩
theorem PS.weak {X : Cx} {e : Stmt} {t t' : TS} (h : PS X e t) (w : ∀ D σ H, t' D σ H → t D σ H) : PS X e t' := ⟨fun pins s σ H D I q => h.run pins s σ H D I (w D σ H q)⟩
theorem PSs.weak {X : Cx} {e : List Stmt} {t t' : TS} (h : PSs X e t) (w : ∀ D σ H, t' D σ H → t D σ H) : PSs X e t' := ⟨fun pins s σ H D I q => h.run pins s σ H D I (w D σ H q)⟩
end Ab

set_option Elab.async false
set_option linter.all false
set_option maxRecDepth 100000
/-! Ab: expressions. -/
namespace Ab
open PySem PySem.Spec L2

/-! ### the end of a mirrored expression -/
section
variable {α β α' β' : Type} {K : PySem.W.Frag} {mg : Str → Option Value} {rel : List Addr → Hp → α → β → Prop} {rel' : List Addr → Hp → α' → β' → Prop} {ι : List Addr} {H : Hp} {W : WX} {σ : L2.St} {st : Store}
/-- where the next reading stands -/
theorem rdG.mk {m : Slots → Store → R α} {ρ : Slots} {Q : β → Hp → Prop} (S : Sim K mg ι st H) (sl : SlotsOk mg ι H ρ σ) (p : Post K mg rel ι H Q (fun c d H' => W c d σ H') (m ρ st)) : rdG K mg rel W m σ H Q := ⟨ι, ρ, st, S, sl, p⟩
theorem Post.okSame {a : α} {b : β} {Q : β → Hp → Prop} {E : Value → Option Addr → Hp → Prop} (p : Post K mg rel ι H Q E (.ok a st)) (S : Sim K mg ι st H) (r : rel ι H a b) : Q b H := p ι H b (Later.refl _ _) S r
/-- a new tuple -/
theorem Post.newTup {xs : List Val} {vs : List V} {Q : V → Hp → Prop} {E : Value → Option Addr → Hp → Prop} (p : Post K mg (rel1 mg) ι H Q E (.ok (.tup xs) st)) (S : Sim K mg ι st H) (r : Reps mg ι H xs vs) {q : Addr} (hq : H q = none) : Q (.ref q) (upd H q (.tup vs)) :=
  p ι _ _ (Same.laterH (same_new hq)) (S.same (same_new hq)) (Rep.newTup hq r)
/-- a new list -/
theorem Post.newLst {xs : List Val} {vs : List V} {Q : V → Hp → Prop} {E : Value → Option Addr → Hp → Prop} (p : Post K mg (rel1 mg) ι H Q E (.ok (.ref st.length) (st ++ [.lst xs]))) (S : Sim K mg ι st H) (r : Reps mg ι H xs vs) {q : Addr} (hq : H q = none) : Q (.ref q) (upd H q (.lst vs)) := by
  have hs := same_new (o := .lst vs) hq
  obtain ⟨S', L⟩ := S.push (p := q) (c := .lst xs) hq hs ⟨vs, upd_same, r.later ⟨⟨[q], rfl⟩, fun b ys e => hs b _ e⟩⟩
  refine p _ _ _ L S' ?_
  show Rep mg _ _ (.ref st.length) (.ref q)
  rw [Rep]
  exact ⟨q, rfl, by rw [← S.len, List.getElem?_append_right (Nat.le_refl _)]; simp⟩
end

/-! ### names and constants -/
@[reducible] def mVar (i : Nat) : ME := fun ρ st => match ρ[i]? with
  | some (some w) => .ok w st
  | _ => .bad
@[reducible] def mC (w : Val) : ME := fun _ st => .ok w st
section
variable {X : Cx} {pos : Pos}
theorem je_var {i : Nat} {x : Str} (hN : X.N[i]? = some x := by rfl) (hv : Vis X.env.scope x := by first | exact Or.inl rfl | exact Or.inr (Or.inl rfl) | exact Or.inr (Or.inr rfl)) (hd : (x == ("__debug__" : Str)) = false := by decide)
    (hcd : (x == ("__classdict__" : Str)) = false := by decide) : JE X (.Name x pos) (mVar i) := fun W tk => by
  refine PE.weak (pe_var hN hv hd hcd) fun σ H Q ⟨ι, ρ, st, S, sl, p⟩ => ?_
  show ∃ v, σ[i]? = some (some v) ∧ Q v H
  dsimp only [mVar] at p
  split at p
  · rename_i w e
    obtain ⟨v, e2, r⟩ := sl.2 i w e
    exact ⟨v, e2, p.okSame S r⟩
  · exact p.elim
theorem je_int {i j} : JE X (.Constant (.int i) j pos) (mC (.int i)) := fun W tk => PE.weak pe_int fun σ H Q ⟨ι, ρ, st, S, sl, p⟩ => Post.okSame (b := V.int i) p S (by show Rep _ _ _ _ _; rw [Rep])
theorem je_bl {b j} : JE X (.Constant (.bool b) j pos) (mC (.bl b)) := fun W tk => PE.weak pe_bl fun σ H Q ⟨ι, ρ, st, S, sl, p⟩ => Post.okSame (b := V.bl b) p S (by show Rep _ _ _ _ _; rw [Rep])
theorem je_non {j} : JE X (.Constant .none j pos) (mC .non) := fun W tk => PE.weak pe_non fun σ H Q ⟨ι, ρ, st, S, sl, p⟩ => Post.okSame (b := V.non) p S (by show Rep _ _ _ _ _; rw [Rep])
theorem je_str {x j} : JE X (.Constant (.str x) j pos) (mC (.str x)) := fun W tk => PE.weak pe_str fun σ H Q ⟨ι, ρ, st, S, sl, p⟩ => Post.okSame (b := V.str x) p S (by show Rep _ _ _ _ _; rw [Rep])
/-- a constant of the module: an int, a text -/
theorem je_globI {x : Str} {i : Int} (hm : ∃ t, X.mg x = some (.int i t)) (hg : Gl X x := by rfl) (hd : (x == ("__debug__" : Str)) = false := by decide) : JE X (.Name x pos) (mC (.int i)) := fun W tk => by
  obtain ⟨t, hm⟩ := hm
  exact PE.weak (pe_glob (v := .int i) hg hm ⟨t, rfl⟩ hd) fun σ H Q ⟨ι, ρ, st, S, sl, p⟩ => Post.okSame (b := V.int i) p S (by show Rep _ _ _ _ _; rw [Rep])
theorem je_globS {x : Str} {z : Str} (hm : ∃ t, X.mg x = some (.str z t)) (hg : Gl X x := by rfl) (hd : (x == ("__debug__" : Str)) = false := by decide) : JE X (.Name x pos) (mC (.str z)) := fun W tk => by
  obtain ⟨t, hm⟩ := hm
  exact PE.weak (pe_glob (v := .str z) hg hm ⟨t, rfl⟩ hd) fun σ H Q ⟨ι, ρ, st, S, sl, p⟩ => Post.okSame (b := V.str z) p S (by show Rep _ _ _ _ _; rw [Rep])
end

/-! ### operators -/
/-- two values -/
def r2 (K : PySem.W.Frag) (mg : Str → Option Value) (g : Val → Val → Store → R Val) : R2 := fun x y H Q =>
  ∃ ι st w1 w2, Sim K mg ι st H ∧ Rep mg ι H w1 x ∧ Rep mg ι H w2 y ∧ Post K mg (rel1 mg) ι H Q (fun _ _ _ => False) (g w1 w2 st)
def M2 (X : Cx) (f : Value → Value → Sem Value) (g : Val → Val → Store → R Val) : Prop := OpR X f (r2 X.K X.mg g)
theorem noExc {α β : Type} {K : PySem.W.Frag} {mg : Str → Option Value} {rel : List Addr → Hp → α → β → Prop} {ι : List Addr} {H : Hp} {Q : β → Hp → Prop} {E : Value → Option Addr → Hp → Prop} {r : R α} (h : ∀ x st, r ≠ .exc x st)
    (p : Post K mg rel ι H Q E r) : Post K mg rel ι H Q (fun _ _ _ => False) r := by
  cases r with
  | ok a st => exact p
  | exc x st => exact absurd rfl (h x st)
  | bad => exact p
/-- an operation that raises nothing -/
def Quiet {α : Type} (r : R α) : Prop := ∀ x st, r ≠ .exc x st
@[reducible] def mBin (g : Val → Val → Store → R Val) (a b : ME) : ME := fun ρ st => (a ρ st).bind fun x st1 => (b ρ st1).bind fun y st2 => g x y st2
theorem JE.bin {X : Cx} {e a b : Expr} {g : Val → Val → Store → R Val} {ma mb : ME} (hq : ∀ x y st, Quiet (g x y st)) (ha : JE X a ma) (hb : JE X b mb)
    (h : ∀ ta tb, PE X a ta → PE X b tb → PE X e (tOp (r2 X.K X.mg g) ta tb)) : JE X e (mBin g ma mb) := fun W tk => by
  refine PE.weak (h _ _ (ha W tk) (hb W tk)) fun σ H Q ⟨ι, ρ, st, S, sl, p⟩ => ?_
  refine ⟨ι, ρ, st, S, sl, Post.bind p fun w1 st1 ι1 H1 x l1 S1 r1 p1 => ?_⟩
  refine ⟨ι1, ρ, st1, S1, sl.later l1, Post.bind p1 fun w2 st2 ι2 H2 y l2 S2 r2 p2 => ?_⟩
  exact ⟨ι2, st2, w1, w2, S2, Rep.later l2 r1, r2, noExc (hq _ _ _) p2⟩
theorem je_op {X : Cx} {a b : Expr} {op : Operator} {pos : Pos} {g : Val → Val → Store → R Val} {ma mb : ME} (ho : M2 X (binaryOp op) g) (hq : ∀ x y st, Quiet (g x y st)) (ha : JE X a ma) (hb : JE X b mb) : JE X (.BinOp a op b pos) (mBin g ma mb) :=
  JE.bin hq ha hb fun _ _ h1 h2 => pe_op ho h1 h2
theorem je_cmp {X : Cx} {a b : Expr} {op : CmpOp} {pos : Pos} {g : Val → Val → Store → R Val} {ma mb : ME} (ho : M2 X (compareOp op) g) (hq : ∀ x y st, Quiet (g x y st)) (ha : JE X a ma) (hb : JE X b mb) (hm : behindInMarks op b = false := by first | exact nomark _ | rfl) :
    JE X (.Compare a [op] [b] pos) (mBin g ma mb) :=
  JE.bin hq ha hb fun _ _ h1 h2 => pe_cmpR ho h1 h2 hm

/-- two ints -/
theorem Rep.int_inv {mg : Str → Option Value} {ι : List Addr} {H : Hp} {i : Int} {v : V} (h : Rep mg ι H (.int i) v) : v = .int i := by rw [Rep] at h; exact h
theorem Rep.str_inv {mg : Str → Option Value} {ι : List Addr} {H : Hp} {i : Str} {v : V} (h : Rep mg ι H (.str i) v) : v = .str i := by rw [Rep] at h; exact h
theorem Rep.bl_inv {mg : Str → Option Value} {ι : List Addr} {H : Hp} {i : Bool} {v : V} (h : Rep mg ι H (.bl i) v) : v = .bl i := by rw [Rep] at h; exact h
theorem Rep.non_inv {mg : Str → Option Value} {ι : List Addr} {H : Hp} {v : V} (h : Rep mg ι H .non v) : v = .non := by rw [Rep] at h; exact h
theorem Rep.tup_inv {mg : Str → Option Value} {ι : List Addr} {H : Hp} {xs : List Val} {v : V} (h : Rep mg ι H (.tup xs) v) : ∃ a vs, v = .ref a ∧ H a = some (.tup vs) ∧ Reps mg ι H xs vs := by rw [Rep] at h; exact h
theorem Rep.ref_inv {mg : Str → Option Value} {ι : List Addr} {H : Hp} {n : Nat} {v : V} (h : Rep mg ι H (.ref n) v) : ∃ a, v = .ref a ∧ ι[n]? = some a := by rw [Rep] at h; exact h
theorem Rep.gl_inv {mg : Str → Option Value} {ι : List Addr} {H : Hp} {x : Nat} {v : V} (h : Rep mg ι H (.gl x) v) : ∃ a, v = .ref a ∧ mg (nm x) = some (.ref a) := by rw [Rep] at h; exact h
theorem Rep.int {mg : Str → Option Value} {ι : List Addr} {H : Hp} {i : Int} : Rep mg ι H (.int i) (.int i) := by rw [Rep]
theorem Rep.str {mg : Str → Option Value} {ι : List Addr} {H : Hp} {i : Str} : Rep mg ι H (.str i) (.str i) := by rw [Rep]
theorem Rep.bl {mg : Str → Option Value} {ι : List Addr} {H : Hp} {i : Bool} : Rep mg ι H (.bl i) (.bl i) := by rw [Rep]
theorem Rep.non {mg : Str → Option Value} {ι : List Addr} {H : Hp} : Rep mg ι H .non .non := by rw [Rep]
theorem Rep.tup {mg : Str → Option Value} {ι : List Addr} {H : Hp} {xs : List Val} {a : Addr} {vs : List V} (h : H a = some (.tup vs)) (r : Reps mg ι H xs vs) : Rep mg ι H (.tup xs) (.ref a) := by rw [Rep]; exact ⟨a, vs, rfl, h, r⟩
theorem Rep.ref {mg : Str → Option Value} {ι : List Addr} {H : Hp} {n : Nat} {a : Addr} (h : ι[n]? = some a) : Rep mg ι H (.ref n) (.ref a) := by rw [Rep]; exact ⟨a, rfl, h⟩
theorem Rep.gl {mg : Str → Option Value} {ι : List Addr} {H : Hp} {x : Nat} {a : Addr} (h : mg (nm x) = some (.ref a)) : Rep mg ι H (.gl x) (.ref a) := by rw [Rep]; exact ⟨a, rfl, h⟩
/-- the cell behind a reference -/
theorem Sim.at {K : PySem.W.Frag} {mg : Str → Option Value} {ι : List Addr} {st : Store} {H : Hp} (S : Sim K mg ι st H) {n : Nat} {c : Cell} (h : st[n]? = some c) {a : Addr} (ha : ι[n]? = some a) : CellOk K mg ι H a c := S.cell n c a h ha
theorem CellOk.seq {K : PySem.W.Frag} {mg : Str → Option Value} {ι : List Addr} {H : Hp} {a : Addr} {xs : List Val} (h : CellOk K mg ι H a (.frz xs)) : ∃ vs, SqL K H a vs ∧ Reps mg ι H xs vs := by
  obtain ⟨vs, e, r⟩ := h
  exact ⟨vs, e.elim (fun ⟨o, e⟩ => .inl (.inr ⟨o, e⟩)) .inr, r⟩
theorem CellOk.lst {K : PySem.W.Frag} {mg : Str → Option Value} {ι : List Addr} {H : Hp} {a : Addr} {xs : List Val} (h : CellOk K mg ι H a (.lst xs)) : ∃ vs, H a = some (.lst vs) ∧ Reps mg ι H xs vs := h
/-- the items of a list that is read -/
@[reducible] def seqAt (st : Store) (n : Nat) : Option (List Val) := match st[n]? with
  | some (.lst xs) => some xs
  | some (.frz xs) => some xs
  | _ => none
theorem Sim.seqL {K : PySem.W.Frag} {mg : Str → Option Value} {ι : List Addr} {st : Store} {H : Hp} (S : Sim K mg ι st H) {n : Nat} {xs : List Val} (h : seqAt st n = some xs) {a : Addr} (ha : ι[n]? = some a) : ∃ vs, SqL K H a vs ∧ Reps mg ι H xs vs := by
  unfold seqAt at h
  split at h
  · rename_i ys e
    cases h
    obtain ⟨vs, e1, r⟩ := S.at e ha
    exact ⟨vs, SqL.of e1, r⟩
  · rename_i ys e
    cases h
    exact (S.at e ha).seq
  · cases h

@[reducible] def vAdd : Val → Val → Store → R Val
  | .int i, .int j, st => .ok (.int (i + j)) st
  | .str a, .str b, st => if a.length + b.length ≤ sizeLine then .ok (.str (a ++ b)) st else .bad
  | .tup xs, .tup ys, st => if xs.length + ys.length ≤ sizeLine then .ok (.tup (xs ++ ys)) st else .bad
  | .ref n, .ref m, st => match st[n]?, st[m]? with
    | some (.lst xs), some (.lst ys) => if xs.length + ys.length ≤ sizeLine then .ok (.ref st.length) (st ++ [.lst (xs ++ ys)]) else .bad
    | _, _ => .bad
  | _, _, _ => .bad
@[reducible] def vSub : Val → Val → Store → R Val
  | .int i, .int j, st => .ok (.int (i - j)) st
  | _, _, _ => .bad
def mulOk (i j : Int) : Bool := (decide (-(2 ^ 64) < i) && decide (i < 2 ^ 64)) || (decide (-(2 ^ 64) < j) && decide (j < 2 ^ 64))
theorem mulOk_iff {i j : Int} : mulOk i j = true ↔ CMul i j := by
  unfold mulOk CMul
  simp only [Bool.or_eq_true, Bool.and_eq_true, decide_eq_true_eq]
@[reducible] def vMul : Val → Val → Store → R Val
  | .int i, .int j, st => if mulOk i j = true then .ok (.int (i * j)) st else .bad
  | _, _, _ => .bad
@[reducible] def vDiv : Val → Val → Store → R Val
  | .int i, .int j, st => if 0 < j ∧ j < 2 ^ 100 then .ok (.int (i / j)) st else .bad
  | _, _, _ => .bad
@[reducible] def vMod : Val → Val → Store → R Val
  | .int i, .int j, st => if 0 < j then .ok (.int (i % j)) st else .bad
  | _, _, _ => .bad
@[reducible] def vPow : Val → Val → Store → R Val
  | .int i, .int j, st => if 0 ≤ j ∧ j ≤ 1000000 ∧ i.natAbs < 2 ^ 64 then .ok (.int (i ^ j.toNat)) st else .bad
  | _, _, _ => .bad
@[reducible] def vCmpI (p : Int → Int → Bool) : Val → Val → Store → R Val
  | .int i, .int j, st => .ok (.bl (p i j)) st
  | _, _, _ => .bad
@[reducible] def vLt : Val → Val → Store → R Val := vCmpI fun i j => decide (i < j)
@[reducible] def vGt : Val → Val → Store → R Val := vCmpI fun i j => decide (j < i)
@[reducible] def vGe : Val → Val → Store → R Val := vCmpI fun i j => decide (j ≤ i)
@[reducible] def vLe : Val → Val → Store → R Val
  | .int i, .int j, st => .ok (.bl (decide (i ≤ j))) st
  | .str a, .str b, st => .ok (.bl (!decide (b.cps.toList < a.cps.toList))) st
  | _, _, _ => .bad
@[reducible] def vIsN : Val → Val → Store → R Val
  | .ref _, .non, st => .ok (.bl false) st
  | .tup _, .non, st => .ok (.bl false) st
  | .non, .non, st => .ok (.bl true) st
  | .int _, .non, st => .ok (.bl false) st
  | .str _, .non, st => .ok (.bl false) st
  | .bl _, .non, st => .ok (.bl false) st
  | .gl _, .non, st => .ok (.bl false) st
  | _, _, _ => .bad
section
variable {X : Cx}
theorem m2_int {f : Value → Value → Sem Value} {g : Int → Int → V} {C : Int → Int → Prop} (ho : OpR X f (rI C g)) {v : Val → Val → Store → R Val} {G : Int → Int → Val} (hG : ∀ mg ι H i j, Rep mg ι H (G i j) (g i j))
    (h1 : ∀ i j st, v (.int i) (.int j) st = .bad ∨ (C i j ∧ v (.int i) (.int j) st = .ok (G i j) st)) (h2 : ∀ a b st, (∀ i j, ¬ (a = .int i ∧ b = .int j)) → v a b st = .bad) : M2 X f v := by
  rintro pins s σ H x y u1 u2 Q I rx ry ⟨ι, st, w1, w2, S, r1, r2, p⟩
  by_cases hi : ∃ i j, w1 = .int i ∧ w2 = .int j
  · obtain ⟨i, j, e1, e2⟩ := hi
    subst e1 e2
    have e1 := r1.int_inv; have e2 := r2.int_inv
    subst e1 e2
    rcases h1 i j st with hb | ⟨hc, hb⟩
    · rw [hb] at p; exact p.elim
    · rw [hb] at p
      exact ho pins s σ H _ _ u1 u2 Q I rx ry ⟨i, j, rfl, rfl, hc, p.okSame S (hG _ _ _ _ _)⟩
  · rw [h2 w1 w2 st fun i j e => hi ⟨i, j, e.1, e.2⟩] at p
    exact p.elim
theorem rI0_rI {f : Value → Value → Sem Value} {g : Int → Int → V} (ho : OpR X f (rI0 g)) : OpR X f (rI (fun _ _ => True) g) := fun pins s σ H x y v u Q I rx ry ⟨i, j, e1, e2, _, q⟩ => ho pins s σ H x y v u Q I rx ry ⟨i, j, e1, e2, q⟩
theorem m2_sub : M2 X (binaryOp .Sub) vSub := m2_int (rI0_rI op_sub) (G := fun i j => .int (i - j)) (fun _ _ _ _ _ => Rep.int) (fun i j st => .inr ⟨trivial, rfl⟩) fun a b st h => by
  cases a <;> cases b <;> first | rfl | exact absurd ⟨rfl, rfl⟩ (h _ _)
theorem m2_mul : M2 X (binaryOp .Mult) vMul := m2_int op_mul (G := fun i j => .int (i * j)) (fun _ _ _ _ _ => Rep.int) (fun i j st => by
  by_cases h : mulOk i j = true
  · exact .inr ⟨mulOk_iff.mp h, if_pos h⟩
  · exact .inl (if_neg h)) fun a b st h => by
  cases a <;> cases b <;> first | rfl | exact absurd ⟨rfl, rfl⟩ (h _ _)
theorem m2_div : M2 X (binaryOp .FloorDiv) vDiv := m2_int op_fdivW (G := fun i j => .int (i / j)) (fun _ _ _ _ _ => Rep.int) (fun i j st => by
  by_cases h : 0 < j ∧ j < 2 ^ 100
  · refine .inr ⟨wide_div h.1 (b := 100) ?_ (by decide) (by decide), if_pos h⟩
    have h2 : ((j.natAbs : Nat) : Int) < ((2 ^ 100 : Nat) : Int) := by
      rw [Int.natAbs_of_nonneg (Int.le_of_lt h.1)]
      exact_mod_cast h.2
    exact_mod_cast h2
  · exact .inl (if_neg h)) fun a b st h => by
  cases a <;> cases b <;> first | rfl | exact absurd ⟨rfl, rfl⟩ (h _ _)
theorem m2_mod : M2 X (binaryOp .Mod) vMod := m2_int op_mod (G := fun i j => .int (i % j)) (fun _ _ _ _ _ => Rep.int) (fun i j st => by
  by_cases h : 0 < j
  · exact .inr ⟨h, if_pos h⟩
  · exact .inl (if_neg h)) fun a b st h => by
  cases a <;> cases b <;> first | rfl | exact absurd ⟨rfl, rfl⟩ (h _ _)
theorem m2_pow : M2 X (binaryOp .Pow) vPow := m2_int op_pow (G := fun i j => .int (i ^ j.toNat)) (fun _ _ _ _ _ => Rep.int) (fun i j st => by
  by_cases h : 0 ≤ j ∧ j ≤ 1000000 ∧ i.natAbs < 2 ^ 64
  · exact .inr ⟨h, if_pos h⟩
  · exact .inl (if_neg h)) fun a b st h => by
  cases a <;> cases b <;> first | rfl | exact absurd ⟨rfl, rfl⟩ (h _ _)
theorem m2_lt : M2 X (compareOp .Lt) vLt := m2_int (rI0_rI op_lt) (G := fun i j => .bl (decide (i < j))) (fun _ _ _ _ _ => Rep.bl) (fun i j st => .inr ⟨trivial, rfl⟩) fun a b st h => by
  cases a <;> cases b <;> first | rfl | exact absurd ⟨rfl, rfl⟩ (h _ _)
theorem m2_gt : M2 X (compareOp .Gt) vGt := m2_int (rI0_rI op_gt) (G := fun i j => .bl (decide (j < i))) (fun _ _ _ _ _ => Rep.bl) (fun i j st => .inr ⟨trivial, rfl⟩) fun a b st h => by
  cases a <;> cases b <;> first | rfl | exact absurd ⟨rfl, rfl⟩ (h _ _)
theorem m2_ge : M2 X (compareOp .GtE) vGe := m2_int (rI0_rI op_ge) (G := fun i j => .bl (decide (j ≤ i))) (fun _ _ _ _ _ => Rep.bl) (fun i j st => .inr ⟨trivial, rfl⟩) fun a b st h => by
  cases a <;> cases b <;> first | rfl | exact absurd ⟨rfl, rfl⟩ (h _ _)
theorem m2_le : M2 X (compareOp .LtE) vLe := by
  rintro pins s σ H x y u1 u2 Q I rx ry ⟨ι, st, w1, w2, S, r1, r2, p⟩
  cases w1 with
  | int i =>
    cases w2 with
    | int j =>
      have e1 := r1.int_inv; have e2 := r2.int_inv
      subst e1 e2
      exact op_le pins s σ H _ _ u1 u2 Q I rx ry ⟨i, j, rfl, rfl, p.okSame S Rep.bl⟩
    | _ => exact p.elim
  | str i =>
    cases w2 with
    | str j =>
      have e1 := r1.str_inv; have e2 := r2.str_inv
      subst e1 e2
      exact op_le_str pins s σ H _ _ u1 u2 Q I rx ry ⟨i, j, rfl, rfl, p.okSame S Rep.bl⟩
    | _ => exact p.elim
  | _ => exact p.elim
theorem m2_add : M2 X (binaryOp .Add) vAdd := by
  rintro pins s σ H x y u1 u2 Q I rx ry ⟨ι, st, w1, w2, S, r1, r2, p⟩
  cases w1 with
  | int i =>
    cases w2 with
    | int j =>
      have e1 := r1.int_inv; have e2 := r2.int_inv
      subst e1 e2
      exact op_add pins s σ H _ _ u1 u2 Q I rx ry ⟨i, j, rfl, rfl, p.okSame S Rep.int⟩
    | _ => exact p.elim
  | str i =>
    cases w2 with
    | str j =>
      have e1 := r1.str_inv; have e2 := r2.str_inv
      subst e1 e2
      dsimp only [vAdd] at p
      split at p
      · rename_i hl
        exact op_add_str pins s σ H _ _ u1 u2 Q I rx ry ⟨i, j, rfl, rfl, hl, p.okSame S Rep.str⟩
      · exact p.elim
    | _ => exact p.elim
  | tup xs =>
    cases w2 with
    | tup ys =>
      obtain ⟨a, vs, e1, ha, q1⟩ := r1.tup_inv
      obtain ⟨b, us, e2, hb, q2⟩ := r2.tup_inv
      subst e1 e2
      dsimp only [vAdd] at p
      split at p
      · rename_i hl
        refine op_catA pins s σ H _ _ u1 u2 Q I rx ry ⟨a, b, vs, us, rfl, rfl, SqT.of ha, SqT.of hb, by rw [← q1.length, ← q2.length]; exact hl, fun e => ?_, fun e1 e2 => ?_, fun e1 e2 p' hp => ?_⟩
        · have : xs = [] := by have := q1.length; rw [e] at this; simpa using this
          subst this
          exact p.okSame S (Rep.tup hb q2)
        · have : ys = [] := by have := q2.length; rw [e2] at this; simpa using this
          subst this
          rw [List.append_nil] at p
          exact p.okSame S (Rep.tup ha q1)
        · exact p.newTup S (q1.append q2) hp
      · exact p.elim
    | _ => exact p.elim
  | ref n =>
    cases w2 with
    | ref m =>
      obtain ⟨a, e1, ha⟩ := r1.ref_inv
      obtain ⟨b, e2, hb⟩ := r2.ref_inv
      subst e1 e2
      dsimp only [vAdd] at p
      split at p
      · rename_i xs ys g1 g2
        obtain ⟨vs, h1, q1⟩ := S.at g1 ha
        obtain ⟨us, h2, q2⟩ := S.at g2 hb
        split at p
        · rename_i hl
          exact op_cat pins s σ H _ _ u1 u2 Q I rx ry ⟨a, b, vs, us, rfl, rfl, h1, h2, by rw [← q1.length, ← q2.length]; exact hl, fun p' hp => p.newLst S (q1.append q2) hp⟩
        · exact p.elim
      · exact p.elim
    | _ => exact p.elim
  | _ => exact p.elim
theorem m2_isN : M2 X (compareOp .Is) vIsN := by
  rintro pins s σ H x y u1 u2 Q I rx ry ⟨ι, st, w1, w2, S, r1, r2, p⟩
  cases w2 with
  | non =>
    have e2 := r2.non_inv
    subst e2
    refine op_isN pins s σ H _ _ u1 u2 Q I rx ry ⟨rfl, ?_⟩
    cases w1 with
    | non => have e := r1.non_inv; subst e; exact p.okSame S Rep.bl
    | int i => have e := r1.int_inv; subst e; exact p.okSame S Rep.bl
    | bl i => have e := r1.bl_inv; subst e; exact p.okSame S Rep.bl
    | str i => have e := r1.str_inv; subst e; exact p.okSame S Rep.bl
    | tup i => obtain ⟨_, _, e, _⟩ := r1.tup_inv; subst e; exact p.okSame S Rep.bl
    | ref i => obtain ⟨_, e, _⟩ := r1.ref_inv; subst e; exact p.okSame S Rep.bl
    | gl i => obtain ⟨_, e, _⟩ := r1.gl_inv; subst e; exact p.okSame S Rep.bl
    | adr i => exact p.elim
  | _ => cases w1 <;> exact p.elim
end
end Ab

set_option Elab.async false
set_option linter.all false
set_option maxRecDepth 100000
/-! Ab: tests, displays, calls of built-ins, subscripts. -/
namespace Ab
open PySem PySem.Spec L2

/-! ### tests -/
@[reducible] def asB : Val → Store → R Bool
  | .bl b, st => .ok b st
  | _, _ => .bad
@[reducible] def mTest (m : ME) : MT := fun ρ st => (m ρ st).bind asB
section
variable {X : Cx} {e a b c : Expr} {m ma mb mc : ME} {pos : Pos}
theorem JE.test (h : JE X e m) (k : ∀ t, PE X e t → PT X e (tB t)) : JT X e (mTest m) := fun W tk => by
  refine PT.weak (k _ (h W tk)) fun σ H Q ⟨ι, ρ, st, S, sl, p⟩ => ?_
  refine ⟨ι, ρ, st, S, sl, Post.bind p fun w st1 ι1 H1 x l1 S1 r1 p1 => ?_⟩
  cases w with
  | bl k => exact ⟨k, r1.bl_inv, p1.okSame S1 rfl⟩
  | _ => exact p1.elim
/-- an expression whose value is a bool -/
theorem jt_val (h : JE X e m) (he : ∀ whole, isTrue e X.env whole = (do let v ← whole; standAt e.pos; holding [v] (truthy v)) := by intro _; rfl) : JT X e (mTest m) := h.test fun _ q => pt_val q he
theorem jt_cmp {op : CmpOp} {g : Val → Val → Store → R Val} (ho : M2 X (compareOp op) g) (hq : ∀ x y st, Quiet (g x y st)) (ha : JE X a ma) (hb : JE X b mb) (hm : behindInMarks op b = false := by first | exact nomark _ | rfl) :
    JT X (.Compare a [op] [b] pos) (mTest (mBin g ma mb)) := fun W tk => by
  refine PT.weak (pt_cmpR ho (ha W tk) (hb W tk) hm) fun σ H Q ⟨ι, ρ, st, S, sl, p⟩ => ?_
  dsimp only [mTest, mBin] at p
  refine ⟨ι, ρ, st, S, sl, Post.bind (rel := rel1 X.mg) (r := ma ρ st) (f := fun x st1 => ((mb ρ st1).bind fun y st2 => g x y st2).bind asB) (by cases h : ma ρ st <;> rw [h] at p <;> exact p) fun w1 st1 ι1 H1 x l1 S1 r1 p1 => ?_⟩
  refine ⟨ι1, ρ, st1, S1, sl.later l1, Post.bind (rel := rel1 X.mg) (r := mb ρ st1) (f := fun y st2 => (g w1 y st2).bind asB) (by cases h : mb ρ st1 <;> rw [h] at p1 <;> exact p1) fun w2 st2 ι2 H2 y l2 S2 r2 p2 => ?_⟩
  refine ⟨ι2, st2, w1, w2, S2, Rep.later l2 r1, r2, ?_⟩
  have p3 := Post.bind (rel := rel1 X.mg) p2 fun w st3 ι3 H3 z l3 S3 r3 p3 => (show ∃ k, z = V.bl k ∧ Q k H3 from by
    cases w with
    | bl k => exact ⟨k, r3.bl_inv, p3.okSame S3 rfl⟩
    | _ => exact p3.elim)
  exact noExc (hq _ _ _) p3
@[reducible] def mChain (g g' : Val → Val → Store → R Val) (a b c : ME) : ME := fun ρ st => (a ρ st).bind fun x st1 => (b ρ st1).bind fun y st2 => (g x y st2).bind fun z st3 => match z with
  | .bl true => (c ρ st3).bind fun w st4 => g' y w st4
  | .bl false => .ok (.bl false) st3
  | _ => .bad
theorem chain_read {W : WX} {g g' : Val → Val → Store → R Val} (hq : ∀ x y st, Quiet (g x y st)) (hq' : ∀ x y st, Quiet (g' x y st)) (ha : JE X a ma) (hb : JE X b mb) (hc : JE X c mc) {σ : L2.St} {H : Hp} {Q : VK}
    (h : rdG X.K X.mg (rel1 X.mg) W (mChain g g' ma mb mc) σ H Q) : tChain (r2 X.K X.mg g) (r2 X.K X.mg g') (rdG X.K X.mg (rel1 X.mg) W ma) (rdG X.K X.mg (rel1 X.mg) W mb) (rdG X.K X.mg (rel1 X.mg) W mc) σ H Q := by
  obtain ⟨ι, ρ, st, S, sl, p⟩ := h
  refine ⟨ι, ρ, st, S, sl, Post.bind p fun w1 st1 ι1 H1 x l1 S1 r1 p1 => ?_⟩
  have sl1 := sl.later l1
  refine ⟨ι1, ρ, st1, S1, sl1, Post.bind p1 fun w2 st2 ι2 H2 y l2 S2 r2 p2 => ?_⟩
  have sl2 := sl1.later l2
  refine ⟨ι2, st2, w1, w2, S2, Rep.later l2 r1, r2, ?_⟩
  refine noExc (hq _ _ _) (Post.bind p2 fun w3 st3 ι3 H3 z l3 S3 r3 p3 => ?_)
  have sl3 := sl2.later l3
  cases w3 with
  | bl k =>
    refine ⟨k, r3.bl_inv, ?_⟩
    cases k with
    | true =>
      refine iteT ⟨ι3, ρ, st3, S3, sl3, Post.bind p3 fun w4 st4 ι4 H4 u l4 S4 r4 p4 => ?_⟩
      exact ⟨ι4, st4, w2, w4, S4, Rep.later l4 (Rep.later l3 r2), r4, noExc (hq' _ _ _) p4⟩
    | false => exact iteF (p3.okSame S3 Rep.bl)
  | _ => exact p3.elim
theorem je_chain {op op' : CmpOp} {g g' : Val → Val → Store → R Val} (ho : M2 X (compareOp op) g) (hq : ∀ x y st, Quiet (g x y st)) (ho' : M2 X (compareOp op') g') (hq' : ∀ x y st, Quiet (g' x y st)) (ha : JE X a ma) (hb : JE X b mb) (hc : JE X c mc)
    (hm : lastMarks [op, op'] [b, c] = false := by with_unfolding_all rfl) : JE X (.Compare a [op, op'] [b, c] pos) (mChain g g' ma mb mc) := fun W tk =>
  PE.weak (pe_chain ho ho' (ha W tk) (hb W tk) (hc W tk) hm) fun σ H Q h => chain_read hq hq' ha hb hc h
theorem jt_chain {op op' : CmpOp} {g g' : Val → Val → Store → R Val} (ho : M2 X (compareOp op) g) (hq : ∀ x y st, Quiet (g x y st)) (ho' : M2 X (compareOp op') g') (hq' : ∀ x y st, Quiet (g' x y st)) (ha : JE X a ma) (hb : JE X b mb) (hc : JE X c mc)
    (hm : lastMarks [op, op'] [b, c] = false := by with_unfolding_all rfl) : JT X (.Compare a [op, op'] [b, c] pos) (mTest (mChain g g' ma mb mc)) := fun W tk => by
  refine PT.weak (pt_chain ho ho' (ha W tk) (hb W tk) (hc W tk) hm) fun σ H Q ⟨ι, ρ, st, S, sl, p⟩ => ?_
  refine chain_read (W := W) hq hq' ha hb hc ⟨ι, ρ, st, S, sl, ?_⟩
  refine Post.bind p fun w st1 ι1 H1 x l1 S1 r1 p1 => ?_
  cases w with
  | bl k => exact ⟨k, r1.bl_inv, p1.okSame S1 rfl⟩
  | _ => exact p1.elim

/-! ### and, or, not -/
@[reducible] def tAndM (t u : MT) : MT := fun ρ st => (t ρ st).bind fun k st1 => if k = true then u ρ st1 else .ok false st1
@[reducible] def tOrM (t u : MT) : MT := fun ρ st => (t ρ st).bind fun k st1 => if k = true then .ok true st1 else u ρ st1
@[reducible] def tNotM (t : MT) : MT := fun ρ st => (t ρ st).bind fun k st1 => .ok (!k) st1
/-- a test whatever its whole is -/
def JW (X : Cx) (e : Expr) (m : MT) : Prop := ∀ W, Takes X W → PW X e (rdG X.K X.mg relB W m)
theorem PW.weak {t t' : TT} (h : PW X e t) (w : ∀ σ H Q, t' σ H Q → t σ H Q) : PW X e t' := ⟨fun wh pins s σ H Q I q => h.run wh pins s σ H Q I (w σ H Q q)⟩
theorem JW.jt {m : MT} (h : JW X e m) : JT X e m := fun W tk => (h W tk).pt
variable {t u : MT} {rest : List Expr}
theorem jw_or1 (ha : JT X a t) : JW X (.BoolOp .Or [a] pos) t := fun W tk => pw_or1 (ha W tk)
theorem jw_or (ha : JT X a t) (hb : JW X (.BoolOp .Or (b :: rest) pos) u) : JW X (.BoolOp .Or (a :: b :: rest) pos) (tOrM t u) := fun W tk => by
  refine PW.weak (pw_or (ha W tk) (hb W tk)) fun σ H Q ⟨ι, ρ, st, S, sl, p⟩ => ?_
  refine ⟨ι, ρ, st, S, sl, Post.bind p fun k st1 ι1 H1 k' l1 S1 r1 p1 => ?_⟩
  have r1 : k = k' := r1
  subst r1
  cases k with
  | true => exact iteT (p1.okSame S1 rfl)
  | false => exact iteF ⟨ι1, ρ, st1, S1, sl.later l1, p1⟩
theorem jt_not (ha : JT X a t) : JT X (.UnaryOp .Not a pos) (tNotM t) := fun W tk => by
  refine PT.weak (pt_not (ha W tk)) fun σ H Q ⟨ι, ρ, st, S, sl, p⟩ => ?_
  refine ⟨ι, ρ, st, S, sl, Post.bind p fun k st1 ι1 H1 k' l1 S1 r1 p1 => ?_⟩
  have r1 : k = k' := r1
  subst r1
  exact p1.okSame S1 rfl
/-- as values, of bools -/
@[reducible] def mAnd (a b : ME) : ME := fun ρ st => (a ρ st).bind fun x st1 => match x with
  | .bl true => b ρ st1
  | .bl false => .ok (.bl false) st1
  | _ => .bad
@[reducible] def mOr (a b : ME) : ME := fun ρ st => (a ρ st).bind fun x st1 => match x with
  | .bl true => .ok (.bl true) st1
  | .bl false => b ρ st1
  | _ => .bad
@[reducible] def mNot (a : ME) : ME := fun ρ st => (a ρ st).bind fun x st1 => match x with
  | .bl k => .ok (.bl (!k)) st1
  | _ => .bad
theorem je_one {op} (h : JE X a m) : JE X (.BoolOp op [a] pos) m := fun W tk => pe_one (h W tk)
theorem je_and (ha : JE X a ma) (hb : JE X (.BoolOp .And (b :: rest) pos) mb) : JE X (.BoolOp .And (a :: b :: rest) pos) (mAnd ma mb) := fun W tk => by
  refine PE.weak (pe_and (ha W tk) (hb W tk)) fun σ H Q ⟨ι, ρ, st, S, sl, p⟩ => ?_
  refine ⟨ι, ρ, st, S, sl, Post.bind p fun w st1 ι1 H1 x l1 S1 r1 p1 => ?_⟩
  cases w with
  | bl k =>
    refine ⟨k, r1.bl_inv, ?_⟩
    cases k with
    | true => exact iteT ⟨ι1, ρ, st1, S1, sl.later l1, p1⟩
    | false => exact iteF (p1.okSame S1 Rep.bl)
  | _ => exact p1.elim
@[reducible] def mIf (t : MT) (a b : ME) : ME := fun ρ st => (t ρ st).bind fun k st1 => if k = true then a ρ st1 else b ρ st1
theorem je_if (hc : JT X c t) (ha : JE X a ma) (hb : JE X b mb) : JE X (.IfExp c a b pos) (mIf t ma mb) := fun W tk => by
  refine PE.weak (pe_ifExp (hc W tk) (ha W tk) (hb W tk)) fun σ H Q ⟨ι, ρ, st, S, sl, p⟩ => ?_
  refine ⟨ι, ρ, st, S, sl, Post.bind p fun k st1 ι1 H1 k' l1 S1 r1 p1 => ?_⟩
  have r1 : k = k' := r1
  subst r1
  cases k with
  | true => exact iteT ⟨ι1, ρ, st1, S1, sl.later l1, p1⟩
  | false => exact iteF ⟨ι1, ρ, st1, S1, sl.later l1, p1⟩
end

/-! ### arguments, displays -/
@[reducible] def aNil : MA := fun _ st => .ok [] st
@[reducible] def aCons (m : ME) (t : MA) : MA := fun ρ st => (m ρ st).bind fun x st1 => (t ρ st1).bind fun xs st2 => .ok (x :: xs) st2
@[reducible] def mTup (t : MA) : ME := fun ρ st => (t ρ st).bind fun xs st1 => if xs.length ≤ sizeLine then .ok (.tup xs) st1 else .bad
@[reducible] def mLst (t : MA) : ME := fun ρ st => (t ρ st).bind fun xs st1 => if xs.length ≤ sizeLine then .ok (.ref st1.length) (st1 ++ [.lst xs]) else .bad
section
variable {X : Cx} {e a b c : Expr} {m ma mb mc : ME} {t : MA} {es : List Expr} {pos : Pos}
theorem ja_nil : JA X [] aNil := fun W tk => PA.weak pa_nil fun σ H Q ⟨ι, ρ, st, S, sl, p⟩ => p.okSame S Reps.nil
theorem ja_cons (ha : JE X e m) (hr : JA X es t) (hs : starEach (e :: es) X.env = (false, eval e X.env) :: starEach es X.env := by rfl) : JA X (e :: es) (aCons m t) := fun W tk => by
  refine PA.weak (pa_cons (ha W tk) (hr W tk) hs) fun σ H Q ⟨ι, ρ, st, S, sl, p⟩ => ?_
  refine ⟨ι, ρ, st, S, sl, Post.bind p fun w st1 ι1 H1 x l1 S1 r1 p1 => ?_⟩
  refine ⟨ι1, ρ, st1, S1, sl.later l1, Post.bind p1 fun ws st2 ι2 H2 xs l2 S2 r2 p2 => ?_⟩
  exact p2.okSame S2 (Reps.cons (Rep.later l2 r1) r2)
theorem je_tup {x1} (h : JA X es t) : JE X (.Tuple es x1 pos) (mTup t) := fun W tk => by
  refine PE.weak (pe_tup (h W tk)) fun σ H Q ⟨ι, ρ, st, S, sl, p⟩ => ?_
  refine ⟨ι, ρ, st, S, sl, Post.bind p fun ws st1 ι1 H1 xs l1 S1 r1 p1 => ?_⟩
  split at p1
  · rename_i hl
    exact ⟨by rw [← r1.length]; exact hl, fun q hq => p1.newTup S1 r1 hq⟩
  · exact p1.elim
theorem je_lst (h : JA X es t) : JE X (.List es pos) (mLst t) := fun W tk => by
  refine PE.weak (pe_lst (h W tk)) fun σ H Q ⟨ι, ρ, st, S, sl, p⟩ => ?_
  refine ⟨ι, ρ, st, S, sl, Post.bind p fun ws st1 ι1 H1 xs l1 S1 r1 p1 => ?_⟩
  split at p1
  · rename_i hl
    exact ⟨by rw [← r1.length]; exact hl, fun q hq => p1.newLst S1 r1 hq⟩
  · exact p1.elim
end

/-! ### calls of built-ins -/
def rC (K : PySem.W.Frag) (mg : Str → Option Value) (g : List Val → Store → R Val) : List V → Hp → VK → Prop := fun vs H Q =>
  ∃ ι st ws, Sim K mg ι st H ∧ Reps mg ι H ws vs ∧ Post K mg (rel1 mg) ι H Q (fun _ _ _ => False) (g ws st)
def MC (X : Cx) (f : Value) (g : List Val → Store → R Val) : Prop := CallR X f (rC X.K X.mg g)
@[reducible] def mApp (g : List Val → Store → R Val) (t : MA) : ME := fun ρ st => (t ρ st).bind fun ws st1 => g ws st1
section
variable {X : Cx} {e a b c : Expr} {m ma mb mc : ME} {t : MA} {es : List Expr} {pos p : Pos} {x : Str} {id T : String} {g : List Val → Store → R Val}
theorem app_read {W : WX} (hq : ∀ xs st, Quiet (g xs st)) {σ : L2.St} {H : Hp} {Q : VK} (h : rdG X.K X.mg (rel1 X.mg) W (mApp g t) σ H Q) :
    tCB (rC X.K X.mg g) (rdG X.K X.mg (relL X.mg) W t) σ H Q := by
  obtain ⟨ι, ρ, st, S, sl, p⟩ := h
  exact ⟨ι, ρ, st, S, sl, Post.bind p fun ws st1 ι1 H1 xs l1 S1 r1 p1 => ⟨ι1, st1, ws, S1, r1, noExc (hq _ _) p1⟩⟩
theorem je_callB (hc : MC X (.builtin id) g) (hq : ∀ xs st, Quiet (g xs st)) (hm : X.mg x = none) (hv : bootBuiltins x = some (.builtin id)) (ha : JA X (e :: es) t) (hg : Gl X x := by rfl) (hn : x ≠ "__name__" := by decide) (hdb : (x == ("__debug__" : Str)) = false := by decide)
    (he : starEach (e :: es) X.env = (false, eval e X.env) :: starEach es X.env := by rfl) (hpl : (backTo pos (starEach es X.env)).any (·.1) = false := by rfl) : JE X (.Call (.Name x p) (e :: es) [] pos) (mApp g t) := fun W tk =>
  PE.weak (pe_callB hc hg hm hv (ha W tk) hn hdb he hpl) fun σ H Q h => app_read hq h
theorem je_callTy (hc : MC X (.type T) g) (hq : ∀ xs st, Quiet (g xs st)) (hm : X.mg x = none) (hv : bootBuiltins x = some (.type T)) (ha : JA X (e :: es) t) (hg : Gl X x := by rfl) (hn : x ≠ "__name__" := by decide) (hdb : (x == ("__debug__" : Str)) = false := by decide)
    (he : starEach (e :: es) X.env = (false, eval e X.env) :: starEach es X.env := by rfl) (hpl : (backTo pos (starEach es X.env)).any (·.1) = false := by rfl) : JE X (.Call (.Name x p) (e :: es) [] pos) (mApp g t) := fun W tk =>
  PE.weak (pe_callTy hc hg hm hv (ha W tk) hn hdb he hpl) fun σ H Q h => app_read hq h
end

/-! ### subscripts -/
@[reducible] def vIx : Val → Val → Store → R Val
  | .tup xs, .int i, st => match atI xs i with
    | some w => .ok w st
    | none => .bad
  | .ref n, .int i, st => match seqAt st n with
    | some xs => match atI xs i with
      | some w => .ok w st
      | none => .bad
    | none => .bad
  | .str z, .int i, st => if z.length ≤ sizeLine then match atI z.cps.toList i with
      | some c => .ok (.str ⟨#[c]⟩) st
      | none => .bad
    else .bad
  | _, _, _ => .bad
theorem Reps.atI {mg : Str → Option Value} {ι : List Addr} {H : Hp} {ws : List Val} {vs : List V} (r : Reps mg ι H ws vs) {i : Int} {w : Val} (h : L2.atI ws i = some w) : ∃ v, L2.atI vs i = some v ∧ Rep mg ι H w v := by
  unfold L2.atI at h ⊢
  rw [← r.length]
  cases e : ixN ws.length i with
  | none => rw [e] at h; cases h
  | some j =>
    rw [e] at h
    exact r.get h
section
variable {X : Cx} {e a b c : Expr} {m ma mb mc : ME} {pos p2 : Pos}
theorem ix_all : IxR X (r2 X.K X.mg vIx) := by
  intro value slice pins s σ H x y v u Q I rx ry ⟨ι, st, w1, w2, S, r1, r2, p⟩ hs
  cases w2 with
  | int i =>
    have e2 := r2.int_inv
    subst e2
    cases w1 with
    | tup xs =>
      obtain ⟨q, vs, e1, hq, rr⟩ := r1.tup_inv
      subst e1
      dsimp only [vIx] at p
      split at p
      · rename_i w ew
        obtain ⟨z, ez, rz⟩ := rr.atI ew
        exact ix_tup value slice pins s σ H _ _ v u Q I rx ry ⟨q, vs, i, z, rfl, rfl, SqT.of hq, ez, p.okSame S rz⟩ hs
      · exact p.elim
    | ref n =>
      obtain ⟨q, e1, hq⟩ := r1.ref_inv
      subst e1
      dsimp only [vIx] at p
      cases es : seqAt st n with
      | none => rw [es] at p; exact p.elim
      | some xs =>
        rw [es] at p
        dsimp only at p
        obtain ⟨vs, hl, rr⟩ := S.seqL es hq
        split at p
        · rename_i w ew
          obtain ⟨z, ez, rz⟩ := rr.atI ew
          exact ix_list value slice pins s σ H _ _ v u Q I rx ry ⟨q, vs, i, z, rfl, rfl, hl, ez, p.okSame S rz⟩ hs
        · exact p.elim
    | str z =>
      have e1 := r1.str_inv
      subst e1
      dsimp only [vIx] at p
      split at p
      · rename_i hz
        split at p
        · rename_i c ec
          exact ix_str value slice pins s σ H _ _ v u Q I rx ry ⟨z, i, c, rfl, rfl, hz, ec, p.okSame S Rep.str⟩ hs
        · exact p.elim
      · exact p.elim
    | _ => exact p.elim
  | _ => cases w1 <;> exact p.elim
theorem quiet_ix : ∀ x y st, Quiet (vIx x y st) := by
  intro x y st ex st' h
  unfold vIx at h
  repeat (first | (split at h) | cases h)
theorem je_ix (ha : JE X a ma) (hb : JE X b mb) (hs : PlainIx b := by exact fun _ _ => rfl) : JE X (.Subscript a b pos) (mBin vIx ma mb) := JE.bin quiet_ix ha hb fun _ _ h1 h2 => pe_ix ix_all h1 h2 hs

/-! ### slices -/
abbrev MO := Slots → Store → R (Option Int)
abbrev relO : List Addr → Hp → Option Int → Option Int → Prop := fun _ _ a b => a = b
def JO (X : Cx) (e : Option Expr) (m : MO) : Prop := ∀ W, Takes X W → PO X e (rdG X.K X.mg relO W m)
theorem PO.weak {e : Option Expr} {t t' : TO} (h : PO X e t) (w : ∀ σ H Q, t' σ H Q → t σ H Q) : PO X e t' := ⟨fun pins s σ H Q I q => h.run pins s σ H Q I (w σ H Q q)⟩
@[reducible] def oNone : MO := fun _ st => .ok none st
@[reducible] def asI : Val → Store → R (Option Int)
  | .int i, st => .ok (some i) st
  | _, _ => .bad
@[reducible] def oSome (m : ME) : MO := fun ρ st => (m ρ st).bind asI
theorem jo_none : JO X none oNone := fun W tk => PO.weak po_none fun σ H Q ⟨ι, ρ, st, S, sl, p⟩ => p.okSame S rfl
theorem jo_some (h : JE X e m) : JO X (some e) (oSome m) := fun W tk => by
  refine PO.weak (po_some (h W tk)) fun σ H Q ⟨ι, ρ, st, S, sl, p⟩ => ?_
  refine ⟨ι, ρ, st, S, sl, Post.bind p fun w st1 ι1 H1 x l1 S1 r1 p1 => ?_⟩
  cases w with
  | int i => exact ⟨i, r1.int_inv, p1.okSame S1 rfl⟩
  | _ => exact p1.elim
/-- xs[lo:hi] -/
def cut {α : Type} (xs : List α) (lo hi : Option Int) : List α := (xs.drop (HT.sIx xs.length 0 lo)).take (HT.sIx xs.length xs.length hi - HT.sIx xs.length 0 lo)
theorem Reps.cut {mg : Str → Option Value} {ι : List Addr} {H : Hp} {ws : List Val} {vs : List V} (r : Reps mg ι H ws vs) (lo hi : Option Int) : Reps mg ι H (Ab.cut ws lo hi) (cutV vs lo hi) := by
  unfold Ab.cut cutV
  rw [r.length]
  exact (r.drop _).take _
@[reducible] def vCut : Val → Option Int → Option Int → Store → R Val
  | .tup xs, lo, hi, st => .ok (.tup (cut xs lo hi)) st
  | .ref n, lo, hi, st => match seqAt st n with
    | some xs => .ok (.ref st.length) (st ++ [.lst (cut xs lo hi)])
    | none => .bad
  | _, _, _, _ => .bad
theorem cut_whole {α : Type} {xs : List α} {lo hi : Option Int} (h : HT.sIx xs.length 0 lo = 0 ∧ HT.sIx xs.length xs.length hi = xs.length) : cut xs lo hi = xs := by
  unfold cut
  rw [h.1, h.2]
  simp
def rSl (K : PySem.W.Frag) (mg : Str → Option Value) : V → Option Int → Option Int → Hp → VK → Prop := fun x lo hi H Q =>
  ∃ ι st w, Sim K mg ι st H ∧ Rep mg ι H w x ∧ Post K mg (rel1 mg) ι H Q (fun _ _ _ => False) (vCut w lo hi st)
theorem sl_all : SlR X (rSl X.K X.mg) := by
  intro pins s σ H x v vl vu lo hi sl Q I rx hs pl pu ⟨ι, st, w, S, r, p⟩
  cases w with
  | tup xs =>
    obtain ⟨q, vs, e1, hq, rr⟩ := r.tup_inv
    subst e1
    refine sl_tupA pins s σ H _ v vl vu lo hi sl Q I rx hs pl pu ⟨q, vs, rfl, SqT.of hq, fun hw => ?_, fun _ z hz => p.newTup S (rr.cut lo hi) hz⟩
    rw [← rr.length] at hw
    dsimp only [vCut] at p
    rw [cut_whole hw] at p
    exact p.okSame S (Rep.tup hq rr)
  | ref n =>
    obtain ⟨q, e1, hq⟩ := r.ref_inv
    subst e1
    dsimp only [vCut] at p
    cases es : seqAt st n with
    | none => rw [es] at p; exact p.elim
    | some xs =>
      rw [es] at p
      obtain ⟨vs, hl, rr⟩ := S.seqL es hq
      exact sl_list pins s σ H _ v vl vu lo hi sl Q I rx hs pl pu ⟨q, vs, rfl, hl, fun z hz => p.newLst S (rr.cut lo hi) hz⟩
  | _ => exact p.elim
theorem quiet_cut : ∀ x lo hi st, Quiet (vCut x lo hi st) := by
  intro x lo hi st ex st' h
  unfold vCut at h
  repeat (first | (split at h) | cases h)
@[reducible] def mCut (a : ME) (lo hi : MO) : ME := fun ρ st => (a ρ st).bind fun x st1 => (lo ρ st1).bind fun l st2 => (hi ρ st2).bind fun h st3 => vCut x l h st3
theorem je_cut {lo hi : Option Expr} {mlo mhi : MO} (ha : JE X a ma) (hl : JO X lo mlo) (hh : JO X hi mhi) : JE X (.Subscript a (.Slice lo hi none p2) pos) (mCut ma mlo mhi) := fun W tk => by
  refine PE.weak (pe_slice sl_all (ha W tk) (hl W tk) (hh W tk)) fun σ H Q ⟨ι, ρ, st, S, sl, p⟩ => ?_
  refine ⟨ι, ρ, st, S, sl, Post.bind p fun w st1 ι1 H1 x l1 S1 r1 p1 => ?_⟩
  have sl1 := sl.later l1
  refine ⟨ι1, ρ, st1, S1, sl1, Post.bind p1 fun lo' st2 ι2 H2 lo'' l2 S2 r2 p2 => ?_⟩
  have sl2 := sl1.later l2
  have r2 : lo' = lo'' := r2
  subst r2
  refine ⟨ι2, ρ, st2, S2, sl2, Post.bind p2 fun hi' st3 ι3 H3 hi'' l3 S3 r3 p3 => ?_⟩
  have r3 : hi' = hi'' := r3
  subst r3
  exact ⟨ι3, st3, w, S3, Rep.later l3 (Rep.later l2 r1), noExc (quiet_cut _ _ _ _) p3⟩
end
end Ab

set_option Elab.async false
set_option linter.all false
set_option maxRecDepth 100000
/-! Ab: statements, targets, loops. -/
namespace Ab
open PySem PySem.Spec L2

@[reducible] def R.toO {α : Type} (r : R α) (ρ : Slots) (f : α → Store → O) : O := match r with
  | .ok a st => f a st
  | .exc x st => .exc x ρ st
  | .bad => .bad
@[reducible] def O.then (o : O) (f : Slots → Store → O) : O := match o with
  | .nx ρ st => f ρ st
  | .ret w st => .ret w st
  | .brk ρ st => .brk ρ st
  | .ct ρ st => .ct ρ st
  | .exc x ρ st => .exc x ρ st
  | .bad => .bad
section
variable {α β : Type} {K : PySem.W.Frag} {mg : Str → Option Value} {rel : List Addr → Hp → α → β → Prop} {ι : List Addr} {H : Hp} {W : WX} {D : Ends}
theorem PostO.bind {r : R α} {ρ : Slots} {σ : L2.St} {f : α → Store → O} {Q1 : β → Hp → Prop} (p : PostO K mg W ι H D (r.toO ρ f)) (sl : SlotsOk mg ι H ρ σ)
    (k : ∀ a st1 ι1 H1 b, Later ι H ι1 H1 → Sim K mg ι1 st1 H1 → rel ι1 H1 a b → PostO K mg W ι1 H1 D (f a st1) → Q1 b H1) : Post K mg rel ι H Q1 (fun c d H' => W c d σ H') r := by
  cases r with
  | ok a st1 => exact fun ι1 H1 b l S r => k a st1 ι1 H1 b l S r (PostO.later p l)
  | exc x st1 => exact fun ι1 H1 c d l S r => p ι1 H1 σ c d l S (sl.later l) r
  | bad => exact p
theorem PostO.nx_same {ρ : Slots} {σ : L2.St} {st : Store} (p : PostO K mg W ι H D (.nx ρ st)) (S : Sim K mg ι st H) (sl : SlotsOk mg ι H ρ σ) : D.nx σ H := p ι H σ (Later.refl _ _) S sl
theorem PostO.ret_same {w : Val} {v : V} {st : Store} (p : PostO K mg W ι H D (.ret w st)) (S : Sim K mg ι st H) (r : Rep mg ι H w v) : D.rt v H := p ι H v (Later.refl _ _) S r
end

/-! ### small statements -/
@[reducible] def sNext : MS := fun ρ st => .nx ρ st
@[reducible] def sSeq (a b : MS) : MS := fun ρ st => (a ρ st).then b
@[reducible] def sSet (i : Nat) (m : ME) : MS := fun ρ st => (m ρ st).toO ρ fun w st1 => .nx (ρ.set i (some w)) st1
@[reducible] def sRet (m : ME) : MS := fun ρ st => (m ρ st).toO ρ fun w st1 => .ret w st1
@[reducible] def sDrop (m : ME) : MS := fun ρ st => (m ρ st).toO ρ fun _ st1 => .nx ρ st1
@[reducible] def sIf (t : MT) (a b : MS) : MS := fun ρ st => (t ρ st).toO ρ fun k st1 => if k = true then a ρ st1 else b ρ st1
@[reducible] def sAug (i : Nat) (g : Val → Val → Store → R Val) (m : ME) : MS := fun ρ st => match ρ[i]? with
  | some (some x) => (m ρ st).toO ρ fun y st1 => (g x y st1).toO ρ fun z st2 => .nx (ρ.set i (some z)) st2
  | _ => .bad
@[reducible] def sBreak : MS := fun ρ st => .brk ρ st
@[reducible] def sCont : MS := fun ρ st => .ct ρ st
section
variable {X : Cx} {st : Stmt} {rest : List Stmt} {m1 m2 : MS} {e : Expr} {m : ME} {t : MT} {pos pos' : Pos}
theorem jss_nil : JSs X [] sNext := fun W tk => PSs.weak pss_nil fun D σ H ⟨ι, ρ, st, S, sl, p⟩ => p.nx_same S sl
theorem jss_cons (h1 : JS X st m1) (h2 : JSs X rest m2) : JSs X (st :: rest) (sSeq m1 m2) := fun W tk => by
  refine PSs.weak (pss_cons (h1 W tk) (h2 W tk)) fun D σ H ⟨ι, ρ, s, S, sl, p⟩ => ?_
  refine ⟨ι, ρ, s, S, sl, ?_⟩
  show PostO X.K X.mg W ι H { D with nx := rdS X.K X.mg W m2 D } (m1 ρ s)
  have p : PostO X.K X.mg W ι H D ((m1 ρ s).then m2) := p
  cases h : m1 ρ s with
  | nx ρ1 s1 =>
    rw [h] at p
    exact fun ι1 H1 σ1 l S1 sl1 => ⟨ι1, ρ1, s1, S1, sl1, PostO.later p l⟩
  | _ => rw [h] at p; exact p
theorem jss_one (h1 : JS X st m1) : JSs X [st] m1 := fun W tk => pss_one (h1 W tk)
theorem js_set {i : Nat} {x : Str} (hN : X.N.Nodup) (he : JE X e m) (hi : X.N[i]? = some x := by rfl) (hx : Loc X.env.scope x := by first | exact .inl rfl | exact .inr rfl) (hs : swapsWith e (some (.Name x pos')) pos.line X.env = pure false := by rfl)
    (hf : X.fn x = true ∨ X.env.scope.names.lookup x = some .local := by first | exact .inl rfl | exact .inr rfl | assumption) : JS X (.Assign [.Name x pos'] e pos) (sSet i m) := fun W tk => by
  refine PS.weak (ps_set hN hi hx (he W tk) hs hf) fun D σ H ⟨ι, ρ, st, S, sl, p⟩ => ?_
  refine ⟨ι, ρ, st, S, sl, PostO.bind p sl fun w st1 ι1 H1 v l1 S1 r1 p1 => ?_⟩
  exact p1.nx_same S1 ((sl.later l1).set i r1)
theorem js_ret (he : JE X e m) : JS X (.Return (some e) pos) (sRet m) := fun W tk => by
  refine PS.weak (ps_ret (he W tk)) fun D σ H ⟨ι, ρ, st, S, sl, p⟩ => ?_
  exact ⟨ι, ρ, st, S, sl, PostO.bind p sl fun w st1 ι1 H1 v l1 S1 r1 p1 => p1.ret_same S1 r1⟩
theorem js_expr (he : JE X e m) (hs : swapsWith e none pos.line X.env = pure false := by rfl) : JS X (.Expr e pos) (sDrop m) := fun W tk => by
  refine PS.weak (ps_expr (he W tk) hs) fun D σ H ⟨ι, ρ, st, S, sl, p⟩ => ?_
  exact ⟨ι, ρ, st, S, sl, PostO.bind p sl fun w st1 ι1 H1 v l1 S1 r1 p1 => p1.nx_same S1 (sl.later l1)⟩
theorem js_if {c : Expr} {a b : List Stmt} (hc : JT X c t) (ha : JSs X a m1) (hb : JSs X b m2) : JS X (.If c a b pos) (sIf t m1 m2) := fun W tk => by
  refine PS.weak (ps_if (hc W tk) (ha W tk) (hb W tk)) fun D σ H ⟨ι, ρ, st, S, sl, p⟩ => ?_
  refine ⟨ι, ρ, st, S, sl, PostO.bind p sl fun k st1 ι1 H1 k' l1 S1 r1 p1 => ?_⟩
  have r1 : k = k' := r1
  subst r1
  cases k with
  | true => exact iteT ⟨ι1, ρ, st1, S1, sl.later l1, p1⟩
  | false => exact iteF ⟨ι1, ρ, st1, S1, sl.later l1, p1⟩
/-- x op= e -/
theorem js_aug {i : Nat} {x : Str} {op : Operator} {g : Val → Val → Store → R Val} (hN : X.N.Nodup) (ho : M2 X (inplaceOp op) g) (hq : ∀ x y st, Quiet (g x y st)) (he : JE X e m) (hi : X.N[i]? = some x := by rfl) (hx : Loc X.env.scope x := by first | exact .inl rfl | exact .inr rfl)
    (hf : X.fn x = true ∨ X.env.scope.names.lookup x = some .local := by first | exact .inl rfl | exact .inr rfl | assumption) : JS X (.AugAssign (.Name x pos') op e pos) (sAug i g m) := fun W tk => by
  refine PS.weak (ps_aug hN hi hx (he W tk) (ti := r2 X.K X.mg g) ho hf) fun D σ H ⟨ι, ρ, st, S, sl, p⟩ => ?_
  dsimp only [sAug] at p
  split at p
  · rename_i w ew
    obtain ⟨v, ev, rv⟩ := sl.2 i w ew
    refine ⟨v, ev, ι, ρ, st, S, sl, PostO.bind p sl fun y st1 ι1 H1 yv l1 S1 r1 p1 => ?_⟩
    refine ⟨ι1, st1, w, y, S1, Rep.later l1 rv, r1, noExc (hq _ _ _) (PostO.bind (σ := σ) p1 (sl.later l1) fun z st2 ι2 H2 zv l2 S2 r2 p2 => ?_)⟩
    exact p2.nx_same S2 (((sl.later l1).later l2).set i r2)
  · exact p.elim
end

/-! ### targets -/
abbrev MG := Val → Slots → Store → Option (Slots × Store)
abbrev MGs := List Val → Slots → Store → Option (Slots × Store)
/-- all slots but those are as they were -/
def OutS (vs : List Nat) (σ σ' : L2.St) : Prop := σ'.length = σ.length ∧ ∀ i, i ∉ vs → σ'[i]? = σ[i]?
theorem OutS.refl (vs : List Nat) (σ : L2.St) : OutS vs σ σ := ⟨rfl, fun _ _ => rfl⟩
theorem OutS.mono {vs ws : List Nat} {σ σ' : L2.St} (h : OutS vs σ σ') (hs : ∀ i ∈ vs, i ∈ ws) : OutS ws σ σ' := ⟨h.1, fun i hi => h.2 i fun z => hi (hs i z)⟩
theorem OutS.trans {vs : List Nat} {σ σ1 σ2 : L2.St} (a : OutS vs σ σ1) (b : OutS vs σ1 σ2) : OutS vs σ σ2 := ⟨b.1.trans a.1, fun i hi => (b.2 i hi).trans (a.2 i hi)⟩
def PostG (K : PySem.W.Frag) (mg : Str → Option Value) (vs : List Nat) (ι : List Addr) (H : Hp) (σ : L2.St) (Q : L2.St → Hp → Prop) : Option (Slots × Store) → Prop
  | some (ρ, st) => ∀ ι' H' σ', Later ι H ι' H' → Sim K mg ι' st H' → SlotsOk mg ι' H' ρ σ' → OutS vs σ σ' → Q σ' H'
  | none => False
theorem PostG.later {K : PySem.W.Frag} {mg : Str → Option Value} {vs : List Nat} {σ : L2.St} {ι ι1 : List Addr} {H H1 : Hp} {Q : L2.St → Hp → Prop} {r : Option (Slots × Store)} (p : PostG K mg vs ι H σ Q r) (l : Later ι H ι1 H1) : PostG K mg vs ι1 H1 σ Q r := by
  cases r with
  | none => exact p
  | some x => exact fun ι' H' σ' l' => p ι' H' σ' (l.trans l')
theorem PostG.same {K : PySem.W.Frag} {mg : Str → Option Value} {vs : List Nat} {ι : List Addr} {H : Hp} {Q : L2.St → Hp → Prop} {ρ : Slots} {st : Store} {σ σ' : L2.St} (p : PostG K mg vs ι H σ Q (some (ρ, st))) (S : Sim K mg ι st H) (sl : SlotsOk mg ι H ρ σ') (o : OutS vs σ σ') : Q σ' H := p ι H σ' (Later.refl _ _) S sl o
def rdT (K : PySem.W.Frag) (mg : Str → Option Value) (vs : List Nat) (g : MG) : TG := fun v σ H Q => ∃ ι ρ st w, Sim K mg ι st H ∧ SlotsOk mg ι H ρ σ ∧ Rep mg ι H w v ∧ PostG K mg vs ι H σ Q (g w ρ st)
def rdTs (K : PySem.W.Frag) (mg : Str → Option Value) (is : List Nat) (g : MGs) : TGs := fun vs σ H Q => ∃ ι ρ st ws, Sim K mg ι st H ∧ SlotsOk mg ι H ρ σ ∧ Reps mg ι H ws vs ∧ PostG K mg is ι H σ Q (g ws ρ st)
def JG (X : Cx) (tg : Expr) (vs : List Nat) (g : MG) : Prop := PG X tg (rdT X.K X.mg vs g)
def JGs (X : Cx) (ts : List Expr) (vs : List Nat) (g : MGs) : Prop := PGs X ts (rdTs X.K X.mg vs g)
@[reducible] def gSet (i : Nat) : MG := fun w ρ st => some (ρ.set i (some w), st)
@[reducible] def gsNil : MGs := fun ws ρ st => match ws with
  | [] => some (ρ, st)
  | _ => none
@[reducible] def gsCons (g : MG) (h : MGs) : MGs := fun ws ρ st => match ws with
  | w :: ws => match g w ρ st with
    | some (ρ1, st1) => h ws ρ1 st1
    | none => none
  | [] => none
/-- a, b = a tuple -/
@[reducible] def gTupM (n : Nat) (h : MGs) : MG := fun w ρ st => match w with
  | .tup ws => if ws.length = n then h ws ρ st else none
  | _ => none
section
variable {X : Cx} {pos : Pos} {e : Expr} {es : List Expr} {g : MG} {h : MGs}
theorem PG.weak {tg : Expr} {t t' : TG} (h : PG X tg t) (w : ∀ v σ H Q, t' v σ H Q → t v σ H Q) : PG X tg t' := ⟨fun pins s σ H v u Q I r q => h.run pins s σ H v u Q I r (w v σ H Q q)⟩
theorem PGs.weak {tg : List Expr} {t t' : TGs} (h : PGs X tg t) (w : ∀ v σ H Q, t' v σ H Q → t v σ H Q) : PGs X tg t' := ⟨fun pins s σ H v u Q I r q => h.run pins s σ H v u Q I r (w v σ H Q q)⟩
theorem jg_name {i : Nat} {x : Str} (hN : X.N.Nodup) (hi : X.N[i]? = some x := by rfl) (hx : Loc X.env.scope x := by first | exact .inl rfl | exact .inr rfl) (hf : X.fn x = true ∨ X.env.scope.names.lookup x = some .local := by first | exact .inl rfl | exact .inr rfl | assumption) : JG X (.Name x pos) [i] (gSet i) :=
  PG.weak (pg_name hN hi hx hf) fun v σ H Q ⟨ι, ρ, st, w, S, sl, r, p⟩ => p.same S (sl.set i r) ⟨by simp, fun j hj => List.getElem?_set_ne (fun e => hj (by simp [e]))⟩
theorem jgs_nil : JGs X [] [] gsNil := PGs.weak pgs_nil fun vs σ H Q ⟨ι, ρ, st, ws, S, sl, r, p⟩ => by
  cases ws with
  | nil => exact ⟨r.of_nil, p.same S sl (OutS.refl _ _)⟩
  | cons w ws => exact p.elim
theorem jgs_cons {vs vs2 : List Nat} (h1 : JG X e vs g) (h2 : JGs X es vs2 h) (hs : (assignEach (e :: es) X.env).map (·.2) = assign e X.env :: (assignEach es X.env).map (·.2) := by rfl) : JGs X (e :: es) (vs ++ vs2) (gsCons g h) :=
  PGs.weak (pgs_cons h1 h2 hs) fun us σ H Q ⟨ι, ρ, st, ws, S, sl, r, p⟩ => by
    cases ws with
    | nil => exact p.elim
    | cons w ws =>
      obtain ⟨v, r', e1, r1, r2⟩ := r.of_cons
      refine ⟨v, r', e1, ι, ρ, st, w, S, sl, r1, ?_⟩
      dsimp only [gsCons] at p
      cases q : g w ρ st with
      | none => rw [q] at p; exact p.elim
      | some z =>
        rw [q] at p
        refine fun ι1 H1 σ1 l S1 sl1 o1 => ⟨ι1, z.1, z.2, ws, S1, sl1, r2.later l, ?_⟩
        have p := PostG.later p l
        dsimp only at p
        cases q2 : h ws z.1 z.2 with
        | none => rw [q2] at p; exact p.elim
        | some y =>
          rw [q2] at p
          exact fun ι2 H2 σ2 l2 S2 sl2 o2 => p ι2 H2 σ2 l2 S2 sl2 ((o1.mono fun i hi => List.mem_append_left _ hi).trans (o2.mono fun i hi => List.mem_append_right _ hi))
theorem jg_tup {k n : Nat} {vs : List Nat} (hc : X.calm = true) (hh : JGs X es vs h) (hn : (assignEach es X.env).length = n := by rfl) (hst : (assignEach es X.env).findIdx? (·.1) = none := by rfl) : JG X (.Tuple es k pos) vs (gTupM n h) :=
  PG.weak (pg_tup hc hh hn hst) fun v σ H Q ⟨ι, ρ, st, w, S, sl, r, p⟩ => by
    cases w with
    | tup ws =>
      obtain ⟨a, vs, e1, ha, rr⟩ := r.tup_inv
      dsimp only [gTupM] at p
      split at p
      · rename_i hl
        exact ⟨a, vs, e1, SqT.of ha, by rw [← rr.length]; exact hl, ι, ρ, st, ws, S, sl, rr, p⟩
      · exact p.elim
    | _ => exact p.elim
@[reducible] def sAsg (m : ME) (g : MG) : MS := fun ρ st => (m ρ st).toO ρ fun w st1 => match g w ρ st1 with
  | some (ρ1, st2) => .nx ρ1 st2
  | none => .bad
theorem js_asg {tg : Expr} {m : ME} {vs : List Nat} (he : JE X e m) (hg : JG X tg vs g) (hs : swapsWithSole [tg] e pos.line X.env = pure false := by rfl) (hw : swappedStores [tg] e X.env = pure none := by rfl)
    (h1 : (assignEach [tg] X.env).map (·.2) = [assign tg X.env] := by rfl) : JS X (.Assign [tg] e pos) (sAsg m g) := fun W tk => by
  refine PS.weak (ps_asg (he W tk) hg hs hw h1) fun D σ H ⟨ι, ρ, st, S, sl, p⟩ => ?_
  refine ⟨ι, ρ, st, S, sl, PostO.bind p sl fun w st1 ι1 H1 v l1 S1 r1 p1 => ?_⟩
  refine ⟨ι1, ρ, st1, w, S1, sl.later l1, r1, ?_⟩
  cases q : g w ρ st1 with
  | none => rw [q] at p1; exact p1.elim
  | some z => rw [q] at p1; exact fun ι2 H2 σ2 l2 S2 sl2 _ => p1 ι2 H2 σ2 l2 S2 sl2
/-- a, b = x, y, the names plain locals -/
@[reducible] def sPar (i j : Nat) (t : MA) : MS := fun ρ st => (t ρ st).toO ρ fun ws st1 => match ws with
  | [v, w] => .nx ((ρ.set i (some v)).set j (some w)) st1
  | _ => .bad
theorem js_par {i j : Nat} {x y : Str} {a b : Expr} {t : MA} {px py pt : Pos} {kt k2 pt2} (hc : X.calm = true) (hN : X.N.Nodup) (ha : JA X [a, b] t) (hi : X.N[i]? = some x := by rfl) (hj : X.N[j]? = some y := by rfl) (hij : i ≠ j := by decide)
    (hx : X.env.scope.names.lookup x = some .local := by rfl) (hy : X.env.scope.names.lookup y = some .local := by rfl)
    (hw : swappedStores [.Tuple [.Name x px, .Name y py] kt pt] (.Tuple [a, b] k2 pt2) X.env = pure (some [x, y]) := by rfl)
    (hs : swapsWithSole [.Tuple [.Name x px, .Name y py] kt pt] (.Tuple [a, b] k2 pt2) pos.line X.env = pure false := by rfl) :
    JS X (.Assign [.Tuple [.Name x px, .Name y py] kt pt] (.Tuple [a, b] k2 pt2) pos) (sPar i j t) := fun W tk => by
  refine PS.weak (ps_par hc hN hi hj hij hx hy (ha W tk) hw hs) fun D σ H ⟨ι, ρ, st, S, sl, p⟩ => ?_
  refine ⟨ι, ρ, st, S, sl, PostO.bind p sl fun ws st1 ι1 H1 vs l1 S1 r1 p1 => ?_⟩
  split at p1
  · rename_i v w
    obtain ⟨v', r', e1, q1, q2⟩ := Reps.of_cons r1
    obtain ⟨w', r'', e2, q3, q4⟩ := q2.of_cons
    have e3 := q4.of_nil
    subst e3; subst e2; subst e1
    exact ⟨v', w', rfl, p1.nx_same S1 (((sl.later l1).set i q1).set j q3)⟩
  · exact p1.elim
end

/-! ### what is walked -/
structure IsIt (K : PySem.W.Frag) (mg : Str → Option Value) (items : List Val) (okp : Store → Prop) (ι0 : List Addr) (H0 : Hp) (J : It) : Prop where
  go : ∀ (i : Nat) ι H st, Later ι0 H0 ι H → Sim K mg ι st H → okp st → i < items.length → J.go i H
  yld : ∀ (i : Nat) ι H st x H', Later ι0 H0 ι H → Sim K mg ι st H → okp st → i < items.length → J.yld i H x H' → Later ι H ι H' ∧ Sim K mg ι st H' ∧ ∃ w, items[i]? = some w ∧ Rep mg ι H' w x
  stop : ∀ (i : Nat) ι H st, Later ι0 H0 ι H → Sim K mg ι st H → okp st → i = items.length → J.stop i H
abbrev MI := Slots → Store → R (List Val × (Store → Prop))
abbrev relI (K : PySem.W.Frag) (mg : Str → Option Value) : List Addr → Hp → List Val × (Store → Prop) → It → Prop := fun ι H m J => IsIt K mg m.1 m.2 ι H J
def JI (X : Cx) (tg iter : Expr) (m : MI) : Prop := ∀ W, Takes X W → PI X tg iter (rdG X.K X.mg (relI X.K X.mg) W m)
open Classical in
noncomputable def forM (g : MG) (body : MS) (okp : Store → Prop) : List Val → Slots → Store → O
  | [], ρ, st => if okp st then .nx ρ st else .bad
  | w :: ws, ρ, st => if okp st then match g w ρ st with
      | none => .bad
      | some (ρ1, st1) => match body ρ1 st1 with
        | .nx ρ2 st2 => forM g body okp ws ρ2 st2
        | .ct ρ2 st2 => forM g body okp ws ρ2 st2
        | .brk ρ2 st2 => .nx ρ2 st2
        | o => o
    else .bad
@[reducible] noncomputable def sFor (mi : MI) (g : MG) (body : MS) : MS := fun ρ st => (mi ρ st).toO ρ fun it st1 => forM g body it.2 it.1 ρ st1
section
variable {X : Cx} {pos p : Pos} {iter tg e : Expr} {body : List Stmt} {mi : MI} {g : MG} {mb : MS} {m : ME} {t : MT}
theorem js_for {vs : List Nat} (hp : PassesOwn (model X.prog X.w) X.A X.env X.xe) (hc : X.calm = true) (hi : JI X tg iter mi) (hg : JG X tg vs g) (hb : JSs X body mb)
    (hs : ∀ x, foldedSetIterable iter X.env x = pure x := by intro _; rfl) : JS X (.For tg iter body [] pos) (sFor mi g mb) := fun W tk => by
  refine PS.weak (ps_for hp hc (hi W tk) hg (hb W tk) hs) fun D σ H ⟨ι, ρ, st, S, sl, p⟩ => ?_
  refine ⟨ι, ρ, st, S, sl, PostO.bind p sl fun it st1 ι1 H1 J l1 S1 r1 p1 => ?_⟩
  obtain ⟨items, okp⟩ := it
  have r1 : IsIt X.K X.mg items okp ι1 H1 J := r1
  refine ⟨fun i m σ' H' => ∃ ι' ρ' st', Later ι1 H1 ι' H' ∧ Sim X.K X.mg ι' st' H' ∧ SlotsOk X.mg ι' H' ρ' σ' ∧ m = items.length - i ∧ i ≤ items.length ∧ PostO X.K X.mg W ι' H' D (forM g mb okp (items.drop i) ρ' st'),
    ⟨items.length, ι1, ρ, st1, Later.refl _ _, S1, sl.later l1, by simp, Nat.zero_le _, by simpa using p1⟩, ?_⟩
  rintro i m σ2 H2 ⟨ι2, ρ2, st2, l2, S2, sl2, rfl, hi2, p2⟩
  by_cases hlt : i < items.length
  · rw [List.drop_eq_getElem_cons hlt] at p2
    unfold forM at p2
    split at p2
    · rename_i hok
      refine .inr ⟨r1.go i ι2 H2 st2 l2 S2 hok hlt, fun σ3 H3 => ∃ ι3 ρ3 st3, Later ι1 H1 ι3 H3 ∧ Sim X.K X.mg ι3 st3 H3 ∧ SlotsOk X.mg ι3 H3 ρ3 σ3 ∧ PostO X.K X.mg W ι3 H3 D (forM g mb okp (items.drop (i + 1)) ρ3 st3), ?_, ?_⟩
      · rintro σ3 H3 ⟨ι3, ρ3, st3, l3, S3, sl3, p3⟩
        exact ⟨items.length - (i + 1), by omega, ι3, ρ3, st3, l3, S3, sl3, rfl, hlt, p3⟩
      · intro x H3 hy
        obtain ⟨l3, S3, w, hw, rw_⟩ := r1.yld i ι2 H2 st2 x H3 l2 S2 hok hlt hy
        have hw' : items[i] = w := by rw [List.getElem?_eq_getElem hlt] at hw; exact Option.some.inj hw
        rw [hw'] at p2
        refine ⟨ι2, ρ2, st2, w, S3, sl2.later l3, rw_, ?_⟩
        cases q : g w ρ2 st2 with
        | none => rw [q] at p2; exact p2.elim
        | some z =>
          obtain ⟨ρ4, st4⟩ := z
          rw [q] at p2
          dsimp only at p2
          intro ι4 H4 σ4 l4 S4 sl4 _
          refine ⟨ι4, ρ4, st4, S4, sl4, ?_⟩
          have l14 := (l2.trans l3).trans l4
          have p2 := PostO.later (PostO.later p2 l3) l4
          cases qb : mb ρ4 st4 with
          | nx ρ5 st5 => rw [qb] at p2; exact fun ι5 H5 σ5 l5 S5 sl5 => ⟨ι5, ρ5, st5, l14.trans l5, S5, sl5, PostO.later p2 l5⟩
          | ct ρ5 st5 => rw [qb] at p2; exact fun ι5 H5 σ5 l5 S5 sl5 => ⟨ι5, ρ5, st5, l14.trans l5, S5, sl5, PostO.later p2 l5⟩
          | brk ρ5 st5 => rw [qb] at p2; exact p2
          | ret v5 st5 => rw [qb] at p2; exact p2
          | exc x5 ρ5 st5 => rw [qb] at p2; exact p2
          | bad => rw [qb] at p2; exact p2
    · exact p2.elim
  · have hle : items.length ≤ i := by omega
    rw [List.drop_eq_nil_of_le hle] at p2
    unfold forM at p2
    split at p2
    · rename_i hok
      exact .inl ⟨r1.stop i ι2 H2 st2 l2 S2 hok (by omega), p2.nx_same S2 sl2⟩
    · exact p2.elim

/-- over a list or a tuple -/
theorem isIt_list {K : PySem.W.Frag} {mg : Str → Option Value} {n : Nat} {xs : List Val} {ι : List Addr} {H : Hp} {a : Addr} (ha : ι[n]? = some a) : IsIt K mg xs (fun st => seqAt st n = some xs) ι H (Itl K a) := by
  have at_ : ∀ {ι1 : List Addr} {H1 : Hp} {st : Store}, Later ι H ι1 H1 → Sim K mg ι1 st H1 → seqAt st n = some xs → ∃ vs, SqL K H1 a vs ∧ Reps mg ι1 H1 xs vs := fun l S ok => S.seqL ok (l.get ha)
  refine ⟨fun i ι1 H1 st l S ok hi => ?_, fun i ι1 H1 st x H' l S ok hi hy => ?_, fun i ι1 H1 st l S ok hi => ?_⟩
  · obtain ⟨vs, h1, r⟩ := at_ l S ok
    have hl := r.length
    exact ⟨vs, vs[i], h1, by simp⟩
  · obtain ⟨vs, h1, r⟩ := at_ l S ok
    obtain ⟨e, f⟩ := hy
    subst e
    obtain ⟨w, hw, rr⟩ := r.get' (f vs h1)
    exact ⟨Later.refl _ _, S, w, hw, rr⟩
  · obtain ⟨vs, h1, r⟩ := at_ l S ok
    exact ⟨vs, h1, by rw [← r.length]; exact Nat.le_of_eq hi.symm⟩
theorem isIt_tup {K : PySem.W.Frag} {mg : Str → Option Value} {xs : List Val} {ι : List Addr} {H : Hp} {a : Addr} {vs : List V} (ha : H a = some (.tup vs)) (r : Reps mg ι H xs vs) : IsIt K mg xs (fun _ => True) ι H (Itt K a) := by
  refine ⟨fun i ι1 H1 st l S ok hi => ?_, fun i ι1 H1 st x H' l S ok hi hy => ?_, fun i ι1 H1 st l S ok hi => ?_⟩
  · have hl := r.length
    exact ⟨vs, vs[i], SqT.of (l.tups _ _ ha), by simp⟩
  · obtain ⟨e, f⟩ := hy
    subst e
    obtain ⟨w, hw, rr⟩ := (r.later l).get' (f vs (SqT.of (l.tups _ _ ha)))
    exact ⟨Later.refl _ _, S, w, hw, rr⟩
  · exact ⟨vs, SqT.of (l.tups _ _ ha), by rw [← r.length]; exact Nat.le_of_eq hi.symm⟩
theorem isIt_range {K : PySem.W.Frag} {mg : Str → Option Value} {lo : Int} {n : Nat} {ι : List Addr} {H : Hp} : IsIt K mg ((List.range n).map fun (i : Nat) => Val.int (lo + i)) (fun _ => True) ι H (Itr lo n) := by
  refine ⟨fun i ι1 H1 st l S ok hi => (show i < n by simpa using hi), fun i ι1 H1 st x H' l S ok hi hy => ?_, fun i ι1 H1 st l S ok hi => (show n ≤ i by simp at hi; omega)⟩
  obtain ⟨e1, e2⟩ := hy
  subst e1; subst e2
  have hi : i < n := by simpa using hi
  exact ⟨Later.refl _ _, S, .int (lo + i), by simp [hi], Rep.int⟩
@[reducible] def iRange1 (t : MA) : MI := fun ρ st => (t ρ st).bind fun ws st1 => match ws with
  | [.int j] => if -(2 ^ 62) ≤ j ∧ j < 2 ^ 62 then .ok ((List.range j.toNat).map fun (i : Nat) => Val.int (0 + i), fun _ => True) st1 else .bad
  | _ => .bad
theorem ji_range1 {a : Expr} {t : MA} (hm : X.mg "range" = none) (ha : JA X [a] t) (hg : Gl X "range" := by rfl) (hs : starEach [a] X.env = [(false, eval a X.env)] := by rfl) : JI X tg (.Call (.Name "range" p) [a] [] pos) (iRange1 t) := fun W tk => by
  refine ⟨fun pins s σ H R I hw => (pi_range1 hg hm (ha W tk) hs).run pins s σ H R I ?_⟩
  obtain ⟨ι, ρ, st, S, sl, p⟩ := hw
  refine ⟨ι, ρ, st, S, sl, Post.bind p fun ws st1 ι1 H1 vs l1 S1 r1 p1 => ?_⟩
  split at p1
  · rename_i j
    split at p1
    · rename_i hj
      obtain ⟨v, r, e1, q1, q2⟩ := Reps.of_cons r1
      have e2 := q1.int_inv
      have e3 := q2.of_nil
      subst e1; subst e2; subst e3
      exact ⟨j, rfl, hj.1, hj.2, p1.okSame S1 isIt_range⟩
    · exact p1.elim
  · exact p1.elim
@[reducible] def iRange2 (t : MA) : MI := fun ρ st => (t ρ st).bind fun ws st1 => match ws with
  | [.int i, .int j] => if -(2 ^ 62) ≤ i ∧ i < 2 ^ 62 ∧ -(2 ^ 62) ≤ j ∧ j < 2 ^ 62 then .ok ((List.range (j - i).toNat).map fun (k : Nat) => Val.int (i + k), fun _ => True) st1 else .bad
  | _ => .bad
end
end Ab

set_option Elab.async false
set_option linter.all false
set_option maxRecDepth 100000
/-! Ab: attributes, calls of defs, methods, properties, instances. -/
namespace Ab
open PySem PySem.Spec L2

/-! ### attributes -/
/-- the class of that number: its attribute f is the instance's own -/
def FldOk (K : PySem.W.Frag) (mg : Str → Option Value) (C f : Nat) : Prop := f < nmN ∧ ∀ Ca, mg (nm C) = some (.ref Ca) → Cls K Ca ∧ NoAttr K Ca (nm f)
@[reducible] def vFld (cs : List Nat) (f : Nat) : Val → Store → R Val
  | .ref n, st => match st[n]? with
    | some (.ins C fs) => if C ∈ cs then match fs.lookup f with
        | some w => .ok w st
        | none => .bad
      else .bad
    | _ => .bad
  | _, _ => .bad
@[reducible] def mFld (cs : List Nat) (f : Nat) (m : ME) : ME := fun ρ st => (m ρ st).bind (vFld cs f)
@[reducible] def sFldM (cs : List Nat) (f : Nat) (mo mv : ME) : MS := fun ρ st => (mv ρ st).toO ρ fun w st1 => (mo ρ st1).toO ρ fun x st2 => match x with
  | .ref n => match st2[n]? with
    | some (.ins C fs) => if C ∈ cs ∧ fs.length < 1000 then .nx ρ (st2.set n (.ins C (putM f w fs))) else .bad
    | _ => .bad
  | _ => .bad
@[reducible] def sFldAugM (cs : List Nat) (f : Nat) (g : Val → Val → Store → R Val) (mo mv : ME) : MS := fun ρ st => (mo ρ st).toO ρ fun x st1 => match x with
  | .ref n => match st1[n]? with
    | some (.ins C fs) => if C ∈ cs then match fs.lookup f with
        | some w => (mv ρ st1).toO ρ fun y st2 => (g w y st2).toO ρ fun z st3 => match st3[n]? with
          | some (.ins C' fs') => if C' = C ∧ fs'.length < 1000 then .nx ρ (st3.set n (.ins C (putM f z fs'))) else .bad
          | _ => .bad
        | none => .bad
      else .bad
    | _ => .bad
  | _ => .bad
theorem Sim.putIns {K : PySem.W.Frag} {mg : Str → Option Value} {ι : List Addr} {st : Store} {H : Hp} (S : Sim K mg ι st H) {n C f : Nat} {fs : List (Nat × Val)} (h : st[n]? = some (.ins C fs)) {a Ca dx : Addr} (ha : ι[n]? = some a) {vs : List (Str × V)} (hH : H a = some (.ins Ca dx vs)) (hC : mg (nm C) = some (.ref Ca))
    (r : RepF mg ι H fs vs) (hf : f < nmN) {w : Val} {v : V} (rw_ : Rep mg ι H w v) : Sim K mg ι (st.set n (.ins C (putM f w fs))) (upd H a (.ins Ca dx (putF (nm f) v vs))) ∧ Later ι H ι (upd H a (.ins Ca dx (putF (nm f) v vs))) := by
  refine S.write h ha rfl rfl hH (fun _ e => by cases e) (fun _ _ e => by cases e) ⟨Ca, dx, _, hC, upd_same, ?_⟩
  refine (r.put hf rw_).later ⟨⟨[], by simp⟩, fun b xs e => ?_⟩
  rw [upd_ne fun q => by subst q; rw [hH] at e; cases e]
  exact e
section
variable {X : Cx} {e o value : Expr} {m mo mv : ME} {pos pos' : Pos} {cs : List Nat} {f : Nat} {fN : Str}
theorem je_fld (hc : ∀ C ∈ cs, FldOk X.K X.mg C f) (he : JE X e m) (hn : fN = nm f := by decide +kernel) (hb : attributeBase e fN X.env (eval e X.env) = eval e X.env := by rfl) : JE X (.Attribute e fN pos) (mFld cs f m) := fun W tk => by
  subst hn
  refine PE.weak (pe_fld (he W tk) hb) fun σ H Q ⟨ι, ρ, st, S, sl, p⟩ => ?_
  refine ⟨ι, ρ, st, S, sl, Post.bind p fun w st1 ι1 H1 x l1 S1 r1 p1 => ?_⟩
  cases w with
  | ref n =>
    obtain ⟨a, e1, ha⟩ := r1.ref_inv
    dsimp only [vFld] at p1
    split at p1
    · rename_i C fs ec
      split at p1
      · rename_i hC
        obtain ⟨Ca, dx, vs, e2, e3, rf⟩ := S1.at ec ha
        obtain ⟨hf, hk⟩ := hc C hC
        obtain ⟨c1, c2⟩ := hk Ca e2
        cases q : fs.lookup f with
        | none => rw [q] at p1; exact p1.elim
        | some w =>
          rw [q] at p1
          obtain ⟨v, hv, rv⟩ := rf.lookup hf q
          exact ⟨a, Ca, dx, vs, v, e1, e3, c1, c2, hv, p1.okSame S1 rv⟩
      · exact p1.elim
    · exact p1.elim
  | _ => exact p1.elim
theorem js_fld (hc : ∀ C ∈ cs, FldOk X.K X.mg C f) (ho : JE X o mo) (hv : JE X value mv) (hn : fN = nm f := by decide +kernel) (hs : swapsWith value (some (.Attribute o fN pos')) pos.line X.env = pure false := by rfl) : JS X (.Assign [.Attribute o fN pos'] value pos) (sFldM cs f mo mv) := fun W tk => by
  subst hn
  refine PS.weak (ps_fld (ho W tk) (hv W tk) hs) fun D σ H ⟨ι, ρ, st, S, sl, p⟩ => ?_
  refine ⟨ι, ρ, st, S, sl, PostO.bind p sl fun w st1 ι1 H1 y l1 S1 r1 p1 => ?_⟩
  have sl1 := sl.later l1
  refine ⟨ι1, ρ, st1, S1, sl1, PostO.bind p1 sl1 fun x st2 ι2 H2 xv l2 S2 r2 p2 => ?_⟩
  cases x with
  | ref n =>
    obtain ⟨a, e1, ha⟩ := r2.ref_inv
    dsimp only at p2
    split at p2
    · rename_i C fs ec
      split at p2
      · rename_i hC
        obtain ⟨Ca, dx, vs, e2, e3, rf⟩ := S2.at ec ha
        obtain ⟨hf, hk⟩ := hc C hC.1
        obtain ⟨c1, c2⟩ := hk Ca e2
        obtain ⟨S3, l3⟩ := S2.putIns ec ha e3 e2 rf hf (Rep.later l2 r1)
        exact ⟨a, Ca, dx, vs, e1, e3, c1, c2, by rw [← rf.length]; exact hC.2, p2 ι2 _ σ l3 S3 ((sl1.later l2).later l3)⟩
      · exact p2.elim
    · exact p2.elim
  | _ => exact p2.elim
end

/-! ### defs -/
/-- the promise: what the mirror computes -/
def spM (K : PySem.W.Frag) (mg : Str → Option Value) (f : MF) : Sp := fun vs H Q E => ∃ ι ws st, Sim K mg ι st H ∧ Reps mg ι H ws vs ∧ Post K mg (rel1 mg) ι H Q E (f ws st)
/-- what a call asks: where one stands -/
structure Wh where
  P : Program
  w : World
  K : PySem.W.Frag
  mg : Str → Option Value
  base : Heap
@[reducible] def Cx.wh (X : Cx) : Wh := ⟨X.prog, X.w, X.K, X.mg, X.base⟩
/-- at f stands a def that keeps the mirror's promise -/
def FnM (T : Wh) (k n : Nat) (f : Addr) (mf : MF) : Prop := ∃ fd ps, ps.length = n ∧ PySem.W.keepIn T.K (.ref f) = true ∧ Binds T.K fd ps [] ∧ FnOk T.P T.w T.K T.mg T.base (L2.CX T.P T.w) k f fd ps (spM T.K T.mg mf)
def Has (T : Wh) (x : Str) (k n : Nat) (mf : MF) : Prop := ∃ f, T.mg x = some (.ref f) ∧ FnM T k n f mf
/-- the class of that number has the method -/
def HasM (T : Wh) (C : Nat) (m : Str) (k n : Nat) (mf : MF) : Prop := m ∉ nmT ∧ ∀ Ca, T.mg (nm C) = some (.ref Ca) → ∃ f, Cls T.K Ca ∧ Meth T.K Ca m f ∧ FnM T k n f mf
def HasP (T : Wh) (C : Nat) (m : Str) (k : Nat) (mf : MF) : Prop := ∀ Ca, T.mg (nm C) = some (.ref Ca) → ∃ p f, Cls T.K Ca ∧ PropOf T.K Ca m p f ∧ FnM T k 1 f mf
/-- the class can be made by an __init__ -/
def HasI (T : Wh) (C : Nat) (k n : Nat) (mf : MF) : Prop := ∃ Ca f, T.mg (nm C) = some (.ref Ca) ∧ Mk T.K Ca f ∧ FnM T k n f mf
section
variable {X : Cx} {k n : Nat} {f C : Addr} {fd : FuncData} {ps : List Str} {sp : Sp} {E : L2.St → XK} {x m : Str} {p pos apos : Pos} {e o : Expr} {es : List Expr} {ta : TE} {t : TA} {CX : CXT}
def tMethS (C : Addr) (m : Str) (sp : Sp) (E : L2.St → XK) (ta : TE) (t : TA) : TE := fun σ H Q => ta σ H fun x H1 => ∃ a dx fs, x = .ref a ∧ H1 a = some (.ins C dx fs) ∧ fs.lookup m = none ∧
  t σ H1 fun vs H2 => sp (x :: vs) H2 Q (E σ)
theorem pe_methS {pl : Sem Bool} (he : PE X o ta) (c : Cls X.K C) (hm : Meth X.K C m f) (F : FnOk X.prog X.w X.K X.mg X.base CX k f fd ps sp) (hr : Room k X.A) (hb : Binds X.K fd ps []) (hx : ∀ σ, PassesAt CX X σ (E σ)) (ha : PA X (e :: es) t)
    (hst : starEach (e :: es) X.env = (false, eval e X.env) :: starEach es X.env := by rfl) (hpl : (backTo pos (starEach es X.env)).any (·.1) = false := by rfl)
    (ht : eval (.Call (.Attribute o m apos) (e :: es) [] pos) X.env = (do
      let ov ← eval o X.env
      standAt apos.atName
      let (f, first) ← holding [ov] (getMethod ov m pl)
      callWith pos f first (backTo pos (starEach (e :: es) X.env)) (backToKw pos (keywordEach [] X.env))) := by rfl) :
    PE X (.Call (.Attribute o m apos) (e :: es) [] pos) (tMethS C m sp E ta t) := by
  refine ⟨fun pins s σ H Q I h => ?_⟩
  refine PySem.W.methodCall_KW (pl := pl) (thn (he.run pins s σ H _ I h) fun u s1 ⟨x, H1, I1, rx, a, dx, fs, ex, ea, l, q⟩ => ?_) ht
  subst ex
  obtain rfl : u = Value.ref a := rx
  refine getmeth_ok I1 ea c hm l ?_
  refine PySem.W.callWith_K (first := [.ref a]) (h₀ := X.base) I.ok.mod.kin hm.kp (thn (ha.run pos pins s1 σ H1 _ I1 q) fun us s2 ⟨vs, H2, I2, r, q2⟩ => ⟨I2.kIn, ?_⟩) hst hpl
  exact run_fnS (us := .ref a :: us) (vs := .ref a :: vs) F hr hb (hx σ) I2 (.cons rfl r) q2
theorem pe_meth0S {pl : Sem Bool} (he : PE X o ta) (c : Cls X.K C) (hm : Meth X.K C m f) (F : FnOk X.prog X.w X.K X.mg X.base CX k f fd ps sp) (hr : Room k X.A) (hb : Binds X.K fd ps []) (hx : ∀ σ, PassesAt CX X σ (E σ))
    (ht : eval (.Call (.Attribute o m apos) [] [] pos) X.env = (do
      let ov ← eval o X.env
      standAt apos.atName
      let (f, first) ← holding [ov] (getMethod ov m pl)
      callWith pos f first (backTo pos (starEach [] X.env)) (backToKw pos (keywordEach [] X.env))) := by rfl) :
    PE X (.Call (.Attribute o m apos) [] [] pos) (tMethS C m sp E ta tNil) := by
  refine ⟨fun pins s σ H Q I h => ?_⟩
  refine PySem.W.methodCall_KW (pl := pl) (thn (he.run pins s σ H _ I h) fun u s1 ⟨x, H1, I1, rx, a, dx, fs, ex, ea, l, q⟩ => ?_) ht
  subst ex
  obtain rfl : u = Value.ref a := rx
  refine getmeth_ok I1 ea c hm l ?_
  exact PySem.W.callWith_K0 (first := [.ref a]) I1.kIn hm.kp (run_fnS (us := [.ref a]) (vs := [.ref a]) F hr hb (hx σ) I1 (.cons rfl .nil) q)
def tMakeS (C : Addr) (sp : Sp) (E : L2.St → XK) (t : TA) : TE := fun σ H Q => t σ H fun vs H1 => ∀ x dx, H1 x = none → H1 dx = none → dx ≠ x →
  sp (.ref x :: vs) (upd (upd H1 dx (.own x)) x (.ins C dx [])) (fun v H2 => v = .non ∧ Q (.ref x) H2) (E σ)
theorem run_makeS {pins : List (Addr × Obj)} {σ : L2.St} {H : Hp} {s : Shared} {Q : VK} {us : List Value} {vs : List V} (M : Mk X.K C f) (F : FnOk X.prog X.w X.K X.mg X.base CX k f fd ps sp) (hr : Room (k + 1) X.A) (hb : Binds X.K fd ps [])
    (hx : PassesAt CX X σ (E σ)) (I : Inv X pins σ H s) (r : Vals vs us)
    (h : ∀ x dx, H x = none → H dx = none → dx ≠ x → sp (.ref x :: vs) (upd (upd H dx (.own x)) x (.ins C dx [])) (fun v H2 => v = .non ∧ Q (.ref x) H2) (E σ)) :
    wpAny (model X.prog X.w) X.A (call (.ref C) us) (EP X pins σ Q) X.xe s := by
  have hq := h (s.heap.objs.size + 1) s.heap.objs.size (I.hok.fresh (Nat.le_succ _)) (I.hok.fresh (Nat.le_refl _)) (Nat.ne_of_lt (Nat.lt_succ_self _))
  have I2 := Inv.made (C := C) I
  have r2 : Vals (V.ref (s.heap.objs.size + 1) :: vs) (Value.ref (s.heap.objs.size + 1) :: us) := .cons rfl r
  have hl : (Value.ref (s.heap.objs.size + 1) :: us).length = ps.length := by
    have e := r2.length
    rw [F.len _ _ _ _ hq] at e
    exact e.symm
  have b := hb { s with heap := (s.heap.push PySem.W.emptyDict).push (PySem.W.instObj C s.heap.objs.size) } (Value.ref (s.heap.objs.size + 1) :: us) I2.kIn (by rw [List.append_nil]; exact hl)
  rw [List.append_nil] at b
  refine wpAny_call (make_map (f := f) I.kIn M.makes M.init (beq_iff_eq.mp M.fn) (codeAny_mono (F.run _ X.stack _ _ ⟨Value.ref (s.heap.objs.size + 1) :: us, []⟩ (Value.ref (s.heap.objs.size + 1) :: us) _ _ (E σ) (hr.make C us [])
    (I2.env0.make C us []) b r2 hq) fun r s' hq' => ?_))
  cases r with
  | error e => exact hx pins _ _ e s' I2 hq'
  | ok fl =>
    cases fl with
    | ret u =>
      obtain ⟨v, H', I3, rv, ev, q3⟩ := I2.after hq'
      subst ev
      exact ⟨rv, ⟨V.ref (s.heap.objs.size + 1), H', I3, rfl, q3⟩⟩
    | next => exact False.elim hq'
    | brk => exact False.elim hq'
    | cont => exact False.elim hq'
theorem pe_makeS (M : Mk X.K C f) (F : FnOk X.prog X.w X.K X.mg X.base CX k f fd ps sp) (hr : Room (k + 1) X.A) (hg : Gl X x) (hm : X.mg x = some (.ref C)) (hb : Binds X.K fd ps []) (hx : ∀ σ, PassesAt CX X σ (E σ))
    (ha : PA X (e :: es) t) (hdb : (x == ("__debug__" : Str)) = false := by decide) (he : starEach (e :: es) X.env = (false, eval e X.env) :: starEach es X.env := by rfl) (hpl : (backTo pos (starEach es X.env)).any (·.1) = false := by rfl) :
    PE X (.Call (.Name x p) (e :: es) [] pos) (tMakeS C sp E t) := by
  refine ⟨fun pins s σ H Q I h => ?_⟩
  refine PySem.wpAny_Call_Name_kw (ld_glob I hg hm ?_ hdb)
  refine PySem.W.callWith_K (h₀ := X.base) I.ok.mod.kin M.kp (thn (ha.run pos pins s σ H _ I h) fun us s1 ⟨vs, H1, I1, r, q⟩ => ⟨I1.kIn, ?_⟩) he hpl
  exact run_makeS M F hr hb (hx σ) I1 r q
end
section
variable {X : Cx} {k n : Nat} {x m : Str} {p pos apos : Pos} {e o : Expr} {es : List Expr} {t : MA} {mf : MF} {mo : ME}
theorem call_read {W : WX} {σ : L2.St} {H : Hp} {Q : VK} (h : rdG X.K X.mg (rel1 X.mg) W (mApp mf t) σ H Q) : tCallS (spM X.K X.mg mf) (WE W) (rdG X.K X.mg (relL X.mg) W t) σ H Q := by
  obtain ⟨ι, ρ, st, S, sl, p⟩ := h
  exact ⟨ι, ρ, st, S, sl, Post.bind p fun ws st1 ι1 H1 vs l1 S1 r1 p1 => ⟨ι1, ws, st1, S1, r1, p1⟩⟩
/-- f(..) -/
theorem je_call (h : Has (Cx.wh X) x k n mf) (hr : Room k X.A) (ha : JA X (e :: es) t) (hg : Gl X x := by rfl) (hdb : (x == ("__debug__" : Str)) = false := by decide) (he : starEach (e :: es) X.env = (false, eval e X.env) :: starEach es X.env := by rfl)
    (hpl : (backTo pos (starEach es X.env)).any (·.1) = false := by rfl) : JE X (.Call (.Name x p) (e :: es) [] pos) (mApp mf t) := fun W tk => by
  obtain ⟨f, hm, fd, ps, hl, hk, hb, F⟩ := h
  exact PE.weak (pe_callS (E := WE W) F hr hg hm hk hb (passAt tk) (ha W tk) hdb he hpl) fun σ H Q h => call_read h
/-- o.m(..): by the class of the object -/
@[reducible] def clsAt (st : Store) : Val → Option Nat
  | .ref n => match st[n]? with
    | some (.ins C _) => some C
    | _ => none
  | _ => none
@[reducible] def mMeth (tbl : List (Nat × MF)) (mo : ME) (t : MA) : ME := fun ρ st => (mo ρ st).bind fun x st1 => match clsAt st1 x with
  | some C => match tbl.lookup C with
    | some mf => (t ρ st1).bind fun ws st2 => mf (x :: ws) st2
    | none => .bad
  | none => .bad
theorem clsAt_some {st : Store} {x : Val} {C : Nat} (h : clsAt st x = some C) : ∃ n fs, x = .ref n ∧ st[n]? = some (.ins C fs) := by
  unfold clsAt at h
  split at h
  · rename_i n
    split at h
    · rename_i C' fs e
      cases h
      exact ⟨n, fs, rfl, e⟩
    · cases h
  · cases h
theorem lookup_mem {β : Type} {tbl : List (Nat × β)} {C : Nat} {b : β} (h : tbl.lookup C = some b) : (C, b) ∈ tbl := by
  induction tbl with
  | nil => cases h
  | cons p r ih =>
    obtain ⟨i, u⟩ := p
    rw [List.lookup_cons] at h
    by_cases q : C = i
    · subst q
      simp only [beq_self_eq_true] at h
      cases h
      exact List.mem_cons_self
    · rw [show (C == i) = false from beq_eq_false_iff_ne.mpr q] at h
      exact List.mem_cons_of_mem _ (ih h)
theorem meth_read {W : WX} {σ : L2.St} {H : Hp} {Q : VK} {ι : List Addr} {ρ : Slots} {st st1 : Store} {x : Val} {C : Nat} {Ca : Addr} (S : Sim X.K X.mg ι st H) (sl : SlotsOk X.mg ι H ρ σ) (h1 : mo ρ st = .ok x st1) (h2 : clsAt st1 x = some C) (hC : X.mg (nm C) = some (.ref Ca)) (hm : m ∉ nmT)
    (p : Post X.K X.mg (rel1 X.mg) ι H Q (fun c d H' => W c d σ H') ((t ρ st1).bind fun ws st2 => mf (x :: ws) st2)) :
    tMethS Ca m (spM X.K X.mg mf) (WE W) (rdG X.K X.mg (rel1 X.mg) W mo) (rdG X.K X.mg (relL X.mg) W t) σ H Q := by
  refine ⟨ι, ρ, st, S, sl, ?_⟩
  rw [h1]
  intro ι1 H1 v l1 S1 r1
  obtain ⟨n, fs, e, ec⟩ := clsAt_some h2
  subst e
  obtain ⟨a, e1, ha⟩ := Rep.ref_inv r1
  obtain ⟨Ca', dx, vs, e2, e3, rf⟩ := S1.at ec ha
  rw [hC] at e2
  cases e2
  refine ⟨a, dx, vs, e1, e3, rf.lookup_other hm, ι1, ρ, st1, S1, sl.later l1, Post.bind (Post.later p l1) fun ws st2 ι2 H2 us l2 S2 r2 p2 => ?_⟩
  exact ⟨ι2, _, st2, S2, Reps.cons (Rep.later l2 r1) r2, p2⟩
theorem je_meth {tbl : List (Nat × MF)} {pl : Sem Bool} (h : ∀ C mf, (C, mf) ∈ tbl → (∃ Ca, X.mg (nm C) = some (.ref Ca)) ∧ HasM (Cx.wh X) C m k n mf) (hne : tbl ≠ []) (hr : Room k X.A) (ho : JE X o mo) (ha : JA X (e :: es) t)
    (hst : starEach (e :: es) X.env = (false, eval e X.env) :: starEach es X.env := by rfl) (hpl : (backTo pos (starEach es X.env)).any (·.1) = false := by rfl)
    (ht : eval (.Call (.Attribute o m apos) (e :: es) [] pos) X.env = (do
      let ov ← eval o X.env
      standAt apos.atName
      let (f, first) ← holding [ov] (getMethod ov m pl)
      callWith pos f first (backTo pos (starEach (e :: es) X.env)) (backToKw pos (keywordEach [] X.env))) := by rfl) :
    JE X (.Call (.Attribute o m apos) (e :: es) [] pos) (mMeth tbl mo t) := fun W tk => by
  refine ⟨fun pins s σ H Q I hw => ?_⟩
  obtain ⟨ι, ρ, st, S, sl, p⟩ := hw
  have use : ∀ C mf Ca, (C, mf) ∈ tbl → X.mg (nm C) = some (.ref Ca) → (∃ g, tMethS Ca m (spM X.K X.mg g) (WE W) (rdG X.K X.mg (rel1 X.mg) W mo) (rdG X.K X.mg (relL X.mg) W t) σ H Q ∧ g = mf) → wpAny (model X.prog X.w) X.A (eval (.Call (.Attribute o m apos) (e :: es) [] pos) X.env) (EP X pins σ Q) X.xe s := by
    rintro C mf Ca hmem hC ⟨g, hg, rfl⟩
    obtain ⟨_, _, hk⟩ := h C g hmem
    obtain ⟨f, c, hM, fd, ps, hl, hk, hb, F⟩ := hk Ca hC
    exact (pe_methS (E := WE W) (ho W tk) c hM F hr hb (passAt tk) (ha W tk) hst hpl ht).run pins s σ H Q I hg
  cases q : mo ρ st with
  | bad => dsimp only [mMeth] at p; rw [q] at p; exact p.elim
  | exc x st1 =>
    dsimp only [mMeth] at p; rw [q] at p
    cases tbl with
    | nil => exact absurd rfl hne
    | cons b r =>
      obtain ⟨C, mf⟩ := b
      obtain ⟨⟨Ca, hC⟩, _⟩ := h C mf List.mem_cons_self
      exact use C mf Ca List.mem_cons_self hC ⟨mf, ⟨ι, ρ, st, S, sl, by rw [q]; exact p⟩, rfl⟩
  | ok x st1 =>
    dsimp only [mMeth] at p; rw [q] at p
    dsimp only [R.bind] at p
    cases qc : clsAt st1 x with
    | none => rw [qc] at p; exact p.elim
    | some C =>
      rw [qc] at p
      dsimp only at p
      cases ql : tbl.lookup C with
      | none => rw [ql] at p; exact p.elim
      | some mf =>
        rw [ql] at p
        dsimp only at p
        have hmem := lookup_mem ql
        obtain ⟨⟨Ca, hC⟩, hm, _⟩ := h C mf hmem
        exact use C mf Ca hmem hC ⟨mf, meth_read S sl q qc hC hm p, rfl⟩
theorem je_meth0 {tbl : List (Nat × MF)} {pl : Sem Bool} (h : ∀ C mf, (C, mf) ∈ tbl → (∃ Ca, X.mg (nm C) = some (.ref Ca)) ∧ HasM (Cx.wh X) C m k n mf) (hne : tbl ≠ []) (hr : Room k X.A) (ho : JE X o mo)
    (ht : eval (.Call (.Attribute o m apos) [] [] pos) X.env = (do
      let ov ← eval o X.env
      standAt apos.atName
      let (f, first) ← holding [ov] (getMethod ov m pl)
      callWith pos f first (backTo pos (starEach [] X.env)) (backToKw pos (keywordEach [] X.env))) := by rfl) :
    JE X (.Call (.Attribute o m apos) [] [] pos) (mMeth tbl mo aNil) := fun W tk => by
  refine ⟨fun pins s σ H Q I hw => ?_⟩
  obtain ⟨ι, ρ, st, S, sl, p⟩ := hw
  have use : ∀ C mf Ca, (C, mf) ∈ tbl → X.mg (nm C) = some (.ref Ca) → tMethS Ca m (spM X.K X.mg mf) (WE W) (rdG X.K X.mg (rel1 X.mg) W mo) tNil σ H Q → wpAny (model X.prog X.w) X.A (eval (.Call (.Attribute o m apos) [] [] pos) X.env) (EP X pins σ Q) X.xe s := by
    intro C mf Ca hmem hC hg
    obtain ⟨_, _, hk⟩ := h C mf hmem
    obtain ⟨f, c, hM, fd, ps, hl, hk, hb, F⟩ := hk Ca hC
    exact (pe_meth0S (E := WE W) (ho W tk) c hM F hr hb (passAt tk) ht).run pins s σ H Q I hg
  cases q : mo ρ st with
  | bad => dsimp only [mMeth] at p; rw [q] at p; exact p.elim
  | exc x st1 =>
    dsimp only [mMeth] at p; rw [q] at p
    cases tbl with
    | nil => exact absurd rfl hne
    | cons b r =>
      obtain ⟨C, mf⟩ := b
      obtain ⟨⟨Ca, hC⟩, _⟩ := h C mf List.mem_cons_self
      exact use C mf Ca List.mem_cons_self hC ⟨ι, ρ, st, S, sl, by rw [q]; exact p⟩
  | ok x st1 =>
    dsimp only [mMeth] at p; rw [q] at p
    dsimp only [R.bind] at p
    cases qc : clsAt st1 x with
    | none => rw [qc] at p; exact p.elim
    | some C =>
      rw [qc] at p
      dsimp only at p
      cases ql : tbl.lookup C with
      | none => rw [ql] at p; exact p.elim
      | some mf =>
        rw [ql] at p
        dsimp only at p
        have hmem := lookup_mem ql
        obtain ⟨⟨Ca, hC⟩, hm, _⟩ := h C mf hmem
        refine use C mf Ca hmem hC ⟨ι, ρ, st, S, sl, ?_⟩
        rw [q]
        intro ι1 H1 v l1 S1 r1
        obtain ⟨n, fs, e, ec⟩ := clsAt_some qc
        subst e
        obtain ⟨a, e1, ha⟩ := Rep.ref_inv r1
        obtain ⟨Ca', dx, vs, e2, e3, rf⟩ := S1.at ec ha
        rw [hC] at e2
        cases e2
        exact ⟨a, dx, vs, e1, e3, rf.lookup_other hm, ι1, _, st1, S1, Reps.cons r1 Reps.nil, Post.later p l1⟩
/-- o.f, a property -/
@[reducible] def mProp (tbl : List (Nat × MF)) (mo : ME) : ME := fun ρ st => (mo ρ st).bind fun x st1 => match clsAt st1 x with
  | some C => match tbl.lookup C with
    | some mf => match mf [x] st1 with
      | .exc _ _ => .bad
      | r => r
    | none => .bad
  | none => .bad
theorem je_prop {tbl : List (Nat × MF)} (h : ∀ C mf, (C, mf) ∈ tbl → (∃ Ca, X.mg (nm C) = some (.ref Ca)) ∧ HasP (Cx.wh X) C m k mf) (hne : tbl ≠ []) (hr : Room (k + 1) X.A) (ho : JE X o mo)
    (hab : attributeBase o m X.env (eval o X.env) = eval o X.env := by rfl) : JE X (.Attribute o m pos) (mProp tbl mo) := fun W tk => by
  refine ⟨fun pins s σ H Q I hw => ?_⟩
  obtain ⟨ι, ρ, st, S, sl, p⟩ := hw
  have use : ∀ C mf Ca, (C, mf) ∈ tbl → X.mg (nm C) = some (.ref Ca) → tProp Ca (spM X.K X.mg mf) [] E0 (rdG X.K X.mg (rel1 X.mg) W mo) σ H Q → wpAny (model X.prog X.w) X.A (eval (.Attribute o m pos) X.env) (EP X pins σ Q) X.xe s := by
    intro C mf Ca hmem hC hg
    obtain ⟨_, hk⟩ := h C mf hmem
    obtain ⟨q, f, c, hP, fd, ps, hl, hk, hb, F⟩ := hk Ca hC
    exact (pe_prop (ho W tk) c hP F hr hb .nil passL hab).run pins s σ H Q I hg
  cases q : mo ρ st with
  | bad => dsimp only [mProp] at p; rw [q] at p; exact p.elim
  | exc x st1 =>
    dsimp only [mProp] at p; rw [q] at p
    cases tbl with
    | nil => exact absurd rfl hne
    | cons b r =>
      obtain ⟨C, mf⟩ := b
      obtain ⟨⟨Ca, hC⟩, _⟩ := h C mf List.mem_cons_self
      exact use C mf Ca List.mem_cons_self hC ⟨ι, ρ, st, S, sl, by rw [q]; exact p⟩
  | ok x st1 =>
    dsimp only [mProp] at p; rw [q] at p
    dsimp only [R.bind] at p
    cases qc : clsAt st1 x with
    | none => rw [qc] at p; exact p.elim
    | some C =>
      rw [qc] at p
      dsimp only at p
      cases ql : tbl.lookup C with
      | none => rw [ql] at p; exact p.elim
      | some mf =>
        rw [ql] at p
        dsimp only at p
        have hmem := lookup_mem ql
        obtain ⟨⟨Ca, hC⟩, _⟩ := h C mf hmem
        refine use C mf Ca hmem hC ⟨ι, ρ, st, S, sl, ?_⟩
        rw [q]
        intro ι1 H1 v l1 S1 r1
        obtain ⟨n, fs, e, ec⟩ := clsAt_some qc
        subst e
        obtain ⟨a, e1, ha⟩ := Rep.ref_inv r1
        obtain ⟨Ca', dx, vs, e2, e3, rf⟩ := S1.at ec ha
        rw [hC] at e2
        cases e2
        refine ⟨a, dx, vs, e1, e3, ι1, _, st1, S1, Reps.cons (by rw [← e1]; exact r1) Reps.nil, ?_⟩
        cases qm : mf [.ref n] st1 with
        | ok w s => rw [qm] at p; exact Post.later p l1
        | exc x s => rw [qm] at p; exact p.elim
        | bad => rw [qm] at p; exact p.elim
/-- C(..) -/
@[reducible] def vMake (C : Nat) (mf : MF) : MF := fun ws st => (mf (.ref st.length :: ws) (st ++ [.ins C []])).bind fun v st1 => match v with
  | .non => .ok (.ref st.length) st1
  | _ => .bad
theorem make_sim {K : PySem.W.Frag} {mg : Str → Option Value} {ι : List Addr} {st : Store} {H : Hp} (S : Sim K mg ι st H) {C : Nat} {Ca x dx : Addr} (hC : mg (nm C) = some (.ref Ca)) (hx : H x = none) (hd : H dx = none) (ne : dx ≠ x) :
    Sim K mg (ι ++ [x]) (st ++ [.ins C []]) (upd (upd H dx (.own x)) x (.ins Ca dx [])) ∧ Later ι H (ι ++ [x]) (upd (upd H dx (.own x)) x (.ins Ca dx [])) :=
  S.push hx ((same_new (o := .own x) hd).trans (same_new (by rw [upd_ne (Ne.symm ne)]; exact hx))) ⟨Ca, dx, [], hC, upd_same, .nil⟩
theorem je_make {C : Nat} (h : HasI (Cx.wh X) C k n mf) (hx : x = nm C) (hr : Room (k + 1) X.A) (ha : JA X (e :: es) t) (hg : Gl X x := by rfl) (hdb : (x == ("__debug__" : Str)) = false := by decide) (he : starEach (e :: es) X.env = (false, eval e X.env) :: starEach es X.env := by rfl)
    (hpl : (backTo pos (starEach es X.env)).any (·.1) = false := by rfl) : JE X (.Call (.Name x p) (e :: es) [] pos) (mApp (vMake C mf) t) := fun W tk => by
  obtain ⟨Ca, f, hC, M, fd, ps, hl, hk, hb, F⟩ := h
  refine PE.weak (pe_makeS (E := WE W) M F hr hg (by rw [hx]; exact hC) hb (passAt tk) (ha W tk) hdb he hpl) fun σ H Q ⟨ι, ρ, st, S, sl, p⟩ => ?_
  refine ⟨ι, ρ, st, S, sl, Post.bind p fun ws st1 ι1 H1 vs l1 S1 r1 p1 => fun q dx hq hdx ne => ?_⟩
  obtain ⟨S2, l2⟩ := make_sim S1 hC hq hdx ne
  refine ⟨_, _, _, S2, Reps.cons (Rep.ref (n := st1.length) (a := q) ?_) (Reps.later l2 r1), Post.bind (Post.later p1 l2) fun w st3 ι3 H3 v l3 S3 r3 p3 => ?_⟩
  · rw [← S1.len, List.getElem?_append_right (Nat.le_refl _)]; simp
  · cases w with
    | non =>
      refine ⟨r3.non_inv, p3.okSame S3 (Rep.ref ?_)⟩
      refine l3.get ?_
      rw [← S1.len, List.getElem?_append_right (Nat.le_refl _)]; simp
    | _ => exact p3.elim
end

/-! ### a def's body -/
@[reducible] def O.fin (o : O) : R Val := match o with
  | .nx _ st => .ok .non st
  | .ret w st => .ok w st
  | .exc x _ st => .exc x st
  | _ => .bad
/-- the def with n parameters and m further names -/
def defM (n m : Nat) (body : MS) : MF := fun ws st => if ws.length = n then (body (ws.map some ++ List.replicate m none) st).fin else .bad
theorem defM_eq {n m : Nat} {body : MS} {ws : List Val} {st : Store} (h : ws.length = n) : defM n m body ws st = (body (ws.map some ++ List.replicate m none) st).fin := if_pos h
theorem slots_start {mg : Str → Option Value} {ι : List Addr} {H : Hp} {ws : List Val} {vs : List V} (r : Reps mg ι H ws vs) {N : List Str} {m : Nat} (hN : N.length = ws.length + m) : SlotsOk mg ι H (ws.map some ++ List.replicate m none) (L2.start N vs) := by
  have hl := r.length
  refine ⟨by unfold L2.start; simp [hl]; omega, fun i w e => ?_⟩
  by_cases hi : i < ws.length
  · rw [List.getElem?_append_left (by simpa using hi), List.getElem?_map] at e
    cases q : ws[i]? with
    | none => rw [q] at e; cases e
    | some u =>
      rw [q] at e
      cases e
      obtain ⟨v, ev, rv⟩ := r.get q
      exact ⟨v, by unfold L2.start; rw [List.getElem?_append_left (by simp; omega), List.getElem?_map, ev]; rfl, rv⟩
  · rw [List.getElem?_append_right (by simpa using hi), List.getElem?_replicate] at e
    split at e <;> cases e
end Ab

set_option Elab.async false
set_option linter.all false
set_option maxRecDepth 100000
/-! Ab: list comprehensions; built-in functions and methods. -/
namespace Ab
open PySem PySem.Spec L2

/-- code that is never reached -/
@[reducible] def mBad : ME := fun _ _ => .bad
@[reducible] def sBad : MS := fun _ _ => .bad
theorem jss_never {X : Cx} {s : List Stmt} : JSs X s sBad := fun W tk => PSs.weak pss_never fun D σ H ⟨ι, ρ, st, S, sl, p⟩ => p

/-! ### list comprehensions -/
def wipeM (ρ : Slots) : List Nat → Slots
  | [] => ρ
  | v :: vs => (wipeM ρ vs).set v none
theorem wipeM_ok {mg : Str → Option Value} {ι : List Addr} {H : Hp} {ρ : Slots} {σ : L2.St} (h : SlotsOk mg ι H ρ σ) : ∀ vs : List Nat, SlotsOk mg ι H (wipeM ρ vs) (wipe σ vs)
  | [] => h
  | v :: vs => by
    have ih := wipeM_ok h vs
    refine ⟨by unfold wipeM wipe; simp [ih.1], fun i w e => ?_⟩
    unfold wipeM at e
    unfold wipe
    by_cases hv : v = i
    · subst hv
      exfalso
      by_cases hl : v < (wipeM ρ vs).length
      · rw [List.getElem?_set_self hl] at e
        cases e
      · rw [List.getElem?_eq_none (by rw [List.length_set]; omega)] at e
        cases e
    · rw [List.getElem?_set_ne hv] at e ⊢
      exact ih.2 i w e
theorem wipe_out {σ : L2.St} {i : Nat} : ∀ {vs : List Nat}, i ∉ vs → (wipe σ vs)[i]? = σ[i]?
  | [], _ => rfl
  | v :: vs, h => by
    unfold wipe
    rw [List.getElem?_set_ne fun e => h (by simp [e])]
    exact wipe_out fun z => h (List.mem_cons_of_mem _ z)
theorem wipe_in {σ : L2.St} {i : Nat} : ∀ {vs : List Nat}, i ∈ vs → i < σ.length → (wipe σ vs)[i]? = some none
  | v :: vs, h, hl => by
    unfold wipe
    by_cases q : v = i
    · subst q
      rw [List.getElem?_set_self (by rw [wipe_length]; exact hl)]
    · rw [List.getElem?_set_ne q]
      exact wipe_in ((List.mem_cons.mp h).resolve_left (Ne.symm q)) hl
theorem wipe_same {vs : List Nat} {σ σ2 : L2.St} (o : OutS vs (wipe σ vs) σ2) : wipe σ2 vs = wipe σ vs := by
  have hl : σ2.length = σ.length := by rw [o.1, wipe_length]
  apply List.ext_getElem?
  intro i
  by_cases hi : i < σ.length
  · by_cases hm : i ∈ vs
    · rw [wipe_in hm (by omega), wipe_in hm hi]
    · rw [wipe_out hm, o.2 i hm]
  · rw [List.getElem?_eq_none (by rw [wipe_length]; omega), List.getElem?_eq_none (by rw [wipe_length]; omega)]
abbrev ixs (own : List (Str × Nat)) : List Nat := own.map (·.2)
@[reducible] def R.noX {α : Type} (r : R α) : R α := match r with
  | .exc _ _ => .bad
  | r => r
@[reducible] def mYes : MT := fun _ st => .ok true st
open Classical in
noncomputable def lcM (g : MG) (t : MT) (elt : ME) (okp : Store → Prop) (D : Nat) (ρ : Slots) : List Val → Store → R Val
  | [], st => if okp st then .ok (.ref D) st else .bad
  | w :: ws, st => if okp st then match g w ρ st with
      | none => .bad
      | some (ρ1, st1) => ((t ρ1 st1).noX).bind fun k st2 =>
        if k = true then ((elt ρ1 st2).noX).bind fun y st3 => match st3[D]? with
          | some (.lst acc) => if acc.length < sizeLine then lcM g t elt okp D ρ ws (st3.set D (.lst (acc ++ [y]))) else .bad
          | _ => .bad
        else lcM g t elt okp D ρ ws st2
    else .bad
@[reducible] noncomputable def mLc (mi : MI) (g : MG) (t : MT) (elt : ME) (vs : List Nat) : ME := fun ρ st => (mi ρ st).bind fun it st1 => lcM g t elt it.2 st1.length (wipeM ρ vs) it.1 (st1 ++ [.lst []])
abbrev W0 : WX := fun _ _ _ _ => False
def JTs (X : Cx) (es : List Expr) (m : MT) : Prop := ∀ W, Takes X W → PTs X es (rdG X.K X.mg relB W m)
theorem PTs.weak {X : Cx} {e : List Expr} {t t' : TT} (h : PTs X e t) (w : ∀ σ H Q, t' σ H Q → t σ H Q) : PTs X e t' := ⟨fun pins s σ H Q I q => h.run pins s σ H Q I (w σ H Q q)⟩
theorem jts_nil {X : Cx} : JTs X [] mYes := fun W tk => PTs.weak pts_nil fun σ H Q ⟨ι, ρ, st, S, sl, p⟩ => p.okSame S rfl
theorem jts_one {X : Cx} {c : Expr} {t : MT} (h : JT X c t) : JTs X [c] t := fun W tk => pts_one (h W tk)
theorem Post.noX {α β : Type} {K : PySem.W.Frag} {mg : Str → Option Value} {rel : List Addr → Hp → α → β → Prop} {ι : List Addr} {H : Hp} {Q : β → Hp → Prop} {E : Value → Option Addr → Hp → Prop} {r : R α} (p : Post K mg rel ι H Q E r.noX) : Post K mg rel ι H Q (fun _ _ _ => False) r := by
  cases r with
  | ok a st => exact p
  | exc x st => exact p.elim
  | bad => exact p.elim
section
variable {X : Cx} {elt tg iter : Expr} {ifs : List Expr} {scope : Scope} {own : List (Str × Nat)} {pos : Pos} {mi : MI} {g : MG} {t : MT} {me : ME}
theorem lc_read {W : WX} {σ : L2.St} {H : Hp} {Q : VK} (h : rdG X.K X.mg (rel1 X.mg) W (mLc mi g t me (ixs own)) σ H Q) :
    tLc (rdG X.K X.mg (relI X.K X.mg) W mi) (rdT X.K X.mg (ixs own) g) (rdG X.K X.mg relB W0 t) (rdG X.K X.mg (rel1 X.mg) W0 me) (ixs own) σ H Q := by
  obtain ⟨ι, ρ, st, S, sl, p⟩ := h
  refine ⟨ι, ρ, st, S, sl, Post.bind p fun it st1 ι1 H1 J l1 S1 r1 p1 => fun D hD => ?_⟩
  obtain ⟨items, okp⟩ := it
  have r1 : IsIt X.K X.mg items okp ι1 H1 J := r1
  have sl1 := wipeM_ok (sl.later l1) (ixs own)
  have hs := same_new (o := .lst []) hD
  obtain ⟨S2, l2⟩ := S1.push (c := .lst []) hD hs ⟨[], upd_same, Reps.nil⟩
  have hDi : (ι1 ++ [D])[st1.length]? = some D := by rw [← S1.len, List.getElem?_append_right (Nat.le_refl _)]; simp
  refine ⟨fun i m H' => ∃ ι' st', Later (ι1 ++ [D]) (upd H1 D (.lst [])) ι' H' ∧ Sim X.K X.mg ι' st' H' ∧ m = items.length - i ∧ i ≤ items.length ∧ Post X.K X.mg (rel1 X.mg) ι' H' Q (fun c d H' => W c d σ H') (lcM g t me okp st1.length (wipeM ρ (ixs own)) (items.drop i) st'),
    ⟨items.length, ι1 ++ [D], st1 ++ [.lst []], Later.refl _ _, S2, by simp, Nat.zero_le _, by simpa using Post.later p1 l2⟩, ?_⟩
  rintro i m H3 ⟨ι3, st3, l3, S3, rfl, hi, p3⟩
  have l13 := l2.trans l3
  by_cases hlt : i < items.length
  · rw [List.drop_eq_getElem_cons hlt] at p3
    unfold lcM at p3
    split at p3
    · rename_i hok
      refine .inr ⟨r1.go i ι3 H3 st3 l13 S3 hok hlt, fun H4 => ∃ ι4 st4, Later (ι1 ++ [D]) (upd H1 D (.lst [])) ι4 H4 ∧ Sim X.K X.mg ι4 st4 H4 ∧ Post X.K X.mg (rel1 X.mg) ι4 H4 Q (fun c d H' => W c d σ H') (lcM g t me okp st1.length (wipeM ρ (ixs own)) (items.drop (i + 1)) st4), ?_, ?_⟩
      · rintro H4 ⟨ι4, st4, l4, S4, p4⟩
        exact ⟨items.length - (i + 1), by omega, ι4, st4, l4, S4, rfl, hlt, p4⟩
      · intro x H4 hy
        obtain ⟨l4, S4, w, hw, rw_⟩ := r1.yld i ι3 H3 st3 x H4 l13 S3 hok hlt hy
        have hw' : items[i] = w := by rw [List.getElem?_eq_getElem hlt] at hw; exact Option.some.inj hw
        rw [hw'] at p3
        refine ⟨ι3, wipeM ρ (ixs own), st3, w, S4, sl1.later (l13.trans l4), rw_, ?_⟩
        cases q : g w (wipeM ρ (ixs own)) st3 with
        | none => rw [q] at p3; exact p3.elim
        | some z =>
          obtain ⟨ρ5, st5⟩ := z
          rw [q] at p3
          dsimp only at p3
          intro ι5 H5 σ5 l5 S5 sl5 o5
          have l15 := (l3.trans l4).trans l5
          have p5 := Post.later (Post.later p3 l4) l5
          refine ⟨wipe_same o5, ι5, ρ5, st5, S5, sl5, ?_⟩
          refine Post.noX (E := fun c d H' => W c d σ H') (Post.bind p5 fun k st6 ι6 H6 k' l6 S6 r6 p6 => ?_)
          have r6 : k = k' := r6
          subst r6
          have sl6 := sl5.later l6
          have l16 := l15.trans l6
          cases k with
          | false =>
            rw [if_neg Bool.false_ne_true] at p6
            exact iteF ⟨ι6, st6, l16, S6, p6⟩
          | true =>
            rw [if_pos rfl] at p6
            refine iteT ⟨ι6, ρ5, st6, S6, sl6, ?_⟩
            refine Post.noX (E := fun c d H' => W c d σ H') (Post.bind p6 fun y st7 ι7 H7 yv l7 S7 r7 p7 => ?_)
            have l17 := l16.trans l7
            have hD7 := l17.get hDi
            split at p7
            · rename_i acc eacc
              obtain ⟨vs, hvs, rvs⟩ := S7.at eacc hD7
              split at p7
              · rename_i hz
                obtain ⟨S8, l8⟩ := S7.write (c' := .lst (acc ++ [y])) (o' := .lst (vs ++ [yv])) eacc hD7 rfl rfl hvs (fun _ e => by cases e) (fun _ _ e => by cases e)
                  ⟨_, upd_same, (rvs.append (Reps.cons r7 Reps.nil)).later ⟨⟨[], by simp⟩, fun b xs e => by rw [upd_ne fun q => by subst q; rw [hvs] at e; cases e]; exact e⟩⟩
                exact ⟨vs, hvs, by rw [← rvs.length]; exact hz, ι7, _, l17.trans l8, S8, Post.later p7 l8⟩
              · exact p7.elim
            · exact p7.elim
    · exact p3.elim
  · have hle : items.length ≤ i := by omega
    rw [List.drop_eq_nil_of_le hle] at p3
    unfold lcM at p3
    split at p3
    · rename_i hok
      exact .inl ⟨r1.stop i ι3 H3 st3 l13 S3 hok (by omega), p3.okSame S3 (Rep.ref (l3.get hDi))⟩
    · exact p3.elim
theorem je_lc (hc : X.calm = true) (hN : X.N.Nodup) (own : List (Str × Nat)) (hi : JI X tg iter mi) (ok : blkC X.N X.env.scope scope own = true)
    (hg : ∀ (s : Shared) (H : Hp) (C : Addr) (cl : List (Str × Addr)) (fp : List Addr), JG (X.blk s H scope (compEnvC scope cl C X.env) fp) tg (ixs own) g) (ht : ∀ (s : Shared) (H : Hp) (C : Addr) (cl : List (Str × Addr)) (fp : List Addr), JTs (X.blk s H scope (compEnvC scope cl C X.env) fp) ifs t)
    (he : ∀ (s : Shared) (H : Hp) (C : Addr) (cl : List (Str × Addr)) (fp : List Addr), JE (X.blk s H scope (compEnvC scope cl C X.env) fp) elt me) (hs : ∀ x, foldedSetIterable iter X.env x = pure x := by intro _; rfl) :
    JE X (.ListComp elt [⟨tg, iter, ifs, 0⟩] scope pos) (mLc mi g t me (ixs own)) := fun W tk =>
  PE.weak (pe_lc (wi := rdG X.K X.mg (relI X.K X.mg) W mi) (g := rdT X.K X.mg (ixs own) g) (tt := rdG X.K X.mg relB W0 t) (te := rdG X.K X.mg (rel1 X.mg) W0 me) hc hN (hi W tk) (blkOk_by ok) (fun s H C cl fp => hg s H C cl fp) (fun s H C cl fp => ht s H C cl fp W0 takes0) (fun s H C cl fp => he s H C cl fp W0 takes0) hs) fun σ H Q h => lc_read h
/-- y = [..] on one line -/
theorem js_setLc {i : Nat} {y : Str} {py spos : Pos} (hc : X.calm = true) (hN : X.N.Nodup) (own : List (Str × Nat)) (hi : JI X tg iter mi) (ok : blkC X.N X.env.scope scope own = true)
    (hg : ∀ (s : Shared) (H : Hp) (C : Addr) (cl : List (Str × Addr)) (fp : List Addr), JG (X.blk s H scope (compEnvC scope cl C X.env) fp) tg (ixs own) g) (ht : ∀ (s : Shared) (H : Hp) (C : Addr) (cl : List (Str × Addr)) (fp : List Addr), JTs (X.blk s H scope (compEnvC scope cl C X.env) fp) ifs t)
    (he : ∀ (s : Shared) (H : Hp) (C : Addr) (cl : List (Str × Addr)) (fp : List Addr), JE (X.blk s H scope (compEnvC scope cl C X.env) fp) elt me)
    (hsw : swapsWith (.ListComp elt [⟨tg, iter, ifs, 0⟩] scope pos) (some (.Name y py)) spos.line X.env = pure true)
    (hy : X.N[i]? = some y := by rfl) (hyl : X.env.scope.names.lookup y = some .local := by rfl) (hs : ∀ x, foldedSetIterable iter X.env x = pure x := by intro _; rfl) :
    JS X (.Assign [.Name y py] (.ListComp elt [⟨tg, iter, ifs, 0⟩] scope pos) spos) (sSet i (mLc mi g t me (ixs own))) := fun W tk => by
  refine PS.weak (ps_setLc (wi := rdG X.K X.mg (relI X.K X.mg) W mi) (g := rdT X.K X.mg (ixs own) g) (tt := rdG X.K X.mg relB W0 t) (te := rdG X.K X.mg (rel1 X.mg) W0 me) hc hN hy hyl hsw (hi W tk) (blkOk_by ok) (fun s H C cl fp => hg s H C cl fp) (fun s H C cl fp => ht s H C cl fp W0 takes0) (fun s H C cl fp => he s H C cl fp W0 takes0) hs) fun D σ H ⟨ι, ρ, st, S, sl, p⟩ => ?_
  refine lc_read (W := W) ⟨ι, ρ, st, S, sl, PostO.bind p sl fun w st1 ι1 H1 v l1 S1 r1 p1 => ?_⟩
  exact p1.nx_same S1 ((sl.later l1).set i r1)
end
end Ab

set_option Elab.async false
set_option linter.all false
set_option maxRecDepth 100000
/-! Ab: built-in functions, methods of lists, equality, membership. -/
namespace Ab
open PySem PySem.Spec L2

def asBools : List Val → Option (List Bool)
  | [] => some []
  | .bl i :: r => (asBools r).map (i :: ·)
  | _ => none
theorem asBools_map : ∀ ns : List Bool, asBools (ns.map .bl) = some ns
  | [] => rfl
  | n :: ns => by show (asBools (ns.map .bl)).map _ = _; rw [asBools_map ns]; rfl
theorem asBools_some : ∀ {ws : List Val} {ns : List Bool}, asBools ws = some ns → ws = ns.map .bl
  | [], ns, h => by cases h; rfl
  | w :: ws, ns, h => by
    cases w with
    | bl i =>
      have h : (asBools ws).map (i :: ·) = some ns := h
      cases q : asBools ws with
      | none => rw [q] at h; cases h
      | some ms => rw [q] at h; cases h; rw [asBools_some q]; rfl
    | _ => cases h
section
variable {mg : Str → Option Value} {ι : List Addr} {H : Hp}
theorem Reps.bools : ∀ {ns : List Bool} {vs : List V}, Reps mg ι H (ns.map .bl) vs → vs = ns.map V.bl
  | [], vs, h => h.of_nil
  | n :: ns, vs, h => by
    obtain ⟨v, r, e, h1, h2⟩ := Reps.of_cons h
    rw [e, h1.bl_inv, Reps.bools h2]; rfl
theorem Reps.one {w : Val} {vs : List V} (h : Reps mg ι H [w] vs) : ∃ v, vs = [v] ∧ Rep mg ι H w v := by
  obtain ⟨v, r, e, h1, h2⟩ := h.of_cons
  rw [h2.of_nil] at e
  exact ⟨v, e, h1⟩
theorem Reps.two {w u : Val} {vs : List V} (h : Reps mg ι H [w, u] vs) : ∃ v z, vs = [v, z] ∧ Rep mg ι H w v ∧ Rep mg ι H u z := by
  obtain ⟨v, r, e, h1, h2⟩ := h.of_cons
  obtain ⟨z, e2, h3⟩ := Reps.one h2
  rw [e2] at e
  exact ⟨v, z, e, h1, h3⟩
end

/-! ### flat values: in, ==, index -/
@[reducible] def flatW : Val → Bool
  | .non => true
  | .bl _ => true
  | .int _ => true
  | .str _ => true
  | _ => false
def eqW : Val → Val → Bool
  | .non, .non => true
  | .bl a, .bl b => a == b
  | .bl a, .int b => (if a then 1 else 0) == b
  | .int a, .bl b => a == (if b then 1 else 0)
  | .int a, .int b => a == b
  | .str a, .str b => a == b
  | _, _ => false
def inW (x : Val) (xs : List Val) : Bool := xs.any fun y => eqW y x
section
variable {mg : Str → Option Value} {ι : List Addr} {H : Hp}
theorem flatW_rep {w : Val} {v : V} (r : Rep mg ι H w v) (f : flatW w = true) : flatV v = true ∧ ∀ {u : Val} {z : V}, Rep mg ι H u z → flatW u = true → eqV z v = eqW u w := by
  cases w with
  | non =>
    have e := r.non_inv; subst e
    refine ⟨rfl, fun {u z} r2 f2 => ?_⟩
    cases u with
    | non => have e := r2.non_inv; subst e; rfl
    | bl b => have e := r2.bl_inv; subst e; rfl
    | int b => have e := r2.int_inv; subst e; rfl
    | str b => have e := r2.str_inv; subst e; rfl
    | _ => cases f2
  | bl a =>
    have e := r.bl_inv; subst e
    refine ⟨rfl, fun {u z} r2 f2 => ?_⟩
    cases u with
    | non => have e := r2.non_inv; subst e; rfl
    | bl b => have e := r2.bl_inv; subst e; rfl
    | int b => have e := r2.int_inv; subst e; rfl
    | str b => have e := r2.str_inv; subst e; rfl
    | _ => cases f2
  | int a =>
    have e := r.int_inv; subst e
    refine ⟨rfl, fun {u z} r2 f2 => ?_⟩
    cases u with
    | non => have e := r2.non_inv; subst e; rfl
    | bl b => have e := r2.bl_inv; subst e; rfl
    | int b => have e := r2.int_inv; subst e; rfl
    | str b => have e := r2.str_inv; subst e; rfl
    | _ => cases f2
  | str a =>
    have e := r.str_inv; subst e
    refine ⟨rfl, fun {u z} r2 f2 => ?_⟩
    cases u with
    | non => have e := r2.non_inv; subst e; rfl
    | bl b => have e := r2.bl_inv; subst e; rfl
    | int b => have e := r2.int_inv; subst e; rfl
    | str b => have e := r2.str_inv; subst e; rfl
    | _ => cases f2
  | _ => cases f
theorem flats {w : Val} {v : V} (r : Rep mg ι H w v) (f : flatW w = true) : ∀ {ws : List Val} {vs : List V}, Reps mg ι H ws vs → ws.all flatW = true → vs.all flatV = true ∧ inV v vs = inW w ws
  | [], vs, h, _ => by rw [h.of_nil]; exact ⟨rfl, rfl⟩
  | x :: ws, vs, h, fa => by
    obtain ⟨y, r', e, h1, h2⟩ := h.of_cons
    subst e
    rw [List.all_cons, Bool.and_eq_true] at fa
    obtain ⟨i1, i2⟩ := flats r f h2 fa.2
    refine ⟨by rw [List.all_cons, (flatW_rep h1 fa.1).1, i1]; rfl, ?_⟩
    unfold inV inW at i2 ⊢
    rw [List.any_cons, List.any_cons, i2, (flatW_rep r f).2 h1 fa.1]
theorem flats' : ∀ {ws : List Val} {vs : List V}, Reps mg ι H ws vs → ws.all flatW = true → vs.all flatV = true
  | [], vs, h, _ => by rw [h.of_nil]; rfl
  | x :: ws, vs, h, fa => by
    obtain ⟨y, r', e, h1, h2⟩ := h.of_cons
    subst e
    rw [List.all_cons, Bool.and_eq_true] at fa
    rw [List.all_cons, (flatW_rep h1 fa.1).1, flats' h2 fa.2]; rfl
end
@[reducible] def vIn : Val → Val → Store → R Val
  | .str c, .str z, st => match c.cps.toList with
    | [k] => .ok (.bl (decide (k ∈ z.cps.toList))) st
    | _ => .bad
  | x, .tup ys, st => if flatW x && ys.all flatW then .ok (.bl (inW x ys)) st else .bad
  | x, .ref n, st => match seqAt st n with
    | some ys => if flatW x && ys.all flatW then .ok (.bl (inW x ys)) st else .bad
    | none => .bad
  | _, _, _ => .bad
@[reducible] def vNotIn : Val → Val → Store → R Val
  | .str c, .str z, st => match c.cps.toList with
    | [k] => .ok (.bl (!decide (k ∈ z.cps.toList))) st
    | _ => .bad
  | x, .tup ys, st => if flatW x && ys.all flatW then .ok (.bl (!inW x ys)) st else .bad
  | x, .ref n, st => match seqAt st n with
    | some ys => if flatW x && ys.all flatW then .ok (.bl (!inW x ys)) st else .bad
    | none => .bad
  | _, _, _ => .bad
theorem str_one {c : Str} {k : Nat} (h : c.cps.toList = [k]) : c = ⟨#[k]⟩ := by
  obtain ⟨a⟩ := c
  have : a = [k].toArray := by rw [← h]
  rw [this]
section
variable {X : Cx}
theorem m2_in : M2 X (compareOp .In) vIn := by
  rintro pins s σ H x y u1 u2 Q I rx ry ⟨ι, st, w1, w2, S, r1, r2, p⟩
  cases w2 with
  | str z =>
    cases w1 with
    | str c =>
      have e1 := r1.str_inv; have e2 := r2.str_inv
      subst e1 e2
      dsimp only [vIn] at p
      split at p
      · rename_i k ek
        exact op_in_sign pins s σ H _ _ u1 u2 Q I rx ry ⟨k, z, by rw [str_one ek], rfl, p.okSame S Rep.bl⟩
      · exact p.elim
    | _ => exact p.elim
  | tup ys =>
    obtain ⟨a, vs, e, ha, rr⟩ := r2.tup_inv
    subst e
    have p : Post X.K X.mg (rel1 X.mg) ι H Q (fun _ _ _ => False) (if flatW w1 && ys.all flatW then .ok (.bl (inW w1 ys)) st else .bad) := by cases w1 <;> exact p
    split at p
    · rename_i hf
      rw [Bool.and_eq_true] at hf
      obtain ⟨f1, f2⟩ := flats r1 hf.1 rr hf.2
      exact op_in_seq pins s σ H _ _ u1 u2 Q I rx ry ⟨a, vs, rfl, .inr (SqT.of ha), (flatW_rep r1 hf.1).1, f1, by rw [if_neg Bool.false_ne_true, f2]; exact p.okSame S Rep.bl⟩
    · exact p.elim
  | ref n =>
    obtain ⟨a, e, ha⟩ := r2.ref_inv
    subst e
    have p : Post X.K X.mg (rel1 X.mg) ι H Q (fun _ _ _ => False) (match seqAt st n with
      | some ys => if flatW w1 && ys.all flatW then .ok (.bl (inW w1 ys)) st else .bad
      | none => .bad) := by cases w1 <;> exact p
    cases es : seqAt st n with
    | none => rw [es] at p; exact p.elim
    | some ys =>
      rw [es] at p
      dsimp only at p
      obtain ⟨vs, hl, rr⟩ := S.seqL es ha
      split at p
      · rename_i hf
        rw [Bool.and_eq_true] at hf
        obtain ⟨f1, f2⟩ := flats r1 hf.1 rr hf.2
        exact op_in_seq pins s σ H _ _ u1 u2 Q I rx ry ⟨a, vs, rfl, .inl hl, (flatW_rep r1 hf.1).1, f1, by rw [if_neg Bool.false_ne_true, f2]; exact p.okSame S Rep.bl⟩
      · exact p.elim
  | _ => cases w1 <;> exact p.elim
theorem m2_notIn : M2 X (compareOp .NotIn) vNotIn := by
  rintro pins s σ H x y u1 u2 Q I rx ry ⟨ι, st, w1, w2, S, r1, r2, p⟩
  cases w2 with
  | str z =>
    cases w1 with
    | str c =>
      have e1 := r1.str_inv; have e2 := r2.str_inv
      subst e1 e2
      dsimp only [vNotIn] at p
      split at p
      · rename_i k ek
        exact op_notIn_sign pins s σ H _ _ u1 u2 Q I rx ry ⟨k, z, by rw [str_one ek], rfl, p.okSame S Rep.bl⟩
      · exact p.elim
    | _ => exact p.elim
  | tup ys =>
    obtain ⟨a, vs, e, ha, rr⟩ := r2.tup_inv
    subst e
    have p : Post X.K X.mg (rel1 X.mg) ι H Q (fun _ _ _ => False) (if flatW w1 && ys.all flatW then .ok (.bl (!inW w1 ys)) st else .bad) := by cases w1 <;> exact p
    split at p
    · rename_i hf
      rw [Bool.and_eq_true] at hf
      obtain ⟨f1, f2⟩ := flats r1 hf.1 rr hf.2
      exact op_notIn_seq pins s σ H _ _ u1 u2 Q I rx ry ⟨a, vs, rfl, .inr (SqT.of ha), (flatW_rep r1 hf.1).1, f1, by rw [if_pos rfl, f2]; exact p.okSame S Rep.bl⟩
    · exact p.elim
  | ref n =>
    obtain ⟨a, e, ha⟩ := r2.ref_inv
    subst e
    have p : Post X.K X.mg (rel1 X.mg) ι H Q (fun _ _ _ => False) (match seqAt st n with
      | some ys => if flatW w1 && ys.all flatW then .ok (.bl (!inW w1 ys)) st else .bad
      | none => .bad) := by cases w1 <;> exact p
    cases es : seqAt st n with
    | none => rw [es] at p; exact p.elim
    | some ys =>
      rw [es] at p
      dsimp only at p
      obtain ⟨vs, hl, rr⟩ := S.seqL es ha
      split at p
      · rename_i hf
        rw [Bool.and_eq_true] at hf
        obtain ⟨f1, f2⟩ := flats r1 hf.1 rr hf.2
        exact op_notIn_seq pins s σ H _ _ u1 u2 Q I rx ry ⟨a, vs, rfl, .inl hl, (flatW_rep r1 hf.1).1, f1, by rw [if_pos rfl, f2]; exact p.okSame S Rep.bl⟩
      · exact p.elim
  | _ => cases w1 <;> exact p.elim
theorem quiet_in : ∀ x y st, Quiet (vIn x y st) := by
  intro x y st ex st' h
  unfold vIn at h
  repeat (first | (split at h) | cases h)
theorem quiet_notIn : ∀ x y st, Quiet (vNotIn x y st) := by
  intro x y st ex st' h
  unfold vNotIn at h
  repeat (first | (split at h) | cases h)
theorem quiet_add : ∀ x y st, Quiet (vAdd x y st) := by
  intro x y st ex st' h
  unfold vAdd at h
  repeat (first | (split at h) | cases h)
theorem quiet_sub : ∀ x y st, Quiet (vSub x y st) := by
  intro x y st ex st' h
  unfold vSub at h
  repeat (first | (split at h) | cases h)
theorem quiet_mul : ∀ x y st, Quiet (vMul x y st) := by
  intro x y st ex st' h
  unfold vMul at h
  repeat (first | (split at h) | cases h)
theorem quiet_div : ∀ x y st, Quiet (vDiv x y st) := by
  intro x y st ex st' h
  unfold vDiv at h
  repeat (first | (split at h) | cases h)
theorem quiet_mod : ∀ x y st, Quiet (vMod x y st) := by
  intro x y st ex st' h
  unfold vMod at h
  repeat (first | (split at h) | cases h)
theorem quiet_pow : ∀ x y st, Quiet (vPow x y st) := by
  intro x y st ex st' h
  unfold vPow at h
  repeat (first | (split at h) | cases h)
theorem quiet_cmpI (q : Int → Int → Bool) : ∀ x y st, Quiet (vCmpI q x y st) := by
  intro x y st ex st' h
  unfold vCmpI at h
  repeat (first | (split at h) | cases h)
theorem quiet_le : ∀ x y st, Quiet (vLe x y st) := by
  intro x y st ex st' h
  unfold vLe at h
  repeat (first | (split at h) | cases h)
theorem quiet_isN : ∀ x y st, Quiet (vIsN x y st) := by
  intro x y st ex st' h
  unfold vIsN at h
  repeat (first | (split at h) | cases h)
end

/-! ### == of any data -/
def mapO {α β : Type} (f : α → Option β) : List α → Option (List β)
  | [] => some []
  | x :: xs => match f x, mapO f xs with
    | some y, some ys => some (y :: ys)
    | _, _ => none
def deep (st : Store) : Nat → Val → Option PyData
  | 0, _ => none
  | _ + 1, .non => some .none
  | _ + 1, .bl b => some (.bool b)
  | _ + 1, .int i => some (.int i)
  | _ + 1, .str z => if PyData.canLay0 (.str z) = true then some (.str z) else none
  | n + 1, .tup xs => (mapO (deep st n) xs).map .tuple
  | n + 1, .ref k => match seqAt st k with
    | some xs => (mapO (deep st n) xs).map .list
    | none => none
  | _ + 1, .gl _ => none
  | _ + 1, .adr _ => none
theorem deepAll {K : PySem.W.Frag} {mg : Str → Option Value} {ι : List Addr} {H : Hp} {f : Val → Option PyData} {n : Nat}
    (hf : ∀ {w : Val} {d : PyData}, f w = some d → d.canLay0 = true ∧ d.depth ≤ n ∧ ∀ {v : V}, Rep mg ι H w v → Dp K H v d) : ∀ {ws : List Val} {ds : List PyData}, mapO f ws = some ds →
      PyData.canLayAll0 ds = true ∧ PyData.depthAll ds ≤ n ∧ ∀ {vs : List V}, Reps mg ι H ws vs → DpAll K H vs ds
  | [], ds, h => by
    cases h
    refine ⟨rfl, Nat.zero_le _, fun {vs} r => ?_⟩
    rw [r.of_nil]
    exact .nil
  | w :: ws, ds, h => by
    unfold mapO at h
    split at h
    · rename_i d ds' e1 e2
      cases h
      obtain ⟨c1, c2, c3⟩ := hf e1
      obtain ⟨i1, i2, i3⟩ := deepAll hf e2
      refine ⟨by rw [PyData.canLayAll0, c1, i1]; rfl, by rw [PyData.depthAll]; omega, fun {vs} r => ?_⟩
      obtain ⟨v, r', e, h1, h2⟩ := r.of_cons
      subst e
      exact .cons (c3 h1) (i3 h2)
    · cases h
theorem deep_ok {K : PySem.W.Frag} {mg : Str → Option Value} {ι : List Addr} {st : Store} {H : Hp} (S : Sim K mg ι st H) : ∀ {n : Nat} {w : Val} {d : PyData}, deep st n w = some d → d.canLay0 = true ∧ d.depth ≤ n ∧ ∀ {v : V}, Rep mg ι H w v → Dp K H v d
  | 0, _, _, h => by cases h
  | n + 1, w, d, h => by
    cases w with
    | non => cases h; exact ⟨rfl, by simp [PyData.depth], fun r => by rw [r.non_inv]; exact .non⟩
    | bl b => cases h; exact ⟨rfl, by simp [PyData.depth], fun r => by rw [r.bl_inv]; exact .bl b⟩
    | int b => cases h; exact ⟨rfl, by simp [PyData.depth], fun r => by rw [r.int_inv]; exact .int b⟩
    | str b =>
      unfold deep at h
      split at h
      · rename_i hc
        cases h
        exact ⟨hc, by simp [PyData.depth], fun r => by rw [r.str_inv]; exact .str b⟩
      · cases h
    | tup xs =>
      unfold deep at h
      cases q : mapO (deep st n) xs with
      | none => rw [q] at h; cases h
      | some ds =>
        rw [q] at h
        cases h
        obtain ⟨c1, c2, c3⟩ := deepAll (fun e => deep_ok S e) q
        refine ⟨by rw [PyData.canLay0]; exact c1, by rw [PyData.depth]; omega, fun {v} r => ?_⟩
        obtain ⟨a, vs, e, ha, rr⟩ := r.tup_inv
        subst e
        exact .tup (SqT.of ha) (c3 rr)
    | ref k =>
      unfold deep at h
      cases es : seqAt st k with
      | none => rw [es] at h; cases h
      | some xs =>
        rw [es] at h
        dsimp only at h
        cases q : mapO (deep st n) xs with
        | none => rw [q] at h; cases h
        | some ds =>
          rw [q] at h
          cases h
          obtain ⟨c1, c2, c3⟩ := deepAll (fun e => deep_ok S e) q
          refine ⟨by rw [PyData.canLay0]; exact c1, by rw [PyData.depth]; omega, fun {v} r => ?_⟩
          obtain ⟨a, e, ha⟩ := r.ref_inv
          subst e
          obtain ⟨vs, hl, rr⟩ := S.seqL es ha
          exact .lst hl (c3 rr)
    | gl x => cases h
    | adr x => cases h
theorem deep_shaped {K : PySem.W.Frag} {mg : Str → Option Value} {ι : List Addr} {st : Store} {H : Hp} (S : Sim K mg ι st H) {n : Nat} (hn : n ≤ 64) {w : Val} {d : PyData} (h : deep st n w = some d) : SeqAt.shaped d = true := by
  obtain ⟨c1, c2, _⟩ := deep_ok S h
  unfold SeqAt.shaped
  rw [c1, decide_eq_true (Nat.le_trans c2 hn)]
  rfl
@[reducible] def vEq : Val → Val → Store → R Val
  | .int i, .int j, st => .ok (.bl (decide (i = j))) st
  | .str i, .str j, st => .ok (.bl (decide (i = j))) st
  | .bl i, .bl j, st => .ok (.bl (decide (i = j))) st
  | x, y, st => match deep st 16 x, deep st 16 y with
    | some d, some e => .ok (.bl (PyData.eqv d e)) st
    | _, _ => .bad
@[reducible] def vNe : Val → Val → Store → R Val
  | .int i, .int j, st => .ok (.bl (!decide (i = j))) st
  | .str i, .str j, st => .ok (.bl (!decide (i = j))) st
  | .bl i, .bl j, st => .ok (.bl (!decide (i = j))) st
  | x, y, st => match deep st 16 x, deep st 16 y with
    | some d, some e => .ok (.bl (!PyData.eqv d e)) st
    | _, _ => .bad
section
variable {X : Cx}
theorem dec_V {α : Type} [DecidableEq α] {f : α → V} (hf : ∀ a b, f a = f b → a = b) (i j : α) : decide (f i = f j) = decide (i = j) := by
  by_cases h : i = j
  · rw [h, decide_eq_true rfl, decide_eq_true rfl]
  · rw [decide_eq_false h, decide_eq_false fun e => h (hf _ _ e)]
theorem eq_deep {W1 W2 : Val} (hu : X.A.units + 64 < cLine) {pins : List (Addr × Obj)} {s : Shared} {σ : L2.St} {H : Hp} {x y : V} {u1 u2 : Value} {Q : VK} (I : Inv X pins σ H s) (rx : RelV x u1) (ry : RelV y u2) {ι : List Addr} {st : Store} (S : Sim X.K X.mg ι st H)
    (r1 : Rep X.mg ι H W1 x) (r2 : Rep X.mg ι H W2 y) (p : Post X.K X.mg (rel1 X.mg) ι H Q (fun _ _ _ => False) (match deep st 16 W1, deep st 16 W2 with
    | some d, some e => .ok (.bl (PyData.eqv d e)) st
    | _, _ => .bad)) : wpAny (model X.prog X.w) X.A (compareOp .Eq u1 u2) (EP X pins σ Q) X.xe s := by
  cases q1 : deep st 16 W1 with
  | none => rw [q1] at p; exact p.elim
  | some d =>
    cases q2 : deep st 16 W2 with
    | none => rw [q1, q2] at p; exact p.elim
    | some e =>
      rw [q1, q2] at p
      exact op_eqD hu pins s σ H _ _ u1 u2 Q I rx ry ⟨d, e, (deep_ok S q1).2.2 r1, (deep_ok S q2).2.2 r2, deep_shaped S (by decide) q1, deep_shaped S (by decide) q2, p.okSame S Rep.bl⟩
theorem ne_deep {W1 W2 : Val} (hu : X.A.units + 64 < cLine) {pins : List (Addr × Obj)} {s : Shared} {σ : L2.St} {H : Hp} {x y : V} {u1 u2 : Value} {Q : VK} (I : Inv X pins σ H s) (rx : RelV x u1) (ry : RelV y u2) {ι : List Addr} {st : Store} (S : Sim X.K X.mg ι st H)
    (r1 : Rep X.mg ι H W1 x) (r2 : Rep X.mg ι H W2 y) (p : Post X.K X.mg (rel1 X.mg) ι H Q (fun _ _ _ => False) (match deep st 16 W1, deep st 16 W2 with
    | some d, some e => .ok (.bl (!PyData.eqv d e)) st
    | _, _ => .bad)) : wpAny (model X.prog X.w) X.A (compareOp .NotEq u1 u2) (EP X pins σ Q) X.xe s := by
  cases q1 : deep st 16 W1 with
  | none => rw [q1] at p; exact p.elim
  | some d =>
    cases q2 : deep st 16 W2 with
    | none => rw [q1, q2] at p; exact p.elim
    | some e =>
      rw [q1, q2] at p
      exact op_neD hu pins s σ H _ _ u1 u2 Q I rx ry ⟨d, e, (deep_ok S q1).2.2 r1, (deep_ok S q2).2.2 r2, deep_shaped S (by decide) q1, deep_shaped S (by decide) q2, p.okSame S Rep.bl⟩
theorem m2_eq (hu : X.A.units + 64 < cLine) : M2 X (compareOp .Eq) vEq := by
  rintro pins s σ H x y u1 u2 Q I rx ry ⟨ι, st, w1, w2, S, r1, r2, p⟩
  cases w1 with
  | int i =>
    cases w2 with
    | int j =>
      have e1 := r1.int_inv; have e2 := r2.int_inv
      subst e1 e2
      exact op_eq pins s σ H _ _ u1 u2 Q I rx ry ⟨rfl, by rw [dec_V (fun a b h => by cases h; rfl)]; exact p.okSame S Rep.bl⟩
    | _ => exact eq_deep hu I rx ry S r1 r2 p
  | str i =>
    cases w2 with
    | str j =>
      have e1 := r1.str_inv; have e2 := r2.str_inv
      subst e1 e2
      exact op_eq pins s σ H _ _ u1 u2 Q I rx ry ⟨rfl, by rw [dec_V (fun a b h => by cases h; rfl)]; exact p.okSame S Rep.bl⟩
    | _ => exact eq_deep hu I rx ry S r1 r2 p
  | bl i =>
    cases w2 with
    | bl j =>
      have e1 := r1.bl_inv; have e2 := r2.bl_inv
      subst e1 e2
      exact op_eq pins s σ H _ _ u1 u2 Q I rx ry ⟨rfl, by rw [dec_V (fun a b h => by cases h; rfl)]; exact p.okSame S Rep.bl⟩
    | _ => exact eq_deep hu I rx ry S r1 r2 p
  | _ => exact eq_deep hu I rx ry S r1 r2 (by cases w2 <;> exact p)
theorem m2_ne (hu : X.A.units + 64 < cLine) : M2 X (compareOp .NotEq) vNe := by
  rintro pins s σ H x y u1 u2 Q I rx ry ⟨ι, st, w1, w2, S, r1, r2, p⟩
  cases w1 with
  | int i =>
    cases w2 with
    | int j =>
      have e1 := r1.int_inv; have e2 := r2.int_inv
      subst e1 e2
      exact op_ne pins s σ H _ _ u1 u2 Q I rx ry ⟨rfl, by rw [dec_V (fun a b h => by cases h; rfl)]; exact p.okSame S Rep.bl⟩
    | _ => exact ne_deep hu I rx ry S r1 r2 p
  | str i =>
    cases w2 with
    | str j =>
      have e1 := r1.str_inv; have e2 := r2.str_inv
      subst e1 e2
      exact op_ne pins s σ H _ _ u1 u2 Q I rx ry ⟨rfl, by rw [dec_V (fun a b h => by cases h; rfl)]; exact p.okSame S Rep.bl⟩
    | _ => exact ne_deep hu I rx ry S r1 r2 p
  | bl i =>
    cases w2 with
    | bl j =>
      have e1 := r1.bl_inv; have e2 := r2.bl_inv
      subst e1 e2
      exact op_ne pins s σ H _ _ u1 u2 Q I rx ry ⟨rfl, by rw [dec_V (fun a b h => by cases h; rfl)]; exact p.okSame S Rep.bl⟩
    | _ => exact ne_deep hu I rx ry S r1 r2 p
  | _ => exact ne_deep hu I rx ry S r1 r2 (by cases w2 <;> exact p)
theorem quiet_eq : ∀ x y st, Quiet (vEq x y st) := by
  intro x y st ex st' h
  unfold vEq at h
  repeat (first | (split at h) | cases h)
theorem quiet_ne : ∀ x y st, Quiet (vNe x y st) := by
  intro x y st ex st' h
  unfold vNe at h
  repeat (first | (split at h) | cases h)
end

/-! ### functions -/
@[reducible] def bLen : List Val → Store → R Val
  | [.tup xs], st => .ok (.int xs.length) st
  | [.str z], st => if z.length ≤ sizeLine then .ok (.int z.length) st else .bad
  | [.ref n], st => match seqAt st n with
    | some xs => .ok (.int xs.length) st
    | none => .bad
  | _, _ => .bad
@[reducible] def bMax2 : List Val → Store → R Val
  | [.int i, .int j], st => .ok (.int (max i j)) st
  | _, _ => .bad
@[reducible] def bMin2 : List Val → Store → R Val
  | [.int i, .int j], st => .ok (.int (min i j)) st
  | _, _ => .bad
@[reducible] def bIntB : List Val → Store → R Val
  | [.int i], st => .ok (.int i) st
  | [.bl k], st => .ok (.int (if k then 1 else 0)) st
  | _, _ => .bad
@[reducible] def ofBools (f : List Bool → Store → R Val) : List Val → Store → R Val
  | [.ref n], st => match seqAt st n with
    | some xs => match asBools xs with
      | some ns => f ns st
      | none => .bad
    | none => .bad
  | _, _ => .bad
@[reducible] def bAll : List Val → Store → R Val := ofBools fun ns st => .ok (.bl (ns.all id)) st
@[reducible] def bList : List Val → Store → R Val
  | [.tup xs], st => .ok (.ref st.length) (st ++ [.lst xs])
  | [.ref n], st => match seqAt st n with
    | some xs => .ok (.ref st.length) (st ++ [.lst xs])
    | none => .bad
  | _, _ => .bad
@[reducible] def bTuple : List Val → Store → R Val
  | [.tup xs], st => .ok (.tup xs) st
  | [.ref n], st => match seqAt st n with
    | some xs => .ok (.tup xs) st
    | none => .bad
  | _, _ => .bad
section
variable {X : Cx}
theorem mc_len : MC X (.builtin "len") bLen := by
  rintro pins s σ H xs us Q I rs ⟨ι, st, ws, S, rr, p⟩
  unfold bLen at p
  split at p
  · rename_i ys
    obtain ⟨v, e, r⟩ := rr.one
    obtain ⟨a, vs, e2, ha, r2⟩ := r.tup_inv
    subst e e2
    exact call_len pins s σ H _ us Q I rs ⟨_, vs.length, rfl, .inr ⟨vs, SqT.of ha, rfl⟩, by rw [← r2.length]; exact p.okSame S Rep.int⟩
  · rename_i z
    obtain ⟨v, e, r⟩ := rr.one
    have e2 := r.str_inv
    subst e e2
    split at p
    · rename_i hz
      exact call_len pins s σ H _ us Q I rs ⟨_, z.length, rfl, ⟨hz, rfl⟩, p.okSame S Rep.int⟩
    · exact p.elim
  · rename_i n
    obtain ⟨v, e, r⟩ := rr.one
    obtain ⟨a, e2, ha⟩ := r.ref_inv
    subst e e2
    cases es : seqAt st n with
    | none => rw [es] at p; exact p.elim
    | some ys =>
      rw [es] at p
      obtain ⟨vs, hl, r2⟩ := S.seqL es ha
      exact call_len pins s σ H _ us Q I rs ⟨_, vs.length, rfl, .inl ⟨vs, hl, rfl⟩, by rw [← r2.length]; exact p.okSame S Rep.int⟩
  · exact p.elim
theorem mc_max2 (hc : X.calm = true) : MC X (.builtin "max") bMax2 := by
  rintro pins s σ H xs us Q I rs ⟨ι, st, ws, S, rr, p⟩
  unfold bMax2 at p
  split at p
  · rename_i i j
    obtain ⟨v, z, e, r1, r2⟩ := rr.two
    have e1 := r1.int_inv; have e2 := r2.int_inv
    subst e e1 e2
    refine call_max2 hc pins s σ H _ us Q I rs ⟨i, j, rfl, ?_⟩
    have : (if j > i then j else i) = max i j := by
      by_cases h : j > i
      · rw [if_pos h, Int.max_eq_right (by omega)]
      · rw [if_neg h, Int.max_eq_left (by omega)]
    rw [this]
    exact p.okSame S Rep.int
  · exact p.elim
theorem mc_min2 (hc : X.calm = true) : MC X (.builtin "min") bMin2 := by
  rintro pins s σ H xs us Q I rs ⟨ι, st, ws, S, rr, p⟩
  unfold bMin2 at p
  split at p
  · rename_i i j
    obtain ⟨v, z, e, r1, r2⟩ := rr.two
    have e1 := r1.int_inv; have e2 := r2.int_inv
    subst e e1 e2
    refine call_min2 hc pins s σ H _ us Q I rs ⟨i, j, rfl, ?_⟩
    have : (if j < i then j else i) = min i j := by
      by_cases h : j < i
      · rw [if_pos h, Int.min_eq_right (by omega)]
      · rw [if_neg h, Int.min_eq_left (by omega)]
    rw [this]
    exact p.okSame S Rep.int
  · exact p.elim
theorem mc_intB : MC X (.type "int") bIntB := by
  rintro pins s σ H xs us Q I rs ⟨ι, st, ws, S, rr, p⟩
  unfold bIntB at p
  split at p
  · rename_i i
    obtain ⟨v, e, r⟩ := rr.one
    have e2 := r.int_inv
    subst e e2
    exact call_int1 pins s σ H _ us Q I rs (.inl ⟨i, rfl, p.okSame S Rep.int⟩)
  · rename_i i
    obtain ⟨v, e, r⟩ := rr.one
    have e2 := r.bl_inv
    subst e e2
    exact call_int1 pins s σ H _ us Q I rs (.inr ⟨i, rfl, p.okSame S Rep.int⟩)
  · exact p.elim
theorem ofBools_inv {f : List Bool → Store → R Val} {K : PySem.W.Frag} {mg : Str → Option Value} {ι : List Addr} {st : Store} {H : Hp} {Q : VK} {E : Value → Option Addr → Hp → Prop} {ws : List Val} {vs : List V} (S : Sim K mg ι st H) (rr : Reps mg ι H ws vs) (p : Post K mg (rel1 mg) ι H Q E (ofBools f ws st)) :
    ∃ a ns, vs = [.ref a] ∧ SqL K H a (ns.map V.bl) ∧ Post K mg (rel1 mg) ι H Q E (f ns st) := by
  unfold ofBools at p
  split at p
  · rename_i n
    obtain ⟨v, e, r⟩ := rr.one
    obtain ⟨a, e2, ha⟩ := r.ref_inv
    subst e e2
    cases es : seqAt st n with
    | none => rw [es] at p; exact p.elim
    | some ys =>
      rw [es] at p
      dsimp only at p
      cases ei : asBools ys with
      | none => rw [ei] at p; exact p.elim
      | some ns =>
        rw [ei] at p
        obtain ⟨us, hl, r2⟩ := S.seqL es ha
        rw [asBools_some ei] at r2
        rw [r2.bools] at hl
        exact ⟨a, ns, rfl, hl, p⟩
  · exact p.elim
theorem mc_all (hc : X.calm = true) : MC X (.builtin "all") bAll := by
  rintro pins s σ H xs us Q I rs ⟨ι, st, ws, S, rr, p⟩
  obtain ⟨a, ns, e, hl, p⟩ := ofBools_inv S rr p
  exact cr_all hc pins s σ H _ us Q I rs ⟨a, ns, e, hl, p.okSame S Rep.bl⟩
theorem mc_list : MC X (.type "list") bList := by
  rintro pins s σ H xs us Q I rs ⟨ι, st, ws, S, rr, p⟩
  unfold bList at p
  split at p
  · rename_i ys
    obtain ⟨v, e, r⟩ := rr.one
    obtain ⟨a, vs, e2, ha, r2⟩ := r.tup_inv
    subst e e2
    exact call_list_of pins s σ H _ us Q I rs ⟨a, vs, rfl, .inr (SqT.of ha), fun l hl => p.newLst S r2 hl⟩
  · rename_i n
    obtain ⟨v, e, r⟩ := rr.one
    obtain ⟨a, e2, ha⟩ := r.ref_inv
    subst e e2
    cases es : seqAt st n with
    | none => rw [es] at p; exact p.elim
    | some ys =>
      rw [es] at p
      obtain ⟨vs, hl, r2⟩ := S.seqL es ha
      exact call_list_of pins s σ H _ us Q I rs ⟨a, vs, rfl, .inl hl, fun l hl => p.newLst S r2 hl⟩
  · exact p.elim
theorem mc_tuple : MC X (.type "tuple") bTuple := by
  rintro pins s σ H xs us Q I rs ⟨ι, st, ws, S, rr, p⟩
  unfold bTuple at p
  split at p
  · rename_i ys
    obtain ⟨v, e, r⟩ := rr.one
    obtain ⟨a, vs, e2, ha, r2⟩ := r.tup_inv
    subst e e2
    exact call_tuple_of pins s σ H _ us Q I rs ⟨a, vs, rfl, .inr ⟨SqT.of ha, p.okSame S (Rep.tup ha r2)⟩⟩
  · rename_i n
    obtain ⟨v, e, r⟩ := rr.one
    obtain ⟨a, e2, ha⟩ := r.ref_inv
    subst e e2
    cases es : seqAt st n with
    | none => rw [es] at p; exact p.elim
    | some ys =>
      rw [es] at p
      obtain ⟨vs, hl, r2⟩ := S.seqL es ha
      exact call_tuple_of pins s σ H _ us Q I rs ⟨a, vs, rfl, .inl ⟨hl, fun l hl => p.newTup S r2 hl⟩⟩
  · exact p.elim
theorem quiet_len : ∀ xs st, Quiet (bLen xs st) := by
  intro x st ex st' h
  unfold bLen at h
  repeat (first | (split at h) | cases h)
theorem quiet_max2 : ∀ xs st, Quiet (bMax2 xs st) := by
  intro x st ex st' h
  unfold bMax2 at h
  repeat (first | (split at h) | cases h)
theorem quiet_min2 : ∀ xs st, Quiet (bMin2 xs st) := by
  intro x st ex st' h
  unfold bMin2 at h
  repeat (first | (split at h) | cases h)
theorem quiet_intB : ∀ xs st, Quiet (bIntB xs st) := by
  intro x st ex st' h
  unfold bIntB at h
  repeat (first | (split at h) | cases h)
theorem quiet_ofBools {f : List Bool → Store → R Val} (hf : ∀ ns st, Quiet (f ns st)) : ∀ xs st, Quiet (ofBools f xs st) := by
  intro x st ex st' h
  unfold ofBools at h
  repeat (first | exact hf _ _ _ _ h | (split at h) | cases h)
theorem quiet_all : ∀ xs st, Quiet (bAll xs st) := quiet_ofBools fun ns st x s h => by cases h
theorem quiet_list : ∀ xs st, Quiet (bList xs st) := by
  intro x st ex st' h
  unfold bList at h
  repeat (first | (split at h) | cases h)
theorem quiet_tuple : ∀ xs st, Quiet (bTuple xs st) := by
  intro x st ex st' h
  unfold bTuple at h
  repeat (first | (split at h) | cases h)
end
end Ab

set_option Elab.async false
set_option linter.all false
set_option maxRecDepth 100000
/-! Ab: methods of built-in types, stores by place, what else is walked. -/
namespace Ab
open PySem PySem.Spec L2

/-! ### methods of built-in types -/
def rM (K : PySem.W.Frag) (mg : Str → Option Value) (g : Val → List Val → Store → R Val) : V → List V → Hp → VK → Prop := fun x vs H Q =>
  ∃ ι st w ws, Sim K mg ι st H ∧ Rep mg ι H w x ∧ Reps mg ι H ws vs ∧ Post K mg (rel1 mg) ι H Q (fun _ _ _ => False) (g w ws st)
@[reducible] def tyOk (T : String) : Val → Store → Bool
  | .str _, _ => decide (T = "str")
  | .ref n, st => match st[n]? with
    | some (.lst _) => decide (T = "list")
    | some (.frz _) => decide (T = "list")
    | some (.dct _) => decide (T = "dict")
    | _ => false
  | _, _ => false
theorem tyOk_tyV {K : PySem.W.Frag} {mg : Str → Option Value} {ι : List Addr} {st : Store} {H : Hp} (S : Sim K mg ι st H) {T : String} {w : Val} {v : V} (r : Rep mg ι H w v) (h : tyOk T w st = true) : tyV K T v H := by
  cases w with
  | str z =>
    have e := r.str_inv
    subst e
    show T = "str"
    exact of_decide_eq_true h
  | ref n =>
    obtain ⟨a, e, ha⟩ := r.ref_inv
    subst e
    dsimp only [tyOk] at h
    split at h
    · rename_i xs ec
      obtain ⟨vs, h1, _⟩ := S.at ec ha
      exact .inl ⟨of_decide_eq_true h, vs, SqL.of h1⟩
    · rename_i xs ec
      obtain ⟨vs, h1, _⟩ := (S.at ec ha).seq
      exact .inl ⟨of_decide_eq_true h, vs, h1⟩
    · rename_i xs ec
      obtain ⟨vs, h1, _⟩ := S.at ec ha
      exact .inr (.inr (.inl ⟨of_decide_eq_true h, .inl ⟨vs, h1⟩⟩))
    · cases h
  | _ => cases h
@[reducible] def mBM (T : String) (g : Val → List Val → Store → R Val) (mo : ME) (t : MA) : ME := fun ρ st => (mo ρ st).bind fun x st1 => if tyOk T x st1 = true then (t ρ st1).bind fun ws st2 => g x ws st2 else .bad
section
variable {X : Cx} {o e : Expr} {es : List Expr} {mo : ME} {t : MA} {name : Str} {apos cpos : Pos} {T id : String} {g : Val → List Val → Store → R Val}
theorem je_bm (pa : PlainAttrs T) (slot : Slot T name id) (hty : typeOf (.builtin id) = pure (.type "method_descriptor")) (hm : MtR X id (rM X.K X.mg g)) (hq : ∀ x ws st, Quiet (g x ws st)) (ho : JE X o mo) (ha : JA X (e :: es) t)
    (hbase : attributeBase o name X.env (eval o X.env) = eval o X.env := by rfl)
    (hfew : ((backTo cpos (starEach (e :: es) X.env)).all (fun x => !x.1) && (backToKw cpos (keywordEach [] X.env)).all (fun x => x.1.isSome)
      && decide ((e :: es).length + ([] : List Keyword).length + (if ([] : List Keyword).isEmpty then 0 else 1) < 30)) = true := by rfl)
    (hline : (apos.endLine == cpos.line) = true := by rfl) (hs : starEach (e :: es) X.env = (false, eval e X.env) :: starEach es X.env := by rfl) (hplain : (backTo cpos (starEach es X.env)).any (·.1) = false := by rfl) :
    JE X (.Call (.Attribute o name apos) (e :: es) [] cpos) (mBM T g mo t) := fun W tk => by
  refine PE.weak (pe_bm pa slot hty hm (ho W tk) (ha W tk) hbase hfew hline hs hplain) fun σ H Q ⟨ι, ρ, st, S, sl, p⟩ => ?_
  refine ⟨ι, ρ, st, S, sl, Post.bind p fun w st1 ι1 H1 x l1 S1 r1 p1 => ?_⟩
  split at p1
  · rename_i hT
    refine ⟨tyOk_tyV S1 r1 hT, ι1, ρ, st1, S1, sl.later l1, Post.bind p1 fun ws st2 ι2 H2 vs l2 S2 r2 p2 => ?_⟩
    exact ⟨ι2, st2, w, ws, S2, Rep.later l2 r1, r2, noExc (hq _ _ _) p2⟩
  · exact p1.elim
end
/-- a list is written -/
theorem Post.setLst {K : PySem.W.Frag} {mg : Str → Option Value} {ι : List Addr} {st : Store} {H : Hp} (S : Sim K mg ι st H) {n : Nat} {xs ys : List Val} {vs us : List V} {a : Addr} (h : st[n]? = some (.lst xs)) (ha : ι[n]? = some a) (hH : H a = some (.lst vs)) (r : Reps mg ι H ys us)
    {Q : V → Hp → Prop} {E : Value → Option Addr → Hp → Prop} {w : Val} {v : V} (rw_ : Rep mg ι H w v) (p : Post K mg (rel1 mg) ι H Q E (.ok w (st.set n (.lst ys)))) : Q v (upd H a (.lst us)) := by
  have l : Later ι H ι (upd H a (.lst us)) := ⟨⟨[], by simp⟩, fun b xs e => by rw [upd_ne fun q => by subst q; rw [hH] at e; cases e]; exact e⟩
  obtain ⟨S', l'⟩ := S.write (c' := .lst ys) (o' := .lst us) h ha rfl rfl hH (fun _ e => by cases e) (fun _ _ e => by cases e) ⟨us, upd_same, r.later l⟩
  exact p ι _ v l' S' (Rep.later l' rw_)
@[reducible] def vAppend : Val → List Val → Store → R Val
  | .ref n, [y], st => match st[n]? with
    | some (.lst xs) => if xs.length < sizeLine then .ok .non (st.set n (.lst (xs ++ [y]))) else .bad
    | _ => .bad
  | _, _, _ => .bad
@[reducible] def vExtend : Val → List Val → Store → R Val
  | .ref n, [.ref m], st => match st[n]?, st[m]? with
    | some (.lst xs), some (.lst ys) => if xs.length + ys.length ≤ sizeLine then .ok .non (st.set n (.lst (xs ++ ys))) else .bad
    | _, _ => .bad
  | _, _, _ => .bad
/-- the first place -/
def placeW (y : Val) : List Val → Option Nat
  | [] => none
  | x :: r => if eqW x y then some 0 else (placeW y r).map (· + 1)
@[reducible] def vIndex : Val → List Val → Store → R Val
  | .ref n, [y], st => match seqAt st n with
    | some xs => if flatW y && xs.all flatW then match placeW y xs with
        | some j => .ok (.int j) st
        | none => .bad
      else .bad
    | none => .bad
  | _, _, _ => .bad
section
variable {X : Cx}
theorem placeW_spec {y : Val} : ∀ {xs : List Val} {j : Nat}, placeW y xs = some j → (∃ z, xs[j]? = some z ∧ eqW z y = true) ∧ ∀ (m : Nat) z, m < j → xs[m]? = some z → eqW z y = false
  | x :: r, j, h => by
    unfold placeW at h
    split at h
    · rename_i hx
      cases h
      exact ⟨⟨x, rfl, hx⟩, fun m z hm => by omega⟩
    · rename_i hx
      cases q : placeW y r with
      | none => rw [q] at h; cases h
      | some k =>
        rw [q] at h
        cases h
        obtain ⟨⟨z, h1, h2⟩, h3⟩ := placeW_spec q
        refine ⟨⟨z, by simpa using h1, h2⟩, fun m z hm hz => ?_⟩
        cases m with
        | zero =>
          simp at hz
          subst hz
          cases q : eqW x y with
          | true => exact absurd q hx
          | false => rfl
        | succ m =>
          have hm : m + 1 < k + 1 := hm
          exact h3 m z (by omega) (by simpa using hz)
theorem mt_append' : MtR X "list.append" (rM X.K X.mg vAppend) := by
  rintro pins s σ H x xs v us Q I rx rs ⟨ι, st, w, ws, S, r1, r2, p⟩
  unfold vAppend at p
  split at p
  · rename_i n y
    obtain ⟨a, e, ha⟩ := r1.ref_inv
    obtain ⟨z, e2, hz⟩ := r2.one
    subst e e2
    split at p
    · rename_i ys ec
      obtain ⟨vs, h1, rr⟩ := S.at ec ha
      split at p
      · rename_i hl
        exact mt_append pins s σ H _ _ v us Q I rx rs ⟨a, vs, z, rfl, rfl, h1, by rw [← rr.length]; exact hl, Post.setLst S ec ha h1 (rr.append (Reps.cons hz Reps.nil)) Rep.non p⟩
      · exact p.elim
    · exact p.elim
  · exact p.elim
theorem mt_extend' : MtR X "list.extend" (rM X.K X.mg vExtend) := by
  rintro pins s σ H x xs v us Q I rx rs ⟨ι, st, w, ws, S, r1, r2, p⟩
  unfold vExtend at p
  split at p
  · rename_i n m
    obtain ⟨a, e, ha⟩ := r1.ref_inv
    obtain ⟨z, e2, hz⟩ := r2.one
    obtain ⟨b, e3, hb⟩ := hz.ref_inv
    subst e e2 e3
    split at p
    · rename_i xs ys ec ec2
      obtain ⟨vs, h1, rr⟩ := S.at ec ha
      obtain ⟨vs2, h2, rr2⟩ := S.at ec2 hb
      split at p
      · rename_i hl
        exact mt_extend pins s σ H _ _ v us Q I rx rs ⟨a, b, vs, vs2, rfl, rfl, h1, h2, by rw [← rr.length, ← rr2.length]; exact hl, Post.setLst S ec ha h1 (rr.append rr2) Rep.non p⟩
      · exact p.elim
    · exact p.elim
  · exact p.elim
theorem mt_index' : MtR X "list.index" (rM X.K X.mg vIndex) := by
  rintro pins s σ H x xs v us Q I rx rs ⟨ι, st, w, ws, S, r1, r2, p⟩
  unfold vIndex at p
  split at p
  · rename_i n y
    obtain ⟨a, e, ha⟩ := r1.ref_inv
    obtain ⟨z, e2, hz⟩ := r2.one
    subst e e2
    split at p
    · rename_i ys es
      obtain ⟨vs, hl, rr⟩ := S.seqL es ha
      split at p
      · rename_i hf
        rw [Bool.and_eq_true] at hf
        split at p
        · rename_i j ej
          obtain ⟨⟨u, h1, h2⟩, h3⟩ := placeW_spec ej
          obtain ⟨uv, g1, g2⟩ := rr.get h1
          have fl : ∀ {m : Nat} {q : Val}, ys[m]? = some q → flatW q = true := fun {m q} hq => List.all_eq_true.mp hf.2 q (List.mem_of_getElem? hq)
          refine mt_index pins s σ H _ _ v us Q I rx rs ⟨a, vs, z, j, uv, rfl, rfl, hl, (flatW_rep hz hf.1).1, flats' rr hf.2, g1, ?_, fun m z' hm hz' => ?_, p.okSame S Rep.int⟩
          · rw [(flatW_rep hz hf.1).2 g2 (fl h1)]; exact h2
          · obtain ⟨q, hq, rq⟩ := rr.get' hz'
            rw [(flatW_rep hz hf.1).2 rq (fl hq)]
            exact h3 m q hm hq
        · exact p.elim
      · exact p.elim
    · exact p.elim
  · exact p.elim
theorem quiet_append : ∀ x ws st, Quiet (vAppend x ws st) := by
  intro x y st ex st' h
  unfold vAppend at h
  repeat (first | (split at h) | cases h)
theorem quiet_extend : ∀ x ws st, Quiet (vExtend x ws st) := by
  intro x y st ex st' h
  unfold vExtend at h
  repeat (first | (split at h) | cases h)
theorem quiet_index : ∀ x ws st, Quiet (vIndex x ws st) := by
  intro x y st ex st' h
  unfold vIndex at h
  repeat (first | (split at h) | cases h)
variable {o e : Expr} {mo : ME} {t : MA} {apos cpos : Pos} {me : ME}
theorem je_append (ho : JE X o mo) (he : JE X e me) (hbase : attributeBase o "append" X.env (eval o X.env) = eval o X.env := by rfl)
    (hfew : ((backTo cpos (starEach [e] X.env)).all (fun x => !x.1) && (backToKw cpos (keywordEach [] X.env)).all (fun x => x.1.isSome)
      && decide ([e].length + ([] : List Keyword).length + (if ([] : List Keyword).isEmpty then 0 else 1) < 30)) = true := by rfl)
    (hline : (apos.endLine == cpos.line) = true := by rfl) (hs : starEach [e] X.env = (false, eval e X.env) :: starEach [] X.env := by rfl) : JE X (.Call (.Attribute o "append" apos) [e] [] cpos) (mBM "list" vAppend mo (aCons me aNil)) :=
  je_bm PySem.F.plainAttrs_list PySem.F.slot_list_append PySem.F.type_list_append mt_append' quiet_append ho (ja_cons he ja_nil hs) hbase hfew hline hs rfl
theorem je_extend (ho : JE X o mo) (he : JE X e me) (hbase : attributeBase o "extend" X.env (eval o X.env) = eval o X.env := by rfl)
    (hfew : ((backTo cpos (starEach [e] X.env)).all (fun x => !x.1) && (backToKw cpos (keywordEach [] X.env)).all (fun x => x.1.isSome)
      && decide ([e].length + ([] : List Keyword).length + (if ([] : List Keyword).isEmpty then 0 else 1) < 30)) = true := by rfl)
    (hline : (apos.endLine == cpos.line) = true := by rfl) (hs : starEach [e] X.env = (false, eval e X.env) :: starEach [] X.env := by rfl) : JE X (.Call (.Attribute o "extend" apos) [e] [] cpos) (mBM "list" vExtend mo (aCons me aNil)) :=
  je_bm PySem.F.plainAttrs_list PySem.F.slot_list_extend PySem.F.type_list_extend mt_extend' quiet_extend ho (ja_cons he ja_nil hs) hbase hfew hline hs rfl
theorem je_index (ho : JE X o mo) (he : JE X e me) (hbase : attributeBase o "index" X.env (eval o X.env) = eval o X.env := by rfl)
    (hfew : ((backTo cpos (starEach [e] X.env)).all (fun x => !x.1) && (backToKw cpos (keywordEach [] X.env)).all (fun x => x.1.isSome)
      && decide ([e].length + ([] : List Keyword).length + (if ([] : List Keyword).isEmpty then 0 else 1) < 30)) = true := by rfl)
    (hline : (apos.endLine == cpos.line) = true := by rfl) (hs : starEach [e] X.env = (false, eval e X.env) :: starEach [] X.env := by rfl) : JE X (.Call (.Attribute o "index" apos) [e] [] cpos) (mBM "list" vIndex mo (aCons me aNil)) :=
  je_bm PySem.F.plainAttrs_list PySem.F.slot_list_index PySem.F.type_list_index mt_index' quiet_index ho (ja_cons he ja_nil hs) hbase hfew hline hs rfl
end

/-! ### xs[i] = e, as a target -/
@[reducible] def gSubL (mo mi : ME) : MG := fun w ρ st => match mo ρ st with
  | .ok x st1 => match mi ρ st1 with
    | .ok i st2 => match x, i with
      | .ref n, .int k => match st2[n]? with
        | some (.lst xs) => match ixN xs.length k with
          | some j => some (ρ, st2.set n (.lst (xs.set j w)))
          | none => none
        | _ => none
      | _, _ => none
    | _ => none
  | _ => none
theorem jg_sub {X : Cx} {o i : Expr} {mo mi : ME} {pos : Pos} (ho : JE X o mo) (hi : JE X i mi)
    (ha : ∀ v, assign (.Subscript o i pos) X.env v = (do
      let ov ← holding [v] (eval o X.env)
      let iv ← holding [v, ov] (eval i X.env)
      standAt pos
      holding [v, ov, iv] (setItem ov iv v)
      release [v, ov, iv] []) := by intro _; rfl) (tk : Takes X W0 := takes0) : JG X (.Subscript o i pos) [] (gSubL mo mi) :=
  PG.weak (pg_sub (ho W0 tk) (hi W0 tk) set_list ha) fun v σ H Q ⟨ι, ρ, st, w, S, sl, r, p⟩ => by
    dsimp only [gSubL] at p
    refine ⟨ι, ρ, st, S, sl, ?_⟩
    cases q1 : mo ρ st with
    | bad => rw [q1] at p; exact p.elim
    | exc x s => rw [q1] at p; exact p.elim
    | ok x st1 =>
      rw [q1] at p
      intro ι1 H1 xv l1 S1 r1
      have sl1 := sl.later l1
      refine ⟨ι1, ρ, st1, S1, sl1, ?_⟩
      dsimp only at p
      cases q2 : mi ρ st1 with
      | bad => rw [q2] at p; exact p.elim
      | exc x s => rw [q2] at p; exact p.elim
      | ok i st2 =>
        rw [q2] at p
        intro ι2 H2 iv l2 S2 r2
        have sl2 := sl1.later l2
        dsimp only at p
        split at p
        · rename_i n k
          obtain ⟨a, e, hA⟩ := r1.ref_inv
          have e2 := r2.int_inv
          subst e e2
          have hA2 := l2.get hA
          split at p
          · rename_i xs ec
            obtain ⟨vs, h1, rr⟩ := S2.at ec hA2
            split at p
            · rename_i j ej
              refine ⟨a, vs, k, j, rfl, rfl, h1, by rw [← rr.length]; exact ej, ?_⟩
              have l3 : Later ι2 H2 ι2 (upd H2 a (.lst (vs.set j v))) := ⟨⟨[], by simp⟩, fun b xs e => by rw [upd_ne fun q => by subst q; rw [h1] at e; cases e]; exact e⟩
              obtain ⟨S3, l3'⟩ := S2.write (c' := .lst (xs.set j w)) (o' := .lst (vs.set j v)) ec hA2 rfl rfl h1 (fun _ e => by cases e) (fun _ _ e => by cases e) ⟨_, upd_same, (Reps.set (Rep.later (l1.trans l2) r) j rr).later l3⟩
              exact p ι2 _ σ ((l1.trans l2).trans l3') S3 (sl2.later l3') (OutS.refl _ _)
            · exact p.elim
          · exact p.elim
        · exact p.elim
@[reducible] def vNeg : Val → Store → R Val
  | .int i, st => .ok (.int (-i)) st
  | _, _ => .bad
theorem je_neg {X : Cx} {e : Expr} {m : ME} {pos : Pos} (h : JE X e m) : JE X (.UnaryOp .USub e pos) (fun ρ st => (m ρ st).bind vNeg) := fun W tk => by
  refine PE.weak (pe_un un_neg (h W tk)) fun σ H Q ⟨ι, ρ, st, S, sl, p⟩ => ?_
  refine ⟨ι, ρ, st, S, sl, Post.bind p fun w st1 ι1 H1 x l1 S1 r1 p1 => ?_⟩
  cases w with
  | int i => exact ⟨i, r1.int_inv, p1.okSame S1 Rep.int⟩
  | _ => exact p1.elim
end Ab

set_option Elab.async false
set_option linter.all false
set_option maxRecDepth 100000
/-! Ab: enumerate and zip over lists and tuples, in any mix. -/
namespace Ab
open PySem PySem.Spec L2

/-- a walk that hands out new tuples, as a turn of the hand layer -/
theorem turn_gen {P : Program} {w : World} {K : PySem.W.Frag} {elts : List Expr} {kk : Nat} {tpos : Pos} {I : Addr} {J : It} (own : List Addr) (Own : Nat → Heap → Prop) (mem : I ∈ own)
    (obj : ∀ i h, Own i h → ∀ b ∈ own, ∃ o, h.get? b = some o ∧ ∀ v, o.data ≠ .cell v)
    (keep : ∀ i h h', Own i h → (∀ b ∈ own, ∀ o, h.get? b = some o → h'.get? b = some o) → Own i h')
    (self : ∀ (A : Around) (i : Nat) (s : Shared) (Q : Value → Shared → Prop) (E : Value → Shared → Prop), Own i s.heap → Q (.ref I) s → wpAny (model P w) A (pyIter (.ref I)) Q E s)
    (item : ∀ (X : Cx), X.prog = P → X.w = w → X.K = K → X.calm = true → ∀ (i : Nat) (pins : List (Addr × Obj)) (s : Shared) (σ : L2.St) (H : Hp), Inv X pins σ H s → Own i s.heap → J.go i H →
      ∃ fp wr n Pt St Mid, WalksT P w X.A I fp wr n Pt St Mid ∧ i < n ∧ St i s.heap ∧ (∀ b ∈ wr, b ∈ own) ∧ (∀ h, St (i + 1) h → Own (i + 1) h) ∧
        ∀ vals, Pt i vals → ∃ xs, Vals xs vals.toList ∧ xs.length ≤ 2 ∧ ∀ T, H T = none → J.yld i H (.ref T) (upd H T (.tup xs)))
    (done : ∀ (X : Cx), X.prog = P → X.w = w → X.K = K → X.calm = true → ∀ (i : Nat) (pins : List (Addr × Obj)) (s : Shared) (σ : L2.St) (H : Hp), Inv X pins σ H s → Own i s.heap → J.stop i H →
      ∀ (E : Value → Shared → Prop) (Q : Option Value → Shared → Prop), (∀ h' tk, (∀ b o, b ∉ own → s.heap.get? b = some o → h'.get? b = some o) → Q none { s with heap := h', toks := tk }) → wpAny (model P w) X.A (pyNext (.ref I)) Q E s) :
    Turn P w K (.Tuple elts kk tpos) J own I Own where
  mem := mem
  obj := obj
  keep := keep
  item := by
    intro X hP hw hK hc i pins s σ H E I hf st hg
    obtain ⟨fp, wr, n, Pt, St, Mid, W, hi, hSt, hwr, hown, hv⟩ := item X hP hw hK hc i pins s σ H I st hg
    subst hP hw hK
    refine W.item i s _ E hi hSt fun T vals h' tk hPt hT hTup hM hk => ?_
    obtain ⟨xs, rv, hl2, hy⟩ := hv vals hPt
    have hap := W.apart i T h' hM
    refine ⟨.ref T, rfl, W.go elts kk tpos i T { s with heap := h', toks := tk } _ E hM fun h'' hSt' hk' => ?_⟩
    have hTn : H T = none := I.hok.fresh hT
    obtain ⟨oT, e1, e2, n', e3⟩ := hTup
    have eT := hk' T oT hap e1
    have new : ObjOk X.prog X.w (upd H T (.tup xs)) h'' T (.tup xs) :=
      ⟨Nat.le_trans hl2 (by decide), vals.toList, rv, ⟨oT, eT, e2, n', by simpa using e3⟩⟩
    have I1 : Inv X pins σ (upd H T (.tup xs)) { s with heap := h'', toks := tk } :=
      I.turnedNew (ch := own) (fun b ob hb q => hk' b ob (fun z => hb (hwr b z)) (hk b ob (fun z => hb (hwr b z)) q)) hf hT new
    refine ⟨.ref T, _, I1, rfl, hy T hTn, hown h'' hSt', fun b hb => ?_⟩
    obtain ⟨o, ho, _⟩ := obj i s.heap st b hb
    rw [upd_ne fun e => by
      have h1 := Heap.lt_size ho
      rw [e] at h1
      exact absurd (Nat.lt_of_lt_of_le h1 hT) (Nat.lt_irrefl _)]
    exact (hf b hb).1
  done := by
    intro X hP hw hK hc i pins s σ H E I hf st hg
    refine done X hP hw hK hc i pins s σ H I st hg E _ fun h' tk hk => ⟨rfl, I.turnedL (ch := own) (fun b o hb q => hk b o hb q) hf⟩
  self := self

/-! ### a source: a list or a tuple -/
def SqB (isT : Bool) (K : PySem.W.Frag) (H : Hp) (a : Addr) (xs : List V) : Prop := if isT = true then SqT K H a xs else SqL K H a xs
def IterB (isT : Bool) (h : Heap) (it a : Addr) (i : Nat) : Prop := if isT = true then h.IsTupleIter it a i else h.IsListIter it a i
def IsB (isT : Bool) (h : Heap) (a : Addr) (its : Array Value) : Prop := if isT = true then h.IsTuple a its else h.IsList a its
def objB (isT : Bool) (a : Addr) : Obj := if isT = true then { cls := .type "tuple_iterator", data := .fields #[.ref a, .int 0 0] } else { cls := .type "list_iterator", data := .fields #[.ref a, .int 0 0] }
theorem drawsB (isT : Bool) {P : Program} {w : World} {A : Around} (hh : A.handled = none) (it a : Addr) (hne : a ≠ it) (its : Array Value) : Draws P w A it [it, a] its.size (fun i v => its[i]? = some v) (fun i h => IterB isT h it a i ∧ IsB isT h a its) := by
  cases isT with
  | true => exact .tuple hh it a hne its
  | false => exact .list hh it a hne its
theorem beginsB (isT : Bool) (a : Addr) (its : Array Value) : Begins (.ref a) (objB isT a) fun h => IsB isT h a its := by
  cases isT with
  | true => exact begins_tuple a its
  | false => exact begins_list a its
theorem IterB.new {isT : Bool} {h : Heap} {it a : Addr} (e : h.get? it = some (objB isT a)) : IterB isT h it a 0 := by
  cases isT with
  | true => exact ⟨_, e, rfl, rfl⟩
  | false => exact ⟨_, e, rfl, rfl⟩
theorem IterB.at {isT : Bool} {h h' : Heap} {it a : Addr} {i : Nat} (x : IterB isT h it a i) (k : ∀ o, h.get? it = some o → h'.get? it = some o) : IterB isT h' it a i := by
  cases isT with
  | true => exact Heap.IsTupleIter.at (show h.IsTupleIter it a i from x) k
  | false => exact Heap.IsListIter.at (show h.IsListIter it a i from x) k
theorem IterB.obj {isT : Bool} {h : Heap} {it a : Addr} {i : Nat} (x : IterB isT h it a i) : ∃ o, h.get? it = some o ∧ ∀ v, o.data ≠ .cell v := by
  cases isT with
  | true =>
    obtain ⟨o, e, c, d⟩ := (show h.IsTupleIter it a i from x)
    exact ⟨o, e, fun v z => by rw [d] at z; cases z⟩
  | false =>
    obtain ⟨o, e, c, d⟩ := (show h.IsListIter it a i from x)
    exact ⟨o, e, fun v z => by rw [d] at z; cases z⟩
theorem Inv.seqB {X : Cx} {pins : List (Addr × Obj)} {σ : L2.St} {H : Hp} {s : Shared} {isT : Bool} {a : Addr} {xs : List V} (I : Inv X pins σ H s) (h : SqB isT X.K H a xs) : ∃ its : List Value, Vals xs its ∧ IsB isT s.heap a its.toArray ∧ a < s.heap.objs.size := by
  cases isT with
  | true =>
    obtain ⟨its, rv, p, _⟩ := I.tuple (show SqT X.K H a xs from h)
    obtain ⟨o, ho, _⟩ := id p
    exact ⟨its, rv, p, Heap.lt_size ho⟩
  | false =>
    obtain ⟨its, rv, p, _⟩ := I.list (show SqL X.K H a xs from h)
    exact ⟨its, rv, p.isList, p.lt⟩
theorem Inv.seqB_inj {X : Cx} {pins : List (Addr × Obj)} {σ : L2.St} {H : Hp} {s : Shared} {isT : Bool} {a : Addr} {xs ys : List V} (I : Inv X pins σ H s) (h : SqB isT X.K H a xs) (h' : SqB isT X.K H a ys) : xs = ys := by
  cases isT with
  | true => exact I.tuple_inj (show SqT X.K H a xs from h) h'
  | false => exact I.list_inj (show SqL X.K H a xs from h) h'

/-! ### enumerate -/
def IteB (isT : Bool) (K : PySem.W.Frag) (a : Addr) : It :=
  ⟨fun i H => ∃ (xs : List V) (x : V), SqB isT K H a xs ∧ xs[i]? = some x, fun i H v H' => ∃ T x, v = .ref T ∧ H T = none ∧ H' = upd H T (.tup [.int (i : Nat), x]) ∧ ∀ xs, SqB isT K H a xs → xs[i]? = some x, fun i H => ∃ xs : List V, SqB isT K H a xs ∧ i = xs.length⟩
theorem turn_enumB (isT : Bool) {P : Program} {w : World} {K : PySem.W.Frag} {elts : List Expr} {kk : Nat} {tpos : Pos} (a e it : Addr) :
    Turn P w K (.Tuple elts kk tpos) (IteB isT K a) [e, it] e (fun i h => (∃ old, IsEnum h e it ((i : Nat) : Int) old) ∧ IterB isT h it a i ∧ e ≠ it ∧ a ≠ it ∧ a ≠ e) := by
  refine turn_gen [e, it] _ (by simp) (fun i h st b hb => ?_) (fun i h h' st k => ?_) (fun A i s Q E st h => let ⟨⟨_, he⟩, _⟩ := st; wpAny_pyIter_enum he h) ?_ ?_
  · obtain ⟨⟨old, he⟩, hit, _⟩ := st
    have e' : b = e ∨ b = it := by simpa using hb
    rcases e' with z | z
    · rw [z]; exact ⟨_, he, fun v q => nomatch q⟩
    · rw [z]; exact hit.obj
  · obtain ⟨⟨old, he⟩, hi, hne⟩ := st
    exact ⟨⟨old, k e (by simp) _ he⟩, hi.at fun o q => k it (by simp) o q, hne⟩
  · intro X hP hw hK hc i pins s σ H I st hg
    subst hP hw hK
    obtain ⟨⟨old, he⟩, hit, hne, hai, hae⟩ := st
    obtain ⟨xs, x, hq, hx⟩ := hg
    obtain ⟨its, rv, p, hlt⟩ := Inv.seqB I hq
    have D := drawsB isT (P := X.prog) (w := X.w) (A := X.A.in1) (I.ok.hd hc) it a hai its.toArray
    refine ⟨_, _, _, _, _, _, WalksT.enumerateD D e hne (by simp [hne, Ne.symm hae]) (by simp), ?_, ⟨⟨old, he⟩, hit, p⟩, fun b hb => hb, fun h z => ⟨z.1, z.2.1, hne, hai, hae⟩, ?_⟩
    · rw [List.size_toArray, ← rv.length]; exact (List.getElem?_eq_some_iff.mp hx).1
    · rintro vals ⟨t, u, hu, rfl⟩
      obtain ⟨u', hu', ru⟩ := rv.get hx
      have : u = u' := by simpa [hu'] using hu.symm
      subst this
      exact ⟨[.int i, x], .cons ⟨_, rfl⟩ (.cons ru .nil), by simp, fun T hT => ⟨T, x, rfl, hT, rfl, fun ys hy => by rw [Inv.seqB_inj I hy hq]; exact hx⟩⟩
  · intro X hP hw hK hc i pins s σ H I st hg E Q hQ
    subst hP hw hK
    obtain ⟨⟨old, he⟩, hit, hne, hai, hae⟩ := st
    obtain ⟨xs, hq, hx⟩ := hg
    obtain ⟨its, rv, p, hlt⟩ := Inv.seqB I hq
    have D := drawsB isT (P := X.prog) (w := X.w) (A := X.A.in1) (I.ok.hd hc) it a hai its.toArray
    have hl : its.toArray.size = i := by rw [List.size_toArray, ← rv.length, hx]
    have W := WalksT.enumerateD D e hne (by simp [hne, Ne.symm hae]) (by simp)
    refine W.done s Q E (by rw [hl]; exact ⟨⟨old, he⟩, hit, p⟩) fun h' tk hk => hQ h' tk hk
open Sem (wp) in
set_option maxHeartbeats 1000000 in
theorem meets_enumerate_new1 {v : Value} {o : Obj} {H : Heap → Prop} (B : Begins v o H) :
    Meets (Builtin.«enumerate.__new__» ⟨[.type "enumerate", v], []⟩) (fun _ R s => H s.heap ∧
      R (.ok (.ret (.ref (s.heap.push o).objs.size))) { s with heap := (s.heap.push o).push { cls := .type "enumerate", data := .fields #[.none, .bool false, .ref s.heap.objs.size, rawInt 0, .none, .none] } }) :=
  .of_wp fun prog w A R s h => by
    obtain ⟨hp, g, d, tk, os⟩ := s; obtain ⟨h1, h⟩ := h
    have hsub := sub_enumerate
    have q1 : ∀ {A' : Around} {E : Value → Shared → Prop} {Q : Value → Shared → Prop}, Q (.ref hp.objs.size) ⟨hp.push o, g, d, tk, os⟩ → wpAny (model prog w) A' (pyIter v) Q E ⟨hp, g, d, tk, os⟩ :=
      fun q => B.iter prog w _ _ ⟨hp, g, d, tk, os⟩ _ h1 q
    wp_walk using q1
    refine wpAny_stack_any fun st => wpAny_pure ?_
    split
    · rename_i c _ _ _ _ _
      cases (c == Value.type "enumerate")
      · wp_walk using q1
        exact ⟨_, rfl, h⟩
      · wp_walk using q1
        exact ⟨_, rfl, h⟩
    · wp_walk using q1
      exact ⟨_, rfl, h⟩
theorem call_enum1 {P : Program} {w : World} {A : Around} {E : Value → Shared → Prop} {s : Shared} {v : Value} {o : Obj} {H : Heap → Prop} {Q : Value → Shared → Prop} (B : Begins v o H) (h1 : H s.heap)
    (h : ∀ h', IsEnum h' (s.heap.objs.size + 1) s.heap.objs.size 0 .none → h'.get? s.heap.objs.size = some o → (∀ b o, s.heap.get? b = some o → h'.get? b = some o) → Q (.ref (s.heap.objs.size + 1)) { s with heap := h' }) :
    wpAny (model P w) A (call (.type "enumerate") [v]) Q E s := by
  refine callType_new F.called_enumerate (by decide) (F.typeCall_enumerate_1 _) (F.newCall_enumerate_1 _) (fun obj => F.args_object_init_2 obj _) F.entry_enumerate_new
    (meets_enumerate_new1 B) ⟨h1, ?_⟩
  have hz : (s.heap.push o).objs.size = s.heap.objs.size + 1 := Heap.size_push ..
  show _ ∧ _
  rw [hz]
  have he : IsEnum ((s.heap.push o).push { cls := .type "enumerate", data := .fields #[.none, .bool false, .ref s.heap.objs.size, rawInt 0, .none, .none] }) (s.heap.objs.size + 1) s.heap.objs.size 0 .none := by
    have := Heap.get?_push_size (s.heap.push o) (o := { cls := .type "enumerate", data := .fields #[.none, .bool false, .ref s.heap.objs.size, rawInt 0, .none, .none] }) rfl
    rw [hz] at this; exact this
  exact ⟨⟨_, he, rfl⟩, h _ he (Heap.get?_push_of_some _ (Heap.get?_push_size _ B.free)) fun b o x => Heap.get?_push_of_some _ (Heap.get?_push_of_some _ x)⟩
theorem boot_enumerate' : bootBuiltins "enumerate" = some (.type "enumerate") := by decide +kernel
def iEnumB (K : PySem.W.Frag) (ta : TA) : TI := fun σ H R => ta σ H fun vs H1 => ∃ isT a xs, vs = [.ref a] ∧ SqB isT K H1 a xs ∧ R (IteB isT K a) H1
theorem pi_enumB {X : Cx} {e : Expr} {ta : TA} {p pos tpos : Pos} {elts : List Expr} {kk : Nat} (hg : Gl X "enumerate") (hm : X.mg "enumerate" = none) (ha : PA X [e] ta) (hs : starEach [e] X.env = [(false, eval e X.env)] := by rfl) :
    PI X (.Tuple elts kk tpos) (.Call (.Name "enumerate" p) [e] [] pos) (iEnumB X.K ta) := by
  refine ⟨fun pins s σ H R I h => ?_⟩
  refine PyProof.Rows.Call_ (ld_blt I hg hm boot_enumerate' (PyProof.Rows.callWith_type1 (thn (ha.run pos pins s σ H _ I h) fun us s1 ⟨vs, H1, I1, r1, q1⟩ => ?_) hs rfl))
  obtain ⟨isT, a, xs, ex, hq, q⟩ := q1
  subst ex
  cases r1 with
  | cons r rr =>
    cases rr
    cases r
    obtain ⟨its, rv, p', hz⟩ := Inv.seqB I1 hq
    refine call_enum1 (beginsB isT a its.toArray) p' fun h' he hit hk => wpAny_pyIter_enum he ?_
    have I2 : Inv X pins σ H1 { s1 with heap := h' } := I1.kept (t' := s1.toks) hk
    refine ⟨s1.heap.objs.size + 1, [s1.heap.objs.size + 1, s1.heap.objs.size], _, _, H1, rfl, I2, turn_enumB isT a (s1.heap.objs.size + 1) s1.heap.objs.size, ⟨⟨.none, he⟩, .new hit, Nat.succ_ne_self _, Nat.ne_of_lt hz, Nat.ne_of_lt (Nat.lt_succ_of_lt hz)⟩, fun b hb => ?_, q⟩
    have e' : b = s1.heap.objs.size + 1 ∨ b = s1.heap.objs.size := by simpa using hb
    have hle : s1.heap.objs.size ≤ b := by
      rcases e' with z | z
      · rw [z]; exact Nat.le_add_right _ _
      · rw [z]; exact Nat.le_refl _
    exact I1.fpOk hle (I1.hok.fresh hle)

/-! ### zip -/
def ItzB (i1T i2T : Bool) (K : PySem.W.Frag) (a b : Addr) : It :=
  ⟨fun i H => ∃ (xs ys : List V) (x y : V), SqB i1T K H a xs ∧ SqB i2T K H b ys ∧ xs[i]? = some x ∧ ys[i]? = some y,
    fun i H v H' => ∃ T x y, v = .ref T ∧ H T = none ∧ H' = upd H T (.tup [x, y]) ∧ (∀ xs, SqB i1T K H a xs → xs[i]? = some x) ∧ ∀ ys, SqB i2T K H b ys → ys[i]? = some y,
    fun i H => ∃ xs ys : List V, SqB i1T K H a xs ∧ SqB i2T K H b ys ∧ i = min xs.length ys.length⟩
theorem turn_zipB (i1T i2T : Bool) {P : Program} {w : World} {K : PySem.W.Frag} {elts : List Expr} {kk : Nat} {tpos : Pos} {a b z TI TO i1 i2 : Addr} (D : ZipSep2 z TI TO i1 i2 [i1, a] [i2, b]) (hab : a ≠ i1 ∧ b ≠ i2) :
    Turn P w K (.Tuple elts kk tpos) (ItzB i1T i2T K a b) [z, TI, TO, i1, i2] z (fun i h => IsZip h z TI TO .none ∧ IsTupOf2 h TI (.ref i1) (.ref i2) ∧ (∃ x y, IsTupOf2 h TO x y) ∧ IterB i1T h i1 a i ∧ IterB i2T h i2 b i) := by
  have mk : ∀ (X : Cx), X.prog = P → X.w = w → X.calm = true → ∀ {pins : List (Addr × Obj)} {σ : L2.St} {H : Hp} {s : Shared}, Inv X pins σ H s → ∀ (its its2 : Array Value), WalksT P w X.A z (z :: TI :: TO :: ([i1, a] ++ [i2, b])) [z, TO, i1, i2] (min its.size its2.size)
      (fun i vals => ∃ x1 x2, its[i]? = some x1 ∧ its2[i]? = some x2 ∧ vals = #[x1, x2])
      (fun i h => IsZip h z TI TO .none ∧ IsTupOf2 h TI (.ref i1) (.ref i2) ∧ (∃ a1 a2, IsTupOf2 h TO a1 a2) ∧ (IterB i1T h i1 a i ∧ IsB i1T h a its) ∧ (IterB i2T h i2 b i ∧ IsB i2T h b its2))
      (fun i T h => IsZip h z TI TO (rawInt T) ∧ IsTupOf2 h TI (.ref i1) (.ref i2) ∧ (∃ a1 a2, IsTupOf2 h TO a1 a2) ∧ (IterB i1T h i1 a (i + 1) ∧ IsB i1T h a its) ∧ (IterB i2T h i2 b (i + 1) ∧ IsB i2T h b its2) ∧ T ≠ z ∧ T ≠ TO ∧ T ≠ i1 ∧ T ≠ i2) := by
    intro X hP hw hc pins σ H s I its its2
    subst hP hw
    exact WalksT.zipD2 D (drawsB i1T (A := X.A.in1) (I.ok.hd hc) i1 a hab.1 its) (drawsB i2T (A := X.A.in1) (I.ok.hd hc) i2 b hab.2 its2)
  refine turn_gen [z, TI, TO, i1, i2] _ (by simp) (fun i h st c hc => ?_) (fun i h h' st k => ?_) (fun A i s Q E st h => wpAny_pyIter_zip st.1 h) ?_ ?_
  · obtain ⟨hz, hTI, ⟨x, y, hTO⟩, h1, h2⟩ := st
    have e' : c = z ∨ c = TI ∨ c = TO ∨ c = i1 ∨ c = i2 := by simpa using hc
    rcases e' with q | q | q | q | q
    · rw [q]; exact ⟨_, hz, fun v q => nomatch q⟩
    · rw [q]; exact ⟨_, hTI, fun v q => nomatch q⟩
    · rw [q]; exact ⟨_, hTO, fun v q => nomatch q⟩
    · rw [q]; exact h1.obj
    · rw [q]; exact h2.obj
  · obtain ⟨hz, hTI, ⟨x, y, hTO⟩, h1, h2⟩ := st
    exact ⟨k z (by simp) _ hz, k TI (by simp) _ hTI, ⟨x, y, k TO (by simp) _ hTO⟩, h1.at fun o q => k i1 (by simp) o q, h2.at fun o q => k i2 (by simp) o q⟩
  · intro X hP hw hK hc i pins s σ H I st hg
    obtain ⟨hz, hTI, hTO, h1, h2⟩ := st
    obtain ⟨xs, ys, x, y, hqx, hqy, hx, hy⟩ := hg
    subst hK
    obtain ⟨its, rv, p, _⟩ := Inv.seqB I hqx
    obtain ⟨its2, rv2, p2, _⟩ := Inv.seqB I hqy
    refine ⟨_, _, _, _, _, _, mk X hP hw hc I its.toArray its2.toArray, ?_, ⟨hz, hTI, hTO, ⟨h1, p⟩, ⟨h2, p2⟩⟩, fun c hc => ?_, fun h z => ⟨z.1, z.2.1, z.2.2.1, z.2.2.2.1.1, z.2.2.2.2.1⟩, ?_⟩
    · have a1 := (List.getElem?_eq_some_iff.mp hx).1
      have a2 := (List.getElem?_eq_some_iff.mp hy).1
      have b1 := rv.length
      have b2 := rv2.length
      simp only [List.size_toArray]
      omega
    · have e' : c = z ∨ c = TO ∨ c = i1 ∨ c = i2 := by simpa using hc
      rcases e' with q | q | q | q <;> simp [q]
    · rintro vals ⟨u1, u2, hu1, hu2, rfl⟩
      obtain ⟨v1, hv1, r1⟩ := rv.get hx
      obtain ⟨v2, hv2, r2⟩ := rv2.get hy
      have e1 : u1 = v1 := by simpa [hv1] using hu1.symm
      have e2 : u2 = v2 := by simpa [hv2] using hu2.symm
      subst e1 e2
      exact ⟨[x, y], .cons r1 (.cons r2 .nil), by simp, fun T hT => ⟨T, x, y, rfl, hT, rfl, fun l hl => by rw [Inv.seqB_inj I hl hqx]; exact hx, fun l hl => by rw [Inv.seqB_inj I hl hqy]; exact hy⟩⟩
  · intro X hP hw hK hc i pins s σ H I st hg E Q hQ
    obtain ⟨hz, hTI, hTO, h1, h2⟩ := st
    obtain ⟨xs, ys, hqx, hqy, hend⟩ := hg
    subst hK
    obtain ⟨its, rv, p, _⟩ := Inv.seqB I hqx
    obtain ⟨its2, rv2, p2, _⟩ := Inv.seqB I hqy
    have W := mk X hP hw hc I its.toArray its2.toArray
    have hn : min its.toArray.size its2.toArray.size = i := by
      have b1 := rv.length
      have b2 := rv2.length
      simp only [List.size_toArray]
      omega
    refine W.done s Q E (by rw [hn]; exact ⟨hz, hTI, hTO, ⟨h1, p⟩, ⟨h2, p2⟩⟩) fun h' tk hk => hQ h' tk fun c o hc => hk c o fun hm => hc ?_
    have e' : c = z ∨ c = TO ∨ c = i1 ∨ c = i2 := by simpa using hm
    rcases e' with q | q | q | q <;> simp [q]
def iZipB (K : PySem.W.Frag) (ta : TA) : TI := fun σ H R => ta σ H fun vs H1 => ∃ b1 b2 a b xs ys, vs = [.ref a, .ref b] ∧ SqB b1 K H1 a xs ∧ SqB b2 K H1 b ys ∧ R (ItzB b1 b2 K a b) H1
theorem pi_zipB {X : Cx} {e e2 : Expr} {ta : TA} {p pos tpos : Pos} {elts : List Expr} {kk : Nat} (hg : Gl X "zip") (hm : X.mg "zip" = none) (ha : PA X [e, e2] ta)
    (hs : starEach [e, e2] X.env = (false, eval e X.env) :: starEach [e2] X.env := by rfl) (hpl : (backTo pos (starEach [e2] X.env)).any (·.1) = false := by rfl) :
    PI X (.Tuple elts kk tpos) (.Call (.Name "zip" p) [e, e2] [] pos) (iZipB X.K ta) := by
  refine ⟨fun pins s σ H R I h => ?_⟩
  refine PyProof.Rows.Call_ (ld_blt I hg hm PyProof.Rows.boot_zip (PyProof.Rows.callWith_type1 (thn (ha.run pos pins s σ H _ I h) fun us s1 ⟨vs, H1, I1, r1, q1⟩ => ?_) hs hpl))
  obtain ⟨b1, b2, a, b, xs, ys, ex, hqx, hqy, q⟩ := q1
  subst ex
  cases r1 with
  | cons r rr =>
    cases rr with
    | cons r' rr =>
      cases rr
      cases r
      cases r'
      obtain ⟨its, rv, p1, l1⟩ := Inv.seqB I1 hqx
      obtain ⟨its2, rv2, p2, l2⟩ := Inv.seqB I1 hqy
      refine zip_begins2 (beginsB b1 a its.toArray) (beginsB b2 b its2.toArray) p1 p2 fun h' hz hTI hTO h1 h2 hsz hk => wpAny_pyIter_zip hz ?_
      have I2 : Inv X pins σ H1 { s1 with heap := h' } := I1.kept (t' := s1.toks) hk
      refine ⟨s1.heap.objs.size + 4, [s1.heap.objs.size + 4, s1.heap.objs.size + 2, s1.heap.objs.size + 3, s1.heap.objs.size, s1.heap.objs.size + 1], _, _, H1, rfl, I2,
        turn_zipB b1 b2 (zip_sep2 (N := s1.heap.objs.size) (fp1 := [a]) (fp2 := [b]) (fun c hc => by simp at hc; subst hc; exact l1) (fun c hc => by simp at hc; subst hc; exact l2)) ⟨Nat.ne_of_lt l1, Nat.ne_of_lt (Nat.lt_succ_of_lt l2)⟩,
        ⟨hz, hTI, ⟨_, _, hTO⟩, .new h1, .new h2⟩, fun c hcm => ?_, q⟩
      have e' : c = s1.heap.objs.size + 4 ∨ c = s1.heap.objs.size + 2 ∨ c = s1.heap.objs.size + 3 ∨ c = s1.heap.objs.size ∨ c = s1.heap.objs.size + 1 := by simpa using hcm
      have hle : s1.heap.objs.size ≤ c := by
        rcases e' with z | z | z | z | z
        · rw [z]; exact Nat.le_add_right _ _
        · rw [z]; exact Nat.le_add_right _ _
        · rw [z]; exact Nat.le_add_right _ _
        · rw [z]; exact Nat.le_refl _
        · rw [z]; exact Nat.le_add_right _ _
      exact I1.fpOk hle (I1.hok.fresh hle)

/-! ### their mirrors -/
/-- a list or a tuple: its items, and that they stay -/
@[reducible] def itemsOf (st : Store) : Val → Option (List Val × (Store → Prop))
  | .tup xs => some (xs, fun _ => True)
  | .ref n => match seqAt st n with
    | some xs => some (xs, fun st' => seqAt st' n = some xs)
    | none => none
  | _ => none
theorem itemsOf_src {K : PySem.W.Frag} {mg : Str → Option Value} {ι : List Addr} {st : Store} {H : Hp} (S : Sim K mg ι st H) {w : Val} {v : V} (r : Rep mg ι H w v) {xs : List Val} {okp : Store → Prop} (h : itemsOf st w = some (xs, okp)) :
    ∃ isT a, v = .ref a ∧ ∀ ι1 H1 st1, Later ι H ι1 H1 → Sim K mg ι1 st1 H1 → okp st1 → ∃ vs, SqB isT K H1 a vs ∧ Reps mg ι1 H1 xs vs := by
  cases w with
  | tup ys =>
    cases h
    obtain ⟨a, vs, e, ha, rr⟩ := r.tup_inv
    exact ⟨true, a, e, fun ι1 H1 st1 l S1 _ => ⟨vs, SqT.of (l.tups _ _ ha), rr.later l⟩⟩
  | ref n =>
    obtain ⟨a, e, ha⟩ := r.ref_inv
    dsimp only [itemsOf] at h
    cases q : seqAt st n with
    | none => rw [q] at h; cases h
    | some ys =>
      rw [q] at h
      cases h
      exact ⟨false, a, e, fun ι1 H1 st1 l S1 ok => S1.seqL ok (l.get ha)⟩
  | _ => cases h
/-- its own first state is right -/
theorem itemsOf_ok {st : Store} {w : Val} {xs : List Val} {okp : Store → Prop} (h : itemsOf st w = some (xs, okp)) : okp st := by
  cases w with
  | tup ys => cases h; trivial
  | ref n =>
    dsimp only [itemsOf] at h
    cases q : seqAt st n with
    | none => rw [q] at h; cases h
    | some ys => rw [q] at h; cases h; exact q
  | _ => cases h
def enumFrom (k : Nat) : List Val → List Val
  | [] => []
  | x :: r => .tup [.int k, x] :: enumFrom (k + 1) r
theorem enumFrom_length : ∀ (k : Nat) (xs : List Val), (enumFrom k xs).length = xs.length
  | _, [] => rfl
  | k, x :: r => by simp [enumFrom, enumFrom_length (k + 1) r]
theorem enumFrom_get : ∀ (k : Nat) (xs : List Val) (i : Nat) (x : Val), xs[i]? = some x → (enumFrom k xs)[i]? = some (.tup [.int ((k + i : Nat) : Int), x])
  | _, [], i, x, h => by simp at h
  | k, y :: r, 0, x, h => by simp at h; subst h; rfl
  | k, y :: r, i + 1, x, h => by
    have := enumFrom_get (k + 1) r i x (by simpa using h)
    show (enumFrom (k + 1) r)[i]? = _
    rw [this, show k + 1 + i = k + (i + 1) by omega]
def zipW : List Val → List Val → List Val
  | x :: r, y :: q => .tup [x, y] :: zipW r q
  | _, _ => []
theorem zipW_length : ∀ (xs ys : List Val), (zipW xs ys).length = min xs.length ys.length
  | [], ys => by simp [zipW]
  | x :: r, [] => by simp [zipW]
  | x :: r, y :: q => by simp [zipW, zipW_length r q]
theorem zipW_get : ∀ (xs ys : List Val) (i : Nat) (x y : Val), xs[i]? = some x → ys[i]? = some y → (zipW xs ys)[i]? = some (.tup [x, y])
  | [], _, i, x, y, h, _ => by simp at h
  | _ :: _, [], i, x, y, _, h => by simp at h
  | a :: r, b :: q, 0, x, y, h, h2 => by simp at h h2; subst h h2; rfl
  | a :: r, b :: q, i + 1, x, y, h, h2 => by
    have := zipW_get r q i x y (by simpa using h) (by simpa using h2)
    show (zipW r q)[i]? = _
    exact this
theorem isIt_enum {K : PySem.W.Frag} {mg : Str → Option Value} {ι : List Addr} {H : Hp} {isT : Bool} {a : Addr} {xs : List Val} {okp : Store → Prop}
    (src : ∀ ι1 H1 st1, Later ι H ι1 H1 → Sim K mg ι1 st1 H1 → okp st1 → ∃ vs, SqB isT K H1 a vs ∧ Reps mg ι1 H1 xs vs) : IsIt K mg (enumFrom 0 xs) okp ι H (IteB isT K a) := by
  refine ⟨fun i ι1 H1 st l S ok hi => ?_, fun i ι1 H1 st x H' l S ok hi hy => ?_, fun i ι1 H1 st l S ok hi => ?_⟩
  · obtain ⟨vs, h1, r⟩ := src ι1 H1 st l S ok
    rw [enumFrom_length] at hi
    exact ⟨vs, vs[i]'(by rw [← r.length]; exact hi), h1, by simp⟩
  · obtain ⟨vs, h1, r⟩ := src ι1 H1 st l S ok
    obtain ⟨T, y, e1, hT, e2, f⟩ := hy
    subst e1 e2
    obtain ⟨w, hw, rw_⟩ := r.get' (f vs h1)
    have hs := same_new (o := .tup [.int (i : Nat), y]) hT
    refine ⟨Same.laterH hs, S.same hs, _, enumFrom_get 0 xs i w hw, ?_⟩
    rw [Nat.zero_add]
    exact Rep.newTup hT (Reps.cons Rep.int (Reps.cons rw_ Reps.nil))
  · obtain ⟨vs, h1, r⟩ := src ι1 H1 st l S ok
    rw [enumFrom_length] at hi
    exact ⟨vs, h1, by rw [← r.length]; exact hi⟩
theorem isIt_zip {K : PySem.W.Frag} {mg : Str → Option Value} {ι : List Addr} {H : Hp} {b1 b2 : Bool} {a b : Addr} {xs ys : List Val} {okp okq : Store → Prop}
    (src : ∀ ι1 H1 st1, Later ι H ι1 H1 → Sim K mg ι1 st1 H1 → okp st1 → ∃ vs, SqB b1 K H1 a vs ∧ Reps mg ι1 H1 xs vs)
    (src2 : ∀ ι1 H1 st1, Later ι H ι1 H1 → Sim K mg ι1 st1 H1 → okq st1 → ∃ vs, SqB b2 K H1 b vs ∧ Reps mg ι1 H1 ys vs) : IsIt K mg (zipW xs ys) (fun st => okp st ∧ okq st) ι H (ItzB b1 b2 K a b) := by
  refine ⟨fun i ι1 H1 st l S ok hi => ?_, fun i ι1 H1 st x H' l S ok hi hy => ?_, fun i ι1 H1 st l S ok hi => ?_⟩
  · obtain ⟨vs, h1, r⟩ := src ι1 H1 st l S ok.1
    obtain ⟨us, h2, r2⟩ := src2 ι1 H1 st l S ok.2
    rw [zipW_length] at hi
    exact ⟨vs, us, vs[i]'(by rw [← r.length]; omega), us[i]'(by rw [← r2.length]; omega), h1, h2, by simp, by simp⟩
  · obtain ⟨vs, h1, r⟩ := src ι1 H1 st l S ok.1
    obtain ⟨us, h2, r2⟩ := src2 ι1 H1 st l S ok.2
    obtain ⟨T, y, z, e1, hT, e2, f, f2⟩ := hy
    subst e1 e2
    obtain ⟨w, hw, rw_⟩ := r.get' (f vs h1)
    obtain ⟨w2, hw2, rw2⟩ := r2.get' (f2 us h2)
    have hs := same_new (o := .tup [y, z]) hT
    exact ⟨Same.laterH hs, S.same hs, _, zipW_get xs ys i w w2 hw hw2, Rep.newTup hT (Reps.cons rw_ (Reps.cons rw2 Reps.nil))⟩
  · obtain ⟨vs, h1, r⟩ := src ι1 H1 st l S ok.1
    obtain ⟨us, h2, r2⟩ := src2 ι1 H1 st l S ok.2
    rw [zipW_length] at hi
    exact ⟨vs, us, h1, h2, by rw [← r.length, ← r2.length]; exact hi⟩
@[reducible] def iEnumM (m : ME) : MI := fun ρ st => (m ρ st).bind fun w st1 => match itemsOf st1 w with
  | some (xs, okp) => .ok (enumFrom 0 xs, okp) st1
  | none => .bad
@[reducible] def iZipM (m1 m2 : ME) : MI := fun ρ st => (m1 ρ st).bind fun w st1 => (m2 ρ st1).bind fun u st2 => match itemsOf st2 w, itemsOf st2 u with
  | some (xs, okp), some (ys, okq) => .ok (zipW xs ys, fun st => okp st ∧ okq st) st2
  | _, _ => .bad
@[reducible] def iSeqM (m : ME) : MI := fun ρ st => (m ρ st).bind fun w st1 => match itemsOf st1 w with
  | some p => .ok p st1
  | none => .bad
section
variable {X : Cx} {e e2 : Expr} {m m2 : ME} {p pos tpos : Pos} {elts : List Expr} {kk : Nat}
theorem ji_enum (hm : X.mg "enumerate" = none) (he : JE X e m) (hg : Gl X "enumerate" := by rfl) (hs : starEach [e] X.env = [(false, eval e X.env)] := by rfl) : JI X (.Tuple elts kk tpos) (.Call (.Name "enumerate" p) [e] [] pos) (iEnumM m) := fun W tk => by
  refine ⟨fun pins s σ H R I hw => (pi_enumB hg hm (pa_cons (he W tk) pa_nil hs) hs).run pins s σ H R I ?_⟩
  obtain ⟨ι, ρ, st, S, sl, p⟩ := hw
  refine ⟨ι, ρ, st, S, sl, Post.bind p fun w st1 ι1 H1 x l1 S1 r1 p1 => ?_⟩
  cases q : itemsOf st1 w with
  | none => rw [q] at p1; exact p1.elim
  | some z =>
    obtain ⟨xs, okp⟩ := z
    rw [q] at p1
    obtain ⟨isT, a, ea, src⟩ := itemsOf_src S1 r1 q
    obtain ⟨vs, h1, _⟩ := src ι1 H1 st1 (Later.refl _ _) S1 (itemsOf_ok q)
    subst ea
    exact ⟨isT, a, vs, rfl, h1, p1.okSame S1 (isIt_enum src)⟩
theorem ji_zip (hm : X.mg "zip" = none) (he : JE X e m) (he2 : JE X e2 m2) (hg : Gl X "zip" := by rfl) (hs : starEach [e, e2] X.env = (false, eval e X.env) :: starEach [e2] X.env := by rfl) (hs2 : starEach [e2] X.env = (false, eval e2 X.env) :: starEach [] X.env := by rfl)
    (hpl : (backTo pos (starEach [e2] X.env)).any (·.1) = false := by rfl) : JI X (.Tuple elts kk tpos) (.Call (.Name "zip" p) [e, e2] [] pos) (iZipM m m2) := fun W tk => by
  refine ⟨fun pins s σ H R I hw => (pi_zipB hg hm (pa_cons (he W tk) (pa_cons (he2 W tk) pa_nil hs2) hs) hs hpl).run pins s σ H R I ?_⟩
  obtain ⟨ι, ρ, st, S, sl, p⟩ := hw
  refine ⟨ι, ρ, st, S, sl, Post.bind p fun w st1 ι1 H1 x l1 S1 r1 p1 => ?_⟩
  refine ⟨ι1, ρ, st1, S1, sl.later l1, Post.bind p1 fun u st2 ι2 H2 y l2 S2 r2 p2 => ?_⟩
  cases q : itemsOf st2 w with
  | none => rw [q] at p2; exact p2.elim
  | some z =>
    cases q2 : itemsOf st2 u with
    | none => rw [q, q2] at p2; exact p2.elim
    | some z2 =>
      obtain ⟨xs, okp⟩ := z
      obtain ⟨ys, okq⟩ := z2
      rw [q, q2] at p2
      obtain ⟨b1, a, ea, src⟩ := itemsOf_src S2 (Rep.later l2 r1) q
      obtain ⟨b2, b, eb, src2⟩ := itemsOf_src S2 r2 q2
      obtain ⟨vs, h1, _⟩ := src ι2 H2 st2 (Later.refl _ _) S2 (itemsOf_ok q)
      obtain ⟨us, h2, _⟩ := src2 ι2 H2 st2 (Later.refl _ _) S2 (itemsOf_ok q2)
      subst ea eb
      exact ⟨b1, b2, a, b, vs, us, rfl, h1, h2, p2.okSame S2 (isIt_zip src src2)⟩
/-- a list or a tuple itself -/
theorem ji_seq {tg : Expr} (he : JE X e m) : JI X tg e (iSeqM m) := fun W tk => by
  refine ⟨fun pins s σ H R' I hw => ?_⟩
  obtain ⟨ι, ρ, st, S, sl, p⟩ := hw
  cases q : m ρ st with
  | bad => dsimp only [iSeqM] at p; rw [q] at p; exact p.elim
  | exc x s' =>
    dsimp only [iSeqM] at p; rw [q] at p
    exact (pi_tup (he W tk)).run pins s σ H R' I ⟨ι, ρ, st, S, sl, by rw [q]; exact p⟩
  | ok w st1 =>
    dsimp only [iSeqM] at p; rw [q] at p
    dsimp only [Ab.R.bind] at p
    cases w with
    | tup xs =>
      refine (pi_tup (he W tk)).run pins s σ H R' I ⟨ι, ρ, st, S, sl, ?_⟩
      rw [q]
      intro ι1 H1 v l1 S1 r1
      obtain ⟨a, vs, e1, ha, rr⟩ := Rep.tup_inv r1
      exact ⟨a, e1, ⟨vs, SqT.of ha⟩, (Post.later p l1).okSame S1 (isIt_tup ha rr)⟩
    | ref n =>
      refine (pi_list (he W tk)).run pins s σ H R' I ⟨ι, ρ, st, S, sl, ?_⟩
      rw [q]
      intro ι1 H1 v l1 S1 r1
      obtain ⟨a, e1, ha⟩ := Rep.ref_inv r1
      have p1 := Post.later p l1
      dsimp only [itemsOf] at p1
      cases qs : seqAt st1 n with
      | none => rw [qs] at p1; exact p1.elim
      | some xs =>
        rw [qs] at p1
        obtain ⟨vs, h1, _⟩ := S1.seqL qs ha
        exact ⟨a, e1, ⟨vs, h1⟩, p1.okSame S1 (isIt_list ha)⟩
    | _ => exact p.elim
end
/-! ### a text, sign by sign -/
def signsW (x : Str) : List Val := x.cps.toList.map fun c => .str ⟨#[c]⟩
theorem isIt_str {K : PySem.W.Frag} {mg : Str → Option Value} {x : Str} {ι : List Addr} {H : Hp} : IsIt K mg (signsW x) (fun _ => True) ι H (Its x) := by
  have hl : (signsW x).length = x.cps.size := by unfold signsW; simp
  refine ⟨fun i ι1 H1 st l S ok hi => (show i < x.cps.size by omega), fun i ι1 H1 st v H' l S ok hi hy => ?_, fun i ι1 H1 st l S ok hi => (show x.cps.size ≤ i by omega)⟩
  obtain ⟨e1, c, hc, e2⟩ := hy
  subst e1 e2
  refine ⟨Later.refl _ _, S, .str ⟨#[c]⟩, ?_, Rep.str⟩
  unfold signsW
  rw [List.getElem?_map, Array.getElem?_toList, hc]
  rfl
@[reducible] def iStrM (m : ME) : MI := fun ρ st => (m ρ st).bind fun w st1 => match w with
  | .str x => .ok (signsW x, fun _ => True) st1
  | _ => .bad
theorem ji_str {X : Cx} {tg e : Expr} {m : ME} (he : JE X e m) : JI X tg e (iStrM m) := fun W tk => by
  refine ⟨fun pins s σ H R I hw => (pi_str (he W tk)).run pins s σ H R I ?_⟩
  obtain ⟨ι, ρ, st, S, sl, p⟩ := hw
  refine ⟨ι, ρ, st, S, sl, Post.bind p fun w st1 ι1 H1 v l1 S1 r1 p1 => ?_⟩
  cases w with
  | str x => exact ⟨x, r1.str_inv, p1.okSame S1 isIt_str⟩
  | _ => exact p1.elim
end Ab

set_option Elab.async false
set_option linter.all false
set_option maxRecDepth 100000
set_option maxHeartbeats 4000000
/-! Ab: an own exception class made with keywords. -/
namespace PySem
namespace AbX
open PySem PySem.Spec PyProof.Rows PySem.HandSPX PySem.W PySem.Calls
section
variable {M : Model} {A : Around} {E : Value → Shared → Prop} {h : Heap} {g : Array GenState} {d : Drawn} {t : Nat} {os : OsState}
variable {nm q : Str} {C N : Addr} {bs bm bmB : List Value} {hdct : Bool} {sn : List Str} {sub : List Value} {ab : Bool} {col : Option Bool} {dd : Option Addr} {k0 k1 k2 k3 k5 : Option Value} {B newId initId : String}
theorem check_new_ownK (F : ExcBaseFacts B newId initId bmB) (hT : ∀ X : String, bm.contains (.type X) = bmB.contains (.type X)) {kw : List (Str × Value)} {Q : Unit → Shared → Prop}
    (hC : h.get? C = some (excClassObj nm q C N bs bm hdct sn sub ab col dd k0 k1 k2 k3 k5 newId)) (hq : Q () ⟨h, g, d, t, os⟩) : wpAny M A (checkBuiltinCall newId ⟨[.ref C], kw⟩) Q E ⟨h, g, d, t, os⟩ := by
  have hcont : (Value.ref C :: bm).contains (.type B) = true := by rw [List.contains_cons, hT, F.hasB, Bool.or_true]
  have hstar := F.noStar
  simp only [checkBuiltinCall, F.newKind, F.newSplit, F.newRow]
  repeat (first | refine wpAny_loadPart_at hC ?_ | (refine wpAny_isSubtype_exc hC ?_; rw [hcont]) | refine wpAny_staticBase_exc hC ?_ | refine wpAny_madeBy_exc hC ?_ | simp only [bne_self_eq_false, Bool.false_eq_true, if_false] | wp_step)
  exact hq
end
section
variable {prog : Program} {w : World} {A : Around} {E : Value → Shared → Prop} {R : Result → Shared → Prop} {h : Heap} {g : Array GenState} {d : Drawn} {t : Nat} {os : OsState}
variable {nm q : Str} {C N : Addr} {bs bm bmB : List Value} {hdct : Bool} {sn : List Str} {sub : List Value} {ab : Bool} {col : Option Bool} {dd : Option Addr} {k0 k1 k2 k3 k5 : Option Value} {B newId initId : String}
theorem new_ownK (F : ExcBaseFacts B newId initId bmB) (hT : ∀ X : String, bm.contains (.type X) = bmB.contains (.type X)) {kw : List (Str × Value)}
    (hC : h.get? C = some (excClassObj nm q C N bs bm hdct sn sub ab col dd k0 k1 k2 k3 k5 newId))
    (hq : R (.ok (.ret (.ref (h.objs.size + 1)))) ⟨(h.push { cls := .type "tuple", data := .seq ([] : List Value).toArray }).push
      { cls := .ref C, data := .fields #[.ref h.objs.size, .none, .none, .none, .bool false, .none] }, g, d, t, os⟩) :
    codeAny (model prog w) A (.builtin newId ⟨[.ref C], kw⟩) R ⟨h, g, d, t, os⟩ := by
  have hrest : ([] : List Value).length ≤ sizeLine := by simp
  have hends := F.ends
  have hcB : (Value.ref C :: bm).contains (.type B) = true := by rw [List.contains_cons, hT, F.hasB, Bool.or_true]
  have hcA : (Value.ref C :: bm).contains (.type "AttributeError") = false := by rw [List.contains_cons, hT, F.noAttr]; rfl
  have hcN : (Value.ref C :: bm).contains (.type "NameError") = false := by rw [List.contains_cons, hT, F.noName]; rfl
  refine codeAny_builtinAt F.entry ?_
  unfold Builtin.«BaseException.__new__»
  refine wpAt_bind ?_
  show wpAt _ _ _ (stack >>= _) _ _ _
  refine wpAt_bind (wpAt_stack fun p below => wpAt_of_wpAny ?_)
  wp_walk
  refine wpAt_of_wpAny ?_
  rw [F.owner]
  repeat (first | with_reducible refine wpAny_madeHere_exc F.canon hC ?_ | with_reducible refine wpAny_loadPart_at hC ?_ | (with_reducible refine wpAny_isSubtype_exc hC ?_; first | rw [hcB] | rw [hcA] | rw [hcN]) | wp_step)
  show R _ _
  rw [Heap.size_push]
  exact hq
theorem type_call_ownK (F : ExcBaseFacts B newId initId bmB) (hT : ∀ X : String, bm.contains (.type X) = bmB.contains (.type X)) {kw : List (Str × Value)} {fI : Addr} {Q : Fin → Shared → Prop}
    (hC : h.get? C = some (excClassObj nm q C N bs bm hdct sn sub ab col dd k0 k1 k2 k3 k5 newId))
    (hi : W.Looks (model prog w) h (typeLookup (.ref C) "__init__") (some (.ref fI))) (hb : ∀ self, W.Looks (model prog w) h (bindSpecial (.ref fI) self) (.ref fI, [self]))
    (hq : codeAny (model prog w) A (.call (.ref fI) ⟨[.ref (h.objs.size + 1)], kw⟩)
      (fun r s' => match r with | .ok (.ret v) => v = .none ∧ Q (.done (.ret (.ref (h.objs.size + 1)))) s' | .ok _ => False | .error e => E e s')
      ⟨(h.push (W.kdv_tup [])).push (excO C h.objs.size), g, d, t, os⟩) :
    wpAny (model prog w) A (Builtin.«type.__call__» ⟨[.ref C], kw⟩) Q E ⟨h, g, d, t, os⟩ := by
  repeat (first | with_reducible refine wpAny_loadPart_at hC ?_ | with_reducible refine wpAny_madeBy_exc hC ?_ | wp_step)
  refine codeAny_call_builtin_code (Code.quiet_builtin _ F.quiet) (check_new_ownK F hT hC ?_)
  refine new_ownK F hT hC ?_
  show wpAny _ _ _ _ _ _
  have k : ∀ b o, h.get? b = some o → ((h.push (W.kdv_tup [])).push (excO C h.objs.size)).get? b = some o := fun b o e => Heap.get?_push_of_some _ (Heap.get?_push_of_some _ e)
  have hC₁ := k _ _ hC
  have hget : ((h.push (W.kdv_tup [])).push (excO C h.objs.size)).get? (h.objs.size + 1) = some (excO C h.objs.size) := by heap_get
  have hcC : (Value.ref C :: bm).contains (.ref C) = true := by simp
  have i1 := hi.keeps k
  have b1 := (hb (.ref (h.objs.size + 1))).keeps k
  unfold isInstance
  repeat (first | with_reducible refine wpAny_loadPart_at hget ?_ | (with_reducible refine wpAny_isSubtype_exc hC₁ ?_; rw [hcC]) | wp_step)
  show wpAny _ _ (typeLookup (.ref C) _) _ _ _
  refine i1.at ?_
  refine wpAny_holding (wpAny_bind (b1.at ?_))
  refine wpAny_bind (wpAny_call (codeAny_mono hq fun r s' z => ?_))
  rcases r with e | (v | _ | _ | _) <;> first | exact z | exact z.elim | skip
  obtain ⟨rfl, z⟩ := z
  first
    | exact wpAny_pure (wpAny_pure z)
    | (wp_walk; exact z)
theorem call_ownK (F : ExcBaseFacts B newId initId bmB) (hT : ∀ X : String, bm.contains (.type X) = bmB.contains (.type X)) {kw : List (Str × Value)} {fI : Addr}
    (hC : h.get? C = some (excClassObj nm q C N bs bm hdct sn sub ab col dd k0 k1 k2 k3 k5 newId))
    (hi : W.Looks (model prog w) h (typeLookup (.ref C) "__init__") (some (.ref fI))) (hb : ∀ self, W.Looks (model prog w) h (bindSpecial (.ref fI) self) (.ref fI, [self]))
    (hq : codeAny (model prog w) (A.under (.builtin "type.__call__" ⟨[.ref C], kw⟩)) (.call (.ref fI) ⟨[.ref (h.objs.size + 1)], kw⟩) (W.InitBack (h.objs.size + 1) R)
      ⟨(h.push (W.kdv_tup [])).push (excO C h.objs.size), g, d, t, os⟩) :
    codeAny (model prog w) A (.call (.ref C) ⟨[], kw⟩) R ⟨h, g, d, t, os⟩ := by
  have f1 := tc_lookup
  have f2 := tc_bind (.ref C)
  have hTy : (⟨h, g, d, t, os⟩ : Shared).TypeIs (.ref C) "type" := ⟨_, hC, rfl⟩
  refine codeAny_of_tree ?_
  show wpAny _ _ (callAny (.ref C) _) _ _ _
  repeat (any_goals (first | assumption | with_reducible refine wpAny_loadPart_at hC ?_ | wp_step))
  refine ⟨rfl, ?_⟩
  refine codeAny_call_builtin_at (Code.quiet_builtin _ (by decide +kernel)) entry_typeCall (wpAny_check_type_call_sub hC (type_call_ownK F hT hC hi hb ?_))
  refine codeAny_mono hq fun r s' z => ?_
  rcases r with e | (v | _ | _ | _) <;> exact z
/-! the same road, whatever the __init__ is that the class finds (here the base's own) -/
theorem type_call_ownV (F : ExcBaseFacts B newId initId bmB) (hT : ∀ X : String, bm.contains (.type X) = bmB.contains (.type X)) {rest : List Value} {fI : Value} {Q : Fin → Shared → Prop}
    (hC : h.get? C = some (excClassObj nm q C N bs bm hdct sn sub ab col dd k0 k1 k2 k3 k5 newId))
    (hi : W.Looks (model prog w) h (typeLookup (.ref C) "__init__") (some fI)) (hb : ∀ self, W.Looks (model prog w) h (bindSpecial fI self) (fI, [self])) (hrest : rest.length ≤ sizeLine)
    (hq : codeAny (model prog w) A (.call fI ⟨.ref (h.objs.size + 1) :: rest, []⟩)
      (fun r s' => match r with | .ok (.ret v) => v = .none ∧ Q (.done (.ret (.ref (h.objs.size + 1)))) s' | .ok _ => False | .error e => E e s')
      ⟨(h.push (W.kdv_tup rest)).push (excO C h.objs.size), g, d, t, os⟩) :
    wpAny (model prog w) A (Builtin.«type.__call__» ⟨.ref C :: rest, []⟩) Q E ⟨h, g, d, t, os⟩ := by
  repeat (first | with_reducible refine wpAny_loadPart_at hC ?_ | with_reducible refine wpAny_madeBy_exc hC ?_ | wp_step)
  refine codeAny_call_builtin_code (Code.quiet_builtin _ F.quiet) (check_new_own F hT hC ?_)
  refine new_own F hT hC ?_ hrest
  show wpAny _ _ _ _ _ _
  have k : ∀ b o, h.get? b = some o → ((h.push (W.kdv_tup rest)).push (excO C h.objs.size)).get? b = some o := fun b o e => Heap.get?_push_of_some _ (Heap.get?_push_of_some _ e)
  have hC₁ := k _ _ hC
  have hget : ((h.push (W.kdv_tup rest)).push (excO C h.objs.size)).get? (h.objs.size + 1) = some (excO C h.objs.size) := by heap_get
  have hcC : (Value.ref C :: bm).contains (.ref C) = true := by simp
  have i1 := hi.keeps k
  have b1 := (hb (.ref (h.objs.size + 1))).keeps k
  unfold isInstance
  repeat (first | with_reducible refine wpAny_loadPart_at hget ?_ | (with_reducible refine wpAny_isSubtype_exc hC₁ ?_; rw [hcC]) | wp_step)
  show wpAny _ _ (typeLookup (.ref C) _) _ _ _
  refine i1.at ?_
  refine wpAny_holding (wpAny_bind (b1.at ?_))
  refine wpAny_bind (wpAny_call (codeAny_mono hq fun r s' z => ?_))
  rcases r with e | (v | _ | _ | _) <;> first | exact z | exact z.elim | skip
  obtain ⟨rfl, z⟩ := z
  first
    | exact wpAny_pure (wpAny_pure z)
    | (wp_walk; exact z)

theorem call_ownV (F : ExcBaseFacts B newId initId bmB) (hT : ∀ X : String, bm.contains (.type X) = bmB.contains (.type X)) {rest : List Value} {fI : Value}
    (hC : h.get? C = some (excClassObj nm q C N bs bm hdct sn sub ab col dd k0 k1 k2 k3 k5 newId))
    (hi : W.Looks (model prog w) h (typeLookup (.ref C) "__init__") (some fI)) (hb : ∀ self, W.Looks (model prog w) h (bindSpecial fI self) (fI, [self])) (hrest : rest.length ≤ sizeLine)
    (hq : codeAny (model prog w) (A.under (.builtin "type.__call__" ⟨.ref C :: rest, []⟩)) (.call fI ⟨.ref (h.objs.size + 1) :: rest, []⟩) (W.InitBack (h.objs.size + 1) R)
      ⟨(h.push (W.kdv_tup rest)).push (excO C h.objs.size), g, d, t, os⟩) :
    codeAny (model prog w) A (.call (.ref C) ⟨rest, []⟩) R ⟨h, g, d, t, os⟩ := by
  have f1 := tc_lookup
  have f2 := tc_bind (.ref C)
  have hTy : (⟨h, g, d, t, os⟩ : Shared).TypeIs (.ref C) "type" := ⟨_, hC, rfl⟩
  refine codeAny_of_tree ?_
  show wpAny _ _ (callAny (.ref C) _) _ _ _
  repeat (any_goals (first | assumption | with_reducible refine wpAny_loadPart_at hC ?_ | wp_step))
  refine ⟨rfl, ?_⟩
  refine codeAny_call_builtin_at (Code.quiet_builtin _ (by decide +kernel)) entry_typeCall (wpAny_check_type_call_sub hC (type_call_ownV F hT hC hi hb hrest ?_))
  refine codeAny_mono hq fun r s' z => ?_
  rcases r with e | (v | _ | _ | _) <;> exact z
end
end AbX
end PySem

set_option Elab.async false
set_option linter.all false
set_option maxRecDepth 100000
set_option maxHeartbeats 1000000
/-! Ab: own exceptions raised: C("..") and C(k = v, ..). -/
namespace Ab
open PySem PySem.Spec L2
/-! ### the __init__ of such a class -/
/-- what it promises: the fields lie behind one another -/
def spEx (C : Addr) (fs : List Nat) : Sp := fun vs H Q E => ∃ a ws, vs = .ref a :: ws ∧ ws.length = fs.length ∧ H a = some (exo a C none) ∧
  ∀ d H', H d = none → d ≠ a → H' a = some (exo a C (some d)) → H' d = some (exd d ((fs.map nm).zip ws).reverse) → (∀ b, b ≠ a → b ≠ d → H' b = H b) → Q .non H'
/-- the class of that number can be raised by C(k = v, ..) -/
def ExK (T : Wh) (C k : Nat) (fs : List Nat) : Prop := (∀ f ∈ fs, f < nmN) ∧ ∃ Ca fI fd ps, T.mg (nm C) = some (.ref Ca) ∧ OexC T.K Ca ∧ PySem.W.findIn T.K (.ref Ca) "__init__" = some (some (.ref fI)) ∧ PySem.W.typeIn T.K (.ref fI) = some (.type "function") ∧
  KBn T.K fd ps 1 (fs.map nm) (fun us ws => us ++ ws) (fun us ws => us ++ ws) ∧ FnOk T.P T.w T.K T.mg T.base (L2.CX T.P T.w) k fI fd ps (spEx Ca fs)
/-- .. by C("..") -/
def Ex0 (T : Wh) (C : Nat) : Prop := ∃ Ca, T.mg (nm C) = some (.ref Ca) ∧ OexC T.K Ca ∧ PySem.W.findIn T.K (.ref Ca) "__init__" = some (some (.builtin "ValueError.__init__"))
/-- RowError.__init__, read off the class -/
structure SupI (K : PySem.W.Frag) (mg : Str → Option Value) (R : Addr) : Prop where
  at_ : mg "RowError" = some (.ref R)
  rd : PySem.W.readsIn K R (.type "type") = true
  ga : PySem.W.specialIn K (.ref R) "__getattribute__" = some (some (.builtin "type.__getattribute__"))
  fd : PySem.W.findCls K (.ref R) (.type "type") "__init__" = some (.val (.builtin "ValueError.__init__"))
section
variable {X : Cx} {o e : Expr} {es : List Expr} {ta : TA} {p p1 p2 pos : Pos} {R : Addr}
theorem pe_rowinit {pl : Sem Bool} (hS : SupI X.K X.mg R) (ha : PA X (e :: es) ta) (hg : Gl X "RowError" := by rfl)
    (hc : eval (.Call (.Attribute (.Name "RowError" p1) "__init__" p2) (e :: es) [] pos) X.env = (do
      let ov ← eval (.Name "RowError" p1) X.env
      standAt p2.atName
      let (f, first) ← holding [ov] (getMethod ov "__init__" pl)
      callWith pos f first (backTo pos (starEach (e :: es) X.env)) (backToKw pos (keywordEach [] X.env))) := by rfl)
    (he : starEach (e :: es) X.env = (false, eval e X.env) :: starEach es X.env := by rfl) (hpl : (backTo pos (starEach es X.env)).any (·.1) = false := by rfl) :
    PE X (.Call (.Attribute (.Name "RowError" p1) "__init__" p2) (e :: es) [] pos) (tVeI X.K ta) := by
  refine ⟨fun pins s σ H Q I h => ?_⟩
  refine PySem.W.methodCall_KW (ld_glob I hg hS.at_ ?_ (by decide)) hc
  refine PySem.W.method_cls I.kIn hS.ga (PySem.W.cls_value I.kIn hS.rd hS.fd (by decide +kernel) ?_)
  show wpAny _ _ (callWith pos (Value.builtin "ValueError.__init__") [] (backTo pos (starEach (e :: es) X.env)) []) _ _ _
  refine PyProof.Rows.callWith_method1 (thn (ha.run pos pins _ σ H _ (I.tok _) h) fun us s1 ⟨vs, H1, I1, r1, a, C, ws, ev, hl, T, ea, q⟩ => ?_) he hpl
  subst ev
  cases r1 with
  | @cons _ u0 _ ur ra rw' =>
    obtain rfl : u0 = Value.ref a := ra
    have hlen : ur.length ≤ sizeLine := by
      rw [← Paired.length rw', sizeLine_eq]
      omega
    exact oinit_ok T I1 ea hlen fun s' J => ⟨.non, H1, J, rfl, q⟩
end
/-- the body of an __init__ with one field -/
theorem exinit1 {T : Wh} {qn : Str} {st : Stmt} {f1 : Nat} {fI : Addr} {fd : FuncData} {Ca R : Addr} {t : Str} {j : Nat} {p1 p2 p3 p4 p5 p6 p7 p8 p9 p10 : Pos} (F : Fun T.K "__init__" qn st fI fd) (S : FnScope ["self", nm f1] ["self", nm f1] (defScope st))
    (hS : SupI T.K T.mg R) (hO : OexC T.K Ca) (hno : PySem.W.findIn T.K (.ref Ca) (nm f1) = some none) (hgl : (defScope st).names.lookup ("RowError" : Str) = some NameKind.globalImplicit) (hne : (nm f1 == ("__debug__" : Str)) = false) (hcd : (nm f1 == ("__classdict__" : Str)) = false)
    (hb : defBody st = [.Expr (.Call (.Attribute (.Name "RowError" p1) "__init__" p2) [.Name "self" p3, .Constant (.str t) j p4] [] p5) p6, .Assign [.Attribute (.Name "self" p7) (nm f1) p8] (.Name (nm f1) p9) p10])
    (hc : ∀ env : Env, ∃ pl : Sem Bool, eval (.Call (.Attribute (.Name "RowError" p1) "__init__" p2) [.Name "self" p3, .Constant (.str t) j p4] [] p5) env = (do
      let ov ← eval (.Name "RowError" p1) env
      standAt p2.atName
      let (f, first) ← holding [ov] (getMethod ov "__init__" pl)
      callWith p5 f first (backTo p5 (starEach [.Name "self" p3, .Constant (.str t) j p4] env)) (backToKw p5 (keywordEach [] env)))) :
    FnOk T.P T.w T.K T.mg T.base (L2.CX T.P T.w) 1 fI fd ["self", nm f1] (spEx Ca [f1]) := by
  refine F.okX S (fun vs H Q E ⟨a, ws, e, hl, _⟩ => ?_) (fun cdv A outer s H vs Q E hr hsp => ?_)
  · subst e
    simp only [List.length_cons, hl, List.length_nil]
  · obtain ⟨a, ws, e, hl, ha, q⟩ := hsp
    subst e
    obtain ⟨w1, rfl⟩ : ∃ w, ws = [w] := by
      match ws, hl with
      | [w], _ => exact ⟨w, rfl⟩
    rw [hb]
    obtain ⟨pl, hpl⟩ := hc (cxOf (L2.CX T.P T.w) T.P T.w T.K T.mg T.base _ qn (defScope st) fI cdv A outer s H E).env
    have vis : ∀ x ∈ (["self", nm f1] : List Str), Vis (defScope st) x := fun x hx => (S.par x hx).elim .inl fun z => .inr (.inl z)
    refine ⟨_, pss_cons (ps_expr (pe_rowinit (R := R) hS (pa_cons (pe_var (i := 0) (x := "self") rfl (vis "self" List.mem_cons_self)) (pa_cons pe_str pa_nil)) hgl hpl)) (pss_one (ps_ost (pe_var (i := 0) (x := "self") rfl (vis "self" List.mem_cons_self)) (pe_var (i := 1) rfl (vis (nm f1) (List.mem_cons_of_mem _ List.mem_cons_self)) hne hcd))), ?_⟩
    refine ⟨_, rfl, a, Ca, [V.str t], rfl, by simp, hO, ha, ?_⟩
    refine ⟨w1, rfl, .ref a, rfl, a, Ca, rfl, hO, hno, .inl ⟨ha, fun dx hd hda => ?_⟩⟩
    exact q dx _ hd hda upd_same (by rw [upd_ne hda, upd_same]; rfl) fun b h1 h2 => by rw [upd_ne h1, upd_ne h2]
/-- .. with two fields -/
theorem exinit2 {T : Wh} {qn : Str} {st : Stmt} {f1 f2 : Nat} {fI : Addr} {fd : FuncData} {Ca R : Addr} {t : Str} {j : Nat} {p1 p2 p3 p4 p5 p6 p7 p8 p9 p10 q7 q8 q9 q10 : Pos} (F : Fun T.K "__init__" qn st fI fd) (S : FnScope ["self", nm f1, nm f2] ["self", nm f1, nm f2] (defScope st))
    (hS : SupI T.K T.mg R) (hO : OexC T.K Ca) (hno : PySem.W.findIn T.K (.ref Ca) (nm f1) = some none) (hno2 : PySem.W.findIn T.K (.ref Ca) (nm f2) = some none) (hgl : (defScope st).names.lookup ("RowError" : Str) = some NameKind.globalImplicit) (hne : (nm f1 == ("__debug__" : Str)) = false) (hcd : (nm f1 == ("__classdict__" : Str)) = false)
    (hne2 : (nm f2 == ("__debug__" : Str)) = false) (hcd2 : (nm f2 == ("__classdict__" : Str)) = false)
    (hb : defBody st = [.Expr (.Call (.Attribute (.Name "RowError" p1) "__init__" p2) [.Name "self" p3, .Constant (.str t) j p4] [] p5) p6, .Assign [.Attribute (.Name "self" p7) (nm f1) p8] (.Name (nm f1) p9) p10, .Assign [.Attribute (.Name "self" q7) (nm f2) q8] (.Name (nm f2) q9) q10])
    (hc : ∀ env : Env, ∃ pl : Sem Bool, eval (.Call (.Attribute (.Name "RowError" p1) "__init__" p2) [.Name "self" p3, .Constant (.str t) j p4] [] p5) env = (do
      let ov ← eval (.Name "RowError" p1) env
      standAt p2.atName
      let (f, first) ← holding [ov] (getMethod ov "__init__" pl)
      callWith p5 f first (backTo p5 (starEach [.Name "self" p3, .Constant (.str t) j p4] env)) (backToKw p5 (keywordEach [] env)))) :
    FnOk T.P T.w T.K T.mg T.base (L2.CX T.P T.w) 1 fI fd ["self", nm f1, nm f2] (spEx Ca [f1, f2]) := by
  refine F.okX S (fun vs H Q E ⟨a, ws, e, hl, _⟩ => ?_) (fun cdv A outer s H vs Q E hr hsp => ?_)
  · subst e
    simp only [List.length_cons, hl, List.length_nil]
  · obtain ⟨a, ws, e, hl, ha, q⟩ := hsp
    subst e
    obtain ⟨w1, w2, rfl⟩ : ∃ w1 w2, ws = [w1, w2] := by
      match ws, hl with
      | [w1, w2], _ => exact ⟨w1, w2, rfl⟩
    rw [hb]
    obtain ⟨pl, hpl⟩ := hc (cxOf (L2.CX T.P T.w) T.P T.w T.K T.mg T.base _ qn (defScope st) fI cdv A outer s H E).env
    have vis : ∀ x ∈ (["self", nm f1, nm f2] : List Str), Vis (defScope st) x := fun x hx => (S.par x hx).elim .inl fun z => .inr (.inl z)
    refine ⟨_, pss_cons (ps_expr (pe_rowinit (R := R) hS (pa_cons (pe_var (i := 0) (x := "self") rfl (vis "self" List.mem_cons_self)) (pa_cons pe_str pa_nil)) hgl hpl)) (pss_cons (ps_ost (pe_var (i := 0) (x := "self") rfl (vis "self" List.mem_cons_self)) (pe_var (i := 1) rfl (vis (nm f1) (List.mem_cons_of_mem _ List.mem_cons_self)) hne hcd))
      (pss_one (ps_ost (pe_var (i := 0) (x := "self") rfl (vis "self" List.mem_cons_self)) (pe_var (i := 2) rfl (vis (nm f2) (List.mem_cons_of_mem _ (List.mem_cons_of_mem _ List.mem_cons_self))) hne2 hcd2)))), ?_⟩
    refine ⟨_, rfl, a, Ca, [V.str t], rfl, by simp, hO, ha, ?_⟩
    refine ⟨w1, rfl, .ref a, rfl, a, Ca, rfl, hO, hno, .inl ⟨ha, fun dx hd hda => ?_⟩⟩
    refine ⟨w2, rfl, .ref a, rfl, a, Ca, rfl, hO, hno2, .inr ⟨dx, [(nm f1, w1)], upd_same, (by rw [upd_ne hda, upd_same]), by simp, ?_⟩⟩
    exact q dx _ hd hda (by rw [upd_ne (Ne.symm hda), upd_same]) (by rw [upd_same]; rfl) fun b h1 h2 => by rw [upd_ne h2, upd_ne h1, upd_ne h2]

/-! ### the raise -/
/-- keywords -/
def JK (X : Cx) (ks : List Keyword) (m : MA) : Prop := ∀ W, Takes X W → PK X ks (rdG X.K X.mg (relL X.mg) W m)
section
variable {X : Cx} {e : Expr} {kws : List Keyword} {me : ME} {mk : MA} {nmk : Option Str} {kpos p pos pos' : Pos} {C k : Nat} {fs : List Nat} {x : Str}
theorem PK.weak {t t' : TA} (h : PK X kws t) (w : ∀ σ H Q, t' σ H Q → t σ H Q) : PK X kws t' := ⟨fun pos pins s σ H Q I q => h.run pos pins s σ H Q I (w σ H Q q)⟩
theorem jk_nil : JK X [] aNil := fun W tk => PK.weak pk_nil fun σ H Q ⟨ι, ρ, st, S, sl, p⟩ => p.okSame S .nil
theorem jk_cons (ha : JE X e me) (hr : JK X kws mk) : JK X (⟨nmk, e, kpos⟩ :: kws) (aCons me mk) := fun W tk => by
  refine PK.weak (pk_cons (ha W tk) (hr W tk)) fun σ H Q ⟨ι, ρ, st, S, sl, p⟩ => ?_
  refine ⟨ι, ρ, st, S, sl, Post.bind p fun w st1 ι1 H1 x l1 S1 r1 p1 => ?_⟩
  refine ⟨ι1, ρ, st1, S1, sl.later l1, Post.bind p1 fun ws st2 ι2 H2 xs l2 S2 r2 p2 => ?_⟩
  exact p2.okSame S2 (.cons (r1.later l2) r2)
/-- raise C(k = v, ..) -/
@[reducible] def sRaise (C : Nat) (fs : List Nat) (m : MA) : MS := fun ρ st => (m ρ st).toO ρ fun ws st1 => if ws.length = fs.length then .exc ⟨C, (fs.zip ws).reverse⟩ ρ st1 else .bad
/-- the keywords' values, then the exception (raising is the only way on) -/
def tMkK (C : Addr) (fs : List Nat) (ta : TA) : L2.St → Hp → XK → Prop := fun σ H Q => ta σ H fun vs H1 => vs.length = fs.length ∧ ∀ d, H1 d = none → Q (.ref C) (some d) (upd H1 d (.xd ((fs.map nm).zip vs).reverse))
theorem repF_zip {mg : Str → Option Value} {ι : List Addr} {H : Hp} : ∀ {fs : List Nat} {ws : List Val} {vs : List V}, (∀ f ∈ fs, f < nmN) → Reps mg ι H ws vs → RepF mg ι H (fs.zip ws) ((fs.map nm).zip vs)
  | [], _, _, _, _ => by rw [List.zip_nil_left, List.map_nil, List.zip_nil_left]; exact .nil
  | f :: fs, [], _, _, r => by rw [r.of_nil, List.zip_nil_right, List.zip_nil_right]; exact .nil
  | f :: fs, w :: ws, _, hf, r => by
    obtain ⟨v, r', e, h1, h2⟩ := r.of_cons
    subst e
    exact .cons ⟨hf f List.mem_cons_self, rfl, h1⟩ (repF_zip (fun g hg => hf g (List.mem_cons_of_mem _ hg)) h2)
theorem paired_snoc {α β : Type} {R : α → β → Prop} {a : α} {b : β} (h : R a b) : ∀ {xs : List α} {ys : List β}, Paired R xs ys → Paired R (xs ++ [a]) (ys ++ [b])
  | _, _, .nil => .cons h .nil
  | _, _, .cons q t => .cons q (paired_snoc h t)
theorem paired_rev {α β : Type} {R : α → β → Prop} : ∀ {xs : List α} {ys : List β}, Paired R xs ys → Paired R xs.reverse ys.reverse
  | _, _, .nil => .nil
  | _, _, .cons q t => by
    rw [List.reverse_cons, List.reverse_cons]
    exact paired_snoc q (paired_rev t)
theorem pmk_kw {t : TA} (h : ExK (Cx.wh X) C k fs) (hx : x = nm C) (hr : Room (k + 1) X.A) (ha : PK X kws t) (hg : Gl X x)
    (hall : (backToKw pos (keywordEach kws X.env)).all (·.1.isSome) = true) (hks : (backToKw pos (keywordEach kws X.env)).filterMap (·.1) = fs.map nm) (hdb : (x == ("__debug__" : Str)) = false)
    (hpl : ((backTo pos (starEach [] X.env)).any (·.1) || (backToKw pos (keywordEach kws X.env)).any (·.1.isNone)) = false) :
    ∃ Ca, X.mg (nm C) = some (.ref Ca) ∧ PMk X (.Call (.Name x p) [] kws pos) (tMkK Ca fs t) := by
  obtain ⟨_, Ca, fI, fd, ps, hC, T, iC, tI, hb, F1⟩ := h
  refine ⟨Ca, hC, ?_⟩
  intro pins s σ H Q I h
  obtain ⟨nm', q, N, bs, bm, sn, sub, ab, col, dd, k0, k1, k2, k3, k5, hCo, hbm⟩ := T.cls
  refine wpAny_Call_Name_kw (ld_glob I hg (by rw [hx]; exact hC) ?_ hdb)
  refine PySem.W.callWith_KW0 (h₀ := X.base) I.ok.mod.kin T.kC hall (thn (ha.run pos pins s σ H _ I h) fun us s1 ⟨vs, H1, I1, r1, hz, q1⟩ => ⟨I1.kIn, ?_⟩) hpl
  rw [hks]
  show wpAny _ _ (call (.ref Ca) [] ((fs.map nm).zip us)) _ _ _
  obtain ⟨hp, g, dr, tk, os⟩ := s1
  have hsz : hp.objs.size ≤ hp.objs.size + 1 := Nat.le_succ _
  have hn : H1 (hp.objs.size + 1) = none := I1.hok.fresh hsz
  have kk : ∀ b o, hp.get? b = some o → ((hp.push (PySem.W.kdv_tup [])).push (PySem.HandSPX.excO Ca hp.objs.size)).get? b = some o := fun b o e => Heap.get?_push_of_some _ (Heap.get?_push_of_some _ e)
  have hget : ((hp.push (PySem.W.kdv_tup [])).push (PySem.HandSPX.excO Ca hp.objs.size)).get? (hp.objs.size + 1) = some (PySem.HandSPX.excO Ca hp.objs.size) := by heap_get
  have I2 : Inv X pins σ (upd H1 (hp.objs.size + 1) (exo (hp.objs.size + 1) Ca none)) ⟨(hp.push (PySem.W.kdv_tup [])).push (PySem.HandSPX.excO Ca hp.objs.size), g, dr, tk, os⟩ :=
    I1.laid (t' := tk) (a := hp.objs.size + 1) (o := exo (hp.objs.size + 1) Ca none) (h' := (hp.push (PySem.W.kdv_tup [])).push (PySem.HandSPX.excO Ca hp.objs.size)) kk hsz (exo_ok hget)
  have r2 : Vals (V.ref (hp.objs.size + 1) :: vs) (Value.ref (hp.objs.size + 1) :: us) := .cons rfl r1
  have hspx : spEx Ca fs (V.ref (hp.objs.size + 1) :: vs) (upd H1 (hp.objs.size + 1) (exo (hp.objs.size + 1) Ca none))
      (fun v H2 => v = .non ∧ ∃ (d : Addr), H2 (hp.objs.size + 1) = some (exo (hp.objs.size + 1) Ca (some d)) ∧ H2 d = some (exd d ((fs.map nm).zip vs).reverse) ∧ H1 d = none ∧ Q (.ref Ca) (some d) (upd (del H2 (hp.objs.size + 1)) d (.xd ((fs.map nm).zip vs).reverse))) (fun _ _ _ => False) := by
    refine ⟨hp.objs.size + 1, vs, rfl, hz, upd_same, fun d H' hd hda e1 e2 e3 => ⟨rfl, d, e1, e2, ?_, ?_⟩⟩
    · rw [upd_ne hda] at hd
      exact hd
    · rw [upd_ne hda] at hd
      have eq : upd (del H' (hp.objs.size + 1)) d (.xd ((fs.map nm).zip vs).reverse) = upd H1 d (.xd ((fs.map nm).zip vs).reverse) := by
        funext b
        by_cases h1 : b = d
        · rw [h1, upd_same, upd_same]
        · rw [upd_ne h1, upd_ne h1]
          by_cases h2 : b = hp.objs.size + 1
          · rw [h2, del_same, hn]
          · rw [del_ne h2, e3 b h2 h1, upd_ne h2]
      rw [eq]
      exact q1 d hd
  have hbt := hb.to ⟨(hp.push (PySem.W.kdv_tup [])).push (PySem.HandSPX.excO Ca hp.objs.size), g, dr, tk, os⟩ [Value.ref (hp.objs.size + 1)] us I2.kIn rfl (by rw [List.length_map, ← hz, r1.length])
  refine wpAny_call (PySem.AbX.call_ownK F.excBase_ValueError (fun Y => PySem.HandSPX.refsVE_contains Y bm hbm) (I1.kIn _ _ hCo) (PySem.W.looks_findIn I1.kIn iC) (fun self => PySem.W.bind_fn I1.kIn self tI)
    (codeAny_mono (F1.run _ X.stack _ _ ⟨[Value.ref (hp.objs.size + 1)], (fs.map nm).zip us⟩ (Value.ref (hp.objs.size + 1) :: us) _ _ (fun _ _ _ => False) (hr.make Ca [] ((fs.map nm).zip us)) (I2.env0.make Ca [] ((fs.map nm).zip us)) hbt r2 hspx) fun r s' hq' => ?_))
  cases r with
  | error er => exact passL pins σ _ _ er s' I2 hq'
  | ok fl =>
    cases fl with
    | ret u =>
      obtain ⟨v, H2, os2, bare2, un2, hok2, rv, ev, d, ea, ed, hd1, q2⟩ := hq'
      subst ev
      obtain ⟨h2, g2, d2, t2, os'⟩ := s'
      exact ⟨rv, mk_end (raises_own T.exC T.tyC) I1 hsz kk un2 hok2 os2 bare2 ea ed hd1 q2⟩
    | next => exact False.elim hq'
    | brk => exact False.elim hq'
    | cont => exact False.elim hq'
theorem js_raise (h : ExK (Cx.wh X) C k fs) (hc : X.calm = true) (hr : Room (k + 1) X.A) (ha : JK X kws mk) (hx : x = nm C := by decide +kernel) (hg : Gl X x := by rfl)
    (hall : (backToKw pos (keywordEach kws X.env)).all (·.1.isSome) = true := by rfl) (hks : (backToKw pos (keywordEach kws X.env)).filterMap (·.1) = fs.map nm := by rfl) (hdb : (x == ("__debug__" : Str)) = false := by decide)
    (hpl : ((backTo pos (starEach [] X.env)).any (·.1) || (backToKw pos (keywordEach kws X.env)).any (·.1.isNone)) = false := by rfl) :
    JS X (.Raise (some (.Call (.Name x p) [] kws pos)) none pos') (sRaise C fs mk) := fun W tk => by
  obtain ⟨Ca, hC, pm⟩ := pmk_kw (p := p) h hx hr (ha W tk) hg hall hks hdb hpl
  refine PS.weak (ps_raise hc tk pm) fun D σ H ⟨ι, ρ, st, S, sl, p⟩ => ?_
  refine ⟨ι, ρ, st, S, sl, PostO.bind p sl fun ws st1 ι1 H1 vs l1 S1 r1 p1 => ?_⟩
  split at p1
  · rename_i hl
    refine ⟨by rw [← r1.length, hl], fun d hd => ?_⟩
    have hs := same_new (o := .xd ((fs.map nm).zip vs).reverse) hd
    refine p1 ι1 _ σ _ _ (Same.laterH hs) (S1.same hs) ((sl.later l1).later (Same.laterH hs)) ⟨Ca, hC, rfl, .inr ⟨d, _, rfl, upd_same, ?_⟩⟩
    exact paired_rev (repF_zip h.1 (r1.later (Same.laterH hs)))
  · exact p1.elim
/-- raise C("..") -/
@[reducible] def sRaise0 (C : Nat) : MS := fun ρ st => .exc ⟨C, []⟩ ρ st
theorem pmk_one {m : Str} {j : Nat} {p2 : Pos} {Ca : Addr} (T : OexC X.K Ca) (iC : PySem.W.findIn X.K (.ref Ca) "__init__" = some (some (.builtin "ValueError.__init__"))) (hg : Gl X x) (hm : X.mg x = some (.ref Ca)) (hdb : (x == ("__debug__" : Str)) = false) :
    PMk X (.Call (.Name x p) [.Constant (.str m) j p2] [] pos) (fun _ H Q => Q (.ref Ca) none H) := by
  intro pins s σ H Q I h
  obtain ⟨nm', q, N, bs, bm, sn, sub, ab, col, dd, k0, k1, k2, k3, k5, hCo, hbm⟩ := T.cls
  refine wpAny_Call_Name_kw (ld_glob I hg hm ?_ hdb)
  have ha : PA X [.Constant (.str m) j p2] (tCons (tC (.str m)) tNil) := pa_cons pe_str pa_nil
  refine PySem.W.callWith_K (h₀ := X.base) I.ok.mod.kin T.kC (thn (ha.run pos pins s σ H (fun vs H1 => vs = [V.str m] ∧ H = H1) I ⟨rfl, rfl⟩) fun us s1 hh => ?_) (by rfl) (by rfl)
  obtain ⟨vs, H1, I1, r1, ev, eH⟩ := hh
  subst ev
  subst eH
  refine ⟨I1.kIn, ?_⟩
  show wpAny _ _ (call (.ref Ca) us) _ _ _
  obtain ⟨hp, g, dr, tk, os⟩ := s1
  have kk : ∀ b o, hp.get? b = some o → ((hp.push (PySem.W.kdv_tup us)).push (PySem.HandSPX.excO Ca hp.objs.size)).get? b = some o := fun b o e => Heap.get?_push_of_some _ (Heap.get?_push_of_some _ e)
  have hget : ((hp.push (PySem.W.kdv_tup us)).push (PySem.HandSPX.excO Ca hp.objs.size)).get? (hp.objs.size + 1) = some (PySem.HandSPX.excO Ca hp.objs.size) := by heap_get
  have hus : us.length ≤ sizeLine := by
    rw [← Paired.length r1, sizeLine_eq]
    simp
  refine wpAny_call (PySem.AbX.call_ownV F.excBase_ValueError (fun Y => PySem.HandSPX.refsVE_contains Y bm hbm) (I1.kIn _ _ hCo) (PySem.W.looks_findIn I1.kIn iC) (fun self => PySem.W.Looks.of_pure (F.excBase_ValueError.init.bind self)) hus
    (PySem.HandSPX.init_base F.excBase_ValueError (fun Y => PySem.HandSPX.refsVE_contains Y bm hbm) (kk _ _ (I1.kIn _ _ hCo)) hget hus fun h' t1 k hx => ?_))
  refine ⟨rfl, ?_⟩
  refine ⟨hp.objs.size + 1, _, _, ⟨hp, g, dr, tk, os⟩, H, .ref Ca, none, rfl, I1, fun b o e => k b o (Nat.ne_of_lt (Nat.lt_succ_of_lt (Heap.lt_size e))) (kk b o e), ?_, hx, ⟨rfl, rfl⟩, rfl, rfl, I1.hok.fresh (Nat.le_succ _), rfl, I1.bare, raises_own T.exC T.tyC, h⟩
  cases e : hp.get? (hp.objs.size + 1) with
  | none => rfl
  | some o => exact absurd (Heap.lt_size e) (Nat.not_lt.mpr (Nat.le_succ _))
theorem js_raise0 {m : Str} {j : Nat} {p2 : Pos} (h : Ex0 (Cx.wh X) C) (hc : X.calm = true) (hx : x = nm C := by decide +kernel) (hg : Gl X x := by rfl) (hdb : (x == ("__debug__" : Str)) = false := by decide) :
    JS X (.Raise (some (.Call (.Name x p) [.Constant (.str m) j p2] [] pos)) none pos') (sRaise0 C) := fun W tk => by
  obtain ⟨Ca, hC, T, iC⟩ := h
  refine PS.weak (ps_raise hc tk (pmk_one T iC hg (by rw [hx]; exact hC) hdb)) fun D σ H ⟨ι, ρ, st, S, sl, p⟩ => ?_
  exact p ι H σ _ _ (Later.refl _ _) S sl ⟨Ca, hC, rfl, .inl ⟨rfl, rfl⟩⟩
end
end Ab

set_option Elab.async false
set_option linter.all false
set_option maxRecDepth 100000
set_option maxHeartbeats 1000000
/-! Ab: list.count, isinstance, what an except suite reads of its exception. -/
namespace Ab
open PySem PySem.Spec PyProof.Rows L2
/-! ### list.count -/
def countW (y : Val) : List Val → Nat
  | [] => 0
  | x :: r => countW y r + (if eqW x y then 1 else 0)
@[reducible] def vCount : Val → List Val → Store → R Val
  | .ref n, [y], st => match seqAt st n with
    | some xs => if flatW y && xs.all flatW then .ok (.int (countW y xs : Nat)) st else .bad
    | none => .bad
  | _, _, _ => .bad
section
variable {X : Cx}
theorem countW_U {mg : Str → Option Value} {ι : List Addr} {H : Hp} {y : Val} {yv : V} (ry : Rep mg ι H y yv) (hy : flatW y = true) : ∀ {ws : List Val} {vs : List V} {us : List Value}, Reps mg ι H ws vs → Vals vs us → ws.all flatW = true → us.countP (eqU yv) = countW y ws
  | [], _, us, r, rv, _ => by rw [r.of_nil] at rv; cases rv; rfl
  | w :: ws, _, us, r, rv, hf => by
    obtain ⟨v, r', e, h1, h2⟩ := r.of_cons
    subst e
    cases rv with
    | cons q t =>
      rw [List.all_cons, Bool.and_eq_true] at hf
      rw [List.countP_cons, countW_U ry hy h2 t hf.2]
      rw [eqU_of q (flatW_rep h1 hf.1).1, (flatW_rep ry hy).2 h1 hf.1]
      rfl
theorem mt_count' : MtR X "list.count" (rM X.K X.mg vCount) := by
  rintro pins s σ H x xs v us Q I rx rs ⟨ι, st, w, ws, S, r1, r2, p⟩
  unfold vCount at p
  split at p
  · rename_i n y
    obtain ⟨a, e, ha⟩ := r1.ref_inv
    obtain ⟨z, e2, hz⟩ := r2.one
    subst e e2
    split at p
    · rename_i ys es
      obtain ⟨vs, hl, rr⟩ := S.seqL es ha
      split at p
      · rename_i hf
        rw [Bool.and_eq_true] at hf
        cases rx
        obtain ⟨u, rfl, ru⟩ := rs.one
        obtain ⟨its, rv, ⟨⟨cls, dd, data, sl⟩, m, ho, hc, hdn, hd⟩, hlen⟩ := I.list hl
        simp only at hc hd
        subst hc hd
        refine call_meets PySem.F.slot_list_count ⟨_, ho, rfl⟩ PySem.F.entry_list_count (PySem.F.args_list_count_2 _ _)
          (SeqAt.list_countAt a its.toArray m dd sl u (eqU z)) ⟨ho, fun u' hu' => mem_eqAt ru (flatW_rep hz hf.1).1 rv (flats' rr hf.2) u' (by simpa using hu'), ?_⟩
        have ec : its.toArray.toList.countP (eqU z) = countW y ys := countW_U hz hf.1 rr rv hf.2
        refine ⟨.int (countW y ys : Nat), H, I.tok _, ⟨s.toks, ?_⟩, p.okSame S Rep.int⟩
        show Value.int ((its.toArray.toList.countP (eqU z) : Nat) : Int) s.toks = Value.int ((countW y ys : Nat) : Int) s.toks
        rw [ec]
      · exact p.elim
    · exact p.elim
  · exact p.elim
theorem quiet_count (x : Val) (xs : List Val) (st : Store) : Quiet (vCount x xs st) := by
  intro e s' h
  unfold vCount at h
  split at h
  · split at h
    · split at h <;> cases h
    · cases h
  · cases h
theorem je_count {o e : Expr} {mo me : ME} {apos cpos : Pos} (ho : JE X o mo) (he : JE X e me) (hs : starEach [e] X.env = (false, eval e X.env) :: starEach [] X.env := by rfl) (hbase : attributeBase o "count" X.env (eval o X.env) = eval o X.env := by rfl)
    (hfew : ((backTo cpos (starEach [e] X.env)).all (fun x => !x.1) && (backToKw cpos (keywordEach [] X.env)).all (fun x => x.1.isSome)
      && decide ([e].length + ([] : List Keyword).length + (if ([] : List Keyword).isEmpty then 0 else 1) < 30)) = true := by rfl) (hline : (apos.endLine == cpos.line) = true := by rfl) : JE X (.Call (.Attribute o "count" apos) [e] [] cpos) (mBM "list" vCount mo (aCons me aNil)) :=
  je_bm PySem.F.plainAttrs_list PySem.F.slot_list_count PySem.F.type_list_count mt_count' quiet_count ho (ja_cons he ja_nil hs) hbase hfew hline hs rfl
end
/-! ### isinstance of a value: built-in types -/
inductive Ty6 where
  | int | bool | str | list | tuple | dict
  deriving DecidableEq
@[reducible] def Ty6.nm : Ty6 → String
  | .int => "int" | .bool => "bool" | .str => "str" | .list => "list" | .tuple => "tuple" | .dict => "dict"
inductive Kd where
  | non | t (x : Ty6)
@[reducible] def Kd.nm : Kd → String
  | .non => "NoneType" | .t x => x.nm
@[reducible] def kindW (st : Store) : Val → Option Kd
  | .non => some .non
  | .bl _ => some (.t .bool)
  | .int _ => some (.t .int)
  | .str _ => some (.t .str)
  | .tup _ => some (.t .tuple)
  | .ref n => match st[n]? with
    | some (.lst _) => some (.t .list)
    | some (.frz _) => some (.t .list)
    | some (.dct _) => some (.t .dict)
    | _ => none
  | _ => none
@[reducible] def isT : Kd → Ty6 → Bool
  | .non, _ => false
  | .t .bool, .int => true
  | .t x, y => decide (x = y)
theorem kit6 {K : PySem.W.Frag} (k : Kd) (y : Ty6) : PySem.W.kitOne K (.type k.nm) (.type y.nm) = some (isT k y) := by
  refine kit_ty ?_
  cases k with
  | non => cases y <;> decide +kernel
  | t x => cases x <;> cases y <;> decide +kernel
theorem kindW_ty {K : PySem.W.Frag} {mg : Str → Option Value} {ι : List Addr} {st : Store} {H : Hp} (S : Sim K mg ι st H) {w : Val} {v : V} {k : Kd} (h : kindW st w = some k) (r : Rep mg ι H w v) : TyX K H v (.type k.nm) := by
  cases w with
  | non => cases h; rw [r.non_inv]; exact .base .non
  | bl b => cases h; rw [r.bl_inv]; exact .base (.bl b)
  | int i => cases h; rw [r.int_inv]; exact .base (.int i)
  | str i => cases h; rw [r.str_inv]; exact .base (.str i)
  | tup xs => cases h; obtain ⟨a, vs, e, ha, _⟩ := r.tup_inv; rw [e]; exact .base (.tup ha)
  | ref n =>
    obtain ⟨a, e, ha⟩ := r.ref_inv
    rw [e]
    dsimp only [kindW] at h
    split at h
    · rename_i xs q; cases h; obtain ⟨vs, e1, _⟩ := S.at q ha; exact .base (.lst e1)
    · rename_i xs q
      cases h
      obtain ⟨vs, e1, _⟩ := S.at q ha
      rcases e1 with ⟨o, e1⟩ | ⟨o, its, m, e1, e2, _⟩
      · exact .base (.frz e1)
      · exact .kList e1 e2
    · rename_i xs q; cases h; obtain ⟨vs, e1, _⟩ := S.at q ha; exact .base (.dK e1)
    · cases h
  | _ => cases h
/-- isinstance(e, ..) -/
@[reducible] def mIsi (ts : List Ty6) (m : ME) : ME := fun ρ st => (m ρ st).bind fun w st1 => match kindW st1 w with
  | some k => .ok (.bl (ts.any (isT k))) st1
  | none => .bad
section
variable {X : Cx} {e : Expr} {m : ME} {p p2 p3 p4 pos : Pos} {t1 t2 : Ty6} {x1 x2 : Str}
theorem je_isi (h0 : X.mg "isinstance" = none) (h1 : X.mg x1 = none) (he : JE X e m) (t1 : Ty6) (hv1 : bootBuiltins x1 = some (.type t1.nm)) (g0 : Gl X "isinstance" := by rfl) (g1 : Gl X x1 := by rfl) (hn : x1 ≠ "__name__" := by decide) (hd : (x1 == ("__debug__" : Str)) = false := by decide)
    (hs : starEach [e, .Name x1 p2] X.env = (false, eval e X.env) :: starEach [.Name x1 p2] X.env := by rfl) (hpl : (backTo pos (starEach [.Name x1 p2] X.env)).any (·.1) = false := by rfl) :
    JE X (.Call (.Name "isinstance" p) [e, .Name x1 p2] [] pos) (mIsi [t1] m) := fun W tk => by
  refine PE.weak (pe_callB call_isi g0 h0 Boot.isinstance (pa_cons (he W tk) (pa_cons (pe_bltn (v := .ty t1.nm) g1 h1 hv1 rfl hn hd) pa_nil) hs) (by decide) (by decide) hs hpl) fun σ H Q ⟨ι, ρ, st, S, sl, q⟩ => ?_
  refine ⟨ι, ρ, st, S, sl, Post.bind q fun w st1 ι1 H1 v l1 S1 r1 q1 => ?_⟩
  split at q1
  · rename_i k hk
    refine ⟨v, .ty t1.nm, .type k.nm, .type t1.nm, isT k t1, rfl, .ty _, kindW_ty S1 hk r1, kit6 k t1, ?_⟩
    have e1 : [t1].any (isT k) = isT k t1 := by simp
    rw [e1] at q1
    exact q1.okSame S1 Rep.bl
  · exact q1.elim
theorem je_isi2 {j : Nat} (h0 : X.mg "isinstance" = none) (h1 : X.mg x1 = none) (h2 : X.mg x2 = none) (he : JE X e m) (t1 t2 : Ty6) (hv1 : bootBuiltins x1 = some (.type t1.nm)) (hv2 : bootBuiltins x2 = some (.type t2.nm)) (g0 : Gl X "isinstance" := by rfl) (g1 : Gl X x1 := by rfl) (g2 : Gl X x2 := by rfl)
    (hn : x1 ≠ "__name__" := by decide) (hd : (x1 == ("__debug__" : Str)) = false := by decide) (hn2 : x2 ≠ "__name__" := by decide) (hd2 : (x2 == ("__debug__" : Str)) = false := by decide)
    (hs : starEach [e, .Tuple [.Name x1 p2, .Name x2 p3] j p4] X.env = (false, eval e X.env) :: starEach [.Tuple [.Name x1 p2, .Name x2 p3] j p4] X.env := by rfl) (hpl : (backTo pos (starEach [.Tuple [.Name x1 p2, .Name x2 p3] j p4] X.env)).any (·.1) = false := by rfl) :
    JE X (.Call (.Name "isinstance" p) [e, .Tuple [.Name x1 p2, .Name x2 p3] j p4] [] pos) (mIsi [t1, t2] m) := fun W tk => by
  refine PE.weak (pe_callB call_isiT g0 h0 Boot.isinstance (pa_cons (he W tk) (pa_cons (pe_tup (pa_cons (pe_bltn (v := .ty t1.nm) g1 h1 hv1 rfl hn hd) (pa_cons (pe_bltn (v := .ty t2.nm) g2 h2 hv2 rfl hn2 hd2) pa_nil))) pa_nil) hs) (by decide) (by decide) hs hpl) fun σ H Q ⟨ι, ρ, st, S, sl, q⟩ => ?_
  refine ⟨ι, ρ, st, S, sl, Post.bind q fun w st1 ι1 H1 v l1 S1 r1 q1 => ?_⟩
  split at q1
  · rename_i k hk
    refine ⟨by show 2 ≤ sizeLine; rw [sizeLine_eq]; omega, fun tp htp => ?_⟩
    have hsm := same_new (o := .tup [V.ty t1.nm, V.ty t2.nm]) htp
    refine ⟨v, tp, [.ty t1.nm, .ty t2.nm], .type k.nm, [.type t1.nm, .type t2.nm], [t1, t2].any (isT k), rfl, upd_same, .cons (.ty _) (.cons (.ty _) .nil), kindW_ty (S1.same hsm) hk (r1.later (Same.laterH hsm)), ?_, ?_⟩
    · refine kitAny_cons (kit6 k t1) (fun h => kitAny_cons (kit6 k t2) (fun h2 => ?_) fun h2 => ?_) fun h => ?_
      · rw [kitAny_nil]; simp [h, h2]
      · simp [h2]
      · simp [h]
    · exact q1 ι1 _ _ (Same.laterH hsm) (S1.same hsm) Rep.bl
  · exact q1.elim
end
end Ab

set_option Elab.async false
set_option linter.all false
set_option maxRecDepth 100000
set_option maxHeartbeats 1000000
/-! Ab: an except suite's look at its exception; f(lambda: e) where f tries what it got. -/
namespace Ab
open PySem PySem.Spec PyProof.Rows L2
/-! ### in the suite -/
def xOf (d : Addr) : Cell → Option (List (Nat × Val))
  | .xfs d' fs => if d' = d then some fs else none
  | _ => none
def findX (d : Addr) (st : Store) : Option (List (Nat × Val)) := st.reverse.findSome? (xOf d)
theorem findX_at {d : Addr} {st : Store} {fs : List (Nat × Val)} (h : findX d st = some fs) : ∃ n : Nat, st[n]? = some (.xfs d fs) := by
  unfold findX at h
  obtain ⟨c, hc, e⟩ := List.exists_of_findSome?_eq_some h
  obtain ⟨n, hn⟩ := List.mem_iff_getElem?.mp (List.mem_reverse.mp hc)
  cases c with
  | xfs d' fs' =>
    dsimp only [xOf] at e
    split at e
    · rename_i q
      cases e
      subst q
      exact ⟨n, hn⟩
    · cases e
  | _ => cases e
theorem findX_ok {K : PySem.W.Frag} {mg : Str → Option Value} {ι : List Addr} {st : Store} {H : Hp} (S : Sim K mg ι st H) {d : Addr} {fs : List (Nat × Val)} (h : findX d st = some fs) : ∃ vs, H d = some (.xd vs) ∧ RepF mg ι H fs vs := by
  obtain ⟨n, hn⟩ := findX_at h
  have hl : n < ι.length := by rw [S.len]; exact (List.getElem?_eq_some_iff.mp hn).1
  obtain ⟨e, vs, h1, h2⟩ := S.cell n _ _ hn (List.getElem?_eq_getElem hl)
  rw [e] at h1
  exact ⟨vs, h1, h2⟩
def okX (d : Option Addr) (st : Store) : Bool := match d with
  | none => true
  | some dd => (findX dd st).isSome
/-- isinstance(e, c), e at slot i the exception at a -/
@[reducible] def mIsE (i : Nat) (a : Addr) (d : Option Addr) (b : Bool) : ME := fun ρ st => match ρ[i]? with
  | some (some (.adr a')) => if a' = a ∧ okX d st = true then .ok (.bl b) st else .bad
  | _ => .bad
/-- e.f -/
@[reducible] def mXf (i : Nat) (a : Addr) (d : Option Addr) (f : Nat) : ME := fun ρ st => match ρ[i]?, d with
  | some (some (.adr a')), some dd => if a' = a then match findX dd st with
      | some fs => match fs.lookup f with
        | some w => .ok w st
        | none => .bad
      | none => .bad
    else .bad
  | _, _ => .bad
section
variable {X : Cx} {a Da : Addr} {oe : Obj} {d : Option Addr} {pn : List (Addr × Obj)}
def rIsE' (K : PySem.W.Frag) (Da a : Addr) (d : Option Addr) : List V → Hp → VK → Prop := fun xs H Q => ∃ (c : V) (cv : Value) (b : Bool), xs = [.ref a, c] ∧ (∀ dd, d = some dd → ∃ fs, H dd = some (.xd fs)) ∧ (∀ u, RelV c u → u = cv) ∧ PySem.W.kitOne K (.ref Da) cv = some b ∧ Q (.bl b) H
theorem call_isE' (C : ExcC X.K Da) (hz : Zc (.ref Da) d oe) (hf : ∃ vs, oe.data = .fields vs) : CallR (X.suite a ((a, oe) :: pn)) (.builtin "isinstance") (rIsE' X.K Da a d) := by
  intro pins s σ H xs us Q I r h
  obtain ⟨c, cv, b, rfl, hdd, hcv, e, q⟩ := h
  cases r with
  | cons rx rr =>
    cases rr with
    | cons rt rr =>
      cases rr
      cases rx
      have ec := hcv _ rt
      subst ec
      obtain ⟨hget, _⟩ := I.pin (a, oe) (List.mem_append.mpr (.inl List.mem_cons_self))
      obtain ⟨vs, hv⟩ := hf
      have J : ∃ od, PySem.W.InstAt s.heap a oe Da od := by
        cases d with
        | none => exact ⟨none, hget, hz.1, by unfold PySem.W.notCls; rw [hv] <;> rfl, by rw [hz.2]; trivial⟩
        | some dd =>
          obtain ⟨fs, ed⟩ := hdd dd rfl
          have hx : ObjOk X.prog X.w H s.heap dd (.xd fs) := I.hok dd _ ed
          obtain ⟨mA, hns, hr⟩ := hx
          obtain ⟨od, ho, hl⟩ := lookIn_ns hns
          exact ⟨some od, hget, hz.1, by unfold PySem.W.notCls; rw [hv] <;> rfl, by rw [hz.2]; exact ho⟩
      obtain ⟨od, J⟩ := J
      have hcl : (PySem.W.clsIn X.K Da).isSome = true := by
        have := C.hd
        obtain ⟨cd, hc, _⟩ := PySem.W.any_some this
        rw [hc]; rfl
      exact PySem.W.kia_one (PySem.W.kitx_exc hcl C.hg C.hk C.hs C.ha C.hn C.ht C.hm) I.kIn J e (fun z => nomatch z) fun tk => ⟨.bl b, H, I.kept (t' := tk) fun _ _ z => z, rfl, q⟩
theorem je_isE {i : Nat} {x cn : Str} {cv : Value} {b : Bool} {p p2 p3 pos : Pos} (C : ExcC X.K Da) (hz : Zc (.ref Da) d oe) (hf : ∃ vs, oe.data = .fields vs) (h0 : X.mg "isinstance" = none) (hN : X.N[i]? = some x) (hv : Vis X.env.scope x)
    (hc : ∃ v, RelV v cv ∧ (∀ u, RelV v u → u = cv) ∧ PE (X.suite a ((a, oe) :: pn)) (.Name cn p3) (tC v)) (hk : PySem.W.kitOne X.K (.ref Da) cv = some b) (g0 : Gl X "isinstance" := by rfl) (hd : (x == ("__debug__" : Str)) = false := by decide) (hcd : (x == ("__classdict__" : Str)) = false := by decide)
    (hs : starEach [.Name x p2, .Name cn p3] X.env = (false, eval (.Name x p2) X.env) :: starEach [.Name cn p3] X.env := by rfl) (hpl : (backTo pos (starEach [.Name cn p3] X.env)).any (·.1) = false := by rfl) :
    JE (X.suite a ((a, oe) :: pn)) (.Call (.Name "isinstance" p) [.Name x p2, .Name cn p3] [] pos) (mIsE i a d b) := fun W tk => by
  obtain ⟨v, hv1, hv2, he⟩ := hc
  refine PE.weak (pe_callB (X := X.suite a ((a, oe) :: pn)) (call_isE' C hz hf) g0 h0 Boot.isinstance (pa_cons (pe_var (i := i) hN hv hd hcd) (pa_cons he pa_nil) hs) (by decide) (by decide) hs hpl) fun σ H Q ⟨ι, ρ, st, S, sl, q⟩ => ?_
  dsimp only [mIsE] at q
  split at q
  · rename_i a' ea
    split at q
    · rename_i hh
      obtain ⟨e1, e2⟩ := hh
      subst e1
      obtain ⟨v', h1, h2⟩ := sl.2 i _ ea
      rw [Rep] at h2
      subst h2
      refine ⟨_, h1, v, cv, b, rfl, fun dd ed => ?_, hv2, hk, q.okSame S Rep.bl⟩
      subst ed
      unfold okX at e2
      obtain ⟨fs, hfs⟩ := Option.isSome_iff_exists.mp e2
      obtain ⟨vs, h3, _⟩ := findX_ok S hfs
      exact ⟨vs, h3⟩
    · exact q.elim
  · exact q.elim
theorem je_xf {i f : Nat} {x fN : Str} {p pos : Pos} (T : XfC X.K Da) (hno : PySem.W.findIn X.K (.ref Da) (nm f) = some none) (hz : Zc (.ref Da) d oe) (hf : ∃ vs, oe.data = .fields vs) (hN : X.N[i]? = some x) (hv : Vis X.env.scope x) (hfn : f < nmN)
    (hn : fN = nm f := by decide +kernel) (hd : (x == ("__debug__" : Str)) = false := by decide) (hcd : (x == ("__classdict__" : Str)) = false := by decide) (hb : attributeBase (.Name x p) fN X.env (eval (.Name x p) X.env) = eval (.Name x p) X.env := by rfl) :
    JE (X.suite a ((a, oe) :: pn)) (.Attribute (.Name x p) fN pos) (mXf i a d f) := fun W tk => by
  subst hn
  refine PE.weak (pe_xf T hno hz hf (pe_var (i := i) hN hv hd hcd) hb) fun σ H Q ⟨ι, ρ, st, S, sl, q⟩ => ?_
  dsimp only [mXf] at q
  split at q
  · rename_i a' dd ea _
    split at q
    · rename_i e1
      subst e1
      split at q
      · rename_i fs hfs
        split at q
        · rename_i w hw
          obtain ⟨v', h1, h2⟩ := sl.2 i _ ea
          rw [Rep] at h2
          subst h2
          obtain ⟨vs, h3, h4⟩ := findX_ok S hfs
          obtain ⟨v, h5, h6⟩ := h4.lookup hfn hw
          exact ⟨_, h1, rfl, rfl, dd, vs, v, rfl, h3, h5, q.okSame S h6⟩
        · exact q.elim
      · exact q.elim
    · exact q.elim
  · exact q.elim
end
/-! ### f(lambda: e) -/
def outV (x : Exc) : Option (List Val) := match x.cls with
  | 1 => match x.fs.lookup 24, x.fs.lookup 25 with
    | some w, some u => some [.str "row", w, u]
    | _, _ => none
  | 2 => (x.fs.lookup 26).map fun w => [.str "barrel", w]
  | 3 => some [.str "other"]
  | 4 => some [.str "number"]
  | 5 => some [.str "other"]
  | 6 => (x.fs.lookup 24).map fun w => [.str "weather", w]
  | 7 => (x.fs.lookup 25).map fun w => [.str "operation", w]
  | 8 => (x.fs.lookup 27).map fun w => [.str "text", w]
  | 9 => (x.fs.lookup 27).map fun w => [.str "daybook", w]
  | 10 => (x.fs.lookup 28).map fun w => [.str "code", w]
  | _ => none
@[reducible] def mOutcome (mb : ME) : ME := fun ρ st => match mb ρ st with
  | .ok v st1 => .ok (.tup [.str "value", v]) st1
  | .exc x st1 => match outV x with
    | some ws => if ws.all flatW = true then .ok (.tup ws) st1 else .bad
    | none => .bad
  | .bad => .bad
section
variable {mg : Str → Option Value} {ι more : List Addr} {H H' : Hp} {K : PySem.W.Frag}
mutual
theorem Rep.shrink : ∀ {w : Val} {v v' : V}, Rep mg ι H w v → Rep mg (ι ++ more) H' w v' → Rep mg ι H' w v'
  | .non, _, _, _, h => by simpa [Rep] using h
  | .bl _, _, _, _, h => by simpa [Rep] using h
  | .int _, _, _, _, h => by simpa [Rep] using h
  | .str _, _, _, _, h => by simpa [Rep] using h
  | .tup xs, v, v', g, h => by
    rw [Rep] at g h ⊢
    obtain ⟨a, vs, e, ha, hr⟩ := h
    obtain ⟨_, us, _, _, gr⟩ := g
    exact ⟨a, vs, e, ha, Reps.shrink gr hr⟩
  | .ref n, v, v', g, h => by
    rw [Rep] at g h ⊢
    obtain ⟨a, e, ha⟩ := h
    obtain ⟨b, _, hb⟩ := g
    rw [List.getElem?_append_left (List.getElem?_eq_some_iff.mp hb).1] at ha
    exact ⟨a, e, ha⟩
  | .gl x, _, _, _, h => by simpa [Rep] using h
  | .adr x, _, _, _, h => by simpa [Rep] using h
theorem Reps.shrink : ∀ {ws : List Val} {vs vs' : List V}, Reps mg ι H ws vs → Reps mg (ι ++ more) H' ws vs' → Reps mg ι H' ws vs'
  | [], _, _, _, h => by simpa [Reps] using h
  | w :: ws, _, _, g, h => by
    rw [Reps] at g h ⊢
    obtain ⟨v, r, e, h1, h2⟩ := h
    obtain ⟨_, _, _, g1, g2⟩ := g
    exact ⟨v, r, e, Rep.shrink g1 h1, Reps.shrink g2 h2⟩
end
theorem RepF.shrink : ∀ {ws : List (Nat × Val)} {vs vs' : List (Str × V)}, RepF mg ι H ws vs → RepF mg (ι ++ more) H' ws vs' → RepF mg ι H' ws vs'
  | _, _, _, .nil, .nil => .nil
  | _, _, _, .cons g gs, .cons h hs => .cons ⟨h.1, h.2.1, Rep.shrink g.2.2 h.2.2⟩ (RepF.shrink gs hs)
theorem RepK.shrink : ∀ {ws : List (Key × Val)} {vs vs' : List (Key × V)}, RepK mg ι H ws vs → RepK mg (ι ++ more) H' ws vs' → RepK mg ι H' ws vs'
  | _, _, _, .nil, .nil => .nil
  | _, _, _, .cons g gs, .cons h hs => .cons ⟨h.1, Rep.shrink g.2 h.2⟩ (RepK.shrink gs hs)
theorem CellOk.shrink {a : Addr} {c : Cell} (g : CellOk K mg ι H a c) (h : CellOk K mg (ι ++ more) H' a c) : CellOk K mg ι H' a c := by
  cases c with
  | lst xs => obtain ⟨vs, e, r⟩ := h; obtain ⟨_, _, r'⟩ := g; exact ⟨vs, e, r'.shrink r⟩
  | frz xs => obtain ⟨vs, e, r⟩ := h; obtain ⟨_, _, r'⟩ := g; exact ⟨vs, e, r'.shrink r⟩
  | ins C fs => obtain ⟨Ca, dx, vs, e, e2, r⟩ := h; obtain ⟨_, _, _, _, _, r'⟩ := g; exact ⟨Ca, dx, vs, e, e2, RepF.shrink r' r⟩
  | dct kvs => obtain ⟨vs, e, r⟩ := h; obtain ⟨_, _, r'⟩ := g; exact ⟨vs, e, RepK.shrink r' r⟩
  | xfs d fs => obtain ⟨ed, vs, e, r⟩ := h; obtain ⟨_, _, _, r'⟩ := g; exact ⟨ed, vs, e, RepF.shrink r' r⟩
theorem Sim.shrink {st junk : Store} (S0 : Sim K mg ι st H) (S : Sim K mg (ι ++ more) (st ++ junk) H') : Sim K mg ι st H' := by
  have get1 : ∀ (n : Nat) (a : Addr), ι[n]? = some a → (ι ++ more)[n]? = some a := fun n a h => by rw [List.getElem?_append_left (List.getElem?_eq_some_iff.mp h).1]; exact h
  have get2 : ∀ (n : Nat) (c : Cell), st[n]? = some c → (st ++ junk)[n]? = some c := fun n a h => by rw [List.getElem?_append_left (List.getElem?_eq_some_iff.mp h).1]; exact h
  exact ⟨S0.len, fun n m a c d h1 h2 h3 h4 => S.inj n m a c d (get1 _ _ h1) (get1 _ _ h2) (get2 _ _ h3) (get2 _ _ h4), fun n c a h1 h2 => (S0.cell n c a h1 h2).shrink (S.cell n c a (get2 _ _ h1) (get1 _ _ h2)), S.tabs⟩
theorem Rep.flat {w : Val} {v : V} (hf : flatW w = true) {ι1 ι2 : List Addr} {H1 H2 : Hp} (h : Rep mg ι1 H1 w v) : Rep mg ι2 H2 w v := by
  cases w with
  | non => simpa [Rep] using h
  | bl _ => simpa [Rep] using h
  | int _ => simpa [Rep] using h
  | str _ => simpa [Rep] using h
  | _ => cases hf
theorem Reps.flat {ι1 ι2 : List Addr} {H1 H2 : Hp} : ∀ {ws : List Val} {vs : List V}, ws.all flatW = true → Reps mg ι1 H1 ws vs → Reps mg ι2 H2 ws vs
  | [], _, _, h => by simpa [Reps] using h
  | w :: ws, _, hf, h => by
    rw [List.all_cons, Bool.and_eq_true] at hf
    obtain ⟨v, r, e, h1, h2⟩ := h.of_cons
    subst e
    exact .cons (h1.flat hf.1) (Reps.flat hf.2 h2)
theorem Sim.addX {st : Store} {dd : Addr} {fs : List (Nat × Val)} {vs : List (Str × V)} (S : Sim K mg ι st H) (hH : H dd = some (.xd vs)) (r : RepF mg ι H fs vs) : Sim K mg (ι ++ [dd]) (st ++ [.xfs dd fs]) H := by
  have L : Later ι H (ι ++ [dd]) H := ⟨⟨[dd], rfl⟩, fun b xs e => e⟩
  have old : ∀ (n : Nat) (a : Addr), (ι ++ [dd])[n]? = some a → n < st.length → ι[n]? = some a := fun n a e hl => by
    rw [List.getElem?_append_left (by rw [S.len]; exact hl)] at e; exact e
  have last : ∀ (n : Nat) (a : Addr), (ι ++ [dd])[n]? = some a → n = st.length → a = dd := fun n a e hl => by
    rw [hl, ← S.len, List.getElem?_append_right (Nat.le_refl _)] at e
    simpa using e.symm
  have split : ∀ (n : Nat) (d : Cell), (st ++ [Cell.xfs dd fs])[n]? = some d → (st[n]? = some d ∧ n < st.length) ∨ (n = st.length ∧ d = .xfs dd fs) := fun n d e => by
    by_cases hl : n < st.length
    · rw [List.getElem?_append_left hl] at e; exact .inl ⟨e, hl⟩
    · rw [List.getElem?_append_right (by omega)] at e
      have : n - st.length = 0 := by
        by_cases q : n - st.length = 0
        · exact q
        · rw [List.getElem?_eq_none (by simp; omega)] at e; cases e
      rw [this] at e
      simp at e
      exact .inr ⟨by omega, e.symm⟩
  refine ⟨by simp [S.len], fun n m a d e h1 h2 h3 h4 l1 l2 => ?_, fun n d a h1 h2 => ?_, S.tabs⟩
  · rcases split n d h3 with ⟨q1, z1⟩ | ⟨q1, z1⟩ <;> rcases split m e h4 with ⟨q2, z2⟩ | ⟨q2, z2⟩
    · exact S.inj n m a d e (old n a h1 z1) (old m a h2 z2) q1 q2 l1 l2
    · subst z2; cases l2
    · subst z1; cases l1
    · omega
  · rcases split n d h1 with ⟨q1, z1⟩ | ⟨q1, z1⟩
    · exact (S.cell n d a q1 (old n a h2 z1)).keep L fun o e => e
    · rw [last n a h2 q1, z1]
      exact ⟨rfl, vs, hH, r.later L⟩
/-- what the try makes of the lambda's reading -/
def TTout (K : PySem.W.Frag) (mg : Str → Option Value) : (XK → Hp → VK → Prop) → Hp → VK → Prop := fun tl H Q =>
  tl (fun cls d H' => ∃ ι st x ws, Sim K mg ι st H' ∧ ExcRep mg ι H' x cls d ∧ outV x = some ws ∧ ws.all flatW = true ∧ ∀ ι' H'' v, Later ι H' ι' H'' → Sim K mg ι' st H'' → Rep mg ι' H'' (.tup ws) v → Q v H'') H
    (fun v H' => ([.str "value", v] : List V).length ≤ sizeLine ∧ ∀ p, H' p = none → Q (.ref p) (upd H' p (.tup [.str "value", v])))
/-- the classes that may come -/
def excs : List Nat := [1, 2, 3, 4, 5, 6, 7, 8, 9, 10]
theorem outV_cls {x : Exc} {ws : List Val} (h : outV x = some ws) : x.cls ∈ excs := by
  unfold outV at h
  split at h <;> first | (rename_i e; rw [e]; decide) | cases h
@[reducible] def xst (x : Exc) : Option Addr → Store
  | none => []
  | some dd => [.xfs dd x.fs]
end
theorem takes_len {X : Cx} {W : WX} (t : Takes X W) : Takes X (fun c d σ H => σ.length = X.N.length → W c d σ H) := fun u s' ⟨a, B, sI, pins, σ, H, cls, d, e, I, nb, up, sky, na, os, ag, w⟩ =>
  t u s' ⟨a, B, sI, pins, σ, H, cls, d, e, I, nb, up, sky, na, os, ag, w I.len⟩
section
variable {X : Cx} {x a e n3 n4 : Str} {st : Stmt} {g RA : Addr} {b₀ : Stmt} {suite : List Stmt} {mS : Addr → Option Addr → Nat → MS} {j jj : Nat} {p1 p2 p3 p4 p5 p6 p7 p8 : Pos} {cdg : Value} {q : Str} {k : Nat}
theorem out_gives (S : FnScope [a, e, n3, n4] [a] (defScope st)) (hb : defBody st = [.Try [.Return (some (.Tuple [.Constant (.str "value") j p1, .Call (.Name a p2) [] [] p3] jj p4)) p5] [.ExceptHandler (some (.Name "RowError" p6)) (some e) (b₀ :: suite) p7] [] [] p8])
    (hln : (defScope st).names.lookup e = some .local) (hge : (defScope st).names.lookup ("RowError" : Str) = some NameKind.globalImplicit) (hme : X.mg "RowError" = some (.ref RA)) (hroom : ∀ s : Shared, Room k (X.A.deeper (envOfC x (defScope st) s.heap.objs.size g cdg)))
    (hsuite : ∀ (A : Around) (outer : List Env) (s : Shared) (H : Hp), Room k (A.deeper (envOfC x (defScope st) s.heap.objs.size g cdg)) → ∀ (aa : Addr) (oe : Obj) (Dn : Nat) (Da : Addr) (d : Option Addr) (pn : List (Addr × Obj)), Dn ∈ excs → X.mg (nm Dn) = some (.ref Da) → Zc (.ref Da) d oe → (∃ vs, oe.data = .fields vs) →
      JSs ((cxOf C8.CX0 X.prog X.w X.K X.mg X.base [a, e, n3, n4] x (defScope st) g cdg A outer s H C8.E0).nox.suite aa ((aa, oe) :: pn)) (b₀ :: suite) (mS aa d Dn))
    (hex : ∀ Dn ∈ excs, ∀ Da, X.mg (nm Dn) = some (.ref Da) → PySem.W.exmOne X.K (.ref Da) (.ref RA) = some true)
    (hrun : ∀ (y : Exc) (ws : List Val), outV y = some ws → ws.all flatW = true → ∀ (aa : Addr) (d : Option Addr) (st1 : Store), (y.fs = [] ∧ d = none ∨ ∃ dd, d = some dd) → ∃ junk, mS aa d y.cls [none, some (.adr aa), none, none] (st1 ++ xst y d) = .ret (.tup ws) (st1 ++ junk)) :
    LamX.GivesTo X [a, e, n3, n4] x (defScope st) g cdg (defBody st) a q (TTout X.K X.mg) := by
  intro f c' s H Q tl act hc h
  rw [hb]
  have hgl : Gl (cxOf C8.CX0 X.prog X.w X.K X.mg X.base [a, e, n3, n4] x (defScope st) g cdg X.A X.stack s H C8.E0).nox "RowError" := hge
  refine ⟨_, pss_one (ps_try_as (X := (cxOf C8.CX0 X.prog X.w X.K X.mg X.base [a, e, n3, n4] x (defScope st) g cdg X.A X.stack s H C8.E0).nox) (i := 1) (c := .ref RA)
      (tb := fun W D σ H => ∃ Ech : XK, (∀ cls d σ' H', Ech cls d H' → (σ'.length = ([a, e, n3, n4] : List Str).length → W cls d σ' H')) ∧ σ[0]? = some (some (.ref f)) ∧ H c' = some (LamX.CodeO c' q) ∧ tl Ech H (fun v H' => ([.str "value", v] : List V).length ≤ sizeLine ∧ ∀ p, H' p = none → D.rt (.ref p) (upd H' p (.tup [.str "value", v]))))
      (ts := fun aa cls d D σ H => ∃ Dn Da, Dn ∈ excs ∧ X.mg (nm Dn) = some (.ref Da) ∧ cls = .ref Da ∧ rdS X.K X.mg (fun _ _ _ _ => False) (mS aa d Dn) D σ H)
      (Wout := fun _ _ _ _ => False)
      rfl rfl S.nd rfl hln ⟨hgl, by decide, .inl hme⟩ LamX.takes0 (fun W pn xe tk _ => ?_) (fun aa oe cls d pn hz hf => ?_)), ?_⟩
  · refine ⟨fun pins s' σ H' D I h' => ?_⟩
    obtain ⟨Ech, hW, h1, h2, h3⟩ := h'
    have hp := act _ pn xe Ech p2 p3 (takes_len tk) hW
    have hq := pss_one (ps_ret (pos := p5) (pe_tup (x1 := jj) (pos := p4) (pa_cons (pe_str (x := "value") (j := j) (pos := p1)) (pa_cons hp pa_nil))))
    exact hq.run pins s' σ H' D I ⟨h1, h2, h3⟩
  · refine ⟨fun pins s' σ H' D I h' => ?_⟩
    obtain ⟨Dn, Da, m1, m2, rfl, h3⟩ := h'
    exact (hsuite X.A X.stack s H (hroom s) aa oe Dn Da d pn m1 m2 hz hf (fun _ _ _ _ => False) LamX.takes0).run pins s' σ H' D I h3
  · refine ⟨_, ?_, rfl, hc, h⟩
    rintro cls d σ' H' ⟨ι, st1, y, ws, S1, er, hout, hfl, fin⟩ hlen
    have hcls := outV_cls hout
    obtain ⟨Da, hD, rfl, hfd⟩ := er
    refine ⟨true, hex _ hcls Da hD, fun _ aa na => ⟨y.cls, Da, hcls, hD, rfl, ?_⟩, fun z => nomatch z⟩
    have hcase : y.fs = [] ∧ d = none ∨ ∃ dd, d = some dd := hfd.elim .inl fun ⟨dd, vs, e1, _⟩ => .inr ⟨dd, e1⟩
    obtain ⟨junk, hjunk⟩ := hrun y ws hout hfl aa d st1 hcase
    have start : ∃ more, Sim X.K X.mg (ι ++ more) (st1 ++ xst y d) H' := by
      rcases hfd with ⟨e1, e2⟩ | ⟨dd, vs, e1, e2, e3⟩
      · subst e2
        exact ⟨[], by simpa [xst] using S1⟩
      · subst e1
        exact ⟨[dd], S1.addX e2 e3⟩
    obtain ⟨more, S2⟩ := start
    refine ⟨ι ++ more, [none, some (.adr aa), none, none], st1 ++ xst y d, S2, ⟨by simp [hlen], fun i w ei => ?_⟩, ?_⟩
    · match i, ei with
      | 0, ei => simp at ei
      | 1, ei =>
        simp at ei
        subst ei
        refine ⟨.ref aa, ?_, by rw [Rep]⟩
        rw [List.getElem?_set]
        simp
        have : ([a, e, n3, n4] : List Str).length = 4 := rfl
        omega
      | 2, ei => simp at ei
      | 3, ei => simp at ei
      | n + 4, ei => simp at ei
    · rw [hjunk]
      intro ι' H'' v l S3 r
      obtain ⟨m2, e2⟩ := l.pre
      rw [e2, List.append_assoc] at S3
      have S4 := Sim.shrink S1 S3
      refine fin ι H'' v ⟨⟨[], by simp⟩, l.tups⟩ S4 ?_
      obtain ⟨b, vs, e3, h3, h4⟩ := r.tup_inv
      subst e3
      rw [Rep]
      exact ⟨b, vs, rfl, h3, h4.flat hfl⟩
/-- x(lambda: body) -/
theorem je_outcome {T : Wh} {c P : Addr} {params : Arguments} {body : Expr} {scope : Scope} {mb : ME} {fd : FuncData} {p lpos pos : Pos} (hT : Cx.wh X = T) (F : Fun T.K x x st g fd) (S : FnScope [a, e, n3, n4] [a] (defScope st))
    (hb0 : ∀ (kV doc pm : Value) (an : Option Addr) (cdv ct : Value) (us : List Value), us.length = 1 → bindArgs (PySem.W.fnOf x x (defArgs st) (defBody st) (defScope st) .none kV doc pm an cdv ct) ⟨us, []⟩ = pure (([a] : List Str).zip us))
    (hG : ∀ cdg, (∀ s : Shared, Room k (X.A.deeper (envOfC x (defScope st) s.heap.objs.size g cdg))) → LamX.GivesTo X [a, e, n3, n4] x (defScope st) g cdg (defBody st) a (X.env.qual ++ "<lambda>") (TTout X.K X.mg))
    (hm : X.mg x = some (.ref g)) (hg : Gl X x) (TB : LamX.TabB X.base X.mg c P) (hcode : X.env.code = .ref c) (hmT : (P, X.env.qual ++ "<lambda>") ∈ tabsOf X.K X.mg) (hu : ∀ p ∈ tabsOf X.K X.mg, p.1 = P → p.2 = X.env.qual ++ "<lambda>")
    (hr : Room (k + 2) X.A) (L : LamX.LamS X.env.scope scope) (hdef : defaultsOf params X.env = ([], []))
    (hbind : ∀ (q : Str) (cl : List (Str × Addr)) (pm cv ctv : Value), bindArgs (PySem.W.kla_fn "<lambda>" q params body scope cl pm cv ctv) ⟨[], []⟩ = pure [])
    (hbody : ∀ (A : Around) (outer : List Env) (s : Shared) (H : Hp) (E : XK) (f c' : Addr), Room k (A.deeper (LamX.lamEnv X scope s.heap.objs.size f c')) → JE (LamX.lamCx X A outer s H E scope f c') body mb)
    (hdb : (x == ("__debug__" : Str)) = false := by decide) (hd : (a == ("__debug__" : Str)) = false := by decide) (hcd : (a == ("__classdict__" : Str)) = false := by decide) :
    JE X (.Call (.Name x p) [.Lambda params body scope lpos] [] pos) (mOutcome mb) := fun W tk => by
  subst hT
  obtain ⟨oc, od, kV, doc, pm, an, cdv, ct, osl, rfl, lk, hcd'⟩ := F.ex
  have vis : Vis (defScope st) a := (S.par a List.mem_cons_self).elim .inl fun z => .inr (.inl z)
  refine PE.weak (LamX.pe_lamcall (T := tabsOf X.K X.mg) (TT := TTout X.K X.mg) (t := fun E => rdG X.K X.mg (rel1 X.mg) (fun cls d _ H => E cls d H) mb) (k := k) hg hm F.kp lk hcd' (F.binds (ps := [a]) fun kV doc pm an cdv ct us hl => hb0 kV doc pm an cdv ct us hl) S rfl vis
      (hG cdv fun s => (hr.mono (by omega)).deeper _) TB hcode hmT hu hr L hdef hbind (fun A outer s H E f c' hr2 => ?_) hdb hd hcd) fun σ H Q ⟨ι, ρ, st0, S0, sl, q⟩ => ?_
  · exact hbody A outer s H E f c' hr2 (fun cls d _ H => E cls d H) (takes_of rfl rfl rfl rfl)
  · refine ⟨S0.tabs, fun H1 eN T1 => ?_⟩
    have L1 : Later ι H ι H1 := ⟨⟨[], by simp⟩, fun b xs e => eN b _ e fun ps z => by cases z⟩
    have S1 : Sim X.K X.mg ι st0 H1 := by
      refine ⟨S0.len, S0.inj, fun n c a h1 h2 => ?_, T1⟩
      have z := S0.cell n c a h1 h2
      cases c with
      | lst xs => obtain ⟨vs, e, r⟩ := z; exact ⟨vs, eN _ _ e (fun ps z => by cases z), r.later L1⟩
      | frz xs =>
        obtain ⟨vs, e, r⟩ := z
        refine ⟨vs, ?_, r.later L1⟩
        rcases e with ⟨o, e⟩ | e
        · exact .inl ⟨o, eN _ _ e (fun ps z => by cases z)⟩
        · exact .inr e
      | ins C fs => obtain ⟨Ca, dx, vs, e1, e2, r⟩ := z; exact ⟨Ca, dx, vs, e1, eN _ _ e2 (fun ps z => by cases z), r.later L1⟩
      | dct kvs => obtain ⟨vs, e, r⟩ := z; exact ⟨vs, eN _ _ e (fun ps z => by cases z), r.later L1⟩
      | xfs d fs => obtain ⟨e0, vs, e, r⟩ := z; exact ⟨e0, vs, eN _ _ e (fun ps z => by cases z), r.later L1⟩
    refine ⟨ι, ρ, st0, S1, sl.later L1, ?_⟩
    have q := Post.later q L1
    dsimp only [mOutcome] at q
    cases h : mb ρ st0 with
    | ok v st1 =>
      rw [h] at q
      intro ι' H' b l S2 r
      refine ⟨by show 2 ≤ sizeLine; rw [sizeLine_eq]; omega, fun p hp => ?_⟩
      exact (Post.later q l).newTup S2 (.cons Rep.str (.cons r .nil)) hp
    | exc y st1 =>
      rw [h] at q
      dsimp only at q
      intro ι' H' c d l S2 er
      split at q
      · rename_i ws hws
        split at q
        · rename_i hfl
          exact ⟨ι', st1, y, ws, S2, er, hws, hfl, fun ι'' H'' v l2 S3 r => q ι'' H'' v (l.trans l2) S3 r⟩
        · exact q.elim
      · exact q.elim
    | bad => rw [h] at q; exact q.elim
end
end Ab

set_option Elab.async false
set_option linter.all false
set_option maxRecDepth 100000
set_option maxHeartbeats 1000000
/-! Ab: *args, starred arguments, own + and len, class constants. -/
namespace Ab
open PySem PySem.Spec PyProof.Rows L2
/-! ### a def by positional values (perhaps *rest) -/
def FnMR (T : Wh) (k : Nat) (f : Addr) (mf : MF) : Prop := PySem.W.keepIn T.K (.ref f) = true ∧ FnR T.P T.w T.K T.mg T.base (L2.CX T.P T.w) k f (spM T.K T.mg mf)
def HasIR (T : Wh) (C : Nat) (k : Nat) (mf : MF) : Prop := ∃ Ca f, T.mg (nm C) = some (.ref Ca) ∧ Mk T.K Ca f ∧ FnMR T k f mf
/-- the def with n parameters, *rest and m further names -/
def defStarM (n m : Nat) (body : MS) : MF := fun ws st => if n ≤ ws.length ∧ ws.length ≤ 1000 then (body ((ws.take n ++ [Val.tup (ws.drop n)]).map some ++ List.replicate m none) st).fin else .bad
/-! ### starred arguments -/
def itemsW (st : Store) : Val → Option (List Val)
  | .tup xs => some xs
  | .ref n => seqAt st n
  | _ => none
@[reducible] def aStar (m : ME) (t : MA) : MA := fun ρ st => (m ρ st).bind fun w st1 => match itemsW st1 w with
  | some xs => (t ρ st1).bind fun ys st2 => .ok (xs ++ ys) st2
  | none => .bad
section
variable {X : Cx} {k : Nat} {x : Str} {e : Expr} {es : List Expr} {m : ME} {t : MA} {p pos : Pos} {mf : MF} {C : Nat}
theorem ja_star (he : JE X e m) (hr : JA X es t) (hs : starEach (.Starred e p :: es) X.env = (true, eval e X.env) :: starEach es X.env := by rfl) : JA X (.Starred e p :: es) (aStar m t) := fun W tk => by
  refine PA.weak (StX.pa_star (he W tk) (hr W tk) hs) fun σ H Q ⟨ι, ρ, st, S, sl, q⟩ => ?_
  refine ⟨ι, ρ, st, S, sl, Post.bind q fun w st1 ι1 H1 v l1 S1 r1 q1 => ?_⟩
  have sl1 := sl.later l1
  split at q1
  · rename_i xs hxs
    have fin : ∀ vs, Reps X.mg ι1 H1 xs vs → rdG X.K X.mg (relL X.mg) W t σ H1 (fun ys H2 => Q (vs ++ ys) H2) := fun vs rv =>
      ⟨ι1, ρ, st1, S1, sl1, Post.bind q1 fun ys st2 ι2 H2 us l2 S2 r2 q2 => q2.okSame S2 ((rv.later l2).append r2)⟩
    cases w with
    | tup zs =>
      cases hxs
      obtain ⟨a, vs, e1, ha, rv⟩ := Rep.tup_inv r1
      exact ⟨a, vs, e1, .inl (SqT.of ha), fin vs rv⟩
    | ref n =>
      obtain ⟨a, e1, ha⟩ := Rep.ref_inv r1
      obtain ⟨vs, hl, rr⟩ := S1.seqL hxs ha
      exact ⟨a, vs, e1, .inr hl, fin vs rr⟩
    | _ => cases hxs
  · exact q1.elim
theorem run_makeRS {CX : CXT} {pins : List (Addr × Obj)} {σ : L2.St} {H : Hp} {s : Shared} {Q : VK} {us : List Value} {vs : List V} {Ca f : Addr} {sp : Sp} {E : XK} (M : Mk X.K Ca f) (F : FnR X.prog X.w X.K X.mg X.base CX k f sp) (hr : Room (k + 1) X.A) (hx : PassesAt CX X σ E) (I : Inv X pins σ H s) (r : Vals vs us)
    (h : ∀ x dx, H x = Option.none → H dx = Option.none → dx ≠ x → sp (V.ref x :: vs) (upd (upd H dx (.own x)) x (.ins Ca dx [])) (fun v H2 => v = .non ∧ Q (.ref x) H2) E) :
    wpAny (model X.prog X.w) X.A (call (.ref Ca) us) (EP X pins σ Q) X.xe s := by
  have hq := h (s.heap.objs.size + 1) s.heap.objs.size (I.hok.fresh (Nat.le_succ _)) (I.hok.fresh (Nat.le_refl _)) (Nat.ne_of_lt (Nat.lt_succ_self _))
  have I2 := Inv.made (C := Ca) I
  have r2 : Vals (V.ref (s.heap.objs.size + 1) :: vs) (Value.ref (s.heap.objs.size + 1) :: us) := .cons rfl r
  refine wpAny_call (make_map (f := f) I.kIn M.makes M.init (beq_iff_eq.mp M.fn) (codeAny_mono (F _ X.stack _ _ (Value.ref (s.heap.objs.size + 1) :: us) _ _ E (hr.make Ca us []) (I2.env0.make Ca us []) r2 hq) fun r s' hq' => ?_))
  cases r with
  | error e => exact hx pins _ _ e s' I2 hq'
  | ok fl =>
    cases fl with
    | ret u =>
      obtain ⟨v, H', I3, rv, ev, q3⟩ := I2.after hq'
      subst ev
      exact ⟨rv, ⟨V.ref (s.heap.objs.size + 1), H', I3, rfl, q3⟩⟩
    | next => exact False.elim hq'
    | brk => exact False.elim hq'
    | cont => exact False.elim hq'
theorem make_read {W : WX} {σ : L2.St} {Q : VK} {ι1 : List Addr} {H1 : Hp} {st1 : Store} {ws : List Val} {vs : List V} {Ca : Addr} (hC : X.mg (nm C) = some (.ref Ca)) (S1 : Sim X.K X.mg ι1 st1 H1) (r1 : Reps X.mg ι1 H1 ws vs)
    (p1 : Post X.K X.mg (rel1 X.mg) ι1 H1 Q (fun c d H' => W c d σ H') (vMake C mf ws st1)) : ∀ x dx, H1 x = Option.none → H1 dx = Option.none → dx ≠ x → spM X.K X.mg mf (V.ref x :: vs) (upd (upd H1 dx (.own x)) x (.ins Ca dx [])) (fun v H2 => v = .non ∧ Q (.ref x) H2) (WE W σ) := by
  intro q dx hq hdx ne
  obtain ⟨S2, l2⟩ := make_sim S1 hC hq hdx ne
  refine ⟨_, _, _, S2, Reps.cons (Rep.ref (n := st1.length) (a := q) ?_) (Reps.later l2 r1), Post.bind (Post.later p1 l2) fun w st3 ι3 H3 v l3 S3 r3 p3 => ?_⟩
  · rw [← S1.len, List.getElem?_append_right (Nat.le_refl _)]; simp
  · cases w with
    | non =>
      refine ⟨Rep.non_inv r3, p3.okSame S3 (Rep.ref ?_)⟩
      refine l3.get ?_
      rw [← S1.len, List.getElem?_append_right (Nat.le_refl _)]; simp
    | _ => exact p3.elim
/-- C(e, ..), C's __init__ with *rest -/
theorem je_makeR (h : HasIR (Cx.wh X) C k mf) (hx : x = nm C) (hr : Room (k + 1) X.A) (ha : JA X (e :: es) t) (hg : Gl X x := by rfl) (hdb : (x == ("__debug__" : Str)) = false := by decide) (he : starEach (e :: es) X.env = (false, eval e X.env) :: starEach es X.env := by rfl)
    (hpl : (backTo pos (starEach es X.env)).any (·.1) = false := by rfl) : JE X (.Call (.Name x p) (e :: es) [] pos) (mApp (vMake C mf) t) := fun W tk => by
  obtain ⟨Ca, f, hC, M, hk, F⟩ := h
  refine ⟨fun pins s σ H Q I ⟨ι, ρ, st, S, sl, q⟩ => ?_⟩
  refine wpAny_Call_Name_kw (ld_glob I hg (by rw [hx]; exact hC) ?_ hdb)
  refine PySem.W.callWith_K (h₀ := X.base) I.ok.mod.kin M.kp (thn ((ha W tk).run pos pins s σ H (fun vs H1 => ∀ y dx, H1 y = Option.none → H1 dx = Option.none → dx ≠ y → spM X.K X.mg mf (V.ref y :: vs) (upd (upd H1 dx (.own y)) y (.ins Ca dx [])) (fun v H2 => v = .non ∧ Q (.ref y) H2) (WE W σ)) I ?_) fun us s1 ⟨vs, H1, I1, r, q⟩ => ⟨I1.kIn, ?_⟩) he hpl
  · exact ⟨ι, ρ, st, S, sl, Post.bind q fun ws st1 ι1 H1 vs l1 S1 r1 p1 => make_read hC S1 r1 p1⟩
  · exact run_makeRS M F hr (passAt tk σ) I1 r q
/-- C(e, .., *y) -/
theorem je_makeS (h : HasIR (Cx.wh X) C k mf) (hx : x = nm C) (hr : Room (k + 1) X.A) (ha : JA X (e :: es) t) (hg : Gl X x := by rfl) (hdb : (x == ("__debug__" : Str)) = false := by decide) (he : starEach (e :: es) X.env = (false, eval e X.env) :: starEach es X.env := by rfl)
    (hst : (backTo pos (starEach es X.env)).any (·.1) = true := by rfl) : JE X (.Call (.Name x p) (e :: es) [] pos) (mApp (vMake C mf) t) := fun W tk => by
  obtain ⟨Ca, f, hC, M, hk, F⟩ := h
  refine ⟨fun pins s σ H Q I ⟨ι, ρ, st, S, sl, q⟩ => ?_⟩
  refine wpAny_Call_Name_kw (ld_glob I hg (by rw [hx]; exact hC) ?_ hdb)
  refine PySem.W.callWith_S2 (h₀ := X.base) I.ok.mod.kin M.kp (thn ((ha W tk).run pos pins s σ H (fun vs H1 => ∀ y dx, H1 y = Option.none → H1 dx = Option.none → dx ≠ y → spM X.K X.mg mf (V.ref y :: vs) (upd (upd H1 dx (.own y)) y (.ins Ca dx [])) (fun v H2 => v = .non ∧ Q (.ref y) H2) (WE W σ)) I ?_) fun us s1 ⟨vs, H1, I1, r, q⟩ => ⟨I1.kIn, ?_⟩) he hst
  · exact ⟨ι, ρ, st, S, sl, Post.bind q fun ws st1 ι1 H1 vs l1 S1 r1 p1 => make_read hC S1 r1 p1⟩
  · exact run_makeRS M F hr (passAt tk σ) I1 r q
end

/-! ### own + and len -/
/-- a operator of the class of that number, both sides of it -/
def HasOp (T : Wh) (C : Nat) (op : Operator) (k : Nat) (mf : MF) : Prop := ∃ Ca f, T.mg (nm C) = some (.ref Ca) ∧ Cls T.K Ca ∧ PySem.W.selfFirst T.K Ca = true ∧ PySem.W.findIn T.K (.ref Ca) (PySem.dunder op.info.2) = some (some (.ref f)) ∧ PySem.W.isFn T.K (.ref f) = true ∧ FnM T k 2 f mf
def isIns (C : Nat) (st : Store) : Val → Bool
  | .ref n => match st[n]? with
    | some (.ins C' _) => decide (C' = C)
    | _ => false
  | _ => false
theorem isIns_at {C : Nat} {st : Store} {w : Val} (h : isIns C st w = true) : ∃ n fs, w = .ref n ∧ st[n]? = some (.ins C fs) := by
  unfold isIns at h
  split at h
  · rename_i n
    split at h
    · rename_i C' fs e
      have := of_decide_eq_true h
      subst this
      exact ⟨n, fs, rfl, e⟩
    · cases h
  · cases h
/-- what own + gives back must be an object (no mark that it is not implemented) -/
@[reducible] def mOp (C : Nat) (mf : MF) (ma mb : ME) : ME := fun ρ st => (ma ρ st).bind fun x st1 => (mb ρ st1).bind fun y st2 => if isIns C st2 x = true ∧ isIns C st2 y = true then mf [x, y] st2 else .bad
section
variable {X : Cx} {k : Nat} {a b e : Expr} {ma mb m : ME} {p pos : Pos} {mf : MF} {C : Nat} {op : Operator}
theorem je_own (h : HasOp (Cx.wh X) C op k mf) (hr : Room k X.A) (ha : JE X a ma) (hb : JE X b mb) : JE X (.BinOp a op b pos) (mOp C mf ma mb) := fun W tk => by
  obtain ⟨Ca, f, hC, cl, hsf, hs, hfn, fd, ps, hl, hkp, hbd, F⟩ := h
  have hC : X.mg (nm C) = some (.ref Ca) := hC
  refine ⟨fun pins s σ H Q I ⟨ι, ρ, st, S, sl, q⟩ => ?_⟩
  refine wpAny_BinOp (binT (R := fun x y H2 => ∃ xa ya dx dy fx fy, x = .ref xa ∧ y = .ref ya ∧ H2 xa = some (.ins Ca dx fx) ∧ H2 ya = some (.ins Ca dy fy) ∧ spM X.K X.mg mf [.ref xa, .ref ya] H2 Q (WE W σ)) (ha W tk) (hb W tk) I ?_ fun v u s2 x y H2 I2 rx ry hq => ?_)
  · refine ⟨ι, ρ, st, S, sl, Post.bind q fun x st1 ι1 H1 xv l1 S1 r1 p1 => ?_⟩
    refine ⟨ι1, ρ, st1, S1, sl.later l1, Post.bind p1 fun y st2 ι2 H2 yv l2 S2 r2 p2 => ?_⟩
    split at p2
    · rename_i hh
      obtain ⟨n, fs, e1, c1⟩ := isIns_at hh.1
      obtain ⟨n2, fs2, e2, c2⟩ := isIns_at hh.2
      have r1' := Rep.later l2 r1
      subst e1 e2
      obtain ⟨xa, f1, g1⟩ := Rep.ref_inv r1'
      obtain ⟨ya, f2, g2⟩ := Rep.ref_inv r2
      obtain ⟨Ca1, dx, vs, i1, i2, i3⟩ := S2.at c1 g1
      obtain ⟨Ca2, dy, us, j1, j2, j3⟩ := S2.at c2 g2
      rw [hC] at i1 j1
      cases i1
      cases j1
      subst f1 f2
      exact ⟨xa, ya, dx, dy, vs, us, rfl, rfl, i2, j2, ι2, _, st2, S2, .cons (Rep.ref g1) (.cons (Rep.ref g2) .nil), p2⟩
    · exact p2.elim
  · obtain ⟨xa, ya, dx, dy, fx, fy, e1, e2, i1, i2, hsp⟩ := hq
    subst e1 e2
    cases rx
    cases ry
    obtain ⟨mA, O, _⟩ := ins_get I2.hok i1
    obtain ⟨od, J, _⟩ := O.look
    obtain ⟨mB, O2, _⟩ := ins_get I2.hok i2
    obtain ⟨od2, J2, _⟩ := O2.look
    obtain ⟨m0, fr⟩ := I2.fr
    refine PySem.W.binop_K fr I2.ok.mod.kin J J2.type hsf hs hfn ?_
    refine thn (run_fnS (us := [.ref xa, .ref ya]) (vs := [.ref xa, .ref ya]) F hr hbd (passAt tk σ) I2 (.cons rfl (.cons rfl .nil)) hsp) fun u s3 hh => ?_
    obtain ⟨v3, H3, I3, r3, q3⟩ := hh
    have z : EP X pins σ Q u s3 := ⟨v3, H3, I3, r3, q3⟩
    cases v3 with
    | non => cases (show u = Value.none from r3); exact z
    | bl y => cases (show u = Value.bool y from r3); exact z
    | int i => obtain ⟨t, e⟩ := (show ∃ t, u = Value.int i t from r3); subst e; exact z
    | str y => obtain ⟨t, e⟩ := (show ∃ t, u = Value.str y t from r3); subst e; exact z
    | byt y => obtain ⟨t, e⟩ := (show ∃ t, u = Value.bytes y t from r3); subst e; exact z
    | flt y => obtain ⟨t, e⟩ := (show ∃ t, u = Value.float y t from r3); subst e; exact z
    | ref y => cases (show u = Value.ref y from r3); exact z
    | ty y => cases (show u = Value.type y from r3); exact z
/-- len(e) by an own __len__ -/
def HasLen (T : Wh) (C : Nat) (k : Nat) (mf : MF) : Prop := ∃ Ca f, T.mg (nm C) = some (.ref Ca) ∧ Cls T.K Ca ∧ PySem.W.findIn T.K (.ref Ca) "__len__" = some (some (.ref f)) ∧ PySem.W.isFn T.K (.ref f) = true ∧ FnM T k 1 f mf
@[reducible] def mLen (C : Nat) (mf : MF) (m : ME) : ME := fun ρ st => (m ρ st).bind fun x st1 => if isIns C st1 x = true then match mf [x] st1 with
    | .ok (.int i) st2 => if 0 ≤ i ∧ i < 1000000 then .ok (.int i) st2 else .bad
    | _ => .bad
  else .bad
theorem je_lenO (h : HasLen (Cx.wh X) C k mf) (hr : Room (k + 1) X.A) (he : JE X e m) (h0 : X.mg "len" = none) (g0 : Gl X "len" := by rfl) (hs : starEach [e] X.env = (false, eval e X.env) :: starEach [] X.env := by rfl) : JE X (.Call (.Name "len" p) [e] [] pos) (mLen C mf m) := fun W tk => by
  obtain ⟨Ca, f, hC, cl, hls, hfn, fd, ps, hl, hkp, hbd, F⟩ := h
  have hC : X.mg (nm C) = some (.ref Ca) := hC
  have hc : CallR X (.builtin "len") (fun xs H Q => ∃ a dx fs, xs = [.ref a] ∧ H a = some (.ins Ca dx fs) ∧ spM X.K X.mg mf [.ref a] H (fun v H' => ∃ i : Int, v = .int i ∧ (0 ≤ i ∧ i < 1000000) ∧ Q v H') (fun _ _ _ => False)) := by
    intro pins s σ H xs us Q I r h
    obtain ⟨a, dx, fs, rfl, ea, hsp⟩ := h
    obtain rfl : us = [.ref a] := by
      cases r with
      | cons r1 r2 => cases r2; cases r1; rfl
    obtain ⟨mA, O, _⟩ := ins_get I.hok ea
    obtain ⟨od, J, _⟩ := O.look
    obtain ⟨m0, fr⟩ := I.fr
    refine PySem.W.len_K fr I.ok.mod.kin J hls hfn (wpAny_call ?_)
    have hlen : ([Value.ref a] : List Value).length = ps.length := by rw [hl]; rfl
    have b := hbd s [.ref a] I.kIn (by rw [List.append_nil]; exact hlen)
    rw [List.append_nil] at b
    refine codeAny_mono (F.run X.A.in1 X.stack s H ⟨[.ref a], []⟩ [.ref a] [.ref a] _ _ hr.in1 I.env0.in1 b (.cons rfl .nil) hsp) fun r s' hq => ?_
    cases r with
    | error er => exact False.elim (passL (X := X.nox) pins σ H s er s' (I.wish _) hq)
    | ok fl =>
      cases fl with
      | ret u =>
        obtain ⟨v, H', I3, rv, i, ev, hi, q3⟩ := I.after hq
        subst ev
        obtain ⟨t, eu⟩ := (show ∃ t, u = Value.int i t from rv)
        subst eu
        exact ⟨⟨hi.1, by omega⟩, .int i, H', I3.tok _, ⟨_, rfl⟩, q3⟩
      | next => exact False.elim hq
      | brk => exact False.elim hq
      | cont => exact False.elim hq
  refine PE.weak (pe_callB hc g0 h0 Boot.len (pa_cons (he W tk) pa_nil hs) (by decide) (by decide) hs rfl) fun σ H Q ⟨ι, ρ, st, S, sl, q⟩ => ?_
  refine ⟨ι, ρ, st, S, sl, Post.bind q fun w st1 ι1 H1 v l1 S1 r1 q1 => ?_⟩
  split at q1
  · rename_i hh
    obtain ⟨n, fs, e1, c1⟩ := isIns_at hh
    subst e1
    obtain ⟨xa, f1, g1⟩ := Rep.ref_inv r1
    obtain ⟨Ca1, dx, vs, i1, i2, i3⟩ := S1.at c1 g1
    rw [hC] at i1
    cases i1
    subst f1
    refine ⟨xa, dx, vs, rfl, i2, ι1, _, st1, S1, .cons (Rep.ref g1) .nil, ?_⟩
    cases hm : mf [.ref n] st1 with
    | ok w st2 =>
      rw [hm] at q1
      intro ι' H' b l S2 r
      cases w with
      | int i =>
        dsimp only at q1
        split at q1
        · rename_i hi
          rw [Rep.int_inv r]
          exact ⟨i, rfl, hi, q1 ι' H' _ l S2 Rep.int⟩
        · exact q1.elim
      | _ => exact q1.elim
    | exc x st2 => rw [hm] at q1; exact q1.elim
    | bad => rw [hm] at q1; exact q1.elim
  · exact q1.elim
/-- C.F, a constant of the class -/
theorem je_ccon {x f : Str} {Ca : Addr} {mc u : Value} {i : Int} {p2 : Pos} (hm : X.mg x = some (.ref Ca)) (r : ClX.CRead X.K Ca mc) (hv : ClX.CVal X.K Ca mc f (.int i) u) (hg : Gl X x := by rfl) (hd : (x == ("__debug__" : Str)) = false := by decide)
    (hb : attributeBase (.Name x p) f X.env (eval (.Name x p) X.env) = eval (.Name x p) X.env := by rfl) : JE X (.Attribute (.Name x p) f p2) (mC (.int i)) := fun W tk => by
  refine PE.weak (ClX.pe_cval (pe_glob (v := .ref Ca) hg hm rfl hd) hb) fun σ H Q ⟨ι, ρ, st, S, sl, q⟩ => ?_
  exact ⟨Ca, mc, .int i, u, rfl, r, hv, q.okSame S Rep.int⟩
end
end Ab

set_option Elab.async false
set_option linter.all false
set_option maxRecDepth 100000
set_option maxHeartbeats 1000000
/-! Ab: dicts with keys that are ints or texts. -/
namespace Ab
open PySem PySem.Spec PyProof.Rows L2
def keyW : Val → Option Key
  | .int i => some (.inl i)
  | .str s => some (.inr s)
  | _ => none
def valW : List (Key × Val) → Key → Option Val
  | [], _ => none
  | (q, w) :: r, k => if q = k then some w else valW r k
def repW (k : Key) (w : Val) : List (Key × Val) → List (Key × Val)
  | [] => []
  | (q, u) :: r => (if q = k then (q, w) else (q, u)) :: repW k w r
def putW (kvs : List (Key × Val)) (k : Key) (w : Val) : List (Key × Val) := if (kvs.any fun kv => decide (kv.1 = k)) = true then repW k w kvs else kvs ++ [(k, w)]
def mergeW (kvs more : List (Key × Val)) : List (Key × Val) := more.foldl (fun acc kv => putW acc kv.1 kv.2) kvs
def unkey : Key → Val
  | .inl i => .int i
  | .inr s => .str s
section
variable {mg : Str → Option Value} {ι : List Addr} {H : Hp} {K : PySem.W.Frag}
theorem keyW_rep {w : Val} {k : Key} {v : V} (h : keyW w = some k) (r : Rep mg ι H w v) : v = kV k := by
  cases w with
  | int i => cases h; exact Rep.int_inv r
  | str s => cases h; exact Rep.str_inv r
  | _ => cases h
theorem unkey_rep {k : Key} : Rep mg ι H (unkey k) (kV k) := by
  cases k with
  | inl i => exact Rep.int
  | inr s => exact Rep.str
theorem RepK.val {k : Key} {w : Val} : ∀ {ws : List (Key × Val)} {vs : List (Key × V)}, RepK mg ι H ws vs → valW ws k = some w → ∃ v, valV vs k = some v ∧ Rep mg ι H w v
  | _, _, .nil, h => by cases h
  | (q, u) :: ws, (q', v) :: vs, .cons h t, e => by
    obtain ⟨h1, h2⟩ := h
    simp only at h1 h2
    subst h1
    unfold valW at e
    by_cases c : q = k
    · rw [if_pos c] at e
      cases e
      exact ⟨v, valV_pos c, h2⟩
    · rw [if_neg c] at e
      rw [valV_neg c]
      exact RepK.val t e
theorem RepK.any {k : Key} : ∀ {ws : List (Key × Val)} {vs : List (Key × V)}, RepK mg ι H ws vs → (ws.any fun kv => decide (kv.1 = k)) = (vs.any fun kv => decide (kv.1 = k))
  | _, _, .nil => rfl
  | (q, u) :: ws, (q', v) :: vs, .cons h t => by
    obtain ⟨h1, h2⟩ := h
    simp only at h1
    subst h1
    rw [List.any_cons, List.any_cons, RepK.any t]
theorem RepK.rep {k : Key} {w : Val} {v : V} (r : Rep mg ι H w v) : ∀ {ws : List (Key × Val)} {vs : List (Key × V)}, RepK mg ι H ws vs → RepK mg ι H (repW k w ws) (vs.map fun kv => if kv.1 = k then (kv.1, v) else kv)
  | _, _, .nil => .nil
  | (q, u) :: ws, (q', z) :: vs, .cons h t => by
    obtain ⟨h1, h2⟩ := h
    simp only at h1 h2
    subst h1
    unfold repW
    rw [List.map_cons]
    refine .cons ?_ (RepK.rep r t)
    by_cases c : q = k
    · rw [if_pos c, if_pos c]; exact ⟨rfl, r⟩
    · rw [if_neg c, if_neg c]; exact ⟨rfl, h2⟩
theorem RepK.append : ∀ {ws ws' : List (Key × Val)} {vs vs' : List (Key × V)}, RepK mg ι H ws vs → RepK mg ι H ws' vs' → RepK mg ι H (ws ++ ws') (vs ++ vs')
  | _, _, _, _, .nil, h => h
  | _, _, _, _, .cons a t, h => .cons a (RepK.append t h)
theorem RepK.put {k : Key} {w : Val} {v : V} {ws : List (Key × Val)} {vs : List (Key × V)} (h : RepK mg ι H ws vs) (r : Rep mg ι H w v) : RepK mg ι H (putW ws k w) (putK vs k v) := by
  unfold putW putK
  rw [h.any]
  split
  · exact h.rep r
  · exact h.append (.cons ⟨rfl, r⟩ .nil)
theorem RepK.merge : ∀ {ws' ws : List (Key × Val)} {vs' vs : List (Key × V)}, RepK mg ι H ws vs → RepK mg ι H ws' vs' → RepK mg ι H (mergeW ws ws') (mergeK vs vs')
  | _, _, _, _, h, .nil => h
  | (q, u) :: ws', _, (q', z) :: vs', _, h, .cons a t => by
    obtain ⟨h1, h2⟩ := a
    simp only at h1 h2
    subst h1
    exact RepK.merge (ws' := ws') (vs' := vs') (h.put h2) t
theorem RepK.length {ws : List (Key × Val)} {vs : List (Key × V)} (h : RepK mg ι H ws vs) : ws.length = vs.length := Paired.length h
theorem Sim.atD {st : Store} {n : Nat} {a : Addr} {kvs : List (Key × Val)} (S : Sim K mg ι st H) (h : st[n]? = some (.dct kvs)) (ha : ι[n]? = some a) : ∃ vs, H a = some (.dK vs) ∧ RepK mg ι H kvs vs := S.cell n _ a h ha
theorem Sim.putD {st : Store} {n : Nat} {a : Addr} {kvs : List (Key × Val)} {kvs' : List (Key × Val)} {vs vs' : List (Key × V)} (S : Sim K mg ι st H) (h : st[n]? = some (.dct kvs)) (ha : ι[n]? = some a) (hH : H a = some (.dK vs)) (r : RepK mg ι H kvs' vs') :
    Sim K mg ι (st.set n (.dct kvs')) (upd H a (.dK vs')) ∧ Later ι H ι (upd H a (.dK vs')) := by
  have l : Later ι H ι (upd H a (.dK vs')) := ⟨⟨[], by simp⟩, fun b xs e => by rw [upd_ne fun q => by subst q; rw [hH] at e; cases e]; exact e⟩
  exact S.write (c' := .dct kvs') (o' := .dK vs') h ha rfl rfl hH (fun _ e => by cases e) (fun _ _ e => by cases e) ⟨vs', upd_same, r.later l⟩
end
/-! ### d[k] -/
@[reducible] def vDget (x y : Val) (st : Store) : R Val := match x, keyW y with
  | .ref n, some k => match st[n]? with
    | some (.dct kvs) => match valW kvs k with
      | some w => .ok w st
      | none => .bad
    | _ => .bad
  | _, _ => .bad
@[reducible] def mDget (mo mi : ME) : ME := fun ρ st => (mo ρ st).bind fun x st1 => (mi ρ st1).bind fun y st2 => vDget x y st2
section
variable {X : Cx} {o i : Expr} {mo mi : ME} {pos : Pos}
theorem je_dget (hu : X.A.units + 1 < cLine) (ho : JE X o mo) (hi : JE X i mi) (hs : NoSl i := by intro _ _; rfl) : JE X (.Subscript o i pos) (mDget mo mi) := fun W tk => by
  refine PE.weak (pe_dget hu (ho W tk) (hi W tk) hs) fun σ H Q ⟨ι, ρ, st, S, sl, p⟩ => ?_
  refine ⟨ι, ρ, st, S, sl, Post.bind p fun x st1 ι1 H1 xv l1 S1 r1 p1 => ?_⟩
  refine ⟨ι1, ρ, st1, S1, sl.later l1, Post.bind p1 fun y st2 ι2 H2 yv l2 S2 r2 p2 => ?_⟩
  have r1' := Rep.later l2 r1
  unfold vDget at p2
  split at p2
  · rename_i n k hk
    obtain ⟨a, e1, ha⟩ := Rep.ref_inv r1'
    split at p2
    · rename_i kvs ec
      obtain ⟨vs, h1, h2⟩ := S2.atD ec ha
      split at p2
      · rename_i w hw
        obtain ⟨v, h3, h4⟩ := h2.val hw
        refine ⟨a, v, e1, ?_, p2.okSame S2 h4⟩
        rw [keyW_rep hk r2, ← h3]
        exact DGet.k h1
      · exact p2.elim
    · exact p2.elim
  · exact p2.elim
/-! ### d[k] = v, as a target -/
@[reducible] def gSubD (mo mi : ME) : MG := fun w ρ st => match mo ρ st with
  | .ok x st1 => match mi ρ st1 with
    | .ok y st2 => match x, keyW y with
      | .ref n, some k => match st2[n]? with
        | some (.dct kvs) => if kvs.length < 1000 then some (ρ, st2.set n (.dct (putW kvs k w))) else none
        | _ => none
      | _, _ => none
    | _ => none
  | _ => none
theorem set_dict (hu : X.A.units + 1 < cLine) : PSet X (fun o i v H Q => ∃ a H', o = .ref a ∧ DPut H a i v H' ∧ Q H') := by
  intro pins s σ H o i v ov iv u Q I ro ri rv h
  obtain ⟨a, H', rfl, g, q⟩ := h
  obtain rfl : ov = Value.ref a := ro
  exact d_setItem hu I g ri rv fun s' I' => ⟨H', I', q⟩
theorem jg_dsub (hu : X.A.units + 1 < cLine) (ho : JE X o mo) (hi : JE X i mi)
    (ha : ∀ v, assign (.Subscript o i pos) X.env v = (do
      let ov ← holding [v] (eval o X.env)
      let iv ← holding [v, ov] (eval i X.env)
      standAt pos
      holding [v, ov, iv] (setItem ov iv v)
      release [v, ov, iv] []) := by intro _; rfl) (tk : Takes X W0 := takes0) : JG X (.Subscript o i pos) [] (gSubD mo mi) :=
  PG.weak (pg_sub (ho W0 tk) (hi W0 tk) (set_dict hu) ha) fun v σ H Q ⟨ι, ρ, st, w, S, sl, r, p⟩ => by
    dsimp only [gSubD] at p
    refine ⟨ι, ρ, st, S, sl, ?_⟩
    cases q1 : mo ρ st with
    | bad => rw [q1] at p; exact p.elim
    | exc x s => rw [q1] at p; exact p.elim
    | ok x st1 =>
      rw [q1] at p
      intro ι1 H1 xv l1 S1 r1
      have sl1 := sl.later l1
      refine ⟨ι1, ρ, st1, S1, sl1, ?_⟩
      dsimp only at p
      cases q2 : mi ρ st1 with
      | bad => rw [q2] at p; exact p.elim
      | exc x s => rw [q2] at p; exact p.elim
      | ok i st2 =>
        rw [q2] at p
        intro ι2 H2 iv l2 S2 r2
        have sl2 := sl1.later l2
        dsimp only at p
        split at p
        · rename_i n k hk
          obtain ⟨a, e, hA⟩ := Rep.ref_inv r1
          have e2 := keyW_rep hk r2
          subst e e2
          have hA2 := l2.get hA
          split at p
          · rename_i kvs ec
            obtain ⟨vs, h1, rr⟩ := S2.atD ec hA2
            split at p
            · rename_i hl
              obtain ⟨S3, l3⟩ := S2.putD ec hA2 h1 (rr.put (k := k) (Rep.later (l1.trans l2) r))
              refine ⟨a, _, rfl, .inl ⟨vs, k, h1, rfl, by rw [← rr.length, sizeLine_eq]; omega, rfl⟩, ?_⟩
              exact p ι2 _ σ ((l1.trans l2).trans l3) S3 (sl2.later l3) (OutS.refl _ _)
            · exact p.elim
          · exact p.elim
        · exact p.elim
end
/-! ### {k: v, ..} -/
def pairsM : List (ME × ME) → Slots → Store → R (List (Key × Val))
  | [], _, st => .ok [] st
  | (mk, mv) :: r, ρ, st => (mk ρ st).bind fun x st1 => match keyW x with
    | some k => (mv ρ st1).bind fun y st2 => (pairsM r ρ st2).bind fun ps st3 => .ok ((k, y) :: ps) st3
    | none => .bad
@[reducible] def mDisp (prs : List (ME × ME)) : ME := fun ρ st => (pairsM prs ρ (st ++ [.dct []])).bind fun kvs st2 => match st2[st.length]? with
  | some (.dct []) => if kvs.length ≤ 15 then .ok (.ref st.length) (st2.set st.length (.dct (mergeW [] kvs))) else .bad
  | _ => .bad
def JP (X : Cx) (pos : Pos) (keys : List (Option Expr)) (values : List Expr) (prs : List (ME × ME)) : Prop := ∀ W, Takes X W → PPs X pos keys values (prs.map fun p => (rdG X.K X.mg (rel1 X.mg) W p.1, rdG X.K X.mg (rel1 X.mg) W p.2))
section
variable {X : Cx} {k v : Expr} {ks : List (Option Expr)} {vs : List Expr} {mk mv : ME} {prs : List (ME × ME)} {pos : Pos}
theorem jp_nil : JP X pos [] [] [] := fun W tk => pps_nil
theorem jp_cons (hk : JE X k mk) (hv : JE X v mv) (hr : JP X pos ks vs prs) : JP X pos (some k :: ks) (v :: vs) ((mk, mv) :: prs) := fun W tk => pps_cons (hk W tk) (hv W tk) (hr W tk)
theorem pairs_read {W : WX} {σ : L2.St} : ∀ {prs : List (ME × ME)} {ι : List Addr} {ρ : Slots} {st : Store} {H : Hp} {Q : List (V × V) → Hp → Prop} {Q' : List (Key × V) → Hp → Prop}, Sim X.K X.mg ι st H → SlotsOk X.mg ι H ρ σ →
    Post X.K X.mg (fun ι H => RepK X.mg ι H) ι H Q' (fun c d H' => W c d σ H') (pairsM prs ρ st) → (∀ kvs H', Q' kvs H' → Q (kvs.map fun kv => (kV kv.1, kv.2)) H') →
    tPairs (prs.map fun p => (rdG X.K X.mg (rel1 X.mg) W p.1, rdG X.K X.mg (rel1 X.mg) W p.2)) σ H Q
  | [], ι, ρ, st, H, Q, Q', S, sl, p, hq => hq [] H (p.okSame S .nil)
  | (mk, mv) :: r, ι, ρ, st, H, Q, Q', S, sl, p, hq => by
    refine ⟨ι, ρ, st, S, sl, Post.bind p fun x st1 ι1 H1 xv l1 S1 r1 p1 => ?_⟩
    split at p1
    · rename_i k hk
      refine ⟨ι1, ρ, st1, S1, sl.later l1, Post.bind p1 fun y st2 ι2 H2 yv l2 S2 r2 p2 => ?_⟩
      refine pairs_read (Q' := fun ps H3 => Q' ((k, yv) :: ps) H3) S2 ((sl.later l1).later l2) (Post.bind p2 fun ps st3 ι3 H3 us l3 S3 r3 p3 => ?_) fun kvs H' hh => ?_
      · exact p3.okSame S3 (.cons ⟨rfl, Rep.later l3 r2⟩ r3)
      · rw [keyW_rep hk r1]
        exact hq _ _ hh
    · exact p1.elim
theorem je_disp (h : JP X pos ks vs prs) (hall : ks.all (·.isSome) = true := by rfl) (hl : ks.length = vs.length := by rfl) (h0 : ks ≠ [] := by simp) (h15 : ks.length ≤ 15 := by decide) : JE X (.Dict ks vs pos) (mDisp prs) := fun W tk => by
  refine PE.weak (pe_disp (h W tk) hall hl h0 h15) fun σ H Q ⟨ι, ρ, st, S, sl, p⟩ q hq => ?_
  have hs := same_new (o := .dK []) hq
  obtain ⟨S1, l1⟩ := S.push (c := .dct []) hq hs ⟨[], upd_same, .nil⟩
  have hn : (ι ++ [q])[st.length]? = some q := by rw [← S.len, List.getElem?_append_right (Nat.le_refl _)]; simp
  refine pairs_read (Q' := fun kvs H2 => H2 q = some (.dK []) ∧ kvs.length ≤ 15 ∧ Q (.ref q) (upd H2 q (.dK (mergeK [] kvs)))) S1 (sl.later l1) (Post.bind (Post.later p l1) fun kvs st2 ι2 H2 us l2 S2 r2 p2 => ?_) fun kvs H' hh => ⟨hh.1, kvs, rfl, hh.2.1, hh.2.2⟩
  split at p2
  · rename_i ec
    split at p2
    · rename_i hl15
      have hA := l2.get hn
      obtain ⟨vs0, h1, h2⟩ := S2.atD ec hA
      cases h2
      obtain ⟨S3, l3⟩ := S2.putD ec hA h1 (RepK.merge .nil r2)
      exact ⟨h1, by rw [← r2.length]; exact hl15, p2 ι2 _ _ l3 S3 (Rep.ref hA)⟩
    · exact p2.elim
  · exact p2.elim
end
/-! ### list(d.items()) -/
@[reducible] def mItems (m : ME) : ME := fun ρ st => (m ρ st).bind fun x st1 => match x with
  | .ref n => match st1[n]? with
    | some (.dct kvs) => .ok (.ref st1.length) (st1 ++ [.lst (kvs.map fun kv => .tup [unkey kv.1, kv.2])])
    | _ => .bad
  | _ => .bad

theorem items_rep {mg : Str → Option Value} {ι : List Addr} {H : Hp} : ∀ {kvs : List (Key × Val)} {vs : List (Key × V)} {ts : List Addr}, RepK mg ι H kvs vs → Paired (fun (t : Addr) (q : Key × V) => H t = some (.tup [kV q.1, q.2])) ts vs → Reps mg ι H (kvs.map fun kv => .tup [unkey kv.1, kv.2]) (ts.map V.ref)
  | _, _, _, .nil, .nil => .nil
  | (kk, ww) :: _, _, _, .cons a b, .cons h tl => by
    obtain ⟨a1, a2⟩ := a
    simp only at a1 a2
    refine .cons ?_ (items_rep b tl)
    rw [Rep]
    refine ⟨_, _, rfl, h, .cons ?_ (.cons a2 .nil)⟩
    rw [← a1]
    exact unkey_rep
section
variable {X : Cx} {e : Expr} {m : ME} {p apos cpos pos : Pos}
theorem je_listItems (hc : X.calm = true) (hm : X.mg "list" = none) (he : JE X e m) (hg : Gl X "list" := by rfl) (hbase : attributeBase e "items" X.env (eval e X.env) = eval e X.env := by rfl) (hline : (apos.endLine == cpos.line) = true := by rfl)
    (hs : starEach [.Call (.Attribute e "items" apos) [] [] cpos] X.env = (false, eval (.Call (.Attribute e "items" apos) [] [] cpos) X.env) :: starEach [] X.env := by rfl) :
    JE X (.Call (.Name "list" p) [.Call (.Attribute e "items" apos) [] [] cpos] [] pos) (mItems m) := fun W tk => by
  refine PE.weak (LiI.pe_listItems hc (he W tk) hg hm Boot.list hbase hline hs) fun σ H Q ⟨ι, ρ, st, S, sl, q⟩ => ?_
  refine ⟨ι, ρ, st, S, sl, Post.bind q fun x st1 ι1 H1 xv l1 S1 r1 p1 => ?_⟩
  split at p1
  · rename_i n
    obtain ⟨a, e1, ha⟩ := Rep.ref_inv r1
    split at p1
    · rename_i kvs ec
      obtain ⟨vs, h1, h2⟩ := S1.atD ec ha
      refine ⟨a, vs, e1, h1, fun H' q ts hsm hq hts hqt hl hp => ?_⟩
      have r := items_rep (h2.later (Same.laterH (ι := ι1) hsm)) hp
      obtain ⟨S2, l2⟩ := S1.push (c := .lst (kvs.map fun kv => .tup [unkey kv.1, kv.2])) hq hsm ⟨ts.map V.ref, hl, r.later ⟨⟨[q], rfl⟩, fun b xs e => e⟩⟩
      exact p1 _ H' _ l2 S2 (Rep.ref (by rw [← S1.len, List.getElem?_append_right (Nat.le_refl _)]; simp))
    · exact p1.elim
  · exact p1.elim
end
/-! ### {k: v for ..} -/
open Classical in
noncomputable def dcM (g : MG) (t : MT) (mk mv : ME) (okp : Store → Prop) (D : Nat) (ρ : Slots) : List Val → Store → R Val
  | [], st => if okp st then .ok (.ref D) st else .bad
  | w :: ws, st => if okp st then match g w ρ st with
      | none => .bad
      | some (ρ1, st1) => ((t ρ1 st1).noX).bind fun k st2 =>
        if k = true then ((mk ρ1 st2).noX).bind fun x st3 => ((mv ρ1 st3).noX).bind fun y st4 => match st4[D]?, keyW x with
          | some (.dct acc), some kk => if acc.length < 1000 then dcM g t mk mv okp D ρ ws (st4.set D (.dct (putW acc kk y))) else .bad
          | _, _ => .bad
        else dcM g t mk mv okp D ρ ws st2
    else .bad
@[reducible] noncomputable def mDc (mi : MI) (g : MG) (t : MT) (mk mv : ME) (vs : List Nat) : ME := fun ρ st => (mi ρ st).bind fun it st1 => dcM g t mk mv it.2 st1.length (wipeM ρ vs) it.1 (st1 ++ [.dct []])
section
variable {X : Cx} {kx vx tg iter : Expr} {ifs : List Expr} {scope : Scope} {own : List (Str × Nat)} {pos : Pos} {mi : MI} {g : MG} {t : MT} {mk mv : ME}
theorem dc_read {W : WX} {σ : L2.St} {H : Hp} {Q : VK} (h : rdG X.K X.mg (rel1 X.mg) W (mDc mi g t mk mv (ixs own)) σ H Q) :
    tDc (rdG X.K X.mg (relI X.K X.mg) W mi) (rdT X.K X.mg (ixs own) g) (rdG X.K X.mg relB W0 t) (rdG X.K X.mg (rel1 X.mg) W0 mk) (rdG X.K X.mg (rel1 X.mg) W0 mv) (ixs own) σ H Q := by
  obtain ⟨ι, ρ, st, S, sl, p⟩ := h
  refine ⟨ι, ρ, st, S, sl, Post.bind p fun it st1 ι1 H1 J l1 S1 r1 p1 => fun D hD => ?_⟩
  obtain ⟨items, okp⟩ := it
  have r1 : IsIt X.K X.mg items okp ι1 H1 J := r1
  have sl1 := wipeM_ok (sl.later l1) (ixs own)
  have hs := same_new (o := .dK []) hD
  obtain ⟨S2, l2⟩ := S1.push (c := .dct []) hD hs ⟨[], upd_same, .nil⟩
  have hDi : (ι1 ++ [D])[st1.length]? = some D := by rw [← S1.len, List.getElem?_append_right (Nat.le_refl _)]; simp
  refine ⟨fun i m H' => ∃ ι' st', Later (ι1 ++ [D]) (upd H1 D (.dK [])) ι' H' ∧ Sim X.K X.mg ι' st' H' ∧ m = items.length - i ∧ i ≤ items.length ∧ Post X.K X.mg (rel1 X.mg) ι' H' Q (fun c d H' => W c d σ H') (dcM g t mk mv okp st1.length (wipeM ρ (ixs own)) (items.drop i) st'),
    ⟨items.length, ι1 ++ [D], st1 ++ [.dct []], Later.refl _ _, S2, by simp, Nat.zero_le _, by simpa using Post.later p1 l2⟩, ?_⟩
  rintro i m H3 ⟨ι3, st3, l3, S3, rfl, hi, p3⟩
  have l13 := l2.trans l3
  by_cases hlt : i < items.length
  · rw [List.drop_eq_getElem_cons hlt] at p3
    unfold dcM at p3
    split at p3
    · rename_i hok
      refine .inr ⟨r1.go i ι3 H3 st3 l13 S3 hok hlt, fun H4 => ∃ ι4 st4, Later (ι1 ++ [D]) (upd H1 D (.dK [])) ι4 H4 ∧ Sim X.K X.mg ι4 st4 H4 ∧ Post X.K X.mg (rel1 X.mg) ι4 H4 Q (fun c d H' => W c d σ H') (dcM g t mk mv okp st1.length (wipeM ρ (ixs own)) (items.drop (i + 1)) st4), ?_, ?_⟩
      · rintro H4 ⟨ι4, st4, l4, S4, p4⟩
        exact ⟨items.length - (i + 1), by omega, ι4, st4, l4, S4, rfl, hlt, p4⟩
      · intro x H4 hy
        obtain ⟨l4, S4, w, hw, rw_⟩ := r1.yld i ι3 H3 st3 x H4 l13 S3 hok hlt hy
        have hw' : items[i] = w := by rw [List.getElem?_eq_getElem hlt] at hw; exact Option.some.inj hw
        rw [hw'] at p3
        refine ⟨ι3, wipeM ρ (ixs own), st3, w, S4, sl1.later (l13.trans l4), rw_, ?_⟩
        cases q : g w (wipeM ρ (ixs own)) st3 with
        | none => rw [q] at p3; exact p3.elim
        | some z =>
          obtain ⟨ρ5, st5⟩ := z
          rw [q] at p3
          dsimp only at p3
          intro ι5 H5 σ5 l5 S5 sl5 o5
          have l15 := (l3.trans l4).trans l5
          have p5 := Post.later (Post.later p3 l4) l5
          refine ⟨wipe_same o5, ι5, ρ5, st5, S5, sl5, ?_⟩
          refine Post.noX (E := fun c d H' => W c d σ H') (Post.bind p5 fun k st6 ι6 H6 k' l6 S6 r6 p6 => ?_)
          have r6 : k = k' := r6
          subst r6
          have sl6 := sl5.later l6
          have l16 := l15.trans l6
          cases k with
          | false =>
            rw [if_neg Bool.false_ne_true] at p6
            exact iteF ⟨ι6, st6, l16, S6, p6⟩
          | true =>
            rw [if_pos rfl] at p6
            refine iteT ⟨ι6, ρ5, st6, S6, sl6, ?_⟩
            refine Post.noX (E := fun c d H' => W c d σ H') (Post.bind p6 fun x7 st7 ι7 H7 xv l7 S7 r7 p7 => ?_)
            refine ⟨ι7, ρ5, st7, S7, sl6.later l7, ?_⟩
            refine Post.noX (E := fun c d H' => W c d σ H') (Post.bind p7 fun y st8 ι8 H8 yv l8 S8 r8 p8 => ?_)
            have l18 := (l16.trans l7).trans l8
            have hD8 := l18.get hDi
            split at p8
            · rename_i acc kk eacc ekk
              obtain ⟨vs, hvs, rvs⟩ := S8.atD eacc hD8
              split at p8
              · rename_i hz
                obtain ⟨S9, l9⟩ := S8.putD eacc hD8 hvs (rvs.put (k := kk) r8)
                exact ⟨vs, kk, keyW_rep ekk r7, hvs, by rw [← rvs.length, sizeLine_eq]; omega, ι8, _, l18.trans l9, S9, Post.later p8 l9⟩
              · exact p8.elim
            · exact p8.elim
    · exact p3.elim
  · have hle : items.length ≤ i := by omega
    rw [List.drop_eq_nil_of_le hle] at p3
    unfold dcM at p3
    split at p3
    · rename_i hok
      exact .inl ⟨r1.stop i ι3 H3 st3 l13 S3 hok (by omega), p3.okSame S3 (Rep.ref (l3.get hDi))⟩
    · exact p3.elim
theorem je_dc (hc : X.calm = true) (hN : X.N.Nodup) (own : List (Str × Nat)) (hi : JI X tg iter mi) (ok : blkC X.N X.env.scope scope own = true)
    (hg : ∀ (s : Shared) (H : Hp) (C : Addr) (cl : List (Str × Addr)) (fp : List Addr), JG (X.blk s H scope (compEnvC scope cl C X.env) fp) tg (ixs own) g) (ht : ∀ (s : Shared) (H : Hp) (C : Addr) (cl : List (Str × Addr)) (fp : List Addr), JTs (X.blk s H scope (compEnvC scope cl C X.env) fp) ifs t)
    (hk : ∀ (s : Shared) (H : Hp) (C : Addr) (cl : List (Str × Addr)) (fp : List Addr), JE (X.blk s H scope (compEnvC scope cl C X.env) fp) kx mk)
    (he : ∀ (s : Shared) (H : Hp) (C : Addr) (cl : List (Str × Addr)) (fp : List Addr), JE (X.blk s H scope (compEnvC scope cl C X.env) fp) vx mv) (hs : ∀ x, foldedSetIterable iter X.env x = pure x := by intro _; rfl) :
    JE X (.DictComp kx vx [⟨tg, iter, ifs, 0⟩] scope pos) (mDc mi g t mk mv (ixs own)) := fun W tk =>
  PE.weak (pe_dc (wi := rdG X.K X.mg (relI X.K X.mg) W mi) (g := rdT X.K X.mg (ixs own) g) (tt := rdG X.K X.mg relB W0 t) (tk := rdG X.K X.mg (rel1 X.mg) W0 mk) (tv := rdG X.K X.mg (rel1 X.mg) W0 mv) hc hN (hi W tk) (blkOk_by ok) (fun s H C cl fp => hg s H C cl fp) (fun s H C cl fp => ht s H C cl fp W0 takes0) (fun s H C cl fp => hk s H C cl fp W0 takes0)
    (fun s H C cl fp => he s H C cl fp W0 takes0) hs) fun σ H Q h => dc_read h
end
end Ab

set_option Elab.async false
set_option linter.all false
set_option maxRecDepth 100000
set_option maxHeartbeats 1000000
/-! Ab: a tuple or a list times an int. -/
namespace L2
open PySem PySem.Spec PyProof.Rows
theorem tuple_mul1 (l : Addr) (items : Array Value) (n : Nat) (dd : Option Addr) (sl : Array (Option Value)) (u : Tok) :
    Meets (Builtin.«tuple.__mul__» ⟨[.ref l, .int 1 u], []⟩) (fun _ R s => s.heap.get? l = some { cls := .type "tuple", dict := dd, data := .seq items n, slots := sl } ∧ R (.ok (.ret (Value.ref l))) s) :=
  .of_wp fun prog w A R s h => by
    obtain ⟨hp, g, d, tk, os⟩ := s
    obtain ⟨hl, h⟩ := h
    have f1 := AutoSeq1.idx_int
    have c0 : (decide ((1 : Int) < -(2 ^ 63)) || decide ((1 : Int) ≥ 2 ^ 63)) = false := by decide
    have c1 : (items.isEmpty || (1 : Int) == 1) = true := by simp
    wp_walk using wpAny_loadPart' hl
    repeat (first
      | (refine wpAny_ite_false (decide_eq_false (by rw [c0]; exact Bool.false_ne_true)) ?_; wp_walk using wpAny_loadPart' hl)
      | (refine wpAny_ite_true (decide_eq_true (by rw [c1])) ?_; wp_walk using wpAny_loadPart' hl))
    exact ⟨_, rfl, h⟩

theorem op_repT1 {X : Cx} : OpR X (binaryOp .Mult) (fun x y H Q => ∃ l xs, x = .ref l ∧ y = .int 1 ∧ SqT X.K H l xs ∧ Q (.ref l) H) := by
  intro pins s σ H x y v u Q I rx ry h
  obtain ⟨l, xs, rfl, rfl, hT, q⟩ := h
  cases rx
  obtain ⟨t, rfl⟩ := ry
  obtain ⟨its, r, ⟨⟨cls, dd, data, sl⟩, ho, hc, n, hd⟩, hs⟩ := I.tuple hT
  simp only at hc hd
  subst hc hd
  refine wpAny_binaryOp_repeat_ref (T := "tuple") (U := "int") (by decide) ⟨_, ho, rfl⟩ (fun s' => typeIs_int s' 1 t) noFill_tuple_mul F.fills_int_mul F.slot_int_rmul repeat_tuple F.slot_int_index.lookup
    (call_meets F.slot_int_rmul (typeIs_int s 1 t) F.entry_int_rmul (F.args_int_rmul_2 _ _) (int_rmul_tuple 1 t l its.toArray n dd sl)
      ⟨ho, rfl, ⟨_, ho, rfl⟩, call_meets F.slot_tuple_mul ⟨_, ho, rfl⟩ F.entry_tuple_mul (F.args_tuple_mul_2 _ _) (tuple_mul1 l its.toArray n dd sl t) ⟨ho, ?_⟩⟩)
  exact ⟨.ref l, H, I, rfl, q⟩
end L2
namespace Ab
open PySem PySem.Spec PyProof.Rows L2
def repW' (k : Nat) (xs : List Val) : List Val := (List.replicate k xs).flatten
theorem Reps.rep {mg : Str → Option Value} {ι : List Addr} {H : Hp} {xs : List Val} {vs : List V} (r : Reps mg ι H xs vs) : ∀ k : Nat, Reps mg ι H (repW' k xs) (List.replicate k vs).flatten
  | 0 => .nil
  | k + 1 => by
    unfold repW'
    rw [List.replicate_succ, List.replicate_succ, List.flatten_cons, List.flatten_cons]
    exact r.append (Reps.rep r k)
/-- t * k, t a tuple that is not empty -/
@[reducible] def vRepT : Val → Val → Store → R Val
  | .tup xs, .int k, st => if xs ≠ [] ∧ 1 ≤ k ∧ k ≤ 1000 ∧ xs.length ≤ 1000 then .ok (.tup (repW' k.toNat xs)) st else .bad
  | _, _, _ => .bad
/-- xs * k, xs a list of our own -/
@[reducible] def vRepL : Val → Val → Store → R Val
  | .ref n, .int k, st => match st[n]? with
    | some (.lst xs) => if -1000 ≤ k ∧ k ≤ 1000 ∧ xs.length ≤ 1000 then .ok (.ref st.length) (st ++ [.lst (repW' k.toNat xs)]) else .bad
    | _ => .bad
  | _, _, _ => .bad
theorem quiet_repT (x y : Val) (st : Store) : Quiet (vRepT x y st) := by
  intro e s h
  unfold vRepT at h
  split at h
  · split at h <;> cases h
  · cases h
theorem quiet_repL (x y : Val) (st : Store) : Quiet (vRepL x y st) := by
  intro e s h
  unfold vRepL at h
  split at h
  · split at h
    · split at h <;> cases h
    · cases h
  · cases h
section
variable {X : Cx}
theorem m2_repT : M2 X (binaryOp .Mult) vRepT := by
  rintro pins s σ H x y u1 u2 Q I rx ry ⟨ι, st, w1, w2, S, r1, r2, p⟩
  unfold vRepT at p
  split at p
  · rename_i xs k
    obtain ⟨a, vs, e1, ha, r⟩ := Rep.tup_inv r1
    have e2 := Rep.int_inv r2
    subst e1 e2
    split at p
    · rename_i hh
      obtain ⟨h0, h1, h2, h3⟩ := hh
      by_cases hk : k = 1
      · subst hk
        refine op_repT1 pins s σ H _ _ u1 u2 Q I rx ry ⟨a, vs, rfl, rfl, SqT.of ha, ?_⟩
        have e : repW' (1 : Int).toNat xs = xs := by simp [repW']
        rw [e] at p
        exact p.okSame S r1
      · refine op_repT pins s σ H _ _ u1 u2 Q I rx ry ⟨a, k, vs, rfl, rfl, SqT.of ha, ?_, by omega, h2, by rw [← r.length]; exact h3, fun q hq => ?_⟩
        · intro e
          have := r.length
          rw [e] at this
          exact h0 (List.eq_nil_of_length_eq_zero this)
        · exact p.newTup S (r.rep _) hq
    · exact p.elim
  · exact p.elim
theorem m2_repL : M2 X (binaryOp .Mult) vRepL := by
  rintro pins s σ H x y u1 u2 Q I rx ry ⟨ι, st, w1, w2, S, r1, r2, p⟩
  unfold vRepL at p
  split at p
  · rename_i n k
    obtain ⟨a, e1, ha⟩ := Rep.ref_inv r1
    have e2 := Rep.int_inv r2
    subst e1 e2
    split at p
    · rename_i xs ec
      obtain ⟨vs, h1, rr⟩ := S.at ec ha
      split at p
      · rename_i hh
        obtain ⟨h2, h3, h4⟩ := hh
        refine op_rep pins s σ H _ _ u1 u2 Q I rx ry ⟨a, k, vs, rfl, rfl, h1, by omega, by omega, ?_, fun q hq => ?_⟩
        · rw [← rr.length, sizeLine_eq]
          have a1 : xs.length * k.toNat ≤ 1000 * 1000 := Nat.mul_le_mul h4 (by omega)
          omega
        · exact p.newLst S (rr.rep _) hq
      · exact p.elim
    · exact p.elim
  · exact p.elim
end
end Ab

set_option Elab.async false
set_option linter.all false
set_option maxRecDepth 100000
set_option maxHeartbeats 1000000
/-! Ab: += and -= of ints; an attribute as a target. -/
namespace Ab
open PySem PySem.Spec PyProof.Rows L2
@[reducible] def vIAdd : Val → Val → Store → R Val
  | .int i, .int j, st => .ok (.int (i + j)) st
  | _, _, _ => .bad
theorem quiet_iadd (x y : Val) (st : Store) : Quiet (vIAdd x y st) := by
  intro e s h; unfold vIAdd at h; split at h <;> cases h
section
variable {X : Cx}
theorem m2_iadd : M2 X (inplaceOp .Add) vIAdd := by
  rintro pins s σ H x y u1 u2 Q I rx ry ⟨ι, st, w1, w2, S, r1, r2, p⟩
  unfold vIAdd at p
  split at p
  · have e1 := Rep.int_inv r1; have e2 := Rep.int_inv r2
    subst e1 e2
    exact iop_add pins s σ H _ _ u1 u2 Q I rx ry ⟨_, _, rfl, rfl, p.okSame S Rep.int⟩
  · exact p.elim
end
/-- o.f as a target -/
@[reducible] def gFld (cs : List Nat) (f : Nat) (mo : ME) : MG := fun w ρ st => match mo ρ st with
  | .ok x st1 => match x with
    | .ref n => match st1[n]? with
      | some (.ins C fs) => if C ∈ cs ∧ fs.length < 1000 then some (ρ, st1.set n (.ins C (putM f w fs))) else none
      | _ => none
    | _ => none
  | _ => none
theorem jg_fld {X : Cx} {o : Expr} {mo : ME} {cs : List Nat} {f : Nat} {fN : Str} {pos : Pos} (hc : ∀ C ∈ cs, FldOk X.K X.mg C f) (ho : JE X o mo) (hn : fN = nm f := by decide +kernel) (tk : Takes X W0 := takes0) : JG X (.Attribute o fN pos) [] (gFld cs f mo) := by
  subst hn
  refine ⟨fun pins s σ H v u Q I r h => ?_⟩
  obtain ⟨ι, ρ, st, w, S, sl, rw_, p⟩ := h
  rw [assign_Attribute]
  dsimp only [gFld] at p
  refine wpAny_bind (wpAny_holding (thn ((ho W0 tk).run pins s σ H (fun x H1 => ∃ a Ca dx fs, x = .ref a ∧ H1 a = some (.ins Ca dx fs) ∧ Cls X.K Ca ∧ NoAttr X.K Ca (nm f) ∧ fs.length < 1000 ∧ Q σ (upd H1 a (.ins Ca dx (putF (nm f) v fs)))) I ?_) fun ov s1 ⟨x, H1, I1, r1, a, Ca, dx, fs, ex, ea, c, n, hl, q1⟩ => ?_))
  · refine ⟨ι, ρ, st, S, sl, ?_⟩
    cases q1 : mo ρ st with
    | bad => rw [q1] at p; exact p.elim
    | exc x s => rw [q1] at p; exact p.elim
    | ok x st1 =>
      rw [q1] at p
      intro ι1 H1 xv l1 S1 r1
      dsimp only at p
      split at p
      · rename_i n
        obtain ⟨a, e, hA⟩ := Rep.ref_inv r1
        subst e
        split at p
        · rename_i C fs ec
          split at p
          · rename_i hC
            obtain ⟨Ca, dx, vs, e2, e3, rf⟩ := S1.at ec hA
            obtain ⟨hf, hk⟩ := hc C hC.1
            obtain ⟨c1, c2⟩ := hk Ca e2
            obtain ⟨S3, l3⟩ := S1.putIns ec hA e3 e2 rf hf (Rep.later l1 rw_)
            refine ⟨a, Ca, dx, vs, rfl, e3, c1, c2, by rw [← rf.length]; exact hC.2, ?_⟩
            exact p ι1 _ σ (l1.trans l3) S3 ((sl.later l1).later l3) (OutS.refl _ _)
          · exact p.elim
        · exact p.elim
      · exact p.elim
  · subst ex
    obtain rfl : ov = Value.ref a := r1
    refine wpAny_bind (wpAny_standAt (wpAny_bind (wpAny_holding (setattr_ok I1 ea c n hl r fun s2 I2 => ?_))))
    exact wpAny_release ⟨σ, _, I2, q1⟩
end Ab
namespace Ab
open PySem PySem.Spec L2
/-- the context of a def's body at its entry -/
abbrev cx1 (T : Wh) (N : List Str) (qual : Str) (st : Stmt) (f : Addr) (cdv : Value) (A : Around) (outer : List Env) (s : Shared) (H : Hp) (E : XK) : Cx := cxOf (L2.CX T.P T.w) T.P T.w T.K T.mg T.base N qual (defScope st) f cdv A outer s H E
theorem cx1_pass {T : Wh} {N : List Str} {qual : Str} {st : Stmt} {f : Addr} {cdv : Value} {A : Around} {outer : List Env} {s : Shared} {H : Hp} {E : XK} : PassesOwn (model (cx1 T N qual st f cdv A outer s H E).prog (cx1 T N qual st f cdv A outer s H E).w) (cx1 T N qual st f cdv A outer s H E).A (cx1 T N qual st f cdv A outer s H E).env (cx1 T N qual st f cdv A outer s H E).xe := passes_of rfl
/-- THE RULE for a def, the context told -/
theorem fnM_of1 {T : Wh} {x qual : Str} {st : Stmt} {f : Addr} {fd : FuncData} {N ps : List Str} {k n m : Nat} {body : MS} (F : Fun T.K x qual st f fd) (hb : Binds T.K fd ps []) (S : FnScope N ps (defScope st)) (hn : ps.length = n) (hm : N.length = n + m)
    (h : ∀ (cdv : Value) (A : Around) (outer : List Env) (s : Shared) (H : Hp) (E : XK), Room k (cx1 T N qual st f cdv A outer s H E).A → JSs (cx1 T N qual st f cdv A outer s H E) (defBody st) body) :
    FnM T (k + 1) n f (defM n m body) := by
  refine ⟨fd, ps, hn, F.kp, hb, F.okX S (fun vs H Q E hsp => ?_) (fun cdv A outer s H vs Q E hr hsp => ?_)⟩
  · obtain ⟨ι, ws, st', S', r, p⟩ := hsp
    unfold defM at p
    split at p
    · rename_i hl
      rw [← r.length, hl, hn]
    · exact p.elim
  · obtain ⟨ι, ws, st', S', r, p⟩ := hsp
    unfold defM at p
    split at p
    · rename_i hl
      have j := h cdv A outer s H E hr
      refine ⟨_, j (fun cls d _ H => E cls d H) (takes_of rfl rfl rfl rfl), ι, _, st', S', slots_start r (by rw [hl]; exact hm), ?_⟩
      show PostO T.K T.mg _ ι H _ (body (ws.map some ++ List.replicate m none) st')
      cases q : body (ws.map some ++ List.replicate m none) st' with
      | nx ρ s1 => rw [q] at p; exact fun ι1 H1 σ1 l S1 sl => p ι1 H1 _ l S1 Rep.non
      | ret w s1 => rw [q] at p; exact p
      | exc x ρ s1 => rw [q] at p; exact fun ι1 H1 σ1 c d l S1 sl r => p ι1 H1 c d l S1 r
      | brk ρ s1 => rw [q] at p; exact p.elim
      | ct ρ s1 => rw [q] at p; exact p.elim
      | bad => rw [q] at p; exact p.elim
    · exact p.elim
theorem tbl1 {P : Nat → MF → Prop} {C : Nat} {mf : MF} (h : P C mf) : ∀ C' mf', (C', mf') ∈ [(C, mf)] → P C' mf' := fun C' mf' hm => by
  cases List.mem_singleton.mp hm
  exact h
theorem fld1 {P : Nat → Prop} {C : Nat} (h : P C) : ∀ D ∈ [C], P D := fun D hm => by
  cases List.mem_singleton.mp hm
  exact h
theorem fnMR_of1 {T : Wh} {x qual : Str} {st : Stmt} {f : Addr} {fd : FuncData} {N ps : List Str} {pv : Str} {k n m : Nat} {body : MS} (F : Fun T.K x qual st f fd) (S : FnScope N (ps ++ [pv]) (defScope st)) (hn : ps.length = n) (hm : N.length = n + 1 + m)
    (hb : ∀ (kV doc pm : Value) (an : Option Addr) (cdv ct : Value) (us rest : List Value), us.length = ps.length → bindArgs (PySem.W.fnOf x qual (defArgs st) (defBody st) (defScope st) .none kV doc pm an cdv ct) ⟨us ++ rest, []⟩ = (newTuple rest >>= fun t => pure (ps.zip us ++ [(pv, t)])))
    (h : ∀ (cdv : Value) (A : Around) (outer : List Env) (s : Shared) (H : Hp) (E : XK), Room k (cx1 T N qual st f cdv A outer s H E).A → JSs (cx1 T N qual st f cdv A outer s H E) (defBody st) body) :
    FnMR T (k + 1) f (defStarM n m body) := by
  obtain ⟨oc, od, kV, doc, pm, an, cdv, ct, osl, rfl, lk, hcd⟩ := F.ex
  refine ⟨F.kp, FnR.imp (StX.fn_star (ps := ps) (pv := pv) (sp := fun vs H Q E => ∃ ι ws st', Sim T.K T.mg ι st' H ∧ Reps T.mg ι H ws vs ∧ ws.length = n + 1 ∧ Post T.K T.mg (rel1 T.mg) ι H Q E (body (ws.map some ++ List.replicate m none) st').fin) lk hcd S StX.cxUp (hb kV doc pm an cdv ct) fun A outer s H vs Q E hr hsp => ?_) fun vs H Q E hsp => ?_⟩
  · obtain ⟨ι, ws, st', S', r, hl, p⟩ := hsp
    have j := h cdv A outer s H E hr
    refine ⟨_, j (fun cls d _ H => E cls d H) (takes_of rfl rfl rfl rfl), ι, _, st', S', slots_start r (by rw [hl]; exact hm), ?_⟩
    show PostO T.K T.mg _ ι H _ (body (ws.map some ++ List.replicate m none) st')
    cases q : body (ws.map some ++ List.replicate m none) st' with
    | nx ρ s1 => rw [q] at p; exact fun ι1 H1 σ1 l S1 sl => p ι1 H1 _ l S1 Rep.non
    | ret w s1 => rw [q] at p; exact p
    | exc x ρ s1 => rw [q] at p; exact fun ι1 H1 σ1 c d l S1 sl r => p ι1 H1 c d l S1 r
    | brk ρ s1 => rw [q] at p; exact p.elim
    | ct ρ s1 => rw [q] at p; exact p.elim
    | bad => rw [q] at p; exact p.elim
  · obtain ⟨ι, ws, st', S', r, p⟩ := hsp
    unfold defStarM at p
    split at p
    · rename_i hl
      have lv := r.length
      have r1 : Reps T.mg ι H (ws.take n) (vs.take n) := r.take n
      have r2 : Reps T.mg ι H (ws.drop n) (vs.drop n) := r.drop n
      refine ⟨vs.take n, vs.drop n, (List.take_append_drop n vs).symm, by rw [List.length_take, hn]; omega, by rw [List.length_drop, sizeLine_eq]; omega, fun q hq => ?_⟩
      have hs := same_new (o := .tup (vs.drop n)) hq
      refine ⟨ι, _, st', S'.same hs, (r1.later (Same.laterH hs)).append (.cons (Rep.newTup hq r2) .nil), by rw [List.length_append, List.length_take]; simp; omega, Post.later p (Same.laterH hs)⟩
    · exact p.elim
end Ab

set_option Elab.async false
set_option linter.all false
set_option maxRecDepth 100000
set_option maxHeartbeats 4000000
/-! Ab: the except suite of _law_outcome, as a mirror, and what it tells. -/
namespace Ab
open PySem PySem.Spec PyProof.Rows L2
/-- what of the text a class of exceptions must have -/
structure ExAll (T : Wh) (D : Nat) (Da : Addr) : Prop where
  ec : ExcC T.K Da
  xf : XfC T.K Da
  nof : ∀ f ∈ [24, 25, 26, 27, 28], PySem.W.findIn T.K (.ref Da) (nm f) = some none
  isC : ∀ C ∈ [1, 2, 4, 6, 7, 8, 9, 10], ∀ Ca, T.mg (nm C) = some (.ref Ca) → PySem.W.kitOne T.K (.ref Da) (.ref Ca) = some (decide (D = C))
  isV : PySem.W.kitOne T.K (.ref Da) (.type "ValueError") = some true
  row : ∀ RA, T.mg "RowError" = some (.ref RA) → PySem.W.exmOne T.K (.ref Da) (.ref RA) = some true
theorem cls_own {X : Cx} {a : Addr} {pn : List (Addr × Obj)} {cn : Str} {Ca : Addr} {p : Pos} (hm : X.mg cn = some (.ref Ca)) (hg : Gl X cn := by rfl) (hd : (cn == ("__debug__" : Str)) = false := by decide) :
    ∃ v, RelV v (.ref Ca) ∧ (∀ u, RelV v u → u = .ref Ca) ∧ PE (X.suite a pn) (.Name cn p) (tC v) := ⟨.ref Ca, rfl, fun u h => h, pe_glob (X := X.suite a pn) hg hm rfl hd⟩
theorem cls_blt {X : Cx} {a : Addr} {pn : List (Addr × Obj)} {cn : Str} {t : String} {p : Pos} (hm : X.mg cn = none) (hv : bootBuiltins cn = some (.type t)) (hg : Gl X cn := by rfl) (hn : cn ≠ "__name__" := by decide) (hd : (cn == ("__debug__" : Str)) = false := by decide) :
    ∃ v, RelV v (.type t) ∧ (∀ u, RelV v u → u = .type t) ∧ PE (X.suite a pn) (.Name cn p) (tC v) := ⟨.ty t, rfl, fun u h => h, pe_bltn (X := X.suite a pn) hg hm hv rfl hn hd⟩
@[reducible] def isD (aa : Addr) (d : Option Addr) (Dn c : Nat) : ME := mIsE 1 aa d (decide (Dn = c))
def mSuite (aa : Addr) (d : Option Addr) (Dn : Nat) : MS :=
  sSeq (sSet 2 (mLst (aCons (isD aa d Dn 9) (aCons (isD aa d Dn 10) (aCons (isD aa d Dn 4) aNil)))))
  (sSeq (sDrop (mBM "list" vExtend (mVar 2) (aCons (mLst (aCons (isD aa d Dn 7) (aCons (isD aa d Dn 1) (aCons (isD aa d Dn 8) aNil)))) aNil)))
  (sSeq (sDrop (mBM "list" vExtend (mVar 2) (aCons (mLst (aCons (isD aa d Dn 6) (aCons (isD aa d Dn 2) aNil))) aNil)))
  (sSeq (sIf (tOrM (mTest (mBin vNe (mBM "list" vCount (mVar 2) (aCons (mC (.bl true)) aNil)) (mC (.int 1)))) (tNotM (mTest (mIsE 1 aa d true)))) (sRet (mTup (aCons (mC (.str "other")) aNil))) sNext)
  (sSeq (sSet 3 (mBin vIx (mLst (aCons (mC (.str "daybook")) (aCons (mC (.str "code")) (aCons (mC (.str "number")) (aCons (mC (.str "operation")) (aCons (mC (.str "row")) (aCons (mC (.str "text")) (aCons (mC (.str "weather")) (aCons (mC (.str "barrel")) aNil))))))))) (mBM "list" vIndex (mVar 2) (aCons (mC (.bl true)) aNil))))
  (sSeq (sIf (mTest (mBin vIn (mVar 3) (mTup (aCons (mC (.str "daybook")) (aCons (mC (.str "text")) aNil))))) (sRet (mTup (aCons (mVar 3) (aCons (mXf 1 aa d 27) aNil)))) sNext)
  (sSeq (sIf (mTest (mBin vEq (mVar 3) (mC (.str "row")))) (sRet (mTup (aCons (mVar 3) (aCons (mXf 1 aa d 24) (aCons (mXf 1 aa d 25) aNil))))) sNext)
  (sSeq (sIf (mTest (mBin vEq (mVar 3) (mC (.str "weather")))) (sRet (mTup (aCons (mVar 3) (aCons (mXf 1 aa d 24) aNil)))) sNext)
  (sSeq (sIf (mTest (mBin vEq (mVar 3) (mC (.str "number")))) (sRet (mTup (aCons (mVar 3) aNil))) sNext)
  (sRet (mTup (aCons (mVar 3) (aCons (mIf (mTest (mBin vEq (mVar 3) (mC (.str "code")))) (mXf 1 aa d 28) (mIf (mTest (mBin vEq (mVar 3) (mC (.str "operation")))) (mXf 1 aa d 25) (mXf 1 aa d 26))) aNil)))))))))))) 

theorem findX_app {dd : Addr} {st1 : Store} {fs : List (Nat × Val)} {ls : List (List Val)} : findX dd (st1 ++ [.xfs dd fs] ++ ls.map .lst) = some fs := by
  unfold findX
  rw [List.reverse_append, List.findSome?_append]
  have h : (ls.map Cell.lst).reverse.findSome? (xOf dd) = none := by
    rw [List.findSome?_eq_none_iff]
    intro x hx
    rw [List.mem_reverse] at hx
    obtain ⟨l, _, e⟩ := List.mem_map.mp hx
    subst e
    rfl
  rw [h, List.reverse_append]
  simp [xOf]
theorem okX_app {y : Exc} {d : Option Addr} {st1 : Store} (ls : List (List Val)) : okX d (st1 ++ xst y d ++ ls.map .lst) = true := by
  cases d with
  | none => rfl
  | some dd =>
    unfold okX
    dsimp only [xst]
    rw [findX_app]; rfl
def k3 (D : Nat) : List Val := [.bl (decide (D = 9)), .bl (decide (D = 10)), .bl (decide (D = 4))]
def k5 (D : Nat) : List Val := [.bl (decide (D = 7)), .bl (decide (D = 1)), .bl (decide (D = 8))]
def k7 (D : Nat) : List Val := [.bl (decide (D = 6)), .bl (decide (D = 2))]
def wordsL : List Val := [.str "daybook", .str "code", .str "number", .str "operation", .str "row", .str "text", .str "weather", .str "barrel"]
theorem at0 {S : Store} {a : Cell} {r : List Cell} : (S ++ a :: r)[S.length]? = some a := by simp
theorem at1 {S : Store} {a b : Cell} {r : List Cell} : (S ++ a :: b :: r)[S.length + 1]? = some b := by simp
theorem at2 {S : Store} {a b c : Cell} {r : List Cell} : (S ++ a :: b :: c :: r)[S.length + 2]? = some c := by simp
theorem at3 {S : Store} {a b c d : Cell} {r : List Cell} : (S ++ a :: b :: c :: d :: r)[S.length + 3]? = some d := by simp
theorem set0 {S : Store} {a b : Cell} {r : List Cell} : (S ++ a :: r).set S.length b = S ++ b :: r := by simp
/-- the first lines -/
theorem suite_head (aa : Addr) (d : Option Addr) (D : Nat) (S : Store) (rest : MS) (ok : ∀ ls : List (List Val), okX d (S ++ ls.map .lst) = true) :
    (sSeq (sSet 2 (mLst (aCons (isD aa d D 9) (aCons (isD aa d D 10) (aCons (isD aa d D 4) aNil)))))
      (sSeq (sDrop (mBM "list" vExtend (mVar 2) (aCons (mLst (aCons (isD aa d D 7) (aCons (isD aa d D 1) (aCons (isD aa d D 8) aNil)))) aNil)))
      (sSeq (sDrop (mBM "list" vExtend (mVar 2) (aCons (mLst (aCons (isD aa d D 6) (aCons (isD aa d D 2) aNil))) aNil))) rest))) [none, some (.adr aa), none, none] S =
    rest [none, some (.adr aa), some (.ref S.length), none] (S ++ [.lst (k3 D ++ k5 D ++ k7 D), .lst (k5 D), .lst (k7 D)]) := by
  have o0 := ok []
  have o1 := ok [k3 D]
  have o2 := ok [k3 D ++ k5 D, k5 D]
  simp only [List.map_cons, List.map_nil, List.append_nil] at o0 o1 o2
  have e : ∀ (S : Store) c, okX d S = true → isD aa d D c [none, some (.adr aa), none, none] S = .ok (.bl (decide (D = c))) S := fun S c h => by
    show (if aa = aa ∧ okX d S = true then R.ok (Val.bl (decide (D = c))) S else .bad) = _
    rw [if_pos ⟨rfl, h⟩]
  have e2 : ∀ (S : Store) c, okX d S = true → isD aa d D c [none, some (.adr aa), some (.ref S.length), none] S = .ok (.bl (decide (D = c))) S := fun S c h => by
    show (if aa = aa ∧ okX d S = true then R.ok (Val.bl (decide (D = c))) S else .bad) = _
    rw [if_pos ⟨rfl, h⟩]
  have e3 : ∀ (n : Nat) (S : Store) c, okX d S = true → isD aa d D c [none, some (.adr aa), some (.ref n), none] S = .ok (.bl (decide (D = c))) S := fun n S c h => by
    show (if aa = aa ∧ okX d S = true then R.ok (Val.bl (decide (D = c))) S else .bad) = _
    rw [if_pos ⟨rfl, h⟩]
  have z3 : (3 : Nat) ≤ sizeLine := by rw [sizeLine_eq]; omega
  have z2 : (2 : Nat) ≤ sizeLine := by rw [sizeLine_eq]; omega
  have z6 : (3 + 3 : Nat) ≤ sizeLine := by rw [sizeLine_eq]; omega
  have z8 : (6 + 2 : Nat) ≤ sizeLine := by rw [sizeLine_eq]; omega
  have s1 : sSet 2 (mLst (aCons (isD aa d D 9) (aCons (isD aa d D 10) (aCons (isD aa d D 4) aNil)))) [none, some (.adr aa), none, none] S = .nx [none, some (.adr aa), some (.ref S.length), none] (S ++ [.lst (k3 D)]) := by
    simp only [sSet, R.toO, mLst, aCons, e S _ o0, R.bind, aNil]
    rw [if_pos (by simpa using z3)]
    rfl
  have s2 : sDrop (mBM "list" vExtend (mVar 2) (aCons (mLst (aCons (isD aa d D 7) (aCons (isD aa d D 1) (aCons (isD aa d D 8) aNil)))) aNil)) [none, some (.adr aa), some (.ref S.length), none] (S ++ [.lst (k3 D)]) =
      .nx [none, some (.adr aa), some (.ref S.length), none] (S ++ [.lst (k3 D ++ k5 D), .lst (k5 D)]) := by
    have t : tyOk "list" (.ref S.length) (S ++ [.lst (k3 D)]) = true := by simp [tyOk]
    have v : mVar 2 [none, some (.adr aa), some (.ref S.length), none] (S ++ [.lst (k3 D)]) = .ok (.ref S.length) (S ++ [.lst (k3 D)]) := rfl
    simp only [sDrop, R.toO, mBM, v, R.bind, t, if_true, mLst, aCons, e3 S.length _ _ o1, aNil]
    rw [if_pos (by simpa using z3)]
    have l : (S ++ [Cell.lst (k3 D)]).length = S.length + 1 := by simp
    have q : S ++ [Cell.lst (k3 D)] ++ [Cell.lst [.bl (decide (D = 7)), .bl (decide (D = 1)), .bl (decide (D = 8))]] = S ++ [Cell.lst (k3 D), Cell.lst (k5 D)] := by rw [List.append_assoc]; rfl
    simp only [q, l, vExtend, at0, at1]
    rw [if_pos (by simpa [k3, k5] using z6), set0]
  have s3 : sDrop (mBM "list" vExtend (mVar 2) (aCons (mLst (aCons (isD aa d D 6) (aCons (isD aa d D 2) aNil))) aNil)) [none, some (.adr aa), some (.ref S.length), none] (S ++ [.lst (k3 D ++ k5 D), .lst (k5 D)]) =
      .nx [none, some (.adr aa), some (.ref S.length), none] (S ++ [.lst (k3 D ++ k5 D ++ k7 D), .lst (k5 D), .lst (k7 D)]) := by
    have t : tyOk "list" (.ref S.length) (S ++ [.lst (k3 D ++ k5 D), .lst (k5 D)]) = true := by simp [tyOk]
    have v : mVar 2 [none, some (.adr aa), some (.ref S.length), none] (S ++ [.lst (k3 D ++ k5 D), .lst (k5 D)]) = .ok (.ref S.length) (S ++ [.lst (k3 D ++ k5 D), .lst (k5 D)]) := rfl
    simp only [sDrop, R.toO, mBM, v, R.bind, t, if_true, mLst, aCons, e3 S.length _ _ o2, aNil]
    rw [if_pos (by simpa using z2)]
    have l : (S ++ [Cell.lst (k3 D ++ k5 D), Cell.lst (k5 D)]).length = S.length + 2 := by simp
    have q : S ++ [Cell.lst (k3 D ++ k5 D), Cell.lst (k5 D)] ++ [Cell.lst [.bl (decide (D = 6)), .bl (decide (D = 2))]] = S ++ [Cell.lst (k3 D ++ k5 D), Cell.lst (k5 D), Cell.lst (k7 D)] := by rw [List.append_assoc]; rfl
    simp only [q, l, vExtend, at0, at2]
    rw [if_pos (by simpa [k3, k5, k7] using z8), set0]
  simp only [sSeq, s1, O.then, s2, s3]

@[reducible] def mEnd (aa : Addr) (d : Option Addr) : MS :=
  (sSeq (sIf (mTest (mBin vIn (mVar 3) (mTup (aCons (mC (.str "daybook")) (aCons (mC (.str "text")) aNil))))) (sRet (mTup (aCons (mVar 3) (aCons (mXf 1 aa d 27) aNil)))) sNext)
  (sSeq (sIf (mTest (mBin vEq (mVar 3) (mC (.str "row")))) (sRet (mTup (aCons (mVar 3) (aCons (mXf 1 aa d 24) (aCons (mXf 1 aa d 25) aNil))))) sNext)
  (sSeq (sIf (mTest (mBin vEq (mVar 3) (mC (.str "weather")))) (sRet (mTup (aCons (mVar 3) (aCons (mXf 1 aa d 24) aNil)))) sNext)
  (sSeq (sIf (mTest (mBin vEq (mVar 3) (mC (.str "number")))) (sRet (mTup (aCons (mVar 3) aNil))) sNext)
  (sRet (mTup (aCons (mVar 3) (aCons (mIf (mTest (mBin vEq (mVar 3) (mC (.str "code")))) (mXf 1 aa d 28) (mIf (mTest (mBin vEq (mVar 3) (mC (.str "operation")))) (mXf 1 aa d 25) (mXf 1 aa d 26))) aNil))))))))
@[reducible] def mTail (aa : Addr) (d : Option Addr) : MS :=
  (sSeq (sIf (tOrM (mTest (mBin vNe (mBM "list" vCount (mVar 2) (aCons (mC (.bl true)) aNil)) (mC (.int 1)))) (tNotM (mTest (mIsE 1 aa d true)))) (sRet (mTup (aCons (mC (.str "other")) aNil))) sNext)
  (sSeq (sSet 3 (mBin vIx (mLst (aCons (mC (.str "daybook")) (aCons (mC (.str "code")) (aCons (mC (.str "number")) (aCons (mC (.str "operation")) (aCons (mC (.str "row")) (aCons (mC (.str "text")) (aCons (mC (.str "weather")) (aCons (mC (.str "barrel")) aNil))))))))) (mBM "list" vIndex (mVar 2) (aCons (mC (.bl true)) aNil))))
  (sSeq (sIf (mTest (mBin vIn (mVar 3) (mTup (aCons (mC (.str "daybook")) (aCons (mC (.str "text")) aNil))))) (sRet (mTup (aCons (mVar 3) (aCons (mXf 1 aa d 27) aNil)))) sNext)
  (sSeq (sIf (mTest (mBin vEq (mVar 3) (mC (.str "row")))) (sRet (mTup (aCons (mVar 3) (aCons (mXf 1 aa d 24) (aCons (mXf 1 aa d 25) aNil))))) sNext)
  (sSeq (sIf (mTest (mBin vEq (mVar 3) (mC (.str "weather")))) (sRet (mTup (aCons (mVar 3) (aCons (mXf 1 aa d 24) aNil)))) sNext)
  (sSeq (sIf (mTest (mBin vEq (mVar 3) (mC (.str "number")))) (sRet (mTup (aCons (mVar 3) aNil))) sNext)
  (sRet (mTup (aCons (mVar 3) (aCons (mIf (mTest (mBin vEq (mVar 3) (mC (.str "code")))) (mXf 1 aa d 28) (mIf (mTest (mBin vEq (mVar 3) (mC (.str "operation")))) (mXf 1 aa d 25) (mXf 1 aa d 26))) aNil))))))))))
theorem end_row {aa : Addr} {d : Option Addr} {ρ : Slots} {S : Store} {w24 w25 : Val} (v : ∀ s, mVar 3 ρ s = .ok (.str "row") s) (h24 : mXf 1 aa d 24 ρ S = .ok w24 S) (h25 : mXf 1 aa d 25 ρ S = .ok w25 S) : mEnd aa d ρ S = .ret (.tup [.str "row", w24, w25]) S := by
  have z1 : (1 : Nat) ≤ sizeLine := by rw [sizeLine_eq]; omega
  have z2 : (2 : Nat) ≤ sizeLine := by rw [sizeLine_eq]; omega
  have z3 : (3 : Nat) ≤ sizeLine := by rw [sizeLine_eq]; omega
  have c0 : inW (.str "row") [.str "daybook", .str "text"] = false := by decide +kernel
  have c1 : decide (("row" : Str) = "row") = true := by decide +kernel
  have c2 : decide (("row" : Str) = "weather") = false := by decide +kernel
  have c3 : decide (("row" : Str) = "number") = false := by decide +kernel
  have c4 : decide (("row" : Str) = "code") = false := by decide +kernel
  have c5 : decide (("row" : Str) = "operation") = false := by decide +kernel
  have f0 : (flatW (.str "row") && List.all [Val.str "daybook", .str "text"] flatW) = true := rfl
  have l1 : [Val.str "row"].length ≤ sizeLine := z1
  have l2 : ∀ a b : Val, [a, b].length ≤ sizeLine := fun _ _ => z2
  have l3 : ∀ a b c : Val, [a, b, c].length ≤ sizeLine := fun _ _ _ => z3
  simp only [mEnd, sSeq, sIf, mTest, mBin, v, R.bind, mTup, aCons, aNil, mC, if_true, vIn, f0, c0, asB, R.toO, Bool.false_eq_true, if_false, sNext, O.then, vEq, c1, c2, c3, c4, c5, decide_true, sRet, mIf, l1, l2, l3, h24, h25]
theorem end_barrel {aa : Addr} {d : Option Addr} {ρ : Slots} {S : Store} {w26 : Val} (v : ∀ s, mVar 3 ρ s = .ok (.str "barrel") s) (h26 : mXf 1 aa d 26 ρ S = .ok w26 S) : mEnd aa d ρ S = .ret (.tup [.str "barrel", w26]) S := by
  have z1 : (1 : Nat) ≤ sizeLine := by rw [sizeLine_eq]; omega
  have z2 : (2 : Nat) ≤ sizeLine := by rw [sizeLine_eq]; omega
  have z3 : (3 : Nat) ≤ sizeLine := by rw [sizeLine_eq]; omega
  have c0 : inW (.str "barrel") [.str "daybook", .str "text"] = false := by decide +kernel
  have c1 : decide (("barrel" : Str) = "row") = false := by decide +kernel
  have c2 : decide (("barrel" : Str) = "weather") = false := by decide +kernel
  have c3 : decide (("barrel" : Str) = "number") = false := by decide +kernel
  have c4 : decide (("barrel" : Str) = "code") = false := by decide +kernel
  have c5 : decide (("barrel" : Str) = "operation") = false := by decide +kernel
  have f0 : (flatW (.str "barrel") && List.all [Val.str "daybook", .str "text"] flatW) = true := rfl
  have l1 : [Val.str "barrel"].length ≤ sizeLine := z1
  have l2 : ∀ a b : Val, [a, b].length ≤ sizeLine := fun _ _ => z2
  have l3 : ∀ a b c : Val, [a, b, c].length ≤ sizeLine := fun _ _ _ => z3
  simp only [mEnd, sSeq, sIf, mTest, mBin, v, R.bind, mTup, aCons, aNil, mC, if_true, vIn, f0, c0, asB, R.toO, Bool.false_eq_true, if_false, sNext, O.then, vEq, c1, c2, c3, c4, c5, decide_true, sRet, mIf, l1, l2, l3, h26]
theorem end_number {aa : Addr} {d : Option Addr} {ρ : Slots} {S : Store} {w0 : Val} (v : ∀ s, mVar 3 ρ s = .ok (.str "number") s)  : mEnd aa d ρ S = .ret (.tup [.str "number"]) S := by
  have z1 : (1 : Nat) ≤ sizeLine := by rw [sizeLine_eq]; omega
  have z2 : (2 : Nat) ≤ sizeLine := by rw [sizeLine_eq]; omega
  have z3 : (3 : Nat) ≤ sizeLine := by rw [sizeLine_eq]; omega
  have c0 : inW (.str "number") [.str "daybook", .str "text"] = false := by decide +kernel
  have c1 : decide (("number" : Str) = "row") = false := by decide +kernel
  have c2 : decide (("number" : Str) = "weather") = false := by decide +kernel
  have c3 : decide (("number" : Str) = "number") = true := by decide +kernel
  have c4 : decide (("number" : Str) = "code") = false := by decide +kernel
  have c5 : decide (("number" : Str) = "operation") = false := by decide +kernel
  have f0 : (flatW (.str "number") && List.all [Val.str "daybook", .str "text"] flatW) = true := rfl
  have l1 : [Val.str "number"].length ≤ sizeLine := z1
  have l2 : ∀ a b : Val, [a, b].length ≤ sizeLine := fun _ _ => z2
  have l3 : ∀ a b c : Val, [a, b, c].length ≤ sizeLine := fun _ _ _ => z3
  simp only [mEnd, sSeq, sIf, mTest, mBin, v, R.bind, mTup, aCons, aNil, mC, if_true, vIn, f0, c0, asB, R.toO, Bool.false_eq_true, if_false, sNext, O.then, vEq, c1, c2, c3, c4, c5, decide_true, sRet, mIf, l1, l2, l3]
theorem end_weather {aa : Addr} {d : Option Addr} {ρ : Slots} {S : Store} {w24 : Val} (v : ∀ s, mVar 3 ρ s = .ok (.str "weather") s) (h24 : mXf 1 aa d 24 ρ S = .ok w24 S) : mEnd aa d ρ S = .ret (.tup [.str "weather", w24]) S := by
  have z1 : (1 : Nat) ≤ sizeLine := by rw [sizeLine_eq]; omega
  have z2 : (2 : Nat) ≤ sizeLine := by rw [sizeLine_eq]; omega
  have z3 : (3 : Nat) ≤ sizeLine := by rw [sizeLine_eq]; omega
  have c0 : inW (.str "weather") [.str "daybook", .str "text"] = false := by decide +kernel
  have c1 : decide (("weather" : Str) = "row") = false := by decide +kernel
  have c2 : decide (("weather" : Str) = "weather") = true := by decide +kernel
  have c3 : decide (("weather" : Str) = "number") = false := by decide +kernel
  have c4 : decide (("weather" : Str) = "code") = false := by decide +kernel
  have c5 : decide (("weather" : Str) = "operation") = false := by decide +kernel
  have f0 : (flatW (.str "weather") && List.all [Val.str "daybook", .str "text"] flatW) = true := rfl
  have l1 : [Val.str "weather"].length ≤ sizeLine := z1
  have l2 : ∀ a b : Val, [a, b].length ≤ sizeLine := fun _ _ => z2
  have l3 : ∀ a b c : Val, [a, b, c].length ≤ sizeLine := fun _ _ _ => z3
  simp only [mEnd, sSeq, sIf, mTest, mBin, v, R.bind, mTup, aCons, aNil, mC, if_true, vIn, f0, c0, asB, R.toO, Bool.false_eq_true, if_false, sNext, O.then, vEq, c1, c2, c3, c4, c5, decide_true, sRet, mIf, l1, l2, l3, h24]
theorem end_operation {aa : Addr} {d : Option Addr} {ρ : Slots} {S : Store} {w25 : Val} (v : ∀ s, mVar 3 ρ s = .ok (.str "operation") s) (h25 : mXf 1 aa d 25 ρ S = .ok w25 S) : mEnd aa d ρ S = .ret (.tup [.str "operation", w25]) S := by
  have z1 : (1 : Nat) ≤ sizeLine := by rw [sizeLine_eq]; omega
  have z2 : (2 : Nat) ≤ sizeLine := by rw [sizeLine_eq]; omega
  have z3 : (3 : Nat) ≤ sizeLine := by rw [sizeLine_eq]; omega
  have c0 : inW (.str "operation") [.str "daybook", .str "text"] = false := by decide +kernel
  have c1 : decide (("operation" : Str) = "row") = false := by decide +kernel
  have c2 : decide (("operation" : Str) = "weather") = false := by decide +kernel
  have c3 : decide (("operation" : Str) = "number") = false := by decide +kernel
  have c4 : decide (("operation" : Str) = "code") = false := by decide +kernel
  have c5 : decide (("operation" : Str) = "operation") = true := by decide +kernel
  have f0 : (flatW (.str "operation") && List.all [Val.str "daybook", .str "text"] flatW) = true := rfl
  have l1 : [Val.str "operation"].length ≤ sizeLine := z1
  have l2 : ∀ a b : Val, [a, b].length ≤ sizeLine := fun _ _ => z2
  have l3 : ∀ a b c : Val, [a, b, c].length ≤ sizeLine := fun _ _ _ => z3
  simp only [mEnd, sSeq, sIf, mTest, mBin, v, R.bind, mTup, aCons, aNil, mC, if_true, vIn, f0, c0, asB, R.toO, Bool.false_eq_true, if_false, sNext, O.then, vEq, c1, c2, c3, c4, c5, decide_true, sRet, mIf, l1, l2, l3, h25]
theorem end_text {aa : Addr} {d : Option Addr} {ρ : Slots} {S : Store} {w27 : Val} (v : ∀ s, mVar 3 ρ s = .ok (.str "text") s) (h27 : mXf 1 aa d 27 ρ S = .ok w27 S) : mEnd aa d ρ S = .ret (.tup [.str "text", w27]) S := by
  have z1 : (1 : Nat) ≤ sizeLine := by rw [sizeLine_eq]; omega
  have z2 : (2 : Nat) ≤ sizeLine := by rw [sizeLine_eq]; omega
  have z3 : (3 : Nat) ≤ sizeLine := by rw [sizeLine_eq]; omega
  have c0 : inW (.str "text") [.str "daybook", .str "text"] = true := by decide +kernel
  have c1 : decide (("text" : Str) = "row") = false := by decide +kernel
  have c2 : decide (("text" : Str) = "weather") = false := by decide +kernel
  have c3 : decide (("text" : Str) = "number") = false := by decide +kernel
  have c4 : decide (("text" : Str) = "code") = false := by decide +kernel
  have c5 : decide (("text" : Str) = "operation") = false := by decide +kernel
  have f0 : (flatW (.str "text") && List.all [Val.str "daybook", .str "text"] flatW) = true := rfl
  have l1 : [Val.str "text"].length ≤ sizeLine := z1
  have l2 : ∀ a b : Val, [a, b].length ≤ sizeLine := fun _ _ => z2
  have l3 : ∀ a b c : Val, [a, b, c].length ≤ sizeLine := fun _ _ _ => z3
  simp only [mEnd, sSeq, sIf, mTest, mBin, v, R.bind, mTup, aCons, aNil, mC, if_true, vIn, f0, c0, asB, R.toO, Bool.false_eq_true, if_false, sNext, O.then, vEq, c1, c2, c3, c4, c5, decide_true, sRet, mIf, l1, l2, l3, h27]
theorem end_daybook {aa : Addr} {d : Option Addr} {ρ : Slots} {S : Store} {w27 : Val} (v : ∀ s, mVar 3 ρ s = .ok (.str "daybook") s) (h27 : mXf 1 aa d 27 ρ S = .ok w27 S) : mEnd aa d ρ S = .ret (.tup [.str "daybook", w27]) S := by
  have z1 : (1 : Nat) ≤ sizeLine := by rw [sizeLine_eq]; omega
  have z2 : (2 : Nat) ≤ sizeLine := by rw [sizeLine_eq]; omega
  have z3 : (3 : Nat) ≤ sizeLine := by rw [sizeLine_eq]; omega
  have c0 : inW (.str "daybook") [.str "daybook", .str "text"] = true := by decide +kernel
  have c1 : decide (("daybook" : Str) = "row") = false := by decide +kernel
  have c2 : decide (("daybook" : Str) = "weather") = false := by decide +kernel
  have c3 : decide (("daybook" : Str) = "number") = false := by decide +kernel
  have c4 : decide (("daybook" : Str) = "code") = false := by decide +kernel
  have c5 : decide (("daybook" : Str) = "operation") = false := by decide +kernel
  have f0 : (flatW (.str "daybook") && List.all [Val.str "daybook", .str "text"] flatW) = true := rfl
  have l1 : [Val.str "daybook"].length ≤ sizeLine := z1
  have l2 : ∀ a b : Val, [a, b].length ≤ sizeLine := fun _ _ => z2
  have l3 : ∀ a b c : Val, [a, b, c].length ≤ sizeLine := fun _ _ _ => z3
  simp only [mEnd, sSeq, sIf, mTest, mBin, v, R.bind, mTup, aCons, aNil, mC, if_true, vIn, f0, c0, asB, R.toO, Bool.false_eq_true, if_false, sNext, O.then, vEq, c1, c2, c3, c4, c5, decide_true, sRet, mIf, l1, l2, l3, h27]
theorem end_code {aa : Addr} {d : Option Addr} {ρ : Slots} {S : Store} {w28 : Val} (v : ∀ s, mVar 3 ρ s = .ok (.str "code") s) (h28 : mXf 1 aa d 28 ρ S = .ok w28 S) : mEnd aa d ρ S = .ret (.tup [.str "code", w28]) S := by
  have z1 : (1 : Nat) ≤ sizeLine := by rw [sizeLine_eq]; omega
  have z2 : (2 : Nat) ≤ sizeLine := by rw [sizeLine_eq]; omega
  have z3 : (3 : Nat) ≤ sizeLine := by rw [sizeLine_eq]; omega
  have c0 : inW (.str "code") [.str "daybook", .str "text"] = false := by decide +kernel
  have c1 : decide (("code" : Str) = "row") = false := by decide +kernel
  have c2 : decide (("code" : Str) = "weather") = false := by decide +kernel
  have c3 : decide (("code" : Str) = "number") = false := by decide +kernel
  have c4 : decide (("code" : Str) = "code") = true := by decide +kernel
  have c5 : decide (("code" : Str) = "operation") = false := by decide +kernel
  have f0 : (flatW (.str "code") && List.all [Val.str "daybook", .str "text"] flatW) = true := rfl
  have l1 : [Val.str "code"].length ≤ sizeLine := z1
  have l2 : ∀ a b : Val, [a, b].length ≤ sizeLine := fun _ _ => z2
  have l3 : ∀ a b c : Val, [a, b, c].length ≤ sizeLine := fun _ _ _ => z3
  simp only [mEnd, sSeq, sIf, mTest, mBin, v, R.bind, mTup, aCons, aNil, mC, if_true, vIn, f0, c0, asB, R.toO, Bool.false_eq_true, if_false, sNext, O.then, vEq, c1, c2, c3, c4, c5, decide_true, sRet, mIf, l1, l2, l3, h28]
theorem suite_run (y : Exc) (ws : List Val) (h : outV y = some ws) (hf : ws.all flatW = true) (aa : Addr) (d : Option Addr) (st1 : Store) (hd : y.fs = [] ∧ d = none ∨ ∃ dd, d = some dd) :
    ∃ junk, mSuite aa d y.cls [none, some (.adr aa), none, none] (st1 ++ xst y d) = .ret (.tup ws) (st1 ++ junk) := by
  have ok : ∀ ls : List (List Val), okX d (st1 ++ xst y d ++ ls.map .lst) = true := fun ls => okX_app ls
  have hl : ∀ dd, d = some dd → ∀ ls : List (List Val), findX dd (st1 ++ xst y d ++ ls.map .lst) = some y.fs := fun dd e ls => by subst e; exact findX_app
  obtain ⟨cls, fs⟩ := y
  dsimp only at hd hl
  suffices z : ∃ ls : List (List Val), mSuite aa d cls [none, some (.adr aa), none, none] (st1 ++ xst ⟨cls, fs⟩ d) = .ret (.tup ws) (st1 ++ xst ⟨cls, fs⟩ d ++ ls.map .lst) by
    obtain ⟨ls, z⟩ := z
    exact ⟨xst ⟨cls, fs⟩ d ++ ls.map .lst, by rw [z, List.append_assoc]⟩
  generalize hS : st1 ++ xst ⟨cls, fs⟩ d = S at *
  have hm := outV_cls h
  simp only [excs, List.mem_cons, List.not_mem_nil, or_false] at hm
  have step : mSuite aa d cls [none, some (.adr aa), none, none] S = mTail aa d [none, some (.adr aa), some (.ref S.length), none] (S ++ [.lst (k3 cls ++ k5 cls ++ k7 cls), .lst (k5 cls), .lst (k7 cls)]) := suite_head aa d cls S _ ok
  rw [step]
  have okT := ok [k3 cls ++ k5 cls ++ k7 cls, k5 cls, k7 cls]
  simp only [List.map_cons, List.map_nil] at okT
  have hV : mIsE 1 aa d true [none, some (.adr aa), some (.ref S.length), none] (S ++ [.lst (k3 cls ++ k5 cls ++ k7 cls), .lst (k5 cls), .lst (k7 cls)]) = .ok (.bl true) (S ++ [.lst (k3 cls ++ k5 cls ++ k7 cls), .lst (k5 cls), .lst (k7 cls)]) := by
    show (if aa = aa ∧ okX d _ = true then R.ok (Val.bl true) _ else .bad) = _
    rw [if_pos ⟨rfl, okT⟩]
  have hi : ∀ (w : Option Val) (r : List Cell), mVar 2 [none, some (.adr aa), some (.ref S.length), w] (S ++ r) = .ok (.ref S.length) (S ++ r) := fun w r => rfl
  have hT : ∀ a r, tyOk "list" (.ref S.length) (S ++ Cell.lst a :: r) = true := fun a r => by simp [tyOk]
  have hq : ∀ a r, seqAt (S ++ Cell.lst a :: r) S.length = some a := fun a r => by simp [seqAt]
  have z1 : (1 : Nat) ≤ sizeLine := by rw [sizeLine_eq]; omega
  have z2 : (2 : Nat) ≤ sizeLine := by rw [sizeLine_eq]; omega
  have z3 : (3 : Nat) ≤ sizeLine := by rw [sizeLine_eq]; omega
  have z8 : (8 : Nat) ≤ sizeLine := by rw [sizeLine_eq]; omega
  have L : (S ++ [Cell.lst (k3 cls ++ k5 cls ++ k7 cls), .lst (k5 cls), .lst (k7 cls)]).length = S.length + 3 := by simp
  have ap : ∀ c, S ++ [Cell.lst (k3 cls ++ k5 cls ++ k7 cls), .lst (k5 cls), .lst (k7 cls)] ++ [c] = S ++ [Cell.lst (k3 cls ++ k5 cls ++ k7 cls), .lst (k5 cls), .lst (k7 cls), c] := fun c => by rw [List.append_assoc]; rfl
  have cnt : mBM "list" vCount (mVar 2) (aCons (mC (.bl true)) aNil) [none, some (.adr aa), some (.ref S.length), none] (S ++ [.lst (k3 cls ++ k5 cls ++ k7 cls), .lst (k5 cls), .lst (k7 cls)]) = .ok (.int (countW (.bl true) (k3 cls ++ k5 cls ++ k7 cls) : Nat)) (S ++ [.lst (k3 cls ++ k5 cls ++ k7 cls), .lst (k5 cls), .lst (k7 cls)]) := by
    simp only [mBM, hi, R.bind, hT, if_true, aCons, aNil, mC, vCount, hq]
    rw [if_pos (by simp [k3, k5, k7, flatW])]
  by_cases h1 : countW (.bl true) (k3 cls ++ k5 cls ++ k7 cls) = 1
  · have g : (!decide (((countW (.bl true) (k3 cls ++ k5 cls ++ k7 cls) : Nat) : Int) = 1)) = false := by
      rw [h1]; rfl
    have words : mLst (aCons (mC (.str "daybook")) (aCons (mC (.str "code")) (aCons (mC (.str "number")) (aCons (mC (.str "operation")) (aCons (mC (.str "row")) (aCons (mC (.str "text")) (aCons (mC (.str "weather")) (aCons (mC (.str "barrel")) aNil)))))))) [none, some (.adr aa), some (.ref S.length), none] (S ++ [.lst (k3 cls ++ k5 cls ++ k7 cls), .lst (k5 cls), .lst (k7 cls)]) =
        .ok (.ref (S.length + 3)) (S ++ [.lst (k3 cls ++ k5 cls ++ k7 cls), .lst (k5 cls), .lst (k7 cls), .lst wordsL]) := by
      simp only [mLst, aCons, mC, aNil, R.bind]
      rw [if_pos (by simpa using z8), L, ap]; rfl
    have ix : ∀ (j : Nat) (w : Str), placeW (.bl true) (k3 cls ++ k5 cls ++ k7 cls) = some j → wordsL[j]? = some (.str w) →
        mBin vIx (mLst (aCons (mC (.str "daybook")) (aCons (mC (.str "code")) (aCons (mC (.str "number")) (aCons (mC (.str "operation")) (aCons (mC (.str "row")) (aCons (mC (.str "text")) (aCons (mC (.str "weather")) (aCons (mC (.str "barrel")) aNil))))))))) (mBM "list" vIndex (mVar 2) (aCons (mC (.bl true)) aNil)) [none, some (.adr aa), some (.ref S.length), none] (S ++ [.lst (k3 cls ++ k5 cls ++ k7 cls), .lst (k5 cls), .lst (k7 cls)]) =
        .ok (.str w) (S ++ [.lst (k3 cls ++ k5 cls ++ k7 cls), .lst (k5 cls), .lst (k7 cls), .lst wordsL]) := by
      intro j w e1 e2
      have hj : j < 8 := (List.getElem?_eq_some_iff.mp e2).1
      simp only [mBin, words, R.bind, mBM, hi, hT, if_true, aCons, aNil, mC, vIndex, hq]
      rw [if_pos (by simp [k3, k5, k7, flatW]), e1]
      dsimp only [vIx]
      have q : seqAt (S ++ [.lst (k3 cls ++ k5 cls ++ k7 cls), .lst (k5 cls), .lst (k7 cls), .lst wordsL]) (S.length + 3) = some wordsL := by unfold seqAt; rw [at3]
      have a : L2.atI wordsL ((j : Nat) : Int) = some (.str w) := by
        unfold L2.atI L2.ixN
        rw [if_pos (by omega), if_pos (by show ((j : Nat) : Int) < ((wordsL.length : Nat) : Int); exact_mod_cast hj)]
        simpa using e2
      simp only [q, a]
    have fx : ∀ f w, fs.lookup f = some w → d ≠ none ∧ ∀ (o : Option Val) (r : List (List Val)), mXf 1 aa d f [none, some (.adr aa), some (.ref S.length), o] (S ++ r.map .lst) = .ok w (S ++ r.map .lst) := by
      intro f w e
      rcases hd with ⟨e1, _⟩ | ⟨dd, e1⟩
      · rw [e1] at e; cases e
      · subst e1
        refine ⟨by simp, fun o r => ?_⟩
        show (if aa = aa then (match findX dd (S ++ r.map Cell.lst) with | some fs => (match fs.lookup f with | some w => R.ok w (S ++ r.map Cell.lst) | none => .bad) | none => .bad) else .bad) = _
        rw [if_pos rfl, hl dd rfl r]
        simp only [e]
    refine ⟨[k3 cls ++ k5 cls ++ k7 cls, k5 cls, k7 cls, wordsL], ?_⟩
    have fin : ∀ (j : Nat) (w : Str), placeW (.bl true) (k3 cls ++ k5 cls ++ k7 cls) = some j → wordsL[j]? = some (.str w) →
        mTail aa d [none, some (.adr aa), some (.ref S.length), none] (S ++ [.lst (k3 cls ++ k5 cls ++ k7 cls), .lst (k5 cls), .lst (k7 cls)]) =
        mEnd aa d [none, some (.adr aa), some (.ref S.length), some (.str w)] (S ++ [.lst (k3 cls ++ k5 cls ++ k7 cls), .lst (k5 cls), .lst (k7 cls), .lst wordsL]) := by
      intro j w e1 e2
      have c1 : sIf (tOrM (mTest (mBin vNe (mBM "list" vCount (mVar 2) (aCons (mC (.bl true)) aNil)) (mC (.int 1)))) (tNotM (mTest (mIsE 1 aa d true)))) (sRet (mTup (aCons (mC (.str "other")) aNil))) sNext [none, some (.adr aa), some (.ref S.length), none] (S ++ [.lst (k3 cls ++ k5 cls ++ k7 cls), .lst (k5 cls), .lst (k7 cls)]) =
          .nx [none, some (.adr aa), some (.ref S.length), none] (S ++ [.lst (k3 cls ++ k5 cls ++ k7 cls), .lst (k5 cls), .lst (k7 cls)]) := by
        simp only [sIf, tOrM, mTest, mBin, cnt, R.bind, mC, vNe, asB, g, Bool.false_eq_true, if_false, tNotM, hV, Bool.not_true, R.toO, sNext]
      have c2 := ix j w e1 e2
      have c3 : sSet 3 (mBin vIx (mLst (aCons (mC (.str "daybook")) (aCons (mC (.str "code")) (aCons (mC (.str "number")) (aCons (mC (.str "operation")) (aCons (mC (.str "row")) (aCons (mC (.str "text")) (aCons (mC (.str "weather")) (aCons (mC (.str "barrel")) aNil))))))))) (mBM "list" vIndex (mVar 2) (aCons (mC (.bl true)) aNil))) [none, some (.adr aa), some (.ref S.length), none] (S ++ [.lst (k3 cls ++ k5 cls ++ k7 cls), .lst (k5 cls), .lst (k7 cls)]) =
          .nx [none, some (.adr aa), some (.ref S.length), some (.str w)] (S ++ [.lst (k3 cls ++ k5 cls ++ k7 cls), .lst (k5 cls), .lst (k7 cls), .lst wordsL]) := by
        unfold sSet
        rw [c2]
        rfl
      show O.then (sIf _ _ _ _ _) _ = _
      rw [c1]
      show O.then (sSet 3 _ _ _) _ = _
      rw [c3]
    have z2' := z2
    rcases hm with e | e | e | e | e | e | e | e | e | e <;> subst e
    case inr.inr.inl => exact absurd h1 (by decide +kernel)
    case inr.inr.inr.inr.inl => exact absurd h1 (by decide +kernel)
    case inl => exact (fin 4 "row" (by decide +kernel) rfl).trans (by
      have h : (match fs.lookup 24, fs.lookup 25 with | some w, some u => some [.str "row", w, u] | _, _ => none) = some ws := h
      cases e1 : fs.lookup 24 with
      | none => rw [e1] at h; cases h
      | some w =>
        cases e2 : fs.lookup 25 with
        | none => rw [e1, e2] at h; cases h
        | some u =>
          rw [e1, e2] at h
          cases h
          exact end_row (fun s => rfl) ((fx 24 w e1).2 _ [k3 1 ++ k5 1 ++ k7 1, k5 1, k7 1, wordsL]) ((fx 25 u e2).2 _ [k3 1 ++ k5 1 ++ k7 1, k5 1, k7 1, wordsL]))
    case inr.inl => exact (fin 7 "barrel" (by decide +kernel) rfl).trans (by
      have h : (fs.lookup 26).map (fun w => [.str "barrel", w]) = some ws := h
      obtain ⟨w, e1, rfl⟩ := Option.map_eq_some_iff.mp h
      exact end_barrel (fun s => rfl) ((fx 26 w e1).2 _ [k3 2 ++ k5 2 ++ k7 2, k5 2, k7 2, wordsL]))
    case inr.inr.inr.inl => exact (fin 2 "number" (by decide +kernel) rfl).trans (by
      have h : some [Val.str "number"] = some ws := h
      cases h
      exact end_number (w0 := .non) (fun s => rfl))
    case inr.inr.inr.inr.inr.inl => exact (fin 6 "weather" (by decide +kernel) rfl).trans (by
      have h : (fs.lookup 24).map (fun w => [.str "weather", w]) = some ws := h
      obtain ⟨w, e1, rfl⟩ := Option.map_eq_some_iff.mp h
      exact end_weather (fun s => rfl) ((fx 24 w e1).2 _ [k3 6 ++ k5 6 ++ k7 6, k5 6, k7 6, wordsL]))
    case inr.inr.inr.inr.inr.inr.inl => exact (fin 3 "operation" (by decide +kernel) rfl).trans (by
      have h : (fs.lookup 25).map (fun w => [.str "operation", w]) = some ws := h
      obtain ⟨w, e1, rfl⟩ := Option.map_eq_some_iff.mp h
      exact end_operation (fun s => rfl) ((fx 25 w e1).2 _ [k3 7 ++ k5 7 ++ k7 7, k5 7, k7 7, wordsL]))
    case inr.inr.inr.inr.inr.inr.inr.inl => exact (fin 5 "text" (by decide +kernel) rfl).trans (by
      have h : (fs.lookup 27).map (fun w => [.str "text", w]) = some ws := h
      obtain ⟨w, e1, rfl⟩ := Option.map_eq_some_iff.mp h
      exact end_text (fun s => rfl) ((fx 27 w e1).2 _ [k3 8 ++ k5 8 ++ k7 8, k5 8, k7 8, wordsL]))
    case inr.inr.inr.inr.inr.inr.inr.inr.inl => exact (fin 0 "daybook" (by decide +kernel) rfl).trans (by
      have h : (fs.lookup 27).map (fun w => [.str "daybook", w]) = some ws := h
      obtain ⟨w, e1, rfl⟩ := Option.map_eq_some_iff.mp h
      exact end_daybook (fun s => rfl) ((fx 27 w e1).2 _ [k3 9 ++ k5 9 ++ k7 9, k5 9, k7 9, wordsL]))
    case inr.inr.inr.inr.inr.inr.inr.inr.inr => exact (fin 1 "code" (by decide +kernel) rfl).trans (by
      have h : (fs.lookup 28).map (fun w => [.str "code", w]) = some ws := h
      obtain ⟨w, e1, rfl⟩ := Option.map_eq_some_iff.mp h
      exact end_code (fun s => rfl) ((fx 28 w e1).2 _ [k3 10 ++ k5 10 ++ k7 10, k5 10, k7 10, wordsL]))
  · -- the other kinds
    have e0 : ws = [.str "other"] := by
      rcases hm with e | e | e | e | e | e | e | e | e | e <;> subst e <;> first | (exfalso; exact h1 (by decide +kernel)) | (unfold outV at h; exact (Option.some.inj h).symm)
    subst e0
    refine ⟨[k3 cls ++ k5 cls ++ k7 cls, k5 cls, k7 cls], ?_⟩
    have g : (!decide (((countW (.bl true) (k3 cls ++ k5 cls ++ k7 cls) : Nat) : Int) = 1)) = true := by
      rw [decide_eq_false (by exact_mod_cast h1)]; rfl
    simp only [mTail, sSeq, sIf, tOrM, mTest, mBin, cnt, R.bind, mC, vNe, asB, g, if_true, R.toO, sRet, mTup, aCons, aNil]
    rw [if_pos (by simpa using z1)]
    rfl
end Ab

set_option Elab.async false
set_option linter.all false
set_option maxRecDepth 100000
set_option maxHeartbeats 1000000
/-! Ab: the end of a law: from the walk of its body and the plain law to what the head asks. -/
namespace Ab
open PySem PySem.Spec PyProof.Rows L2
/-- the cell of the script: a list that may be read -/
def IsScript (ns : List Int) (c : Cell) : Prop := c = .frz (ns.map Val.int) ∨ c = .lst (ns.map Val.int)
theorem reps_ints {mg : Str → Option Value} {ι : List Addr} {H : Hp} : ∀ ns : List Int, Reps mg ι H (ns.map Val.int) (ns.map V.int)
  | [] => .nil
  | n :: r => .cons Rep.int (reps_ints r)
theorem tabsOf_law {K : PySem.W.Frag} {mg : Str → Option Value} {fa c P : Addr} {oc : Value} {od : Option Addr} {fd : FuncData} {osl : Array (Option Value)} {e : Value} {dd : Option Addr} {vs : Array Value} {sl : Array (Option Value)} (hmg : mg "law" = some (.ref fa)) (h1 : mg "_law_refused" = none) (h2 : mg "_law_changed" = none)
    (lk : K.lookup fa = some ⟨oc, od, .func fd, osl⟩) (hc : fd.code = .ref c) (lc : K.lookup c = some ⟨e, dd, .fields vs, sl⟩) (h11 : vs[11]? = some (.ref P)) : tabsOf K mg = [(P, ("law" : Str) ++ ".<locals>." ++ "<lambda>")] := by
  have t0 : tabOf K mg "law" = some (P, ("law" : Str) ++ ".<locals>." ++ "<lambda>") := by unfold tabOf; rw [hmg]; dsimp only; rw [lk]; dsimp only; rw [hc]; dsimp only; rw [lc]; dsimp only; rw [h11]
  have t1 : tabOf K mg "_law_refused" = none := by unfold tabOf; rw [h1]
  have t2 : tabOf K mg "_law_changed" = none := by unfold tabOf; rw [h2]
  unfold tabsOf lamNames
  simp only [List.filterMap_cons, t0, t1, t2, List.filterMap_nil]
theorem law_at {l : PySem.W.OpenLaw} {w : World} {K : PySem.W.Frag} {mg : Str → Option Value} {fa c P : Addr} {h : Heap} {st : Stmt} {x : Str} {N : List Str} {m lev : Nat} {body : MS} {kV doc pm ct oc : Value} {an od : Option Addr} {osl : Array (Option Value)} {e : Value} {dd : Option Addr} {vs : Array Value} {sl : Array (Option Value)}
    (X : K.In h) (own : LamX.OwnTab K fa h) (hmg : mg "law" = some (.ref fa)) (h1 : mg "_law_refused" = none) (h2 : mg "_law_changed" = none)
    (lk : K.lookup fa = some ⟨oc, od, .func (PySem.W.fnOf "law" "law" (defArgs st) (defBody st) (defScope st) .none kV doc pm an (.ref c) ct), osl⟩) (hcd : PySem.W.codeIn K (.ref c) "law" = true) (lc : K.lookup c = some ⟨e, dd, .fields vs, sl⟩) (h11 : vs[11]? = some (.ref P)) (nP : K.lookup P = none) (hh : PySem.W.codeHdIn K c P = true)
    (S : FnScope N [x] (defScope st)) (hm : N.length = 1 + m)
    (hb : ∀ (s : Shared) (u : Value), BindsTo s (PySem.W.fnOf "law" "law" (defArgs st) (defBody st) (defScope st) .none kV doc pm an (.ref c) ct) ⟨[u], []⟩ [(x, u)])
    (hj : ∀ base : Heap, K.In base → base.Ns mainGlobals mg → LamX.TabB base mg c P → (P, ("law" : Str) ++ ".<locals>." ++ "<lambda>") ∈ tabsOf K mg → (∀ p ∈ tabsOf K mg, p.1 = P → p.2 = ("law" : Str) ++ ".<locals>." ++ "<lambda>") →
      ∀ (A : Around) (outer : List Env) (s : Shared) (H : Hp) (E : XK), Room lev (cx1 ⟨l.prog, w, K, mg, base⟩ N "law" st fa (.ref c) A outer s H E).A → JSs (cx1 ⟨l.prog, w, K, mg, base⟩ N "law" st fa (.ref c) A outer s H E) (defBody st) body)
    (plain : ∀ (ns : List Int) (cell : Cell), IsScript ns cell → ns.length ≤ 63 → (∀ z ∈ ns, Builtin.Int.intBits z ≤ 1048576) → ∃ st', defM 1 m body [.ref 0] [cell] = .ok (.bl true) st') :
    LamX.LawAtS l w K (L2.CX l.prog w) (lev + 1) 63 x mg fa h := by
  have hT := tabsOf_law hmg h1 h2 lk rfl lc h11
  refine ⟨_, [(c, P)], spM K mg (defM 1 m body), ?_, ?_, ?_, hb, ?_, ?_⟩
  · intro p hp
    rw [List.mem_singleton.mp hp]
    exact own c P _ _ _ _ _ _ lk rfl rfl lc h11
  · intro p hp
    rw [List.mem_singleton.mp hp]
    exact nP
  · intro p hp
    rw [List.mem_singleton.mp hp]
    exact PySem.W.codeHd_of_K X hh
  · intro H a ns hl hbits hcs hS
    have tabs : LamX.Tabs (tabsOf K mg) H := fun p hp => by
      rw [hT] at hp
      rw [List.mem_singleton.mp hp]
      exact LamX.TabS.nil (hcs (c, P) List.mem_cons_self)
    have go : ∀ cell, IsScript ns cell → CellOk K mg [a] H a cell → spM K mg (defM 1 m body) [.ref a] H (fun v _ => v = .bl true) fun _ _ _ => False := by
      intro cell hc hok
      obtain ⟨st', e'⟩ := plain ns cell hc hl hbits
      refine ⟨[a], [.ref 0], [cell], ⟨rfl, fun n m' b c' d' q1 q2 q3 q4 _ _ => ?_, fun n c' b q1 q2 => ?_, tabs⟩, .cons (Rep.ref rfl) .nil, ?_⟩
      · have := (List.getElem?_eq_some_iff.mp q1).1
        have := (List.getElem?_eq_some_iff.mp q2).1
        simp at *
        omega
      · have z := (List.getElem?_eq_some_iff.mp q1).1
        have z0 : n = 0 := by simp at z; omega
        subst z0
        simp at q1 q2
        subst q1 q2
        exact hok
      · rw [e']
        intro ι' H' v l' S' r
        exact Rep.bl_inv r
    rcases hS with (hS | ⟨o, hS⟩) | ⟨o, its, n, k1, k2, k3, k4, k5, k6⟩
    · exact go _ (.inr rfl) ⟨_, hS, reps_ints ns⟩
    · exact go _ (.inl rfl) ⟨_, .inl ⟨o, hS⟩, reps_ints ns⟩
    · exact go _ (.inl rfl) ⟨_, .inr ⟨o, its, n, k1, k2, k3, k4, k5, k6⟩, reps_ints ns⟩
  · intro base hK hNs hTB
    refine fn_of lk hcd S (fun vs H Q E hsp => ?_) fun A outer s H vs Q E hr hsp => ?_
    · obtain ⟨ι, ws, st', S', r, p⟩ := hsp
      unfold defM at p
      split at p
      · rename_i hl
        rw [← r.length, hl]; rfl
      · exact p.elim
    · obtain ⟨ι, ws, st', S', r, p⟩ := hsp
      unfold defM at p
      split at p
      · rename_i hl
        have j := hj base hK hNs (hTB (c, P) List.mem_cons_self) (by rw [hT]; exact List.mem_cons_self) (fun p hp _ => by rw [hT] at hp; rw [List.mem_singleton.mp hp]) A outer s H E hr
        refine ⟨_, j (fun cls d _ H => E cls d H) (takes_of rfl rfl rfl rfl), ι, _, st', S', slots_start r (by rw [hl]; exact hm), ?_⟩
        show PostO K mg _ ι H _ (body (ws.map some ++ List.replicate m none) st')
        cases q : body (ws.map some ++ List.replicate m none) st' with
        | nx ρ s1 => rw [q] at p; exact fun ι1 H1 σ1 l S1 sl => p ι1 H1 _ l S1 Rep.non
        | ret w s1 => rw [q] at p; exact p
        | exc x ρ s1 => rw [q] at p; exact fun ι1 H1 σ1 c d l S1 sl r => p ι1 H1 c d l S1 r
        | brk ρ s1 => rw [q] at p; exact p.elim
        | ct ρ s1 => rw [q] at p; exact p.elim
        | bad => rw [q] at p; exact p.elim
      · exact p.elim
end Ab
namespace Ab
open PySem PySem.Spec PyProof.Rows L2
theorem nof5 {K : PySem.W.Frag} {Da : Addr} (h1 : PySem.W.findIn K (.ref Da) "part" = some none) (h2 : PySem.W.findIn K (.ref Da) "index" = some none) (h3 : PySem.W.findIn K (.ref Da) "name" = some none) (h4 : PySem.W.findIn K (.ref Da) "line" = some none) (h5 : PySem.W.findIn K (.ref Da) "offset" = some none) :
    ∀ f ∈ [24, 25, 26, 27, 28], PySem.W.findIn K (.ref Da) (nm f) = some none := by
  intro f hf
  simp only [List.mem_cons, List.not_mem_nil, or_false] at hf
  rcases hf with e | e | e | e | e <;> subst e
  · exact h1
  · exact h2
  · exact h3
  · exact h4
  · exact h5
theorem isc8 {K : PySem.W.Frag} {h : Heap} {mg : Str → Option Value} {Da C1 C2 C3 C4 C5 C6 C7 C8 : Addr} {b1 b2 b3 b4 b5 b6 b7 b8 : Bool} {D : Nat} (X : K.In h) (G : h.Ns mainGlobals mg)
    (a1 : PySem.W.nsIn K mainGlobals "InvalidRow" = some (some (.ref C1))) (a2 : PySem.W.nsIn K mainGlobals "UnknownBarrel" = some (some (.ref C2))) (a3 : PySem.W.nsIn K mainGlobals "InvalidNumber" = some (some (.ref C3))) (a4 : PySem.W.nsIn K mainGlobals "InvalidWeather" = some (some (.ref C4)))
    (a5 : PySem.W.nsIn K mainGlobals "InvalidOperation" = some (some (.ref C5))) (a6 : PySem.W.nsIn K mainGlobals "InvalidText" = some (some (.ref C6))) (a7 : PySem.W.nsIn K mainGlobals "DaybookError" = some (some (.ref C7))) (a8 : PySem.W.nsIn K mainGlobals "DecodeError" = some (some (.ref C8)))
    (k1 : PySem.W.kitOne K (.ref Da) (.ref C1) = some b1) (k2 : PySem.W.kitOne K (.ref Da) (.ref C2) = some b2) (k3 : PySem.W.kitOne K (.ref Da) (.ref C3) = some b3) (k4 : PySem.W.kitOne K (.ref Da) (.ref C4) = some b4)
    (k5 : PySem.W.kitOne K (.ref Da) (.ref C5) = some b5) (k6 : PySem.W.kitOne K (.ref Da) (.ref C6) = some b6) (k7 : PySem.W.kitOne K (.ref Da) (.ref C7) = some b7) (k8 : PySem.W.kitOne K (.ref Da) (.ref C8) = some b8)
    (e1 : b1 = decide (D = 1) := by rfl) (e2 : b2 = decide (D = 2) := by rfl) (e3 : b3 = decide (D = 4) := by rfl) (e4 : b4 = decide (D = 6) := by rfl) (e5 : b5 = decide (D = 7) := by rfl) (e6 : b6 = decide (D = 8) := by rfl) (e7 : b7 = decide (D = 9) := by rfl) (e8 : b8 = decide (D = 10) := by rfl) :
    ∀ C ∈ [1, 2, 4, 6, 7, 8, 9, 10], ∀ Ca, mg (nm C) = some (.ref Ca) → PySem.W.kitOne K (.ref Da) (.ref Ca) = some (decide (D = C)) := by
  intro C hC Ca h
  simp only [List.mem_cons, List.not_mem_nil, or_false] at hC
  rcases hC with e | e | e | e | e | e | e | e <;> subst e
  · cases (PySem.W.mg_of X G a1).symm.trans h; rw [k1, e1]
  · cases (PySem.W.mg_of X G a2).symm.trans h; rw [k2, e2]
  · cases (PySem.W.mg_of X G a3).symm.trans h; rw [k3, e3]
  · cases (PySem.W.mg_of X G a4).symm.trans h; rw [k4, e4]
  · cases (PySem.W.mg_of X G a5).symm.trans h; rw [k5, e5]
  · cases (PySem.W.mg_of X G a6).symm.trans h; rw [k6, e6]
  · cases (PySem.W.mg_of X G a7).symm.trans h; rw [k7, e7]
  · cases (PySem.W.mg_of X G a8).symm.trans h; rw [k8, e8]
/-- codeHdIn, told of the code object's fields -/
def codeHdB (e : Value) (vs : Array Value) (c P : Addr) : Bool := match e with
  | .type "code" => (match (vs[11]? : Option Value) with | some (.ref P') => P' == P | _ => false) &&
      (match vs.getD 18 .none with | .str _ _ => true | _ => false) && (match vs.getD 7 .none with | .int _ _ => true | _ => false) &&
      (match vs.getD 9 .none with | .bool _ => true | _ => false) && (match vs.getD 10 .none with | .int _ _ => true | _ => false) && c != P
  | _ => false
theorem codeHd_by {K : PySem.W.Frag} {c P : Addr} {e : Value} {dd : Option Addr} {vs : Array Value} {sl : Array (Option Value)} (lc : K.lookup c = some ⟨e, dd, .fields vs, sl⟩) (h : codeHdB e vs c P = true) : PySem.W.codeHdIn K c P = true := by
  unfold codeHdB at h
  split at h
  · unfold PySem.W.codeHdIn
    rw [lc]
    exact h
  · cases h
end Ab

set_option Elab.async false
set_option linter.all false
set_option maxRecDepth 100000
set_option maxHeartbeats 1000000
/-! Ab: what a mirror's run asks, written as a wish on its end (for the plain laws). -/
namespace Ab
open PySem PySem.Spec PyProof.Rows L2
/-- a run that ends well wishes Q, one that raises wishes X -/
def WpR {α : Type} (r : R α) (Q : α → Store → Prop) (X : Exc → Store → Prop) : Prop := match r with
  | .ok a st => Q a st
  | .exc x st => X x st
  | .bad => False
/-- what a statement's ends wish -/
structure Wish where
  nx : Slots → Store → Prop := fun _ _ => False
  rt : Val → Store → Prop := fun _ _ => False
  bk : Slots → Store → Prop := fun _ _ => False
  ct : Slots → Store → Prop := fun _ _ => False
  ex : Exc → Store → Prop := fun _ _ => False
def WpO (o : O) (W : Wish) : Prop := match o with
  | .nx ρ st => W.nx ρ st
  | .ret w st => W.rt w st
  | .brk ρ st => W.bk ρ st
  | .ct ρ st => W.ct ρ st
  | .exc x ρ st => W.ex x st
  | .bad => False
section
variable {α β : Type} {Q : α → Store → Prop} {X : Exc → Store → Prop} {W : Wish} {st : Store} {ρ : Slots}
@[simp] theorem wp_ok {a : α} : WpR (.ok a st) Q X = Q a st := rfl
@[simp] theorem wp_exc {x : Exc} : WpR (α := α) (.exc x st) Q X = X x st := rfl
@[simp] theorem wp_bad : WpR (α := α) .bad Q X = False := rfl
@[simp] theorem wpo_nx : WpO (.nx ρ st) W = W.nx ρ st := rfl
@[simp] theorem wpo_ret {w : Val} : WpO (.ret w st) W = W.rt w st := rfl
@[simp] theorem wpo_brk : WpO (.brk ρ st) W = W.bk ρ st := rfl
@[simp] theorem wpo_ct : WpO (.ct ρ st) W = W.ct ρ st := rfl
@[simp] theorem wpo_exc {x : Exc} : WpO (.exc x ρ st) W = W.ex x st := rfl
@[simp] theorem wpo_bad : WpO .bad W = False := rfl
theorem WpR.mono {r : R α} {Q' : α → Store → Prop} {X' : Exc → Store → Prop} (h : WpR r Q X) (hq : ∀ a st, Q a st → Q' a st) (hx : ∀ x st, X x st → X' x st) : WpR r Q' X' := by
  cases r with
  | ok a st => exact hq a st h
  | exc x st => exact hx x st h
  | bad => exact h
theorem WpO.mono {o : O} {W' : Wish} (h : WpO o W) (h1 : ∀ ρ st, W.nx ρ st → W'.nx ρ st) (h2 : ∀ w st, W.rt w st → W'.rt w st) (h3 : ∀ ρ st, W.bk ρ st → W'.bk ρ st) (h4 : ∀ ρ st, W.ct ρ st → W'.ct ρ st) (h5 : ∀ x st, W.ex x st → W'.ex x st) : WpO o W' := by
  cases o with
  | nx ρ st => exact h1 _ _ h
  | ret w st => exact h2 _ _ h
  | brk ρ st => exact h3 _ _ h
  | ct ρ st => exact h4 _ _ h
  | exc x ρ st => exact h5 _ _ h
  | bad => exact h
theorem wp_bind {r : R α} {f : α → Store → R β} {Q : β → Store → Prop} : WpR (r.bind f) Q X = WpR r (fun a st => WpR (f a st) Q X) X := by
  cases r <;> rfl
theorem wp_toO {r : R α} {f : α → Store → O} : WpO (r.toO ρ f) W = WpR r (fun a st => WpO (f a st) W) W.ex := by
  cases r <;> rfl
theorem wpo_then {o : O} {f : Slots → Store → O} : WpO (o.then f) W = WpO o { W with nx := fun ρ st => WpO (f ρ st) W } := by
  cases o <;> rfl
theorem wp_fin {o : O} {Q : Val → Store → Prop} : WpR o.fin Q X = WpO o { nx := fun _ st => Q .non st, rt := Q, ex := X } := by
  cases o <;> rfl
theorem wp_def {n m : Nat} {body : MS} {ws : List Val} {Q : Val → Store → Prop} (h : ws.length = n) : WpR (defM n m body ws st) Q X = WpO (body (ws.map some ++ List.replicate m none) st) { nx := fun _ st => Q .non st, rt := Q, ex := X } := by
  rw [defM_eq h, wp_fin]
theorem wp_eq {r : R α} (h : WpR r Q fun _ _ => False) : ∃ a st', r = .ok a st' ∧ Q a st' := by
  cases r with
  | ok a st => exact ⟨a, st, rfl, h⟩
  | exc x st => exact h.elim
  | bad => exact h.elim
end
/-! ### the combinators -/
section
variable {Q : Val → Store → Prop} {QB : Bool → Store → Prop} {QL : List Val → Store → Prop} {X : Exc → Store → Prop} {W : Wish} {st : Store} {ρ : Slots} {a b m : ME} {t u : MT} {ta : MA} {s s1 s2 : MS}
theorem w_var {i : Nat} {v : Val} (h : ρ[i]? = some (some v)) : WpR (mVar i ρ st) Q X = Q v st := by unfold mVar; rw [h]; rfl
theorem w_C {v : Val} : WpR (mC v ρ st) Q X = Q v st := rfl
theorem w_bin {g : Val → Val → Store → R Val} : WpR (mBin g a b ρ st) Q X = WpR (a ρ st) (fun x st1 => WpR (b ρ st1) (fun y st2 => WpR (g x y st2) Q X) X) X := by
  unfold mBin; rw [wp_bind]; simp only [wp_bind]
theorem w_test : WpR (mTest m ρ st) QB X = WpR (m ρ st) (fun x st1 => WpR (asB x st1) QB X) X := by unfold mTest; rw [wp_bind]
theorem w_not : WpR (tNotM t ρ st) QB X = WpR (t ρ st) (fun k st1 => QB (!k) st1) X := by unfold tNotM; rw [wp_bind]; rfl
theorem w_aNil : WpR (aNil ρ st) QL X = QL [] st := rfl
theorem w_aCons : WpR (aCons m ta ρ st) QL X = WpR (m ρ st) (fun x st1 => WpR (ta ρ st1) (fun xs st2 => QL (x :: xs) st2) X) X := by
  unfold aCons; rw [wp_bind]; simp only [wp_bind, wp_ok]
theorem w_app {f : MF} : WpR (mApp f ta ρ st) Q X = WpR (ta ρ st) (fun xs st1 => WpR (f xs st1) Q X) X := by unfold mApp; rw [wp_bind]
theorem w_if : WpR (mIf t a b ρ st) Q X = WpR (t ρ st) (fun k st1 => if k = true then WpR (a ρ st1) Q X else WpR (b ρ st1) Q X) X := by
  unfold mIf; rw [wp_bind]; congr 1; funext k st1; split <;> rfl
theorem w_seq : WpO (sSeq s1 s2 ρ st) W = WpO (s1 ρ st) { W with nx := fun ρ st => WpO (s2 ρ st) W } := by unfold sSeq; rw [wpo_then]
theorem w_set {i : Nat} : WpO (sSet i m ρ st) W = WpR (m ρ st) (fun w st1 => W.nx (ρ.set i (some w)) st1) W.ex := by unfold sSet; rw [wp_toO]; rfl
theorem w_ret : WpO (sRet m ρ st) W = WpR (m ρ st) (fun w st1 => W.rt w st1) W.ex := by unfold sRet; rw [wp_toO]; rfl
theorem w_drop : WpO (sDrop m ρ st) W = WpR (m ρ st) (fun _ st1 => W.nx ρ st1) W.ex := by unfold sDrop; rw [wp_toO]; rfl
theorem w_sif : WpO (sIf t s1 s2 ρ st) W = WpR (t ρ st) (fun k st1 => if k = true then WpO (s1 ρ st1) W else WpO (s2 ρ st1) W) W.ex := by
  unfold sIf; rw [wp_toO]; congr 1; funext k st1; split <;> rfl
theorem w_next : WpO (sNext ρ st) W = W.nx ρ st := rfl
theorem w_lst : WpR (mLst ta ρ st) Q X = WpR (ta ρ st) (fun xs st1 => xs.length ≤ sizeLine ∧ Q (.ref st1.length) (st1 ++ [.lst xs])) X := by
  unfold mLst; rw [wp_bind]; congr 1; funext xs st1
  by_cases h : xs.length ≤ sizeLine <;> simp [h]
theorem w_tup : WpR (mTup ta ρ st) Q X = WpR (ta ρ st) (fun xs st1 => xs.length ≤ sizeLine ∧ Q (.tup xs) st1) X := by
  unfold mTup; rw [wp_bind]; congr 1; funext xs st1
  by_cases h : xs.length ≤ sizeLine <;> simp [h]
end

/-! ### loops -/
section
variable {g : MG} {body : MS} {okp : Store → Prop} {W : Wish} {X : Exc → Store → Prop}
theorem w_for {mi : MI} {ρ : Slots} {st : Store} : WpO (sFor mi g body ρ st) W = WpR (mi ρ st) (fun it st1 => WpO (forM g body it.2 it.1 ρ st1) W) W.ex := by unfold sFor; rw [wp_toO]
/-- a loop by an invariant told of the number of turns behind it -/
theorem forM_wp {items : List Val} (Inv : Nat → Slots → Store → Prop) (hok : ∀ i ρ st, i ≤ items.length → Inv i ρ st → okp st)
    (step : ∀ i w ρ st, items[i]? = some w → Inv i ρ st → ∃ ρ1 st1, g w ρ st = some (ρ1, st1) ∧ WpO (body ρ1 st1) { nx := Inv (i + 1), ct := Inv (i + 1), bk := W.nx, rt := W.rt, ex := W.ex })
    (fin : ∀ ρ st, Inv items.length ρ st → W.nx ρ st) {ρ : Slots} {st : Store} (h : Inv 0 ρ st) : WpO (forM g body okp items ρ st) W := by
  have key : ∀ (k i : Nat) (ρ : Slots) (st : Store), items.length - i = k → i ≤ items.length → Inv i ρ st → WpO (forM g body okp (items.drop i) ρ st) W := by
    intro k
    induction k with
    | zero =>
      intro i ρ st hk hi h
      have e : i = items.length := by omega
      subst e
      rw [List.drop_length]
      unfold forM
      rw [if_pos (hok _ _ _ hi h)]
      exact fin ρ st h
    | succ k ih =>
      intro i ρ st hk hi h
      have hlt : i < items.length := by omega
      rw [List.drop_eq_getElem_cons hlt]
      unfold forM
      rw [if_pos (hok _ _ _ hi h)]
      obtain ⟨ρ1, st1, hg, hb⟩ := step i _ ρ st (List.getElem?_eq_getElem hlt) h
      rw [hg]
      dsimp only
      cases q : body ρ1 st1 with
      | nx ρ2 st2 => rw [q] at hb; exact ih (i + 1) ρ2 st2 (by omega) hlt hb
      | ct ρ2 st2 => rw [q] at hb; exact ih (i + 1) ρ2 st2 (by omega) hlt hb
      | brk ρ2 st2 => rw [q] at hb; exact hb
      | ret w st2 => rw [q] at hb; exact hb
      | exc x ρ2 st2 => rw [q] at hb; exact hb
      | bad => rw [q] at hb; exact hb
  have z := key _ 0 ρ st rfl (Nat.zero_le _) h
  rwa [List.drop_zero] at z
end
end Ab

set_option Elab.async false
set_option linter.all false
set_option maxRecDepth 100000
set_option maxHeartbeats 1000000
/-! Ab: the laws' draws (_law_mix, _law_next of k41 to k48), once for all. -/
namespace Ab
open PySem PySem.Spec PyProof.Rows L2
/-- all cells but those of S are as they were -/
def Keep (S : List Nat) (st st' : Store) : Prop := st.length ≤ st'.length ∧ ∀ i : Nat, i < st.length → i ∉ S → st'[i]? = st[i]?
theorem Keep.refl {S : List Nat} {st : Store} : Keep S st st := ⟨Nat.le_refl _, fun _ _ _ => rfl⟩
theorem Keep.trans {S : List Nat} {a b c : Store} (h : Keep S a b) (k : Keep S b c) : Keep S a c :=
  ⟨Nat.le_trans h.1 k.1, fun i hi hn => (k.2 i (Nat.lt_of_lt_of_le hi h.1) hn).trans (h.2 i hi hn)⟩
theorem Keep.push {S : List Nat} {st : Store} {c : Cell} : Keep S st (st ++ [c]) := ⟨by simp, fun i hi _ => List.getElem?_append_left hi⟩
theorem Keep.set {S : List Nat} {st : Store} {n : Nat} {c : Cell} (h : n ∈ S) : Keep S st (st.set n c) := ⟨by simp, fun i _ hn => List.getElem?_set_ne fun e => hn (by rw [← e]; exact h)⟩
theorem Keep.mono {S S' : List Nat} {a b : Store} (h : Keep S a b) (k : ∀ i ∈ S, i ∈ S') : Keep S' a b := ⟨h.1, fun i hi hn => h.2 i hi fun z => hn (k i z)⟩
theorem Keep.get {S : List Nat} {a b : Store} (h : Keep S a b) {i : Nat} {c : Cell} (e : a[i]? = some c) (hn : i ∉ S) : b[i]? = some c := (h.2 i (List.getElem?_eq_some_iff.mp e).1 hn).trans e
/-- the draws' state: [mixed, cells, place] at h, the cells at c -/
def Draws (h c : Nat) (st : Store) : Prop := ∃ (a : Int) (cs : List Int) (p : Int), st[h]? = some (.lst [.int a, .ref c, .int p]) ∧ st[c]? = some (.lst (cs.map .int)) ∧ 0 ≤ a ∧ a < 2147483647 ∧ 0 ≤ p ∧ cs.length ≤ 63 ∧ h ≠ c
theorem Draws.keep {S : List Nat} {h c : Nat} {st st' : Store} (d : Draws h c st) (k : Keep S st st') (h1 : h ∉ S) (h2 : c ∉ S) : Draws h c st' := by
  obtain ⟨a, cs, p, e1, e2, r⟩ := d
  exact ⟨a, cs, p, k.get e1 h1, k.get e2 h2, r⟩
def mNext : MS := sSeq (sSet 2 (mBin vIx (mBin vAdd (mBin vIx (mVar 0) (mC (.int 1))) (mLst (aCons (mC (.int 0)) (aNil)))) (mBin vMod (mBin vIx (mVar 0) (mC (.int 2))) (mApp bMax2 (aCons (mC (.int 1)) (aCons (mApp bLen (aCons (mBin vIx (mVar 0) (mC (.int 1))) (aNil))) (aNil))))))) (sSeq (sIf (mTest (mBin vGe (mVar 2) (mBin vPow (mC (.int 10)) (mC (.int 18))))) (sSeq (sAsg (mBin vDiv (mVar 2) (mVar 1)) (gSubL (mBin vIx (mVar 0) (mC (.int 1))) (mBin vMod (mBin vIx (mVar 0) (mC (.int 2))) (mApp bLen (aCons (mBin vIx (mVar 0) (mC (.int 1))) (aNil)))))) (sRet (mBin vMod (mVar 2) (mVar 1)))) (sNext)) (sSeq (sAsg (mBin vMod (mBin vAdd (mBin vAdd (mBin vMul (mBin vIx (mVar 0) (mC (.int 0))) (mC (.int 48271))) (mBin vMul (mVar 2) (mC (.int 69621)))) (mC (.int 11))) (mC (.int 2147483647))) (gSubL (mVar 0) (mC (.int 0)))) (sSeq (sAsg (mBin vAdd (mBin vIx (mVar 0) (mC (.int 2))) (mC (.int 1))) (gSubL (mVar 0) (mC (.int 2)))) (sRet (mBin vMod (mBin vDiv (mBin vIx (mVar 0) (mC (.int 0))) (mC (.int 7))) (mVar 1))))))
theorem ix_ref {n : Nat} {i : Int} {xs : List Val} {w : Val} {st : Store} {Q : Val → Store → Prop} {X : Exc → Store → Prop} (h : seqAt st n = some xs) (hi : L2.atI xs i = some w) : WpR (vIx (.ref n) (.int i) st) Q X = Q w st := by
  dsimp only [vIx]; rw [h]; dsimp only; rw [hi]; rfl
theorem seqAt_lst {st : Store} {n : Nat} {xs : List Val} (h : st[n]? = some (.lst xs)) : seqAt st n = some xs := by unfold seqAt; rw [h]
theorem w_asg {m : ME} {g : MG} {ρ : Slots} {st : Store} {W : Wish} : WpO (sAsg m g ρ st) W = WpR (m ρ st) (fun w st1 => match g w ρ st1 with | some (ρ', st') => W.nx ρ' st' | none => False) W.ex := by
  unfold sAsg; rw [wp_toO]; congr 1; funext w st1
  split <;> rename_i q <;> first | rfl | (rw [q] <;> rfl)
/-- a list is laid -/
theorem lst_push {xs : List Val} {st : Store} {P : Nat → Store → Prop} (h : ∀ (n : Nat) (s' : Store), s'[n]? = some (.lst xs) → Keep [] st s' → st.length ≤ n → P n s') : P st.length (st ++ [.lst xs]) := h _ _ (by simp) .push (Nat.le_refl _)
theorem add_lst {n m : Nat} {xs ys : List Val} {st : Store} {Q : Val → Store → Prop} {X : Exc → Store → Prop} (h1 : st[n]? = some (.lst xs)) (h2 : st[m]? = some (.lst ys)) (hl : xs.length + ys.length ≤ 100000)
    (hq : ∀ (k : Nat) (s' : Store), s'[k]? = some (.lst (xs ++ ys)) → Keep [] st s' → st.length ≤ k → Q (.ref k) s') : WpR (vAdd (.ref n) (.ref m) st) Q X := by
  dsimp only [vAdd]
  rw [h1, h2]
  dsimp only
  rw [if_pos (by rw [sizeLine_eq]; omega), wp_ok]
  exact lst_push (P := fun k s => Q (.ref k) s) hq
theorem Keep.nil {S : List Nat} {a b : Store} (h : Keep [] a b) : Keep S a b := h.mono fun _ z => by cases z
theorem g_subL {mo mi : ME} {w : Val} {ρ : Slots} {st : Store} {n j : Nat} {k : Int} {xs : List Val} (h1 : mo ρ st = .ok (.ref n) st) (h2 : mi ρ st = .ok (.int k) st) (h3 : st[n]? = some (.lst xs)) (h4 : L2.ixN xs.length k = some j) : gSubL mo mi w ρ st = some (ρ, st.set n (.lst (xs.set j w))) := by
  unfold gSubL
  rw [h1]; dsimp only
  rw [h2]; dsimp only
  rw [h3]; dsimp only
  rw [h4]
theorem ev_ix {mo : ME} {n : Nat} {i : Int} {xs : List Val} {w : Val} {ρ : Slots} {st : Store} (h1 : mo ρ st = .ok (.ref n) st) (h : seqAt st n = some xs) (hi : L2.atI xs i = some w) : mBin vIx mo (mC (.int i)) ρ st = .ok w st := by
  unfold mBin
  rw [h1]
  dsimp only [R.bind, mC, vIx]
  rw [h]; dsimp only; rw [hi]
theorem ev_bin {g : Val → Val → Store → R Val} {a b : ME} {x y : Val} {ρ : Slots} {st s1 s2 : Store} (h1 : a ρ st = .ok x s1) (h2 : b ρ s1 = .ok y s2) : mBin g a b ρ st = g x y s2 := by
  unfold mBin; rw [h1]; dsimp only [R.bind]; rw [h2]
theorem ev_one {m : ME} {x : Val} {ρ : Slots} {st s1 : Store} (h : m ρ st = .ok x s1) : aCons m aNil ρ st = .ok [x] s1 := by
  unfold aCons; rw [h]
theorem ev_app {f : MF} {t : MA} {xs : List Val} {ρ : Slots} {st s1 : Store} (h : t ρ st = .ok xs s1) : mApp f t ρ st = f xs s1 := by
  unfold mApp; rw [h]
theorem vmul_r {i j : Int} {st : Store} (h : -(2 ^ 64) < j ∧ j < 2 ^ 64) : vMul (.int i) (.int j) st = .ok (.int (i * j)) st := by
  dsimp only [vMul]
  rw [if_pos]
  unfold mulOk
  rw [decide_eq_true h.1, decide_eq_true h.2]
  simp
theorem vmod_i {i j : Int} {st : Store} (h : 0 < j) : vMod (.int i) (.int j) st = .ok (.int (i % j)) st := by dsimp only [vMod]; rw [if_pos h]
theorem vdiv_i {i j : Int} {st : Store} (h : 0 < j) (h1 : j < 2 ^ 100) : vDiv (.int i) (.int j) st = .ok (.int (i / j)) st := by dsimp only [vDiv]; rw [if_pos ⟨h, h1⟩]
theorem next_spec {h c : Nat} {st : Store} {lim : Int} (d : Draws h c st) (h0 : 0 < lim) (h1 : lim < 2 ^ 64) :
    WpR (defM 2 1 mNext [.ref h, .int lim] st) (fun v st' => (∃ r : Int, v = .int r ∧ 0 ≤ r ∧ r < lim) ∧ Draws h c st' ∧ Keep [h, c] st st') (fun _ _ => False) := by
  obtain ⟨a, cs, p, e1, e2, ha0, ha1, hp, hl, hne⟩ := d
  rw [wp_def (n := 2) (ws := [Val.ref h, Val.int lim]) rfl]
  have hh := seqAt_lst e1
  have hcs := seqAt_lst e2
  unfold mNext
  simp only [w_seq, w_set, w_bin, List.map_cons, List.map_nil, List.cons_append, List.nil_append, List.replicate]
  rw [w_var (v := .ref h) rfl, w_C, ix_ref hh (w := .ref c) rfl]
  rw [w_lst, w_aCons, w_C, w_aNil]
  refine ⟨by show 1 ≤ sizeLine; rw [sizeLine_eq]; omega, ?_⟩
  refine lst_push (P := fun n s => WpR (vAdd (.ref c) (.ref n) s) _ _) fun n1 s1 g1 k1 _ => ?_
  have e1' := k1.get e1 (by simp)
  have e2' := k1.get e2 (by simp)
  refine add_lst e2' g1 (by simp; omega) fun n2 s2 g2 k2 _ => ?_
  have k := k1.trans k2
  have e1'' := k2.get e1' (by simp)
  have e2'' := k2.get e2' (by simp)
  have hh2 := seqAt_lst e1''
  have hc2 := seqAt_lst e2''
  have hg2 := seqAt_lst g2
  rw [w_var (v := .ref h) rfl, w_C, ix_ref hh2 (w := .int p) rfl]
  rw [w_app, w_aCons, w_C, w_aCons, w_app, w_aCons, w_bin, w_var (v := .ref h) rfl, w_C, ix_ref hh2 (w := .ref c) rfl, w_aNil]
  have hlen : bLen [.ref c] s2 = .ok (.int cs.length) s2 := by dsimp only [bLen]; rw [hc2]; simp
  rw [hlen, wp_ok, w_aNil]
  have hm : 0 < max (1 : Int) cs.length := by omega
  have hmod : vMod (.int p) (.int (max 1 (cs.length : Int))) s2 = .ok (.int (p % max 1 (cs.length : Int))) s2 := by dsimp only [vMod]; rw [if_pos hm]
  dsimp only [bMax2]
  rw [wp_ok, hmod, wp_ok]
  -- the cell
  have r0 : 0 ≤ p % max 1 (cs.length : Int) := Int.emod_nonneg _ (by omega)
  have r1 : p % max 1 (cs.length : Int) < max 1 (cs.length : Int) := Int.emod_lt_of_pos _ hm
  obtain ⟨z, hz, hz0⟩ : ∃ z : Int, L2.atI (cs.map Val.int ++ [Val.int 0]) (p % max 1 (cs.length : Int)) = some (.int z) ∧ (cs = [] → z = 0) := by
    have hr : (p % max 1 (cs.length : Int)).toNat < (cs ++ [0]).length := by simp; omega
    refine ⟨(cs ++ [0])[(p % max 1 (cs.length : Int)).toNat], ?_, fun e => ?_⟩
    · unfold L2.atI L2.ixN
      rw [if_pos r0, if_pos (by simp; omega), Option.bind_some]
      rw [show cs.map Val.int ++ [Val.int 0] = (cs ++ [0]).map Val.int by simp, List.getElem?_map, List.getElem?_eq_getElem hr]
      rfl
    · subst e
      simp
  rw [ix_ref hg2 hz]
  show WpO (sIf _ _ _ [some (.ref h), some (.int lim), some (.int z)] s2) _
  rw [w_sif, w_test, w_bin, w_var (v := .int z) rfl, w_bin, w_C, w_C]
  have hpow : vPow (.int 10) (.int 18) s2 = .ok (.int (10 ^ 18)) s2 := by dsimp only [vPow]; rw [if_pos (by decide)]; rfl
  rw [hpow, wp_ok]
  show (if decide ((10 : Int) ^ 18 ≤ z) = true then _ else _)
  by_cases hb : (10 : Int) ^ 18 ≤ z
  · rw [if_pos (by simpa using hb)]
    have hcs0 : cs ≠ [] := fun e => by have := hz0 e; subst this; exact absurd hb (by decide)
    have hl0 : 0 < cs.length := List.length_pos_iff.mpr hcs0
    rw [w_seq, w_asg, w_bin, w_var (v := .int z) rfl, w_var (v := .int lim) rfl]
    have hdiv : vDiv (.int z) (.int lim) s2 = .ok (.int (z / lim)) s2 := by dsimp only [vDiv]; rw [if_pos ⟨h0, by omega⟩]
    rw [hdiv, wp_ok]
    have v0 : mVar 0 [some (.ref h), some (.int lim), some (.int z)] s2 = .ok (.ref h) s2 := rfl
    have o1 : mBin vIx (mVar 0) (mC (.int 1)) [some (.ref h), some (.int lim), some (.int z)] s2 = .ok (.ref c) s2 := ev_ix v0 hh2 rfl
    have o2 : mBin vIx (mVar 0) (mC (.int 2)) [some (.ref h), some (.int lim), some (.int z)] s2 = .ok (.int p) s2 := ev_ix v0 hh2 rfl
    have o3 : mBin vMod (mBin vIx (mVar 0) (mC (.int 2))) (mApp bLen (aCons (mBin vIx (mVar 0) (mC (.int 1))) aNil)) [some (.ref h), some (.int lim), some (.int z)] s2 = .ok (.int (p % cs.length)) s2 := by
      rw [ev_bin o2 ((ev_app (ev_one o1)).trans hlen)]
      exact vmod_i (by omega)
    have q0 : 0 ≤ p % (cs.length : Int) := Int.emod_nonneg _ (by omega)
    have q1 : p % (cs.length : Int) < cs.length := Int.emod_lt_of_pos _ (by omega)
    have o4 : L2.ixN (cs.map Val.int).length (p % cs.length) = some (p % (cs.length : Int)).toNat := by
      unfold L2.ixN
      rw [if_pos q0, if_pos (by simpa using q1)]
    rw [g_subL o1 o3 e2'' o4]
    dsimp only
    rw [w_ret, w_bin, w_var (v := .int z) rfl, w_var (v := .int lim) rfl, vmod_i h0, wp_ok]
    have hc : c < s2.length := (List.getElem?_eq_some_iff.mp e2'').1
    refine ⟨⟨_, rfl, Int.emod_nonneg _ (by omega), Int.emod_lt_of_pos _ h0⟩, ⟨a, cs.set (p % (cs.length : Int)).toNat (z / lim), p, ?_, ?_, ha0, ha1, hp, by simpa using hl, hne⟩, ?_⟩
    · rw [List.getElem?_set_ne (Ne.symm hne)]; exact e1''
    · rw [List.getElem?_set_self hc, List.map_set]
    · exact k.nil.trans (.set (by simp))
  · rw [if_neg (by simpa using hb)]
    show WpO (sNext [some (.ref h), some (.int lim), some (.int z)] s2) _
    rw [w_next]
    show WpO (sAsg _ _ [some (.ref h), some (.int lim), some (.int z)] s2) _
    have v0 : ∀ s, mVar 0 [some (.ref h), some (.int lim), some (.int z)] s = .ok (.ref h) s := fun _ => rfl
    rw [w_asg, w_bin, w_bin, w_bin, w_bin, w_bin, w_var (v := .ref h) rfl, w_C, ix_ref hh2 (w := .int a) rfl, w_C, vmul_r (by decide), wp_ok, w_bin, w_var (v := .int z) rfl, w_C, vmul_r (by decide), wp_ok]
    rw [show ∀ i j s, vAdd (.int i) (.int j) s = .ok (.int (i + j)) s from fun _ _ _ => rfl, wp_ok, w_C, show ∀ i j s, vAdd (.int i) (.int j) s = .ok (.int (i + j)) s from fun _ _ _ => rfl, wp_ok, w_C, vmod_i (by decide), wp_ok]
    rw [g_subL (v0 s2) rfl e1'' (j := 0) rfl]
    dsimp only
    generalize ha' : (a * 48271 + z * 69621 + 11) % 2147483647 = a'
    have b0 : 0 ≤ a' := by rw [← ha']; exact Int.emod_nonneg _ (by decide)
    have b1 : a' < 2147483647 := by rw [← ha']; exact Int.emod_lt_of_pos _ (by decide)
    have hhl : h < s2.length := (List.getElem?_eq_some_iff.mp e1'').1
    have e3 : (s2.set h (.lst ([Val.int a, .ref c, .int p].set 0 (.int a'))))[h]? = some (.lst [.int a', .ref c, .int p]) := by rw [List.getElem?_set_self hhl]; rfl
    have e3c : (s2.set h (.lst ([Val.int a, .ref c, .int p].set 0 (.int a'))))[c]? = some (.lst (cs.map .int)) := by rw [List.getElem?_set_ne hne]; exact e2''
    have k3 : Keep [h, c] st (s2.set h (.lst ([Val.int a, .ref c, .int p].set 0 (.int a')))) := k.nil.trans (.set (by simp))
    generalize s2.set h (.lst ([Val.int a, .ref c, .int p].set 0 (.int a'))) = s3 at *
    have hh3 := seqAt_lst e3
    rw [w_asg, w_bin, w_bin, w_var (v := .ref h) rfl, w_C, ix_ref hh3 (w := .int p) rfl, w_C, show ∀ i j s, vAdd (.int i) (.int j) s = .ok (.int (i + j)) s from fun _ _ _ => rfl, wp_ok]
    rw [g_subL (v0 s3) rfl e3 (j := 2) rfl]
    dsimp only
    have hhl3 : h < s3.length := (List.getElem?_eq_some_iff.mp e3).1
    have e4 : (s3.set h (.lst ([Val.int a', .ref c, .int p].set 2 (.int (p + 1)))))[h]? = some (.lst [.int a', .ref c, .int (p + 1)]) := by rw [List.getElem?_set_self hhl3]; rfl
    have e4c : (s3.set h (.lst ([Val.int a', .ref c, .int p].set 2 (.int (p + 1)))))[c]? = some (.lst (cs.map .int)) := by rw [List.getElem?_set_ne hne]; exact e3c
    have k4 : Keep [h, c] st (s3.set h (.lst ([Val.int a', .ref c, .int p].set 2 (.int (p + 1))))) := k3.trans (.set (by simp))
    generalize s3.set h (.lst ([Val.int a', .ref c, .int p].set 2 (.int (p + 1)))) = s4 at *
    have hh4 := seqAt_lst e4
    rw [w_ret, w_bin, w_bin, w_bin, w_var (v := .ref h) rfl, w_C, ix_ref hh4 (w := .int a') rfl, w_C, vdiv_i (by decide) (by decide), wp_ok, w_var (v := .int lim) rfl, vmod_i h0, wp_ok]
    exact ⟨⟨_, rfl, Int.emod_nonneg _ (by omega), Int.emod_lt_of_pos _ h0⟩, ⟨a', cs, p + 1, e4, e4c, b0, b1, by omega, hl, hne⟩, k4⟩
end Ab
namespace Ab
open PySem PySem.Spec PyProof.Rows L2
noncomputable def mMix : MS := sSeq (sSet 2 (mVar 1)) (sSeq (sFor (iSeqM (mVar 0)) (gSet 3) (sSet 2 (mBin vMod (mBin vAdd (mBin vAdd (mBin vMul (mVar 2) (mC (.int 48271))) (mBin vMod (mVar 3) (mC (.int 2147483629)))) (mC (.int 1))) (mC (.int 2147483647))))) (sRet (mLst (aCons (mVar 2) (aCons (mApp bList (aCons (mVar 0) (aNil))) (aCons (mC (.int 0)) (aNil)))))))
theorem mix_spec {n : Nat} {st : Store} {ns : List Int} {seed : Int} (hs : seqAt st n = some (ns.map .int)) (hl : ns.length ≤ 63) (h0 : 0 ≤ seed) (h1 : seed < 2147483647) :
    WpR (defM 2 2 mMix [.ref n, .int seed] st) (fun v st' => ∃ h c, v = .ref h ∧ Draws h c st' ∧ Keep [] st st') (fun _ _ => False) := by
  rw [wp_def (n := 2) (ws := [Val.ref n, Val.int seed]) rfl]
  show WpO (mMix [some (.ref n), some (.int seed), none, none] st) _
  unfold mMix
  rw [w_seq, w_set, w_var (v := .int seed) rfl]
  show WpO (sSeq _ _ [some (.ref n), some (.int seed), some (.int seed), none] st) _
  rw [w_seq, w_for]
  have hit : iSeqM (mVar 0) [some (.ref n), some (.int seed), some (.int seed), none] st = .ok (ns.map .int, fun st' => seqAt st' n = some (ns.map .int)) st := by
    have v0 : mVar 0 [some (.ref n), some (.int seed), some (.int seed), none] st = .ok (.ref n) st := rfl
    unfold iSeqM
    rw [v0]
    dsimp only [R.bind, itemsOf]
    rw [hs]
  rw [hit, wp_ok]
  refine forM_wp (fun _ ρ s => s = st ∧ ∃ (x : Int) (y : Option Val), ρ = [some (.ref n), some (.int seed), some (.int x), y] ∧ 0 ≤ x ∧ x < 2147483647) (fun i ρ s _ ⟨e, _⟩ => by subst e; exact hs) ?_ ?_ ⟨rfl, seed, none, rfl, h0, h1⟩
  · rintro i w ρ s hi ⟨rfl, x, y, rfl, x0, x1⟩
    rw [List.getElem?_map] at hi
    cases e : ns[i]? with
    | none => rw [e] at hi; cases hi
    | some z =>
      rw [e] at hi
      cases hi
      refine ⟨_, _, rfl, ?_⟩
      show WpO (sSet _ _ [some (.ref n), some (.int seed), some (.int x), some (.int z)] s) _
      rw [w_set, w_bin, w_bin, w_bin, w_bin, w_var (v := .int x) rfl, w_C, vmul_r (by decide), wp_ok, w_bin, w_var (v := .int z) rfl, w_C, vmod_i (by decide), wp_ok]
      rw [show ∀ i j s, vAdd (.int i) (.int j) s = .ok (.int (i + j)) s from fun _ _ _ => rfl, wp_ok, w_C, show ∀ i j s, vAdd (.int i) (.int j) s = .ok (.int (i + j)) s from fun _ _ _ => rfl, wp_ok, w_C, vmod_i (by decide), wp_ok]
      exact ⟨rfl, _, _, rfl, Int.emod_nonneg _ (by decide), Int.emod_lt_of_pos _ (by decide)⟩
  · rintro ρ s ⟨rfl, x, y, rfl, x0, x1⟩
    show WpO (sRet _ [some (.ref n), some (.int seed), some (.int x), y] s) _
    rw [w_ret, w_lst, w_aCons, w_var (v := .int x) rfl, w_aCons, w_app, w_aCons, w_var (v := .ref n) rfl, w_aNil]
    dsimp only [bList]
    rw [hs]
    dsimp only
    rw [wp_ok]
    rw [w_aCons, w_C, w_aNil]
    have k1 : Keep [] s (s ++ [Cell.lst (ns.map .int)]) := .push
    have g1 : (s ++ [Cell.lst (ns.map .int)])[s.length]? = some (.lst (ns.map .int)) := by simp
    generalize s ++ [Cell.lst (ns.map .int)] = s1 at *
    generalize s.length = c at *
    refine ⟨by show 3 ≤ sizeLine; rw [sizeLine_eq]; omega, ?_⟩
    refine lst_push (P := fun k t => ∃ h c, Val.ref k = .ref h ∧ Draws h c t ∧ Keep [] s t) fun h s2 g2 k2 hh => ?_
    have hcl : c < s1.length := (List.getElem?_eq_some_iff.mp g1).1
    exact ⟨h, c, rfl, ⟨x, ns, 0, g2, k2.get g1 (by simp), x0, x1, Int.le_refl _, hl, by omega⟩, k1.trans k2⟩
end Ab

set_option Elab.async false
set_option linter.all false
set_option maxRecDepth 100000
/-! Ab: the combinators once more, sealed (not reducible), for the plain laws. -/
namespace Ab
open PySem PySem.Spec
def mNeg (m : ME) : ME := fun ρ st => (m ρ st).bind vNeg
end Ab
namespace Se
noncomputable def mVar := @Ab.mVar
noncomputable def mC := @Ab.mC
noncomputable def mBin := @Ab.mBin
noncomputable def mTest := @Ab.mTest
noncomputable def mChain := @Ab.mChain
noncomputable def tAndM := @Ab.tAndM
noncomputable def tOrM := @Ab.tOrM
noncomputable def tNotM := @Ab.tNotM
noncomputable def mAnd := @Ab.mAnd
noncomputable def mOr := @Ab.mOr
noncomputable def mNot := @Ab.mNot
noncomputable def mIf := @Ab.mIf
noncomputable def aNil := @Ab.aNil
noncomputable def aCons := @Ab.aCons
noncomputable def mTup := @Ab.mTup
noncomputable def mLst := @Ab.mLst
noncomputable def mApp := @Ab.mApp
noncomputable def mCut := @Ab.mCut
noncomputable def oNone := @Ab.oNone
noncomputable def oSome := @Ab.oSome
noncomputable def sNext := @Ab.sNext
noncomputable def sSeq := @Ab.sSeq
noncomputable def sSet := @Ab.sSet
noncomputable def sRet := @Ab.sRet
noncomputable def sDrop := @Ab.sDrop
noncomputable def sIf := @Ab.sIf
noncomputable def sAug := @Ab.sAug
noncomputable def sBreak := @Ab.sBreak
noncomputable def sCont := @Ab.sCont
noncomputable def gSet := @Ab.gSet
noncomputable def gsNil := @Ab.gsNil
noncomputable def gsCons := @Ab.gsCons
noncomputable def gTupM := @Ab.gTupM
noncomputable def sAsg := @Ab.sAsg
noncomputable def sPar := @Ab.sPar
noncomputable def sFor := @Ab.sFor
noncomputable def iRange1 := @Ab.iRange1
noncomputable def iRange2 := @Ab.iRange2
noncomputable def mFld := @Ab.mFld
noncomputable def sFldM := @Ab.sFldM
noncomputable def sFldAugM := @Ab.sFldAugM
noncomputable def mMeth := @Ab.mMeth
noncomputable def mProp := @Ab.mProp
noncomputable def vMake := @Ab.vMake
noncomputable def iEnumM := @Ab.iEnumM
noncomputable def iZipM := @Ab.iZipM
noncomputable def iSeqM := @Ab.iSeqM
noncomputable def iStrM := @Ab.iStrM
noncomputable def mYes := @Ab.mYes
noncomputable def mLc := @Ab.mLc
noncomputable def mBM := @Ab.mBM
noncomputable def gSubL := @Ab.gSubL
noncomputable def mIsi := @Ab.mIsi
noncomputable def sRaise := @Ab.sRaise
noncomputable def sRaise0 := @Ab.sRaise0
noncomputable def aStar := @Ab.aStar
noncomputable def mOp := @Ab.mOp
noncomputable def mLen := @Ab.mLen
noncomputable def mDget := @Ab.mDget
noncomputable def gSubD := @Ab.gSubD
noncomputable def mDisp := @Ab.mDisp
noncomputable def mItems := @Ab.mItems
noncomputable def mDc := @Ab.mDc
noncomputable def gFld := @Ab.gFld
noncomputable def mOutcome := @Ab.mOutcome
noncomputable def mBad := @Ab.mBad
noncomputable def sBad := @Ab.sBad
noncomputable def mNeg := @Ab.mNeg
end Se

set_option Elab.async false
set_option linter.all false
set_option maxRecDepth 100000
set_option maxHeartbeats 1000000
/-! Ab: wishes on sealed mirrors, backward: one rule for each combinator. -/
namespace Ab
open PySem PySem.Spec PyProof.Rows L2
/-- a target's wish -/
def WpG (r : Option (Slots × Store)) (n : Slots → Store → Prop) : Prop := match r with
  | some (ρ, st) => n ρ st
  | none => False
/-- what an optional chain of comparisons goes on with -/
def Chk (z : Val) (P N : Prop) : Prop := match z with
  | .bl true => P
  | .bl false => N
  | _ => False
/-- a cell is laid -/
def New (d : Cell) (st : Store) (P : Nat → Store → Prop) : Prop := ∀ (n : Nat) (s : Store), s[n]? = some d → Keep [] st s → st.length ≤ n → P n s
/-- a cell is written -/
def Wr (n : Nat) (d : Cell) (st : Store) (P : Store → Prop) : Prop := ∀ s : Store, s[n]? = some d → Keep [n] st s → P s
/-- a truth that is worked out -/
def TruB (b : Bool) (P : Bool → Prop) : Prop := P b
/-- a slot is set -/
def NF (ρ : Slots) (i : Nat) (x : Option Val) (n : Slots → Prop) : Prop := n (ρ.set i x)
theorem New.at {d : Cell} {st : Store} {P : Nat → Store → Prop} (h : New d st P) : P st.length (st ++ [d]) := h _ _ (by simp) .push (Nat.le_refl _)
theorem Wr.at {n : Nat} {c d : Cell} {st : Store} {P : Store → Prop} (h : Wr n d st P) (e : st[n]? = some c) : P (st.set n d) := h _ (by rw [List.getElem?_set_self (List.getElem?_eq_some_iff.mp e).1]) (.set (by simp))
end Ab
namespace Vc
open PySem PySem.Spec PyProof.Rows L2
open Ab (Val Cell Store Slots R O ME MT MA MS MF MG MGs MI MO Chk Wish Exc seqAt Keep vIx vFld vAdd New Wr NF TruB)
@[irreducible] def WpR {α : Type} (r : R α) (Q : α → Store → Prop) (X : Exc → Store → Prop) : Prop := Ab.WpR r Q X
@[irreducible] def WpO (o : O) (W : Wish) : Prop := Ab.WpO o W
@[irreducible] def WpG (r : Option (Slots × Store)) (n : Slots → Store → Prop) : Prop := Ab.WpG r n
theorem uR {α : Type} {r : R α} {Q : α → Store → Prop} {X : Exc → Store → Prop} : WpR r Q X = Ab.WpR r Q X := by unfold WpR; rfl
theorem uO {o : O} {W : Wish} : WpO o W = Ab.WpO o W := by unfold WpO; rfl
theorem uG {r : Option (Slots × Store)} {n : Slots → Store → Prop} : WpG r n = Ab.WpG r n := by unfold WpG; rfl
section
variable {α : Type} {Q : Val → Store → Prop} {QB : Bool → Store → Prop} {QL : List Val → Store → Prop} {QO : Option Int → Store → Prop} {QA : α → Store → Prop} {X : Exc → Store → Prop} {st : Store} {ρ : Slots} {a b c m : ME} {t u : MT} {ta : MA} {s1 s2 : MS} {n : Slots → Store → Prop} {r : Val → Store → Prop} {k l : Slots → Store → Prop}
theorem b_ok {x : α} (h : QA x st) : WpR (.ok x st) QA X := by
  simp only [uR, uO, uG] at *
  exact h
theorem b_ifok {p : Prop} [Decidable p] {x : α} {s' : Store} (h : p) (q : QA x s') : WpR (if p then .ok x s' else .bad) QA X := by
  simp only [uR, uO, uG] at *
  rw [if_pos h]; exact q
theorem b_var {i : Nat} {v : Val} (h : ρ[i]? = some (some v)) (q : Q v st) : WpR (Se.mVar i ρ st) Q X := by
  simp only [uR, uO, uG] at *
  exact (Ab.w_var h).mpr q
theorem b_C {v : Val} (q : Q v st) : WpR (Se.mC v ρ st) Q X := by
  simp only [uR, uO, uG] at *
  exact q
theorem b_bin {g : Val → Val → Store → R Val} (q : WpR (a ρ st) (fun x st1 => WpR (b ρ st1) (fun y st2 => WpR (g x y st2) Q X) X) X) : WpR (Se.mBin g a b ρ st) Q X := by
  simp only [uR, uO, uG] at *
  exact Ab.w_bin.mpr q
theorem b_test (q : WpR (m ρ st) (fun x st1 => WpR (Ab.asB x st1) QB X) X) : WpR (Se.mTest m ρ st) QB X := by
  simp only [uR, uO, uG] at *
  exact Ab.w_test.mpr q
theorem b_not (q : WpR (t ρ st) (fun k st1 => QB (!k) st1) X) : WpR (Se.tNotM t ρ st) QB X := by
  simp only [uR, uO, uG] at *
  exact Ab.w_not.mpr q
theorem b_tand (q : WpR (t ρ st) (fun k st1 => if k = true then WpR (u ρ st1) QB X else QB false st1) X) : WpR (Se.tAndM t u ρ st) QB X := by
  simp only [uR, uO, uG] at *
  show Ab.WpR (Ab.tAndM t u ρ st) QB X
  unfold Ab.tAndM; rw [Ab.wp_bind]
  refine Ab.WpR.mono q (fun k s h => ?_) fun _ _ h => h
  cases k <;> exact h
theorem b_tor (q : WpR (t ρ st) (fun k st1 => if k = true then QB true st1 else WpR (u ρ st1) QB X) X) : WpR (Se.tOrM t u ρ st) QB X := by
  simp only [uR, uO, uG] at *
  show Ab.WpR (Ab.tOrM t u ρ st) QB X
  unfold Ab.tOrM; rw [Ab.wp_bind]
  refine Ab.WpR.mono q (fun k s h => ?_) fun _ _ h => h
  cases k <;> exact h
theorem b_and (q : WpR (a ρ st) (fun x st1 => Chk x (WpR (b ρ st1) Q X) (Q (.bl false) st1)) X) : WpR (Se.mAnd a b ρ st) Q X := by
  simp only [uR, uO, uG] at *
  show Ab.WpR (Ab.mAnd a b ρ st) Q X
  unfold Ab.mAnd; rw [Ab.wp_bind]
  refine Ab.WpR.mono q (fun k s h => ?_) fun _ _ h => h
  unfold Chk at h
  split at h <;> first | exact h | exact h.elim
theorem b_or (q : WpR (a ρ st) (fun x st1 => Chk x (Q (.bl true) st1) (WpR (b ρ st1) Q X)) X) : WpR (Se.mOr a b ρ st) Q X := by
  simp only [uR, uO, uG] at *
  show Ab.WpR (Ab.mOr a b ρ st) Q X
  unfold Ab.mOr; rw [Ab.wp_bind]
  refine Ab.WpR.mono q (fun k s h => ?_) fun _ _ h => h
  unfold Chk at h
  split at h <;> first | exact h | exact h.elim
theorem b_mnot (q : WpR (a ρ st) (fun x st1 => Chk x (Q (.bl false) st1) (Q (.bl true) st1)) X) : WpR (Se.mNot a ρ st) Q X := by
  simp only [uR, uO, uG] at *
  show Ab.WpR (Ab.mNot a ρ st) Q X
  unfold Ab.mNot; rw [Ab.wp_bind]
  refine Ab.WpR.mono q (fun k s h => ?_) fun _ _ h => h
  unfold Chk at h
  split at h <;> first | exact h | exact h.elim
theorem b_chain {g g' : Val → Val → Store → R Val} (q : WpR (a ρ st) (fun x st1 => WpR (b ρ st1) (fun y st2 => WpR (g x y st2) (fun z st3 => Chk z (WpR (c ρ st3) (fun w st4 => WpR (g' y w st4) Q X) X) (Q (.bl false) st3)) X) X) X) : WpR (Se.mChain g g' a b c ρ st) Q X := by
  simp only [uR, uO, uG] at *
  show Ab.WpR (Ab.mChain g g' a b c ρ st) Q X
  unfold Ab.mChain; simp only [Ab.wp_bind]
  refine Ab.WpR.mono q (fun x s h => ?_) fun _ _ h => h
  refine Ab.WpR.mono h (fun y s h => ?_) fun _ _ h => h
  refine Ab.WpR.mono h (fun z s h => ?_) fun _ _ h => h
  unfold Chk at h
  split at h <;> first | (rw [Ab.wp_bind]; exact h) | exact h | exact h.elim
/-- i <= j <= k of ints, the last expression told whatever the first says -/
theorem b_chainI (q : WpR (a ρ st) (fun x st1 => WpR (b ρ st1) (fun y st2 => WpR (c ρ st2) (fun w st3 => ∃ i j k, x = .int i ∧ y = .int j ∧ w = .int k ∧ st3 = st2 ∧ Q (.bl (decide (i ≤ j ∧ j ≤ k))) st2) fun _ _ => False) X) X) : WpR (Se.mChain Ab.vLe Ab.vLe a b c ρ st) Q X := by
  refine b_chain ?_
  simp only [uR] at *
  refine Ab.WpR.mono q (fun x s h => ?_) fun _ _ h => h
  refine Ab.WpR.mono h (fun y s h => ?_) fun _ _ h => h
  cases hc : c ρ s with
  | bad => rw [hc] at h; exact h.elim
  | exc e s' => rw [hc] at h; exact h.elim
  | ok w s' =>
    rw [hc] at h
    obtain ⟨i, j, k, rfl, rfl, rfl, rfl, h⟩ := h
    show Chk (.bl (decide (i ≤ j))) _ _
    by_cases q : i ≤ j
    · rw [decide_eq_true q]
      simp only [q, true_and] at h
      show Ab.WpR (c ρ s') _ X
      rw [hc]; exact h
    · rw [decide_eq_false q]
      simp only [q, false_and, decide_false] at h
      exact h
theorem b_if (q : WpR (t ρ st) (fun k st1 => if k = true then WpR (a ρ st1) Q X else WpR (b ρ st1) Q X) X) : WpR (Se.mIf t a b ρ st) Q X := by
  simp only [uR, uO, uG] at *
  exact Ab.w_if.mpr q
theorem b_aNil (q : QL [] st) : WpR (Se.aNil ρ st) QL X := by
  simp only [uR, uO, uG] at *
  exact q
theorem b_aCons (q : WpR (m ρ st) (fun x st1 => WpR (ta ρ st1) (fun xs st2 => QL (x :: xs) st2) X) X) : WpR (Se.aCons m ta ρ st) QL X := by
  simp only [uR, uO, uG] at *
  exact Ab.w_aCons.mpr q
theorem b_tup (q : WpR (ta ρ st) (fun xs st1 => xs.length ≤ 100000 ∧ Q (.tup xs) st1) X) : WpR (Se.mTup ta ρ st) Q X := by
  simp only [uR, uO, uG] at *
  exact Ab.w_tup.mpr (Ab.WpR.mono q (fun _ _ h => ⟨Nat.le_trans h.1 (by rw [sizeLine_eq]; omega), h.2⟩) fun _ _ h => h)
theorem b_lst (q : WpR (ta ρ st) (fun xs st1 => xs.length ≤ 100000 ∧ New (.lst xs) st1 fun n s => Q (.ref n) s) X) : WpR (Se.mLst ta ρ st) Q X := by
  simp only [uR, uO, uG] at *
  exact Ab.w_lst.mpr (Ab.WpR.mono q (fun _ _ h => ⟨Nat.le_trans h.1 (by rw [sizeLine_eq]; omega), h.2.at⟩) fun _ _ h => h)
theorem b_app {f : MF} (q : WpR (ta ρ st) (fun xs st1 => WpR (f xs st1) Q X) X) : WpR (Se.mApp f ta ρ st) Q X := by
  simp only [uR, uO, uG] at *
  exact Ab.w_app.mpr q
theorem b_neg (q : WpR (m ρ st) (fun x st1 => WpR (Ab.vNeg x st1) Q X) X) : WpR (Se.mNeg m ρ st) Q X := by
  simp only [uR, uO, uG] at *
  show Ab.WpR ((m ρ st).bind Ab.vNeg) Q X
  rw [Ab.wp_bind]; exact q
theorem b_cut {lo hi : MO} (q : WpR (a ρ st) (fun x st1 => WpR (lo ρ st1) (fun i st2 => WpR (hi ρ st2) (fun j st3 => WpR (Ab.vCut x i j st3) Q X) X) X) X) : WpR (Se.mCut a lo hi ρ st) Q X := by
  simp only [uR, uO, uG] at *
  show Ab.WpR (Ab.mCut a lo hi ρ st) Q X
  unfold Ab.mCut; simp only [Ab.wp_bind]; exact q
theorem b_oNone (q : QO none st) : WpR (Se.oNone ρ st) QO X := by
  simp only [uR, uO, uG] at *
  exact q
theorem b_oSome (q : WpR (m ρ st) (fun x st1 => WpR (Ab.asI x st1) QO X) X) : WpR (Se.oSome m ρ st) QO X := by
  simp only [uR, uO, uG] at *
  show Ab.WpR (Ab.oSome m ρ st) QO X
  unfold Ab.oSome; rw [Ab.wp_bind]; exact q
theorem b_fld {cs : List Nat} {f : Nat} (q : WpR (m ρ st) (fun x st1 => WpR (vFld cs f x st1) Q X) X) : WpR (Se.mFld cs f m ρ st) Q X := by
  simp only [uR, uO, uG] at *
  show Ab.WpR (Ab.mFld cs f m ρ st) Q X
  unfold Ab.mFld; rw [Ab.wp_bind]; exact q
theorem v_fld {cs : List Nat} {f n C : Nat} {fs : List (Nat × Val)} {w : Val} (h : st[n]? = some (.ins C fs)) (hC : C ∈ cs) (hf : fs.lookup f = some w) (q : Q w st) : WpR (vFld cs f (.ref n) st) Q X := by
  simp only [uR, uO, uG] at *
  unfold vFld; dsimp only
  rw [h]; dsimp only; rw [if_pos hC, hf]; exact q
theorem b_BM {T : String} {g : Val → List Val → Store → R Val} (q : WpR (m ρ st) (fun x st1 => Ab.tyOk T x st1 = true ∧ WpR (ta ρ st1) (fun ws st2 => WpR (g x ws st2) Q X) X) X) : WpR (Se.mBM T g m ta ρ st) Q X := by
  simp only [uR, uO, uG] at *
  show Ab.WpR (Ab.mBM T g m ta ρ st) Q X
  unfold Ab.mBM; rw [Ab.wp_bind]
  refine Ab.WpR.mono q (fun x s h => ?_) fun _ _ h => h
  rw [if_pos h.1, Ab.wp_bind]; exact h.2
theorem ty_lst {n : Nat} {xs : List Val} (h : st[n]? = some (.lst xs)) : Ab.tyOk "list" (.ref n) st = true := by
  unfold Ab.tyOk; dsimp only; rw [h]; rfl
theorem b_meth {tbl : List (Nat × MF)} (q : WpR (m ρ st) (fun x st1 => ∃ C mf, Ab.clsAt st1 x = some C ∧ tbl.lookup C = some mf ∧ WpR (ta ρ st1) (fun ws st2 => WpR (mf (x :: ws) st2) Q X) X) X) : WpR (Se.mMeth tbl m ta ρ st) Q X := by
  simp only [uR, uO, uG] at *
  show Ab.WpR (Ab.mMeth tbl m ta ρ st) Q X
  unfold Ab.mMeth; rw [Ab.wp_bind]
  refine Ab.WpR.mono q (fun x s h => ?_) fun _ _ h => h
  obtain ⟨C, mf, h1, h2, h3⟩ := h
  rw [h1]; dsimp only; rw [h2]; dsimp only; rw [Ab.wp_bind]; exact h3
theorem cls_at {n C : Nat} {fs : List (Nat × Val)} (h : st[n]? = some (.ins C fs)) : Ab.clsAt st (.ref n) = some C := by
  unfold Ab.clsAt; dsimp only; rw [h]
theorem b_prop {tbl : List (Nat × MF)} (q : WpR (m ρ st) (fun x st1 => ∃ C mf, Ab.clsAt st1 x = some C ∧ tbl.lookup C = some mf ∧ WpR (mf [x] st1) Q (fun _ _ => False)) X) : WpR (Se.mProp tbl m ρ st) Q X := by
  simp only [uR, uO, uG] at *
  show Ab.WpR (Ab.mProp tbl m ρ st) Q X
  unfold Ab.mProp; rw [Ab.wp_bind]
  refine Ab.WpR.mono q (fun x s h => ?_) fun _ _ h => h
  obtain ⟨C, mf, h1, h2, h3⟩ := h
  rw [h1]; dsimp only; rw [h2]; dsimp only
  cases hm : mf [x] s with
  | bad => rw [hm] at h3; exact h3
  | exc e s' => rw [hm] at h3; exact h3
  | ok w s' => rw [hm] at h3; exact h3
theorem b_make {C : Nat} {mf : MF} {ws : List Val} (q : New (.ins C []) st fun n s => WpR (mf (.ref n :: ws) s) (fun v st1 => v = .non ∧ Q (.ref n) st1) X) : WpR (Se.vMake C mf ws st) Q X := by
  simp only [uR, uO, uG] at *
  replace q := q.at
  show Ab.WpR (Ab.vMake C mf ws st) Q X
  unfold Ab.vMake; rw [Ab.wp_bind]
  refine Ab.WpR.mono q (fun x s h => ?_) fun _ _ h => h
  rw [h.1]; exact h.2
theorem b_dget (q : WpR (a ρ st) (fun x st1 => WpR (b ρ st1) (fun y st2 => WpR (Ab.vDget x y st2) Q X) X) X) : WpR (Se.mDget a b ρ st) Q X := by
  simp only [uR, uO, uG] at *
  show Ab.WpR (Ab.mDget a b ρ st) Q X
  unfold Ab.mDget; simp only [Ab.wp_bind]; exact q
theorem v_dget {n : Nat} {s : Str} {kvs : List (Key × Val)} {w : Val} (h : st[n]? = some (.dct kvs)) (hk : Ab.valW kvs (.inr s) = some w) (q : Q w st) : WpR (Ab.vDget (.ref n) (.str s) st) Q X := by
  simp only [uR, uO, uG] at *
  show Ab.WpR (match st[n]? with | some (.dct kvs) => (match Ab.valW kvs (.inr s) with | some w => .ok w st | none => .bad) | _ => .bad) Q X
  rw [h]; dsimp only; rw [hk]; exact q
theorem b_disp {prs : List (ME × ME)} (q : New (.dct []) st fun n s => WpR (Ab.pairsM prs ρ s) (fun kvs st2 => st2[n]? = some (.dct []) ∧ kvs.length ≤ 15 ∧ Wr n (.dct (Ab.mergeW [] kvs)) st2 fun s => Q (.ref n) s) X) : WpR (Se.mDisp prs ρ st) Q X := by
  simp only [uR, uO, uG] at *
  replace q := q.at
  show Ab.WpR (Ab.mDisp prs ρ st) Q X
  unfold Ab.mDisp; rw [Ab.wp_bind]
  refine Ab.WpR.mono q (fun x s h => ?_) fun _ _ h => h
  rw [h.1]; dsimp only; rw [if_pos h.2.1]; exact h.2.2.at h.1
theorem b_pnil {QP : List (Key × Val) → Store → Prop} (q : QP [] st) : WpR (Ab.pairsM [] ρ st) QP X := by
  simp only [uR, uO, uG] at *
  exact q
theorem b_pcons {QP : List (Key × Val) → Store → Prop} {prs : List (ME × ME)} (q : WpR (a ρ st) (fun x st1 => ∃ k, Ab.keyW x = some k ∧ WpR (b ρ st1) (fun y st2 => WpR (Ab.pairsM prs ρ st2) (fun ps st3 => QP ((k, y) :: ps) st3) X) X) X) : WpR (Ab.pairsM ((a, b) :: prs) ρ st) QP X := by
  simp only [uR, uO, uG] at *
  rw [Ab.pairsM, Ab.wp_bind]
  refine Ab.WpR.mono q (fun x s h => ?_) fun _ _ h => h
  obtain ⟨k, h1, h2⟩ := h
  rw [h1]; dsimp only; simp only [Ab.wp_bind, Ab.wp_ok]; exact h2
theorem b_items (q : WpR (m ρ st) (fun x st1 => ∃ n kvs, x = .ref n ∧ st1[n]? = some (.dct kvs) ∧ New (.lst (kvs.map fun kv => .tup [Ab.unkey kv.1, kv.2])) st1 fun m s => Q (.ref m) s) X) : WpR (Se.mItems m ρ st) Q X := by
  simp only [uR, uO, uG] at *
  show Ab.WpR (Ab.mItems m ρ st) Q X
  unfold Ab.mItems; rw [Ab.wp_bind]
  refine Ab.WpR.mono q (fun x s h => ?_) fun _ _ h => h
  obtain ⟨n, kvs, rfl, h1, h2⟩ := h
  dsimp only; rw [h1]; exact h2.at
theorem b_isi {ts : List Ab.Ty6} (q : WpR (m ρ st) (fun w st1 => ∃ k, Ab.kindW st1 w = some k ∧ TruB (ts.any (Ab.isT k)) fun b => Q (.bl b) st1) X) : WpR (Se.mIsi ts m ρ st) Q X := by
  simp only [uR, uO, uG] at *
  show Ab.WpR (Ab.mIsi ts m ρ st) Q X
  unfold Ab.mIsi; rw [Ab.wp_bind]
  refine Ab.WpR.mono q (fun x s h => ?_) fun _ _ h => h
  obtain ⟨k, h1, h2⟩ := h
  rw [h1]; exact h2
theorem b_star (q : WpR (m ρ st) (fun w st1 => ∃ xs, Ab.itemsW st1 w = some xs ∧ WpR (ta ρ st1) (fun ys st2 => QL (xs ++ ys) st2) X) X) : WpR (Se.aStar m ta ρ st) QL X := by
  simp only [uR, uO, uG] at *
  show Ab.WpR (Ab.aStar m ta ρ st) QL X
  unfold Ab.aStar; rw [Ab.wp_bind]
  refine Ab.WpR.mono q (fun x s h => ?_) fun _ _ h => h
  obtain ⟨xs, h1, h2⟩ := h
  rw [h1]; dsimp only; rw [Ab.wp_bind]; exact h2
theorem b_op {C : Nat} {mf : MF} (q : WpR (a ρ st) (fun x st1 => WpR (b ρ st1) (fun y st2 => Ab.isIns C st2 x = true ∧ Ab.isIns C st2 y = true ∧ WpR (mf [x, y] st2) Q X) X) X) : WpR (Se.mOp C mf a b ρ st) Q X := by
  simp only [uR, uO, uG] at *
  show Ab.WpR (Ab.mOp C mf a b ρ st) Q X
  unfold Ab.mOp; simp only [Ab.wp_bind]
  refine Ab.WpR.mono q (fun x s h => ?_) fun _ _ h => h
  refine Ab.WpR.mono h (fun x s h => ?_) fun _ _ h => h
  rw [if_pos ⟨h.1, h.2.1⟩]; exact h.2.2
theorem is_ins {n C : Nat} {fs : List (Nat × Val)} (h : st[n]? = some (.ins C fs)) : Ab.isIns C st (.ref n) = true := by
  unfold Ab.isIns; dsimp only; rw [h]; simp
theorem b_len {C : Nat} {mf : MF} (q : WpR (m ρ st) (fun x st1 => Ab.isIns C st1 x = true ∧ WpR (mf [x] st1) (fun v st2 => ∃ i, v = .int i ∧ 0 ≤ i ∧ i < 1000000 ∧ Q (.int i) st2) (fun _ _ => False)) X) : WpR (Se.mLen C mf m ρ st) Q X := by
  simp only [uR, uO, uG] at *
  show Ab.WpR (Ab.mLen C mf m ρ st) Q X
  unfold Ab.mLen; rw [Ab.wp_bind]
  refine Ab.WpR.mono q (fun x s h => ?_) fun _ _ h => h
  rw [if_pos h.1]
  have h2 := h.2
  cases hm : mf [x] s with
  | bad => rw [hm] at h2; exact h2
  | exc e s' => rw [hm] at h2; exact h2.elim
  | ok w s' =>
    rw [hm] at h2
    obtain ⟨i, rfl, h3, h4, h5⟩ := h2
    dsimp only; rw [if_pos ⟨h3, h4⟩]; exact h5
theorem b_outcome (q : WpR (m ρ st) (fun v st1 => Q (.tup [.str "value", v]) st1) (fun x st1 => ∃ ws, Ab.outV x = some ws ∧ ws.all Ab.flatW = true ∧ Q (.tup ws) st1)) : WpR (Se.mOutcome m ρ st) Q X := by
  simp only [uR, uO, uG] at *
  show Ab.WpR (Ab.mOutcome m ρ st) Q X
  unfold Ab.mOutcome
  cases hm : m ρ st with
  | bad => rw [hm] at q; exact q
  | exc e s' =>
    rw [hm] at q
    obtain ⟨ws, h1, h2, h3⟩ := q
    dsimp only; rw [h1]; dsimp only; rw [if_pos h2]; exact h3
  | ok w s' => rw [hm] at q; exact q
/-! statements -/
theorem b_next (q : n ρ st) : WpO (Se.sNext ρ st) ⟨n, r, k, l, X⟩ := by
  simp only [uR, uO, uG] at *
  exact q
theorem b_seq (q : WpO (s1 ρ st) ⟨fun ρ st => WpO (s2 ρ st) ⟨n, r, k, l, X⟩, r, k, l, X⟩) : WpO (Se.sSeq s1 s2 ρ st) ⟨n, r, k, l, X⟩ := by
  simp only [uR, uO, uG] at *
  exact Ab.w_seq.mpr q
theorem b_set {i : Nat} (q : WpR (m ρ st) (fun w st1 => NF ρ i (some w) fun ρ => n ρ st1) X) : WpO (Se.sSet i m ρ st) ⟨n, r, k, l, X⟩ := by
  simp only [uR, uO, uG] at *
  exact Ab.w_set.mpr q
theorem b_ret (q : WpR (m ρ st) (fun w st1 => r w st1) X) : WpO (Se.sRet m ρ st) ⟨n, r, k, l, X⟩ := by
  simp only [uR, uO, uG] at *
  exact Ab.w_ret.mpr q
theorem b_drop (q : WpR (m ρ st) (fun _ st1 => n ρ st1) X) : WpO (Se.sDrop m ρ st) ⟨n, r, k, l, X⟩ := by
  simp only [uR, uO, uG] at *
  exact Ab.w_drop.mpr q
theorem b_sif (q : WpR (t ρ st) (fun b st1 => if b = true then WpO (s1 ρ st1) ⟨n, r, k, l, X⟩ else WpO (s2 ρ st1) ⟨n, r, k, l, X⟩) X) : WpO (Se.sIf t s1 s2 ρ st) ⟨n, r, k, l, X⟩ := by
  simp only [uR, uO, uG] at *
  exact Ab.w_sif.mpr q
theorem b_break (q : k ρ st) : WpO (Se.sBreak ρ st) ⟨n, r, k, l, X⟩ := by
  simp only [uR, uO, uG] at *
  exact q
theorem b_cont (q : l ρ st) : WpO (Se.sCont ρ st) ⟨n, r, k, l, X⟩ := by
  simp only [uR, uO, uG] at *
  exact q
theorem b_aug {i : Nat} {g : Val → Val → Store → R Val} {x : Val} (hx : ρ[i]? = some (some x)) (q : WpR (m ρ st) (fun y st1 => WpR (g x y st1) (fun z st2 => NF ρ i (some z) fun ρ => n ρ st2) X) X) : WpO (Se.sAug i g m ρ st) ⟨n, r, k, l, X⟩ := by
  simp only [uR, uO, uG] at *
  show Ab.WpO (Ab.sAug i g m ρ st) _
  unfold Ab.sAug; rw [hx]; dsimp only; rw [Ab.wp_toO]
  refine Ab.WpR.mono q (fun y s h => ?_) fun _ _ h => h
  rw [Ab.wp_toO]; exact h
theorem b_asg {g : MG} (q : WpR (m ρ st) (fun w st1 => WpG (g w ρ st1) n) X) : WpO (Se.sAsg m g ρ st) ⟨n, r, k, l, X⟩ := by
  simp only [uR, uO, uG] at *
  exact Ab.w_asg.mpr q
theorem b_par {i j : Nat} (q : WpR (ta ρ st) (fun ws st1 => ∃ v w, ws = [v, w] ∧ NF ρ i (some v) fun ρ => NF ρ j (some w) fun ρ => n ρ st1) X) : WpO (Se.sPar i j ta ρ st) ⟨n, r, k, l, X⟩ := by
  simp only [uR, uO, uG] at *
  show Ab.WpO (Ab.sPar i j ta ρ st) _
  unfold Ab.sPar; rw [Ab.wp_toO]
  refine Ab.WpR.mono q (fun y s h => ?_) fun _ _ h => h
  obtain ⟨v, w, rfl, h⟩ := h; exact h
theorem b_fldm {cs : List Nat} {f : Nat} (q : WpR (b ρ st) (fun w st1 => WpR (a ρ st1) (fun x st2 => ∃ nn C fs, x = .ref nn ∧ st2[nn]? = some (.ins C fs) ∧ C ∈ cs ∧ fs.length < 1000 ∧ Wr nn (.ins C (Ab.putM f w fs)) st2 fun s => n ρ s) X) X) : WpO (Se.sFldM cs f a b ρ st) ⟨n, r, k, l, X⟩ := by
  simp only [uR, uO, uG] at *
  show Ab.WpO (Ab.sFldM cs f a b ρ st) _
  unfold Ab.sFldM; rw [Ab.wp_toO]
  refine Ab.WpR.mono q (fun y s h => ?_) fun _ _ h => h
  rw [Ab.wp_toO]
  refine Ab.WpR.mono h (fun y s h => ?_) fun _ _ h => h
  obtain ⟨nn, C, fs, rfl, h1, h2, h3, h4⟩ := h
  dsimp only; rw [h1]; dsimp only; rw [if_pos ⟨h2, h3⟩]; exact h4.at h1
theorem b_fldaug {cs : List Nat} {f : Nat} {g : Val → Val → Store → R Val} (q : WpR (a ρ st) (fun x st1 => ∃ nn C fs w, x = .ref nn ∧ st1[nn]? = some (.ins C fs) ∧ C ∈ cs ∧ fs.lookup f = some w ∧ WpR (b ρ st1) (fun y st2 => WpR (g w y st2) (fun z st3 => ∃ fs', st3[nn]? = some (.ins C fs') ∧ fs'.length < 1000 ∧ Wr nn (.ins C (Ab.putM f z fs')) st3 fun s => n ρ s) X) X) X) : WpO (Se.sFldAugM cs f g a b ρ st) ⟨n, r, k, l, X⟩ := by
  simp only [uR, uO, uG] at *
  show Ab.WpO (Ab.sFldAugM cs f g a b ρ st) _
  unfold Ab.sFldAugM; rw [Ab.wp_toO]
  refine Ab.WpR.mono q (fun y s h => ?_) fun _ _ h => h
  obtain ⟨nn, C, fs, w, rfl, h1, h2, h3, h4⟩ := h
  dsimp only; rw [h1]; dsimp only; rw [if_pos h2, h3]; dsimp only; rw [Ab.wp_toO]
  refine Ab.WpR.mono h4 (fun y s h => ?_) fun _ _ h => h
  rw [Ab.wp_toO]
  refine Ab.WpR.mono h (fun y s h => ?_) fun _ _ h => h
  obtain ⟨fs', h1, h2, h3⟩ := h
  rw [h1]; dsimp only; rw [if_pos ⟨rfl, h2⟩]; exact h3.at h1
theorem b_raise {C : Nat} {fs : List Nat} (q : WpR (ta ρ st) (fun ws st1 => ws.length = fs.length ∧ X ⟨C, (fs.zip ws).reverse⟩ st1) X) : WpO (Se.sRaise C fs ta ρ st) ⟨n, r, k, l, X⟩ := by
  simp only [uR, uO, uG] at *
  show Ab.WpO (Ab.sRaise C fs ta ρ st) _
  unfold Ab.sRaise; rw [Ab.wp_toO]
  refine Ab.WpR.mono q (fun y s h => ?_) fun _ _ h => h
  rw [if_pos h.1]; exact h.2
theorem b_raise0 {C : Nat} (q : X ⟨C, []⟩ st) : WpO (Se.sRaise0 C ρ st) ⟨n, r, k, l, X⟩ := by
  simp only [uR, uO, uG] at *
  exact q
theorem b_for {mi : MI} {g : MG} {body : MS} (q : WpR (mi ρ st) (fun it st1 => WpO (Ab.forM g body it.2 it.1 ρ st1) ⟨n, r, k, l, X⟩) X) : WpO (Se.sFor mi g body ρ st) ⟨n, r, k, l, X⟩ := by
  simp only [uR, uO, uG] at *
  exact Ab.w_for.mpr q
/-! targets -/
theorem g_set {i : Nat} {w : Val} (q : NF ρ i (some w) fun ρ => n ρ st) : WpG (Se.gSet i w ρ st) n := by
  simp only [uR, uO, uG] at *
  exact q
theorem g_nil (q : n ρ st) : WpG (Se.gsNil [] ρ st) n := by
  simp only [uR, uO, uG] at *
  exact q
theorem g_cons {g : MG} {h : MGs} {w : Val} {ws : List Val} (q : WpG (g w ρ st) (fun ρ1 st1 => WpG (h ws ρ1 st1) n)) : WpG (Se.gsCons g h (w :: ws) ρ st) n := by
  simp only [uR, uO, uG] at *
  show Ab.WpG (Ab.gsCons g h (w :: ws) ρ st) n
  dsimp only [Ab.gsCons]
  cases hg : g w ρ st with
  | none => rw [hg] at q; exact q
  | some p => rw [hg] at q; exact q
theorem g_tup {j : Nat} {h : MGs} {ws : List Val} (hl : ws.length = j) (q : WpG (h ws ρ st) n) : WpG (Se.gTupM j h (.tup ws) ρ st) n := by
  simp only [uR, uO, uG] at *
  show Ab.WpG (Ab.gTupM j h (.tup ws) ρ st) n
  dsimp only [Ab.gTupM]
  rw [if_pos hl]; exact q
theorem g_fld {cs : List Nat} {f : Nat} {w : Val} (q : WpR (m ρ st) (fun x st1 => ∃ nn C fs, x = .ref nn ∧ st1[nn]? = some (.ins C fs) ∧ C ∈ cs ∧ fs.length < 1000 ∧ Wr nn (.ins C (Ab.putM f w fs)) st1 fun s => n ρ s) fun _ _ => False) : WpG (Se.gFld cs f m w ρ st) n := by
  simp only [uR, uO, uG] at *
  show Ab.WpG (Ab.gFld cs f m w ρ st) n
  unfold Ab.gFld
  cases hm : m ρ st with
  | bad => rw [hm] at q; exact q.elim
  | exc e s' => rw [hm] at q; exact q.elim
  | ok x s' =>
    rw [hm] at q
    obtain ⟨nn, C, fs, rfl, h1, h2, h3, h4⟩ := q
    dsimp only; rw [h1]; dsimp only; rw [if_pos ⟨h2, h3⟩]; exact h4.at h1
theorem g_subL {w : Val} (q : WpR (a ρ st) (fun x st1 => WpR (b ρ st1) (fun i st2 => ∃ nn z xs j, x = .ref nn ∧ i = .int z ∧ st2[nn]? = some (.lst xs) ∧ L2.ixN xs.length z = some j ∧ Wr nn (.lst (xs.set j w)) st2 fun s => n ρ s) fun _ _ => False) fun _ _ => False) : WpG (Se.gSubL a b w ρ st) n := by
  simp only [uR, uO, uG] at *
  show Ab.WpG (Ab.gSubL a b w ρ st) n
  unfold Ab.gSubL
  cases hm : a ρ st with
  | bad => rw [hm] at q; exact q.elim
  | exc e s' => rw [hm] at q; exact q.elim
  | ok x s' =>
    rw [hm] at q
    dsimp only [Ab.WpR] at q ⊢
    cases hb : b ρ s' with
    | bad => rw [hb] at q; exact q.elim
    | exc e s' => rw [hb] at q; exact q.elim
    | ok y s2 =>
      rw [hb] at q
      obtain ⟨nn, z, xs, j, rfl, rfl, h1, h2, h3⟩ := q
      dsimp only; rw [h1]; dsimp only; rw [h2]; exact h3.at h1
theorem g_subD {w : Val} (q : WpR (a ρ st) (fun x st1 => WpR (b ρ st1) (fun i st2 => ∃ nn z kvs, x = .ref nn ∧ Ab.keyW i = some z ∧ st2[nn]? = some (.dct kvs) ∧ kvs.length < 1000 ∧ Wr nn (.dct (Ab.putW kvs z w)) st2 fun s => n ρ s) fun _ _ => False) fun _ _ => False) : WpG (Se.gSubD a b w ρ st) n := by
  simp only [uR, uO, uG] at *
  show Ab.WpG (Ab.gSubD a b w ρ st) n
  unfold Ab.gSubD
  cases hm : a ρ st with
  | bad => rw [hm] at q; exact q.elim
  | exc e s' => rw [hm] at q; exact q.elim
  | ok x s' =>
    rw [hm] at q
    dsimp only [Ab.WpR] at q ⊢
    cases hb : b ρ s' with
    | bad => rw [hb] at q; exact q.elim
    | exc e s' => rw [hb] at q; exact q.elim
    | ok y s2 =>
      rw [hb] at q
      obtain ⟨nn, z, xs, rfl, h0, h1, h2, h3⟩ := q
      dsimp only; rw [h0]; dsimp only; rw [h1]; dsimp only; rw [if_pos h2]; exact h3.at h1
/-! what is gone through -/
section
variable {QI : List Val × (Store → Prop) → Store → Prop}
theorem i_seq (q : WpR (m ρ st) (fun w st1 => ∃ p, Ab.itemsOf st1 w = some p ∧ QI p st1) X) : WpR (Se.iSeqM m ρ st) QI X := by
  simp only [uR, uO, uG] at *
  show Ab.WpR (Ab.iSeqM m ρ st) QI X
  unfold Ab.iSeqM; rw [Ab.wp_bind]
  refine Ab.WpR.mono q (fun y s h => ?_) fun _ _ h => h
  obtain ⟨p, h1, h2⟩ := h
  rw [h1]; exact h2
theorem i_enum (q : WpR (m ρ st) (fun w st1 => ∃ xs okp, Ab.itemsOf st1 w = some (xs, okp) ∧ QI (Ab.enumFrom 0 xs, okp) st1) X) : WpR (Se.iEnumM m ρ st) QI X := by
  simp only [uR, uO, uG] at *
  show Ab.WpR (Ab.iEnumM m ρ st) QI X
  unfold Ab.iEnumM; rw [Ab.wp_bind]
  refine Ab.WpR.mono q (fun y s h => ?_) fun _ _ h => h
  obtain ⟨p, okp, h1, h2⟩ := h
  rw [h1]; exact h2
theorem i_zip (q : WpR (a ρ st) (fun w st1 => WpR (b ρ st1) (fun u st2 => ∃ xs okp ys okq, Ab.itemsOf st2 w = some (xs, okp) ∧ Ab.itemsOf st2 u = some (ys, okq) ∧ QI (Ab.zipW xs ys, fun st => okp st ∧ okq st) st2) X) X) : WpR (Se.iZipM a b ρ st) QI X := by
  simp only [uR, uO, uG] at *
  show Ab.WpR (Ab.iZipM a b ρ st) QI X
  unfold Ab.iZipM; simp only [Ab.wp_bind]
  refine Ab.WpR.mono q (fun y s h => ?_) fun _ _ h => h
  refine Ab.WpR.mono h (fun y s h => ?_) fun _ _ h => h
  obtain ⟨p, okp, ys, okq, h1, h2, h3⟩ := h
  rw [h1, h2]; exact h3
theorem i_str (q : WpR (m ρ st) (fun w st1 => ∃ x, w = .str x ∧ QI (Ab.signsW x, fun _ => True) st1) X) : WpR (Se.iStrM m ρ st) QI X := by
  simp only [uR, uO, uG] at *
  show Ab.WpR (Ab.iStrM m ρ st) QI X
  unfold Ab.iStrM; rw [Ab.wp_bind]
  refine Ab.WpR.mono q (fun y s h => ?_) fun _ _ h => h
  obtain ⟨x, rfl, h⟩ := h; exact h
theorem i_range1 (q : WpR (ta ρ st) (fun ws st1 => ∃ j : Int, ws = [.int j] ∧ (-(2 ^ 62) ≤ j ∧ j < 2 ^ 62) ∧ QI ((List.range j.toNat).map fun (i : Nat) => Val.int i, fun _ => True) st1) X) : WpR (Se.iRange1 ta ρ st) QI X := by
  simp only [uR, uO, uG] at *
  show Ab.WpR (Ab.iRange1 ta ρ st) QI X
  unfold Ab.iRange1; rw [Ab.wp_bind]
  refine Ab.WpR.mono q (fun y s h => ?_) fun _ _ h => h
  obtain ⟨j, rfl, h1, h2⟩ := h
  dsimp only; rw [if_pos h1]
  simpa only [Int.zero_add, Ab.wp_ok] using h2
theorem i_range2 (q : WpR (ta ρ st) (fun ws st1 => ∃ i j : Int, ws = [.int i, .int j] ∧ (-(2 ^ 62) ≤ i ∧ i < 2 ^ 62 ∧ -(2 ^ 62) ≤ j ∧ j < 2 ^ 62) ∧ QI ((List.range (j - i).toNat).map fun (k : Nat) => Val.int (i + k), fun _ => True) st1) X) : WpR (Se.iRange2 ta ρ st) QI X := by
  simp only [uR, uO, uG] at *
  show Ab.WpR (Ab.iRange2 ta ρ st) QI X
  unfold Ab.iRange2; rw [Ab.wp_bind]
  refine Ab.WpR.mono q (fun y s h => ?_) fun _ _ h => h
  obtain ⟨i, j, rfl, h1, h2⟩ := h
  dsimp only; rw [if_pos h1]; exact h2
theorem items_lst {n : Nat} {xs : List Val} (h : st[n]? = some (.lst xs)) : Ab.itemsOf st (.ref n) = some (xs, fun st' => seqAt st' n = some xs) := by
  unfold Ab.itemsOf; dsimp only; rw [Ab.seqAt_lst h]
end
theorem b_lc {mi : MI} {g : MG} {vs : List Nat} (q : WpR (mi ρ st) (fun it st1 => WpR (Ab.lcM g t m it.2 st1.length (Ab.wipeM ρ vs) it.1 (st1 ++ [.lst []])) Q X) X) : WpR (Se.mLc mi g t m vs ρ st) Q X := by
  simp only [uR, uO, uG] at *
  show Ab.WpR (Ab.mLc mi g t m vs ρ st) Q X
  unfold Ab.mLc; rw [Ab.wp_bind]; exact q
theorem b_dc {mi : MI} {g : MG} {vs : List Nat} (q : WpR (mi ρ st) (fun it st1 => WpR (Ab.dcM g t a b it.2 st1.length (Ab.wipeM ρ vs) it.1 (st1 ++ [.dct []])) Q X) X) : WpR (Se.mDc mi g t a b vs ρ st) Q X := by
  simp only [uR, uO, uG] at *
  show Ab.WpR (Ab.mDc mi g t a b vs ρ st) Q X
  unfold Ab.mDc; rw [Ab.wp_bind]; exact q
theorem b_yes (q : QB true st) : WpR (Se.mYes ρ st) QB X := by
  simp only [uR, uO, uG] at *
  exact q
theorem b_def {j i : Nat} {body : MS} {ws : List Val} (h : ws.length = j) (q : WpO (body (ws.map some ++ List.replicate i none) st) ⟨fun _ st => Q .non st, Q, fun _ _ => False, fun _ _ => False, X⟩) : WpR (Ab.defM j i body ws st) Q X := by
  simp only [uR, uO, uG] at *
  exact (Ab.wp_def h).mpr q
theorem b_defS {j i : Nat} {body : MS} {ws : List Val} (h : j ≤ ws.length ∧ ws.length ≤ 1000) (q : WpO (body ((ws.take j ++ [Val.tup (ws.drop j)]).map some ++ List.replicate i none) st) ⟨fun _ st => Q .non st, Q, fun _ _ => False, fun _ _ => False, X⟩) : WpR (Ab.defStarM j i body ws st) Q X := by
  simp only [uR, uO, uG] at *
  unfold Ab.defStarM; rw [if_pos h, Ab.wp_fin]; exact q
/-! ops that look at the store -/
theorem v_ixL {i : Nat} {z : Int} {xs : List Val} {w : Val} (h : st[i]? = some (.lst xs)) (hi : L2.atI xs z = some w) (q : Q w st) : WpR (vIx (.ref i) (.int z) st) Q X := by
  simp only [uR, uO, uG] at *
  exact (Ab.ix_ref (Ab.seqAt_lst h) hi).mpr q
theorem v_ixT {z : Int} {xs : List Val} {w : Val} (hi : L2.atI xs z = some w) (q : Q w st) : WpR (vIx (.tup xs) (.int z) st) Q X := by
  simp only [uR, uO, uG] at *
  dsimp only [vIx]; rw [hi]; exact q
theorem v_lenL {i : Nat} {xs : List Val} (h : st[i]? = some (.lst xs)) (q : Q (.int xs.length) st) : WpR (Ab.bLen [.ref i] st) Q X := by
  simp only [uR, uO, uG] at *
  dsimp only [Ab.bLen]; rw [Ab.seqAt_lst h]; exact q
theorem v_tupL {i : Nat} {xs : List Val} (h : st[i]? = some (.lst xs)) (q : Q (.tup xs) st) : WpR (Ab.bTuple [.ref i] st) Q X := by
  simp only [uR, uO, uG] at *
  dsimp only [Ab.bTuple]; rw [Ab.seqAt_lst h]; exact q
theorem v_lstL {i : Nat} {xs : List Val} (h : st[i]? = some (.lst xs)) (q : New (.lst xs) st fun n s => Q (.ref n) s) : WpR (Ab.bList [.ref i] st) Q X := by
  simp only [uR, uO, uG] at *
  dsimp only [Ab.bList]; rw [Ab.seqAt_lst h]; exact q.at
theorem v_addL {i j : Nat} {xs ys : List Val} (h1 : st[i]? = some (.lst xs)) (h2 : st[j]? = some (.lst ys)) (hl : xs.length + ys.length ≤ 100000) (q : New (.lst (xs ++ ys)) st fun n s => Q (.ref n) s) : WpR (vAdd (.ref i) (.ref j) st) Q X := by
  simp only [uR, uO, uG] at *
  dsimp only [vAdd]; rw [h1, h2]; dsimp only; rw [if_pos (by rw [sizeLine_eq]; omega)]; exact q.at
theorem v_addT {xs ys : List Val} (hl : xs.length + ys.length ≤ 100000) (q : Q (.tup (xs ++ ys)) st) : WpR (vAdd (.tup xs) (.tup ys) st) Q X := by
  simp only [uR, uO, uG] at *
  dsimp only [vAdd]; rw [if_pos (by rw [sizeLine_eq]; omega)]; exact q
theorem v_app {i : Nat} {xs : List Val} {y : Val} (h : st[i]? = some (.lst xs)) (hl : xs.length < 100000) (q : Wr i (.lst (xs ++ [y])) st fun s => Q .non s) : WpR (Ab.vAppend (.ref i) [y] st) Q X := by
  simp only [uR, uO, uG] at *
  dsimp only [Ab.vAppend]; rw [h]; dsimp only; rw [if_pos (by rw [sizeLine_eq]; omega)]; exact q.at h
theorem v_mul {i j : Int} (h : (-(2 ^ 64) < i ∧ i < 2 ^ 64) ∨ (-(2 ^ 64) < j ∧ j < 2 ^ 64)) (q : Q (.int (i * j)) st) : WpR (Ab.vMul (.int i) (.int j) st) Q X := by
  simp only [uR, uO, uG] at *
  dsimp only [Ab.vMul]
  rw [if_pos]; exact q
  unfold Ab.mulOk
  rcases h with h | h
  · rw [decide_eq_true h.1, decide_eq_true h.2]; simp
  · rw [decide_eq_true h.1, decide_eq_true h.2]; simp
theorem v_mod {i j : Int} (h : 0 < j) (q : Q (.int (i % j)) st) : WpR (Ab.vMod (.int i) (.int j) st) Q X := by
  simp only [uR, uO, uG] at *
  rw [Ab.vmod_i h]; exact q
theorem v_div {i j : Int} (h : 0 < j ∧ j < 2 ^ 100) (q : Q (.int (i / j)) st) : WpR (Ab.vDiv (.int i) (.int j) st) Q X := by
  simp only [uR, uO, uG] at *
  rw [Ab.vdiv_i h.1 h.2]; exact q
theorem v_pow {i j k : Int} (h : 0 ≤ j ∧ j ≤ 1000000 ∧ i.natAbs < 2 ^ 64) (hk : i ^ j.toNat = k) (q : Q (.int k) st) : WpR (Ab.vPow (.int i) (.int j) st) Q X := by
  simp only [uR, uO, uG] at *
  dsimp only [Ab.vPow]; rw [if_pos h, hk]; exact q
theorem v_lt {i j : Int} (q : Q (.bl (decide (i < j))) st) : WpR (Ab.vLt (.int i) (.int j) st) Q X := by
  simp only [uR, uO, uG] at *
  exact q
theorem v_gt {i j : Int} (q : Q (.bl (decide (j < i))) st) : WpR (Ab.vGt (.int i) (.int j) st) Q X := by
  simp only [uR, uO, uG] at *
  exact q
theorem v_ge {i j : Int} (q : Q (.bl (decide (j ≤ i))) st) : WpR (Ab.vGe (.int i) (.int j) st) Q X := by
  simp only [uR, uO, uG] at *
  exact q
/-- both ways are read off -/
theorem ite_both {p : Prop} [Decidable p] {i j : Int} {A B : R Val} (hA : A = .ok (.int i) st) (hB : B = .ok (.int j) st) (q : Q (.int (if p then i else j)) st) : if decide p = true then WpR A Q X else WpR B Q X := by
  simp only [uR, uO, uG] at *
  by_cases h : p
  · rw [if_pos (by simpa using h), hA]; rw [if_pos h] at q; exact q
  · rw [if_neg (by simpa using h), hB]; rw [if_neg h] at q; exact q
theorem v_inT {x : Val} {ys : List Val} {s : Str} (hx : x = .str s) (hf : ys.all Ab.flatW = true) (q : Q (.bl (Ab.inW x ys)) st) : WpR (Ab.vIn x (.tup ys) st) Q X := by
  simp only [uR, uO, uG] at *
  subst hx; dsimp only [Ab.vIn]; rw [if_pos (by simpa [Ab.flatW] using hf)]; exact q
theorem v_inL {x : Val} {i : Nat} {ys : List Val} {s : Str} (hx : x = .str s) (h : st[i]? = some (.lst ys)) (hf : ys.all Ab.flatW = true) (q : Q (.bl (Ab.inW x ys)) st) : WpR (Ab.vIn x (.ref i) st) Q X := by
  simp only [uR, uO, uG] at *
  subst hx; dsimp only [Ab.vIn]; rw [Ab.seqAt_lst h]; dsimp only; rw [if_pos (by simpa [Ab.flatW] using hf)]; exact q
theorem v_ninT {x : Val} {ys : List Val} {s : Str} (hx : x = .str s) (hf : ys.all Ab.flatW = true) (q : Q (.bl (!Ab.inW x ys)) st) : WpR (Ab.vNotIn x (.tup ys) st) Q X := by
  simp only [uR, uO, uG] at *
  subst hx; dsimp only [Ab.vNotIn]; rw [if_pos (by simpa [Ab.flatW] using hf)]; exact q
theorem v_ninL {x : Val} {i : Nat} {ys : List Val} {s : Str} (hx : x = .str s) (h : st[i]? = some (.lst ys)) (hf : ys.all Ab.flatW = true) (q : Q (.bl (!Ab.inW x ys)) st) : WpR (Ab.vNotIn x (.ref i) st) Q X := by
  simp only [uR, uO, uG] at *
  subst hx; dsimp only [Ab.vNotIn]; rw [Ab.seqAt_lst h]; dsimp only; rw [if_pos (by simpa [Ab.flatW] using hf)]; exact q
theorem chk_bl {b : Bool} {P N : Prop} (h : if b = true then P else N) : Chk (.bl b) P N := by cases b <;> exact h
theorem ite_t {P N : Prop} (h : P) : if true = true then P else N := by rw [if_pos rfl]; exact h
theorem ite_f {P N : Prop} (h : N) : if false = true then P else N := by rw [if_neg Bool.false_ne_true]; exact h
theorem ite_nt {P N : Prop} (h : N) : if (!true) = true then P else N := by rw [if_neg (by decide)]; exact h
theorem ite_nf {P N : Prop} (h : P) : if (!false) = true then P else N := by rw [if_pos (by decide)]; exact h
theorem ite_rfl {α : Type} [DecidableEq α] {a : α} {P N : Prop} (h : P) : if decide (a = a) = true then P else N := by rw [if_pos (by simp)]; exact h
theorem ite_nrfl {α : Type} [DecidableEq α] {a : α} {P N : Prop} (h : N) : if (!decide (a = a)) = true then P else N := by rw [if_neg (by simp)]; exact h
theorem ite_d {p : Prop} [Decidable p] {P N : Prop} (h1 : p → P) (h2 : ¬p → N) : if decide p = true then P else N := by
  by_cases q : p
  · rw [if_pos (by simpa using q)]; exact h1 q
  · rw [if_neg (by simpa using q)]; exact h2 q
theorem ite_nd {p : Prop} [Decidable p] {P N : Prop} (h1 : p → N) (h2 : ¬p → P) : if (!decide p) = true then P else N := by
  by_cases q : p
  · rw [if_neg (by simpa using q)]; exact h1 q
  · rw [if_pos (by simpa using q)]; exact h2 q
theorem ite_ndp {p : Prop} [Decidable p] {P N : Prop} (q : p) (h : N) : if (!decide p) = true then P else N := by rw [if_neg (by simpa using q)]; exact h
/-! look-ups -/
theorem get_last {s : Store} {d : Cell} : (s ++ [d])[s.length]? = some d := by simp
theorem get_push {s : Store} {i : Nat} {c d : Cell} (h : s[i]? = some c) : (s ++ [d])[i]? = some c := by
  rw [List.getElem?_append_left (List.getElem?_eq_some_iff.mp h).1]; exact h
theorem lt_of {s : Store} {i : Nat} {c : Cell} (h : s[i]? = some c) : i < s.length := (List.getElem?_eq_some_iff.mp h).1
theorem k_seq {S S' : List Nat} {a b c : Store} (h : Keep S a b) (h' : Keep S' b c) (hs : ∀ i ∈ S', i ∈ S ∨ a.length ≤ i) : Keep S a c := ⟨Nat.le_trans h.1 h'.1, fun j hj hn => by
  rw [h'.2 j (Nat.lt_of_lt_of_le hj h.1) fun z => (hs j z).elim hn fun w => absurd hj (by omega)]; exact h.2 j hj hn⟩
end
section
variable {α : Type} {X : Exc → Store → Prop} {n : Slots → Store → Prop} {r : Val → Store → Prop} {k l : Slots → Store → Prop}
/-- a loop, by an invariant told of what is done -/
theorem for_l {xs : List α} {F : α → Val} {g : MG} {body : MS} {okp : Store → Prop} (Inv : List α → Slots → Store → Prop) (hok : ∀ d ρ st, Inv d ρ st → okp st)
    (step : ∀ d x rest ρ st, xs = d ++ x :: rest → Inv d ρ st → WpG (g (F x) ρ st) (fun ρ1 st1 => WpO (body ρ1 st1) ⟨Inv (d ++ [x]), r, n, Inv (d ++ [x]), X⟩))
    (fin : ∀ ρ st, Inv xs ρ st → n ρ st) {ρ : Slots} {st : Store} (h : Inv [] ρ st) : WpO (Ab.forM g body okp (xs.map F) ρ st) ⟨n, r, k, l, X⟩ := by
  simp only [uR, uO, uG] at *
  have key : ∀ (rest d : List α) (ρ : Slots) (st : Store), xs = d ++ rest → Inv d ρ st → Ab.WpO (Ab.forM g body okp (rest.map F) ρ st) ⟨n, r, k, l, X⟩ := by
    intro rest
    induction rest with
    | nil =>
      intro d ρ st e hI
      rw [List.append_nil] at e; subst e
      unfold Ab.forM
      rw [List.map_nil]; dsimp only
      rw [if_pos (hok _ _ _ hI)]
      exact fin ρ st hI
    | cons x rest ih =>
      intro d ρ st e hI
      rw [List.map_cons]
      unfold Ab.forM
      rw [if_pos (hok _ _ _ hI)]
      have hs := step d x rest ρ st e hI
      cases hg : g (F x) ρ st with
      | none => rw [hg] at hs; exact hs.elim
      | some p =>
        obtain ⟨ρ1, st1⟩ := p
        rw [hg] at hs
        dsimp only [Ab.WpG] at hs ⊢
        have e' : xs = (d ++ [x]) ++ rest := by rw [e]; simp
        cases q : body ρ1 st1 with
        | nx ρ2 st2 => rw [q] at hs; exact ih _ ρ2 st2 e' hs
        | ct ρ2 st2 => rw [q] at hs; exact ih _ ρ2 st2 e' hs
        | brk ρ2 st2 => rw [q] at hs; exact hs
        | ret w st2 => rw [q] at hs; exact hs
        | exc x ρ2 st2 => rw [q] at hs; exact hs
        | bad => rw [q] at hs; exact hs
  exact key xs [] ρ st rfl h
/-- a comprehension that only reads -/
theorem lc_pure {xs : List α} {F : α → Val} {g : MG} {t : MT} {elt : ME} {okp : Store → Prop} {ρ : Slots} {Q : Val → Store → Prop} {st : Store} (p : α → Bool) (f : α → Val) (hok : ∀ acc, okp (st ++ [.lst acc])) (hl : xs.length ≤ 100000)
    (step : ∀ x ∈ xs, ∀ acc, WpG (g (F x) ρ (st ++ [.lst acc])) (fun ρ1 st1 => st1 = st ++ [.lst acc] ∧ WpR (t ρ1 (st ++ [.lst acc])) (fun b s => b = p x ∧ s = st ++ [.lst acc] ∧ (b = true → WpR (elt ρ1 (st ++ [.lst acc])) (fun y s => y = f x ∧ s = st ++ [.lst acc]) fun _ _ => False)) fun _ _ => False))
    (q : New (.lst ((xs.filter p).map f)) st fun n s => Q (.ref n) s) : WpR (Ab.lcM g t elt okp st.length ρ (xs.map F) (st ++ [.lst []])) Q X := by
  simp only [uR, uO, uG] at *
  have key : ∀ (rest d : List α), xs = d ++ rest → ∀ acc : List Val, acc.length ≤ d.length → Ab.lcM g t elt okp st.length ρ (rest.map F) (st ++ [.lst acc]) = .ok (.ref st.length) (st ++ [.lst (acc ++ (rest.filter p).map f)]) := by
    intro rest
    induction rest with
    | nil =>
      intro d e acc ha
      unfold Ab.lcM
      rw [List.map_nil]; dsimp only
      rw [if_pos (hok _)]
      simp
    | cons x rest ih =>
      intro d e acc ha
      have e' : xs = (d ++ [x]) ++ rest := by rw [e]; simp
      have hlen : xs.length = d.length + (rest.length + 1) := by rw [e]; simp
      rw [List.map_cons]
      unfold Ab.lcM
      rw [if_pos (hok _)]
      have hs := step x (by rw [e]; simp) acc
      cases hg : g (F x) ρ (st ++ [.lst acc]) with
      | none => rw [hg] at hs; exact hs.elim
      | some pr =>
        obtain ⟨ρ1, st1⟩ := pr
        rw [hg] at hs
        obtain ⟨rfl, hs⟩ := hs
        dsimp only
        cases ht : t ρ1 (st ++ [.lst acc]) with
        | bad => rw [ht] at hs; exact hs.elim
        | exc e s => rw [ht] at hs; exact hs.elim
        | ok b s =>
          rw [ht] at hs
          obtain ⟨hb, rfl, hs⟩ := hs
          dsimp only [R.noX, R.bind]
          cases b with
          | false =>
            rw [if_neg Bool.false_ne_true, ih _ e' acc (by simp; omega), List.filter_cons, ← hb]
            rfl
          | true =>
            rw [if_pos rfl]
            have hs := hs rfl
            cases hel : elt ρ1 (st ++ [.lst acc]) with
            | bad => rw [hel] at hs; exact hs.elim
            | exc e s => rw [hel] at hs; exact hs.elim
            | ok y s =>
              rw [hel] at hs
              obtain ⟨rfl, rfl⟩ := hs
              dsimp only [R.noX, R.bind]
              rw [get_last]; dsimp only
              rw [if_pos (by rw [sizeLine_eq]; omega)]
              rw [show (st ++ [Cell.lst acc]).set st.length (.lst (acc ++ [f x])) = st ++ [Cell.lst (acc ++ [f x])] by simp]
              rw [ih _ e' _ (by simp; omega), List.filter_cons, ← hb]
              simp
  rw [key xs [] rfl [] (Nat.zero_le _)]
  exact q.at
theorem lc_map {xs : List α} {F : α → Val} {g : MG} {elt : ME} {okp : Store → Prop} {ρ : Slots} {Q : Val → Store → Prop} {st : Store} (f : α → Val) (hok : ∀ acc, okp (st ++ [.lst acc])) (hl : xs.length ≤ 100000)
    (step : ∀ x ∈ xs, ∀ acc, WpG (g (F x) ρ (st ++ [.lst acc])) (fun ρ1 st1 => st1 = st ++ [.lst acc] ∧ WpR (elt ρ1 (st ++ [.lst acc])) (fun y s => y = f x ∧ s = st ++ [.lst acc]) fun _ _ => False))
    (q : New (.lst (xs.map f)) st fun n s => Q (.ref n) s) : WpR (Ab.lcM g Se.mYes elt okp st.length ρ (xs.map F) (st ++ [.lst []])) Q X := by
  refine lc_pure (fun _ => true) f hok hl (fun x hx acc => ?_) ?_
  · have h := step x hx acc
    simp only [uR, uG] at h ⊢
    cases hg : g (F x) ρ (st ++ [.lst acc]) with
    | none => rw [hg] at h; exact h.elim
    | some pr =>
      rw [hg] at h
      exact ⟨h.1, rfl, rfl, fun _ => h.2⟩
  · rw [List.filter_eq_self.mpr (fun _ _ => rfl)]; exact q
end
/-! shapes of goals that the steppers close -/
section
variable {α : Type} {Q : Val → Store → Prop} {QA : α → Store → Prop} {X X' : Exc → Store → Prop} {st : Store} {P : Prop}
theorem len_and {xs : List Val} (h : Nat.ble xs.length 100000 = true) (q : P) : xs.length ≤ 100000 ∧ P := ⟨Nat.le_of_ble_eq_true h, q⟩
theorem ex_par {P : Val → Val → Prop} {a b : Val} (q : P a b) : ∃ v w, [a, b] = [v, w] ∧ P v w := ⟨a, b, rfl, q⟩
theorem ex_chain {P : Int → Int → Int → Prop} {i j k : Int} (q : P i j k) : ∃ i' j' k' : Int, Val.int i = .int i' ∧ Val.int j = .int j' ∧ Val.int k = .int k' ∧ st = st ∧ P i' j' k' := ⟨i, j, k, rfl, rfl, rfl, rfl, q⟩
theorem ex_meth {P : MF → Prop} {tbl : List (Nat × MF)} {x : Val} {C : Nat} {mf : MF} (h : Ab.clsAt st x = some C) (h2 : tbl.lookup C = some mf) (q : P mf) : ∃ C mf, Ab.clsAt st x = some C ∧ tbl.lookup C = some mf ∧ P mf := ⟨C, mf, h, h2, q⟩
theorem ex_fld {P : Nat → Nat → List (Nat × Val) → Prop} {cs : List Nat} {n C : Nat} {fs : List (Nat × Val)} (h : st[n]? = some (.ins C fs)) (hC : cs.contains C = true) (hl : Nat.blt fs.length 1000 = true) (q : P n C fs) : ∃ nn C fs, Val.ref n = .ref nn ∧ st[nn]? = some (.ins C fs) ∧ C ∈ cs ∧ fs.length < 1000 ∧ P nn C fs := ⟨n, C, fs, rfl, h, by simpa using hC, Nat.lt_of_lt_of_le (Nat.lt_succ_self _) (Nat.le_of_ble_eq_true hl), q⟩
theorem v_fld' {cs : List Nat} {f n C : Nat} {fs : List (Nat × Val)} {w : Val} (h : st[n]? = some (.ins C fs)) (hC : cs.contains C = true) (hf : fs.lookup f = some w) (q : Q w st) : WpR (vFld cs f (.ref n) st) Q X := v_fld h (by simpa using hC) hf q
theorem ex_subL {P : Nat → Int → List Val → Nat → Prop} {i : Nat} {z : Int} {xs : List Val} {j : Nat} (h : st[i]? = some (.lst xs)) (hj : L2.ixN xs.length z = some j) (q : P i z xs j) : ∃ nn z' xs j, Val.ref i = .ref nn ∧ Val.int z = .int z' ∧ st[nn]? = some (.lst xs) ∧ L2.ixN xs.length z' = some j ∧ P nn z' xs j := ⟨i, z, xs, j, rfl, rfl, h, hj, q⟩
theorem ex_subD {P : Nat → Key → List (Key × Val) → Prop} {i : Nat} {s : Str} {kvs : List (Key × Val)} (h : st[i]? = some (.dct kvs)) (hl : Nat.blt kvs.length 1000 = true) (q : P i (.inr s) kvs) : ∃ nn z kvs, Val.ref i = .ref nn ∧ Ab.keyW (.str s) = some z ∧ st[nn]? = some (.dct kvs) ∧ kvs.length < 1000 ∧ P nn z kvs := ⟨i, .inr s, kvs, rfl, rfl, h, Nat.lt_of_lt_of_le (Nat.lt_succ_self _) (Nat.le_of_ble_eq_true hl), q⟩
theorem ex_items {P : Nat → List (Key × Val) → Prop} {i : Nat} {kvs : List (Key × Val)} (h : st[i]? = some (.dct kvs)) (q : P i kvs) : ∃ n kvs, Val.ref i = .ref n ∧ st[n]? = some (.dct kvs) ∧ P n kvs := ⟨i, kvs, rfl, h, q⟩
theorem ex_key {P : Key → Prop} {s : Str} (q : P (.inr s)) : ∃ k, Ab.keyW (.str s) = some k ∧ P k := ⟨_, rfl, q⟩
theorem ex_seqL {i : Nat} {xs : List Val} {P : List Val × (Store → Prop) → Prop} (h : st[i]? = some (.lst xs)) (q : P (xs, fun st' => seqAt st' i = some xs)) : ∃ p, Ab.itemsOf st (.ref i) = some p ∧ P p := ⟨_, items_lst h, q⟩
theorem ex_seqT {xs : List Val} {P : List Val × (Store → Prop) → Prop} (q : P (xs, fun _ => True)) : ∃ p, Ab.itemsOf st (.tup xs) = some p ∧ P p := ⟨_, rfl, q⟩
theorem ex_enumT {xs : List Val} {P : List Val → (Store → Prop) → Prop} (q : P xs fun _ => True) : ∃ xs' okp, Ab.itemsOf st (.tup xs) = some (xs', okp) ∧ P xs' okp := ⟨_, _, rfl, q⟩
theorem ex_zipT {xs ys : List Val} {P : List Val → (Store → Prop) → List Val → (Store → Prop) → Prop} (q : P xs (fun _ => True) ys fun _ => True) : ∃ xs' okp ys' okq, Ab.itemsOf st (.tup xs) = some (xs', okp) ∧ Ab.itemsOf st (.tup ys) = some (ys', okq) ∧ P xs' okp ys' okq := ⟨_, _, _, _, rfl, rfl, q⟩
theorem ex_isiL {i : Nat} {xs : List Val} {P : Ab.Kd → Prop} (h : st[i]? = some (.lst xs)) (q : P (.t .list)) : ∃ k, Ab.kindW st (.ref i) = some k ∧ P k := ⟨_, by unfold Ab.kindW; dsimp only; rw [h], q⟩
theorem ex_starT {xs : List Val} {P : List Val → Prop} (q : P xs) : ∃ xs', Ab.itemsW st (.tup xs) = some xs' ∧ P xs' := ⟨_, rfl, q⟩
theorem ex_starL {i : Nat} {xs : List Val} {P : List Val → Prop} (h : st[i]? = some (.lst xs)) (q : P xs) : ∃ xs', Ab.itemsW st (.ref i) = some xs' ∧ P xs' := ⟨_, Ab.seqAt_lst h, q⟩
theorem ex_range1 {j : Int} {P : Int → Prop} (h : -(2 ^ 62) ≤ j ∧ j < 2 ^ 62) (q : P j) : ∃ j' : Int, [Val.int j] = [.int j'] ∧ (-(2 ^ 62) ≤ j' ∧ j' < 2 ^ 62) ∧ P j' := ⟨j, rfl, h, q⟩
theorem two_ins {n m C : Nat} {fs gs : List (Nat × Val)} (h : st[n]? = some (.ins C fs)) (h' : st[m]? = some (.ins C gs)) (q : P) : Ab.isIns C st (.ref n) = true ∧ Ab.isIns C st (.ref m) = true ∧ P := ⟨is_ins h, is_ins h', q⟩
theorem one_ins {n C : Nat} {fs : List (Nat × Val)} (h : st[n]? = some (.ins C fs)) (q : P) : Ab.isIns C st (.ref n) = true ∧ P := ⟨is_ins h, q⟩
theorem ex_int {P : Int → Prop} {i : Int} (h : 0 ≤ i ∧ i < 1000000) (q : P i) : ∃ j, Val.int i = .int j ∧ 0 ≤ j ∧ j < 1000000 ∧ P j := ⟨i, rfl, h.1, h.2, q⟩
theorem v_repT {xs : List Val} {k : Int} (h : xs ≠ [] ∧ 1 ≤ k ∧ k ≤ 1000 ∧ xs.length ≤ 1000) (q : Q (.tup (Ab.repW' k.toNat xs)) st) : WpR (Ab.vRepT (.tup xs) (.int k) st) Q X := by
  simp only [uR, uO, uG] at *
  dsimp only [Ab.vRepT]; rw [if_pos h]; exact q
theorem v_repL {i : Nat} {xs : List Val} {k : Int} (hx : st[i]? = some (.lst xs)) (h : -1000 ≤ k ∧ k ≤ 1000 ∧ xs.length ≤ 1000) (q : New (.lst (Ab.repW' k.toNat xs)) st fun n s => Q (.ref n) s) : WpR (Ab.vRepL (.ref i) (.int k) st) Q X := by
  simp only [uR, uO, uG] at *
  dsimp only [Ab.vRepL]; rw [hx]; dsimp only; rw [if_pos h]; exact q.at
theorem nf0 {a x : Option Val} {l : Slots} {n : Slots → Prop} (q : n (x :: l)) : NF (a :: l) 0 x n := q
theorem nf1 {a x : Option Val} {l : Slots} {i : Nat} {n : Slots → Prop} (q : NF l i x fun l => n (a :: l)) : NF (a :: l) (i + 1) x n := q
theorem nf4 {a b c d x : Option Val} {l : Slots} {i : Nat} {n : Slots → Prop} (q : NF l i x fun l => n (a :: b :: c :: d :: l)) : NF (a :: b :: c :: d :: l) (i + 4) x n := q
theorem isb_t {b : Bool} {P : Bool → Prop} (h : b = true) (q : P true) : TruB b P := by subst h; exact q
theorem isb_f {b : Bool} {P : Bool → Prop} (h : b = false) (q : P false) : TruB b P := by subst h; exact q
theorem ex_isi {w : Val} {k : Ab.Kd} {P : Ab.Kd → Prop} (h : Ab.kindW st w = some k) (q : P k) : ∃ k, Ab.kindW st w = some k ∧ P k := ⟨k, h, q⟩
theorem and_wp {s : Store} {r : R α} (q : WpR r QA X) : s = s ∧ WpR r QA X := ⟨rfl, q⟩
theorem v_pow6 (q : Q (.int 1000000) st) : WpR (Ab.vPow (.int 10) (.int 6) st) Q X := v_pow (by decide) rfl q
theorem v_pow9 (q : Q (.int 1000000000) st) : WpR (Ab.vPow (.int 10) (.int 9) st) Q X := v_pow (by decide) rfl q
theorem v_pow18 (q : Q (.int 1000000000000000000) st) : WpR (Ab.vPow (.int 10) (.int 18) st) Q X := v_pow (by decide) rfl q
theorem new_by {d : Cell} {P : Nat → Store → Prop} (q : ∀ (n : Nat) (s : Store), s[n]? = some d → Keep [] st s → st.length ≤ n → P n s) : New d st P := q
theorem wr_by {n : Nat} {d : Cell} {P : Store → Prop} (q : ∀ s : Store, s[n]? = some d → Keep [n] st s → P s) : Wr n d st P := q
theorem ne_new {i n : Nat} {c : Cell} (hn : st.length ≤ n) (h : st[i]? = some c) : n ≠ i := fun e => by
  have := lt_of h
  omega
theorem ne_new' {i n : Nat} {c : Cell} (hn : st.length ≤ n) (h : st[i]? = some c) : i ≠ n := (ne_new hn h).symm
theorem nin_cons {i a : Nat} {S : List Nat} (h : i ≠ a) (t : i ∉ S) : i ∉ a :: S := fun z => (List.mem_cons.mp z).elim h t
theorem hs_nil {S : List Nat} {m : Nat} : ∀ i ∈ ([] : List Nat), i ∈ S ∨ m ≤ i := fun _ z => by cases z
theorem hs_cons {S S' : List Nat} {m n : Nat} (h : n ∈ S ∨ m ≤ n) (t : ∀ i ∈ S', i ∈ S ∨ m ≤ i) : ∀ i ∈ n :: S', i ∈ S ∨ m ≤ i := fun i z => (List.mem_cons.mp z).elim (fun e => by subst e; exact h) (t i)
theorem k_len {S : List Nat} {a b c : Store} (h : Keep S b c) (h0 : a.length ≤ b.length) : a.length ≤ c.length := Nat.le_trans h0 h.1
theorem chk_lst {kvs : List (Key × Val)} {n : Nat} (h : st[n]? = some (.dct [])) (hl : Nat.ble kvs.length 15 = true) (q : P) : st[n]? = some (.dct []) ∧ kvs.length ≤ 15 ∧ P := ⟨h, Nat.le_of_ble_eq_true hl, q⟩
/-- what is told of a run is used -/
theorem via {r : R α} {Q' : α → Store → Prop} (h : WpR r Q' X') (q : ∀ a s, Q' a s → QA a s) (x : ∀ e s, X' e s → X e s) : WpR r QA X := by
  simp only [uR, uO, uG] at *
  exact Ab.WpR.mono h q x
theorem via0 {r : R α} {Q' : α → Store → Prop} (h : WpR r Q' fun _ _ => False) (q : ∀ a s, Q' a s → QA a s) : WpR r QA X := by
  simp only [uR, uO, uG] at *
  exact Ab.WpR.mono h q fun _ _ h => h.elim
end
end Vc

set_option Elab.async false
set_option linter.all false
set_option maxRecDepth 100000
set_option maxHeartbeats 1000000
/-! Ab: plain facts for the plain laws: lists told by data. -/
namespace Vc
open PySem PySem.Spec PyProof.Rows L2
open Ab (Val Cell Store Slots R O ME MT MA MS MF MG MGs MI MO Chk Wish Exc seqAt Keep vIx vFld vAdd New Wr)
section
variable {α β : Type} {Q : Val → Store → Prop} {X : Exc → Store → Prop} {st : Store}
theorem enum_map (f : α → Val) : ∀ (xs : List α) (k : Nat), Ab.enumFrom k (xs.map f) = (xs.zipIdx k).map fun p => .tup [.int p.2, f p.1]
  | [], _ => rfl
  | x :: xs, k => by rw [List.map_cons, Ab.enumFrom, List.zipIdx_cons, List.map_cons, enum_map f xs (k + 1)]
theorem zip_map (f : α → Val) (g : β → Val) : ∀ (xs : List α) (ys : List β), Ab.zipW (xs.map f) (ys.map g) = (xs.zip ys).map fun p => .tup [f p.1, g p.2]
  | [], _ => by simp [Ab.zipW]
  | _ :: _, [] => by simp [Ab.zipW]
  | x :: xs, y :: ys => by rw [List.map_cons, List.map_cons, Ab.zipW, List.zip_cons_cons, List.map_cons, zip_map f g xs ys]
theorem idx_split {xs : List α} {d rest : List (α × Nat)} {p : α × Nat} (h : xs.zipIdx = d ++ p :: rest) : xs[d.length]? = some p.1 ∧ p.2 = d.length ∧ d.map (·.1) = xs.take d.length ∧ d.length < xs.length := by
  have h0 : xs.zipIdx[d.length]? = some p := by rw [h]; simp
  rw [List.getElem?_zipIdx] at h0
  have hl : d.length < xs.length := by
    have := congrArg List.length h
    simp at this
    omega
  have h1 : d.map (·.1) = xs.take d.length := by
    have := congrArg (fun z => (z.map (·.1)).take d.length) h
    simp only [List.zipIdx_map_fst] at this
    rw [this]
    simp
  cases e : xs[d.length]? with
  | none => rw [e] at h0; cases h0
  | some x =>
    rw [e] at h0
    have := Option.some.inj h0
    subst this
    exact ⟨rfl, by simp, h1, hl⟩
theorem zip_split {xs : List α} {ys : List β} {d rest : List (α × β)} {p : α × β} (h : xs.zip ys = d ++ p :: rest) : xs[d.length]? = some p.1 ∧ ys[d.length]? = some p.2 := by
  have h0 : (xs.zip ys)[d.length]? = some p := by rw [h]; simp
  rw [List.getElem?_zip_eq_some] at h0
  exact h0
theorem range_split {n : Nat} {d rest : List Nat} {x : Nat} (h : List.range n = d ++ x :: rest) : x = d.length ∧ d = List.range d.length ∧ x < n := by
  have hl := congrArg List.length h
  simp at hl
  have h0 : (List.range n)[d.length]? = some x := by rw [h]; simp
  rw [List.getElem?_range (by omega)] at h0
  have h1 : d = (List.range n).take d.length := by rw [h]; simp
  have hx : x = d.length := (Option.some.inj h0).symm
  refine ⟨hx, ?_, by omega⟩
  rw [h1]
  simp [List.take_range]
theorem cut_take (xs : List α) (i : Nat) : Ab.cut xs none (some (i : Int)) = xs.take i := by
  unfold Ab.cut
  rw [HT.sIx_none, HT.sIx_nat, List.drop_zero, Nat.sub_zero]
  by_cases h : i ≤ xs.length
  · rw [Nat.min_eq_left h]
  · rw [Nat.min_eq_right (by omega), List.take_of_length_le (Nat.le_refl _), List.take_of_length_le (by omega)]
theorem cut_drop (xs : List α) (i : Nat) : Ab.cut xs (some (i : Int)) none = xs.drop i := by
  unfold Ab.cut
  rw [HT.sIx_none, HT.sIx_nat]
  by_cases h : i ≤ xs.length
  · rw [Nat.min_eq_left h, List.take_of_length_le (by rw [List.length_drop]; omega)]
  · rw [Nat.min_eq_right (by omega), List.drop_of_length_le (Nat.le_refl _), List.drop_of_length_le (by omega)]; simp
theorem v_allL {i : Nat} {bs : List Bool} (h : st[i]? = some (.lst (bs.map .bl))) (q : Q (.bl (bs.all id)) st) : WpR (Ab.bAll [.ref i] st) Q X := by
  simp only [uR, uO, uG] at *
  dsimp only [Ab.bAll, Ab.ofBools]; rw [Ab.seqAt_lst h]; dsimp only; rw [Ab.asBools_map]; exact q
theorem inW_str (a : Str) (xs : List Str) : Ab.inW (.str a) (xs.map .str) = decide (a ∈ xs) := by
  unfold Ab.inW
  induction xs with
  | nil => simp
  | cons x xs ih =>
    rw [List.map_cons, List.any_cons, ih]
    simp only [Ab.eqW, List.mem_cons, Bool.decide_or]
    congr 1
    by_cases h : x = a
    · subst h; simp
    · rw [beq_eq_false_iff_ne.mpr h, decide_eq_false fun e => h e.symm]
theorem flat_str (xs : List Str) : (xs.map Val.str).all Ab.flatW = true := by
  rw [List.all_map]; exact List.all_eq_true.mpr fun _ _ => rfl
theorem place_str (a : Str) (xs : List Str) : Ab.placeW (.str a) (xs.map .str) = if a ∈ xs then some (xs.idxOf a) else none := by
  induction xs with
  | nil => simp [Ab.placeW]
  | cons x xs ih =>
    rw [List.map_cons, Ab.placeW, ih]
    by_cases h : x = a
    · subst h; simp [Ab.eqW]
    · have e : Ab.eqW (.str x) (.str a) = false := beq_eq_false_iff_ne.mpr h
      rw [if_neg (by rw [e]; exact Bool.false_ne_true), List.idxOf_cons, beq_eq_false_iff_ne.mpr h, cond_false]
      have m : a ∈ x :: xs ↔ a ∈ xs := ⟨fun z => (List.mem_cons.mp z).elim (fun e => absurd e.symm h) id, fun z => List.mem_cons_of_mem _ z⟩
      by_cases hm : a ∈ xs
      · rw [if_pos hm, if_pos (m.mpr hm)]; rfl
      · rw [if_neg hm, if_neg fun z => hm (m.mp z)]; rfl
theorem v_idxL {i : Nat} {a : Str} {xs : List Str} (h : st[i]? = some (.lst (xs.map .str))) (ha : a ∈ xs) (q : Q (.int (xs.idxOf a : Nat)) st) : WpR (Ab.vIndex (.ref i) [.str a] st) Q X := by
  simp only [uR, uO, uG] at *
  dsimp only [Ab.vIndex]; rw [Ab.seqAt_lst h]; dsimp only
  rw [flat_str, if_pos (by rfl), place_str, if_pos ha]; exact q
theorem v_inLs {a : Str} {i : Nat} {ys : List Str} (h : st[i]? = some (.lst (ys.map .str))) (q : Q (.bl (decide (a ∈ ys))) st) : WpR (Ab.vIn (.str a) (.ref i) st) Q X := v_inL rfl h (flat_str ys) (by rw [inW_str]; exact q)
theorem v_ninLs {a : Str} {i : Nat} {ys : List Str} (h : st[i]? = some (.lst (ys.map .str))) (q : Q (.bl (!decide (a ∈ ys))) st) : WpR (Ab.vNotIn (.str a) (.ref i) st) Q X := v_ninL rfl h (flat_str ys) (by rw [inW_str]; exact q)
theorem v_inTs {a : Str} {ys : List Str} (q : Q (.bl (decide (a ∈ ys))) st) : WpR (Ab.vIn (.str a) (.tup (ys.map .str)) st) Q X := v_inT rfl (flat_str ys) (by rw [inW_str]; exact q)
theorem v_ninTs {a : Str} {ys : List Str} (q : Q (.bl (!decide (a ∈ ys))) st) : WpR (Ab.vNotIn (.str a) (.tup (ys.map .str)) st) Q X := v_ninT rfl (flat_str ys) (by rw [inW_str]; exact q)
theorem v_ixTn {xs : List α} {f : α → Val} {i : Nat} {x : α} (h : xs[i]? = some x) (q : Q (f x) st) : WpR (vIx (.tup (xs.map f)) (.int i) st) Q X := v_ixT (atI_nat (by rw [List.getElem?_map, h]; rfl)) q
theorem v_ixLn {n : Nat} {xs : List α} {f : α → Val} {i : Nat} {x : α} (hs : st[n]? = some (.lst (xs.map f))) (h : xs[i]? = some x) (q : Q (f x) st) : WpR (vIx (.ref n) (.int i) st) Q X := v_ixL hs (atI_nat (by rw [List.getElem?_map, h]; rfl)) q
/-- from and to the plain wish -/
theorem of_ab {r : R α} {QA : α → Store → Prop} (h : Ab.WpR r QA X) : WpR r QA X := by rw [uR]; exact h
theorem to_ab {r : R α} {QA : α → Store → Prop} (h : WpR r QA X) : Ab.WpR r QA X := by rwa [uR] at h
/-! equality of nested data -/
theorem deep_map {f : α → Val} {g : α → PyData} {n : Nat} : ∀ {xs : List α}, (∀ x ∈ xs, Ab.deep st n (f x) = some (g x)) → Ab.mapO (Ab.deep st n) (xs.map f) = some (xs.map g)
  | [], _ => rfl
  | x :: xs, h => by
    rw [List.map_cons, Ab.mapO, h x (by simp), deep_map (xs := xs) fun y hy => h y (by simp [hy])]; rfl
theorem deep_tup {f : α → Val} {g : α → PyData} {n : Nat} {xs : List α} (h : ∀ x ∈ xs, Ab.deep st n (f x) = some (g x)) : Ab.deep st (n + 1) (.tup (xs.map f)) = some (.tuple (xs.map g)) := by
  rw [Ab.deep, deep_map h]; rfl
theorem deep_ints {n : Nat} {xs : List Int} : Ab.deep st (n + 2) (.tup (xs.map .int)) = some (.tuple (xs.map .int)) := deep_tup fun x _ => by rw [Ab.deep]
theorem eqv_ints : ∀ xs ys : List Int, PyData.eqvAll (xs.map .int) (ys.map .int) = decide (xs = ys)
  | [], [] => rfl
  | [], _ :: _ => rfl
  | _ :: _, [] => rfl
  | x :: xs, y :: ys => by
    rw [List.map_cons, List.map_cons, PyData.eqvAll, eqv_ints xs ys]
    simp only [PyData.eqv, List.cons.injEq, Bool.decide_and]
    congr 1
theorem v_eqTT {xs ys : List Val} {d e : PyData} (h1 : Ab.deep st 16 (.tup xs) = some d) (h2 : Ab.deep st 16 (.tup ys) = some e) (q : Q (.bl (PyData.eqv d e)) st) : WpR (Ab.vEq (.tup xs) (.tup ys) st) Q X := by
  simp only [uR, uO, uG] at *
  show Ab.WpR (match Ab.deep st 16 (.tup xs), Ab.deep st 16 (.tup ys) with | some d, some e => .ok (.bl (PyData.eqv d e)) st | _, _ => .bad) Q X
  rw [h1, h2]; exact q
theorem v_neTT {xs ys : List Val} {d e : PyData} (h1 : Ab.deep st 16 (.tup xs) = some d) (h2 : Ab.deep st 16 (.tup ys) = some e) (q : Q (.bl (!PyData.eqv d e)) st) : WpR (Ab.vNe (.tup xs) (.tup ys) st) Q X := by
  simp only [uR, uO, uG] at *
  show Ab.WpR (match Ab.deep st 16 (.tup xs), Ab.deep st 16 (.tup ys) with | some d, some e => .ok (.bl (!PyData.eqv d e)) st | _, _ => .bad) Q X
  rw [h1, h2]; exact q
theorem v_neTI {xs ys : List Int} (q : Q (.bl (!decide (xs = ys))) st) : WpR (Ab.vNe (.tup (xs.map .int)) (.tup (ys.map .int)) st) Q X := v_neTT deep_ints deep_ints (by
  show Q (.bl (!PyData.eqvAll _ _)) st
  rw [eqv_ints]; exact q)
theorem v_eqNN (q : Q (.bl true) st) : WpR (Ab.vEq .non .non st) Q X := by
  simp only [uR] at *
  show Ab.WpR (match Ab.deep st 16 .non, Ab.deep st 16 .non with | some d, some e => .ok (.bl (PyData.eqv d e)) st | _, _ => .bad) Q X
  rw [show Ab.deep st 16 .non = some .none from rfl]; exact q
/-- a tuple of data against () -/
theorem v_eqT0 {f : α → Val} {g : α → PyData} {xs : List α} (h : ∀ x ∈ xs, Ab.deep st 15 (f x) = some (g x)) (q : Q (.bl (decide (xs = []))) st) : WpR (Ab.vEq (.tup (xs.map f)) (.tup []) st) Q X := v_eqTT (deep_tup h) rfl (by
  show Q (.bl (PyData.eqvAll (xs.map g) [])) st
  cases xs with
  | nil => exact q
  | cons x xs =>
    rw [List.map_cons, PyData.eqvAll]
    rwa [decide_eq_false (by simp)] at q)
theorem v_eqTI0 {xs : List Int} (q : Q (.bl (decide (xs = []))) st) : WpR (Ab.vEq (.tup (xs.map .int)) (.tup []) st) Q X := v_eqT0 (g := .int) (fun x _ => by rw [Ab.deep]) q
end
section
variable {α : Type} {X : Exc → Store → Prop} {Q : Val → Store → Prop} {st : Store}
theorem lc_new {g : MG} {t : MT} {elt : ME} {okp : Store → Prop} {ρ : Slots} {items : List Val} (q : New (.lst []) st fun D s => WpR (Ab.lcM g t elt okp D ρ items s) Q X) : WpR (Ab.lcM g t elt okp st.length ρ items (st ++ [.lst []])) Q X := by
  simp only [uR, uO, uG] at *
  exact q.at
/-- a comprehension without a test that may write, by an invariant -/
theorem lcY_l {xs : List α} {F : α → Val} {g : MG} {elt : ME} {okp : Store → Prop} {D : Nat} {ρ : Slots} (Inv : List α → List Val → Store → Prop) (hok : ∀ d acc s, Inv d acc s → okp s)
    (step : ∀ d x rest acc s, xs = d ++ x :: rest → Inv d acc s → s[D]? = some (.lst acc) → WpG (g (F x) ρ s) (fun ρ1 s1 => WpR (elt ρ1 s1) (fun y s3 => s3[D]? = some (.lst acc) ∧ acc.length < 100000 ∧ Wr D (.lst (acc ++ [y])) s3 fun s4 => Inv (d ++ [x]) (acc ++ [y]) s4) fun _ _ => False))
    (fin : ∀ acc s, Inv xs acc s → s[D]? = some (.lst acc) → Q (.ref D) s) (h : Inv [] [] st) (hD : st[D]? = some (.lst [])) : WpR (Ab.lcM g Se.mYes elt okp D ρ (xs.map F) st) Q X := by
  simp only [uR, uO, uG] at *
  have key : ∀ (rest d : List α) (acc : List Val) (s : Store), xs = d ++ rest → Inv d acc s → s[D]? = some (.lst acc) → Ab.WpR (Ab.lcM g Se.mYes elt okp D ρ (rest.map F) s) Q X := by
    intro rest
    induction rest with
    | nil =>
      intro d acc s e hI hs
      rw [List.append_nil] at e; subst e
      unfold Ab.lcM
      rw [List.map_nil]; dsimp only
      rw [if_pos (hok _ _ _ hI)]
      exact fin acc s hI hs
    | cons x rest ih =>
      intro d acc s e hI hs
      rw [List.map_cons]
      unfold Ab.lcM
      rw [if_pos (hok _ _ _ hI)]
      have h1 := step d x rest acc s e hI hs
      cases hg : g (F x) ρ s with
      | none => rw [hg] at h1; exact h1.elim
      | some p =>
        obtain ⟨ρ1, s1⟩ := p
        rw [hg] at h1
        dsimp only [Ab.WpG] at h1 ⊢
        rw [show Se.mYes ρ1 s1 = .ok true s1 from rfl]
        dsimp only [R.noX, R.bind]
        rw [if_pos rfl]
        cases q : elt ρ1 s1 with
        | bad => rw [q] at h1; exact h1.elim
        | exc x s2 => rw [q] at h1; exact h1.elim
        | ok y s3 =>
          rw [q] at h1
          obtain ⟨h2, h3, h4⟩ := h1
          dsimp only [R.noX, R.bind]
          rw [h2]; dsimp only
          rw [if_pos (by rw [sizeLine_eq]; omega)]
          exact ih (d ++ [x]) _ _ (by rw [e]; simp) (h4.at h2) (by rw [List.getElem?_set_self (lt_of h2)])
  exact key xs [] [] st rfl h hD
/-- a comprehension whose test never holds -/
theorem lc_none {xs : List α} {F : α → Val} {g : MG} {t : MT} {elt : ME} {okp : Store → Prop} {D : Nat} {ρ : Slots} (hok : ∀ s, Keep [] st s → okp s)
    (step : ∀ x ∈ xs, ∀ s, Keep [] st s → WpG (g (F x) ρ s) (fun ρ1 s1 => WpR (t ρ1 s1) (fun b s2 => b = false ∧ Keep [] s s2) fun _ _ => False))
    (q : ∀ s, Keep [] st s → Q (.ref D) s) : WpR (Ab.lcM g t elt okp D ρ (xs.map F) st) Q X := by
  simp only [uR, uO, uG] at *
  have key : ∀ (rest : List α) (s : Store), (∀ x ∈ rest, x ∈ xs) → Keep [] st s → Ab.WpR (Ab.lcM g t elt okp D ρ (rest.map F) s) Q X := by
    intro rest
    induction rest with
    | nil =>
      intro s _ k
      unfold Ab.lcM
      rw [List.map_nil]; dsimp only
      rw [if_pos (hok _ k)]
      exact q s k
    | cons x rest ih =>
      intro s hm k
      rw [List.map_cons]
      unfold Ab.lcM
      rw [if_pos (hok _ k)]
      have h1 := step x (hm x (by simp)) s k
      cases hg : g (F x) ρ s with
      | none => rw [hg] at h1; exact h1.elim
      | some p =>
        obtain ⟨ρ1, s1⟩ := p
        rw [hg] at h1
        dsimp only [Ab.WpG] at h1 ⊢
        cases q : t ρ1 s1 with
        | bad => rw [q] at h1; exact h1.elim
        | exc x s2 => rw [q] at h1; exact h1.elim
        | ok y s3 =>
          rw [q] at h1
          obtain ⟨rfl, h2⟩ := h1
          dsimp only [R.noX, R.bind]
          rw [if_neg Bool.false_ne_true]
          exact ih s3 (fun y hy => hm y (by simp [hy])) (k.trans h2)
  exact key xs st (fun _ h => h) .refl
theorem v_eq00 {a b : Nat} (h1 : st[a]? = some (.lst [])) (h2 : st[b]? = some (.lst [])) (q : Q (.bl true) st) : WpR (Ab.vEq (.ref a) (.ref b) st) Q X := by
  simp only [uR, uO, uG] at *
  have d : ∀ {n : Nat}, st[n]? = some (.lst []) → Ab.deep st 16 (.ref n) = some (.list []) := fun h => by rw [Ab.deep, Ab.seqAt_lst h]; rfl
  show Ab.WpR (match Ab.deep st 16 (.ref a), Ab.deep st 16 (.ref b) with | some d, some e => .ok (.bl (PyData.eqv d e)) st | _, _ => .bad) Q X
  rw [d h1, d h2]; exact q
/-- two values alike, down to a depth -/
def Alike (st : Store) : Nat → Val → Val → Prop
  | 0, _, _ => False
  | n + 1, x, y => match x, y with
    | .non, .non => True
    | .bl a, .bl b => a = b
    | .int a, .int b => a = b
    | .str a, .str b => a = b
    | .tup xs, .tup ys => xs.length = ys.length ∧ xs.length ≤ 100000 ∧ ∀ (i : Nat) (x y : Val), xs[i]? = some x → ys[i]? = some y → Alike st n x y
    | .ref a, .ref b => ∃ xs ys, st[a]? = some (.lst xs) ∧ st[b]? = some (.lst ys) ∧ xs.length = ys.length ∧ xs.length ≤ 100000 ∧ ∀ (i : Nat) (x y : Val), xs[i]? = some x → ys[i]? = some y → Alike st n x y
    | _, _ => False
theorem Alike.keep {st s : Store} (k : Keep [] st s) : ∀ {n : Nat} {x y : Val}, Alike st n x y → Alike s n x y
  | 0, _, _, h => h.elim
  | n + 1, x, y, h => by
    unfold Alike at h ⊢
    split at h <;> first | exact h | skip
    · exact ⟨h.1, h.2.1, fun i x y hx hy => Alike.keep k (h.2.2 i x y hx hy)⟩
    · obtain ⟨xs, ys, h1, h2, h3, h4, h5⟩ := h
      exact ⟨xs, ys, k.get h1 (by simp), k.get h2 (by simp), h3, h4, fun i x y hx hy => Alike.keep k (h5 i x y hx hy)⟩
theorem put_new {kvs : List (Key × Val)} {k : Key} {w : Val} (h : ∀ p ∈ kvs, p.1 ≠ k) : Ab.putW kvs k w = kvs ++ [(k, w)] := by
  unfold Ab.putW
  rw [if_neg]
  rw [List.any_eq_true]
  rintro ⟨p, hp, e⟩
  exact h p hp (by simpa using e)
/-- a dict comprehension that only reads, of names that differ -/
theorem dc_pure {xs : List α} {F : α → Val} {g : MG} {mk mv : ME} {okp : Store → Prop} {ρ : Slots} (kf : α → Str) (vf : α → Val) (nd : (xs.map kf).Nodup) (hok : ∀ acc, okp (st ++ [.dct acc])) (hl : xs.length ≤ 900)
    (step : ∀ x ∈ xs, ∀ acc, WpG (g (F x) ρ (st ++ [.dct acc])) (fun ρ1 st1 => st1 = st ++ [.dct acc] ∧ WpR (mk ρ1 (st ++ [.dct acc])) (fun y s => y = .str (kf x) ∧ s = st ++ [.dct acc] ∧ WpR (mv ρ1 (st ++ [.dct acc])) (fun z s => z = vf x ∧ s = st ++ [.dct acc]) fun _ _ => False) fun _ _ => False))
    (q : New (.dct (xs.map fun x => (.inr (kf x), vf x))) st fun n s => Q (.ref n) s) : WpR (Ab.dcM g Se.mYes mk mv okp st.length ρ (xs.map F) (st ++ [.dct []])) Q X := by
  simp only [uR, uG] at *
  have key : ∀ (rest d : List α), xs = d ++ rest → Ab.dcM g Se.mYes mk mv okp st.length ρ (rest.map F) (st ++ [.dct (d.map fun x => (.inr (kf x), vf x))]) = .ok (.ref st.length) (st ++ [.dct (xs.map fun x => (.inr (kf x), vf x))]) := by
    intro rest
    induction rest with
    | nil =>
      intro d e
      rw [List.append_nil] at e; subst e
      unfold Ab.dcM
      rw [List.map_nil]; dsimp only
      rw [if_pos (hok _)]
    | cons x rest ih =>
      intro d e
      have e' : xs = (d ++ [x]) ++ rest := by rw [e]; simp
      have hlen : xs.length = d.length + (rest.length + 1) := by rw [e]; simp
      rw [List.map_cons]
      unfold Ab.dcM
      rw [if_pos (hok _)]
      have hs := step x (by rw [e]; simp) (d.map fun x => (.inr (kf x), vf x))
      cases hg : g (F x) ρ (st ++ [.dct (d.map fun x => (.inr (kf x), vf x))]) with
      | none => rw [hg] at hs; exact hs.elim
      | some pr =>
        obtain ⟨ρ1, st1⟩ := pr
        rw [hg] at hs
        obtain ⟨rfl, hs⟩ := hs
        dsimp only
        rw [show ∀ s, Se.mYes ρ1 s = .ok true s from fun _ => rfl]
        dsimp only [R.noX, R.bind]
        rw [if_pos rfl]
        cases hm : mk ρ1 (st ++ [.dct (d.map fun x => (.inr (kf x), vf x))]) with
        | bad => rw [hm] at hs; exact hs.elim
        | exc e s => rw [hm] at hs; exact hs.elim
        | ok y s =>
          rw [hm] at hs
          obtain ⟨rfl, rfl, hs⟩ := hs
          dsimp only [R.noX, R.bind]
          cases hv : mv ρ1 (st ++ [.dct (d.map fun x => (.inr (kf x), vf x))]) with
          | bad => rw [hv] at hs; exact hs.elim
          | exc e s => rw [hv] at hs; exact hs.elim
          | ok z s =>
            rw [hv] at hs
            obtain ⟨rfl, rfl⟩ := hs
            dsimp only [R.noX, R.bind]
            rw [get_last]
            dsimp only [Ab.keyW]
            rw [if_pos (by rw [List.length_map]; omega)]
            rw [put_new (fun p hp => by
              obtain ⟨y, hy, rfl⟩ := List.mem_map.mp hp
              intro e2
              have e3 : kf y = kf x := Sum.inr.inj e2
              rw [e, List.map_append, List.map_cons] at nd
              exact (List.nodup_append.mp nd).2.2 _ (List.mem_map_of_mem hy) _ (by simp) e3)]
            rw [show (st ++ [Cell.dct (d.map fun x => (.inr (kf x), vf x))]).set st.length (.dct ((d.map fun x => (.inr (kf x), vf x)) ++ [(.inr (kf x), vf x)])) = st ++ [Cell.dct ((d ++ [x]).map fun x => (.inr (kf x), vf x))] by simp]
            exact ih _ e'
  have k0 := key xs [] rfl
  rw [List.map_nil] at k0
  rw [k0]
  exact q.at
theorem alike_flat {n : Nat} {x : Val} (h : Ab.flatW x = true) : Alike st (n + 1) x x := by
  unfold Alike
  cases x <;> first | trivial | rfl | (simp [Ab.flatW] at h)
theorem alike_tup {n : Nat} {xs : List Val} (hl : xs.length ≤ 100000) (h : ∀ x ∈ xs, Alike st n x x) : Alike st (n + 1) (.tup xs) (.tup xs) :=
  ⟨rfl, hl, fun i x y hx hy => by rw [hx] at hy; cases hy; exact h x (List.mem_of_getElem? hx)⟩
theorem alike_flats {n : Nat} {xs : List Val} (hl : xs.length ≤ 100000) (h : xs.all Ab.flatW = true) : Alike st (n + 2) (.tup xs) (.tup xs) := alike_tup hl fun x hx => alike_flat (List.all_eq_true.mp h x hx)
theorem alike_lst {n a b : Nat} {xs : List Val} (h1 : st[a]? = some (.lst xs)) (h2 : st[b]? = some (.lst xs)) (hl : xs.length ≤ 100000) (h : ∀ x ∈ xs, Alike st n x x) : Alike st (n + 1) (.ref a) (.ref b) :=
  ⟨xs, xs, h1, h2, rfl, hl, fun i x y hx hy => by rw [hx] at hy; cases hy; exact h x (List.mem_of_getElem? hx)⟩
theorem alike_two {n a b : Nat} {xs ys : List Val} (h1 : st[a]? = some (.lst xs)) (h2 : st[b]? = some (.lst ys)) (hl : xs.length ≤ 100000) (h : Paired (fun x y => Alike st n x y) xs ys) : Alike st (n + 1) (.ref a) (.ref b) := by
  have key : ∀ {xs ys : List Val}, Paired (fun x y => Alike st n x y) xs ys → xs.length = ys.length ∧ ∀ (i : Nat) (x y : Val), xs[i]? = some x → ys[i]? = some y → Alike st n x y := by
    intro xs ys h
    induction h with
    | nil => exact ⟨rfl, fun i x y h => by simp at h⟩
    | cons h t ih =>
      refine ⟨by simp [ih.1], fun i x y hx hy => ?_⟩
      cases i with
      | zero => simp at hx hy; subst hx hy; exact h
      | succ i => exact ih.2 i x y (by simpa using hx) (by simpa using hy)
  exact ⟨xs, ys, h1, h2, (key h).1, hl, (key h).2⟩
theorem viaN {o : O} {n n' : Slots → Store → Prop} {r : Val → Store → Prop} {k l : Slots → Store → Prop} (h : WpO o { nx := n' }) (q : ∀ ρ s, n' ρ s → n ρ s) : WpO o ⟨n, r, k, l, X⟩ := by
  simp only [uO] at *
  exact Ab.WpO.mono h q (fun _ _ h => h.elim) (fun _ _ h => h.elim) (fun _ _ h => h.elim) (fun _ _ h => h.elim)
/-- sets of cells that have none in common -/
def Dis (xs ys : List Nat) : Prop := ∀ x ∈ xs, x ∉ ys
theorem Dis.symm {xs ys : List Nat} (h : Dis xs ys) : Dis ys xs := fun y hy hx => h y hx hy
theorem Dis.repl {xs ys ys' : List Nat} {m : Nat} (h : Dis xs ys) (hx : ∀ x ∈ xs, x < m) (hy : ∀ y ∈ ys', y ∈ ys ∨ m ≤ y) : Dis xs ys' := fun x hx' hy' => by
  rcases hy x hy' with z | z
  · exact h x hx' z
  · have := hx x hx'; omega
theorem Dis.sub {xs ys ys' : List Nat} (h : Dis xs ys) (hy : ∀ y ∈ ys', y ∈ ys) : Dis xs ys' := fun x hx hy' => h x hx (hy x hy')
end
end Vc

set_option Elab.async false
set_option linter.all false
set_option maxRecDepth 100000
set_option maxHeartbeats 2000000
namespace K43
open PySem PySem.Spec PyProof.Rows L2
open Ab hiding mVar mC mBin mTest mChain tAndM tOrM tNotM mAnd mOr mNot mIf aNil aCons mTup mLst mApp mCut oNone oSome sNext sSeq sSet sRet sDrop sIf sAug sBreak sCont gSet gsNil gsCons gTupM sAsg sPar sFor iRange1 iRange2 mFld sFldM sFldAugM mMeth mProp vMake iEnumM iZipM iSeqM iStrM mYes mLc mBM gSubL mIsi sRaise sRaise0 aStar mOp mLen mDget gSubD mDisp mItems mDc gFld mOutcome mBad sBad mNeg
open Se
noncomputable def m_law_mix : MS := sSeq (sSet 2 (mVar 1)) (sSeq (sFor (iSeqM (mVar 0)) (gSet 3) (sSet 2 (mBin vMod (mBin vAdd (mBin vAdd (mBin vMul (mVar 2) (mC (.int 48271))) (mBin vMod (mVar 3) (mC (.int 2147483629)))) (mC (.int 1))) (mC (.int 2147483647))))) (sRet (mLst (aCons (mVar 2) (aCons (mApp bList (aCons (mVar 0) (aNil))) (aCons (mC (.int 0)) (aNil)))))))
noncomputable def f_law_mix : MF := defM 2 2 m_law_mix
noncomputable def m_law_next : MS := sSeq (sSet 2 (mBin vIx (mBin vAdd (mBin vIx (mVar 0) (mC (.int 1))) (mLst (aCons (mC (.int 0)) (aNil)))) (mBin vMod (mBin vIx (mVar 0) (mC (.int 2))) (mApp bMax2 (aCons (mC (.int 1)) (aCons (mApp bLen (aCons (mBin vIx (mVar 0) (mC (.int 1))) (aNil))) (aNil))))))) (sSeq (sIf (mTest (mBin vGe (mVar 2) (mBin vPow (mC (.int 10)) (mC (.int 18))))) (sSeq (sAsg (mBin vDiv (mVar 2) (mVar 1)) (gSubL (mBin vIx (mVar 0) (mC (.int 1))) (mBin vMod (mBin vIx (mVar 0) (mC (.int 2))) (mApp bLen (aCons (mBin vIx (mVar 0) (mC (.int 1))) (aNil)))))) (sRet (mBin vMod (mVar 2) (mVar 1)))) (sNext)) (sSeq (sAsg (mBin vMod (mBin vAdd (mBin vAdd (mBin vMul (mBin vIx (mVar 0) (mC (.int 0))) (mC (.int 48271))) (mBin vMul (mVar 2) (mC (.int 69621)))) (mC (.int 11))) (mC (.int 2147483647))) (gSubL (mVar 0) (mC (.int 0)))) (sSeq (sAsg (mBin vAdd (mBin vIx (mVar 0) (mC (.int 2))) (mC (.int 1))) (gSubL (mVar 0) (mC (.int 2)))) (sRet (mBin vMod (mBin vDiv (mBin vIx (mVar 0) (mC (.int 0))) (mC (.int 7))) (mVar 1))))))
noncomputable def f_law_next : MF := defM 2 1 m_law_next
noncomputable def m_law_parts : MS := sSeq (sPar 3 4 (aCons (mBin vAdd (mC (.int 1)) (mApp f_law_next (aCons (mVar 0) (aCons (mVar 1) (aNil))))) (aCons (mLst (aNil)) (aNil)))) (sSeq (sSet 5 (mApp bTuple (aCons (mLc (iRange1 (aCons (mVar 3) (aNil))) (gSet 6) (mYes) (mBin vMul (mApp f_law_next (aCons (mVar 0) (aCons (mVar 2) (aNil)))) (mApp bIntB (aCons (mBin vGt (mApp f_law_next (aCons (mVar 0) (aCons (mC (.int 3)) (aNil)))) (mC (.int 0))) (aNil)))) [6]) (aNil)))) (sSeq (sFor (iRange1 (aCons (mBin vAdd (mC (.int 1)) (mApp f_law_next (aCons (mVar 0) (aCons (mC (.int 4)) (aNil))))) (aNil))) (gSet 6) (sSeq (sSet 7 (mBin vIx (mLst (aCons (mC (.str "top")) (aCons (mC (.str "mid")) (aCons (mC (.str "low")) (aCons (mC (.str "abcdefgh")) (aNil)))))) (mVar 6))) (sSeq (sSet 8 (mApp bTuple (aCons (mLc (iRange1 (aCons (mVar 3) (aNil))) (gSet 9) (mYes) (mBin vMul (mApp f_law_next (aCons (mVar 0) (aCons (mBin vMul (mC (.int 2)) (mVar 2)) (aNil)))) (mApp bIntB (aCons (mBin vGt (mApp f_law_next (aCons (mVar 0) (aCons (mC (.int 3)) (aNil)))) (mC (.int 0))) (aNil)))) [9]) (aNil)))) (sDrop (mBM "list" vAppend (mVar 4) (aCons (mTup (aCons (mVar 7) (aCons (mApp f_law_next (aCons (mVar 0) (aCons (mBin vMul (mC (.int 5)) (mVar 2)) (aNil)))) (aCons (mApp f_law_next (aCons (mVar 0) (aCons (mC (.int 3)) (aNil)))) (aCons (mVar 8) (aNil)))))) aNil)))))) (sRet (mTup (aCons (mVar 5) (aCons (mApp bTuple (aCons (mVar 4) (aNil))) (aNil)))))))
noncomputable def f_law_parts : MF := defM 3 7 m_law_parts
noncomputable def m_Row_len : MS := sRet (mApp bLen (aCons (mFld [13] 30 (mVar 0)) (aNil)))
noncomputable def f_Row_len : MF := defM 1 0 m_Row_len
noncomputable def m_LiveRow_init : MS := sSeq (sFldM [20] 51 (mVar 0) (mVar 1)) (sSeq (sFldM [20] 52 (mVar 0) (mBin vRepT (mTup (aCons (mC (.int 0)) (aNil))) (mLen 13 f_Row_len (mVar 1)))) (sSeq (sFldM [20] 53 (mVar 0) (mC (.int 0))) (sSeq (sFldM [20] 54 (mVar 0) (mTup (aCons (mC (.int 0)) (aCons (mC (.int 0)) (aNil))))) (sSeq (sFldM [20] 55 (mVar 0) (mTup (aNil))) (sSeq (sFldM [20] 56 (mVar 0) (mLst (aNil))) (sFldM [20] 57 (mVar 0) (mLst (aNil))))))))
noncomputable def f_LiveRow_init : MF := defM 2 0 m_LiveRow_init
noncomputable def m_is_name : MS := sRet (mAnd (mChain vLe vLe (mC (.int 1)) (mApp bLen (aCons (mVar 0) (aNil))) (mC (.int 8))) (mApp bAll (aCons (mLc (iStrM (mVar 0)) (gSet 1) (mYes) (mBin vIn (mVar 1) (mC (.str "abcdefghijklmnopqrstuvwxyz"))) [1]) (aNil))))
noncomputable def f_is_name : MF := defM 1 1 m_is_name
noncomputable def m_is_barrel : MS := sSeq (sAsg (mVar 0) (gTupM 4 (gsCons (gSet 2) (gsCons (gSet 3) (gsCons (gSet 4) (gsCons (gSet 5) (gsNil))))))) (sSeq (sIf (tOrM (tNotM (mTest (mApp f_is_name (aCons (mVar 2) (aNil))))) (tOrM (tNotM (mTest (mChain vLe vLe (mC (.int 0)) (mVar 3) (mC (.int 1000000000))))) (tNotM (mTest (mChain vLe vLe (mC (.int 0)) (mVar 4) (mC (.int 100))))))) (sRet (mC (.bl false))) (sNext)) (sRet (mAnd (mBin vEq (mApp bLen (aCons (mVar 5) (aNil))) (mVar 1)) (mApp bAll (aCons (mLc (iSeqM (mVar 5)) (gSet 6) (mYes) (mChain vLe vLe (mC (.int 0)) (mVar 6) (mC (.int 1000000000))) [6]) (aNil))))))
noncomputable def f_is_barrel : MF := defM 2 5 m_is_barrel
noncomputable def m_Row_init : MS := sSeq (sFor (iEnumM (mVar 1)) (gTupM 2 (gsCons (gSet 3) (gsCons (gSet 4) (gsNil)))) (sIf (tOrM (mTest (mBin vEq (mVar 3) (mC (.int 12)))) (tNotM (mTest (mChain vLe vLe (mC (.int 0)) (mVar 4) (mC (.int 1000000)))))) (sRaise 1 [24, 25] (aCons (mC (.str "rain")) (aCons (mVar 3) (aNil)))) (sNext))) (sSeq (sIf (mTest (mBin vEq (mVar 1) (mTup (aNil)))) (sRaise 1 [24, 25] (aCons (mC (.str "rain")) (aCons (mNeg (mC (.int 1))) (aNil)))) (sNext)) (sSeq (sFor (iEnumM (mVar 2)) (gTupM 2 (gsCons (gSet 3) (gsCons (gSet 5) (gsNil)))) (sSeq (sSet 6 (mLc (iSeqM (mCut (mVar 2) oNone (oSome (mVar 3)))) (gSet 7) (mYes) (mBin vIx (mVar 7) (mC (.int 0))) [7])) (sIf (tOrM (mTest (mBin vEq (mVar 3) (mC (.int 5)))) (tOrM (tNotM (mTest (mApp f_is_barrel (aCons (mVar 5) (aCons (mApp bLen (aCons (mVar 1) (aNil))) (aNil)))))) (mTest (mBin vIn (mBin vIx (mVar 5) (mC (.int 0))) (mVar 6))))) (sRaise 1 [24, 25] (aCons (mC (.str "barrels")) (aCons (mVar 3) (aNil)))) (sNext)))) (sSeq (sIf (mTest (mBin vEq (mVar 2) (mTup (aNil)))) (sRaise 1 [24, 25] (aCons (mC (.str "barrels")) (aCons (mNeg (mC (.int 1))) (aNil)))) (sNext)) (sSeq (sFldM [13] 29 (mVar 0) (mVar 1)) (sFldM [13] 30 (mVar 0) (mVar 2))))))
noncomputable def f_Row_init : MF := defStarM 2 5 m_Row_init
noncomputable def m_Row_add : MS := sSeq (sIf (mTest (mBin vNe (mFld [13] 29 (mVar 0)) (mFld [13] 29 (mVar 1)))) (sRaise0 3) (sNext)) (sSeq (sSet 2 (mBin vAdd (mFld [13] 30 (mVar 0)) (mFld [13] 30 (mVar 1)))) (sRet (mApp (vMake 13 f_Row_init) (aCons (mFld [13] 29 (mVar 0)) (aStar (mVar 2) (aNil))))))
noncomputable def f_Row_add : MF := defM 2 1 m_Row_add
noncomputable def m_law_row : MS := sSeq (sSet 1 (mApp (vMake 13 f_Row_init) (aCons (mBin vIx (mVar 0) (mC (.int 0))) (aCons (mBin vIx (mBin vIx (mVar 0) (mC (.int 1))) (mC (.int 0))) (aNil))))) (sSeq (sFor (iSeqM (mCut (mBin vIx (mVar 0) (mC (.int 1))) (oSome (mC (.int 1))) oNone)) (gSet 2) (sSet 1 (mOp 13 f_Row_add (mVar 1) (mApp (vMake 13 f_Row_init) (aCons (mBin vIx (mVar 0) (mC (.int 0))) (aCons (mVar 2) (aNil))))))) (sRet (mVar 1)))
noncomputable def f_law_row : MF := defM 1 2 m_law_row
noncomputable def m_law_tick : MS := sSeq (sAsg (mTup (aCons (mLst (aNil)) (aCons (mC (.int 0)) (aCons (mC (.int 0)) (aCons (mC (.int 0)) (aNil)))))) (gTupM 4 (gsCons (gSet 5) (gsCons (gSet 6) (gsCons (gSet 7) (gsCons (gSet 8) (gsNil))))))) (sSeq (sFor (iRange1 (aCons (mApp bLen (aCons (mVar 1) (aNil))) (aNil))) (gSet 9) (sSeq (sAsg (mBin vIx (mBin vIx (mVar 0) (mC (.int 1))) (mVar 9)) (gTupM 4 (gsCons (gSet 10) (gsCons (gSet 11) (gsCons (gSet 12) (gsCons (gSet 13) (gsNil))))))) (sSeq (sSet 14 (mBin vAdd (mBin vAdd (mBin vIx (mVar 1) (mVar 9)) (mBin vMul (mVar 12) (mVar 3))) (mVar 8))) (sSeq (sSet 8 (mIf (mTest (mBin vGt (mVar 14) (mVar 11))) (mBin vSub (mVar 14) (mVar 11)) (mC (.int 0)))) (sSeq (sPar 14 15 (aCons (mBin vSub (mVar 14) (mVar 8)) (aCons (mBin vIx (mVar 13) (mBin vMod (mVar 2) (mApp bLen (aCons (mVar 13) (aNil))))) (aNil)))) (sSeq (sSet 16 (mIf (mTest (mBin vIn (mVar 10) (mVar 4))) (mC (.int 0)) (mIf (mTest (mBin vLt (mVar 15) (mVar 14))) (mVar 15) (mVar 14)))) (sSeq (sDrop (mBM "list" vAppend (mVar 5) (aCons (mBin vSub (mVar 14) (mVar 16)) aNil))) (sPar 6 7 (aCons (mBin vAdd (mVar 6) (mVar 16)) (aCons (mBin vSub (mBin vAdd (mVar 7) (mVar 15)) (mVar 16)) (aNil))))))))))) (sRet (mTup (aCons (mVar 5) (aCons (mVar 6) (aCons (mVar 7) (aCons (mVar 8) (aNil))))))))
noncomputable def f_law_tick : MF := defM 5 12 m_law_tick
noncomputable def m_law_pour_due : MS := sSeq (sIf (tNotM (mTest (mChain vLe vLe (mC (.int 0)) (mVar 1) (mBin vPow (mC (.int 10)) (mC (.int 6)))))) (sRet (mTup (aCons (mC (.str "number")) (aNil)))) (sNext)) (sSeq (sAsg (mApp f_law_tick (aCons (mDget (mVar 0) (mC (.str "parts"))) (aCons (mDget (mVar 0) (mC (.str "levels"))) (aCons (mDget (mVar 0) (mC (.str "now"))) (aCons (mVar 1) (aCons (mDget (mVar 0) (mC (.str "locked"))) (aNil))))))) (gTupM 4 (gsCons (gSet 2) (gsCons (gSet 3) (gsCons (gSet 4) (gsCons (gSet 5) (gsNil))))))) (sSeq (sAsg (mTup (aCons (mVar 2) (aCons (mBin vAdd (mDget (mVar 0) (mC (.str "now"))) (mC (.int 1))) (aNil)))) (gTupM 2 (gsCons (gSubD (mVar 0) (mC (.str "levels"))) (gsCons (gSubD (mVar 0) (mC (.str "now"))) (gsNil))))) (sSeq (sAsg (mTup (aCons (mBin vAdd (mDget (mVar 0) (mC (.str "lost"))) (mVar 5)) (aCons (mBin vAdd (mDget (mVar 0) (mC (.str "missed"))) (mVar 4)) (aNil)))) (gTupM 2 (gsCons (gSubD (mVar 0) (mC (.str "lost"))) (gsCons (gSubD (mVar 0) (mC (.str "missed"))) (gsNil))))) (sSeq (sDrop (mBM "list" vAppend (mDget (mVar 0) (mC (.str "history"))) (aCons (mTup (aCons (mC (.str "pour")) (aCons (mVar 1) (aNil)))) aNil))) (sRet (mTup (aCons (mC (.str "value")) (aCons (mVar 5) (aNil)))))))))
noncomputable def f_law_pour_due : MF := defM 2 4 m_law_pour_due
noncomputable def m_validate_number : MS := sIf (tNotM (mTest (mChain vLe vLe (mVar 1) (mVar 0) (mVar 2)))) (sRaise0 4) (sNext)
noncomputable def f_validate_number : MF := defM 3 0 m_validate_number
noncomputable def m_Row_barrels : MS := sRet (mFld [13] 30 (mVar 0))
noncomputable def f_Row_barrels : MF := defM 1 0 m_Row_barrels
noncomputable def m_next_tick : MS := sSeq (sAsg (mTup (aCons (mLst (aNil)) (aCons (mC (.int 0)) (aCons (mC (.int 0)) (aCons (mC (.int 0)) (aNil)))))) (gTupM 4 (gsCons (gSet 5) (gsCons (gSet 6) (gsCons (gSet 7) (gsCons (gSet 8) (gsNil))))))) (sSeq (sFor (iZipM (mVar 1) (mProp [(13, f_Row_barrels)] (mVar 0))) (gTupM 2 (gsCons (gSet 9) (gsCons (gTupM 4 (gsCons (gSet 10) (gsCons (gSet 11) (gsCons (gSet 12) (gsCons (gSet 13) (gsNil)))))) (gsNil)))) (sSeq (sSet 14 (mBin vAdd (mBin vAdd (mVar 9) (mBin vMul (mVar 12) (mVar 3))) (mVar 8))) (sSeq (sSet 8 (mApp bMax2 (aCons (mC (.int 0)) (aCons (mBin vSub (mVar 14) (mVar 11)) (aNil))))) (sSeq (sPar 15 16 (aCons (mBin vSub (mVar 14) (mVar 8)) (aCons (mBin vIx (mVar 13) (mBin vMod (mApp bIntB (aCons (mVar 2) (aNil))) (mApp bLen (aCons (mVar 13) (aNil))))) (aNil)))) (sSeq (sSet 17 (mIf (mTest (mBin vIn (mVar 10) (mVar 4))) (mC (.int 0)) (mApp bMin2 (aCons (mVar 15) (aCons (mVar 16) (aNil)))))) (sSeq (sDrop (mBM "list" vAppend (mVar 5) (aCons (mBin vSub (mVar 15) (mVar 17)) aNil))) (sSeq (sAug 6 vIAdd (mVar 17)) (sAug 7 vIAdd (mBin vSub (mVar 16) (mVar 17)))))))))) (sRet (mTup (aCons (mApp bTuple (aCons (mVar 5) (aNil))) (aCons (mVar 6) (aCons (mVar 7) (aCons (mVar 8) (aNil))))))))
noncomputable def f_next_tick : MF := defM 5 13 m_next_tick
noncomputable def m_LiveRow_state : MS := sRet (mTup (aCons (mFld [20] 52 (mVar 0)) (aCons (mFld [20] 53 (mVar 0)) (aCons (mFld [20] 54 (mVar 0)) (aCons (mFld [20] 55 (mVar 0)) (aNil))))))
noncomputable def f_LiveRow_state : MF := defM 1 0 m_LiveRow_state
noncomputable def m_LiveRow_set_state : MS := sAsg (mVar 1) (gTupM 4 (gsCons (gFld [20] 52 (mVar 0)) (gsCons (gFld [20] 53 (mVar 0)) (gsCons (gFld [20] 54 (mVar 0)) (gsCons (gFld [20] 55 (mVar 0)) (gsNil))))))
noncomputable def f_LiveRow_set_state : MF := defM 2 0 m_LiveRow_set_state
noncomputable def m_LiveRow_commit : MS := sSeq (sDrop (mBM "list" vAppend (mFld [20] 56 (mVar 0)) (aCons (mTup (aCons (mVar 1) (aCons (mMeth [(20, f_LiveRow_state)] (mVar 0) aNil) (aNil)))) aNil))) (sSeq (sFldM [20] 57 (mVar 0) (mLst (aNil))) (sDrop (mMeth [(20, f_LiveRow_set_state)] (mVar 0) (aCons (mVar 2) (aNil)))))
noncomputable def f_LiveRow_commit : MF := defM 3 0 m_LiveRow_commit
noncomputable def m_LiveRow_pour : MS := sSeq (sDrop (mApp f_validate_number (aCons (mVar 1) (aCons (mC (.int 0)) (aCons (mC (.int 1000000)) (aNil)))))) (sSeq (sAsg (mApp f_next_tick (aCons (mFld [20] 51 (mVar 0)) (aCons (mFld [20] 52 (mVar 0)) (aCons (mFld [20] 53 (mVar 0)) (aCons (mVar 1) (aCons (mFld [20] 55 (mVar 0)) (aNil))))))) (gTupM 4 (gsCons (gSet 2) (gsCons (gSet 3) (gsCons (gSet 4) (gsCons (gSet 5) (gsNil))))))) (sSeq (sSet 6 (mTup (aCons (mBin vAdd (mBin vIx (mFld [20] 54 (mVar 0)) (mC (.int 0))) (mVar 5)) (aCons (mBin vAdd (mBin vIx (mFld [20] 54 (mVar 0)) (mC (.int 1))) (mVar 4)) (aNil))))) (sSeq (sDrop (mMeth [(20, f_LiveRow_commit)] (mVar 0) (aCons (mTup (aCons (mC (.str "pour")) (aCons (mVar 1) (aNil)))) (aCons (mTup (aCons (mVar 2) (aCons (mBin vAdd (mFld [20] 53 (mVar 0)) (mC (.int 1))) (aCons (mVar 6) (aCons (mFld [20] 55 (mVar 0)) (aNil)))))) (aNil))))) (sRet (mVar 5)))))
noncomputable def f_LiveRow_pour : MF := defM 2 5 m_LiveRow_pour
noncomputable def m_law_scoop_due : MS := sSeq (sIf (mTest (mBin vNotIn (mVar 1) (mDget (mVar 0) (mC (.str "names"))))) (sRet (mTup (aCons (mC (.str "barrel")) (aCons (mVar 1) (aNil))))) (sNext)) (sSeq (sIf (tNotM (mTest (mChain vLe vLe (mC (.int 1)) (mVar 2) (mBin vPow (mC (.int 10)) (mC (.int 9)))))) (sRet (mTup (aCons (mC (.str "number")) (aNil)))) (sNext)) (sSeq (sSet 3 (mBM "list" vIndex (mDget (mVar 0) (mC (.str "names"))) (aCons (mVar 1) aNil))) (sSeq (sSet 4 (mApp bMin2 (aCons (mVar 2) (aCons (mBin vIx (mDget (mVar 0) (mC (.str "levels"))) (mVar 3)) (aNil))))) (sSeq (sAsg (mBin vSub (mBin vIx (mDget (mVar 0) (mC (.str "levels"))) (mVar 3)) (mVar 4)) (gSubL (mDget (mVar 0) (mC (.str "levels"))) (mVar 3))) (sSeq (sDrop (mBM "list" vAppend (mDget (mVar 0) (mC (.str "history"))) (aCons (mTup (aCons (mC (.str "scoop")) (aCons (mVar 1) (aCons (mVar 2) (aNil))))) aNil))) (sRet (mTup (aCons (mC (.str "value")) (aCons (mVar 4) (aNil))))))))))
noncomputable def f_law_scoop_due : MF := defM 3 2 m_law_scoop_due
noncomputable def m_Row_names : MS := sRet (mApp bTuple (aCons (mLc (iSeqM (mFld [13] 30 (mVar 0))) (gSet 1) (mYes) (mBin vIx (mVar 1) (mC (.int 0))) [1]) (aNil)))
noncomputable def f_Row_names : MF := defM 1 1 m_Row_names
noncomputable def m_place_of : MS := sSeq (sFor (iEnumM (mProp [(13, f_Row_names)] (mVar 0))) (gTupM 2 (gsCons (gSet 2) (gsCons (gSet 3) (gsNil)))) (sIf (mTest (mBin vEq (mVar 3) (mVar 1))) (sRet (mVar 2)) (sNext))) (sRaise 2 [26] (aCons (mVar 1) (aNil)))
noncomputable def f_place_of : MF := defM 2 2 m_place_of
noncomputable def m_LiveRow_scoop : MS := sSeq (sSet 3 (mApp f_place_of (aCons (mFld [20] 51 (mVar 0)) (aCons (mVar 1) (aNil))))) (sSeq (sDrop (mApp f_validate_number (aCons (mVar 2) (aCons (mC (.int 1)) (aCons (mC (.int 1000000000)) (aNil)))))) (sSeq (sSet 4 (mApp bMin2 (aCons (mVar 2) (aCons (mBin vIx (mFld [20] 52 (mVar 0)) (mVar 3)) (aNil))))) (sSeq (sSet 5 (mBin vAdd (mBin vAdd (mCut (mFld [20] 52 (mVar 0)) oNone (oSome (mVar 3))) (mTup (aCons (mBin vSub (mBin vIx (mFld [20] 52 (mVar 0)) (mVar 3)) (mVar 4)) (aNil)))) (mCut (mFld [20] 52 (mVar 0)) (oSome (mBin vAdd (mVar 3) (mC (.int 1)))) oNone))) (sSeq (sDrop (mMeth [(20, f_LiveRow_commit)] (mVar 0) (aCons (mTup (aCons (mC (.str "scoop")) (aCons (mVar 1) (aCons (mVar 2) (aNil))))) (aCons (mTup (aCons (mVar 5) (aCons (mFld [20] 53 (mVar 0)) (aCons (mFld [20] 54 (mVar 0)) (aCons (mFld [20] 55 (mVar 0)) (aNil)))))) (aNil))))) (sRet (mVar 4))))))
noncomputable def f_LiveRow_scoop : MF := defM 3 3 m_LiveRow_scoop
noncomputable def m_law_lock_due : MS := sSeq (sIf (mTest (mBin vNotIn (mVar 2) (mDget (mVar 0) (mC (.str "names"))))) (sRet (mTup (aCons (mC (.str "barrel")) (aCons (mVar 2) (aNil))))) (sNext)) (sSeq (sSet 3 (mBin vEq (mBin vIn (mVar 2) (mDget (mVar 0) (mC (.str "locked")))) (mBin vEq (mVar 1) (mC (.str "unlock"))))) (sSeq (sAsg (mBin vAdd (mLc (iSeqM (mDget (mVar 0) (mC (.str "locked")))) (gSet 4) (mTest (mBin vNe (mVar 4) (mVar 2))) (mVar 4) [4]) (mBin vRepL (mLst (aCons (mVar 2) (aNil))) (mApp bIntB (aCons (mBin vEq (mVar 1) (mC (.str "lock"))) (aNil))))) (gSubD (mVar 0) (mC (.str "locked")))) (sSeq (sDrop (mBM "list" vAppend (mDget (mVar 0) (mC (.str "history"))) (aCons (mTup (aCons (mVar 1) (aCons (mVar 2) (aNil)))) aNil))) (sRet (mTup (aCons (mC (.str "value")) (aCons (mVar 3) (aNil))))))))
noncomputable def f_law_lock_due : MF := defM 3 2 m_law_lock_due
noncomputable def m_LiveRow_lock : MS := sSeq (sDrop (mApp f_place_of (aCons (mFld [20] 51 (mVar 0)) (aCons (mVar 1) (aNil))))) (sSeq (sSet 2 (mBin vNotIn (mVar 1) (mFld [20] 55 (mVar 0)))) (sSeq (sSet 3 (mIf (mTest (mVar 2)) (mBin vAdd (mFld [20] 55 (mVar 0)) (mTup (aCons (mVar 1) (aNil)))) (mFld [20] 55 (mVar 0)))) (sSeq (sDrop (mMeth [(20, f_LiveRow_commit)] (mVar 0) (aCons (mTup (aCons (mC (.str "lock")) (aCons (mVar 1) (aNil)))) (aCons (mTup (aCons (mFld [20] 52 (mVar 0)) (aCons (mFld [20] 53 (mVar 0)) (aCons (mFld [20] 54 (mVar 0)) (aCons (mVar 3) (aNil)))))) (aNil))))) (sRet (mVar 2)))))
noncomputable def f_LiveRow_lock : MF := defM 2 2 m_LiveRow_lock
noncomputable def m_LiveRow_unlock : MS := sSeq (sDrop (mApp f_place_of (aCons (mFld [20] 51 (mVar 0)) (aCons (mVar 1) (aNil))))) (sSeq (sSet 2 (mApp bTuple (aCons (mLc (iSeqM (mFld [20] 55 (mVar 0))) (gSet 3) (mTest (mBin vNe (mVar 3) (mVar 1))) (mVar 3) [3]) (aNil)))) (sSeq (sSet 4 (mBin vLt (mApp bLen (aCons (mVar 2) (aNil))) (mApp bLen (aCons (mFld [20] 55 (mVar 0)) (aNil))))) (sSeq (sDrop (mMeth [(20, f_LiveRow_commit)] (mVar 0) (aCons (mTup (aCons (mC (.str "unlock")) (aCons (mVar 1) (aNil)))) (aCons (mTup (aCons (mFld [20] 52 (mVar 0)) (aCons (mFld [20] 53 (mVar 0)) (aCons (mFld [20] 54 (mVar 0)) (aCons (mVar 2) (aNil)))))) (aNil))))) (sRet (mVar 4)))))
noncomputable def f_LiveRow_unlock : MF := defM 2 3 m_LiveRow_unlock
noncomputable def m_law_alike (rec : MF) : MS := sSeq (sIf (mTest (mIsi [.dict] (mVar 1))) (sBad) (sNext)) (sSeq (sIf (mTest (mIsi [.tuple, .list] (mVar 1))) (sSeq (sIf (tOrM (tNotM (mTest (mIsi [.tuple, .list] (mVar 0)))) (mTest (mBin vNe (mIsi [.list] (mVar 0)) (mIsi [.list] (mVar 1))))) (sRet (mC (.bl false))) (sNext)) (sSeq (sIf (mTest (mBin vNe (mApp bLen (aCons (mVar 0) (aNil))) (mApp bLen (aCons (mVar 1) (aNil))))) (sRet (mC (.bl false))) (sNext)) (sRet (mBin vEq (mLc (iRange1 (aCons (mApp bLen (aCons (mVar 1) (aNil))) (aNil))) (gSet 2) (tNotM (mTest (mApp rec (aCons (mBin vIx (mVar 0) (mVar 2)) (aCons (mBin vIx (mVar 1) (mVar 2)) (aNil)))))) (mVar 2) [2]) (mLst (aNil)))))) (sNext)) (sSeq (sIf (tOrM (mTest (mBin vIsN (mVar 1) (mC .non))) (mTest (mIsi [.str] (mVar 1)))) (sRet (mAnd (mBin vEq (mVar 0) (mVar 1)) (mBin vEq (mIsi [.str] (mVar 0)) (mIsi [.str] (mVar 1))))) (sNext)) (sRet (mAnd (mIsi [.int] (mVar 0)) (mAnd (mBin vEq (mIsi [.bool] (mVar 0)) (mIsi [.bool] (mVar 1))) (mBin vEq (mVar 0) (mVar 1)))))))
noncomputable def f_law_alike : Nat → MF
  | 0 => defM 2 1 sBad
  | n + 1 => defM 2 1 (m_law_alike (f_law_alike n))
noncomputable def m_LiveRow_missed_water : MS := sRet (mBin vIx (mFld [20] 54 (mVar 0)) (mC (.int 1)))
noncomputable def f_LiveRow_missed_water : MF := defM 1 0 m_LiveRow_missed_water
noncomputable def m_LiveRow_lost_water : MS := sRet (mBin vIx (mFld [20] 54 (mVar 0)) (mC (.int 0)))
noncomputable def f_LiveRow_lost_water : MF := defM 1 0 m_LiveRow_lost_water
noncomputable def m_LiveRow_levels : MS := sRet (mDc (iZipM (mFld [13] 30 (mFld [20] 51 (mVar 0))) (mFld [20] 52 (mVar 0))) (gTupM 2 (gsCons (gSet 1) (gsCons (gSet 2) (gsNil)))) (mYes) (mBin vIx (mVar 1) (mC (.int 0))) (mVar 2) [1, 2])
noncomputable def f_LiveRow_levels : MF := defM 1 2 m_LiveRow_levels
noncomputable def m_LiveRow_now : MS := sRet (mFld [20] 53 (mVar 0))
noncomputable def f_LiveRow_now : MF := defM 1 0 m_LiveRow_now
noncomputable def m_LiveRow_history : MS := sRet (mLc (iSeqM (mFld [20] 56 (mVar 0))) (gTupM 2 (gsCons (gSet 1) (gsCons (gSet 2) (gsNil)))) (mYes) (mVar 1) [1, 2])
noncomputable def f_LiveRow_history : MF := defM 1 2 m_LiveRow_history
noncomputable def m_LiveRow_locked_names : MS := sRet (mLc (iSeqM (mFld [13] 30 (mFld [20] 51 (mVar 0)))) (gSet 1) (mTest (mBin vIn (mBin vIx (mVar 1) (mC (.int 0))) (mFld [20] 55 (mVar 0)))) (mBin vIx (mVar 1) (mC (.int 0))) [1])
noncomputable def f_LiveRow_locked_names : MF := defM 1 1 m_LiveRow_locked_names
noncomputable def m_law_told : MS := sSeq (sSet 1 (mLst (aCons (mProp [(20, f_LiveRow_now)] (mVar 0)) (aCons (mItems (mProp [(20, f_LiveRow_levels)] (mVar 0))) (aCons (mProp [(20, f_LiveRow_lost_water)] (mVar 0)) (aCons (mProp [(20, f_LiveRow_missed_water)] (mVar 0)) (aNil))))))) (sRet (mBin vAdd (mVar 1) (mLst (aCons (mProp [(20, f_LiveRow_locked_names)] (mVar 0)) (aCons (mProp [(20, f_LiveRow_history)] (mVar 0)) (aNil))))))
noncomputable def f_law_told : MF := defM 1 1 m_law_told
noncomputable def m_law : MS := sSeq (sSet 1 (mApp f_law_mix (aCons (mVar 0) (aCons (mC (.int 43)) (aNil))))) (sSeq (sSet 2 (mApp f_law_parts (aCons (mVar 1) (aCons (mC (.int 4)) (aCons (mC (.int 9)) (aNil)))))) (sSeq (sAsg (mTup (aCons (mApp (vMake 20 f_LiveRow_init) (aCons (mApp f_law_row (aCons (mVar 2) (aNil))) (aNil))) (aCons (mLc (iSeqM (mBin vIx (mVar 2) (mC (.int 1)))) (gSet 5) (mYes) (mBin vIx (mVar 5) (mC (.int 0))) [5]) (aNil)))) (gTupM 2 (gsCons (gSet 3) (gsCons (gSet 4) (gsNil))))) (sSeq (sSet 6 (mDisp [(mC (.str "parts"), mVar 2), (mC (.str "names"), mVar 4), (mC (.str "levels"), mBin vRepL (mLst (aCons (mC (.int 0)) (aNil))) (mApp bLen (aCons (mVar 4) (aNil)))), (mC (.str "now"), mC (.int 0)), (mC (.str "lost"), mC (.int 0)), (mC (.str "missed"), mC (.int 0)), (mC (.str "locked"), mLst (aNil))])) (sSeq (sAsg (mLst (aNil)) (gSubD (mVar 6) (mC (.str "history")))) (sSeq (sFor (iRange1 (aCons (mApp f_law_next (aCons (mVar 1) (aCons (mC (.int 30)) (aNil)))) (aNil))) (gSet 7) (sSeq (sAsg (mTup (aCons (mApp f_law_next (aCons (mVar 1) (aCons (mC (.int 5)) (aNil)))) (aCons (mBin vIx (mBin vAdd (mVar 4) (mLst (aCons (mC (.str "no")) (aCons (mBin vIx (mVar 4) (mC (.int 0))) (aNil))))) (mApp f_law_next (aCons (mVar 1) (aCons (mBin vAdd (mApp bLen (aCons (mVar 4) (aNil))) (mC (.int 2))) (aNil))))) (aNil)))) (gTupM 2 (gsCons (gSet 8) (gsCons (gSet 9) (gsNil))))) (sSeq (sSet 10 (mBin vIx (mLst (aCons (mApp f_law_next (aCons (mVar 1) (aCons (mC (.int 12)) (aNil)))) (aCons (mC (.int 0)) (aCons (mBin vPow (mC (.int 10)) (mC (.int 6))) (aCons (mBin vAdd (mBin vPow (mC (.int 10)) (mC (.int 6))) (mC (.int 1))) (aCons (mNeg (mC (.int 1))) (aCons (mBin vPow (mC (.int 10)) (mC (.int 9))) (aCons (mBin vAdd (mBin vPow (mC (.int 10)) (mC (.int 9))) (mC (.int 1))) (aNil))))))))) (mApp bMax2 (aCons (mC (.int 0)) (aCons (mBin vSub (mApp f_law_next (aCons (mVar 1) (aCons (mC (.int 14)) (aNil)))) (mC (.int 7))) (aNil)))))) (sSeq (sIf (mTest (mBin vLt (mVar 8) (mC (.int 2)))) (sPar 11 12 (aCons (mOutcome (mMeth [(20, f_LiveRow_pour)] (mVar 3) (aCons (mVar 10) (aNil)))) (aCons (mApp f_law_pour_due (aCons (mVar 6) (aCons (mVar 10) (aNil)))) (aNil)))) (sIf (mTest (mBin vEq (mVar 8) (mC (.int 2)))) (sPar 11 12 (aCons (mOutcome (mMeth [(20, f_LiveRow_scoop)] (mVar 3) (aCons (mVar 9) (aCons (mVar 10) (aNil))))) (aCons (mApp f_law_scoop_due (aCons (mVar 6) (aCons (mVar 9) (aCons (mVar 10) (aNil))))) (aNil)))) (sIf (mTest (mBin vEq (mVar 8) (mC (.int 3)))) (sPar 11 12 (aCons (mOutcome (mMeth [(20, f_LiveRow_lock)] (mVar 3) (aCons (mVar 9) (aNil)))) (aCons (mApp f_law_lock_due (aCons (mVar 6) (aCons (mC (.str "lock")) (aCons (mVar 9) (aNil))))) (aNil)))) (sPar 11 12 (aCons (mOutcome (mMeth [(20, f_LiveRow_unlock)] (mVar 3) (aCons (mVar 9) (aNil)))) (aCons (mApp f_law_lock_due (aCons (mVar 6) (aCons (mC (.str "unlock")) (aCons (mVar 9) (aNil))))) (aNil))))))) (sSeq (sSet 13 (mLc (iRange1 (aCons (mApp bLen (aCons (mVar 4) (aNil))) (aNil))) (gSet 14) (mYes) (mTup (aCons (mBin vIx (mVar 4) (mVar 14)) (aCons (mBin vIx (mDget (mVar 6) (mC (.str "levels"))) (mVar 14)) (aNil)))) [14])) (sSeq (sSet 15 (mLc (iSeqM (mVar 4)) (gSet 16) (mTest (mBin vIn (mVar 16) (mDget (mVar 6) (mC (.str "locked"))))) (mVar 16) [16])) (sSeq (sSet 17 (mLst (aCons (mDget (mVar 6) (mC (.str "now"))) (aCons (mVar 13) (aCons (mDget (mVar 6) (mC (.str "lost"))) (aCons (mDget (mVar 6) (mC (.str "missed"))) (aCons (mVar 15) (aCons (mDget (mVar 6) (mC (.str "history"))) (aNil))))))))) (sIf (tOrM (tNotM (mTest (mApp (f_law_alike 6) (aCons (mVar 11) (aCons (mVar 12) (aNil)))))) (tNotM (mTest (mApp (f_law_alike 6) (aCons (mApp f_law_told (aCons (mVar 3) (aNil))) (aCons (mVar 17) (aNil))))))) (sRet (mC (.bl false))) (sNext))))))))) (sRet (mC (.bl true))))))))
end K43

set_option Elab.async false
set_option linter.all false
set_option maxRecDepth 100000
set_option maxHeartbeats 2000000
namespace K43
open PySem PySem.Spec PyProof.Rows L2 Ab
def top (i : Nat) : Stmt := PySem.Challenge.pw_barrelrow_k43_whole_live_rows.main.body.getD i (.Pass ⟨0, 0, 0, 0⟩)
abbrev s_x_InvalidRow : Stmt := inClass (top 3) 0
abbrev s_x_UnknownBarrel : Stmt := inClass (top 4) 0
abbrev s_law_mix : Stmt := top 33
abbrev s_law_next : Stmt := top 34
abbrev s_law_parts : Stmt := top 37
abbrev s_Row_len : Stmt := inClass (top 25) 7
abbrev s_LiveRow_init : Stmt := inClass (top 31) 0
abbrev s_is_name : Stmt := top 23
abbrev s_is_barrel : Stmt := top 24
abbrev s_Row_init : Stmt := inClass (top 25) 2
abbrev s_Row_add : Stmt := inClass (top 25) 12
abbrev s_law_row : Stmt := top 38
abbrev s_law_tick : Stmt := top 39
abbrev s_law_pour_due : Stmt := top 41
abbrev s_law_outcome : Stmt := top 36
abbrev s_validate_number : Stmt := top 22
abbrev s_Row_barrels : Stmt := inClass (top 25) 5
abbrev s_next_tick : Stmt := top 29
abbrev s_LiveRow_state : Stmt := inClass (top 31) 8
abbrev s_LiveRow_set_state : Stmt := inClass (top 31) 9
abbrev s_LiveRow_commit : Stmt := inClass (top 31) 10
abbrev s_LiveRow_pour : Stmt := inClass (top 31) 11
abbrev s_law_scoop_due : Stmt := top 42
abbrev s_Row_names : Stmt := inClass (top 25) 6
abbrev s_place_of : Stmt := top 26
abbrev s_LiveRow_scoop : Stmt := inClass (top 31) 12
abbrev s_law_lock_due : Stmt := top 43
abbrev s_LiveRow_lock : Stmt := inClass (top 31) 13
abbrev s_LiveRow_unlock : Stmt := inClass (top 31) 14
abbrev s_law_alike : Stmt := top 35
abbrev s_LiveRow_missed_water : Stmt := inClass (top 31) 5
abbrev s_LiveRow_lost_water : Stmt := inClass (top 31) 4
abbrev s_LiveRow_levels : Stmt := inClass (top 31) 3
abbrev s_LiveRow_now : Stmt := inClass (top 31) 2
abbrev s_LiveRow_history : Stmt := inClass (top 31) 7
abbrev s_LiveRow_locked_names : Stmt := inClass (top 31) 6
abbrev s_law_told : Stmt := top 40
abbrev s_law : Stmt := top 44
/-- what the top has written, as the walk asks it -/
structure Fx (T : Wh) : Prop where
  b_list : T.mg "list" = none
  fn_law_mix : ∃ f fd, T.mg "_law_mix" = some (.ref f) ∧ Fun T.K "_law_mix" "_law_mix" s_law_mix f fd ∧ Binds T.K fd ["_law_script", "_law_seed"] []
  b_len : T.mg "len" = none
  b_max : T.mg "max" = none
  fn_law_next : ∃ f fd, T.mg "_law_next" = some (.ref f) ∧ Fun T.K "_law_next" "_law_next" s_law_next f fd ∧ Binds T.K fd ["_law_h", "_law_limit"] []
  b_range : T.mg "range" = none
  b_int : T.mg "int" = none
  b_tuple : T.mg "tuple" = none
  fn_law_parts : ∃ f fd, T.mg "_law_parts" = some (.ref f) ∧ Fun T.K "_law_parts" "_law_parts" s_law_parts f fd ∧ Binds T.K fd ["_law_h", "_law_most", "_law_wide"] []
  fo_LiveRow_plan : FldOk T.K T.mg 20 51
  fo_Row_parts : FldOk T.K T.mg 13 30
  me_Row_len : ∃ Ca f fd, T.mg (nm 13) = some (.ref Ca) ∧ Cls T.K Ca ∧ PySem.W.findIn T.K (.ref Ca) "__len__" = some (some (.ref f)) ∧ PySem.W.isFn T.K (.ref f) = true ∧ Fun T.K "__len__" "Row.__len__" s_Row_len f fd ∧ Binds T.K fd ["self"] []
  fo_LiveRow_water : FldOk T.K T.mg 20 52
  fo_LiveRow_passed : FldOk T.K T.mg 20 53
  fo_LiveRow_gone : FldOk T.K T.mg 20 54
  fo_LiveRow_shut : FldOk T.K T.mg 20 55
  fo_LiveRow_past : FldOk T.K T.mg 20 56
  fo_LiveRow_future : FldOk T.K T.mg 20 57
  in_LiveRow : ∃ Ca f fd, T.mg (nm 20) = some (.ref Ca) ∧ Mk T.K Ca f ∧ Fun T.K "__init__" "LiveRow.__init__" s_LiveRow_init f fd ∧ Binds T.K fd ["self", "row"] []
  b_enumerate : T.mg "enumerate" = none
  cc_Row_MAX_TICKS : ∃ Ca mc u, T.mg "Row" = some (.ref Ca) ∧ ClX.CRead T.K Ca mc ∧ ClX.CVal T.K Ca mc "MAX_TICKS" (.int 12) u
  g_MAX_RAIN : ∃ t, T.mg "MAX_RAIN" = some (.int 1000000 t)
  cc_Row_MAX_BARRELS : ∃ Ca mc u, T.mg "Row" = some (.ref Ca) ∧ ClX.CRead T.K Ca mc ∧ ClX.CVal T.K Ca mc "MAX_BARRELS" (.int 5) u
  g_MAX_LETTERS : ∃ t, T.mg "MAX_LETTERS" = some (.int 8 t)
  g_LETTERS : ∃ t, T.mg "LETTERS" = some (.str "abcdefghijklmnopqrstuvwxyz" t)
  b_all : T.mg "all" = none
  fn_is_name : ∃ f fd, T.mg "is_name" = some (.ref f) ∧ Fun T.K "is_name" "is_name" s_is_name f fd ∧ Binds T.K fd ["name"] []
  g_MAX_AMOUNT : ∃ t, T.mg "MAX_AMOUNT" = some (.int 1000000000 t)
  g_MAX_ROOF : ∃ t, T.mg "MAX_ROOF" = some (.int 100 t)
  fn_is_barrel : ∃ f fd, T.mg "is_barrel" = some (.ref f) ∧ Fun T.K "is_barrel" "is_barrel" s_is_barrel f fd ∧ Binds T.K fd ["barrel", "ticks"] []
  fo_Row_weather : FldOk T.K T.mg 13 29
  in_Row : ∃ Ca f fd, T.mg (nm 13) = some (.ref Ca) ∧ Mk T.K Ca f ∧ Fun T.K "__init__" "Row.__init__" s_Row_init f fd
  x0_OtherRain : Ex0 T 3
  me_Row_add : ∃ Ca f fd, T.mg (nm 13) = some (.ref Ca) ∧ Cls T.K Ca ∧ PySem.W.selfFirst T.K Ca = true ∧ PySem.W.findIn T.K (.ref Ca) (PySem.dunder Operator.Add.info.2) = some (some (.ref f)) ∧ PySem.W.isFn T.K (.ref f) = true ∧ Fun T.K "__add__" "Row.__add__" s_Row_add f fd ∧ Binds T.K fd ["self", "other"] []
  fn_law_row : ∃ f fd, T.mg "_law_row" = some (.ref f) ∧ Fun T.K "_law_row" "_law_row" s_law_row f fd ∧ Binds T.K fd ["_law_parts_here"] []
  fn_law_tick : ∃ f fd, T.mg "_law_tick" = some (.ref f) ∧ Fun T.K "_law_tick" "_law_tick" s_law_tick f fd ∧ Binds T.K fd ["_law_parts_here", "_law_levels", "_law_tick_here", "_law_amount", "_law_locked"] []
  fn_law_pour_due : ∃ f fd, T.mg "_law_pour_due" = some (.ref f) ∧ Fun T.K "_law_pour_due" "_law_pour_due" s_law_pour_due f fd ∧ Binds T.K fd ["_law_w", "_law_amount"] []
  b_isinstance : T.mg "isinstance" = none
  ca_InvalidNumber : ∃ Ca, T.mg "InvalidNumber" = some (.ref Ca)
  ca_DecodeError : ∃ Ca, T.mg "DecodeError" = some (.ref Ca)
  ca_DaybookError : ∃ Ca, T.mg "DaybookError" = some (.ref Ca)
  ca_InvalidText : ∃ Ca, T.mg "InvalidText" = some (.ref Ca)
  ca_InvalidRow : ∃ Ca, T.mg "InvalidRow" = some (.ref Ca)
  ca_InvalidOperation : ∃ Ca, T.mg "InvalidOperation" = some (.ref Ca)
  ca_UnknownBarrel : ∃ Ca, T.mg "UnknownBarrel" = some (.ref Ca)
  ca_InvalidWeather : ∃ Ca, T.mg "InvalidWeather" = some (.ref Ca)
  b_ValueError : T.mg "ValueError" = none
  fn_law_outcome : ∃ f fd, T.mg "_law_outcome" = some (.ref f) ∧ Fun T.K "_law_outcome" "_law_outcome" s_law_outcome f fd ∧ Binds T.K fd ["_law_call"] []
  ca_RowError : ∃ Ca, T.mg "RowError" = some (.ref Ca)
  ex_all : ∀ Dn ∈ excs, ∀ Da, T.mg (nm Dn) = some (.ref Da) → ExAll T Dn Da
  x0_InvalidNumber : Ex0 T 4
  fn_validate_number : ∃ f fd, T.mg "validate_number" = some (.ref f) ∧ Fun T.K "validate_number" "validate_number" s_validate_number f fd ∧ Binds T.K fd ["number", "smallest", "largest"] []
  me_Row_barrels : ∃ p f fd, (∀ Ca, T.mg (nm 13) = some (.ref Ca) → Cls T.K Ca ∧ PropOf T.K Ca "barrels" p f) ∧ Fun T.K "barrels" "Row.barrels" s_Row_barrels f fd ∧ Binds T.K fd ["self"] []
  cl_Row : ∃ Ca, T.mg (nm 13) = some (.ref Ca)
  b_zip : T.mg "zip" = none
  b_min : T.mg "min" = none
  fn_next_tick : ∃ f fd, T.mg "next_tick" = some (.ref f) ∧ Fun T.K "next_tick" "next_tick" s_next_tick f fd ∧ Binds T.K fd ["row", "levels", "tick", "amount", "locked"] []
  me_LiveRow_state : ∃ f fd, (∀ Ca, T.mg (nm 20) = some (.ref Ca) → Cls T.K Ca ∧ Meth T.K Ca "state" f) ∧ Fun T.K "state" "LiveRow.state" s_LiveRow_state f fd ∧ Binds T.K fd ["self"] []
  cl_LiveRow : ∃ Ca, T.mg (nm 20) = some (.ref Ca)
  me_LiveRow_set_state : ∃ f fd, (∀ Ca, T.mg (nm 20) = some (.ref Ca) → Cls T.K Ca ∧ Meth T.K Ca "set_state" f) ∧ Fun T.K "set_state" "LiveRow.set_state" s_LiveRow_set_state f fd ∧ Binds T.K fd ["self", "state"] []
  me_LiveRow_commit : ∃ f fd, (∀ Ca, T.mg (nm 20) = some (.ref Ca) → Cls T.K Ca ∧ Meth T.K Ca "commit" f) ∧ Fun T.K "commit" "LiveRow.commit" s_LiveRow_commit f fd ∧ Binds T.K fd ["self", "operation", "state"] []
  me_LiveRow_pour : ∃ f fd, (∀ Ca, T.mg (nm 20) = some (.ref Ca) → Cls T.K Ca ∧ Meth T.K Ca "pour" f) ∧ Fun T.K "pour" "LiveRow.pour" s_LiveRow_pour f fd ∧ Binds T.K fd ["self", "amount"] []
  fn_law_scoop_due : ∃ f fd, T.mg "_law_scoop_due" = some (.ref f) ∧ Fun T.K "_law_scoop_due" "_law_scoop_due" s_law_scoop_due f fd ∧ Binds T.K fd ["_law_w", "_law_name", "_law_amount"] []
  me_Row_names : ∃ p f fd, (∀ Ca, T.mg (nm 13) = some (.ref Ca) → Cls T.K Ca ∧ PropOf T.K Ca "names" p f) ∧ Fun T.K "names" "Row.names" s_Row_names f fd ∧ Binds T.K fd ["self"] []
  fn_place_of : ∃ f fd, T.mg "place_of" = some (.ref f) ∧ Fun T.K "place_of" "place_of" s_place_of f fd ∧ Binds T.K fd ["row", "name"] []
  me_LiveRow_scoop : ∃ f fd, (∀ Ca, T.mg (nm 20) = some (.ref Ca) → Cls T.K Ca ∧ Meth T.K Ca "scoop" f) ∧ Fun T.K "scoop" "LiveRow.scoop" s_LiveRow_scoop f fd ∧ Binds T.K fd ["self", "name", "amount"] []
  fn_law_lock_due : ∃ f fd, T.mg "_law_lock_due" = some (.ref f) ∧ Fun T.K "_law_lock_due" "_law_lock_due" s_law_lock_due f fd ∧ Binds T.K fd ["_law_w", "_law_word", "_law_name"] []
  me_LiveRow_lock : ∃ f fd, (∀ Ca, T.mg (nm 20) = some (.ref Ca) → Cls T.K Ca ∧ Meth T.K Ca "lock" f) ∧ Fun T.K "lock" "LiveRow.lock" s_LiveRow_lock f fd ∧ Binds T.K fd ["self", "name"] []
  me_LiveRow_unlock : ∃ f fd, (∀ Ca, T.mg (nm 20) = some (.ref Ca) → Cls T.K Ca ∧ Meth T.K Ca "unlock" f) ∧ Fun T.K "unlock" "LiveRow.unlock" s_LiveRow_unlock f fd ∧ Binds T.K fd ["self", "name"] []
  b_dict : T.mg "dict" = none
  b_str : T.mg "str" = none
  b_bool : T.mg "bool" = none
  fn_law_alike : ∃ f fd, T.mg "_law_alike" = some (.ref f) ∧ Fun T.K "_law_alike" "_law_alike" s_law_alike f fd ∧ Binds T.K fd ["_law_found", "_law_due"] []
  me_LiveRow_missed_water : ∃ p f fd, (∀ Ca, T.mg (nm 20) = some (.ref Ca) → Cls T.K Ca ∧ PropOf T.K Ca "missed_water" p f) ∧ Fun T.K "missed_water" "LiveRow.missed_water" s_LiveRow_missed_water f fd ∧ Binds T.K fd ["self"] []
  me_LiveRow_lost_water : ∃ p f fd, (∀ Ca, T.mg (nm 20) = some (.ref Ca) → Cls T.K Ca ∧ PropOf T.K Ca "lost_water" p f) ∧ Fun T.K "lost_water" "LiveRow.lost_water" s_LiveRow_lost_water f fd ∧ Binds T.K fd ["self"] []
  me_LiveRow_levels : ∃ p f fd, (∀ Ca, T.mg (nm 20) = some (.ref Ca) → Cls T.K Ca ∧ PropOf T.K Ca "levels" p f) ∧ Fun T.K "levels" "LiveRow.levels" s_LiveRow_levels f fd ∧ Binds T.K fd ["self"] []
  me_LiveRow_now : ∃ p f fd, (∀ Ca, T.mg (nm 20) = some (.ref Ca) → Cls T.K Ca ∧ PropOf T.K Ca "now" p f) ∧ Fun T.K "now" "LiveRow.now" s_LiveRow_now f fd ∧ Binds T.K fd ["self"] []
  me_LiveRow_history : ∃ p f fd, (∀ Ca, T.mg (nm 20) = some (.ref Ca) → Cls T.K Ca ∧ PropOf T.K Ca "history" p f) ∧ Fun T.K "history" "LiveRow.history" s_LiveRow_history f fd ∧ Binds T.K fd ["self"] []
  me_LiveRow_locked_names : ∃ p f fd, (∀ Ca, T.mg (nm 20) = some (.ref Ca) → Cls T.K Ca ∧ PropOf T.K Ca "locked_names" p f) ∧ Fun T.K "locked_names" "LiveRow.locked_names" s_LiveRow_locked_names f fd ∧ Binds T.K fd ["self"] []
  fn_law_told : ∃ f fd, T.mg "_law_told" = some (.ref f) ∧ Fun T.K "_law_told" "_law_told" s_law_told f fd ∧ Binds T.K fd ["_law_live"] []
  xi_InvalidRow : ∃ Ca f fd R, T.mg (nm 1) = some (.ref Ca) ∧ SupI T.K T.mg R ∧ OexC T.K Ca ∧ PySem.W.findIn T.K (.ref Ca) "__init__" = some (some (.ref f)) ∧ PySem.W.typeIn T.K (.ref f) = some (.type "function") ∧ PySem.W.findIn T.K (.ref Ca) "part" = some none ∧ PySem.W.findIn T.K (.ref Ca) "index" = some none ∧ Fun T.K "__init__" "InvalidRow.__init__" s_x_InvalidRow f fd
  xi_UnknownBarrel : ∃ Ca f fd R, T.mg (nm 2) = some (.ref Ca) ∧ SupI T.K T.mg R ∧ OexC T.K Ca ∧ PySem.W.findIn T.K (.ref Ca) "__init__" = some (some (.ref f)) ∧ PySem.W.typeIn T.K (.ref f) = some (.type "function") ∧ PySem.W.findIn T.K (.ref Ca) "name" = some none ∧ Fun T.K "__init__" "UnknownBarrel.__init__" s_x_UnknownBarrel f fd

theorem sc_x_InvalidRow : FnScope ["self", "part", "index"] ["self", "part", "index"] (defScope s_x_InvalidRow) := ⟨rfl, rfl, rfl, by decide +kernel, rfl, by decide +kernel, by decide +kernel⟩
theorem h_x_InvalidRow {T : Wh} (F : Fx T) : ExK T 1 1 [24, 25] := by
  refine ⟨by decide, ?_⟩
  obtain ⟨Ca, f, fd, R, hm, hS, hO, hi, ht, n0, n1, hF⟩ := F.xi_InvalidRow
  refine ⟨Ca, f, fd, ["self", "part", "index"], hm, hO, hi, ht, ?_, exinit2 (f1 := 24) (f2 := 25) hF sc_x_InvalidRow hS hO n0 n1 rfl (by decide +kernel) (by decide +kernel) (by decide +kernel) (by decide +kernel) rfl fun env => ⟨_, rfl⟩⟩
  obtain ⟨oc, od, kV, doc, pm, an, cdv, ct, osl, rfl, lk, hcd⟩ := hF.ex
  exact ⟨fun s us ws _ h1 h2 => match us, ws, h1, h2 with | [a], [b0, b1], _, _ => .of_eq rfl, fun r1 r2 => r1.append r2⟩
theorem sc_x_UnknownBarrel : FnScope ["self", "name"] ["self", "name"] (defScope s_x_UnknownBarrel) := ⟨rfl, rfl, rfl, by decide +kernel, rfl, by decide +kernel, by decide +kernel⟩
theorem h_x_UnknownBarrel {T : Wh} (F : Fx T) : ExK T 2 1 [26] := by
  refine ⟨by decide, ?_⟩
  obtain ⟨Ca, f, fd, R, hm, hS, hO, hi, ht, n0, hF⟩ := F.xi_UnknownBarrel
  refine ⟨Ca, f, fd, ["self", "name"], hm, hO, hi, ht, ?_, exinit1 (f1 := 26) hF sc_x_UnknownBarrel hS hO n0 rfl (by decide +kernel) (by decide +kernel) rfl fun env => ⟨_, rfl⟩⟩
  obtain ⟨oc, od, kV, doc, pm, an, cdv, ct, osl, rfl, lk, hcd⟩ := hF.ex
  exact ⟨fun s us ws _ h1 h2 => match us, ws, h1, h2 with | [a], [b0], _, _ => .of_eq rfl, fun r1 r2 => r1.append r2⟩
/-! ### _law_mix -/
abbrev N_law_mix : List Str := ["_law_script", "_law_seed", "_law_mixed", "_law_cell"]
theorem sc_law_mix : FnScope N_law_mix ["_law_script", "_law_seed"] (defScope s_law_mix) := ⟨rfl, rfl, rfl, by decide +kernel, rfl, by decide +kernel, by decide +kernel⟩
theorem h_law_mix {T : Wh} (F : Fx T) : Has T "_law_mix" 1 2 f_law_mix := by
  obtain ⟨f, fd, hm, hF, hB⟩ := F.fn_law_mix
  exact ⟨f, hm, fnM_of1 (k := 0) (N := N_law_mix) (m := 2) (body := m_law_mix) hF hB sc_law_mix rfl rfl (fun cdv A outer s H E hr => (by have hu := hr.units; have hu1 : _ + 1 < cLine := Nat.lt_of_le_of_lt (Nat.add_le_add_left (by decide) _) hu; delta m_law_mix; delta Se.mVar Se.mC Se.mBin Se.mTest Se.mChain Se.tAndM Se.tOrM Se.tNotM Se.mAnd Se.mOr Se.mNot Se.mIf Se.aNil Se.aCons Se.mTup Se.mLst Se.mApp Se.mCut Se.oNone Se.oSome Se.sNext Se.sSeq Se.sSet Se.sRet Se.sDrop Se.sIf Se.sAug Se.sBreak Se.sCont Se.gSet Se.gsNil Se.gsCons Se.gTupM Se.sAsg Se.sPar Se.sFor Se.iRange1 Se.iRange2 Se.mFld Se.sFldM Se.sFldAugM Se.mMeth Se.mProp Se.vMake Se.iEnumM Se.iZipM Se.iSeqM Se.iStrM Se.mYes Se.mLc Se.mBM Se.gSubL Se.mIsi Se.sRaise Se.sRaise0 Se.aStar Se.mOp Se.mLen Se.mDget Se.gSubD Se.mDisp Se.mItems Se.mDc Se.gFld Se.mOutcome Se.mBad Se.sBad Se.mNeg Ab.mNeg; exact (jss_cons (js_set sc_law_mix.nd (je_var (i := 1))) (jss_cons (js_for cx1_pass rfl (ji_seq (je_var (i := 0))) (jg_name (i := 3) sc_law_mix.nd) (jss_one (js_set sc_law_mix.nd (je_op m2_mod quiet_mod (je_op m2_add quiet_add (je_op m2_add quiet_add (je_op m2_mul quiet_mul (je_var (i := 2)) (je_int)) (je_op m2_mod quiet_mod (je_var (i := 3)) (je_int))) (je_int)) (je_int))))) (jss_one (js_ret (je_lst (ja_cons (je_var (i := 2)) (ja_cons (je_callTy mc_list quiet_list F.b_list Boot.list (ja_cons (je_var (i := 0)) (ja_nil))) (ja_cons (je_int) (ja_nil)))))))))))⟩
/-! ### _law_next -/
abbrev N_law_next : List Str := ["_law_h", "_law_limit", "_law_cell"]
theorem sc_law_next : FnScope N_law_next ["_law_h", "_law_limit"] (defScope s_law_next) := ⟨rfl, rfl, rfl, by decide +kernel, rfl, by decide +kernel, by decide +kernel⟩
theorem h_law_next {T : Wh} (F : Fx T) : Has T "_law_next" 1 2 f_law_next := by
  obtain ⟨f, fd, hm, hF, hB⟩ := F.fn_law_next
  exact ⟨f, hm, fnM_of1 (k := 0) (N := N_law_next) (m := 1) (body := m_law_next) hF hB sc_law_next rfl rfl (fun cdv A outer s H E hr => (by have hu := hr.units; have hu1 : _ + 1 < cLine := Nat.lt_of_le_of_lt (Nat.add_le_add_left (by decide) _) hu; delta m_law_next; delta Se.mVar Se.mC Se.mBin Se.mTest Se.mChain Se.tAndM Se.tOrM Se.tNotM Se.mAnd Se.mOr Se.mNot Se.mIf Se.aNil Se.aCons Se.mTup Se.mLst Se.mApp Se.mCut Se.oNone Se.oSome Se.sNext Se.sSeq Se.sSet Se.sRet Se.sDrop Se.sIf Se.sAug Se.sBreak Se.sCont Se.gSet Se.gsNil Se.gsCons Se.gTupM Se.sAsg Se.sPar Se.sFor Se.iRange1 Se.iRange2 Se.mFld Se.sFldM Se.sFldAugM Se.mMeth Se.mProp Se.vMake Se.iEnumM Se.iZipM Se.iSeqM Se.iStrM Se.mYes Se.mLc Se.mBM Se.gSubL Se.mIsi Se.sRaise Se.sRaise0 Se.aStar Se.mOp Se.mLen Se.mDget Se.gSubD Se.mDisp Se.mItems Se.mDc Se.gFld Se.mOutcome Se.mBad Se.sBad Se.mNeg Ab.mNeg; exact (jss_cons (js_set sc_law_next.nd (je_ix (je_op m2_add quiet_add (je_ix (je_var (i := 0)) (je_int)) (je_lst (ja_cons (je_int) (ja_nil)))) (je_op m2_mod quiet_mod (je_ix (je_var (i := 0)) (je_int)) (je_callB (mc_max2 rfl) quiet_max2 F.b_max Boot.max (ja_cons (je_int) (ja_cons (je_callB mc_len quiet_len F.b_len Boot.len (ja_cons (je_ix (je_var (i := 0)) (je_int)) (ja_nil))) (ja_nil))))))) (jss_cons (js_if (jt_cmp m2_ge (quiet_cmpI _) (je_var (i := 2)) (je_op m2_pow quiet_pow (je_int) (je_int))) (jss_cons (js_asg (je_op m2_div quiet_div (je_var (i := 2)) (je_var (i := 1))) (jg_sub (je_ix (je_var (i := 0)) (je_int)) (je_op m2_mod quiet_mod (je_ix (je_var (i := 0)) (je_int)) (je_callB mc_len quiet_len F.b_len Boot.len (ja_cons (je_ix (je_var (i := 0)) (je_int)) (ja_nil)))))) (jss_one (js_ret (je_op m2_mod quiet_mod (je_var (i := 2)) (je_var (i := 1)))))) (jss_nil)) (jss_cons (js_asg (je_op m2_mod quiet_mod (je_op m2_add quiet_add (je_op m2_add quiet_add (je_op m2_mul quiet_mul (je_ix (je_var (i := 0)) (je_int)) (je_int)) (je_op m2_mul quiet_mul (je_var (i := 2)) (je_int))) (je_int)) (je_int)) (jg_sub (je_var (i := 0)) (je_int))) (jss_cons (js_asg (je_op m2_add quiet_add (je_ix (je_var (i := 0)) (je_int)) (je_int)) (jg_sub (je_var (i := 0)) (je_int))) (jss_one (js_ret (je_op m2_mod quiet_mod (je_op m2_div quiet_div (je_ix (je_var (i := 0)) (je_int)) (je_int)) (je_var (i := 1)))))))))))⟩
/-! ### _law_parts -/
abbrev N_law_parts : List Str := ["_law_h", "_law_most", "_law_wide", "_law_size", "_law_found", "_law_rain", "_law_k", "_law_name", "_law_draws", "_law_one"]
theorem sc_law_parts : FnScope N_law_parts ["_law_h", "_law_most", "_law_wide"] (defScope s_law_parts) := ⟨rfl, rfl, rfl, by decide +kernel, rfl, by decide +kernel, by decide +kernel⟩
theorem h_law_parts {T : Wh} (F : Fx T) : Has T "_law_parts" 2 3 f_law_parts := by
  obtain ⟨f, fd, hm, hF, hB⟩ := F.fn_law_parts
  exact ⟨f, hm, fnM_of1 (k := 1) (N := N_law_parts) (m := 7) (body := m_law_parts) hF hB sc_law_parts rfl rfl (fun cdv A outer s H E hr => (by have hu := hr.units; have hu1 : _ + 1 < cLine := Nat.lt_of_le_of_lt (Nat.add_le_add_left (by decide) _) hu; delta m_law_parts; delta Se.mVar Se.mC Se.mBin Se.mTest Se.mChain Se.tAndM Se.tOrM Se.tNotM Se.mAnd Se.mOr Se.mNot Se.mIf Se.aNil Se.aCons Se.mTup Se.mLst Se.mApp Se.mCut Se.oNone Se.oSome Se.sNext Se.sSeq Se.sSet Se.sRet Se.sDrop Se.sIf Se.sAug Se.sBreak Se.sCont Se.gSet Se.gsNil Se.gsCons Se.gTupM Se.sAsg Se.sPar Se.sFor Se.iRange1 Se.iRange2 Se.mFld Se.sFldM Se.sFldAugM Se.mMeth Se.mProp Se.vMake Se.iEnumM Se.iZipM Se.iSeqM Se.iStrM Se.mYes Se.mLc Se.mBM Se.gSubL Se.mIsi Se.sRaise Se.sRaise0 Se.aStar Se.mOp Se.mLen Se.mDget Se.gSubD Se.mDisp Se.mItems Se.mDc Se.gFld Se.mOutcome Se.mBad Se.sBad Se.mNeg Ab.mNeg; exact (jss_cons (js_par rfl sc_law_parts.nd (ja_cons (je_op m2_add quiet_add (je_int) (je_call (h_law_next F) (hr.mono (by decide)) (ja_cons (je_var (i := 0)) (ja_cons (je_var (i := 1)) (ja_nil))))) (ja_cons (je_lst (ja_nil)) (ja_nil)))) (jss_cons (js_set sc_law_parts.nd (je_callTy mc_tuple quiet_tuple F.b_tuple Boot.tuple (ja_cons (je_lc rfl sc_law_parts.nd [("_law_k", 6)] (ji_range1 F.b_range (ja_cons (je_var (i := 3)) (ja_nil))) (by first | (change blkC N_law_parts (defScope s_law_parts) _ _ = true; decide +kernel) | rfl) (fun s H C cl fp => jg_name (i := 6) sc_law_parts.nd) (fun s H C cl fp => jts_nil) (fun s H C cl fp => je_op m2_mul quiet_mul (je_call (h_law_next F) (hr.mono (by decide)) (ja_cons (je_var (i := 0)) (ja_cons (je_var (i := 2)) (ja_nil)))) (je_callTy mc_intB quiet_intB F.b_int Boot.int (ja_cons (je_cmp m2_gt (quiet_cmpI _) (je_call (h_law_next F) (hr.mono (by decide)) (ja_cons (je_var (i := 0)) (ja_cons (je_int) (ja_nil)))) (je_int)) (ja_nil))))) (ja_nil)))) (jss_cons (js_for cx1_pass rfl (ji_range1 F.b_range (ja_cons (je_op m2_add quiet_add (je_int) (je_call (h_law_next F) (hr.mono (by decide)) (ja_cons (je_var (i := 0)) (ja_cons (je_int) (ja_nil))))) (ja_nil))) (jg_name (i := 6) sc_law_parts.nd) (jss_cons (js_set sc_law_parts.nd (je_ix (je_lst (ja_cons (je_str) (ja_cons (je_str) (ja_cons (je_str) (ja_cons (je_str) (ja_nil)))))) (je_var (i := 6)))) (jss_cons (js_set sc_law_parts.nd (je_callTy mc_tuple quiet_tuple F.b_tuple Boot.tuple (ja_cons (je_lc rfl sc_law_parts.nd [("_law_one", 9)] (ji_range1 F.b_range (ja_cons (je_var (i := 3)) (ja_nil))) (by first | (change blkC N_law_parts (defScope s_law_parts) _ _ = true; decide +kernel) | rfl) (fun s H C cl fp => jg_name (i := 9) sc_law_parts.nd) (fun s H C cl fp => jts_nil) (fun s H C cl fp => je_op m2_mul quiet_mul (je_call (h_law_next F) (hr.mono (by decide)) (ja_cons (je_var (i := 0)) (ja_cons (je_op m2_mul quiet_mul (je_int) (je_var (i := 2))) (ja_nil)))) (je_callTy mc_intB quiet_intB F.b_int Boot.int (ja_cons (je_cmp m2_gt (quiet_cmpI _) (je_call (h_law_next F) (hr.mono (by decide)) (ja_cons (je_var (i := 0)) (ja_cons (je_int) (ja_nil)))) (je_int)) (ja_nil))))) (ja_nil)))) (jss_one (js_expr (je_append (je_var (i := 4)) (je_tup (ja_cons (je_var (i := 7)) (ja_cons (je_call (h_law_next F) (hr.mono (by decide)) (ja_cons (je_var (i := 0)) (ja_cons (je_op m2_mul quiet_mul (je_int) (je_var (i := 2))) (ja_nil)))) (ja_cons (je_call (h_law_next F) (hr.mono (by decide)) (ja_cons (je_var (i := 0)) (ja_cons (je_int) (ja_nil)))) (ja_cons (je_var (i := 8)) (ja_nil)))))))))))) (jss_one (js_ret (je_tup (ja_cons (je_var (i := 5)) (ja_cons (je_callTy mc_tuple quiet_tuple F.b_tuple Boot.tuple (ja_cons (je_var (i := 4)) (ja_nil))) (ja_nil)))))))))))⟩
/-! ### Row.__len__ -/
abbrev N_Row_len : List Str := ["self"]
theorem sc_Row_len : FnScope N_Row_len ["self"] (defScope s_Row_len) := ⟨rfl, rfl, rfl, by decide +kernel, rfl, by decide +kernel, by decide +kernel⟩
theorem h_Row_len {T : Wh} (F : Fx T) : HasLen T 13 1 f_Row_len := by
  obtain ⟨Ca, f, fd, h1, h2, h3, h4, hF, hB⟩ := F.me_Row_len
  exact ⟨Ca, f, h1, h2, h3, h4, fnM_of1 (k := 0) (N := N_Row_len) (m := 0) (body := m_Row_len) hF hB sc_Row_len rfl rfl (fun cdv A outer s H E hr => (by have hu := hr.units; have hu1 : _ + 1 < cLine := Nat.lt_of_le_of_lt (Nat.add_le_add_left (by decide) _) hu; delta m_Row_len; delta Se.mVar Se.mC Se.mBin Se.mTest Se.mChain Se.tAndM Se.tOrM Se.tNotM Se.mAnd Se.mOr Se.mNot Se.mIf Se.aNil Se.aCons Se.mTup Se.mLst Se.mApp Se.mCut Se.oNone Se.oSome Se.sNext Se.sSeq Se.sSet Se.sRet Se.sDrop Se.sIf Se.sAug Se.sBreak Se.sCont Se.gSet Se.gsNil Se.gsCons Se.gTupM Se.sAsg Se.sPar Se.sFor Se.iRange1 Se.iRange2 Se.mFld Se.sFldM Se.sFldAugM Se.mMeth Se.mProp Se.vMake Se.iEnumM Se.iZipM Se.iSeqM Se.iStrM Se.mYes Se.mLc Se.mBM Se.gSubL Se.mIsi Se.sRaise Se.sRaise0 Se.aStar Se.mOp Se.mLen Se.mDget Se.gSubD Se.mDisp Se.mItems Se.mDc Se.gFld Se.mOutcome Se.mBad Se.sBad Se.mNeg Ab.mNeg; exact (jss_one (js_ret (je_callB mc_len quiet_len F.b_len Boot.len (ja_cons (je_fld (fld1 F.fo_Row_parts) (je_var (i := 0))) (ja_nil)))))))⟩
/-! ### LiveRow.__init__ -/
abbrev N_LiveRow_init : List Str := ["self", "row"]
theorem sc_LiveRow_init : FnScope N_LiveRow_init ["self", "row"] (defScope s_LiveRow_init) := ⟨rfl, rfl, rfl, by decide +kernel, rfl, by decide +kernel, by decide +kernel⟩
theorem h_LiveRow_init {T : Wh} (F : Fx T) : HasI T 20 3 2 f_LiveRow_init := by
  obtain ⟨Ca, f, fd, hm, hM, hF, hB⟩ := F.in_LiveRow
  exact ⟨Ca, f, hm, hM, fnM_of1 (k := 2) (N := N_LiveRow_init) (m := 0) (body := m_LiveRow_init) hF hB sc_LiveRow_init rfl rfl (fun cdv A outer s H E hr => (by have hu := hr.units; have hu1 : _ + 1 < cLine := Nat.lt_of_le_of_lt (Nat.add_le_add_left (by decide) _) hu; delta m_LiveRow_init; delta Se.mVar Se.mC Se.mBin Se.mTest Se.mChain Se.tAndM Se.tOrM Se.tNotM Se.mAnd Se.mOr Se.mNot Se.mIf Se.aNil Se.aCons Se.mTup Se.mLst Se.mApp Se.mCut Se.oNone Se.oSome Se.sNext Se.sSeq Se.sSet Se.sRet Se.sDrop Se.sIf Se.sAug Se.sBreak Se.sCont Se.gSet Se.gsNil Se.gsCons Se.gTupM Se.sAsg Se.sPar Se.sFor Se.iRange1 Se.iRange2 Se.mFld Se.sFldM Se.sFldAugM Se.mMeth Se.mProp Se.vMake Se.iEnumM Se.iZipM Se.iSeqM Se.iStrM Se.mYes Se.mLc Se.mBM Se.gSubL Se.mIsi Se.sRaise Se.sRaise0 Se.aStar Se.mOp Se.mLen Se.mDget Se.gSubD Se.mDisp Se.mItems Se.mDc Se.gFld Se.mOutcome Se.mBad Se.sBad Se.mNeg Ab.mNeg; exact (jss_cons (js_fld (fld1 F.fo_LiveRow_plan) (je_var (i := 0)) (je_var (i := 1))) (jss_cons (js_fld (fld1 F.fo_LiveRow_water) (je_var (i := 0)) (je_op m2_repT quiet_repT (je_tup (ja_cons (je_int) (ja_nil))) (je_lenO (h_Row_len F) (hr.mono (by decide)) (je_var (i := 1)) F.b_len))) (jss_cons (js_fld (fld1 F.fo_LiveRow_passed) (je_var (i := 0)) (je_int)) (jss_cons (js_fld (fld1 F.fo_LiveRow_gone) (je_var (i := 0)) (je_tup (ja_cons (je_int) (ja_cons (je_int) (ja_nil))))) (jss_cons (js_fld (fld1 F.fo_LiveRow_shut) (je_var (i := 0)) (je_tup (ja_nil))) (jss_cons (js_fld (fld1 F.fo_LiveRow_past) (je_var (i := 0)) (je_lst (ja_nil))) (jss_one (js_fld (fld1 F.fo_LiveRow_future) (je_var (i := 0)) (je_lst (ja_nil))))))))))))⟩
/-! ### is_name -/
abbrev N_is_name : List Str := ["name", "letter"]
theorem sc_is_name : FnScope N_is_name ["name"] (defScope s_is_name) := ⟨rfl, rfl, rfl, by decide +kernel, rfl, by decide +kernel, by decide +kernel⟩
theorem h_is_name {T : Wh} (F : Fx T) : Has T "is_name" 1 1 f_is_name := by
  obtain ⟨f, fd, hm, hF, hB⟩ := F.fn_is_name
  exact ⟨f, hm, fnM_of1 (k := 0) (N := N_is_name) (m := 1) (body := m_is_name) hF hB sc_is_name rfl rfl (fun cdv A outer s H E hr => (by have hu := hr.units; have hu1 : _ + 1 < cLine := Nat.lt_of_le_of_lt (Nat.add_le_add_left (by decide) _) hu; delta m_is_name; delta Se.mVar Se.mC Se.mBin Se.mTest Se.mChain Se.tAndM Se.tOrM Se.tNotM Se.mAnd Se.mOr Se.mNot Se.mIf Se.aNil Se.aCons Se.mTup Se.mLst Se.mApp Se.mCut Se.oNone Se.oSome Se.sNext Se.sSeq Se.sSet Se.sRet Se.sDrop Se.sIf Se.sAug Se.sBreak Se.sCont Se.gSet Se.gsNil Se.gsCons Se.gTupM Se.sAsg Se.sPar Se.sFor Se.iRange1 Se.iRange2 Se.mFld Se.sFldM Se.sFldAugM Se.mMeth Se.mProp Se.vMake Se.iEnumM Se.iZipM Se.iSeqM Se.iStrM Se.mYes Se.mLc Se.mBM Se.gSubL Se.mIsi Se.sRaise Se.sRaise0 Se.aStar Se.mOp Se.mLen Se.mDget Se.gSubD Se.mDisp Se.mItems Se.mDc Se.gFld Se.mOutcome Se.mBad Se.sBad Se.mNeg Ab.mNeg; exact (jss_one (js_ret (je_and (je_chain m2_le quiet_le m2_le quiet_le (je_int) (je_callB mc_len quiet_len F.b_len Boot.len (ja_cons (je_var (i := 0)) (ja_nil))) (je_globI F.g_MAX_LETTERS)) (je_one (je_callB (mc_all rfl) quiet_all F.b_all Boot.all (ja_cons (je_lc rfl sc_is_name.nd [("letter", 1)] (ji_str (je_var (i := 0))) (by first | (change blkC N_is_name (defScope s_is_name) _ _ = true; decide +kernel) | rfl) (fun s H C cl fp => jg_name (i := 1) sc_is_name.nd) (fun s H C cl fp => jts_nil) (fun s H C cl fp => je_cmp m2_in quiet_in (je_var (i := 1)) (je_globS F.g_LETTERS))) (ja_nil)))))))))⟩
/-! ### is_barrel -/
abbrev N_is_barrel : List Str := ["barrel", "ticks", "name", "capacity", "roof", "draws", "draw"]
theorem sc_is_barrel : FnScope N_is_barrel ["barrel", "ticks"] (defScope s_is_barrel) := ⟨rfl, rfl, rfl, by decide +kernel, rfl, by decide +kernel, by decide +kernel⟩
theorem h_is_barrel {T : Wh} (F : Fx T) : Has T "is_barrel" 2 2 f_is_barrel := by
  obtain ⟨f, fd, hm, hF, hB⟩ := F.fn_is_barrel
  exact ⟨f, hm, fnM_of1 (k := 1) (N := N_is_barrel) (m := 5) (body := m_is_barrel) hF hB sc_is_barrel rfl rfl (fun cdv A outer s H E hr => (by have hu := hr.units; have hu1 : _ + 1 < cLine := Nat.lt_of_le_of_lt (Nat.add_le_add_left (by decide) _) hu; delta m_is_barrel; delta Se.mVar Se.mC Se.mBin Se.mTest Se.mChain Se.tAndM Se.tOrM Se.tNotM Se.mAnd Se.mOr Se.mNot Se.mIf Se.aNil Se.aCons Se.mTup Se.mLst Se.mApp Se.mCut Se.oNone Se.oSome Se.sNext Se.sSeq Se.sSet Se.sRet Se.sDrop Se.sIf Se.sAug Se.sBreak Se.sCont Se.gSet Se.gsNil Se.gsCons Se.gTupM Se.sAsg Se.sPar Se.sFor Se.iRange1 Se.iRange2 Se.mFld Se.sFldM Se.sFldAugM Se.mMeth Se.mProp Se.vMake Se.iEnumM Se.iZipM Se.iSeqM Se.iStrM Se.mYes Se.mLc Se.mBM Se.gSubL Se.mIsi Se.sRaise Se.sRaise0 Se.aStar Se.mOp Se.mLen Se.mDget Se.gSubD Se.mDisp Se.mItems Se.mDc Se.gFld Se.mOutcome Se.mBad Se.sBad Se.mNeg Ab.mNeg; exact (jss_cons (js_asg (je_var (i := 0)) (jg_tup rfl (jgs_cons (jg_name (i := 2) sc_is_barrel.nd) (jgs_cons (jg_name (i := 3) sc_is_barrel.nd) (jgs_cons (jg_name (i := 4) sc_is_barrel.nd) (jgs_cons (jg_name (i := 5) sc_is_barrel.nd) (jgs_nil))))))) (jss_cons (js_if ((jw_or (jt_not (jt_val (je_call (h_is_name F) (hr.mono (by decide)) (ja_cons (je_var (i := 2)) (ja_nil))))) (jw_or (jt_not (jt_chain m2_le quiet_le m2_le quiet_le (je_int) (je_var (i := 3)) (je_globI F.g_MAX_AMOUNT))) (jw_or1 (jt_not (jt_chain m2_le quiet_le m2_le quiet_le (je_int) (je_var (i := 4)) (je_globI F.g_MAX_ROOF)))))).jt) (jss_one (js_ret (je_bl))) (jss_nil)) (jss_one (js_ret (je_and (je_cmp (m2_eq hu) quiet_eq (je_callB mc_len quiet_len F.b_len Boot.len (ja_cons (je_var (i := 5)) (ja_nil))) (je_var (i := 1))) (je_one (je_callB (mc_all rfl) quiet_all F.b_all Boot.all (ja_cons (je_lc rfl sc_is_barrel.nd [("draw", 6)] (ji_seq (je_var (i := 5))) (by first | (change blkC N_is_barrel (defScope s_is_barrel) _ _ = true; decide +kernel) | rfl) (fun s H C cl fp => jg_name (i := 6) sc_is_barrel.nd) (fun s H C cl fp => jts_nil) (fun s H C cl fp => je_chain m2_le quiet_le m2_le quiet_le (je_int) (je_var (i := 6)) (je_globI F.g_MAX_AMOUNT))) (ja_nil)))))))))))⟩
/-! ### Row.__init__ -/
abbrev N_Row_init : List Str := ["self", "rain", "barrels", "index", "amount", "barrel", "earlier", "other"]
theorem sc_Row_init : FnScope N_Row_init ["self", "rain", "barrels"] (defScope s_Row_init) := ⟨rfl, rfl, rfl, by decide +kernel, rfl, by decide +kernel, by decide +kernel⟩
theorem h_Row_init {T : Wh} (F : Fx T) : HasIR T 13 3 f_Row_init := by
  obtain ⟨Ca, f, fd, hm, hM, hF⟩ := F.in_Row
  exact ⟨Ca, f, hm, hM, fnMR_of1 (k := 2) (N := N_Row_init) (ps := ["self", "rain"]) (pv := "barrels") (m := 5) (body := m_Row_init) hF sc_Row_init rfl rfl (fun kV doc pm an cdv ct us rest hl => StX.bind_star2 (B := fun us => bindArgs (PySem.W.fnOf "__init__" "Row.__init__" (defArgs s_Row_init) (defBody s_Row_init) (defScope s_Row_init) .none kV doc pm an cdv ct) ⟨us, []⟩) (fun _ _ => rfl) (fun _ _ _ _ => rfl) us rest hl) (fun cdv A outer s H E hr => (by have hu := hr.units; have hu1 : _ + 1 < cLine := Nat.lt_of_le_of_lt (Nat.add_le_add_left (by decide) _) hu; delta m_Row_init; delta Se.mVar Se.mC Se.mBin Se.mTest Se.mChain Se.tAndM Se.tOrM Se.tNotM Se.mAnd Se.mOr Se.mNot Se.mIf Se.aNil Se.aCons Se.mTup Se.mLst Se.mApp Se.mCut Se.oNone Se.oSome Se.sNext Se.sSeq Se.sSet Se.sRet Se.sDrop Se.sIf Se.sAug Se.sBreak Se.sCont Se.gSet Se.gsNil Se.gsCons Se.gTupM Se.sAsg Se.sPar Se.sFor Se.iRange1 Se.iRange2 Se.mFld Se.sFldM Se.sFldAugM Se.mMeth Se.mProp Se.vMake Se.iEnumM Se.iZipM Se.iSeqM Se.iStrM Se.mYes Se.mLc Se.mBM Se.gSubL Se.mIsi Se.sRaise Se.sRaise0 Se.aStar Se.mOp Se.mLen Se.mDget Se.gSubD Se.mDisp Se.mItems Se.mDc Se.gFld Se.mOutcome Se.mBad Se.sBad Se.mNeg Ab.mNeg; exact (jss_cons (js_for cx1_pass rfl (ji_enum F.b_enumerate (je_var (i := 1))) (jg_tup rfl (jgs_cons (jg_name (i := 3) sc_Row_init.nd) (jgs_cons (jg_name (i := 4) sc_Row_init.nd) (jgs_nil)))) (jss_one (js_if ((jw_or (jt_cmp (m2_eq hu) quiet_eq (je_var (i := 3)) ((let ⟨_, _, _, h1, h2, h3⟩ := F.cc_Row_MAX_TICKS; je_ccon h1 h2 h3))) (jw_or1 (jt_not (jt_chain m2_le quiet_le m2_le quiet_le (je_int) (je_var (i := 4)) (je_globI F.g_MAX_RAIN))))).jt) (jss_one (js_raise (h_x_InvalidRow F) rfl (hr.mono (by decide)) (jk_cons (je_str) (jk_cons (je_var (i := 3)) (jk_nil))))) (jss_nil)))) (jss_cons (js_if (jt_cmp (m2_eq hu) quiet_eq (je_var (i := 1)) (je_tup (ja_nil))) (jss_one (js_raise (h_x_InvalidRow F) rfl (hr.mono (by decide)) (jk_cons (je_str) (jk_cons (je_neg (je_int)) (jk_nil))))) (jss_nil)) (jss_cons (js_for cx1_pass rfl (ji_enum F.b_enumerate (je_var (i := 2))) (jg_tup rfl (jgs_cons (jg_name (i := 3) sc_Row_init.nd) (jgs_cons (jg_name (i := 5) sc_Row_init.nd) (jgs_nil)))) (jss_cons (js_setLc rfl sc_Row_init.nd [("other", 7)] (ji_seq (je_cut (je_var (i := 2)) jo_none (jo_some (je_var (i := 3))))) (by first | (change blkC N_Row_init (defScope s_Row_init) _ _ = true; decide +kernel) | rfl) (fun s H C cl fp => jg_name (i := 7) sc_Row_init.nd) (fun s H C cl fp => jts_nil) (fun s H C cl fp => je_ix (je_var (i := 7)) (je_int)) (by rfl)) (jss_one (js_if ((jw_or (jt_cmp (m2_eq hu) quiet_eq (je_var (i := 3)) ((let ⟨_, _, _, h1, h2, h3⟩ := F.cc_Row_MAX_BARRELS; je_ccon h1 h2 h3))) (jw_or (jt_not (jt_val (je_call (h_is_barrel F) (hr.mono (by decide)) (ja_cons (je_var (i := 5)) (ja_cons (je_callB mc_len quiet_len F.b_len Boot.len (ja_cons (je_var (i := 1)) (ja_nil))) (ja_nil)))))) (jw_or1 (jt_cmp m2_in quiet_in (je_ix (je_var (i := 5)) (je_int)) (je_var (i := 6)))))).jt) (jss_one (js_raise (h_x_InvalidRow F) rfl (hr.mono (by decide)) (jk_cons (je_str) (jk_cons (je_var (i := 3)) (jk_nil))))) (jss_nil))))) (jss_cons (js_if (jt_cmp (m2_eq hu) quiet_eq (je_var (i := 2)) (je_tup (ja_nil))) (jss_one (js_raise (h_x_InvalidRow F) rfl (hr.mono (by decide)) (jk_cons (je_str) (jk_cons (je_neg (je_int)) (jk_nil))))) (jss_nil)) (jss_cons (js_fld (fld1 F.fo_Row_weather) (je_var (i := 0)) (je_var (i := 1))) (jss_one (js_fld (fld1 F.fo_Row_parts) (je_var (i := 0)) (je_var (i := 2)))))))))))⟩
/-! ### Row.__add__ -/
abbrev N_Row_add : List Str := ["self", "other", "barrels"]
theorem sc_Row_add : FnScope N_Row_add ["self", "other"] (defScope s_Row_add) := ⟨rfl, rfl, rfl, by decide +kernel, rfl, by decide +kernel, by decide +kernel⟩
theorem h_Row_add {T : Wh} (F : Fx T) : HasOp T 13 .Add 5 f_Row_add := by
  obtain ⟨Ca, f, fd, h1, h2, h3, h4, h5, hF, hB⟩ := F.me_Row_add
  exact ⟨Ca, f, h1, h2, h3, h4, h5, fnM_of1 (k := 4) (N := N_Row_add) (m := 1) (body := m_Row_add) hF hB sc_Row_add rfl rfl (fun cdv A outer s H E hr => (by have hu := hr.units; have hu1 : _ + 1 < cLine := Nat.lt_of_le_of_lt (Nat.add_le_add_left (by decide) _) hu; delta m_Row_add; delta Se.mVar Se.mC Se.mBin Se.mTest Se.mChain Se.tAndM Se.tOrM Se.tNotM Se.mAnd Se.mOr Se.mNot Se.mIf Se.aNil Se.aCons Se.mTup Se.mLst Se.mApp Se.mCut Se.oNone Se.oSome Se.sNext Se.sSeq Se.sSet Se.sRet Se.sDrop Se.sIf Se.sAug Se.sBreak Se.sCont Se.gSet Se.gsNil Se.gsCons Se.gTupM Se.sAsg Se.sPar Se.sFor Se.iRange1 Se.iRange2 Se.mFld Se.sFldM Se.sFldAugM Se.mMeth Se.mProp Se.vMake Se.iEnumM Se.iZipM Se.iSeqM Se.iStrM Se.mYes Se.mLc Se.mBM Se.gSubL Se.mIsi Se.sRaise Se.sRaise0 Se.aStar Se.mOp Se.mLen Se.mDget Se.gSubD Se.mDisp Se.mItems Se.mDc Se.gFld Se.mOutcome Se.mBad Se.sBad Se.mNeg Ab.mNeg; exact (jss_cons (js_if (jt_cmp (m2_ne hu) quiet_ne (je_fld (fld1 F.fo_Row_weather) (je_var (i := 0))) (je_fld (fld1 F.fo_Row_weather) (je_var (i := 1)))) (jss_one (js_raise0 F.x0_OtherRain rfl)) (jss_nil)) (jss_cons (js_set sc_Row_add.nd (je_op m2_add quiet_add (je_fld (fld1 F.fo_Row_parts) (je_var (i := 0))) (je_fld (fld1 F.fo_Row_parts) (je_var (i := 1))))) (jss_one (js_ret (je_makeS (h_Row_init F) (by decide +kernel) (hr.mono (by decide)) (ja_cons (je_fld (fld1 F.fo_Row_weather) (je_var (i := 0))) (ja_star (je_var (i := 2)) (ja_nil))))))))))⟩
/-! ### _law_row -/
abbrev N_law_row : List Str := ["_law_parts_here", "_law_row_here", "_law_barrel"]
theorem sc_law_row : FnScope N_law_row ["_law_parts_here"] (defScope s_law_row) := ⟨rfl, rfl, rfl, by decide +kernel, rfl, by decide +kernel, by decide +kernel⟩
theorem h_law_row {T : Wh} (F : Fx T) : Has T "_law_row" 6 1 f_law_row := by
  obtain ⟨f, fd, hm, hF, hB⟩ := F.fn_law_row
  exact ⟨f, hm, fnM_of1 (k := 5) (N := N_law_row) (m := 2) (body := m_law_row) hF hB sc_law_row rfl rfl (fun cdv A outer s H E hr => (by have hu := hr.units; have hu1 : _ + 1 < cLine := Nat.lt_of_le_of_lt (Nat.add_le_add_left (by decide) _) hu; delta m_law_row; delta Se.mVar Se.mC Se.mBin Se.mTest Se.mChain Se.tAndM Se.tOrM Se.tNotM Se.mAnd Se.mOr Se.mNot Se.mIf Se.aNil Se.aCons Se.mTup Se.mLst Se.mApp Se.mCut Se.oNone Se.oSome Se.sNext Se.sSeq Se.sSet Se.sRet Se.sDrop Se.sIf Se.sAug Se.sBreak Se.sCont Se.gSet Se.gsNil Se.gsCons Se.gTupM Se.sAsg Se.sPar Se.sFor Se.iRange1 Se.iRange2 Se.mFld Se.sFldM Se.sFldAugM Se.mMeth Se.mProp Se.vMake Se.iEnumM Se.iZipM Se.iSeqM Se.iStrM Se.mYes Se.mLc Se.mBM Se.gSubL Se.mIsi Se.sRaise Se.sRaise0 Se.aStar Se.mOp Se.mLen Se.mDget Se.gSubD Se.mDisp Se.mItems Se.mDc Se.gFld Se.mOutcome Se.mBad Se.sBad Se.mNeg Ab.mNeg; exact (jss_cons (js_set sc_law_row.nd (je_makeR (h_Row_init F) (by decide +kernel) (hr.mono (by decide)) (ja_cons (je_ix (je_var (i := 0)) (je_int)) (ja_cons (je_ix (je_ix (je_var (i := 0)) (je_int)) (je_int)) (ja_nil))))) (jss_cons (js_for cx1_pass rfl (ji_seq (je_cut (je_ix (je_var (i := 0)) (je_int)) (jo_some (je_int)) jo_none)) (jg_name (i := 2) sc_law_row.nd) (jss_one (js_set sc_law_row.nd (je_own (h_Row_add F) (hr.mono (by decide)) (je_var (i := 1)) (je_makeR (h_Row_init F) (by decide +kernel) (hr.mono (by decide)) (ja_cons (je_ix (je_var (i := 0)) (je_int)) (ja_cons (je_var (i := 2)) (ja_nil)))))))) (jss_one (js_ret (je_var (i := 1))))))))⟩
/-! ### _law_tick -/
abbrev N_law_tick : List Str := ["_law_parts_here", "_law_levels", "_law_tick_here", "_law_amount", "_law_locked", "_law_found", "_law_drawn", "_law_missed", "_law_flow", "_law_k", "_law_name", "_law_most", "_law_roof", "_law_draws", "_law_full", "_law_wish", "_law_got"]
theorem sc_law_tick : FnScope N_law_tick ["_law_parts_here", "_law_levels", "_law_tick_here", "_law_amount", "_law_locked"] (defScope s_law_tick) := ⟨rfl, rfl, rfl, by decide +kernel, rfl, by decide +kernel, by decide +kernel⟩
theorem h_law_tick {T : Wh} (F : Fx T) : Has T "_law_tick" 1 5 f_law_tick := by
  obtain ⟨f, fd, hm, hF, hB⟩ := F.fn_law_tick
  exact ⟨f, hm, fnM_of1 (k := 0) (N := N_law_tick) (m := 12) (body := m_law_tick) hF hB sc_law_tick rfl rfl (fun cdv A outer s H E hr => (by have hu := hr.units; have hu1 : _ + 1 < cLine := Nat.lt_of_le_of_lt (Nat.add_le_add_left (by decide) _) hu; delta m_law_tick; delta Se.mVar Se.mC Se.mBin Se.mTest Se.mChain Se.tAndM Se.tOrM Se.tNotM Se.mAnd Se.mOr Se.mNot Se.mIf Se.aNil Se.aCons Se.mTup Se.mLst Se.mApp Se.mCut Se.oNone Se.oSome Se.sNext Se.sSeq Se.sSet Se.sRet Se.sDrop Se.sIf Se.sAug Se.sBreak Se.sCont Se.gSet Se.gsNil Se.gsCons Se.gTupM Se.sAsg Se.sPar Se.sFor Se.iRange1 Se.iRange2 Se.mFld Se.sFldM Se.sFldAugM Se.mMeth Se.mProp Se.vMake Se.iEnumM Se.iZipM Se.iSeqM Se.iStrM Se.mYes Se.mLc Se.mBM Se.gSubL Se.mIsi Se.sRaise Se.sRaise0 Se.aStar Se.mOp Se.mLen Se.mDget Se.gSubD Se.mDisp Se.mItems Se.mDc Se.gFld Se.mOutcome Se.mBad Se.sBad Se.mNeg Ab.mNeg; exact (jss_cons (js_asg (je_tup (ja_cons (je_lst (ja_nil)) (ja_cons (je_int) (ja_cons (je_int) (ja_cons (je_int) (ja_nil)))))) (jg_tup rfl (jgs_cons (jg_name (i := 5) sc_law_tick.nd) (jgs_cons (jg_name (i := 6) sc_law_tick.nd) (jgs_cons (jg_name (i := 7) sc_law_tick.nd) (jgs_cons (jg_name (i := 8) sc_law_tick.nd) (jgs_nil))))))) (jss_cons (js_for cx1_pass rfl (ji_range1 F.b_range (ja_cons (je_callB mc_len quiet_len F.b_len Boot.len (ja_cons (je_var (i := 1)) (ja_nil))) (ja_nil))) (jg_name (i := 9) sc_law_tick.nd) (jss_cons (js_asg (je_ix (je_ix (je_var (i := 0)) (je_int)) (je_var (i := 9))) (jg_tup rfl (jgs_cons (jg_name (i := 10) sc_law_tick.nd) (jgs_cons (jg_name (i := 11) sc_law_tick.nd) (jgs_cons (jg_name (i := 12) sc_law_tick.nd) (jgs_cons (jg_name (i := 13) sc_law_tick.nd) (jgs_nil))))))) (jss_cons (js_set sc_law_tick.nd (je_op m2_add quiet_add (je_op m2_add quiet_add (je_ix (je_var (i := 1)) (je_var (i := 9))) (je_op m2_mul quiet_mul (je_var (i := 12)) (je_var (i := 3)))) (je_var (i := 8)))) (jss_cons (js_set sc_law_tick.nd (je_if (jt_cmp m2_gt (quiet_cmpI _) (je_var (i := 14)) (je_var (i := 11))) (je_op m2_sub quiet_sub (je_var (i := 14)) (je_var (i := 11))) (je_int))) (jss_cons (js_par rfl sc_law_tick.nd (ja_cons (je_op m2_sub quiet_sub (je_var (i := 14)) (je_var (i := 8))) (ja_cons (je_ix (je_var (i := 13)) (je_op m2_mod quiet_mod (je_var (i := 2)) (je_callB mc_len quiet_len F.b_len Boot.len (ja_cons (je_var (i := 13)) (ja_nil))))) (ja_nil)))) (jss_cons (js_set sc_law_tick.nd (je_if (jt_cmp m2_in quiet_in (je_var (i := 10)) (je_var (i := 4))) (je_int) (je_if (jt_cmp m2_lt (quiet_cmpI _) (je_var (i := 15)) (je_var (i := 14))) (je_var (i := 15)) (je_var (i := 14))))) (jss_cons (js_expr (je_append (je_var (i := 5)) (je_op m2_sub quiet_sub (je_var (i := 14)) (je_var (i := 16))))) (jss_one (js_par rfl sc_law_tick.nd (ja_cons (je_op m2_add quiet_add (je_var (i := 6)) (je_var (i := 16))) (ja_cons (je_op m2_sub quiet_sub (je_op m2_add quiet_add (je_var (i := 7)) (je_var (i := 15))) (je_var (i := 16))) (ja_nil)))))))))))) (jss_one (js_ret (je_tup (ja_cons (je_var (i := 5)) (ja_cons (je_var (i := 6)) (ja_cons (je_var (i := 7)) (ja_cons (je_var (i := 8)) (ja_nil))))))))))))⟩
/-! ### _law_pour_due -/
abbrev N_law_pour_due : List Str := ["_law_w", "_law_amount", "_law_levels", "_law_drawn", "_law_missed", "_law_gone"]
theorem sc_law_pour_due : FnScope N_law_pour_due ["_law_w", "_law_amount"] (defScope s_law_pour_due) := ⟨rfl, rfl, rfl, by decide +kernel, rfl, by decide +kernel, by decide +kernel⟩
theorem h_law_pour_due {T : Wh} (F : Fx T) : Has T "_law_pour_due" 2 2 f_law_pour_due := by
  obtain ⟨f, fd, hm, hF, hB⟩ := F.fn_law_pour_due
  exact ⟨f, hm, fnM_of1 (k := 1) (N := N_law_pour_due) (m := 4) (body := m_law_pour_due) hF hB sc_law_pour_due rfl rfl (fun cdv A outer s H E hr => (by have hu := hr.units; have hu1 : _ + 1 < cLine := Nat.lt_of_le_of_lt (Nat.add_le_add_left (by decide) _) hu; delta m_law_pour_due; delta Se.mVar Se.mC Se.mBin Se.mTest Se.mChain Se.tAndM Se.tOrM Se.tNotM Se.mAnd Se.mOr Se.mNot Se.mIf Se.aNil Se.aCons Se.mTup Se.mLst Se.mApp Se.mCut Se.oNone Se.oSome Se.sNext Se.sSeq Se.sSet Se.sRet Se.sDrop Se.sIf Se.sAug Se.sBreak Se.sCont Se.gSet Se.gsNil Se.gsCons Se.gTupM Se.sAsg Se.sPar Se.sFor Se.iRange1 Se.iRange2 Se.mFld Se.sFldM Se.sFldAugM Se.mMeth Se.mProp Se.vMake Se.iEnumM Se.iZipM Se.iSeqM Se.iStrM Se.mYes Se.mLc Se.mBM Se.gSubL Se.mIsi Se.sRaise Se.sRaise0 Se.aStar Se.mOp Se.mLen Se.mDget Se.gSubD Se.mDisp Se.mItems Se.mDc Se.gFld Se.mOutcome Se.mBad Se.sBad Se.mNeg Ab.mNeg; exact (jss_cons (js_if (jt_not (jt_chain m2_le quiet_le m2_le quiet_le (je_int) (je_var (i := 1)) (je_op m2_pow quiet_pow (je_int) (je_int)))) (jss_one (js_ret (je_tup (ja_cons (je_str) (ja_nil))))) (jss_nil)) (jss_cons (js_asg (je_call (h_law_tick F) (hr.mono (by decide)) (ja_cons (je_dget hu1 (je_var (i := 0)) (je_str)) (ja_cons (je_dget hu1 (je_var (i := 0)) (je_str)) (ja_cons (je_dget hu1 (je_var (i := 0)) (je_str)) (ja_cons (je_var (i := 1)) (ja_cons (je_dget hu1 (je_var (i := 0)) (je_str)) (ja_nil))))))) (jg_tup rfl (jgs_cons (jg_name (i := 2) sc_law_pour_due.nd) (jgs_cons (jg_name (i := 3) sc_law_pour_due.nd) (jgs_cons (jg_name (i := 4) sc_law_pour_due.nd) (jgs_cons (jg_name (i := 5) sc_law_pour_due.nd) (jgs_nil))))))) (jss_cons (js_asg (je_tup (ja_cons (je_var (i := 2)) (ja_cons (je_op m2_add quiet_add (je_dget hu1 (je_var (i := 0)) (je_str)) (je_int)) (ja_nil)))) (jg_tup rfl (jgs_cons (jg_dsub hu1 (je_var (i := 0)) (je_str)) (jgs_cons (jg_dsub hu1 (je_var (i := 0)) (je_str)) (jgs_nil))))) (jss_cons (js_asg (je_tup (ja_cons (je_op m2_add quiet_add (je_dget hu1 (je_var (i := 0)) (je_str)) (je_var (i := 5))) (ja_cons (je_op m2_add quiet_add (je_dget hu1 (je_var (i := 0)) (je_str)) (je_var (i := 4))) (ja_nil)))) (jg_tup rfl (jgs_cons (jg_dsub hu1 (je_var (i := 0)) (je_str)) (jgs_cons (jg_dsub hu1 (je_var (i := 0)) (je_str)) (jgs_nil))))) (jss_cons (js_expr (je_append (je_dget hu1 (je_var (i := 0)) (je_str)) (je_tup (ja_cons (je_str) (ja_cons (je_var (i := 1)) (ja_nil)))))) (jss_one (js_ret (je_tup (ja_cons (je_str) (ja_cons (je_var (i := 5)) (ja_nil)))))))))))))⟩
/-! ### _law_outcome -/
abbrev N_law_outcome : List Str := ["_law_call", "e", "_law_kinds", "_law_word"]
theorem sc_law_outcome : FnScope N_law_outcome ["_law_call"] (defScope s_law_outcome) := ⟨rfl, rfl, rfl, by decide +kernel, rfl, by decide +kernel, by decide +kernel⟩
def suiteOf : List Stmt → List Stmt
  | [.Try _ [.ExceptHandler _ _ b _] _ _ _] => b
  | _ => []
theorem j_suite {T : Wh} (F : Fx T) {k : Nat} {g : Addr} {cdg : Value} {A : Around} {outer : List Env} {s : Shared} {H : Hp} (hr : Room k (A.deeper (envOfC "_law_outcome" (defScope s_law_outcome) s.heap.objs.size g cdg))) {aa : Addr} {oe : Obj} {Dn : Nat} {Da : Addr} {d : Option Addr} {pn : List (Addr × Obj)} (hx : ExAll T Dn Da) (hz : Zc (.ref Da) d oe) (hf : ∃ vs, oe.data = .fields vs) :
    JSs ((cxOf C8.CX0 T.P T.w T.K T.mg T.base N_law_outcome "_law_outcome" (defScope s_law_outcome) g cdg A outer s H C8.E0).nox.suite aa ((aa, oe) :: pn)) (suiteOf (defBody s_law_outcome)) (mSuite aa d Dn) := by
  obtain ⟨c_InvalidNumber, hc_InvalidNumber⟩ := F.ca_InvalidNumber; obtain ⟨c_DecodeError, hc_DecodeError⟩ := F.ca_DecodeError; obtain ⟨c_DaybookError, hc_DaybookError⟩ := F.ca_DaybookError; obtain ⟨c_InvalidText, hc_InvalidText⟩ := F.ca_InvalidText; obtain ⟨c_InvalidRow, hc_InvalidRow⟩ := F.ca_InvalidRow; obtain ⟨c_InvalidOperation, hc_InvalidOperation⟩ := F.ca_InvalidOperation; obtain ⟨c_UnknownBarrel, hc_UnknownBarrel⟩ := F.ca_UnknownBarrel; obtain ⟨c_InvalidWeather, hc_InvalidWeather⟩ := F.ca_InvalidWeather
  have hu := hr.units
  delta mSuite
  exact (jss_cons (js_set sc_law_outcome.nd (je_lst (ja_cons (je_isE hx.ec hz hf F.b_isinstance rfl (.inl rfl) (cls_own hc_DaybookError) (hx.isC 9 (by decide) _ hc_DaybookError)) (ja_cons (je_isE hx.ec hz hf F.b_isinstance rfl (.inl rfl) (cls_own hc_DecodeError) (hx.isC 10 (by decide) _ hc_DecodeError)) (ja_cons (je_isE hx.ec hz hf F.b_isinstance rfl (.inl rfl) (cls_own hc_InvalidNumber) (hx.isC 4 (by decide) _ hc_InvalidNumber)) (ja_nil)))))) (jss_cons (js_expr (je_extend (je_var (i := 2)) (je_lst (ja_cons (je_isE hx.ec hz hf F.b_isinstance rfl (.inl rfl) (cls_own hc_InvalidOperation) (hx.isC 7 (by decide) _ hc_InvalidOperation)) (ja_cons (je_isE hx.ec hz hf F.b_isinstance rfl (.inl rfl) (cls_own hc_InvalidRow) (hx.isC 1 (by decide) _ hc_InvalidRow)) (ja_cons (je_isE hx.ec hz hf F.b_isinstance rfl (.inl rfl) (cls_own hc_InvalidText) (hx.isC 8 (by decide) _ hc_InvalidText)) (ja_nil))))))) (jss_cons (js_expr (je_extend (je_var (i := 2)) (je_lst (ja_cons (je_isE hx.ec hz hf F.b_isinstance rfl (.inl rfl) (cls_own hc_InvalidWeather) (hx.isC 6 (by decide) _ hc_InvalidWeather)) (ja_cons (je_isE hx.ec hz hf F.b_isinstance rfl (.inl rfl) (cls_own hc_UnknownBarrel) (hx.isC 2 (by decide) _ hc_UnknownBarrel)) (ja_nil)))))) (jss_cons (js_if ((jw_or (jt_cmp (m2_ne hu) quiet_ne (je_count (je_var (i := 2)) (je_bl)) (je_int)) (jw_or1 (jt_not (jt_val (je_isE hx.ec hz hf F.b_isinstance rfl (.inl rfl) (cls_blt F.b_ValueError PyProof.Rows.Boot.«ValueError») hx.isV))))).jt) (jss_one (js_ret (je_tup (ja_cons (je_str) (ja_nil))))) (jss_nil)) (jss_cons (js_set sc_law_outcome.nd (je_ix (je_lst (ja_cons (je_str) (ja_cons (je_str) (ja_cons (je_str) (ja_cons (je_str) (ja_cons (je_str) (ja_cons (je_str) (ja_cons (je_str) (ja_cons (je_str) (ja_nil)))))))))) (je_index (je_var (i := 2)) (je_bl)))) (jss_cons (js_if (jt_cmp m2_in quiet_in (je_var (i := 3)) (je_tup (ja_cons (je_str) (ja_cons (je_str) (ja_nil))))) (jss_one (js_ret (je_tup (ja_cons (je_var (i := 3)) (ja_cons (je_xf hx.xf (hx.nof 27 (by decide)) hz hf rfl (.inl rfl) (by decide)) (ja_nil)))))) (jss_nil)) (jss_cons (js_if (jt_cmp (m2_eq hu) quiet_eq (je_var (i := 3)) (je_str)) (jss_one (js_ret (je_tup (ja_cons (je_var (i := 3)) (ja_cons (je_xf hx.xf (hx.nof 24 (by decide)) hz hf rfl (.inl rfl) (by decide)) (ja_cons (je_xf hx.xf (hx.nof 25 (by decide)) hz hf rfl (.inl rfl) (by decide)) (ja_nil))))))) (jss_nil)) (jss_cons (js_if (jt_cmp (m2_eq hu) quiet_eq (je_var (i := 3)) (je_str)) (jss_one (js_ret (je_tup (ja_cons (je_var (i := 3)) (ja_cons (je_xf hx.xf (hx.nof 24 (by decide)) hz hf rfl (.inl rfl) (by decide)) (ja_nil)))))) (jss_nil)) (jss_cons (js_if (jt_cmp (m2_eq hu) quiet_eq (je_var (i := 3)) (je_str)) (jss_one (js_ret (je_tup (ja_cons (je_var (i := 3)) (ja_nil))))) (jss_nil)) (jss_one (js_ret (je_tup (ja_cons (je_var (i := 3)) (ja_cons (je_if (jt_cmp (m2_eq hu) quiet_eq (je_var (i := 3)) (je_str)) (je_xf hx.xf (hx.nof 28 (by decide)) hz hf rfl (.inl rfl) (by decide)) (je_if (jt_cmp (m2_eq hu) quiet_eq (je_var (i := 3)) (je_str)) (je_xf hx.xf (hx.nof 25 (by decide)) hz hf rfl (.inl rfl) (by decide)) (je_xf hx.xf (hx.nof 26 (by decide)) hz hf rfl (.inl rfl) (by decide)))) (ja_nil)))))))))))))))
theorem gout {T : Wh} (F : Fx T) {X : Cx} (hX : Cx.wh X = T) {g : Addr} {cdg : Value} {q : Str} {k : Nat} (hroom : ∀ s : Shared, Room k (X.A.deeper (envOfC "_law_outcome" (defScope s_law_outcome) s.heap.objs.size g cdg))) :
    LamX.GivesTo X N_law_outcome "_law_outcome" (defScope s_law_outcome) g cdg (defBody s_law_outcome) "_law_call" q (TTout X.K X.mg) := by
  subst hX
  obtain ⟨RA, hRA⟩ := F.ca_RowError
  exact out_gives (mS := mSuite) sc_law_outcome rfl rfl rfl hRA hroom (fun A outer s H hr aa oe Dn Da d pn m1 m2 hz hf => j_suite F hr (F.ex_all Dn m1 Da m2) hz hf) (fun Dn m Da h => (F.ex_all Dn m Da h).row _ hRA) suite_run
/-! ### validate_number -/
abbrev N_validate_number : List Str := ["number", "smallest", "largest"]
theorem sc_validate_number : FnScope N_validate_number ["number", "smallest", "largest"] (defScope s_validate_number) := ⟨rfl, rfl, rfl, by decide +kernel, rfl, by decide +kernel, by decide +kernel⟩
theorem h_validate_number {T : Wh} (F : Fx T) : Has T "validate_number" 1 3 f_validate_number := by
  obtain ⟨f, fd, hm, hF, hB⟩ := F.fn_validate_number
  exact ⟨f, hm, fnM_of1 (k := 0) (N := N_validate_number) (m := 0) (body := m_validate_number) hF hB sc_validate_number rfl rfl (fun cdv A outer s H E hr => (by have hu := hr.units; have hu1 : _ + 1 < cLine := Nat.lt_of_le_of_lt (Nat.add_le_add_left (by decide) _) hu; delta m_validate_number; delta Se.mVar Se.mC Se.mBin Se.mTest Se.mChain Se.tAndM Se.tOrM Se.tNotM Se.mAnd Se.mOr Se.mNot Se.mIf Se.aNil Se.aCons Se.mTup Se.mLst Se.mApp Se.mCut Se.oNone Se.oSome Se.sNext Se.sSeq Se.sSet Se.sRet Se.sDrop Se.sIf Se.sAug Se.sBreak Se.sCont Se.gSet Se.gsNil Se.gsCons Se.gTupM Se.sAsg Se.sPar Se.sFor Se.iRange1 Se.iRange2 Se.mFld Se.sFldM Se.sFldAugM Se.mMeth Se.mProp Se.vMake Se.iEnumM Se.iZipM Se.iSeqM Se.iStrM Se.mYes Se.mLc Se.mBM Se.gSubL Se.mIsi Se.sRaise Se.sRaise0 Se.aStar Se.mOp Se.mLen Se.mDget Se.gSubD Se.mDisp Se.mItems Se.mDc Se.gFld Se.mOutcome Se.mBad Se.sBad Se.mNeg Ab.mNeg; exact (jss_one (js_if (jt_not (jt_chain m2_le quiet_le m2_le quiet_le (je_var (i := 1)) (je_var (i := 0)) (je_var (i := 2)))) (jss_one (js_raise0 F.x0_InvalidNumber rfl)) (jss_nil)))))⟩
/-! ### Row.barrels -/
abbrev N_Row_barrels : List Str := ["self"]
theorem sc_Row_barrels : FnScope N_Row_barrels ["self"] (defScope s_Row_barrels) := ⟨rfl, rfl, rfl, by decide +kernel, rfl, by decide +kernel, by decide +kernel⟩
theorem h_Row_barrels {T : Wh} (F : Fx T) : HasP T 13 "barrels" 1 f_Row_barrels := by
  obtain ⟨p, f, fd, h1, hF, hB⟩ := F.me_Row_barrels
  exact fun Ca hC => ⟨p, f, (h1 Ca hC).1, (h1 Ca hC).2, fnM_of1 (k := 0) (N := N_Row_barrels) (m := 0) (body := m_Row_barrels) hF hB sc_Row_barrels rfl rfl (fun cdv A outer s H E hr => (by have hu := hr.units; have hu1 : _ + 1 < cLine := Nat.lt_of_le_of_lt (Nat.add_le_add_left (by decide) _) hu; delta m_Row_barrels; delta Se.mVar Se.mC Se.mBin Se.mTest Se.mChain Se.tAndM Se.tOrM Se.tNotM Se.mAnd Se.mOr Se.mNot Se.mIf Se.aNil Se.aCons Se.mTup Se.mLst Se.mApp Se.mCut Se.oNone Se.oSome Se.sNext Se.sSeq Se.sSet Se.sRet Se.sDrop Se.sIf Se.sAug Se.sBreak Se.sCont Se.gSet Se.gsNil Se.gsCons Se.gTupM Se.sAsg Se.sPar Se.sFor Se.iRange1 Se.iRange2 Se.mFld Se.sFldM Se.sFldAugM Se.mMeth Se.mProp Se.vMake Se.iEnumM Se.iZipM Se.iSeqM Se.iStrM Se.mYes Se.mLc Se.mBM Se.gSubL Se.mIsi Se.sRaise Se.sRaise0 Se.aStar Se.mOp Se.mLen Se.mDget Se.gSubD Se.mDisp Se.mItems Se.mDc Se.gFld Se.mOutcome Se.mBad Se.sBad Se.mNeg Ab.mNeg; exact (jss_one (js_ret (je_fld (fld1 F.fo_Row_parts) (je_var (i := 0)))))))⟩
/-! ### next_tick -/
abbrev N_next_tick : List Str := ["row", "levels", "tick", "amount", "locked", "later", "drawn", "missed", "flow", "level", "name", "most", "roof", "wishes", "filled", "kept", "wish", "taken"]
theorem sc_next_tick : FnScope N_next_tick ["row", "levels", "tick", "amount", "locked"] (defScope s_next_tick) := ⟨rfl, rfl, rfl, by decide +kernel, rfl, by decide +kernel, by decide +kernel⟩
theorem h_next_tick {T : Wh} (F : Fx T) : Has T "next_tick" 3 5 f_next_tick := by
  obtain ⟨f, fd, hm, hF, hB⟩ := F.fn_next_tick
  exact ⟨f, hm, fnM_of1 (k := 2) (N := N_next_tick) (m := 13) (body := m_next_tick) hF hB sc_next_tick rfl rfl (fun cdv A outer s H E hr => (by have hu := hr.units; have hu1 : _ + 1 < cLine := Nat.lt_of_le_of_lt (Nat.add_le_add_left (by decide) _) hu; delta m_next_tick; delta Se.mVar Se.mC Se.mBin Se.mTest Se.mChain Se.tAndM Se.tOrM Se.tNotM Se.mAnd Se.mOr Se.mNot Se.mIf Se.aNil Se.aCons Se.mTup Se.mLst Se.mApp Se.mCut Se.oNone Se.oSome Se.sNext Se.sSeq Se.sSet Se.sRet Se.sDrop Se.sIf Se.sAug Se.sBreak Se.sCont Se.gSet Se.gsNil Se.gsCons Se.gTupM Se.sAsg Se.sPar Se.sFor Se.iRange1 Se.iRange2 Se.mFld Se.sFldM Se.sFldAugM Se.mMeth Se.mProp Se.vMake Se.iEnumM Se.iZipM Se.iSeqM Se.iStrM Se.mYes Se.mLc Se.mBM Se.gSubL Se.mIsi Se.sRaise Se.sRaise0 Se.aStar Se.mOp Se.mLen Se.mDget Se.gSubD Se.mDisp Se.mItems Se.mDc Se.gFld Se.mOutcome Se.mBad Se.sBad Se.mNeg Ab.mNeg; exact (jss_cons (js_asg (je_tup (ja_cons (je_lst (ja_nil)) (ja_cons (je_int) (ja_cons (je_int) (ja_cons (je_int) (ja_nil)))))) (jg_tup rfl (jgs_cons (jg_name (i := 5) sc_next_tick.nd) (jgs_cons (jg_name (i := 6) sc_next_tick.nd) (jgs_cons (jg_name (i := 7) sc_next_tick.nd) (jgs_cons (jg_name (i := 8) sc_next_tick.nd) (jgs_nil))))))) (jss_cons (js_for cx1_pass rfl (ji_zip F.b_zip (je_var (i := 1)) (je_prop (tbl1 ⟨F.cl_Row, h_Row_barrels F⟩) (by simp) (hr.mono (by decide)) (je_var (i := 0)))) (jg_tup rfl (jgs_cons (jg_name (i := 9) sc_next_tick.nd) (jgs_cons (jg_tup rfl (jgs_cons (jg_name (i := 10) sc_next_tick.nd) (jgs_cons (jg_name (i := 11) sc_next_tick.nd) (jgs_cons (jg_name (i := 12) sc_next_tick.nd) (jgs_cons (jg_name (i := 13) sc_next_tick.nd) (jgs_nil)))))) (jgs_nil)))) (jss_cons (js_set sc_next_tick.nd (je_op m2_add quiet_add (je_op m2_add quiet_add (je_var (i := 9)) (je_op m2_mul quiet_mul (je_var (i := 12)) (je_var (i := 3)))) (je_var (i := 8)))) (jss_cons (js_set sc_next_tick.nd (je_callB (mc_max2 rfl) quiet_max2 F.b_max Boot.max (ja_cons (je_int) (ja_cons (je_op m2_sub quiet_sub (je_var (i := 14)) (je_var (i := 11))) (ja_nil))))) (jss_cons (js_par rfl sc_next_tick.nd (ja_cons (je_op m2_sub quiet_sub (je_var (i := 14)) (je_var (i := 8))) (ja_cons (je_ix (je_var (i := 13)) (je_op m2_mod quiet_mod (je_callTy mc_intB quiet_intB F.b_int Boot.int (ja_cons (je_var (i := 2)) (ja_nil))) (je_callB mc_len quiet_len F.b_len Boot.len (ja_cons (je_var (i := 13)) (ja_nil))))) (ja_nil)))) (jss_cons (js_set sc_next_tick.nd (je_if (jt_cmp m2_in quiet_in (je_var (i := 10)) (je_var (i := 4))) (je_int) (je_callB (mc_min2 rfl) quiet_min2 F.b_min Boot.min (ja_cons (je_var (i := 15)) (ja_cons (je_var (i := 16)) (ja_nil)))))) (jss_cons (js_expr (je_append (je_var (i := 5)) (je_op m2_sub quiet_sub (je_var (i := 15)) (je_var (i := 17))))) (jss_cons (js_aug sc_next_tick.nd m2_iadd quiet_iadd (je_var (i := 17))) (jss_one (js_aug sc_next_tick.nd m2_iadd quiet_iadd (je_op m2_sub quiet_sub (je_var (i := 16)) (je_var (i := 17)))))))))))) (jss_one (js_ret (je_tup (ja_cons (je_callTy mc_tuple quiet_tuple F.b_tuple Boot.tuple (ja_cons (je_var (i := 5)) (ja_nil))) (ja_cons (je_var (i := 6)) (ja_cons (je_var (i := 7)) (ja_cons (je_var (i := 8)) (ja_nil))))))))))))⟩
/-! ### LiveRow.state -/
abbrev N_LiveRow_state : List Str := ["self"]
theorem sc_LiveRow_state : FnScope N_LiveRow_state ["self"] (defScope s_LiveRow_state) := ⟨rfl, rfl, rfl, by decide +kernel, rfl, by decide +kernel, by decide +kernel⟩
theorem h_LiveRow_state {T : Wh} (F : Fx T) : HasM T 20 "state" 1 1 f_LiveRow_state := by
  obtain ⟨f, fd, h1, hF, hB⟩ := F.me_LiveRow_state
  exact ⟨by decide +kernel, fun Ca hC => ⟨f, (h1 Ca hC).1, (h1 Ca hC).2, fnM_of1 (k := 0) (N := N_LiveRow_state) (m := 0) (body := m_LiveRow_state) hF hB sc_LiveRow_state rfl rfl (fun cdv A outer s H E hr => (by have hu := hr.units; have hu1 : _ + 1 < cLine := Nat.lt_of_le_of_lt (Nat.add_le_add_left (by decide) _) hu; delta m_LiveRow_state; delta Se.mVar Se.mC Se.mBin Se.mTest Se.mChain Se.tAndM Se.tOrM Se.tNotM Se.mAnd Se.mOr Se.mNot Se.mIf Se.aNil Se.aCons Se.mTup Se.mLst Se.mApp Se.mCut Se.oNone Se.oSome Se.sNext Se.sSeq Se.sSet Se.sRet Se.sDrop Se.sIf Se.sAug Se.sBreak Se.sCont Se.gSet Se.gsNil Se.gsCons Se.gTupM Se.sAsg Se.sPar Se.sFor Se.iRange1 Se.iRange2 Se.mFld Se.sFldM Se.sFldAugM Se.mMeth Se.mProp Se.vMake Se.iEnumM Se.iZipM Se.iSeqM Se.iStrM Se.mYes Se.mLc Se.mBM Se.gSubL Se.mIsi Se.sRaise Se.sRaise0 Se.aStar Se.mOp Se.mLen Se.mDget Se.gSubD Se.mDisp Se.mItems Se.mDc Se.gFld Se.mOutcome Se.mBad Se.sBad Se.mNeg Ab.mNeg; exact (jss_one (js_ret (je_tup (ja_cons (je_fld (fld1 F.fo_LiveRow_water) (je_var (i := 0))) (ja_cons (je_fld (fld1 F.fo_LiveRow_passed) (je_var (i := 0))) (ja_cons (je_fld (fld1 F.fo_LiveRow_gone) (je_var (i := 0))) (ja_cons (je_fld (fld1 F.fo_LiveRow_shut) (je_var (i := 0))) (ja_nil))))))))))⟩⟩
/-! ### LiveRow.set_state -/
abbrev N_LiveRow_set_state : List Str := ["self", "state"]
theorem sc_LiveRow_set_state : FnScope N_LiveRow_set_state ["self", "state"] (defScope s_LiveRow_set_state) := ⟨rfl, rfl, rfl, by decide +kernel, rfl, by decide +kernel, by decide +kernel⟩
theorem h_LiveRow_set_state {T : Wh} (F : Fx T) : HasM T 20 "set_state" 1 2 f_LiveRow_set_state := by
  obtain ⟨f, fd, h1, hF, hB⟩ := F.me_LiveRow_set_state
  exact ⟨by decide +kernel, fun Ca hC => ⟨f, (h1 Ca hC).1, (h1 Ca hC).2, fnM_of1 (k := 0) (N := N_LiveRow_set_state) (m := 0) (body := m_LiveRow_set_state) hF hB sc_LiveRow_set_state rfl rfl (fun cdv A outer s H E hr => (by have hu := hr.units; have hu1 : _ + 1 < cLine := Nat.lt_of_le_of_lt (Nat.add_le_add_left (by decide) _) hu; delta m_LiveRow_set_state; delta Se.mVar Se.mC Se.mBin Se.mTest Se.mChain Se.tAndM Se.tOrM Se.tNotM Se.mAnd Se.mOr Se.mNot Se.mIf Se.aNil Se.aCons Se.mTup Se.mLst Se.mApp Se.mCut Se.oNone Se.oSome Se.sNext Se.sSeq Se.sSet Se.sRet Se.sDrop Se.sIf Se.sAug Se.sBreak Se.sCont Se.gSet Se.gsNil Se.gsCons Se.gTupM Se.sAsg Se.sPar Se.sFor Se.iRange1 Se.iRange2 Se.mFld Se.sFldM Se.sFldAugM Se.mMeth Se.mProp Se.vMake Se.iEnumM Se.iZipM Se.iSeqM Se.iStrM Se.mYes Se.mLc Se.mBM Se.gSubL Se.mIsi Se.sRaise Se.sRaise0 Se.aStar Se.mOp Se.mLen Se.mDget Se.gSubD Se.mDisp Se.mItems Se.mDc Se.gFld Se.mOutcome Se.mBad Se.sBad Se.mNeg Ab.mNeg; exact (jss_one (js_asg (je_var (i := 1)) (jg_tup rfl (jgs_cons (jg_fld (fld1 F.fo_LiveRow_water) (je_var (i := 0))) (jgs_cons (jg_fld (fld1 F.fo_LiveRow_passed) (je_var (i := 0))) (jgs_cons (jg_fld (fld1 F.fo_LiveRow_gone) (je_var (i := 0))) (jgs_cons (jg_fld (fld1 F.fo_LiveRow_shut) (je_var (i := 0))) (jgs_nil))))))))))⟩⟩
/-! ### LiveRow.commit -/
abbrev N_LiveRow_commit : List Str := ["self", "operation", "state"]
theorem sc_LiveRow_commit : FnScope N_LiveRow_commit ["self", "operation", "state"] (defScope s_LiveRow_commit) := ⟨rfl, rfl, rfl, by decide +kernel, rfl, by decide +kernel, by decide +kernel⟩
theorem h_LiveRow_commit {T : Wh} (F : Fx T) : HasM T 20 "commit" 2 3 f_LiveRow_commit := by
  obtain ⟨f, fd, h1, hF, hB⟩ := F.me_LiveRow_commit
  exact ⟨by decide +kernel, fun Ca hC => ⟨f, (h1 Ca hC).1, (h1 Ca hC).2, fnM_of1 (k := 1) (N := N_LiveRow_commit) (m := 0) (body := m_LiveRow_commit) hF hB sc_LiveRow_commit rfl rfl (fun cdv A outer s H E hr => (by have hu := hr.units; have hu1 : _ + 1 < cLine := Nat.lt_of_le_of_lt (Nat.add_le_add_left (by decide) _) hu; delta m_LiveRow_commit; delta Se.mVar Se.mC Se.mBin Se.mTest Se.mChain Se.tAndM Se.tOrM Se.tNotM Se.mAnd Se.mOr Se.mNot Se.mIf Se.aNil Se.aCons Se.mTup Se.mLst Se.mApp Se.mCut Se.oNone Se.oSome Se.sNext Se.sSeq Se.sSet Se.sRet Se.sDrop Se.sIf Se.sAug Se.sBreak Se.sCont Se.gSet Se.gsNil Se.gsCons Se.gTupM Se.sAsg Se.sPar Se.sFor Se.iRange1 Se.iRange2 Se.mFld Se.sFldM Se.sFldAugM Se.mMeth Se.mProp Se.vMake Se.iEnumM Se.iZipM Se.iSeqM Se.iStrM Se.mYes Se.mLc Se.mBM Se.gSubL Se.mIsi Se.sRaise Se.sRaise0 Se.aStar Se.mOp Se.mLen Se.mDget Se.gSubD Se.mDisp Se.mItems Se.mDc Se.gFld Se.mOutcome Se.mBad Se.sBad Se.mNeg Ab.mNeg; exact (jss_cons (js_expr (je_append (je_fld (fld1 F.fo_LiveRow_past) (je_var (i := 0))) (je_tup (ja_cons (je_var (i := 1)) (ja_cons (je_meth0 (tbl1 ⟨F.cl_LiveRow, h_LiveRow_state F⟩) (by simp) (hr.mono (by decide)) (je_var (i := 0))) (ja_nil)))))) (jss_cons (js_fld (fld1 F.fo_LiveRow_future) (je_var (i := 0)) (je_lst (ja_nil))) (jss_one (js_expr (je_meth (tbl1 ⟨F.cl_LiveRow, h_LiveRow_set_state F⟩) (by simp) (hr.mono (by decide)) (je_var (i := 0)) (ja_cons (je_var (i := 2)) (ja_nil)))))))))⟩⟩
/-! ### LiveRow.pour -/
abbrev N_LiveRow_pour : List Str := ["self", "amount", "water", "drawn", "missed", "gone", "later"]
theorem sc_LiveRow_pour : FnScope N_LiveRow_pour ["self", "amount"] (defScope s_LiveRow_pour) := ⟨rfl, rfl, rfl, by decide +kernel, rfl, by decide +kernel, by decide +kernel⟩
theorem h_LiveRow_pour {T : Wh} (F : Fx T) : HasM T 20 "pour" 4 2 f_LiveRow_pour := by
  obtain ⟨f, fd, h1, hF, hB⟩ := F.me_LiveRow_pour
  exact ⟨by decide +kernel, fun Ca hC => ⟨f, (h1 Ca hC).1, (h1 Ca hC).2, fnM_of1 (k := 3) (N := N_LiveRow_pour) (m := 5) (body := m_LiveRow_pour) hF hB sc_LiveRow_pour rfl rfl (fun cdv A outer s H E hr => (by have hu := hr.units; have hu1 : _ + 1 < cLine := Nat.lt_of_le_of_lt (Nat.add_le_add_left (by decide) _) hu; delta m_LiveRow_pour; delta Se.mVar Se.mC Se.mBin Se.mTest Se.mChain Se.tAndM Se.tOrM Se.tNotM Se.mAnd Se.mOr Se.mNot Se.mIf Se.aNil Se.aCons Se.mTup Se.mLst Se.mApp Se.mCut Se.oNone Se.oSome Se.sNext Se.sSeq Se.sSet Se.sRet Se.sDrop Se.sIf Se.sAug Se.sBreak Se.sCont Se.gSet Se.gsNil Se.gsCons Se.gTupM Se.sAsg Se.sPar Se.sFor Se.iRange1 Se.iRange2 Se.mFld Se.sFldM Se.sFldAugM Se.mMeth Se.mProp Se.vMake Se.iEnumM Se.iZipM Se.iSeqM Se.iStrM Se.mYes Se.mLc Se.mBM Se.gSubL Se.mIsi Se.sRaise Se.sRaise0 Se.aStar Se.mOp Se.mLen Se.mDget Se.gSubD Se.mDisp Se.mItems Se.mDc Se.gFld Se.mOutcome Se.mBad Se.sBad Se.mNeg Ab.mNeg; exact (jss_cons (js_expr (je_call (h_validate_number F) (hr.mono (by decide)) (ja_cons (je_var (i := 1)) (ja_cons (je_int) (ja_cons (je_globI F.g_MAX_RAIN) (ja_nil)))))) (jss_cons (js_asg (je_call (h_next_tick F) (hr.mono (by decide)) (ja_cons (je_fld (fld1 F.fo_LiveRow_plan) (je_var (i := 0))) (ja_cons (je_fld (fld1 F.fo_LiveRow_water) (je_var (i := 0))) (ja_cons (je_fld (fld1 F.fo_LiveRow_passed) (je_var (i := 0))) (ja_cons (je_var (i := 1)) (ja_cons (je_fld (fld1 F.fo_LiveRow_shut) (je_var (i := 0))) (ja_nil))))))) (jg_tup rfl (jgs_cons (jg_name (i := 2) sc_LiveRow_pour.nd) (jgs_cons (jg_name (i := 3) sc_LiveRow_pour.nd) (jgs_cons (jg_name (i := 4) sc_LiveRow_pour.nd) (jgs_cons (jg_name (i := 5) sc_LiveRow_pour.nd) (jgs_nil))))))) (jss_cons (js_set sc_LiveRow_pour.nd (je_tup (ja_cons (je_op m2_add quiet_add (je_ix (je_fld (fld1 F.fo_LiveRow_gone) (je_var (i := 0))) (je_int)) (je_var (i := 5))) (ja_cons (je_op m2_add quiet_add (je_ix (je_fld (fld1 F.fo_LiveRow_gone) (je_var (i := 0))) (je_int)) (je_var (i := 4))) (ja_nil))))) (jss_cons (js_expr (je_meth (tbl1 ⟨F.cl_LiveRow, h_LiveRow_commit F⟩) (by simp) (hr.mono (by decide)) (je_var (i := 0)) (ja_cons (je_tup (ja_cons (je_str) (ja_cons (je_var (i := 1)) (ja_nil)))) (ja_cons (je_tup (ja_cons (je_var (i := 2)) (ja_cons (je_op m2_add quiet_add (je_fld (fld1 F.fo_LiveRow_passed) (je_var (i := 0))) (je_int)) (ja_cons (je_var (i := 6)) (ja_cons (je_fld (fld1 F.fo_LiveRow_shut) (je_var (i := 0))) (ja_nil)))))) (ja_nil))))) (jss_one (js_ret (je_var (i := 5))))))))))⟩⟩
/-! ### _law_scoop_due -/
abbrev N_law_scoop_due : List Str := ["_law_w", "_law_name", "_law_amount", "_law_place", "_law_got"]
theorem sc_law_scoop_due : FnScope N_law_scoop_due ["_law_w", "_law_name", "_law_amount"] (defScope s_law_scoop_due) := ⟨rfl, rfl, rfl, by decide +kernel, rfl, by decide +kernel, by decide +kernel⟩
theorem h_law_scoop_due {T : Wh} (F : Fx T) : Has T "_law_scoop_due" 1 3 f_law_scoop_due := by
  obtain ⟨f, fd, hm, hF, hB⟩ := F.fn_law_scoop_due
  exact ⟨f, hm, fnM_of1 (k := 0) (N := N_law_scoop_due) (m := 2) (body := m_law_scoop_due) hF hB sc_law_scoop_due rfl rfl (fun cdv A outer s H E hr => (by have hu := hr.units; have hu1 : _ + 1 < cLine := Nat.lt_of_le_of_lt (Nat.add_le_add_left (by decide) _) hu; delta m_law_scoop_due; delta Se.mVar Se.mC Se.mBin Se.mTest Se.mChain Se.tAndM Se.tOrM Se.tNotM Se.mAnd Se.mOr Se.mNot Se.mIf Se.aNil Se.aCons Se.mTup Se.mLst Se.mApp Se.mCut Se.oNone Se.oSome Se.sNext Se.sSeq Se.sSet Se.sRet Se.sDrop Se.sIf Se.sAug Se.sBreak Se.sCont Se.gSet Se.gsNil Se.gsCons Se.gTupM Se.sAsg Se.sPar Se.sFor Se.iRange1 Se.iRange2 Se.mFld Se.sFldM Se.sFldAugM Se.mMeth Se.mProp Se.vMake Se.iEnumM Se.iZipM Se.iSeqM Se.iStrM Se.mYes Se.mLc Se.mBM Se.gSubL Se.mIsi Se.sRaise Se.sRaise0 Se.aStar Se.mOp Se.mLen Se.mDget Se.gSubD Se.mDisp Se.mItems Se.mDc Se.gFld Se.mOutcome Se.mBad Se.sBad Se.mNeg Ab.mNeg; exact (jss_cons (js_if (jt_cmp m2_notIn quiet_notIn (je_var (i := 1)) (je_dget hu1 (je_var (i := 0)) (je_str))) (jss_one (js_ret (je_tup (ja_cons (je_str) (ja_cons (je_var (i := 1)) (ja_nil)))))) (jss_nil)) (jss_cons (js_if (jt_not (jt_chain m2_le quiet_le m2_le quiet_le (je_int) (je_var (i := 2)) (je_op m2_pow quiet_pow (je_int) (je_int)))) (jss_one (js_ret (je_tup (ja_cons (je_str) (ja_nil))))) (jss_nil)) (jss_cons (js_set sc_law_scoop_due.nd (je_index (je_dget hu1 (je_var (i := 0)) (je_str)) (je_var (i := 1)))) (jss_cons (js_set sc_law_scoop_due.nd (je_callB (mc_min2 rfl) quiet_min2 F.b_min Boot.min (ja_cons (je_var (i := 2)) (ja_cons (je_ix (je_dget hu1 (je_var (i := 0)) (je_str)) (je_var (i := 3))) (ja_nil))))) (jss_cons (js_asg (je_op m2_sub quiet_sub (je_ix (je_dget hu1 (je_var (i := 0)) (je_str)) (je_var (i := 3))) (je_var (i := 4))) (jg_sub (je_dget hu1 (je_var (i := 0)) (je_str)) (je_var (i := 3)))) (jss_cons (js_expr (je_append (je_dget hu1 (je_var (i := 0)) (je_str)) (je_tup (ja_cons (je_str) (ja_cons (je_var (i := 1)) (ja_cons (je_var (i := 2)) (ja_nil))))))) (jss_one (js_ret (je_tup (ja_cons (je_str) (ja_cons (je_var (i := 4)) (ja_nil))))))))))))))⟩
/-! ### Row.names -/
abbrev N_Row_names : List Str := ["self", "barrel"]
theorem sc_Row_names : FnScope N_Row_names ["self"] (defScope s_Row_names) := ⟨rfl, rfl, rfl, by decide +kernel, rfl, by decide +kernel, by decide +kernel⟩
theorem h_Row_names {T : Wh} (F : Fx T) : HasP T 13 "names" 1 f_Row_names := by
  obtain ⟨p, f, fd, h1, hF, hB⟩ := F.me_Row_names
  exact fun Ca hC => ⟨p, f, (h1 Ca hC).1, (h1 Ca hC).2, fnM_of1 (k := 0) (N := N_Row_names) (m := 1) (body := m_Row_names) hF hB sc_Row_names rfl rfl (fun cdv A outer s H E hr => (by have hu := hr.units; have hu1 : _ + 1 < cLine := Nat.lt_of_le_of_lt (Nat.add_le_add_left (by decide) _) hu; delta m_Row_names; delta Se.mVar Se.mC Se.mBin Se.mTest Se.mChain Se.tAndM Se.tOrM Se.tNotM Se.mAnd Se.mOr Se.mNot Se.mIf Se.aNil Se.aCons Se.mTup Se.mLst Se.mApp Se.mCut Se.oNone Se.oSome Se.sNext Se.sSeq Se.sSet Se.sRet Se.sDrop Se.sIf Se.sAug Se.sBreak Se.sCont Se.gSet Se.gsNil Se.gsCons Se.gTupM Se.sAsg Se.sPar Se.sFor Se.iRange1 Se.iRange2 Se.mFld Se.sFldM Se.sFldAugM Se.mMeth Se.mProp Se.vMake Se.iEnumM Se.iZipM Se.iSeqM Se.iStrM Se.mYes Se.mLc Se.mBM Se.gSubL Se.mIsi Se.sRaise Se.sRaise0 Se.aStar Se.mOp Se.mLen Se.mDget Se.gSubD Se.mDisp Se.mItems Se.mDc Se.gFld Se.mOutcome Se.mBad Se.sBad Se.mNeg Ab.mNeg; exact (jss_one (js_ret (je_callTy mc_tuple quiet_tuple F.b_tuple Boot.tuple (ja_cons (je_lc rfl sc_Row_names.nd [("barrel", 1)] (ji_seq (je_fld (fld1 F.fo_Row_parts) (je_var (i := 0)))) (by first | (change blkC N_Row_names (defScope s_Row_names) _ _ = true; decide +kernel) | rfl) (fun s H C cl fp => jg_name (i := 1) sc_Row_names.nd) (fun s H C cl fp => jts_nil) (fun s H C cl fp => je_ix (je_var (i := 1)) (je_int))) (ja_nil)))))))⟩
/-! ### place_of -/
abbrev N_place_of : List Str := ["row", "name", "place", "known"]
theorem sc_place_of : FnScope N_place_of ["row", "name"] (defScope s_place_of) := ⟨rfl, rfl, rfl, by decide +kernel, rfl, by decide +kernel, by decide +kernel⟩
theorem h_place_of {T : Wh} (F : Fx T) : Has T "place_of" 3 2 f_place_of := by
  obtain ⟨f, fd, hm, hF, hB⟩ := F.fn_place_of
  exact ⟨f, hm, fnM_of1 (k := 2) (N := N_place_of) (m := 2) (body := m_place_of) hF hB sc_place_of rfl rfl (fun cdv A outer s H E hr => (by have hu := hr.units; have hu1 : _ + 1 < cLine := Nat.lt_of_le_of_lt (Nat.add_le_add_left (by decide) _) hu; delta m_place_of; delta Se.mVar Se.mC Se.mBin Se.mTest Se.mChain Se.tAndM Se.tOrM Se.tNotM Se.mAnd Se.mOr Se.mNot Se.mIf Se.aNil Se.aCons Se.mTup Se.mLst Se.mApp Se.mCut Se.oNone Se.oSome Se.sNext Se.sSeq Se.sSet Se.sRet Se.sDrop Se.sIf Se.sAug Se.sBreak Se.sCont Se.gSet Se.gsNil Se.gsCons Se.gTupM Se.sAsg Se.sPar Se.sFor Se.iRange1 Se.iRange2 Se.mFld Se.sFldM Se.sFldAugM Se.mMeth Se.mProp Se.vMake Se.iEnumM Se.iZipM Se.iSeqM Se.iStrM Se.mYes Se.mLc Se.mBM Se.gSubL Se.mIsi Se.sRaise Se.sRaise0 Se.aStar Se.mOp Se.mLen Se.mDget Se.gSubD Se.mDisp Se.mItems Se.mDc Se.gFld Se.mOutcome Se.mBad Se.sBad Se.mNeg Ab.mNeg; exact (jss_cons (js_for cx1_pass rfl (ji_enum F.b_enumerate (je_prop (tbl1 ⟨F.cl_Row, h_Row_names F⟩) (by simp) (hr.mono (by decide)) (je_var (i := 0)))) (jg_tup rfl (jgs_cons (jg_name (i := 2) sc_place_of.nd) (jgs_cons (jg_name (i := 3) sc_place_of.nd) (jgs_nil)))) (jss_one (js_if (jt_cmp (m2_eq hu) quiet_eq (je_var (i := 3)) (je_var (i := 1))) (jss_one (js_ret (je_var (i := 2)))) (jss_nil)))) (jss_one (js_raise (h_x_UnknownBarrel F) rfl (hr.mono (by decide)) (jk_cons (je_var (i := 1)) (jk_nil)))))))⟩
/-! ### LiveRow.scoop -/
abbrev N_LiveRow_scoop : List Str := ["self", "name", "amount", "place", "taken", "water"]
theorem sc_LiveRow_scoop : FnScope N_LiveRow_scoop ["self", "name", "amount"] (defScope s_LiveRow_scoop) := ⟨rfl, rfl, rfl, by decide +kernel, rfl, by decide +kernel, by decide +kernel⟩
theorem h_LiveRow_scoop {T : Wh} (F : Fx T) : HasM T 20 "scoop" 4 3 f_LiveRow_scoop := by
  obtain ⟨f, fd, h1, hF, hB⟩ := F.me_LiveRow_scoop
  exact ⟨by decide +kernel, fun Ca hC => ⟨f, (h1 Ca hC).1, (h1 Ca hC).2, fnM_of1 (k := 3) (N := N_LiveRow_scoop) (m := 3) (body := m_LiveRow_scoop) hF hB sc_LiveRow_scoop rfl rfl (fun cdv A outer s H E hr => (by have hu := hr.units; have hu1 : _ + 1 < cLine := Nat.lt_of_le_of_lt (Nat.add_le_add_left (by decide) _) hu; delta m_LiveRow_scoop; delta Se.mVar Se.mC Se.mBin Se.mTest Se.mChain Se.tAndM Se.tOrM Se.tNotM Se.mAnd Se.mOr Se.mNot Se.mIf Se.aNil Se.aCons Se.mTup Se.mLst Se.mApp Se.mCut Se.oNone Se.oSome Se.sNext Se.sSeq Se.sSet Se.sRet Se.sDrop Se.sIf Se.sAug Se.sBreak Se.sCont Se.gSet Se.gsNil Se.gsCons Se.gTupM Se.sAsg Se.sPar Se.sFor Se.iRange1 Se.iRange2 Se.mFld Se.sFldM Se.sFldAugM Se.mMeth Se.mProp Se.vMake Se.iEnumM Se.iZipM Se.iSeqM Se.iStrM Se.mYes Se.mLc Se.mBM Se.gSubL Se.mIsi Se.sRaise Se.sRaise0 Se.aStar Se.mOp Se.mLen Se.mDget Se.gSubD Se.mDisp Se.mItems Se.mDc Se.gFld Se.mOutcome Se.mBad Se.sBad Se.mNeg Ab.mNeg; exact (jss_cons (js_set sc_LiveRow_scoop.nd (je_call (h_place_of F) (hr.mono (by decide)) (ja_cons (je_fld (fld1 F.fo_LiveRow_plan) (je_var (i := 0))) (ja_cons (je_var (i := 1)) (ja_nil))))) (jss_cons (js_expr (je_call (h_validate_number F) (hr.mono (by decide)) (ja_cons (je_var (i := 2)) (ja_cons (je_int) (ja_cons (je_globI F.g_MAX_AMOUNT) (ja_nil)))))) (jss_cons (js_set sc_LiveRow_scoop.nd (je_callB (mc_min2 rfl) quiet_min2 F.b_min Boot.min (ja_cons (je_var (i := 2)) (ja_cons (je_ix (je_fld (fld1 F.fo_LiveRow_water) (je_var (i := 0))) (je_var (i := 3))) (ja_nil))))) (jss_cons (js_set sc_LiveRow_scoop.nd (je_op m2_add quiet_add (je_op m2_add quiet_add (je_cut (je_fld (fld1 F.fo_LiveRow_water) (je_var (i := 0))) jo_none (jo_some (je_var (i := 3)))) (je_tup (ja_cons (je_op m2_sub quiet_sub (je_ix (je_fld (fld1 F.fo_LiveRow_water) (je_var (i := 0))) (je_var (i := 3))) (je_var (i := 4))) (ja_nil)))) (je_cut (je_fld (fld1 F.fo_LiveRow_water) (je_var (i := 0))) (jo_some (je_op m2_add quiet_add (je_var (i := 3)) (je_int))) jo_none))) (jss_cons (js_expr (je_meth (tbl1 ⟨F.cl_LiveRow, h_LiveRow_commit F⟩) (by simp) (hr.mono (by decide)) (je_var (i := 0)) (ja_cons (je_tup (ja_cons (je_str) (ja_cons (je_var (i := 1)) (ja_cons (je_var (i := 2)) (ja_nil))))) (ja_cons (je_tup (ja_cons (je_var (i := 5)) (ja_cons (je_fld (fld1 F.fo_LiveRow_passed) (je_var (i := 0))) (ja_cons (je_fld (fld1 F.fo_LiveRow_gone) (je_var (i := 0))) (ja_cons (je_fld (fld1 F.fo_LiveRow_shut) (je_var (i := 0))) (ja_nil)))))) (ja_nil))))) (jss_one (js_ret (je_var (i := 4)))))))))))⟩⟩
/-! ### _law_lock_due -/
abbrev N_law_lock_due : List Str := ["_law_w", "_law_word", "_law_name", "_law_fresh", "_law_one"]
theorem sc_law_lock_due : FnScope N_law_lock_due ["_law_w", "_law_word", "_law_name"] (defScope s_law_lock_due) := ⟨rfl, rfl, rfl, by decide +kernel, rfl, by decide +kernel, by decide +kernel⟩
theorem h_law_lock_due {T : Wh} (F : Fx T) : Has T "_law_lock_due" 1 3 f_law_lock_due := by
  obtain ⟨f, fd, hm, hF, hB⟩ := F.fn_law_lock_due
  exact ⟨f, hm, fnM_of1 (k := 0) (N := N_law_lock_due) (m := 2) (body := m_law_lock_due) hF hB sc_law_lock_due rfl rfl (fun cdv A outer s H E hr => (by have hu := hr.units; have hu1 : _ + 1 < cLine := Nat.lt_of_le_of_lt (Nat.add_le_add_left (by decide) _) hu; delta m_law_lock_due; delta Se.mVar Se.mC Se.mBin Se.mTest Se.mChain Se.tAndM Se.tOrM Se.tNotM Se.mAnd Se.mOr Se.mNot Se.mIf Se.aNil Se.aCons Se.mTup Se.mLst Se.mApp Se.mCut Se.oNone Se.oSome Se.sNext Se.sSeq Se.sSet Se.sRet Se.sDrop Se.sIf Se.sAug Se.sBreak Se.sCont Se.gSet Se.gsNil Se.gsCons Se.gTupM Se.sAsg Se.sPar Se.sFor Se.iRange1 Se.iRange2 Se.mFld Se.sFldM Se.sFldAugM Se.mMeth Se.mProp Se.vMake Se.iEnumM Se.iZipM Se.iSeqM Se.iStrM Se.mYes Se.mLc Se.mBM Se.gSubL Se.mIsi Se.sRaise Se.sRaise0 Se.aStar Se.mOp Se.mLen Se.mDget Se.gSubD Se.mDisp Se.mItems Se.mDc Se.gFld Se.mOutcome Se.mBad Se.sBad Se.mNeg Ab.mNeg; exact (jss_cons (js_if (jt_cmp m2_notIn quiet_notIn (je_var (i := 2)) (je_dget hu1 (je_var (i := 0)) (je_str))) (jss_one (js_ret (je_tup (ja_cons (je_str) (ja_cons (je_var (i := 2)) (ja_nil)))))) (jss_nil)) (jss_cons (js_set sc_law_lock_due.nd (je_cmp (m2_eq hu) quiet_eq (je_cmp m2_in quiet_in (je_var (i := 2)) (je_dget hu1 (je_var (i := 0)) (je_str))) (je_cmp (m2_eq hu) quiet_eq (je_var (i := 1)) (je_str)))) (jss_cons (js_asg (je_op m2_add quiet_add (je_lc rfl sc_law_lock_due.nd [("_law_one", 4)] (ji_seq (je_dget hu1 (je_var (i := 0)) (je_str))) (by first | (change blkC N_law_lock_due (defScope s_law_lock_due) _ _ = true; decide +kernel) | rfl) (fun s H C cl fp => jg_name (i := 4) sc_law_lock_due.nd) (fun s H C cl fp => jts_one (jt_cmp (m2_ne hu) quiet_ne (je_var (i := 4)) (je_var (i := 2)))) (fun s H C cl fp => je_var (i := 4))) (je_op m2_repL quiet_repL (je_lst (ja_cons (je_var (i := 2)) (ja_nil))) (je_callTy mc_intB quiet_intB F.b_int Boot.int (ja_cons (je_cmp (m2_eq hu) quiet_eq (je_var (i := 1)) (je_str)) (ja_nil))))) (jg_dsub hu1 (je_var (i := 0)) (je_str))) (jss_cons (js_expr (je_append (je_dget hu1 (je_var (i := 0)) (je_str)) (je_tup (ja_cons (je_var (i := 1)) (ja_cons (je_var (i := 2)) (ja_nil)))))) (jss_one (js_ret (je_tup (ja_cons (je_str) (ja_cons (je_var (i := 3)) (ja_nil))))))))))))⟩
/-! ### LiveRow.lock -/
abbrev N_LiveRow_lock : List Str := ["self", "name", "is_new", "shut"]
theorem sc_LiveRow_lock : FnScope N_LiveRow_lock ["self", "name"] (defScope s_LiveRow_lock) := ⟨rfl, rfl, rfl, by decide +kernel, rfl, by decide +kernel, by decide +kernel⟩
theorem h_LiveRow_lock {T : Wh} (F : Fx T) : HasM T 20 "lock" 4 2 f_LiveRow_lock := by
  obtain ⟨f, fd, h1, hF, hB⟩ := F.me_LiveRow_lock
  exact ⟨by decide +kernel, fun Ca hC => ⟨f, (h1 Ca hC).1, (h1 Ca hC).2, fnM_of1 (k := 3) (N := N_LiveRow_lock) (m := 2) (body := m_LiveRow_lock) hF hB sc_LiveRow_lock rfl rfl (fun cdv A outer s H E hr => (by have hu := hr.units; have hu1 : _ + 1 < cLine := Nat.lt_of_le_of_lt (Nat.add_le_add_left (by decide) _) hu; delta m_LiveRow_lock; delta Se.mVar Se.mC Se.mBin Se.mTest Se.mChain Se.tAndM Se.tOrM Se.tNotM Se.mAnd Se.mOr Se.mNot Se.mIf Se.aNil Se.aCons Se.mTup Se.mLst Se.mApp Se.mCut Se.oNone Se.oSome Se.sNext Se.sSeq Se.sSet Se.sRet Se.sDrop Se.sIf Se.sAug Se.sBreak Se.sCont Se.gSet Se.gsNil Se.gsCons Se.gTupM Se.sAsg Se.sPar Se.sFor Se.iRange1 Se.iRange2 Se.mFld Se.sFldM Se.sFldAugM Se.mMeth Se.mProp Se.vMake Se.iEnumM Se.iZipM Se.iSeqM Se.iStrM Se.mYes Se.mLc Se.mBM Se.gSubL Se.mIsi Se.sRaise Se.sRaise0 Se.aStar Se.mOp Se.mLen Se.mDget Se.gSubD Se.mDisp Se.mItems Se.mDc Se.gFld Se.mOutcome Se.mBad Se.sBad Se.mNeg Ab.mNeg; exact (jss_cons (js_expr (je_call (h_place_of F) (hr.mono (by decide)) (ja_cons (je_fld (fld1 F.fo_LiveRow_plan) (je_var (i := 0))) (ja_cons (je_var (i := 1)) (ja_nil))))) (jss_cons (js_set sc_LiveRow_lock.nd (je_cmp m2_notIn quiet_notIn (je_var (i := 1)) (je_fld (fld1 F.fo_LiveRow_shut) (je_var (i := 0))))) (jss_cons (js_set sc_LiveRow_lock.nd (je_if (jt_val (je_var (i := 2))) (je_op m2_add quiet_add (je_fld (fld1 F.fo_LiveRow_shut) (je_var (i := 0))) (je_tup (ja_cons (je_var (i := 1)) (ja_nil)))) (je_fld (fld1 F.fo_LiveRow_shut) (je_var (i := 0))))) (jss_cons (js_expr (je_meth (tbl1 ⟨F.cl_LiveRow, h_LiveRow_commit F⟩) (by simp) (hr.mono (by decide)) (je_var (i := 0)) (ja_cons (je_tup (ja_cons (je_str) (ja_cons (je_var (i := 1)) (ja_nil)))) (ja_cons (je_tup (ja_cons (je_fld (fld1 F.fo_LiveRow_water) (je_var (i := 0))) (ja_cons (je_fld (fld1 F.fo_LiveRow_passed) (je_var (i := 0))) (ja_cons (je_fld (fld1 F.fo_LiveRow_gone) (je_var (i := 0))) (ja_cons (je_var (i := 3)) (ja_nil)))))) (ja_nil))))) (jss_one (js_ret (je_var (i := 2))))))))))⟩⟩
/-! ### LiveRow.unlock -/
abbrev N_LiveRow_unlock : List Str := ["self", "name", "shut", "one", "is_new"]
theorem sc_LiveRow_unlock : FnScope N_LiveRow_unlock ["self", "name"] (defScope s_LiveRow_unlock) := ⟨rfl, rfl, rfl, by decide +kernel, rfl, by decide +kernel, by decide +kernel⟩
theorem h_LiveRow_unlock {T : Wh} (F : Fx T) : HasM T 20 "unlock" 4 2 f_LiveRow_unlock := by
  obtain ⟨f, fd, h1, hF, hB⟩ := F.me_LiveRow_unlock
  exact ⟨by decide +kernel, fun Ca hC => ⟨f, (h1 Ca hC).1, (h1 Ca hC).2, fnM_of1 (k := 3) (N := N_LiveRow_unlock) (m := 3) (body := m_LiveRow_unlock) hF hB sc_LiveRow_unlock rfl rfl (fun cdv A outer s H E hr => (by have hu := hr.units; have hu1 : _ + 1 < cLine := Nat.lt_of_le_of_lt (Nat.add_le_add_left (by decide) _) hu; delta m_LiveRow_unlock; delta Se.mVar Se.mC Se.mBin Se.mTest Se.mChain Se.tAndM Se.tOrM Se.tNotM Se.mAnd Se.mOr Se.mNot Se.mIf Se.aNil Se.aCons Se.mTup Se.mLst Se.mApp Se.mCut Se.oNone Se.oSome Se.sNext Se.sSeq Se.sSet Se.sRet Se.sDrop Se.sIf Se.sAug Se.sBreak Se.sCont Se.gSet Se.gsNil Se.gsCons Se.gTupM Se.sAsg Se.sPar Se.sFor Se.iRange1 Se.iRange2 Se.mFld Se.sFldM Se.sFldAugM Se.mMeth Se.mProp Se.vMake Se.iEnumM Se.iZipM Se.iSeqM Se.iStrM Se.mYes Se.mLc Se.mBM Se.gSubL Se.mIsi Se.sRaise Se.sRaise0 Se.aStar Se.mOp Se.mLen Se.mDget Se.gSubD Se.mDisp Se.mItems Se.mDc Se.gFld Se.mOutcome Se.mBad Se.sBad Se.mNeg Ab.mNeg; exact (jss_cons (js_expr (je_call (h_place_of F) (hr.mono (by decide)) (ja_cons (je_fld (fld1 F.fo_LiveRow_plan) (je_var (i := 0))) (ja_cons (je_var (i := 1)) (ja_nil))))) (jss_cons (js_set sc_LiveRow_unlock.nd (je_callTy mc_tuple quiet_tuple F.b_tuple Boot.tuple (ja_cons (je_lc rfl sc_LiveRow_unlock.nd [("one", 3)] (ji_seq (je_fld (fld1 F.fo_LiveRow_shut) (je_var (i := 0)))) (by first | (change blkC N_LiveRow_unlock (defScope s_LiveRow_unlock) _ _ = true; decide +kernel) | rfl) (fun s H C cl fp => jg_name (i := 3) sc_LiveRow_unlock.nd) (fun s H C cl fp => jts_one (jt_cmp (m2_ne hu) quiet_ne (je_var (i := 3)) (je_var (i := 1)))) (fun s H C cl fp => je_var (i := 3))) (ja_nil)))) (jss_cons (js_set sc_LiveRow_unlock.nd (je_cmp m2_lt (quiet_cmpI _) (je_callB mc_len quiet_len F.b_len Boot.len (ja_cons (je_var (i := 2)) (ja_nil))) (je_callB mc_len quiet_len F.b_len Boot.len (ja_cons (je_fld (fld1 F.fo_LiveRow_shut) (je_var (i := 0))) (ja_nil))))) (jss_cons (js_expr (je_meth (tbl1 ⟨F.cl_LiveRow, h_LiveRow_commit F⟩) (by simp) (hr.mono (by decide)) (je_var (i := 0)) (ja_cons (je_tup (ja_cons (je_str) (ja_cons (je_var (i := 1)) (ja_nil)))) (ja_cons (je_tup (ja_cons (je_fld (fld1 F.fo_LiveRow_water) (je_var (i := 0))) (ja_cons (je_fld (fld1 F.fo_LiveRow_passed) (je_var (i := 0))) (ja_cons (je_fld (fld1 F.fo_LiveRow_gone) (je_var (i := 0))) (ja_cons (je_var (i := 2)) (ja_nil)))))) (ja_nil))))) (jss_one (js_ret (je_var (i := 4))))))))))⟩⟩
/-! ### _law_alike -/
abbrev N_law_alike : List Str := ["_law_found", "_law_due", "_law_k"]
theorem sc_law_alike : FnScope N_law_alike ["_law_found", "_law_due"] (defScope s_law_alike) := ⟨rfl, rfl, rfl, by decide +kernel, rfl, by decide +kernel, by decide +kernel⟩
theorem h_law_alike {T : Wh} (F : Fx T) : ∀ n, Has T "_law_alike" (n + 1) 2 (f_law_alike n)
  | 0 => let ⟨f, fd, hm, hF, hB⟩ := F.fn_law_alike; ⟨f, hm, fnM_of1 (N := N_law_alike) (m := 1) hF hB sc_law_alike rfl rfl fun cdv A outer s H E hr => jss_never⟩
  | n + 1 => by
    have ih := h_law_alike F n
    obtain ⟨f, fd, hm, hF, hB⟩ := F.fn_law_alike
    exact ⟨f, hm, fnM_of1 (k := n + 1) (N := N_law_alike) (m := 1) (body := m_law_alike (f_law_alike n)) hF hB sc_law_alike rfl rfl (fun cdv A outer s H E hr => (by have hu := hr.units; have hu1 : _ + 1 < cLine := Nat.lt_of_le_of_lt (Nat.add_le_add_left (by decide) _) hu; delta m_law_alike; delta Se.mVar Se.mC Se.mBin Se.mTest Se.mChain Se.tAndM Se.tOrM Se.tNotM Se.mAnd Se.mOr Se.mNot Se.mIf Se.aNil Se.aCons Se.mTup Se.mLst Se.mApp Se.mCut Se.oNone Se.oSome Se.sNext Se.sSeq Se.sSet Se.sRet Se.sDrop Se.sIf Se.sAug Se.sBreak Se.sCont Se.gSet Se.gsNil Se.gsCons Se.gTupM Se.sAsg Se.sPar Se.sFor Se.iRange1 Se.iRange2 Se.mFld Se.sFldM Se.sFldAugM Se.mMeth Se.mProp Se.vMake Se.iEnumM Se.iZipM Se.iSeqM Se.iStrM Se.mYes Se.mLc Se.mBM Se.gSubL Se.mIsi Se.sRaise Se.sRaise0 Se.aStar Se.mOp Se.mLen Se.mDget Se.gSubD Se.mDisp Se.mItems Se.mDc Se.gFld Se.mOutcome Se.mBad Se.sBad Se.mNeg Ab.mNeg; exact (jss_cons (js_if (jt_val (je_isi F.b_isinstance F.b_dict (je_var (i := 1)) .dict Boot.dict)) (jss_never) (jss_nil)) (jss_cons (js_if (jt_val (je_isi2 F.b_isinstance F.b_tuple F.b_list (je_var (i := 1)) .tuple .list Boot.tuple Boot.list)) (jss_cons (js_if ((jw_or (jt_not (jt_val (je_isi2 F.b_isinstance F.b_tuple F.b_list (je_var (i := 0)) .tuple .list Boot.tuple Boot.list))) (jw_or1 (jt_cmp (m2_ne hu) quiet_ne (je_isi F.b_isinstance F.b_list (je_var (i := 0)) .list Boot.list) (je_isi F.b_isinstance F.b_list (je_var (i := 1)) .list Boot.list)))).jt) (jss_one (js_ret (je_bl))) (jss_nil)) (jss_cons (js_if (jt_cmp (m2_ne hu) quiet_ne (je_callB mc_len quiet_len F.b_len Boot.len (ja_cons (je_var (i := 0)) (ja_nil))) (je_callB mc_len quiet_len F.b_len Boot.len (ja_cons (je_var (i := 1)) (ja_nil)))) (jss_one (js_ret (je_bl))) (jss_nil)) (jss_one (js_ret (je_cmp (m2_eq hu) quiet_eq (je_lc rfl sc_law_alike.nd [("_law_k", 2)] (ji_range1 F.b_range (ja_cons (je_callB mc_len quiet_len F.b_len Boot.len (ja_cons (je_var (i := 1)) (ja_nil))) (ja_nil))) (by first | (change blkC N_law_alike (defScope s_law_alike) _ _ = true; decide +kernel) | rfl) (fun s H C cl fp => jg_name (i := 2) sc_law_alike.nd) (fun s H C cl fp => jts_one (jt_not (jt_val (je_call ih (hr.mono (by omega)) (ja_cons (je_ix (je_var (i := 0)) (je_var (i := 2))) (ja_cons (je_ix (je_var (i := 1)) (je_var (i := 2))) (ja_nil))))))) (fun s H C cl fp => je_var (i := 2))) (je_lst (ja_nil))))))) (jss_nil)) (jss_cons (js_if ((jw_or (jt_cmp m2_isN quiet_isN (je_var (i := 1)) (je_non)) (jw_or1 (jt_val (je_isi F.b_isinstance F.b_str (je_var (i := 1)) .str Boot.str)))).jt) (jss_one (js_ret (je_and (je_cmp (m2_eq hu) quiet_eq (je_var (i := 0)) (je_var (i := 1))) (je_one (je_cmp (m2_eq hu) quiet_eq (je_isi F.b_isinstance F.b_str (je_var (i := 0)) .str Boot.str) (je_isi F.b_isinstance F.b_str (je_var (i := 1)) .str Boot.str)))))) (jss_nil)) (jss_one (js_ret (je_and (je_isi F.b_isinstance F.b_int (je_var (i := 0)) .int Boot.int) (je_and (je_cmp (m2_eq hu) quiet_eq (je_isi F.b_isinstance F.b_bool (je_var (i := 0)) .bool Boot.bool) (je_isi F.b_isinstance F.b_bool (je_var (i := 1)) .bool Boot.bool)) (je_one (je_cmp (m2_eq hu) quiet_eq (je_var (i := 0)) (je_var (i := 1)))))))))))))⟩
/-! ### LiveRow.missed_water -/
abbrev N_LiveRow_missed_water : List Str := ["self"]
theorem sc_LiveRow_missed_water : FnScope N_LiveRow_missed_water ["self"] (defScope s_LiveRow_missed_water) := ⟨rfl, rfl, rfl, by decide +kernel, rfl, by decide +kernel, by decide +kernel⟩
theorem h_LiveRow_missed_water {T : Wh} (F : Fx T) : HasP T 20 "missed_water" 1 f_LiveRow_missed_water := by
  obtain ⟨p, f, fd, h1, hF, hB⟩ := F.me_LiveRow_missed_water
  exact fun Ca hC => ⟨p, f, (h1 Ca hC).1, (h1 Ca hC).2, fnM_of1 (k := 0) (N := N_LiveRow_missed_water) (m := 0) (body := m_LiveRow_missed_water) hF hB sc_LiveRow_missed_water rfl rfl (fun cdv A outer s H E hr => (by have hu := hr.units; have hu1 : _ + 1 < cLine := Nat.lt_of_le_of_lt (Nat.add_le_add_left (by decide) _) hu; delta m_LiveRow_missed_water; delta Se.mVar Se.mC Se.mBin Se.mTest Se.mChain Se.tAndM Se.tOrM Se.tNotM Se.mAnd Se.mOr Se.mNot Se.mIf Se.aNil Se.aCons Se.mTup Se.mLst Se.mApp Se.mCut Se.oNone Se.oSome Se.sNext Se.sSeq Se.sSet Se.sRet Se.sDrop Se.sIf Se.sAug Se.sBreak Se.sCont Se.gSet Se.gsNil Se.gsCons Se.gTupM Se.sAsg Se.sPar Se.sFor Se.iRange1 Se.iRange2 Se.mFld Se.sFldM Se.sFldAugM Se.mMeth Se.mProp Se.vMake Se.iEnumM Se.iZipM Se.iSeqM Se.iStrM Se.mYes Se.mLc Se.mBM Se.gSubL Se.mIsi Se.sRaise Se.sRaise0 Se.aStar Se.mOp Se.mLen Se.mDget Se.gSubD Se.mDisp Se.mItems Se.mDc Se.gFld Se.mOutcome Se.mBad Se.sBad Se.mNeg Ab.mNeg; exact (jss_one (js_ret (je_ix (je_fld (fld1 F.fo_LiveRow_gone) (je_var (i := 0))) (je_int))))))⟩
/-! ### LiveRow.lost_water -/
abbrev N_LiveRow_lost_water : List Str := ["self"]
theorem sc_LiveRow_lost_water : FnScope N_LiveRow_lost_water ["self"] (defScope s_LiveRow_lost_water) := ⟨rfl, rfl, rfl, by decide +kernel, rfl, by decide +kernel, by decide +kernel⟩
theorem h_LiveRow_lost_water {T : Wh} (F : Fx T) : HasP T 20 "lost_water" 1 f_LiveRow_lost_water := by
  obtain ⟨p, f, fd, h1, hF, hB⟩ := F.me_LiveRow_lost_water
  exact fun Ca hC => ⟨p, f, (h1 Ca hC).1, (h1 Ca hC).2, fnM_of1 (k := 0) (N := N_LiveRow_lost_water) (m := 0) (body := m_LiveRow_lost_water) hF hB sc_LiveRow_lost_water rfl rfl (fun cdv A outer s H E hr => (by have hu := hr.units; have hu1 : _ + 1 < cLine := Nat.lt_of_le_of_lt (Nat.add_le_add_left (by decide) _) hu; delta m_LiveRow_lost_water; delta Se.mVar Se.mC Se.mBin Se.mTest Se.mChain Se.tAndM Se.tOrM Se.tNotM Se.mAnd Se.mOr Se.mNot Se.mIf Se.aNil Se.aCons Se.mTup Se.mLst Se.mApp Se.mCut Se.oNone Se.oSome Se.sNext Se.sSeq Se.sSet Se.sRet Se.sDrop Se.sIf Se.sAug Se.sBreak Se.sCont Se.gSet Se.gsNil Se.gsCons Se.gTupM Se.sAsg Se.sPar Se.sFor Se.iRange1 Se.iRange2 Se.mFld Se.sFldM Se.sFldAugM Se.mMeth Se.mProp Se.vMake Se.iEnumM Se.iZipM Se.iSeqM Se.iStrM Se.mYes Se.mLc Se.mBM Se.gSubL Se.mIsi Se.sRaise Se.sRaise0 Se.aStar Se.mOp Se.mLen Se.mDget Se.gSubD Se.mDisp Se.mItems Se.mDc Se.gFld Se.mOutcome Se.mBad Se.sBad Se.mNeg Ab.mNeg; exact (jss_one (js_ret (je_ix (je_fld (fld1 F.fo_LiveRow_gone) (je_var (i := 0))) (je_int))))))⟩
/-! ### LiveRow.levels -/
abbrev N_LiveRow_levels : List Str := ["self", "barrel", "level"]
theorem sc_LiveRow_levels : FnScope N_LiveRow_levels ["self"] (defScope s_LiveRow_levels) := ⟨rfl, rfl, rfl, by decide +kernel, rfl, by decide +kernel, by decide +kernel⟩
theorem h_LiveRow_levels {T : Wh} (F : Fx T) : HasP T 20 "levels" 1 f_LiveRow_levels := by
  obtain ⟨p, f, fd, h1, hF, hB⟩ := F.me_LiveRow_levels
  exact fun Ca hC => ⟨p, f, (h1 Ca hC).1, (h1 Ca hC).2, fnM_of1 (k := 0) (N := N_LiveRow_levels) (m := 2) (body := m_LiveRow_levels) hF hB sc_LiveRow_levels rfl rfl (fun cdv A outer s H E hr => (by have hu := hr.units; have hu1 : _ + 1 < cLine := Nat.lt_of_le_of_lt (Nat.add_le_add_left (by decide) _) hu; delta m_LiveRow_levels; delta Se.mVar Se.mC Se.mBin Se.mTest Se.mChain Se.tAndM Se.tOrM Se.tNotM Se.mAnd Se.mOr Se.mNot Se.mIf Se.aNil Se.aCons Se.mTup Se.mLst Se.mApp Se.mCut Se.oNone Se.oSome Se.sNext Se.sSeq Se.sSet Se.sRet Se.sDrop Se.sIf Se.sAug Se.sBreak Se.sCont Se.gSet Se.gsNil Se.gsCons Se.gTupM Se.sAsg Se.sPar Se.sFor Se.iRange1 Se.iRange2 Se.mFld Se.sFldM Se.sFldAugM Se.mMeth Se.mProp Se.vMake Se.iEnumM Se.iZipM Se.iSeqM Se.iStrM Se.mYes Se.mLc Se.mBM Se.gSubL Se.mIsi Se.sRaise Se.sRaise0 Se.aStar Se.mOp Se.mLen Se.mDget Se.gSubD Se.mDisp Se.mItems Se.mDc Se.gFld Se.mOutcome Se.mBad Se.sBad Se.mNeg Ab.mNeg; exact (jss_one (js_ret (je_dc rfl sc_LiveRow_levels.nd [("barrel", 1), ("level", 2)] (ji_zip F.b_zip (je_fld (fld1 F.fo_Row_parts) (je_fld (fld1 F.fo_LiveRow_plan) (je_var (i := 0)))) (je_fld (fld1 F.fo_LiveRow_water) (je_var (i := 0)))) (by first | (change blkC N_LiveRow_levels (defScope s_LiveRow_levels) _ _ = true; decide +kernel) | rfl) (fun s H C cl fp => jg_tup rfl (jgs_cons (jg_name (i := 1) sc_LiveRow_levels.nd) (jgs_cons (jg_name (i := 2) sc_LiveRow_levels.nd) (jgs_nil)))) (fun s H C cl fp => jts_nil) (fun s H C cl fp => je_ix (je_var (i := 1)) (je_int)) (fun s H C cl fp => je_var (i := 2)))))))⟩
/-! ### LiveRow.now -/
abbrev N_LiveRow_now : List Str := ["self"]
theorem sc_LiveRow_now : FnScope N_LiveRow_now ["self"] (defScope s_LiveRow_now) := ⟨rfl, rfl, rfl, by decide +kernel, rfl, by decide +kernel, by decide +kernel⟩
theorem h_LiveRow_now {T : Wh} (F : Fx T) : HasP T 20 "now" 1 f_LiveRow_now := by
  obtain ⟨p, f, fd, h1, hF, hB⟩ := F.me_LiveRow_now
  exact fun Ca hC => ⟨p, f, (h1 Ca hC).1, (h1 Ca hC).2, fnM_of1 (k := 0) (N := N_LiveRow_now) (m := 0) (body := m_LiveRow_now) hF hB sc_LiveRow_now rfl rfl (fun cdv A outer s H E hr => (by have hu := hr.units; have hu1 : _ + 1 < cLine := Nat.lt_of_le_of_lt (Nat.add_le_add_left (by decide) _) hu; delta m_LiveRow_now; delta Se.mVar Se.mC Se.mBin Se.mTest Se.mChain Se.tAndM Se.tOrM Se.tNotM Se.mAnd Se.mOr Se.mNot Se.mIf Se.aNil Se.aCons Se.mTup Se.mLst Se.mApp Se.mCut Se.oNone Se.oSome Se.sNext Se.sSeq Se.sSet Se.sRet Se.sDrop Se.sIf Se.sAug Se.sBreak Se.sCont Se.gSet Se.gsNil Se.gsCons Se.gTupM Se.sAsg Se.sPar Se.sFor Se.iRange1 Se.iRange2 Se.mFld Se.sFldM Se.sFldAugM Se.mMeth Se.mProp Se.vMake Se.iEnumM Se.iZipM Se.iSeqM Se.iStrM Se.mYes Se.mLc Se.mBM Se.gSubL Se.mIsi Se.sRaise Se.sRaise0 Se.aStar Se.mOp Se.mLen Se.mDget Se.gSubD Se.mDisp Se.mItems Se.mDc Se.gFld Se.mOutcome Se.mBad Se.sBad Se.mNeg Ab.mNeg; exact (jss_one (js_ret (je_fld (fld1 F.fo_LiveRow_passed) (je_var (i := 0)))))))⟩
/-! ### LiveRow.history -/
abbrev N_LiveRow_history : List Str := ["self", "operation", "state"]
theorem sc_LiveRow_history : FnScope N_LiveRow_history ["self"] (defScope s_LiveRow_history) := ⟨rfl, rfl, rfl, by decide +kernel, rfl, by decide +kernel, by decide +kernel⟩
theorem h_LiveRow_history {T : Wh} (F : Fx T) : HasP T 20 "history" 1 f_LiveRow_history := by
  obtain ⟨p, f, fd, h1, hF, hB⟩ := F.me_LiveRow_history
  exact fun Ca hC => ⟨p, f, (h1 Ca hC).1, (h1 Ca hC).2, fnM_of1 (k := 0) (N := N_LiveRow_history) (m := 2) (body := m_LiveRow_history) hF hB sc_LiveRow_history rfl rfl (fun cdv A outer s H E hr => (by have hu := hr.units; have hu1 : _ + 1 < cLine := Nat.lt_of_le_of_lt (Nat.add_le_add_left (by decide) _) hu; delta m_LiveRow_history; delta Se.mVar Se.mC Se.mBin Se.mTest Se.mChain Se.tAndM Se.tOrM Se.tNotM Se.mAnd Se.mOr Se.mNot Se.mIf Se.aNil Se.aCons Se.mTup Se.mLst Se.mApp Se.mCut Se.oNone Se.oSome Se.sNext Se.sSeq Se.sSet Se.sRet Se.sDrop Se.sIf Se.sAug Se.sBreak Se.sCont Se.gSet Se.gsNil Se.gsCons Se.gTupM Se.sAsg Se.sPar Se.sFor Se.iRange1 Se.iRange2 Se.mFld Se.sFldM Se.sFldAugM Se.mMeth Se.mProp Se.vMake Se.iEnumM Se.iZipM Se.iSeqM Se.iStrM Se.mYes Se.mLc Se.mBM Se.gSubL Se.mIsi Se.sRaise Se.sRaise0 Se.aStar Se.mOp Se.mLen Se.mDget Se.gSubD Se.mDisp Se.mItems Se.mDc Se.gFld Se.mOutcome Se.mBad Se.sBad Se.mNeg Ab.mNeg; exact (jss_one (js_ret (je_lc rfl sc_LiveRow_history.nd [("operation", 1), ("state", 2)] (ji_seq (je_fld (fld1 F.fo_LiveRow_past) (je_var (i := 0)))) (by first | (change blkC N_LiveRow_history (defScope s_LiveRow_history) _ _ = true; decide +kernel) | rfl) (fun s H C cl fp => jg_tup rfl (jgs_cons (jg_name (i := 1) sc_LiveRow_history.nd) (jgs_cons (jg_name (i := 2) sc_LiveRow_history.nd) (jgs_nil)))) (fun s H C cl fp => jts_nil) (fun s H C cl fp => je_var (i := 1)))))))⟩
/-! ### LiveRow.locked_names -/
abbrev N_LiveRow_locked_names : List Str := ["self", "barrel"]
theorem sc_LiveRow_locked_names : FnScope N_LiveRow_locked_names ["self"] (defScope s_LiveRow_locked_names) := ⟨rfl, rfl, rfl, by decide +kernel, rfl, by decide +kernel, by decide +kernel⟩
theorem h_LiveRow_locked_names {T : Wh} (F : Fx T) : HasP T 20 "locked_names" 1 f_LiveRow_locked_names := by
  obtain ⟨p, f, fd, h1, hF, hB⟩ := F.me_LiveRow_locked_names
  exact fun Ca hC => ⟨p, f, (h1 Ca hC).1, (h1 Ca hC).2, fnM_of1 (k := 0) (N := N_LiveRow_locked_names) (m := 1) (body := m_LiveRow_locked_names) hF hB sc_LiveRow_locked_names rfl rfl (fun cdv A outer s H E hr => (by have hu := hr.units; have hu1 : _ + 1 < cLine := Nat.lt_of_le_of_lt (Nat.add_le_add_left (by decide) _) hu; delta m_LiveRow_locked_names; delta Se.mVar Se.mC Se.mBin Se.mTest Se.mChain Se.tAndM Se.tOrM Se.tNotM Se.mAnd Se.mOr Se.mNot Se.mIf Se.aNil Se.aCons Se.mTup Se.mLst Se.mApp Se.mCut Se.oNone Se.oSome Se.sNext Se.sSeq Se.sSet Se.sRet Se.sDrop Se.sIf Se.sAug Se.sBreak Se.sCont Se.gSet Se.gsNil Se.gsCons Se.gTupM Se.sAsg Se.sPar Se.sFor Se.iRange1 Se.iRange2 Se.mFld Se.sFldM Se.sFldAugM Se.mMeth Se.mProp Se.vMake Se.iEnumM Se.iZipM Se.iSeqM Se.iStrM Se.mYes Se.mLc Se.mBM Se.gSubL Se.mIsi Se.sRaise Se.sRaise0 Se.aStar Se.mOp Se.mLen Se.mDget Se.gSubD Se.mDisp Se.mItems Se.mDc Se.gFld Se.mOutcome Se.mBad Se.sBad Se.mNeg Ab.mNeg; exact (jss_one (js_ret (je_lc rfl sc_LiveRow_locked_names.nd [("barrel", 1)] (ji_seq (je_fld (fld1 F.fo_Row_parts) (je_fld (fld1 F.fo_LiveRow_plan) (je_var (i := 0))))) (by first | (change blkC N_LiveRow_locked_names (defScope s_LiveRow_locked_names) _ _ = true; decide +kernel) | rfl) (fun s H C cl fp => jg_name (i := 1) sc_LiveRow_locked_names.nd) (fun s H C cl fp => jts_one (jt_cmp m2_in quiet_in (je_ix (je_var (i := 1)) (je_int)) (je_fld (fld1 F.fo_LiveRow_shut) (je_var (i := 0))))) (fun s H C cl fp => je_ix (je_var (i := 1)) (je_int)))))))⟩
/-! ### _law_told -/
abbrev N_law_told : List Str := ["_law_live", "_law_found"]
theorem sc_law_told : FnScope N_law_told ["_law_live"] (defScope s_law_told) := ⟨rfl, rfl, rfl, by decide +kernel, rfl, by decide +kernel, by decide +kernel⟩
theorem h_law_told {T : Wh} (F : Fx T) : Has T "_law_told" 3 1 f_law_told := by
  obtain ⟨f, fd, hm, hF, hB⟩ := F.fn_law_told
  exact ⟨f, hm, fnM_of1 (k := 2) (N := N_law_told) (m := 1) (body := m_law_told) hF hB sc_law_told rfl rfl (fun cdv A outer s H E hr => (by have hu := hr.units; have hu1 : _ + 1 < cLine := Nat.lt_of_le_of_lt (Nat.add_le_add_left (by decide) _) hu; delta m_law_told; delta Se.mVar Se.mC Se.mBin Se.mTest Se.mChain Se.tAndM Se.tOrM Se.tNotM Se.mAnd Se.mOr Se.mNot Se.mIf Se.aNil Se.aCons Se.mTup Se.mLst Se.mApp Se.mCut Se.oNone Se.oSome Se.sNext Se.sSeq Se.sSet Se.sRet Se.sDrop Se.sIf Se.sAug Se.sBreak Se.sCont Se.gSet Se.gsNil Se.gsCons Se.gTupM Se.sAsg Se.sPar Se.sFor Se.iRange1 Se.iRange2 Se.mFld Se.sFldM Se.sFldAugM Se.mMeth Se.mProp Se.vMake Se.iEnumM Se.iZipM Se.iSeqM Se.iStrM Se.mYes Se.mLc Se.mBM Se.gSubL Se.mIsi Se.sRaise Se.sRaise0 Se.aStar Se.mOp Se.mLen Se.mDget Se.gSubD Se.mDisp Se.mItems Se.mDc Se.gFld Se.mOutcome Se.mBad Se.sBad Se.mNeg Ab.mNeg; exact (jss_cons (js_set sc_law_told.nd (je_lst (ja_cons (je_prop (tbl1 ⟨F.cl_LiveRow, h_LiveRow_now F⟩) (by simp) (hr.mono (by decide)) (je_var (i := 0))) (ja_cons (je_listItems rfl F.b_list (je_prop (tbl1 ⟨F.cl_LiveRow, h_LiveRow_levels F⟩) (by simp) (hr.mono (by decide)) (je_var (i := 0)))) (ja_cons (je_prop (tbl1 ⟨F.cl_LiveRow, h_LiveRow_lost_water F⟩) (by simp) (hr.mono (by decide)) (je_var (i := 0))) (ja_cons (je_prop (tbl1 ⟨F.cl_LiveRow, h_LiveRow_missed_water F⟩) (by simp) (hr.mono (by decide)) (je_var (i := 0))) (ja_nil))))))) (jss_one (js_ret (je_op m2_add quiet_add (je_var (i := 1)) (je_lst (ja_cons (je_prop (tbl1 ⟨F.cl_LiveRow, h_LiveRow_locked_names F⟩) (by simp) (hr.mono (by decide)) (je_var (i := 0))) (ja_cons (je_prop (tbl1 ⟨F.cl_LiveRow, h_LiveRow_history F⟩) (by simp) (hr.mono (by decide)) (je_var (i := 0))) (ja_nil))))))))))⟩
/-! ### law -/
abbrev N_law : List Str := ["_law_script", "_law_h", "_law_parts_here", "_law_live", "_law_names", "_law_barrel", "_law_w", "_law_time", "_law_kind", "_law_name", "_law_amount", "_law_found", "_law_due", "_law_pairs", "_law_k", "_law_shut", "_law_one", "_law_told_here"]
theorem sc_law : FnScope N_law ["_law_script"] (defScope s_law) := ⟨rfl, rfl, rfl, by decide +kernel, rfl, by decide +kernel, by decide +kernel⟩
theorem j_law {T : Wh} (F : Fx T) {c P : Addr} (TB : LamX.TabB T.base T.mg c P) (hmT : (P, ("law" : Str) ++ ".<locals>." ++ "<lambda>") ∈ tabsOf T.K T.mg) (huT : ∀ p ∈ tabsOf T.K T.mg, p.1 = P → p.2 = ("law" : Str) ++ ".<locals>." ++ "<lambda>") {f : Addr} {A : Around} {outer : List Env} {s : Shared} {H : Hp} {E : XK}
    (hr : Room 7 (cx1 T N_law "law" s_law f (.ref c) A outer s H E).A) : JSs (cx1 T N_law "law" s_law f (.ref c) A outer s H E) (defBody s_law) m_law := by
  obtain ⟨go, fdo, hmo, hFo, _⟩ := F.fn_law_outcome
  have hu := hr.units; have hu1 : _ + 1 < cLine := Nat.lt_of_le_of_lt (Nat.add_le_add_left (by decide) _) hu
  delta m_law
  delta Se.mVar Se.mC Se.mBin Se.mTest Se.mChain Se.tAndM Se.tOrM Se.tNotM Se.mAnd Se.mOr Se.mNot Se.mIf Se.aNil Se.aCons Se.mTup Se.mLst Se.mApp Se.mCut Se.oNone Se.oSome Se.sNext Se.sSeq Se.sSet Se.sRet Se.sDrop Se.sIf Se.sAug Se.sBreak Se.sCont Se.gSet Se.gsNil Se.gsCons Se.gTupM Se.sAsg Se.sPar Se.sFor Se.iRange1 Se.iRange2 Se.mFld Se.sFldM Se.sFldAugM Se.mMeth Se.mProp Se.vMake Se.iEnumM Se.iZipM Se.iSeqM Se.iStrM Se.mYes Se.mLc Se.mBM Se.gSubL Se.mIsi Se.sRaise Se.sRaise0 Se.aStar Se.mOp Se.mLen Se.mDget Se.gSubD Se.mDisp Se.mItems Se.mDc Se.gFld Se.mOutcome Se.mBad Se.sBad Se.mNeg Ab.mNeg
  exact (jss_cons (js_set sc_law.nd (je_call (h_law_mix F) (hr.mono (by decide)) (ja_cons (je_var (i := 0)) (ja_cons (je_int) (ja_nil))))) (jss_cons (js_set sc_law.nd (je_call (h_law_parts F) (hr.mono (by decide)) (ja_cons (je_var (i := 1)) (ja_cons (je_int) (ja_cons (je_int) (ja_nil)))))) (jss_cons (js_asg (je_tup (ja_cons (je_make (h_LiveRow_init F) (by decide +kernel) (hr.mono (by decide)) (ja_cons (je_call (h_law_row F) (hr.mono (by decide)) (ja_cons (je_var (i := 2)) (ja_nil))) (ja_nil))) (ja_cons (je_lc rfl sc_law.nd [("_law_barrel", 5)] (ji_seq (je_ix (je_var (i := 2)) (je_int))) (by first | (change blkC N_law (defScope s_law) _ _ = true; decide +kernel) | rfl) (fun s H C cl fp => jg_name (i := 5) sc_law.nd) (fun s H C cl fp => jts_nil) (fun s H C cl fp => je_ix (je_var (i := 5)) (je_int))) (ja_nil)))) (jg_tup rfl (jgs_cons (jg_name (i := 3) sc_law.nd) (jgs_cons (jg_name (i := 4) sc_law.nd) (jgs_nil))))) (jss_cons (js_set sc_law.nd (je_disp (jp_cons (je_str) (je_var (i := 2)) (jp_cons (je_str) (je_var (i := 4)) (jp_cons (je_str) (je_op m2_repL quiet_repL (je_lst (ja_cons (je_int) (ja_nil))) (je_callB mc_len quiet_len F.b_len Boot.len (ja_cons (je_var (i := 4)) (ja_nil)))) (jp_cons (je_str) (je_int) (jp_cons (je_str) (je_int) (jp_cons (je_str) (je_int) (jp_cons (je_str) (je_lst (ja_nil)) (jp_nil)))))))))) (jss_cons (js_asg (je_lst (ja_nil)) (jg_dsub hu1 (je_var (i := 6)) (je_str))) (jss_cons (js_for cx1_pass rfl (ji_range1 F.b_range (ja_cons (je_call (h_law_next F) (hr.mono (by decide)) (ja_cons (je_var (i := 1)) (ja_cons (je_int) (ja_nil)))) (ja_nil))) (jg_name (i := 7) sc_law.nd) (jss_cons (js_asg (je_tup (ja_cons (je_call (h_law_next F) (hr.mono (by decide)) (ja_cons (je_var (i := 1)) (ja_cons (je_int) (ja_nil)))) (ja_cons (je_ix (je_op m2_add quiet_add (je_var (i := 4)) (je_lst (ja_cons (je_str) (ja_cons (je_ix (je_var (i := 4)) (je_int)) (ja_nil))))) (je_call (h_law_next F) (hr.mono (by decide)) (ja_cons (je_var (i := 1)) (ja_cons (je_op m2_add quiet_add (je_callB mc_len quiet_len F.b_len Boot.len (ja_cons (je_var (i := 4)) (ja_nil))) (je_int)) (ja_nil))))) (ja_nil)))) (jg_tup rfl (jgs_cons (jg_name (i := 8) sc_law.nd) (jgs_cons (jg_name (i := 9) sc_law.nd) (jgs_nil))))) (jss_cons (js_set sc_law.nd (je_ix (je_lst (ja_cons (je_call (h_law_next F) (hr.mono (by decide)) (ja_cons (je_var (i := 1)) (ja_cons (je_int) (ja_nil)))) (ja_cons (je_int) (ja_cons (je_op m2_pow quiet_pow (je_int) (je_int)) (ja_cons (je_op m2_add quiet_add (je_op m2_pow quiet_pow (je_int) (je_int)) (je_int)) (ja_cons (je_neg (je_int)) (ja_cons (je_op m2_pow quiet_pow (je_int) (je_int)) (ja_cons (je_op m2_add quiet_add (je_op m2_pow quiet_pow (je_int) (je_int)) (je_int)) (ja_nil))))))))) (je_callB (mc_max2 rfl) quiet_max2 F.b_max Boot.max (ja_cons (je_int) (ja_cons (je_op m2_sub quiet_sub (je_call (h_law_next F) (hr.mono (by decide)) (ja_cons (je_var (i := 1)) (ja_cons (je_int) (ja_nil)))) (je_int)) (ja_nil)))))) (jss_cons (js_if (jt_cmp m2_lt (quiet_cmpI _) (je_var (i := 8)) (je_int)) (jss_one (js_par rfl sc_law.nd (ja_cons ((je_outcome (T := T) (k := 4) rfl hFo sc_law_outcome (fun _ _ _ _ _ _ us hl => match us, hl with | [_], _ => rfl) (fun cdg hro => gout F rfl hro) hmo rfl TB rfl hmT huT (hr.mono (by decide)) (LamX.lamS_by (by change LamX.lamSB (defScope s_law) _ = true; decide +kernel)) rfl (fun _ _ _ _ _ => rfl) (fun A outer s H E f c' hr => je_meth (tbl1 ⟨F.cl_LiveRow, h_LiveRow_pour F⟩) (by simp) (hr.mono (by decide)) (je_var (i := 3)) (ja_cons (je_var (i := 10)) (ja_nil))))) (ja_cons (je_call (h_law_pour_due F) (hr.mono (by decide)) (ja_cons (je_var (i := 6)) (ja_cons (je_var (i := 10)) (ja_nil)))) (ja_nil))))) (jss_one (js_if (jt_cmp (m2_eq hu) quiet_eq (je_var (i := 8)) (je_int)) (jss_one (js_par rfl sc_law.nd (ja_cons ((je_outcome (T := T) (k := 4) rfl hFo sc_law_outcome (fun _ _ _ _ _ _ us hl => match us, hl with | [_], _ => rfl) (fun cdg hro => gout F rfl hro) hmo rfl TB rfl hmT huT (hr.mono (by decide)) (LamX.lamS_by (by change LamX.lamSB (defScope s_law) _ = true; decide +kernel)) rfl (fun _ _ _ _ _ => rfl) (fun A outer s H E f c' hr => je_meth (tbl1 ⟨F.cl_LiveRow, h_LiveRow_scoop F⟩) (by simp) (hr.mono (by decide)) (je_var (i := 3)) (ja_cons (je_var (i := 9)) (ja_cons (je_var (i := 10)) (ja_nil)))))) (ja_cons (je_call (h_law_scoop_due F) (hr.mono (by decide)) (ja_cons (je_var (i := 6)) (ja_cons (je_var (i := 9)) (ja_cons (je_var (i := 10)) (ja_nil))))) (ja_nil))))) (jss_one (js_if (jt_cmp (m2_eq hu) quiet_eq (je_var (i := 8)) (je_int)) (jss_one (js_par rfl sc_law.nd (ja_cons ((je_outcome (T := T) (k := 4) rfl hFo sc_law_outcome (fun _ _ _ _ _ _ us hl => match us, hl with | [_], _ => rfl) (fun cdg hro => gout F rfl hro) hmo rfl TB rfl hmT huT (hr.mono (by decide)) (LamX.lamS_by (by change LamX.lamSB (defScope s_law) _ = true; decide +kernel)) rfl (fun _ _ _ _ _ => rfl) (fun A outer s H E f c' hr => je_meth (tbl1 ⟨F.cl_LiveRow, h_LiveRow_lock F⟩) (by simp) (hr.mono (by decide)) (je_var (i := 3)) (ja_cons (je_var (i := 9)) (ja_nil))))) (ja_cons (je_call (h_law_lock_due F) (hr.mono (by decide)) (ja_cons (je_var (i := 6)) (ja_cons (je_str) (ja_cons (je_var (i := 9)) (ja_nil))))) (ja_nil))))) (jss_one (js_par rfl sc_law.nd (ja_cons ((je_outcome (T := T) (k := 4) rfl hFo sc_law_outcome (fun _ _ _ _ _ _ us hl => match us, hl with | [_], _ => rfl) (fun cdg hro => gout F rfl hro) hmo rfl TB rfl hmT huT (hr.mono (by decide)) (LamX.lamS_by (by change LamX.lamSB (defScope s_law) _ = true; decide +kernel)) rfl (fun _ _ _ _ _ => rfl) (fun A outer s H E f c' hr => je_meth (tbl1 ⟨F.cl_LiveRow, h_LiveRow_unlock F⟩) (by simp) (hr.mono (by decide)) (je_var (i := 3)) (ja_cons (je_var (i := 9)) (ja_nil))))) (ja_cons (je_call (h_law_lock_due F) (hr.mono (by decide)) (ja_cons (je_var (i := 6)) (ja_cons (je_str) (ja_cons (je_var (i := 9)) (ja_nil))))) (ja_nil)))))))))) (jss_cons (js_setLc rfl sc_law.nd [("_law_k", 14)] (ji_range1 F.b_range (ja_cons (je_callB mc_len quiet_len F.b_len Boot.len (ja_cons (je_var (i := 4)) (ja_nil))) (ja_nil))) (by first | (change blkC N_law (defScope s_law) _ _ = true; decide +kernel) | rfl) (fun s H C cl fp => jg_name (i := 14) sc_law.nd) (fun s H C cl fp => jts_nil) (fun s H C cl fp => je_tup (ja_cons (je_ix (je_var (i := 4)) (je_var (i := 14))) (ja_cons (je_ix (je_dget hu1 (je_var (i := 6)) (je_str)) (je_var (i := 14))) (ja_nil)))) (by rfl)) (jss_cons (js_setLc rfl sc_law.nd [("_law_one", 16)] (ji_seq (je_var (i := 4))) (by first | (change blkC N_law (defScope s_law) _ _ = true; decide +kernel) | rfl) (fun s H C cl fp => jg_name (i := 16) sc_law.nd) (fun s H C cl fp => jts_one (jt_cmp m2_in quiet_in (je_var (i := 16)) (je_dget hu1 (je_var (i := 6)) (je_str)))) (fun s H C cl fp => je_var (i := 16)) (by rfl)) (jss_cons (js_set sc_law.nd (je_lst (ja_cons (je_dget hu1 (je_var (i := 6)) (je_str)) (ja_cons (je_var (i := 13)) (ja_cons (je_dget hu1 (je_var (i := 6)) (je_str)) (ja_cons (je_dget hu1 (je_var (i := 6)) (je_str)) (ja_cons (je_var (i := 15)) (ja_cons (je_dget hu1 (je_var (i := 6)) (je_str)) (ja_nil))))))))) (jss_one (js_if ((jw_or (jt_not (jt_val (je_call (h_law_alike F 6) (hr.mono (by decide)) (ja_cons (je_var (i := 11)) (ja_cons (je_var (i := 12)) (ja_nil)))))) (jw_or1 (jt_not (jt_val (je_call (h_law_alike F 6) (hr.mono (by decide)) (ja_cons (je_call (h_law_told F) (hr.mono (by decide)) (ja_cons (je_var (i := 3)) (ja_nil))) (ja_cons (je_var (i := 17)) (ja_nil)))))))).jt) (jss_one (js_ret (je_bl))) (jss_nil)))))))))) (jss_one (js_ret (je_bl)))))))))
end K43

set_option Elab.async false
set_option linter.all false
set_option maxRecDepth 100000
set_option maxHeartbeats 4000000
namespace K43
open PySem PySem.Spec PyProof.Rows L2 Ab
theorem fx_mk {P : Program} {w : World} {K : PySem.W.Frag} {h : Heap} {mg : Str → Option Value} {f_law_mix : Addr} {oc_law_mix : Value} {od_law_mix : Option Addr} {kV_law_mix : Value} {dc_law_mix : Value} {pm_law_mix : Value} {an_law_mix : Option Addr} {cd_law_mix : Value} {ct_law_mix : Value} {sl_law_mix : Array (Option Value)} {f_law_next : Addr} {oc_law_next : Value} {od_law_next : Option Addr} {kV_law_next : Value} {dc_law_next : Value} {pm_law_next : Value} {an_law_next : Option Addr} {cd_law_next : Value} {ct_law_next : Value} {sl_law_next : Array (Option Value)} {f_law_parts : Addr} {oc_law_parts : Value} {od_law_parts : Option Addr} {kV_law_parts : Value} {dc_law_parts : Value} {pm_law_parts : Value} {an_law_parts : Option Addr} {cd_law_parts : Value} {ct_law_parts : Value} {sl_law_parts : Array (Option Value)} {C_LiveRow : Addr} {C_Row : Addr} {f_Row_len : Addr} {oc_Row_len : Value} {od_Row_len : Option Addr} {kV_Row_len : Value} {dc_Row_len : Value} {pm_Row_len : Value} {an_Row_len : Option Addr} {cd_Row_len : Value} {ct_Row_len : Value} {sl_Row_len : Array (Option Value)} {f_LiveRow_init : Addr} {oc_LiveRow_init : Value} {od_LiveRow_init : Option Addr} {kV_LiveRow_init : Value} {dc_LiveRow_init : Value} {pm_LiveRow_init : Value} {an_LiveRow_init : Option Addr} {cd_LiveRow_init : Value} {ct_LiveRow_init : Value} {sl_LiveRow_init : Array (Option Value)} {tc_MAX_TICKS : Tok} {t_MAX_RAIN : Tok} {tc_MAX_BARRELS : Tok} {t_MAX_LETTERS : Tok} {t_LETTERS : Tok} {f_is_name : Addr} {oc_is_name : Value} {od_is_name : Option Addr} {kV_is_name : Value} {dc_is_name : Value} {pm_is_name : Value} {an_is_name : Option Addr} {cd_is_name : Value} {ct_is_name : Value} {sl_is_name : Array (Option Value)} {t_MAX_AMOUNT : Tok} {t_MAX_ROOF : Tok} {f_is_barrel : Addr} {oc_is_barrel : Value} {od_is_barrel : Option Addr} {kV_is_barrel : Value} {dc_is_barrel : Value} {pm_is_barrel : Value} {an_is_barrel : Option Addr} {cd_is_barrel : Value} {ct_is_barrel : Value} {sl_is_barrel : Array (Option Value)} {f_Row_init : Addr} {oc_Row_init : Value} {od_Row_init : Option Addr} {kV_Row_init : Value} {dc_Row_init : Value} {pm_Row_init : Value} {an_Row_init : Option Addr} {cd_Row_init : Value} {ct_Row_init : Value} {sl_Row_init : Array (Option Value)} {C_OtherRain : Addr} {nm_x_OtherRain : Str} {q_x_OtherRain : Str} {N_x_OtherRain : Addr} {bs_x_OtherRain : List Value} {bm_x_OtherRain : List Value} {sn_x_OtherRain : List Str} {sub_x_OtherRain : List Value} {ab_x_OtherRain : Bool} {col_x_OtherRain : Option Bool} {dd_x_OtherRain : Option Addr} {m0_x_OtherRain : Option Value} {m1_x_OtherRain : Option Value} {m2_x_OtherRain : Option Value} {m3_x_OtherRain : Option Value} {m5_x_OtherRain : Option Value} {f_Row_add : Addr} {oc_Row_add : Value} {od_Row_add : Option Addr} {kV_Row_add : Value} {dc_Row_add : Value} {pm_Row_add : Value} {an_Row_add : Option Addr} {cd_Row_add : Value} {ct_Row_add : Value} {sl_Row_add : Array (Option Value)} {f_law_row : Addr} {oc_law_row : Value} {od_law_row : Option Addr} {kV_law_row : Value} {dc_law_row : Value} {pm_law_row : Value} {an_law_row : Option Addr} {cd_law_row : Value} {ct_law_row : Value} {sl_law_row : Array (Option Value)} {f_law_tick : Addr} {oc_law_tick : Value} {od_law_tick : Option Addr} {kV_law_tick : Value} {dc_law_tick : Value} {pm_law_tick : Value} {an_law_tick : Option Addr} {cd_law_tick : Value} {ct_law_tick : Value} {sl_law_tick : Array (Option Value)} {f_law_pour_due : Addr} {oc_law_pour_due : Value} {od_law_pour_due : Option Addr} {kV_law_pour_due : Value} {dc_law_pour_due : Value} {pm_law_pour_due : Value} {an_law_pour_due : Option Addr} {cd_law_pour_due : Value} {ct_law_pour_due : Value} {sl_law_pour_due : Array (Option Value)} {C_InvalidNumber : Addr} {C_DecodeError : Addr} {C_DaybookError : Addr} {C_InvalidText : Addr} {C_InvalidRow : Addr} {C_InvalidOperation : Addr} {C_UnknownBarrel : Addr} {C_InvalidWeather : Addr} {f_law_outcome : Addr} {oc_law_outcome : Value} {od_law_outcome : Option Addr} {kV_law_outcome : Value} {dc_law_outcome : Value} {pm_law_outcome : Value} {an_law_outcome : Option Addr} {cd_law_outcome : Value} {ct_law_outcome : Value} {sl_law_outcome : Array (Option Value)} {C_RowError : Addr} {nm_x_InvalidNumber : Str} {q_x_InvalidNumber : Str} {N_x_InvalidNumber : Addr} {bs_x_InvalidNumber : List Value} {bm_x_InvalidNumber : List Value} {sn_x_InvalidNumber : List Str} {sub_x_InvalidNumber : List Value} {ab_x_InvalidNumber : Bool} {col_x_InvalidNumber : Option Bool} {dd_x_InvalidNumber : Option Addr} {m0_x_InvalidNumber : Option Value} {m1_x_InvalidNumber : Option Value} {m2_x_InvalidNumber : Option Value} {m3_x_InvalidNumber : Option Value} {m5_x_InvalidNumber : Option Value} {f_validate_number : Addr} {oc_validate_number : Value} {od_validate_number : Option Addr} {kV_validate_number : Value} {dc_validate_number : Value} {pm_validate_number : Value} {an_validate_number : Option Addr} {cd_validate_number : Value} {ct_validate_number : Value} {sl_validate_number : Array (Option Value)} {f_Row_barrels : Addr} {oc_Row_barrels : Value} {od_Row_barrels : Option Addr} {kV_Row_barrels : Value} {dc_Row_barrels : Value} {pm_Row_barrels : Value} {an_Row_barrels : Option Addr} {cd_Row_barrels : Value} {ct_Row_barrels : Value} {sl_Row_barrels : Array (Option Value)} {p_Row_barrels : Addr} {r_Row_barrels : List Value} {f_next_tick : Addr} {oc_next_tick : Value} {od_next_tick : Option Addr} {kV_next_tick : Value} {dc_next_tick : Value} {pm_next_tick : Value} {an_next_tick : Option Addr} {cd_next_tick : Value} {ct_next_tick : Value} {sl_next_tick : Array (Option Value)} {f_LiveRow_state : Addr} {oc_LiveRow_state : Value} {od_LiveRow_state : Option Addr} {kV_LiveRow_state : Value} {dc_LiveRow_state : Value} {pm_LiveRow_state : Value} {an_LiveRow_state : Option Addr} {cd_LiveRow_state : Value} {ct_LiveRow_state : Value} {sl_LiveRow_state : Array (Option Value)} {f_LiveRow_set_state : Addr} {oc_LiveRow_set_state : Value} {od_LiveRow_set_state : Option Addr} {kV_LiveRow_set_state : Value} {dc_LiveRow_set_state : Value} {pm_LiveRow_set_state : Value} {an_LiveRow_set_state : Option Addr} {cd_LiveRow_set_state : Value} {ct_LiveRow_set_state : Value} {sl_LiveRow_set_state : Array (Option Value)} {f_LiveRow_commit : Addr} {oc_LiveRow_commit : Value} {od_LiveRow_commit : Option Addr} {kV_LiveRow_commit : Value} {dc_LiveRow_commit : Value} {pm_LiveRow_commit : Value} {an_LiveRow_commit : Option Addr} {cd_LiveRow_commit : Value} {ct_LiveRow_commit : Value} {sl_LiveRow_commit : Array (Option Value)} {f_LiveRow_pour : Addr} {oc_LiveRow_pour : Value} {od_LiveRow_pour : Option Addr} {kV_LiveRow_pour : Value} {dc_LiveRow_pour : Value} {pm_LiveRow_pour : Value} {an_LiveRow_pour : Option Addr} {cd_LiveRow_pour : Value} {ct_LiveRow_pour : Value} {sl_LiveRow_pour : Array (Option Value)} {f_law_scoop_due : Addr} {oc_law_scoop_due : Value} {od_law_scoop_due : Option Addr} {kV_law_scoop_due : Value} {dc_law_scoop_due : Value} {pm_law_scoop_due : Value} {an_law_scoop_due : Option Addr} {cd_law_scoop_due : Value} {ct_law_scoop_due : Value} {sl_law_scoop_due : Array (Option Value)} {f_Row_names : Addr} {oc_Row_names : Value} {od_Row_names : Option Addr} {kV_Row_names : Value} {dc_Row_names : Value} {pm_Row_names : Value} {an_Row_names : Option Addr} {cd_Row_names : Value} {ct_Row_names : Value} {sl_Row_names : Array (Option Value)} {p_Row_names : Addr} {r_Row_names : List Value} {f_place_of : Addr} {oc_place_of : Value} {od_place_of : Option Addr} {kV_place_of : Value} {dc_place_of : Value} {pm_place_of : Value} {an_place_of : Option Addr} {cd_place_of : Value} {ct_place_of : Value} {sl_place_of : Array (Option Value)} {f_LiveRow_scoop : Addr} {oc_LiveRow_scoop : Value} {od_LiveRow_scoop : Option Addr} {kV_LiveRow_scoop : Value} {dc_LiveRow_scoop : Value} {pm_LiveRow_scoop : Value} {an_LiveRow_scoop : Option Addr} {cd_LiveRow_scoop : Value} {ct_LiveRow_scoop : Value} {sl_LiveRow_scoop : Array (Option Value)} {f_law_lock_due : Addr} {oc_law_lock_due : Value} {od_law_lock_due : Option Addr} {kV_law_lock_due : Value} {dc_law_lock_due : Value} {pm_law_lock_due : Value} {an_law_lock_due : Option Addr} {cd_law_lock_due : Value} {ct_law_lock_due : Value} {sl_law_lock_due : Array (Option Value)} {f_LiveRow_lock : Addr} {oc_LiveRow_lock : Value} {od_LiveRow_lock : Option Addr} {kV_LiveRow_lock : Value} {dc_LiveRow_lock : Value} {pm_LiveRow_lock : Value} {an_LiveRow_lock : Option Addr} {cd_LiveRow_lock : Value} {ct_LiveRow_lock : Value} {sl_LiveRow_lock : Array (Option Value)} {f_LiveRow_unlock : Addr} {oc_LiveRow_unlock : Value} {od_LiveRow_unlock : Option Addr} {kV_LiveRow_unlock : Value} {dc_LiveRow_unlock : Value} {pm_LiveRow_unlock : Value} {an_LiveRow_unlock : Option Addr} {cd_LiveRow_unlock : Value} {ct_LiveRow_unlock : Value} {sl_LiveRow_unlock : Array (Option Value)} {f_law_alike : Addr} {oc_law_alike : Value} {od_law_alike : Option Addr} {kV_law_alike : Value} {dc_law_alike : Value} {pm_law_alike : Value} {an_law_alike : Option Addr} {cd_law_alike : Value} {ct_law_alike : Value} {sl_law_alike : Array (Option Value)} {f_LiveRow_missed_water : Addr} {oc_LiveRow_missed_water : Value} {od_LiveRow_missed_water : Option Addr} {kV_LiveRow_missed_water : Value} {dc_LiveRow_missed_water : Value} {pm_LiveRow_missed_water : Value} {an_LiveRow_missed_water : Option Addr} {cd_LiveRow_missed_water : Value} {ct_LiveRow_missed_water : Value} {sl_LiveRow_missed_water : Array (Option Value)} {p_LiveRow_missed_water : Addr} {r_LiveRow_missed_water : List Value} {f_LiveRow_lost_water : Addr} {oc_LiveRow_lost_water : Value} {od_LiveRow_lost_water : Option Addr} {kV_LiveRow_lost_water : Value} {dc_LiveRow_lost_water : Value} {pm_LiveRow_lost_water : Value} {an_LiveRow_lost_water : Option Addr} {cd_LiveRow_lost_water : Value} {ct_LiveRow_lost_water : Value} {sl_LiveRow_lost_water : Array (Option Value)} {p_LiveRow_lost_water : Addr} {r_LiveRow_lost_water : List Value} {f_LiveRow_levels : Addr} {oc_LiveRow_levels : Value} {od_LiveRow_levels : Option Addr} {kV_LiveRow_levels : Value} {dc_LiveRow_levels : Value} {pm_LiveRow_levels : Value} {an_LiveRow_levels : Option Addr} {cd_LiveRow_levels : Value} {ct_LiveRow_levels : Value} {sl_LiveRow_levels : Array (Option Value)} {p_LiveRow_levels : Addr} {r_LiveRow_levels : List Value} {f_LiveRow_now : Addr} {oc_LiveRow_now : Value} {od_LiveRow_now : Option Addr} {kV_LiveRow_now : Value} {dc_LiveRow_now : Value} {pm_LiveRow_now : Value} {an_LiveRow_now : Option Addr} {cd_LiveRow_now : Value} {ct_LiveRow_now : Value} {sl_LiveRow_now : Array (Option Value)} {p_LiveRow_now : Addr} {r_LiveRow_now : List Value} {f_LiveRow_history : Addr} {oc_LiveRow_history : Value} {od_LiveRow_history : Option Addr} {kV_LiveRow_history : Value} {dc_LiveRow_history : Value} {pm_LiveRow_history : Value} {an_LiveRow_history : Option Addr} {cd_LiveRow_history : Value} {ct_LiveRow_history : Value} {sl_LiveRow_history : Array (Option Value)} {p_LiveRow_history : Addr} {r_LiveRow_history : List Value} {f_LiveRow_locked_names : Addr} {oc_LiveRow_locked_names : Value} {od_LiveRow_locked_names : Option Addr} {kV_LiveRow_locked_names : Value} {dc_LiveRow_locked_names : Value} {pm_LiveRow_locked_names : Value} {an_LiveRow_locked_names : Option Addr} {cd_LiveRow_locked_names : Value} {ct_LiveRow_locked_names : Value} {sl_LiveRow_locked_names : Array (Option Value)} {p_LiveRow_locked_names : Addr} {r_LiveRow_locked_names : List Value} {f_law_told : Addr} {oc_law_told : Value} {od_law_told : Option Addr} {kV_law_told : Value} {dc_law_told : Value} {pm_law_told : Value} {an_law_told : Option Addr} {cd_law_told : Value} {ct_law_told : Value} {sl_law_told : Array (Option Value)} {f_x_InvalidRow : Addr} {oc_x_InvalidRow : Value} {od_x_InvalidRow : Option Addr} {kV_x_InvalidRow : Value} {dc_x_InvalidRow : Value} {pm_x_InvalidRow : Value} {an_x_InvalidRow : Option Addr} {cd_x_InvalidRow : Value} {ct_x_InvalidRow : Value} {sl_x_InvalidRow : Array (Option Value)} {nm_x_InvalidRow : Str} {q_x_InvalidRow : Str} {N_x_InvalidRow : Addr} {bs_x_InvalidRow : List Value} {bm_x_InvalidRow : List Value} {sn_x_InvalidRow : List Str} {sub_x_InvalidRow : List Value} {ab_x_InvalidRow : Bool} {col_x_InvalidRow : Option Bool} {dd_x_InvalidRow : Option Addr} {m0_x_InvalidRow : Option Value} {m1_x_InvalidRow : Option Value} {m2_x_InvalidRow : Option Value} {m3_x_InvalidRow : Option Value} {m5_x_InvalidRow : Option Value} {f_x_UnknownBarrel : Addr} {oc_x_UnknownBarrel : Value} {od_x_UnknownBarrel : Option Addr} {kV_x_UnknownBarrel : Value} {dc_x_UnknownBarrel : Value} {pm_x_UnknownBarrel : Value} {an_x_UnknownBarrel : Option Addr} {cd_x_UnknownBarrel : Value} {ct_x_UnknownBarrel : Value} {sl_x_UnknownBarrel : Array (Option Value)} {nm_x_UnknownBarrel : Str} {q_x_UnknownBarrel : Str} {N_x_UnknownBarrel : Addr} {bs_x_UnknownBarrel : List Value} {bm_x_UnknownBarrel : List Value} {sn_x_UnknownBarrel : List Str} {sub_x_UnknownBarrel : List Value} {ab_x_UnknownBarrel : Bool} {col_x_UnknownBarrel : Option Bool} {dd_x_UnknownBarrel : Option Addr} {m0_x_UnknownBarrel : Option Value} {m1_x_UnknownBarrel : Option Value} {m2_x_UnknownBarrel : Option Value} {m3_x_UnknownBarrel : Option Value} {m5_x_UnknownBarrel : Option Value}
    (X : K.In h) (G : h.Ns mainGlobals mg)
    (z_list : PySem.W.nsIn K mainGlobals "list" = some none)
    (z_len : PySem.W.nsIn K mainGlobals "len" = some none)
    (z_max : PySem.W.nsIn K mainGlobals "max" = some none)
    (z_range : PySem.W.nsIn K mainGlobals "range" = some none)
    (z_int : PySem.W.nsIn K mainGlobals "int" = some none)
    (z_tuple : PySem.W.nsIn K mainGlobals "tuple" = some none)
    (z_enumerate : PySem.W.nsIn K mainGlobals "enumerate" = some none)
    (v_MAX_RAIN : PySem.W.nsIn K mainGlobals "MAX_RAIN" = some (some (.int 1000000 t_MAX_RAIN)))
    (v_MAX_LETTERS : PySem.W.nsIn K mainGlobals "MAX_LETTERS" = some (some (.int 8 t_MAX_LETTERS)))
    (v_LETTERS : PySem.W.nsIn K mainGlobals "LETTERS" = some (some (.str "abcdefghijklmnopqrstuvwxyz" t_LETTERS)))
    (z_all : PySem.W.nsIn K mainGlobals "all" = some none)
    (v_MAX_AMOUNT : PySem.W.nsIn K mainGlobals "MAX_AMOUNT" = some (some (.int 1000000000 t_MAX_AMOUNT)))
    (v_MAX_ROOF : PySem.W.nsIn K mainGlobals "MAX_ROOF" = some (some (.int 100 t_MAX_ROOF)))
    (z_isinstance : PySem.W.nsIn K mainGlobals "isinstance" = some none)
    (z_ValueError : PySem.W.nsIn K mainGlobals "ValueError" = some none)
    (z_Contradiction : PySem.W.nsIn K mainGlobals "Contradiction" = some none)
    (z_zip : PySem.W.nsIn K mainGlobals "zip" = some none)
    (z_min : PySem.W.nsIn K mainGlobals "min" = some none)
    (z_dict : PySem.W.nsIn K mainGlobals "dict" = some none)
    (z_str : PySem.W.nsIn K mainGlobals "str" = some none)
    (z_bool : PySem.W.nsIn K mainGlobals "bool" = some none)
    (a_law_mix : PySem.W.nsIn K mainGlobals "_law_mix" = some (some (.ref f_law_mix)))
    (a_law_next : PySem.W.nsIn K mainGlobals "_law_next" = some (some (.ref f_law_next)))
    (a_law_parts : PySem.W.nsIn K mainGlobals "_law_parts" = some (some (.ref f_law_parts)))
    (a_LiveRow : PySem.W.nsIn K mainGlobals "LiveRow" = some (some (.ref C_LiveRow)))
    (a_Row : PySem.W.nsIn K mainGlobals "Row" = some (some (.ref C_Row)))
    (a_is_name : PySem.W.nsIn K mainGlobals "is_name" = some (some (.ref f_is_name)))
    (a_is_barrel : PySem.W.nsIn K mainGlobals "is_barrel" = some (some (.ref f_is_barrel)))
    (a_OtherRain : PySem.W.nsIn K mainGlobals "OtherRain" = some (some (.ref C_OtherRain)))
    (a_law_row : PySem.W.nsIn K mainGlobals "_law_row" = some (some (.ref f_law_row)))
    (a_law_tick : PySem.W.nsIn K mainGlobals "_law_tick" = some (some (.ref f_law_tick)))
    (a_law_pour_due : PySem.W.nsIn K mainGlobals "_law_pour_due" = some (some (.ref f_law_pour_due)))
    (a_InvalidNumber : PySem.W.nsIn K mainGlobals "InvalidNumber" = some (some (.ref C_InvalidNumber)))
    (a_DecodeError : PySem.W.nsIn K mainGlobals "DecodeError" = some (some (.ref C_DecodeError)))
    (a_DaybookError : PySem.W.nsIn K mainGlobals "DaybookError" = some (some (.ref C_DaybookError)))
    (a_InvalidText : PySem.W.nsIn K mainGlobals "InvalidText" = some (some (.ref C_InvalidText)))
    (a_InvalidRow : PySem.W.nsIn K mainGlobals "InvalidRow" = some (some (.ref C_InvalidRow)))
    (a_InvalidOperation : PySem.W.nsIn K mainGlobals "InvalidOperation" = some (some (.ref C_InvalidOperation)))
    (a_UnknownBarrel : PySem.W.nsIn K mainGlobals "UnknownBarrel" = some (some (.ref C_UnknownBarrel)))
    (a_InvalidWeather : PySem.W.nsIn K mainGlobals "InvalidWeather" = some (some (.ref C_InvalidWeather)))
    (a_law_outcome : PySem.W.nsIn K mainGlobals "_law_outcome" = some (some (.ref f_law_outcome)))
    (a_RowError : PySem.W.nsIn K mainGlobals "RowError" = some (some (.ref C_RowError)))
    (a_validate_number : PySem.W.nsIn K mainGlobals "validate_number" = some (some (.ref f_validate_number)))
    (a_next_tick : PySem.W.nsIn K mainGlobals "next_tick" = some (some (.ref f_next_tick)))
    (a_law_scoop_due : PySem.W.nsIn K mainGlobals "_law_scoop_due" = some (some (.ref f_law_scoop_due)))
    (a_place_of : PySem.W.nsIn K mainGlobals "place_of" = some (some (.ref f_place_of)))
    (a_law_lock_due : PySem.W.nsIn K mainGlobals "_law_lock_due" = some (some (.ref f_law_lock_due)))
    (a_law_alike : PySem.W.nsIn K mainGlobals "_law_alike" = some (some (.ref f_law_alike)))
    (a_law_told : PySem.W.nsIn K mainGlobals "_law_told" = some (some (.ref f_law_told)))
    (at_Row_len : PySem.W.findIn K (.ref C_Row) "__len__" = some (some (.ref f_Row_len)))
    (ii_LiveRow : PySem.W.findIn K (.ref C_LiveRow) "__init__" = some (some (.ref f_LiveRow_init)))
    (ii_Row : PySem.W.findIn K (.ref C_Row) "__init__" = some (some (.ref f_Row_init)))
    (at_Row_add : PySem.W.findIn K (.ref C_Row) "__add__" = some (some (.ref f_Row_add)))
    (at_Row_barrels : PySem.W.findIn K (.ref C_Row) "barrels" = some (some (.ref p_Row_barrels)))
    (at_LiveRow_state : PySem.W.findIn K (.ref C_LiveRow) "state" = some (some (.ref f_LiveRow_state)))
    (at_LiveRow_set_state : PySem.W.findIn K (.ref C_LiveRow) "set_state" = some (some (.ref f_LiveRow_set_state)))
    (at_LiveRow_commit : PySem.W.findIn K (.ref C_LiveRow) "commit" = some (some (.ref f_LiveRow_commit)))
    (at_LiveRow_pour : PySem.W.findIn K (.ref C_LiveRow) "pour" = some (some (.ref f_LiveRow_pour)))
    (at_Row_names : PySem.W.findIn K (.ref C_Row) "names" = some (some (.ref p_Row_names)))
    (at_LiveRow_scoop : PySem.W.findIn K (.ref C_LiveRow) "scoop" = some (some (.ref f_LiveRow_scoop)))
    (at_LiveRow_lock : PySem.W.findIn K (.ref C_LiveRow) "lock" = some (some (.ref f_LiveRow_lock)))
    (at_LiveRow_unlock : PySem.W.findIn K (.ref C_LiveRow) "unlock" = some (some (.ref f_LiveRow_unlock)))
    (at_LiveRow_missed_water : PySem.W.findIn K (.ref C_LiveRow) "missed_water" = some (some (.ref p_LiveRow_missed_water)))
    (at_LiveRow_lost_water : PySem.W.findIn K (.ref C_LiveRow) "lost_water" = some (some (.ref p_LiveRow_lost_water)))
    (at_LiveRow_levels : PySem.W.findIn K (.ref C_LiveRow) "levels" = some (some (.ref p_LiveRow_levels)))
    (at_LiveRow_now : PySem.W.findIn K (.ref C_LiveRow) "now" = some (some (.ref p_LiveRow_now)))
    (at_LiveRow_history : PySem.W.findIn K (.ref C_LiveRow) "history" = some (some (.ref p_LiveRow_history)))
    (at_LiveRow_locked_names : PySem.W.findIn K (.ref C_LiveRow) "locked_names" = some (some (.ref p_LiveRow_locked_names)))
    (ii_InvalidRow : PySem.W.findIn K (.ref C_InvalidRow) "__init__" = some (some (.ref f_x_InvalidRow)))
    (ii_UnknownBarrel : PySem.W.findIn K (.ref C_UnknownBarrel) "__init__" = some (some (.ref f_x_UnknownBarrel)))
    (gt_Row_barrels : PySem.W.specialIn K (.ref p_Row_barrels) "__get__" = some (some (.builtin "property.__get__")))
    (tk_Row_barrels : PySem.W.takesIn K (.ref p_Row_barrels) = some true)
    (rc_Row_barrels : PySem.W.recIn K p_Row_barrels "property" = some (.ref f_Row_barrels :: r_Row_barrels))
    (gt_Row_names : PySem.W.specialIn K (.ref p_Row_names) "__get__" = some (some (.builtin "property.__get__")))
    (tk_Row_names : PySem.W.takesIn K (.ref p_Row_names) = some true)
    (rc_Row_names : PySem.W.recIn K p_Row_names "property" = some (.ref f_Row_names :: r_Row_names))
    (gt_LiveRow_missed_water : PySem.W.specialIn K (.ref p_LiveRow_missed_water) "__get__" = some (some (.builtin "property.__get__")))
    (tk_LiveRow_missed_water : PySem.W.takesIn K (.ref p_LiveRow_missed_water) = some true)
    (rc_LiveRow_missed_water : PySem.W.recIn K p_LiveRow_missed_water "property" = some (.ref f_LiveRow_missed_water :: r_LiveRow_missed_water))
    (gt_LiveRow_lost_water : PySem.W.specialIn K (.ref p_LiveRow_lost_water) "__get__" = some (some (.builtin "property.__get__")))
    (tk_LiveRow_lost_water : PySem.W.takesIn K (.ref p_LiveRow_lost_water) = some true)
    (rc_LiveRow_lost_water : PySem.W.recIn K p_LiveRow_lost_water "property" = some (.ref f_LiveRow_lost_water :: r_LiveRow_lost_water))
    (gt_LiveRow_levels : PySem.W.specialIn K (.ref p_LiveRow_levels) "__get__" = some (some (.builtin "property.__get__")))
    (tk_LiveRow_levels : PySem.W.takesIn K (.ref p_LiveRow_levels) = some true)
    (rc_LiveRow_levels : PySem.W.recIn K p_LiveRow_levels "property" = some (.ref f_LiveRow_levels :: r_LiveRow_levels))
    (gt_LiveRow_now : PySem.W.specialIn K (.ref p_LiveRow_now) "__get__" = some (some (.builtin "property.__get__")))
    (tk_LiveRow_now : PySem.W.takesIn K (.ref p_LiveRow_now) = some true)
    (rc_LiveRow_now : PySem.W.recIn K p_LiveRow_now "property" = some (.ref f_LiveRow_now :: r_LiveRow_now))
    (gt_LiveRow_history : PySem.W.specialIn K (.ref p_LiveRow_history) "__get__" = some (some (.builtin "property.__get__")))
    (tk_LiveRow_history : PySem.W.takesIn K (.ref p_LiveRow_history) = some true)
    (rc_LiveRow_history : PySem.W.recIn K p_LiveRow_history "property" = some (.ref f_LiveRow_history :: r_LiveRow_history))
    (gt_LiveRow_locked_names : PySem.W.specialIn K (.ref p_LiveRow_locked_names) "__get__" = some (some (.builtin "property.__get__")))
    (tk_LiveRow_locked_names : PySem.W.takesIn K (.ref p_LiveRow_locked_names) = some true)
    (rc_LiveRow_locked_names : PySem.W.recIn K p_LiveRow_locked_names "property" = some (.ref f_LiveRow_locked_names :: r_LiveRow_locked_names))
    (l_law_mix : K.lookup f_law_mix = some ⟨oc_law_mix, od_law_mix, .func (PySem.W.fnOf "_law_mix" "_law_mix" (defArgs s_law_mix) (defBody s_law_mix) (defScope s_law_mix) .none kV_law_mix dc_law_mix pm_law_mix an_law_mix cd_law_mix ct_law_mix), sl_law_mix⟩)
    (l_law_next : K.lookup f_law_next = some ⟨oc_law_next, od_law_next, .func (PySem.W.fnOf "_law_next" "_law_next" (defArgs s_law_next) (defBody s_law_next) (defScope s_law_next) .none kV_law_next dc_law_next pm_law_next an_law_next cd_law_next ct_law_next), sl_law_next⟩)
    (l_law_parts : K.lookup f_law_parts = some ⟨oc_law_parts, od_law_parts, .func (PySem.W.fnOf "_law_parts" "_law_parts" (defArgs s_law_parts) (defBody s_law_parts) (defScope s_law_parts) .none kV_law_parts dc_law_parts pm_law_parts an_law_parts cd_law_parts ct_law_parts), sl_law_parts⟩)
    (l_Row_len : K.lookup f_Row_len = some ⟨oc_Row_len, od_Row_len, .func (PySem.W.fnOf "__len__" "Row.__len__" (defArgs s_Row_len) (defBody s_Row_len) (defScope s_Row_len) .none kV_Row_len dc_Row_len pm_Row_len an_Row_len cd_Row_len ct_Row_len), sl_Row_len⟩)
    (l_LiveRow_init : K.lookup f_LiveRow_init = some ⟨oc_LiveRow_init, od_LiveRow_init, .func (PySem.W.fnOf "__init__" "LiveRow.__init__" (defArgs s_LiveRow_init) (defBody s_LiveRow_init) (defScope s_LiveRow_init) .none kV_LiveRow_init dc_LiveRow_init pm_LiveRow_init an_LiveRow_init cd_LiveRow_init ct_LiveRow_init), sl_LiveRow_init⟩)
    (l_is_name : K.lookup f_is_name = some ⟨oc_is_name, od_is_name, .func (PySem.W.fnOf "is_name" "is_name" (defArgs s_is_name) (defBody s_is_name) (defScope s_is_name) .none kV_is_name dc_is_name pm_is_name an_is_name cd_is_name ct_is_name), sl_is_name⟩)
    (l_is_barrel : K.lookup f_is_barrel = some ⟨oc_is_barrel, od_is_barrel, .func (PySem.W.fnOf "is_barrel" "is_barrel" (defArgs s_is_barrel) (defBody s_is_barrel) (defScope s_is_barrel) .none kV_is_barrel dc_is_barrel pm_is_barrel an_is_barrel cd_is_barrel ct_is_barrel), sl_is_barrel⟩)
    (l_Row_init : K.lookup f_Row_init = some ⟨oc_Row_init, od_Row_init, .func (PySem.W.fnOf "__init__" "Row.__init__" (defArgs s_Row_init) (defBody s_Row_init) (defScope s_Row_init) .none kV_Row_init dc_Row_init pm_Row_init an_Row_init cd_Row_init ct_Row_init), sl_Row_init⟩)
    (l_Row_add : K.lookup f_Row_add = some ⟨oc_Row_add, od_Row_add, .func (PySem.W.fnOf "__add__" "Row.__add__" (defArgs s_Row_add) (defBody s_Row_add) (defScope s_Row_add) .none kV_Row_add dc_Row_add pm_Row_add an_Row_add cd_Row_add ct_Row_add), sl_Row_add⟩)
    (l_law_row : K.lookup f_law_row = some ⟨oc_law_row, od_law_row, .func (PySem.W.fnOf "_law_row" "_law_row" (defArgs s_law_row) (defBody s_law_row) (defScope s_law_row) .none kV_law_row dc_law_row pm_law_row an_law_row cd_law_row ct_law_row), sl_law_row⟩)
    (l_law_tick : K.lookup f_law_tick = some ⟨oc_law_tick, od_law_tick, .func (PySem.W.fnOf "_law_tick" "_law_tick" (defArgs s_law_tick) (defBody s_law_tick) (defScope s_law_tick) .none kV_law_tick dc_law_tick pm_law_tick an_law_tick cd_law_tick ct_law_tick), sl_law_tick⟩)
    (l_law_pour_due : K.lookup f_law_pour_due = some ⟨oc_law_pour_due, od_law_pour_due, .func (PySem.W.fnOf "_law_pour_due" "_law_pour_due" (defArgs s_law_pour_due) (defBody s_law_pour_due) (defScope s_law_pour_due) .none kV_law_pour_due dc_law_pour_due pm_law_pour_due an_law_pour_due cd_law_pour_due ct_law_pour_due), sl_law_pour_due⟩)
    (l_law_outcome : K.lookup f_law_outcome = some ⟨oc_law_outcome, od_law_outcome, .func (PySem.W.fnOf "_law_outcome" "_law_outcome" (defArgs s_law_outcome) (defBody s_law_outcome) (defScope s_law_outcome) .none kV_law_outcome dc_law_outcome pm_law_outcome an_law_outcome cd_law_outcome ct_law_outcome), sl_law_outcome⟩)
    (l_validate_number : K.lookup f_validate_number = some ⟨oc_validate_number, od_validate_number, .func (PySem.W.fnOf "validate_number" "validate_number" (defArgs s_validate_number) (defBody s_validate_number) (defScope s_validate_number) .none kV_validate_number dc_validate_number pm_validate_number an_validate_number cd_validate_number ct_validate_number), sl_validate_number⟩)
    (l_Row_barrels : K.lookup f_Row_barrels = some ⟨oc_Row_barrels, od_Row_barrels, .func (PySem.W.fnOf "barrels" "Row.barrels" (defArgs s_Row_barrels) (defBody s_Row_barrels) (defScope s_Row_barrels) .none kV_Row_barrels dc_Row_barrels pm_Row_barrels an_Row_barrels cd_Row_barrels ct_Row_barrels), sl_Row_barrels⟩)
    (l_next_tick : K.lookup f_next_tick = some ⟨oc_next_tick, od_next_tick, .func (PySem.W.fnOf "next_tick" "next_tick" (defArgs s_next_tick) (defBody s_next_tick) (defScope s_next_tick) .none kV_next_tick dc_next_tick pm_next_tick an_next_tick cd_next_tick ct_next_tick), sl_next_tick⟩)
    (l_LiveRow_state : K.lookup f_LiveRow_state = some ⟨oc_LiveRow_state, od_LiveRow_state, .func (PySem.W.fnOf "state" "LiveRow.state" (defArgs s_LiveRow_state) (defBody s_LiveRow_state) (defScope s_LiveRow_state) .none kV_LiveRow_state dc_LiveRow_state pm_LiveRow_state an_LiveRow_state cd_LiveRow_state ct_LiveRow_state), sl_LiveRow_state⟩)
    (l_LiveRow_set_state : K.lookup f_LiveRow_set_state = some ⟨oc_LiveRow_set_state, od_LiveRow_set_state, .func (PySem.W.fnOf "set_state" "LiveRow.set_state" (defArgs s_LiveRow_set_state) (defBody s_LiveRow_set_state) (defScope s_LiveRow_set_state) .none kV_LiveRow_set_state dc_LiveRow_set_state pm_LiveRow_set_state an_LiveRow_set_state cd_LiveRow_set_state ct_LiveRow_set_state), sl_LiveRow_set_state⟩)
    (l_LiveRow_commit : K.lookup f_LiveRow_commit = some ⟨oc_LiveRow_commit, od_LiveRow_commit, .func (PySem.W.fnOf "commit" "LiveRow.commit" (defArgs s_LiveRow_commit) (defBody s_LiveRow_commit) (defScope s_LiveRow_commit) .none kV_LiveRow_commit dc_LiveRow_commit pm_LiveRow_commit an_LiveRow_commit cd_LiveRow_commit ct_LiveRow_commit), sl_LiveRow_commit⟩)
    (l_LiveRow_pour : K.lookup f_LiveRow_pour = some ⟨oc_LiveRow_pour, od_LiveRow_pour, .func (PySem.W.fnOf "pour" "LiveRow.pour" (defArgs s_LiveRow_pour) (defBody s_LiveRow_pour) (defScope s_LiveRow_pour) .none kV_LiveRow_pour dc_LiveRow_pour pm_LiveRow_pour an_LiveRow_pour cd_LiveRow_pour ct_LiveRow_pour), sl_LiveRow_pour⟩)
    (l_law_scoop_due : K.lookup f_law_scoop_due = some ⟨oc_law_scoop_due, od_law_scoop_due, .func (PySem.W.fnOf "_law_scoop_due" "_law_scoop_due" (defArgs s_law_scoop_due) (defBody s_law_scoop_due) (defScope s_law_scoop_due) .none kV_law_scoop_due dc_law_scoop_due pm_law_scoop_due an_law_scoop_due cd_law_scoop_due ct_law_scoop_due), sl_law_scoop_due⟩)
    (l_Row_names : K.lookup f_Row_names = some ⟨oc_Row_names, od_Row_names, .func (PySem.W.fnOf "names" "Row.names" (defArgs s_Row_names) (defBody s_Row_names) (defScope s_Row_names) .none kV_Row_names dc_Row_names pm_Row_names an_Row_names cd_Row_names ct_Row_names), sl_Row_names⟩)
    (l_place_of : K.lookup f_place_of = some ⟨oc_place_of, od_place_of, .func (PySem.W.fnOf "place_of" "place_of" (defArgs s_place_of) (defBody s_place_of) (defScope s_place_of) .none kV_place_of dc_place_of pm_place_of an_place_of cd_place_of ct_place_of), sl_place_of⟩)
    (l_LiveRow_scoop : K.lookup f_LiveRow_scoop = some ⟨oc_LiveRow_scoop, od_LiveRow_scoop, .func (PySem.W.fnOf "scoop" "LiveRow.scoop" (defArgs s_LiveRow_scoop) (defBody s_LiveRow_scoop) (defScope s_LiveRow_scoop) .none kV_LiveRow_scoop dc_LiveRow_scoop pm_LiveRow_scoop an_LiveRow_scoop cd_LiveRow_scoop ct_LiveRow_scoop), sl_LiveRow_scoop⟩)
    (l_law_lock_due : K.lookup f_law_lock_due = some ⟨oc_law_lock_due, od_law_lock_due, .func (PySem.W.fnOf "_law_lock_due" "_law_lock_due" (defArgs s_law_lock_due) (defBody s_law_lock_due) (defScope s_law_lock_due) .none kV_law_lock_due dc_law_lock_due pm_law_lock_due an_law_lock_due cd_law_lock_due ct_law_lock_due), sl_law_lock_due⟩)
    (l_LiveRow_lock : K.lookup f_LiveRow_lock = some ⟨oc_LiveRow_lock, od_LiveRow_lock, .func (PySem.W.fnOf "lock" "LiveRow.lock" (defArgs s_LiveRow_lock) (defBody s_LiveRow_lock) (defScope s_LiveRow_lock) .none kV_LiveRow_lock dc_LiveRow_lock pm_LiveRow_lock an_LiveRow_lock cd_LiveRow_lock ct_LiveRow_lock), sl_LiveRow_lock⟩)
    (l_LiveRow_unlock : K.lookup f_LiveRow_unlock = some ⟨oc_LiveRow_unlock, od_LiveRow_unlock, .func (PySem.W.fnOf "unlock" "LiveRow.unlock" (defArgs s_LiveRow_unlock) (defBody s_LiveRow_unlock) (defScope s_LiveRow_unlock) .none kV_LiveRow_unlock dc_LiveRow_unlock pm_LiveRow_unlock an_LiveRow_unlock cd_LiveRow_unlock ct_LiveRow_unlock), sl_LiveRow_unlock⟩)
    (l_law_alike : K.lookup f_law_alike = some ⟨oc_law_alike, od_law_alike, .func (PySem.W.fnOf "_law_alike" "_law_alike" (defArgs s_law_alike) (defBody s_law_alike) (defScope s_law_alike) .none kV_law_alike dc_law_alike pm_law_alike an_law_alike cd_law_alike ct_law_alike), sl_law_alike⟩)
    (l_LiveRow_missed_water : K.lookup f_LiveRow_missed_water = some ⟨oc_LiveRow_missed_water, od_LiveRow_missed_water, .func (PySem.W.fnOf "missed_water" "LiveRow.missed_water" (defArgs s_LiveRow_missed_water) (defBody s_LiveRow_missed_water) (defScope s_LiveRow_missed_water) .none kV_LiveRow_missed_water dc_LiveRow_missed_water pm_LiveRow_missed_water an_LiveRow_missed_water cd_LiveRow_missed_water ct_LiveRow_missed_water), sl_LiveRow_missed_water⟩)
    (l_LiveRow_lost_water : K.lookup f_LiveRow_lost_water = some ⟨oc_LiveRow_lost_water, od_LiveRow_lost_water, .func (PySem.W.fnOf "lost_water" "LiveRow.lost_water" (defArgs s_LiveRow_lost_water) (defBody s_LiveRow_lost_water) (defScope s_LiveRow_lost_water) .none kV_LiveRow_lost_water dc_LiveRow_lost_water pm_LiveRow_lost_water an_LiveRow_lost_water cd_LiveRow_lost_water ct_LiveRow_lost_water), sl_LiveRow_lost_water⟩)
    (l_LiveRow_levels : K.lookup f_LiveRow_levels = some ⟨oc_LiveRow_levels, od_LiveRow_levels, .func (PySem.W.fnOf "levels" "LiveRow.levels" (defArgs s_LiveRow_levels) (defBody s_LiveRow_levels) (defScope s_LiveRow_levels) .none kV_LiveRow_levels dc_LiveRow_levels pm_LiveRow_levels an_LiveRow_levels cd_LiveRow_levels ct_LiveRow_levels), sl_LiveRow_levels⟩)
    (l_LiveRow_now : K.lookup f_LiveRow_now = some ⟨oc_LiveRow_now, od_LiveRow_now, .func (PySem.W.fnOf "now" "LiveRow.now" (defArgs s_LiveRow_now) (defBody s_LiveRow_now) (defScope s_LiveRow_now) .none kV_LiveRow_now dc_LiveRow_now pm_LiveRow_now an_LiveRow_now cd_LiveRow_now ct_LiveRow_now), sl_LiveRow_now⟩)
    (l_LiveRow_history : K.lookup f_LiveRow_history = some ⟨oc_LiveRow_history, od_LiveRow_history, .func (PySem.W.fnOf "history" "LiveRow.history" (defArgs s_LiveRow_history) (defBody s_LiveRow_history) (defScope s_LiveRow_history) .none kV_LiveRow_history dc_LiveRow_history pm_LiveRow_history an_LiveRow_history cd_LiveRow_history ct_LiveRow_history), sl_LiveRow_history⟩)
    (l_LiveRow_locked_names : K.lookup f_LiveRow_locked_names = some ⟨oc_LiveRow_locked_names, od_LiveRow_locked_names, .func (PySem.W.fnOf "locked_names" "LiveRow.locked_names" (defArgs s_LiveRow_locked_names) (defBody s_LiveRow_locked_names) (defScope s_LiveRow_locked_names) .none kV_LiveRow_locked_names dc_LiveRow_locked_names pm_LiveRow_locked_names an_LiveRow_locked_names cd_LiveRow_locked_names ct_LiveRow_locked_names), sl_LiveRow_locked_names⟩)
    (l_law_told : K.lookup f_law_told = some ⟨oc_law_told, od_law_told, .func (PySem.W.fnOf "_law_told" "_law_told" (defArgs s_law_told) (defBody s_law_told) (defScope s_law_told) .none kV_law_told dc_law_told pm_law_told an_law_told cd_law_told ct_law_told), sl_law_told⟩)
    (l_x_InvalidRow : K.lookup f_x_InvalidRow = some ⟨oc_x_InvalidRow, od_x_InvalidRow, .func (PySem.W.fnOf "__init__" "InvalidRow.__init__" (defArgs s_x_InvalidRow) (defBody s_x_InvalidRow) (defScope s_x_InvalidRow) .none kV_x_InvalidRow dc_x_InvalidRow pm_x_InvalidRow an_x_InvalidRow cd_x_InvalidRow ct_x_InvalidRow), sl_x_InvalidRow⟩)
    (l_x_UnknownBarrel : K.lookup f_x_UnknownBarrel = some ⟨oc_x_UnknownBarrel, od_x_UnknownBarrel, .func (PySem.W.fnOf "__init__" "UnknownBarrel.__init__" (defArgs s_x_UnknownBarrel) (defBody s_x_UnknownBarrel) (defScope s_x_UnknownBarrel) .none kV_x_UnknownBarrel dc_x_UnknownBarrel pm_x_UnknownBarrel an_x_UnknownBarrel cd_x_UnknownBarrel ct_x_UnknownBarrel), sl_x_UnknownBarrel⟩)
    (xL_x_OtherRain : K.lookup C_OtherRain = some (excClassObj nm_x_OtherRain q_x_OtherRain C_OtherRain N_x_OtherRain bs_x_OtherRain bm_x_OtherRain true sn_x_OtherRain sub_x_OtherRain ab_x_OtherRain col_x_OtherRain dd_x_OtherRain m0_x_OtherRain m1_x_OtherRain m2_x_OtherRain m3_x_OtherRain m5_x_OtherRain "ValueError.__new__"))
    (xL_x_InvalidNumber : K.lookup C_InvalidNumber = some (excClassObj nm_x_InvalidNumber q_x_InvalidNumber C_InvalidNumber N_x_InvalidNumber bs_x_InvalidNumber bm_x_InvalidNumber true sn_x_InvalidNumber sub_x_InvalidNumber ab_x_InvalidNumber col_x_InvalidNumber dd_x_InvalidNumber m0_x_InvalidNumber m1_x_InvalidNumber m2_x_InvalidNumber m3_x_InvalidNumber m5_x_InvalidNumber "ValueError.__new__"))
    (xL_x_InvalidRow : K.lookup C_InvalidRow = some (excClassObj nm_x_InvalidRow q_x_InvalidRow C_InvalidRow N_x_InvalidRow bs_x_InvalidRow bm_x_InvalidRow true sn_x_InvalidRow sub_x_InvalidRow ab_x_InvalidRow col_x_InvalidRow dd_x_InvalidRow m0_x_InvalidRow m1_x_InvalidRow m2_x_InvalidRow m3_x_InvalidRow m5_x_InvalidRow "ValueError.__new__"))
    (xL_x_UnknownBarrel : K.lookup C_UnknownBarrel = some (excClassObj nm_x_UnknownBarrel q_x_UnknownBarrel C_UnknownBarrel N_x_UnknownBarrel bs_x_UnknownBarrel bm_x_UnknownBarrel true sn_x_UnknownBarrel sub_x_UnknownBarrel ab_x_UnknownBarrel col_x_UnknownBarrel dd_x_UnknownBarrel m0_x_UnknownBarrel m1_x_UnknownBarrel m2_x_UnknownBarrel m3_x_UnknownBarrel m5_x_UnknownBarrel "ValueError.__new__"))
    (c_law_mix : PySem.W.codeIn K cd_law_mix "_law_mix" = true)
    (k_law_mix : PySem.W.keepIn K (.ref f_law_mix) = true)
    (c_law_next : PySem.W.codeIn K cd_law_next "_law_next" = true)
    (k_law_next : PySem.W.keepIn K (.ref f_law_next) = true)
    (c_law_parts : PySem.W.codeIn K cd_law_parts "_law_parts" = true)
    (k_law_parts : PySem.W.keepIn K (.ref f_law_parts) = true)
    (pg_LiveRow : PySem.W.plainGet K C_LiveRow Str.empty = true)
    (hd_LiveRow : PySem.W.hasDictIn K C_LiveRow = true)
    (po_LiveRow : PySem.W.plainOver K C_LiveRow = true)
    (sa_LiveRow : PySem.W.findIn K (.ref C_LiveRow) "__setattr__" = some (some (.builtin "object.__setattr__")))
    (no_LiveRow_plan : PySem.W.findIn K (.ref C_LiveRow) "plan" = some none)
    (pg_Row : PySem.W.plainGet K C_Row Str.empty = true)
    (hd_Row : PySem.W.hasDictIn K C_Row = true)
    (po_Row : PySem.W.plainOver K C_Row = true)
    (sa_Row : PySem.W.findIn K (.ref C_Row) "__setattr__" = some (some (.builtin "object.__setattr__")))
    (no_Row_parts : PySem.W.findIn K (.ref C_Row) "parts" = some none)
    (c_Row_len : PySem.W.codeIn K cd_Row_len "Row.__len__" = true)
    (k_Row_len : PySem.W.keepIn K (.ref f_Row_len) = true)
    (i_Row_len : PySem.W.isFn K (.ref f_Row_len) = true)
    (no_LiveRow_water : PySem.W.findIn K (.ref C_LiveRow) "water" = some none)
    (no_LiveRow_passed : PySem.W.findIn K (.ref C_LiveRow) "passed" = some none)
    (no_LiveRow_gone : PySem.W.findIn K (.ref C_LiveRow) "gone" = some none)
    (no_LiveRow_shut : PySem.W.findIn K (.ref C_LiveRow) "shut" = some none)
    (no_LiveRow_past : PySem.W.findIn K (.ref C_LiveRow) "past" = some none)
    (no_LiveRow_future : PySem.W.findIn K (.ref C_LiveRow) "future" = some none)
    (c_LiveRow_init : PySem.W.codeIn K cd_LiveRow_init "LiveRow.__init__" = true)
    (k_LiveRow_init : PySem.W.keepIn K (.ref f_LiveRow_init) = true)
    (mk_LiveRow : PySem.W.makesIn K C_LiveRow = true)
    (if_LiveRow : PySem.W.isFn K (.ref f_LiveRow_init) = true)
    (kc_LiveRow : PySem.W.keepIn K (.ref C_LiveRow) = true)
    (rd_Row : PySem.W.readsIn K C_Row (.type "type") = true)
    (ga_Row : PySem.W.specialIn K (.ref C_Row) "__getattribute__" = some (some (.builtin "type.__getattribute__")))
    (cv_MAX_TICKS : PySem.W.findCls K (.ref C_Row) (.type "type") "MAX_TICKS" = some (.val (.int 12 tc_MAX_TICKS)))
    (cv_MAX_BARRELS : PySem.W.findCls K (.ref C_Row) (.type "type") "MAX_BARRELS" = some (.val (.int 5 tc_MAX_BARRELS)))
    (c_is_name : PySem.W.codeIn K cd_is_name "is_name" = true)
    (k_is_name : PySem.W.keepIn K (.ref f_is_name) = true)
    (c_is_barrel : PySem.W.codeIn K cd_is_barrel "is_barrel" = true)
    (k_is_barrel : PySem.W.keepIn K (.ref f_is_barrel) = true)
    (no_Row_weather : PySem.W.findIn K (.ref C_Row) "weather" = some none)
    (c_Row_init : PySem.W.codeIn K cd_Row_init "Row.__init__" = true)
    (k_Row_init : PySem.W.keepIn K (.ref f_Row_init) = true)
    (mk_Row : PySem.W.makesIn K C_Row = true)
    (if_Row : PySem.W.isFn K (.ref f_Row_init) = true)
    (kc_Row : PySem.W.keepIn K (.ref C_Row) = true)
    (rV_x_OtherRain : PySem.HandSPX.refsVE bm_x_OtherRain = true)
    (sa_OtherRain : PySem.W.findIn K (.ref C_OtherRain) "__setattr__" = some (some (.builtin "object.__setattr__")))
    (bx_OtherRain : PySem.W.subIn K (.ref C_OtherRain) (.type "BaseException") = some true)
    (tx_OtherRain : PySem.W.typeIn K (.ref C_OtherRain) = some (.type "type"))
    (kc_OtherRain : PySem.W.keepIn K (.ref C_OtherRain) = true)
    (ib_OtherRain : PySem.W.findIn K (.ref C_OtherRain) "__init__" = some (some (.builtin "ValueError.__init__")))
    (c_Row_add : PySem.W.codeIn K cd_Row_add "Row.__add__" = true)
    (k_Row_add : PySem.W.keepIn K (.ref f_Row_add) = true)
    (i_Row_add : PySem.W.isFn K (.ref f_Row_add) = true)
    (sf_Row : PySem.W.selfFirst K C_Row = true)
    (c_law_row : PySem.W.codeIn K cd_law_row "_law_row" = true)
    (k_law_row : PySem.W.keepIn K (.ref f_law_row) = true)
    (c_law_tick : PySem.W.codeIn K cd_law_tick "_law_tick" = true)
    (k_law_tick : PySem.W.keepIn K (.ref f_law_tick) = true)
    (c_law_pour_due : PySem.W.codeIn K cd_law_pour_due "_law_pour_due" = true)
    (k_law_pour_due : PySem.W.keepIn K (.ref f_law_pour_due) = true)
    (c_law_outcome : PySem.W.codeIn K cd_law_outcome "_law_outcome" = true)
    (k_law_outcome : PySem.W.keepIn K (.ref f_law_outcome) = true)
    (bx_RowError : PySem.W.subIn K (.ref C_RowError) (.type "BaseException") = some true)
    (hd_RowError : PySem.W.hasDictIn K C_RowError = true)
    (tx_RowError : PySem.W.typeIn K (.ref C_RowError) = some (.type "type"))
    (oc_get : PySem.W.specialIn K (.builtin "object.__class__") "__get__" = some (some (.builtin "getset_descriptor.__get__")))
    (oc_tak : PySem.W.takesIn K (.builtin "object.__class__") = some true)
    (hg_InvalidRow : PySem.W.findIn K (.ref C_InvalidRow) "__getattribute__" = some (some (.builtin "BaseException.__getattribute__")))
    (hk_InvalidRow : PySem.W.findIn K (.ref C_InvalidRow) "__getattr__" = some none)
    (bx_InvalidRow : PySem.W.subIn K (.ref C_InvalidRow) (.type "BaseException") = some true)
    (hd_InvalidRow : PySem.W.hasDictIn K C_InvalidRow = true)
    (ha_InvalidRow : PySem.W.findIn K (.ref C_InvalidRow) "__class__" = some (some (.builtin "object.__class__")))
    (hm_InvalidRow : PySem.W.mroIn K C_InvalidRow (.type "object") = some true)
    (no_InvalidRow_part : PySem.W.findIn K (.ref C_InvalidRow) "part" = some none)
    (no_InvalidRow_index : PySem.W.findIn K (.ref C_InvalidRow) "index" = some none)
    (no_InvalidRow_name : PySem.W.findIn K (.ref C_InvalidRow) "name" = some none)
    (no_InvalidRow_line : PySem.W.findIn K (.ref C_InvalidRow) "line" = some none)
    (no_InvalidRow_offset : PySem.W.findIn K (.ref C_InvalidRow) "offset" = some none)
    (ko_InvalidRow_InvalidRow : PySem.W.kitOne K (.ref C_InvalidRow) (.ref C_InvalidRow) = some true)
    (ko_InvalidRow_UnknownBarrel : PySem.W.kitOne K (.ref C_InvalidRow) (.ref C_UnknownBarrel) = some false)
    (ko_InvalidRow_InvalidNumber : PySem.W.kitOne K (.ref C_InvalidRow) (.ref C_InvalidNumber) = some false)
    (ko_InvalidRow_InvalidWeather : PySem.W.kitOne K (.ref C_InvalidRow) (.ref C_InvalidWeather) = some false)
    (ko_InvalidRow_InvalidOperation : PySem.W.kitOne K (.ref C_InvalidRow) (.ref C_InvalidOperation) = some false)
    (ko_InvalidRow_InvalidText : PySem.W.kitOne K (.ref C_InvalidRow) (.ref C_InvalidText) = some false)
    (ko_InvalidRow_DaybookError : PySem.W.kitOne K (.ref C_InvalidRow) (.ref C_DaybookError) = some false)
    (ko_InvalidRow_DecodeError : PySem.W.kitOne K (.ref C_InvalidRow) (.ref C_DecodeError) = some false)
    (kv_InvalidRow : PySem.W.kitOne K (.ref C_InvalidRow) (.type "ValueError") = some true)
    (sr_InvalidRow : PySem.W.subIn K (.ref C_InvalidRow) (.ref C_RowError) = some true)
    (hg_UnknownBarrel : PySem.W.findIn K (.ref C_UnknownBarrel) "__getattribute__" = some (some (.builtin "BaseException.__getattribute__")))
    (hk_UnknownBarrel : PySem.W.findIn K (.ref C_UnknownBarrel) "__getattr__" = some none)
    (bx_UnknownBarrel : PySem.W.subIn K (.ref C_UnknownBarrel) (.type "BaseException") = some true)
    (hd_UnknownBarrel : PySem.W.hasDictIn K C_UnknownBarrel = true)
    (ha_UnknownBarrel : PySem.W.findIn K (.ref C_UnknownBarrel) "__class__" = some (some (.builtin "object.__class__")))
    (hm_UnknownBarrel : PySem.W.mroIn K C_UnknownBarrel (.type "object") = some true)
    (no_UnknownBarrel_part : PySem.W.findIn K (.ref C_UnknownBarrel) "part" = some none)
    (no_UnknownBarrel_index : PySem.W.findIn K (.ref C_UnknownBarrel) "index" = some none)
    (no_UnknownBarrel_name : PySem.W.findIn K (.ref C_UnknownBarrel) "name" = some none)
    (no_UnknownBarrel_line : PySem.W.findIn K (.ref C_UnknownBarrel) "line" = some none)
    (no_UnknownBarrel_offset : PySem.W.findIn K (.ref C_UnknownBarrel) "offset" = some none)
    (ko_UnknownBarrel_InvalidRow : PySem.W.kitOne K (.ref C_UnknownBarrel) (.ref C_InvalidRow) = some false)
    (ko_UnknownBarrel_UnknownBarrel : PySem.W.kitOne K (.ref C_UnknownBarrel) (.ref C_UnknownBarrel) = some true)
    (ko_UnknownBarrel_InvalidNumber : PySem.W.kitOne K (.ref C_UnknownBarrel) (.ref C_InvalidNumber) = some false)
    (ko_UnknownBarrel_InvalidWeather : PySem.W.kitOne K (.ref C_UnknownBarrel) (.ref C_InvalidWeather) = some false)
    (ko_UnknownBarrel_InvalidOperation : PySem.W.kitOne K (.ref C_UnknownBarrel) (.ref C_InvalidOperation) = some false)
    (ko_UnknownBarrel_InvalidText : PySem.W.kitOne K (.ref C_UnknownBarrel) (.ref C_InvalidText) = some false)
    (ko_UnknownBarrel_DaybookError : PySem.W.kitOne K (.ref C_UnknownBarrel) (.ref C_DaybookError) = some false)
    (ko_UnknownBarrel_DecodeError : PySem.W.kitOne K (.ref C_UnknownBarrel) (.ref C_DecodeError) = some false)
    (kv_UnknownBarrel : PySem.W.kitOne K (.ref C_UnknownBarrel) (.type "ValueError") = some true)
    (sr_UnknownBarrel : PySem.W.subIn K (.ref C_UnknownBarrel) (.ref C_RowError) = some true)
    (hg_OtherRain : PySem.W.findIn K (.ref C_OtherRain) "__getattribute__" = some (some (.builtin "BaseException.__getattribute__")))
    (hk_OtherRain : PySem.W.findIn K (.ref C_OtherRain) "__getattr__" = some none)
    (hd_OtherRain : PySem.W.hasDictIn K C_OtherRain = true)
    (ha_OtherRain : PySem.W.findIn K (.ref C_OtherRain) "__class__" = some (some (.builtin "object.__class__")))
    (hm_OtherRain : PySem.W.mroIn K C_OtherRain (.type "object") = some true)
    (no_OtherRain_part : PySem.W.findIn K (.ref C_OtherRain) "part" = some none)
    (no_OtherRain_index : PySem.W.findIn K (.ref C_OtherRain) "index" = some none)
    (no_OtherRain_name : PySem.W.findIn K (.ref C_OtherRain) "name" = some none)
    (no_OtherRain_line : PySem.W.findIn K (.ref C_OtherRain) "line" = some none)
    (no_OtherRain_offset : PySem.W.findIn K (.ref C_OtherRain) "offset" = some none)
    (ko_OtherRain_InvalidRow : PySem.W.kitOne K (.ref C_OtherRain) (.ref C_InvalidRow) = some false)
    (ko_OtherRain_UnknownBarrel : PySem.W.kitOne K (.ref C_OtherRain) (.ref C_UnknownBarrel) = some false)
    (ko_OtherRain_InvalidNumber : PySem.W.kitOne K (.ref C_OtherRain) (.ref C_InvalidNumber) = some false)
    (ko_OtherRain_InvalidWeather : PySem.W.kitOne K (.ref C_OtherRain) (.ref C_InvalidWeather) = some false)
    (ko_OtherRain_InvalidOperation : PySem.W.kitOne K (.ref C_OtherRain) (.ref C_InvalidOperation) = some false)
    (ko_OtherRain_InvalidText : PySem.W.kitOne K (.ref C_OtherRain) (.ref C_InvalidText) = some false)
    (ko_OtherRain_DaybookError : PySem.W.kitOne K (.ref C_OtherRain) (.ref C_DaybookError) = some false)
    (ko_OtherRain_DecodeError : PySem.W.kitOne K (.ref C_OtherRain) (.ref C_DecodeError) = some false)
    (kv_OtherRain : PySem.W.kitOne K (.ref C_OtherRain) (.type "ValueError") = some true)
    (sr_OtherRain : PySem.W.subIn K (.ref C_OtherRain) (.ref C_RowError) = some true)
    (hg_InvalidNumber : PySem.W.findIn K (.ref C_InvalidNumber) "__getattribute__" = some (some (.builtin "BaseException.__getattribute__")))
    (hk_InvalidNumber : PySem.W.findIn K (.ref C_InvalidNumber) "__getattr__" = some none)
    (bx_InvalidNumber : PySem.W.subIn K (.ref C_InvalidNumber) (.type "BaseException") = some true)
    (hd_InvalidNumber : PySem.W.hasDictIn K C_InvalidNumber = true)
    (ha_InvalidNumber : PySem.W.findIn K (.ref C_InvalidNumber) "__class__" = some (some (.builtin "object.__class__")))
    (hm_InvalidNumber : PySem.W.mroIn K C_InvalidNumber (.type "object") = some true)
    (no_InvalidNumber_part : PySem.W.findIn K (.ref C_InvalidNumber) "part" = some none)
    (no_InvalidNumber_index : PySem.W.findIn K (.ref C_InvalidNumber) "index" = some none)
    (no_InvalidNumber_name : PySem.W.findIn K (.ref C_InvalidNumber) "name" = some none)
    (no_InvalidNumber_line : PySem.W.findIn K (.ref C_InvalidNumber) "line" = some none)
    (no_InvalidNumber_offset : PySem.W.findIn K (.ref C_InvalidNumber) "offset" = some none)
    (ko_InvalidNumber_InvalidRow : PySem.W.kitOne K (.ref C_InvalidNumber) (.ref C_InvalidRow) = some false)
    (ko_InvalidNumber_UnknownBarrel : PySem.W.kitOne K (.ref C_InvalidNumber) (.ref C_UnknownBarrel) = some false)
    (ko_InvalidNumber_InvalidNumber : PySem.W.kitOne K (.ref C_InvalidNumber) (.ref C_InvalidNumber) = some true)
    (ko_InvalidNumber_InvalidWeather : PySem.W.kitOne K (.ref C_InvalidNumber) (.ref C_InvalidWeather) = some false)
    (ko_InvalidNumber_InvalidOperation : PySem.W.kitOne K (.ref C_InvalidNumber) (.ref C_InvalidOperation) = some false)
    (ko_InvalidNumber_InvalidText : PySem.W.kitOne K (.ref C_InvalidNumber) (.ref C_InvalidText) = some false)
    (ko_InvalidNumber_DaybookError : PySem.W.kitOne K (.ref C_InvalidNumber) (.ref C_DaybookError) = some false)
    (ko_InvalidNumber_DecodeError : PySem.W.kitOne K (.ref C_InvalidNumber) (.ref C_DecodeError) = some false)
    (kv_InvalidNumber : PySem.W.kitOne K (.ref C_InvalidNumber) (.type "ValueError") = some true)
    (sr_InvalidNumber : PySem.W.subIn K (.ref C_InvalidNumber) (.ref C_RowError) = some true)
    (hg_InvalidWeather : PySem.W.findIn K (.ref C_InvalidWeather) "__getattribute__" = some (some (.builtin "BaseException.__getattribute__")))
    (hk_InvalidWeather : PySem.W.findIn K (.ref C_InvalidWeather) "__getattr__" = some none)
    (bx_InvalidWeather : PySem.W.subIn K (.ref C_InvalidWeather) (.type "BaseException") = some true)
    (hd_InvalidWeather : PySem.W.hasDictIn K C_InvalidWeather = true)
    (ha_InvalidWeather : PySem.W.findIn K (.ref C_InvalidWeather) "__class__" = some (some (.builtin "object.__class__")))
    (hm_InvalidWeather : PySem.W.mroIn K C_InvalidWeather (.type "object") = some true)
    (no_InvalidWeather_part : PySem.W.findIn K (.ref C_InvalidWeather) "part" = some none)
    (no_InvalidWeather_index : PySem.W.findIn K (.ref C_InvalidWeather) "index" = some none)
    (no_InvalidWeather_name : PySem.W.findIn K (.ref C_InvalidWeather) "name" = some none)
    (no_InvalidWeather_line : PySem.W.findIn K (.ref C_InvalidWeather) "line" = some none)
    (no_InvalidWeather_offset : PySem.W.findIn K (.ref C_InvalidWeather) "offset" = some none)
    (ko_InvalidWeather_InvalidRow : PySem.W.kitOne K (.ref C_InvalidWeather) (.ref C_InvalidRow) = some false)
    (ko_InvalidWeather_UnknownBarrel : PySem.W.kitOne K (.ref C_InvalidWeather) (.ref C_UnknownBarrel) = some false)
    (ko_InvalidWeather_InvalidNumber : PySem.W.kitOne K (.ref C_InvalidWeather) (.ref C_InvalidNumber) = some false)
    (ko_InvalidWeather_InvalidWeather : PySem.W.kitOne K (.ref C_InvalidWeather) (.ref C_InvalidWeather) = some true)
    (ko_InvalidWeather_InvalidOperation : PySem.W.kitOne K (.ref C_InvalidWeather) (.ref C_InvalidOperation) = some false)
    (ko_InvalidWeather_InvalidText : PySem.W.kitOne K (.ref C_InvalidWeather) (.ref C_InvalidText) = some false)
    (ko_InvalidWeather_DaybookError : PySem.W.kitOne K (.ref C_InvalidWeather) (.ref C_DaybookError) = some false)
    (ko_InvalidWeather_DecodeError : PySem.W.kitOne K (.ref C_InvalidWeather) (.ref C_DecodeError) = some false)
    (kv_InvalidWeather : PySem.W.kitOne K (.ref C_InvalidWeather) (.type "ValueError") = some true)
    (sr_InvalidWeather : PySem.W.subIn K (.ref C_InvalidWeather) (.ref C_RowError) = some true)
    (hg_InvalidOperation : PySem.W.findIn K (.ref C_InvalidOperation) "__getattribute__" = some (some (.builtin "BaseException.__getattribute__")))
    (hk_InvalidOperation : PySem.W.findIn K (.ref C_InvalidOperation) "__getattr__" = some none)
    (bx_InvalidOperation : PySem.W.subIn K (.ref C_InvalidOperation) (.type "BaseException") = some true)
    (hd_InvalidOperation : PySem.W.hasDictIn K C_InvalidOperation = true)
    (ha_InvalidOperation : PySem.W.findIn K (.ref C_InvalidOperation) "__class__" = some (some (.builtin "object.__class__")))
    (hm_InvalidOperation : PySem.W.mroIn K C_InvalidOperation (.type "object") = some true)
    (no_InvalidOperation_part : PySem.W.findIn K (.ref C_InvalidOperation) "part" = some none)
    (no_InvalidOperation_index : PySem.W.findIn K (.ref C_InvalidOperation) "index" = some none)
    (no_InvalidOperation_name : PySem.W.findIn K (.ref C_InvalidOperation) "name" = some none)
    (no_InvalidOperation_line : PySem.W.findIn K (.ref C_InvalidOperation) "line" = some none)
    (no_InvalidOperation_offset : PySem.W.findIn K (.ref C_InvalidOperation) "offset" = some none)
    (ko_InvalidOperation_InvalidRow : PySem.W.kitOne K (.ref C_InvalidOperation) (.ref C_InvalidRow) = some false)
    (ko_InvalidOperation_UnknownBarrel : PySem.W.kitOne K (.ref C_InvalidOperation) (.ref C_UnknownBarrel) = some false)
    (ko_InvalidOperation_InvalidNumber : PySem.W.kitOne K (.ref C_InvalidOperation) (.ref C_InvalidNumber) = some false)
    (ko_InvalidOperation_InvalidWeather : PySem.W.kitOne K (.ref C_InvalidOperation) (.ref C_InvalidWeather) = some false)
    (ko_InvalidOperation_InvalidOperation : PySem.W.kitOne K (.ref C_InvalidOperation) (.ref C_InvalidOperation) = some true)
    (ko_InvalidOperation_InvalidText : PySem.W.kitOne K (.ref C_InvalidOperation) (.ref C_InvalidText) = some false)
    (ko_InvalidOperation_DaybookError : PySem.W.kitOne K (.ref C_InvalidOperation) (.ref C_DaybookError) = some false)
    (ko_InvalidOperation_DecodeError : PySem.W.kitOne K (.ref C_InvalidOperation) (.ref C_DecodeError) = some false)
    (kv_InvalidOperation : PySem.W.kitOne K (.ref C_InvalidOperation) (.type "ValueError") = some true)
    (sr_InvalidOperation : PySem.W.subIn K (.ref C_InvalidOperation) (.ref C_RowError) = some true)
    (hg_InvalidText : PySem.W.findIn K (.ref C_InvalidText) "__getattribute__" = some (some (.builtin "BaseException.__getattribute__")))
    (hk_InvalidText : PySem.W.findIn K (.ref C_InvalidText) "__getattr__" = some none)
    (bx_InvalidText : PySem.W.subIn K (.ref C_InvalidText) (.type "BaseException") = some true)
    (hd_InvalidText : PySem.W.hasDictIn K C_InvalidText = true)
    (ha_InvalidText : PySem.W.findIn K (.ref C_InvalidText) "__class__" = some (some (.builtin "object.__class__")))
    (hm_InvalidText : PySem.W.mroIn K C_InvalidText (.type "object") = some true)
    (no_InvalidText_part : PySem.W.findIn K (.ref C_InvalidText) "part" = some none)
    (no_InvalidText_index : PySem.W.findIn K (.ref C_InvalidText) "index" = some none)
    (no_InvalidText_name : PySem.W.findIn K (.ref C_InvalidText) "name" = some none)
    (no_InvalidText_line : PySem.W.findIn K (.ref C_InvalidText) "line" = some none)
    (no_InvalidText_offset : PySem.W.findIn K (.ref C_InvalidText) "offset" = some none)
    (ko_InvalidText_InvalidRow : PySem.W.kitOne K (.ref C_InvalidText) (.ref C_InvalidRow) = some false)
    (ko_InvalidText_UnknownBarrel : PySem.W.kitOne K (.ref C_InvalidText) (.ref C_UnknownBarrel) = some false)
    (ko_InvalidText_InvalidNumber : PySem.W.kitOne K (.ref C_InvalidText) (.ref C_InvalidNumber) = some false)
    (ko_InvalidText_InvalidWeather : PySem.W.kitOne K (.ref C_InvalidText) (.ref C_InvalidWeather) = some false)
    (ko_InvalidText_InvalidOperation : PySem.W.kitOne K (.ref C_InvalidText) (.ref C_InvalidOperation) = some false)
    (ko_InvalidText_InvalidText : PySem.W.kitOne K (.ref C_InvalidText) (.ref C_InvalidText) = some true)
    (ko_InvalidText_DaybookError : PySem.W.kitOne K (.ref C_InvalidText) (.ref C_DaybookError) = some false)
    (ko_InvalidText_DecodeError : PySem.W.kitOne K (.ref C_InvalidText) (.ref C_DecodeError) = some false)
    (kv_InvalidText : PySem.W.kitOne K (.ref C_InvalidText) (.type "ValueError") = some true)
    (sr_InvalidText : PySem.W.subIn K (.ref C_InvalidText) (.ref C_RowError) = some true)
    (hg_DaybookError : PySem.W.findIn K (.ref C_DaybookError) "__getattribute__" = some (some (.builtin "BaseException.__getattribute__")))
    (hk_DaybookError : PySem.W.findIn K (.ref C_DaybookError) "__getattr__" = some none)
    (bx_DaybookError : PySem.W.subIn K (.ref C_DaybookError) (.type "BaseException") = some true)
    (hd_DaybookError : PySem.W.hasDictIn K C_DaybookError = true)
    (ha_DaybookError : PySem.W.findIn K (.ref C_DaybookError) "__class__" = some (some (.builtin "object.__class__")))
    (hm_DaybookError : PySem.W.mroIn K C_DaybookError (.type "object") = some true)
    (no_DaybookError_part : PySem.W.findIn K (.ref C_DaybookError) "part" = some none)
    (no_DaybookError_index : PySem.W.findIn K (.ref C_DaybookError) "index" = some none)
    (no_DaybookError_name : PySem.W.findIn K (.ref C_DaybookError) "name" = some none)
    (no_DaybookError_line : PySem.W.findIn K (.ref C_DaybookError) "line" = some none)
    (no_DaybookError_offset : PySem.W.findIn K (.ref C_DaybookError) "offset" = some none)
    (ko_DaybookError_InvalidRow : PySem.W.kitOne K (.ref C_DaybookError) (.ref C_InvalidRow) = some false)
    (ko_DaybookError_UnknownBarrel : PySem.W.kitOne K (.ref C_DaybookError) (.ref C_UnknownBarrel) = some false)
    (ko_DaybookError_InvalidNumber : PySem.W.kitOne K (.ref C_DaybookError) (.ref C_InvalidNumber) = some false)
    (ko_DaybookError_InvalidWeather : PySem.W.kitOne K (.ref C_DaybookError) (.ref C_InvalidWeather) = some false)
    (ko_DaybookError_InvalidOperation : PySem.W.kitOne K (.ref C_DaybookError) (.ref C_InvalidOperation) = some false)
    (ko_DaybookError_InvalidText : PySem.W.kitOne K (.ref C_DaybookError) (.ref C_InvalidText) = some false)
    (ko_DaybookError_DaybookError : PySem.W.kitOne K (.ref C_DaybookError) (.ref C_DaybookError) = some true)
    (ko_DaybookError_DecodeError : PySem.W.kitOne K (.ref C_DaybookError) (.ref C_DecodeError) = some false)
    (kv_DaybookError : PySem.W.kitOne K (.ref C_DaybookError) (.type "ValueError") = some true)
    (sr_DaybookError : PySem.W.subIn K (.ref C_DaybookError) (.ref C_RowError) = some true)
    (hg_DecodeError : PySem.W.findIn K (.ref C_DecodeError) "__getattribute__" = some (some (.builtin "BaseException.__getattribute__")))
    (hk_DecodeError : PySem.W.findIn K (.ref C_DecodeError) "__getattr__" = some none)
    (bx_DecodeError : PySem.W.subIn K (.ref C_DecodeError) (.type "BaseException") = some true)
    (hd_DecodeError : PySem.W.hasDictIn K C_DecodeError = true)
    (ha_DecodeError : PySem.W.findIn K (.ref C_DecodeError) "__class__" = some (some (.builtin "object.__class__")))
    (hm_DecodeError : PySem.W.mroIn K C_DecodeError (.type "object") = some true)
    (no_DecodeError_part : PySem.W.findIn K (.ref C_DecodeError) "part" = some none)
    (no_DecodeError_index : PySem.W.findIn K (.ref C_DecodeError) "index" = some none)
    (no_DecodeError_name : PySem.W.findIn K (.ref C_DecodeError) "name" = some none)
    (no_DecodeError_line : PySem.W.findIn K (.ref C_DecodeError) "line" = some none)
    (no_DecodeError_offset : PySem.W.findIn K (.ref C_DecodeError) "offset" = some none)
    (ko_DecodeError_InvalidRow : PySem.W.kitOne K (.ref C_DecodeError) (.ref C_InvalidRow) = some false)
    (ko_DecodeError_UnknownBarrel : PySem.W.kitOne K (.ref C_DecodeError) (.ref C_UnknownBarrel) = some false)
    (ko_DecodeError_InvalidNumber : PySem.W.kitOne K (.ref C_DecodeError) (.ref C_InvalidNumber) = some false)
    (ko_DecodeError_InvalidWeather : PySem.W.kitOne K (.ref C_DecodeError) (.ref C_InvalidWeather) = some false)
    (ko_DecodeError_InvalidOperation : PySem.W.kitOne K (.ref C_DecodeError) (.ref C_InvalidOperation) = some false)
    (ko_DecodeError_InvalidText : PySem.W.kitOne K (.ref C_DecodeError) (.ref C_InvalidText) = some false)
    (ko_DecodeError_DaybookError : PySem.W.kitOne K (.ref C_DecodeError) (.ref C_DaybookError) = some false)
    (ko_DecodeError_DecodeError : PySem.W.kitOne K (.ref C_DecodeError) (.ref C_DecodeError) = some true)
    (kv_DecodeError : PySem.W.kitOne K (.ref C_DecodeError) (.type "ValueError") = some true)
    (sr_DecodeError : PySem.W.subIn K (.ref C_DecodeError) (.ref C_RowError) = some true)
    (rV_x_InvalidNumber : PySem.HandSPX.refsVE bm_x_InvalidNumber = true)
    (sa_InvalidNumber : PySem.W.findIn K (.ref C_InvalidNumber) "__setattr__" = some (some (.builtin "object.__setattr__")))
    (tx_InvalidNumber : PySem.W.typeIn K (.ref C_InvalidNumber) = some (.type "type"))
    (kc_InvalidNumber : PySem.W.keepIn K (.ref C_InvalidNumber) = true)
    (ib_InvalidNumber : PySem.W.findIn K (.ref C_InvalidNumber) "__init__" = some (some (.builtin "ValueError.__init__")))
    (c_validate_number : PySem.W.codeIn K cd_validate_number "validate_number" = true)
    (k_validate_number : PySem.W.keepIn K (.ref f_validate_number) = true)
    (c_Row_barrels : PySem.W.codeIn K cd_Row_barrels "Row.barrels" = true)
    (k_Row_barrels : PySem.W.keepIn K (.ref f_Row_barrels) = true)
    (c_next_tick : PySem.W.codeIn K cd_next_tick "next_tick" = true)
    (k_next_tick : PySem.W.keepIn K (.ref f_next_tick) = true)
    (c_LiveRow_state : PySem.W.codeIn K cd_LiveRow_state "LiveRow.state" = true)
    (k_LiveRow_state : PySem.W.keepIn K (.ref f_LiveRow_state) = true)
    (i_LiveRow_state : PySem.W.isFn K (.ref f_LiveRow_state) = true)
    (c_LiveRow_set_state : PySem.W.codeIn K cd_LiveRow_set_state "LiveRow.set_state" = true)
    (k_LiveRow_set_state : PySem.W.keepIn K (.ref f_LiveRow_set_state) = true)
    (i_LiveRow_set_state : PySem.W.isFn K (.ref f_LiveRow_set_state) = true)
    (c_LiveRow_commit : PySem.W.codeIn K cd_LiveRow_commit "LiveRow.commit" = true)
    (k_LiveRow_commit : PySem.W.keepIn K (.ref f_LiveRow_commit) = true)
    (i_LiveRow_commit : PySem.W.isFn K (.ref f_LiveRow_commit) = true)
    (c_LiveRow_pour : PySem.W.codeIn K cd_LiveRow_pour "LiveRow.pour" = true)
    (k_LiveRow_pour : PySem.W.keepIn K (.ref f_LiveRow_pour) = true)
    (i_LiveRow_pour : PySem.W.isFn K (.ref f_LiveRow_pour) = true)
    (c_law_scoop_due : PySem.W.codeIn K cd_law_scoop_due "_law_scoop_due" = true)
    (k_law_scoop_due : PySem.W.keepIn K (.ref f_law_scoop_due) = true)
    (c_Row_names : PySem.W.codeIn K cd_Row_names "Row.names" = true)
    (k_Row_names : PySem.W.keepIn K (.ref f_Row_names) = true)
    (c_place_of : PySem.W.codeIn K cd_place_of "place_of" = true)
    (k_place_of : PySem.W.keepIn K (.ref f_place_of) = true)
    (c_LiveRow_scoop : PySem.W.codeIn K cd_LiveRow_scoop "LiveRow.scoop" = true)
    (k_LiveRow_scoop : PySem.W.keepIn K (.ref f_LiveRow_scoop) = true)
    (i_LiveRow_scoop : PySem.W.isFn K (.ref f_LiveRow_scoop) = true)
    (c_law_lock_due : PySem.W.codeIn K cd_law_lock_due "_law_lock_due" = true)
    (k_law_lock_due : PySem.W.keepIn K (.ref f_law_lock_due) = true)
    (c_LiveRow_lock : PySem.W.codeIn K cd_LiveRow_lock "LiveRow.lock" = true)
    (k_LiveRow_lock : PySem.W.keepIn K (.ref f_LiveRow_lock) = true)
    (i_LiveRow_lock : PySem.W.isFn K (.ref f_LiveRow_lock) = true)
    (c_LiveRow_unlock : PySem.W.codeIn K cd_LiveRow_unlock "LiveRow.unlock" = true)
    (k_LiveRow_unlock : PySem.W.keepIn K (.ref f_LiveRow_unlock) = true)
    (i_LiveRow_unlock : PySem.W.isFn K (.ref f_LiveRow_unlock) = true)
    (c_law_alike : PySem.W.codeIn K cd_law_alike "_law_alike" = true)
    (k_law_alike : PySem.W.keepIn K (.ref f_law_alike) = true)
    (c_LiveRow_missed_water : PySem.W.codeIn K cd_LiveRow_missed_water "LiveRow.missed_water" = true)
    (k_LiveRow_missed_water : PySem.W.keepIn K (.ref f_LiveRow_missed_water) = true)
    (c_LiveRow_lost_water : PySem.W.codeIn K cd_LiveRow_lost_water "LiveRow.lost_water" = true)
    (k_LiveRow_lost_water : PySem.W.keepIn K (.ref f_LiveRow_lost_water) = true)
    (c_LiveRow_levels : PySem.W.codeIn K cd_LiveRow_levels "LiveRow.levels" = true)
    (k_LiveRow_levels : PySem.W.keepIn K (.ref f_LiveRow_levels) = true)
    (c_LiveRow_now : PySem.W.codeIn K cd_LiveRow_now "LiveRow.now" = true)
    (k_LiveRow_now : PySem.W.keepIn K (.ref f_LiveRow_now) = true)
    (c_LiveRow_history : PySem.W.codeIn K cd_LiveRow_history "LiveRow.history" = true)
    (k_LiveRow_history : PySem.W.keepIn K (.ref f_LiveRow_history) = true)
    (c_LiveRow_locked_names : PySem.W.codeIn K cd_LiveRow_locked_names "LiveRow.locked_names" = true)
    (k_LiveRow_locked_names : PySem.W.keepIn K (.ref f_LiveRow_locked_names) = true)
    (c_law_told : PySem.W.codeIn K cd_law_told "_law_told" = true)
    (k_law_told : PySem.W.keepIn K (.ref f_law_told) = true)
    (c_x_InvalidRow : PySem.W.codeIn K cd_x_InvalidRow "InvalidRow.__init__" = true)
    (k_x_InvalidRow : PySem.W.keepIn K (.ref f_x_InvalidRow) = true)
    (rd_RowError : PySem.W.readsIn K C_RowError (.type "type") = true)
    (ga_RowError : PySem.W.specialIn K (.ref C_RowError) "__getattribute__" = some (some (.builtin "type.__getattribute__")))
    (iv_RowError : PySem.W.findCls K (.ref C_RowError) (.type "type") "__init__" = some (.val (.builtin "ValueError.__init__")))
    (rV_x_InvalidRow : PySem.HandSPX.refsVE bm_x_InvalidRow = true)
    (sa_InvalidRow : PySem.W.findIn K (.ref C_InvalidRow) "__setattr__" = some (some (.builtin "object.__setattr__")))
    (tx_InvalidRow : PySem.W.typeIn K (.ref C_InvalidRow) = some (.type "type"))
    (kc_InvalidRow : PySem.W.keepIn K (.ref C_InvalidRow) = true)
    (ti_InvalidRow : PySem.W.typeIn K (.ref f_x_InvalidRow) = some (.type "function"))
    (c_x_UnknownBarrel : PySem.W.codeIn K cd_x_UnknownBarrel "UnknownBarrel.__init__" = true)
    (k_x_UnknownBarrel : PySem.W.keepIn K (.ref f_x_UnknownBarrel) = true)
    (rV_x_UnknownBarrel : PySem.HandSPX.refsVE bm_x_UnknownBarrel = true)
    (sa_UnknownBarrel : PySem.W.findIn K (.ref C_UnknownBarrel) "__setattr__" = some (some (.builtin "object.__setattr__")))
    (tx_UnknownBarrel : PySem.W.typeIn K (.ref C_UnknownBarrel) = some (.type "type"))
    (kc_UnknownBarrel : PySem.W.keepIn K (.ref C_UnknownBarrel) = true)
    (ti_UnknownBarrel : PySem.W.typeIn K (.ref f_x_UnknownBarrel) = some (.type "function")) : ∀ base : Heap, Fx ⟨P, w, K, mg, base⟩ := fun base => by
  constructor
  · exact PySem.W.mg_none_of X G z_list
  · exact ⟨_, _, PySem.W.mg_of X G a_law_mix, (fun_mk (st := s_law_mix) l_law_mix c_law_mix k_law_mix), ((fun_mk (st := s_law_mix) l_law_mix c_law_mix k_law_mix).binds (ps := ["_law_script", "_law_seed"]) fun _ _ _ _ _ _ us hl => match us, hl with | [_, _], _ => rfl)⟩
  · exact PySem.W.mg_none_of X G z_len
  · exact PySem.W.mg_none_of X G z_max
  · exact ⟨_, _, PySem.W.mg_of X G a_law_next, (fun_mk (st := s_law_next) l_law_next c_law_next k_law_next), ((fun_mk (st := s_law_next) l_law_next c_law_next k_law_next).binds (ps := ["_law_h", "_law_limit"]) fun _ _ _ _ _ _ us hl => match us, hl with | [_, _], _ => rfl)⟩
  · exact PySem.W.mg_none_of X G z_range
  · exact PySem.W.mg_none_of X G z_int
  · exact PySem.W.mg_none_of X G z_tuple
  · exact ⟨_, _, PySem.W.mg_of X G a_law_parts, (fun_mk (st := s_law_parts) l_law_parts c_law_parts k_law_parts), ((fun_mk (st := s_law_parts) l_law_parts c_law_parts k_law_parts).binds (ps := ["_law_h", "_law_most", "_law_wide"]) fun _ _ _ _ _ _ us hl => match us, hl with | [_, _, _], _ => rfl)⟩
  · exact ⟨by decide, (fun Ca hC => by cases (PySem.W.mg_of X G a_LiveRow).symm.trans hC; exact ⟨⟨pg_LiveRow, hd_LiveRow, po_LiveRow, sa_LiveRow⟩, no_LiveRow_plan⟩)⟩
  · exact ⟨by decide, (fun Ca hC => by cases (PySem.W.mg_of X G a_Row).symm.trans hC; exact ⟨⟨pg_Row, hd_Row, po_Row, sa_Row⟩, no_Row_parts⟩)⟩
  · exact ⟨_, _, _, (PySem.W.mg_of X G a_Row), ⟨pg_Row, hd_Row, po_Row, sa_Row⟩, at_Row_len, i_Row_len, (fun_mk (st := s_Row_len) l_Row_len c_Row_len k_Row_len), ((fun_mk (st := s_Row_len) l_Row_len c_Row_len k_Row_len).binds (ps := ["self"]) fun _ _ _ _ _ _ us hl => match us, hl with | [_], _ => rfl)⟩
  · exact ⟨by decide, (fun Ca hC => by cases (PySem.W.mg_of X G a_LiveRow).symm.trans hC; exact ⟨⟨pg_LiveRow, hd_LiveRow, po_LiveRow, sa_LiveRow⟩, no_LiveRow_water⟩)⟩
  · exact ⟨by decide, (fun Ca hC => by cases (PySem.W.mg_of X G a_LiveRow).symm.trans hC; exact ⟨⟨pg_LiveRow, hd_LiveRow, po_LiveRow, sa_LiveRow⟩, no_LiveRow_passed⟩)⟩
  · exact ⟨by decide, (fun Ca hC => by cases (PySem.W.mg_of X G a_LiveRow).symm.trans hC; exact ⟨⟨pg_LiveRow, hd_LiveRow, po_LiveRow, sa_LiveRow⟩, no_LiveRow_gone⟩)⟩
  · exact ⟨by decide, (fun Ca hC => by cases (PySem.W.mg_of X G a_LiveRow).symm.trans hC; exact ⟨⟨pg_LiveRow, hd_LiveRow, po_LiveRow, sa_LiveRow⟩, no_LiveRow_shut⟩)⟩
  · exact ⟨by decide, (fun Ca hC => by cases (PySem.W.mg_of X G a_LiveRow).symm.trans hC; exact ⟨⟨pg_LiveRow, hd_LiveRow, po_LiveRow, sa_LiveRow⟩, no_LiveRow_past⟩)⟩
  · exact ⟨by decide, (fun Ca hC => by cases (PySem.W.mg_of X G a_LiveRow).symm.trans hC; exact ⟨⟨pg_LiveRow, hd_LiveRow, po_LiveRow, sa_LiveRow⟩, no_LiveRow_future⟩)⟩
  · exact ⟨_, _, _, (PySem.W.mg_of X G a_LiveRow), ⟨mk_LiveRow, ii_LiveRow, if_LiveRow, kc_LiveRow⟩, (fun_mk (st := s_LiveRow_init) l_LiveRow_init c_LiveRow_init k_LiveRow_init), ((fun_mk (st := s_LiveRow_init) l_LiveRow_init c_LiveRow_init k_LiveRow_init).binds (ps := ["self", "row"]) fun _ _ _ _ _ _ us hl => match us, hl with | [_, _], _ => rfl)⟩
  · exact PySem.W.mg_none_of X G z_enumerate
  · exact ⟨_, _, _, (PySem.W.mg_of X G a_Row), ⟨rd_Row, ga_Row⟩, ⟨cv_MAX_TICKS, ⟨_, rfl⟩⟩⟩
  · exact ⟨_, PySem.W.mg_of X G v_MAX_RAIN⟩
  · exact ⟨_, _, _, (PySem.W.mg_of X G a_Row), ⟨rd_Row, ga_Row⟩, ⟨cv_MAX_BARRELS, ⟨_, rfl⟩⟩⟩
  · exact ⟨_, PySem.W.mg_of X G v_MAX_LETTERS⟩
  · exact ⟨_, PySem.W.mg_of X G v_LETTERS⟩
  · exact PySem.W.mg_none_of X G z_all
  · exact ⟨_, _, PySem.W.mg_of X G a_is_name, (fun_mk (st := s_is_name) l_is_name c_is_name k_is_name), ((fun_mk (st := s_is_name) l_is_name c_is_name k_is_name).binds (ps := ["name"]) fun _ _ _ _ _ _ us hl => match us, hl with | [_], _ => rfl)⟩
  · exact ⟨_, PySem.W.mg_of X G v_MAX_AMOUNT⟩
  · exact ⟨_, PySem.W.mg_of X G v_MAX_ROOF⟩
  · exact ⟨_, _, PySem.W.mg_of X G a_is_barrel, (fun_mk (st := s_is_barrel) l_is_barrel c_is_barrel k_is_barrel), ((fun_mk (st := s_is_barrel) l_is_barrel c_is_barrel k_is_barrel).binds (ps := ["barrel", "ticks"]) fun _ _ _ _ _ _ us hl => match us, hl with | [_, _], _ => rfl)⟩
  · exact ⟨by decide, (fun Ca hC => by cases (PySem.W.mg_of X G a_Row).symm.trans hC; exact ⟨⟨pg_Row, hd_Row, po_Row, sa_Row⟩, no_Row_weather⟩)⟩
  · exact ⟨_, _, _, (PySem.W.mg_of X G a_Row), ⟨mk_Row, ii_Row, if_Row, kc_Row⟩, (fun_mk (st := s_Row_init) l_Row_init c_Row_init k_Row_init)⟩
  · exact ⟨_, (PySem.W.mg_of X G a_OtherRain), ⟨⟨_, _, _, _, _, _, _, _, _, _, _, _, _, _, _, xL_x_OtherRain, rV_x_OtherRain⟩, sa_OtherRain, bx_OtherRain, tx_OtherRain, kc_OtherRain⟩, ib_OtherRain⟩
  · exact ⟨_, _, _, (PySem.W.mg_of X G a_Row), ⟨pg_Row, hd_Row, po_Row, sa_Row⟩, sf_Row, at_Row_add, i_Row_add, (fun_mk (st := s_Row_add) l_Row_add c_Row_add k_Row_add), ((fun_mk (st := s_Row_add) l_Row_add c_Row_add k_Row_add).binds (ps := ["self", "other"]) fun _ _ _ _ _ _ us hl => match us, hl with | [_, _], _ => rfl)⟩
  · exact ⟨_, _, PySem.W.mg_of X G a_law_row, (fun_mk (st := s_law_row) l_law_row c_law_row k_law_row), ((fun_mk (st := s_law_row) l_law_row c_law_row k_law_row).binds (ps := ["_law_parts_here"]) fun _ _ _ _ _ _ us hl => match us, hl with | [_], _ => rfl)⟩
  · exact ⟨_, _, PySem.W.mg_of X G a_law_tick, (fun_mk (st := s_law_tick) l_law_tick c_law_tick k_law_tick), ((fun_mk (st := s_law_tick) l_law_tick c_law_tick k_law_tick).binds (ps := ["_law_parts_here", "_law_levels", "_law_tick_here", "_law_amount", "_law_locked"]) fun _ _ _ _ _ _ us hl => match us, hl with | [_, _, _, _, _], _ => rfl)⟩
  · exact ⟨_, _, PySem.W.mg_of X G a_law_pour_due, (fun_mk (st := s_law_pour_due) l_law_pour_due c_law_pour_due k_law_pour_due), ((fun_mk (st := s_law_pour_due) l_law_pour_due c_law_pour_due k_law_pour_due).binds (ps := ["_law_w", "_law_amount"]) fun _ _ _ _ _ _ us hl => match us, hl with | [_, _], _ => rfl)⟩
  · exact PySem.W.mg_none_of X G z_isinstance
  · exact ⟨_, (PySem.W.mg_of X G a_InvalidNumber)⟩
  · exact ⟨_, (PySem.W.mg_of X G a_DecodeError)⟩
  · exact ⟨_, (PySem.W.mg_of X G a_DaybookError)⟩
  · exact ⟨_, (PySem.W.mg_of X G a_InvalidText)⟩
  · exact ⟨_, (PySem.W.mg_of X G a_InvalidRow)⟩
  · exact ⟨_, (PySem.W.mg_of X G a_InvalidOperation)⟩
  · exact ⟨_, (PySem.W.mg_of X G a_UnknownBarrel)⟩
  · exact ⟨_, (PySem.W.mg_of X G a_InvalidWeather)⟩
  · exact PySem.W.mg_none_of X G z_ValueError
  · exact ⟨_, _, PySem.W.mg_of X G a_law_outcome, (fun_mk (st := s_law_outcome) l_law_outcome c_law_outcome k_law_outcome), ((fun_mk (st := s_law_outcome) l_law_outcome c_law_outcome k_law_outcome).binds (ps := ["_law_call"]) fun _ _ _ _ _ _ us hl => match us, hl with | [_], _ => rfl)⟩
  · exact ⟨_, (PySem.W.mg_of X G a_RowError)⟩
  · intro Dn hD Da hDa
    rcases List.mem_cons.mp hD with e | hD
    · subst e; exact (by
      cases (PySem.W.mg_of X G a_InvalidRow).symm.trans hDa
      exact { ec := ⟨hg_InvalidRow, hk_InvalidRow, bx_InvalidRow, hd_InvalidRow, ha_InvalidRow, oc_get, oc_tak, hm_InvalidRow⟩, xf := ⟨hg_InvalidRow, hk_InvalidRow, bx_InvalidRow, hd_InvalidRow⟩, nof := nof5 no_InvalidRow_part no_InvalidRow_index no_InvalidRow_name no_InvalidRow_line no_InvalidRow_offset, isC := isc8 X G a_InvalidRow a_UnknownBarrel a_InvalidNumber a_InvalidWeather a_InvalidOperation a_InvalidText a_DaybookError a_DecodeError ko_InvalidRow_InvalidRow ko_InvalidRow_UnknownBarrel ko_InvalidRow_InvalidNumber ko_InvalidRow_InvalidWeather ko_InvalidRow_InvalidOperation ko_InvalidRow_InvalidText ko_InvalidRow_DaybookError ko_InvalidRow_DecodeError, isV := kv_InvalidRow, row := fun RA h => by cases (PySem.W.mg_of X G a_RowError).symm.trans h; exact PySem.W.exm_ref bx_RowError hd_RowError tx_RowError sr_InvalidRow })
    rcases List.mem_cons.mp hD with e | hD
    · subst e; exact (by
      cases (PySem.W.mg_of X G a_UnknownBarrel).symm.trans hDa
      exact { ec := ⟨hg_UnknownBarrel, hk_UnknownBarrel, bx_UnknownBarrel, hd_UnknownBarrel, ha_UnknownBarrel, oc_get, oc_tak, hm_UnknownBarrel⟩, xf := ⟨hg_UnknownBarrel, hk_UnknownBarrel, bx_UnknownBarrel, hd_UnknownBarrel⟩, nof := nof5 no_UnknownBarrel_part no_UnknownBarrel_index no_UnknownBarrel_name no_UnknownBarrel_line no_UnknownBarrel_offset, isC := isc8 X G a_InvalidRow a_UnknownBarrel a_InvalidNumber a_InvalidWeather a_InvalidOperation a_InvalidText a_DaybookError a_DecodeError ko_UnknownBarrel_InvalidRow ko_UnknownBarrel_UnknownBarrel ko_UnknownBarrel_InvalidNumber ko_UnknownBarrel_InvalidWeather ko_UnknownBarrel_InvalidOperation ko_UnknownBarrel_InvalidText ko_UnknownBarrel_DaybookError ko_UnknownBarrel_DecodeError, isV := kv_UnknownBarrel, row := fun RA h => by cases (PySem.W.mg_of X G a_RowError).symm.trans h; exact PySem.W.exm_ref bx_RowError hd_RowError tx_RowError sr_UnknownBarrel })
    rcases List.mem_cons.mp hD with e | hD
    · subst e; exact (by
      cases (PySem.W.mg_of X G a_OtherRain).symm.trans hDa
      exact { ec := ⟨hg_OtherRain, hk_OtherRain, bx_OtherRain, hd_OtherRain, ha_OtherRain, oc_get, oc_tak, hm_OtherRain⟩, xf := ⟨hg_OtherRain, hk_OtherRain, bx_OtherRain, hd_OtherRain⟩, nof := nof5 no_OtherRain_part no_OtherRain_index no_OtherRain_name no_OtherRain_line no_OtherRain_offset, isC := isc8 X G a_InvalidRow a_UnknownBarrel a_InvalidNumber a_InvalidWeather a_InvalidOperation a_InvalidText a_DaybookError a_DecodeError ko_OtherRain_InvalidRow ko_OtherRain_UnknownBarrel ko_OtherRain_InvalidNumber ko_OtherRain_InvalidWeather ko_OtherRain_InvalidOperation ko_OtherRain_InvalidText ko_OtherRain_DaybookError ko_OtherRain_DecodeError, isV := kv_OtherRain, row := fun RA h => by cases (PySem.W.mg_of X G a_RowError).symm.trans h; exact PySem.W.exm_ref bx_RowError hd_RowError tx_RowError sr_OtherRain })
    rcases List.mem_cons.mp hD with e | hD
    · subst e; exact (by
      cases (PySem.W.mg_of X G a_InvalidNumber).symm.trans hDa
      exact { ec := ⟨hg_InvalidNumber, hk_InvalidNumber, bx_InvalidNumber, hd_InvalidNumber, ha_InvalidNumber, oc_get, oc_tak, hm_InvalidNumber⟩, xf := ⟨hg_InvalidNumber, hk_InvalidNumber, bx_InvalidNumber, hd_InvalidNumber⟩, nof := nof5 no_InvalidNumber_part no_InvalidNumber_index no_InvalidNumber_name no_InvalidNumber_line no_InvalidNumber_offset, isC := isc8 X G a_InvalidRow a_UnknownBarrel a_InvalidNumber a_InvalidWeather a_InvalidOperation a_InvalidText a_DaybookError a_DecodeError ko_InvalidNumber_InvalidRow ko_InvalidNumber_UnknownBarrel ko_InvalidNumber_InvalidNumber ko_InvalidNumber_InvalidWeather ko_InvalidNumber_InvalidOperation ko_InvalidNumber_InvalidText ko_InvalidNumber_DaybookError ko_InvalidNumber_DecodeError, isV := kv_InvalidNumber, row := fun RA h => by cases (PySem.W.mg_of X G a_RowError).symm.trans h; exact PySem.W.exm_ref bx_RowError hd_RowError tx_RowError sr_InvalidNumber })
    rcases List.mem_cons.mp hD with e | hD
    · subst e; exact (by cases (PySem.W.mg_none_of X G z_Contradiction).symm.trans hDa)
    rcases List.mem_cons.mp hD with e | hD
    · subst e; exact (by
      cases (PySem.W.mg_of X G a_InvalidWeather).symm.trans hDa
      exact { ec := ⟨hg_InvalidWeather, hk_InvalidWeather, bx_InvalidWeather, hd_InvalidWeather, ha_InvalidWeather, oc_get, oc_tak, hm_InvalidWeather⟩, xf := ⟨hg_InvalidWeather, hk_InvalidWeather, bx_InvalidWeather, hd_InvalidWeather⟩, nof := nof5 no_InvalidWeather_part no_InvalidWeather_index no_InvalidWeather_name no_InvalidWeather_line no_InvalidWeather_offset, isC := isc8 X G a_InvalidRow a_UnknownBarrel a_InvalidNumber a_InvalidWeather a_InvalidOperation a_InvalidText a_DaybookError a_DecodeError ko_InvalidWeather_InvalidRow ko_InvalidWeather_UnknownBarrel ko_InvalidWeather_InvalidNumber ko_InvalidWeather_InvalidWeather ko_InvalidWeather_InvalidOperation ko_InvalidWeather_InvalidText ko_InvalidWeather_DaybookError ko_InvalidWeather_DecodeError, isV := kv_InvalidWeather, row := fun RA h => by cases (PySem.W.mg_of X G a_RowError).symm.trans h; exact PySem.W.exm_ref bx_RowError hd_RowError tx_RowError sr_InvalidWeather })
    rcases List.mem_cons.mp hD with e | hD
    · subst e; exact (by
      cases (PySem.W.mg_of X G a_InvalidOperation).symm.trans hDa
      exact { ec := ⟨hg_InvalidOperation, hk_InvalidOperation, bx_InvalidOperation, hd_InvalidOperation, ha_InvalidOperation, oc_get, oc_tak, hm_InvalidOperation⟩, xf := ⟨hg_InvalidOperation, hk_InvalidOperation, bx_InvalidOperation, hd_InvalidOperation⟩, nof := nof5 no_InvalidOperation_part no_InvalidOperation_index no_InvalidOperation_name no_InvalidOperation_line no_InvalidOperation_offset, isC := isc8 X G a_InvalidRow a_UnknownBarrel a_InvalidNumber a_InvalidWeather a_InvalidOperation a_InvalidText a_DaybookError a_DecodeError ko_InvalidOperation_InvalidRow ko_InvalidOperation_UnknownBarrel ko_InvalidOperation_InvalidNumber ko_InvalidOperation_InvalidWeather ko_InvalidOperation_InvalidOperation ko_InvalidOperation_InvalidText ko_InvalidOperation_DaybookError ko_InvalidOperation_DecodeError, isV := kv_InvalidOperation, row := fun RA h => by cases (PySem.W.mg_of X G a_RowError).symm.trans h; exact PySem.W.exm_ref bx_RowError hd_RowError tx_RowError sr_InvalidOperation })
    rcases List.mem_cons.mp hD with e | hD
    · subst e; exact (by
      cases (PySem.W.mg_of X G a_InvalidText).symm.trans hDa
      exact { ec := ⟨hg_InvalidText, hk_InvalidText, bx_InvalidText, hd_InvalidText, ha_InvalidText, oc_get, oc_tak, hm_InvalidText⟩, xf := ⟨hg_InvalidText, hk_InvalidText, bx_InvalidText, hd_InvalidText⟩, nof := nof5 no_InvalidText_part no_InvalidText_index no_InvalidText_name no_InvalidText_line no_InvalidText_offset, isC := isc8 X G a_InvalidRow a_UnknownBarrel a_InvalidNumber a_InvalidWeather a_InvalidOperation a_InvalidText a_DaybookError a_DecodeError ko_InvalidText_InvalidRow ko_InvalidText_UnknownBarrel ko_InvalidText_InvalidNumber ko_InvalidText_InvalidWeather ko_InvalidText_InvalidOperation ko_InvalidText_InvalidText ko_InvalidText_DaybookError ko_InvalidText_DecodeError, isV := kv_InvalidText, row := fun RA h => by cases (PySem.W.mg_of X G a_RowError).symm.trans h; exact PySem.W.exm_ref bx_RowError hd_RowError tx_RowError sr_InvalidText })
    rcases List.mem_cons.mp hD with e | hD
    · subst e; exact (by
      cases (PySem.W.mg_of X G a_DaybookError).symm.trans hDa
      exact { ec := ⟨hg_DaybookError, hk_DaybookError, bx_DaybookError, hd_DaybookError, ha_DaybookError, oc_get, oc_tak, hm_DaybookError⟩, xf := ⟨hg_DaybookError, hk_DaybookError, bx_DaybookError, hd_DaybookError⟩, nof := nof5 no_DaybookError_part no_DaybookError_index no_DaybookError_name no_DaybookError_line no_DaybookError_offset, isC := isc8 X G a_InvalidRow a_UnknownBarrel a_InvalidNumber a_InvalidWeather a_InvalidOperation a_InvalidText a_DaybookError a_DecodeError ko_DaybookError_InvalidRow ko_DaybookError_UnknownBarrel ko_DaybookError_InvalidNumber ko_DaybookError_InvalidWeather ko_DaybookError_InvalidOperation ko_DaybookError_InvalidText ko_DaybookError_DaybookError ko_DaybookError_DecodeError, isV := kv_DaybookError, row := fun RA h => by cases (PySem.W.mg_of X G a_RowError).symm.trans h; exact PySem.W.exm_ref bx_RowError hd_RowError tx_RowError sr_DaybookError })
    rcases List.mem_cons.mp hD with e | hD
    · subst e; exact (by
      cases (PySem.W.mg_of X G a_DecodeError).symm.trans hDa
      exact { ec := ⟨hg_DecodeError, hk_DecodeError, bx_DecodeError, hd_DecodeError, ha_DecodeError, oc_get, oc_tak, hm_DecodeError⟩, xf := ⟨hg_DecodeError, hk_DecodeError, bx_DecodeError, hd_DecodeError⟩, nof := nof5 no_DecodeError_part no_DecodeError_index no_DecodeError_name no_DecodeError_line no_DecodeError_offset, isC := isc8 X G a_InvalidRow a_UnknownBarrel a_InvalidNumber a_InvalidWeather a_InvalidOperation a_InvalidText a_DaybookError a_DecodeError ko_DecodeError_InvalidRow ko_DecodeError_UnknownBarrel ko_DecodeError_InvalidNumber ko_DecodeError_InvalidWeather ko_DecodeError_InvalidOperation ko_DecodeError_InvalidText ko_DecodeError_DaybookError ko_DecodeError_DecodeError, isV := kv_DecodeError, row := fun RA h => by cases (PySem.W.mg_of X G a_RowError).symm.trans h; exact PySem.W.exm_ref bx_RowError hd_RowError tx_RowError sr_DecodeError })
    cases hD
  · exact ⟨_, (PySem.W.mg_of X G a_InvalidNumber), ⟨⟨_, _, _, _, _, _, _, _, _, _, _, _, _, _, _, xL_x_InvalidNumber, rV_x_InvalidNumber⟩, sa_InvalidNumber, bx_InvalidNumber, tx_InvalidNumber, kc_InvalidNumber⟩, ib_InvalidNumber⟩
  · exact ⟨_, _, PySem.W.mg_of X G a_validate_number, (fun_mk (st := s_validate_number) l_validate_number c_validate_number k_validate_number), ((fun_mk (st := s_validate_number) l_validate_number c_validate_number k_validate_number).binds (ps := ["number", "smallest", "largest"]) fun _ _ _ _ _ _ us hl => match us, hl with | [_, _, _], _ => rfl)⟩
  · exact ⟨_, _, _, (fun Ca hC => by cases (PySem.W.mg_of X G a_Row).symm.trans hC; exact ⟨⟨pg_Row, hd_Row, po_Row, sa_Row⟩, ⟨at_Row_barrels, gt_Row_barrels, tk_Row_barrels, ⟨_, rc_Row_barrels⟩⟩⟩), (fun_mk (st := s_Row_barrels) l_Row_barrels c_Row_barrels k_Row_barrels), ((fun_mk (st := s_Row_barrels) l_Row_barrels c_Row_barrels k_Row_barrels).binds (ps := ["self"]) fun _ _ _ _ _ _ us hl => match us, hl with | [_], _ => rfl)⟩
  · exact ⟨_, (PySem.W.mg_of X G a_Row)⟩
  · exact PySem.W.mg_none_of X G z_zip
  · exact PySem.W.mg_none_of X G z_min
  · exact ⟨_, _, PySem.W.mg_of X G a_next_tick, (fun_mk (st := s_next_tick) l_next_tick c_next_tick k_next_tick), ((fun_mk (st := s_next_tick) l_next_tick c_next_tick k_next_tick).binds (ps := ["row", "levels", "tick", "amount", "locked"]) fun _ _ _ _ _ _ us hl => match us, hl with | [_, _, _, _, _], _ => rfl)⟩
  · exact ⟨_, _, (fun Ca hC => by cases (PySem.W.mg_of X G a_LiveRow).symm.trans hC; exact ⟨⟨pg_LiveRow, hd_LiveRow, po_LiveRow, sa_LiveRow⟩, ⟨at_LiveRow_state, i_LiveRow_state, k_LiveRow_state⟩⟩), (fun_mk (st := s_LiveRow_state) l_LiveRow_state c_LiveRow_state k_LiveRow_state), ((fun_mk (st := s_LiveRow_state) l_LiveRow_state c_LiveRow_state k_LiveRow_state).binds (ps := ["self"]) fun _ _ _ _ _ _ us hl => match us, hl with | [_], _ => rfl)⟩
  · exact ⟨_, (PySem.W.mg_of X G a_LiveRow)⟩
  · exact ⟨_, _, (fun Ca hC => by cases (PySem.W.mg_of X G a_LiveRow).symm.trans hC; exact ⟨⟨pg_LiveRow, hd_LiveRow, po_LiveRow, sa_LiveRow⟩, ⟨at_LiveRow_set_state, i_LiveRow_set_state, k_LiveRow_set_state⟩⟩), (fun_mk (st := s_LiveRow_set_state) l_LiveRow_set_state c_LiveRow_set_state k_LiveRow_set_state), ((fun_mk (st := s_LiveRow_set_state) l_LiveRow_set_state c_LiveRow_set_state k_LiveRow_set_state).binds (ps := ["self", "state"]) fun _ _ _ _ _ _ us hl => match us, hl with | [_, _], _ => rfl)⟩
  · exact ⟨_, _, (fun Ca hC => by cases (PySem.W.mg_of X G a_LiveRow).symm.trans hC; exact ⟨⟨pg_LiveRow, hd_LiveRow, po_LiveRow, sa_LiveRow⟩, ⟨at_LiveRow_commit, i_LiveRow_commit, k_LiveRow_commit⟩⟩), (fun_mk (st := s_LiveRow_commit) l_LiveRow_commit c_LiveRow_commit k_LiveRow_commit), ((fun_mk (st := s_LiveRow_commit) l_LiveRow_commit c_LiveRow_commit k_LiveRow_commit).binds (ps := ["self", "operation", "state"]) fun _ _ _ _ _ _ us hl => match us, hl with | [_, _, _], _ => rfl)⟩
  · exact ⟨_, _, (fun Ca hC => by cases (PySem.W.mg_of X G a_LiveRow).symm.trans hC; exact ⟨⟨pg_LiveRow, hd_LiveRow, po_LiveRow, sa_LiveRow⟩, ⟨at_LiveRow_pour, i_LiveRow_pour, k_LiveRow_pour⟩⟩), (fun_mk (st := s_LiveRow_pour) l_LiveRow_pour c_LiveRow_pour k_LiveRow_pour), ((fun_mk (st := s_LiveRow_pour) l_LiveRow_pour c_LiveRow_pour k_LiveRow_pour).binds (ps := ["self", "amount"]) fun _ _ _ _ _ _ us hl => match us, hl with | [_, _], _ => rfl)⟩
  · exact ⟨_, _, PySem.W.mg_of X G a_law_scoop_due, (fun_mk (st := s_law_scoop_due) l_law_scoop_due c_law_scoop_due k_law_scoop_due), ((fun_mk (st := s_law_scoop_due) l_law_scoop_due c_law_scoop_due k_law_scoop_due).binds (ps := ["_law_w", "_law_name", "_law_amount"]) fun _ _ _ _ _ _ us hl => match us, hl with | [_, _, _], _ => rfl)⟩
  · exact ⟨_, _, _, (fun Ca hC => by cases (PySem.W.mg_of X G a_Row).symm.trans hC; exact ⟨⟨pg_Row, hd_Row, po_Row, sa_Row⟩, ⟨at_Row_names, gt_Row_names, tk_Row_names, ⟨_, rc_Row_names⟩⟩⟩), (fun_mk (st := s_Row_names) l_Row_names c_Row_names k_Row_names), ((fun_mk (st := s_Row_names) l_Row_names c_Row_names k_Row_names).binds (ps := ["self"]) fun _ _ _ _ _ _ us hl => match us, hl with | [_], _ => rfl)⟩
  · exact ⟨_, _, PySem.W.mg_of X G a_place_of, (fun_mk (st := s_place_of) l_place_of c_place_of k_place_of), ((fun_mk (st := s_place_of) l_place_of c_place_of k_place_of).binds (ps := ["row", "name"]) fun _ _ _ _ _ _ us hl => match us, hl with | [_, _], _ => rfl)⟩
  · exact ⟨_, _, (fun Ca hC => by cases (PySem.W.mg_of X G a_LiveRow).symm.trans hC; exact ⟨⟨pg_LiveRow, hd_LiveRow, po_LiveRow, sa_LiveRow⟩, ⟨at_LiveRow_scoop, i_LiveRow_scoop, k_LiveRow_scoop⟩⟩), (fun_mk (st := s_LiveRow_scoop) l_LiveRow_scoop c_LiveRow_scoop k_LiveRow_scoop), ((fun_mk (st := s_LiveRow_scoop) l_LiveRow_scoop c_LiveRow_scoop k_LiveRow_scoop).binds (ps := ["self", "name", "amount"]) fun _ _ _ _ _ _ us hl => match us, hl with | [_, _, _], _ => rfl)⟩
  · exact ⟨_, _, PySem.W.mg_of X G a_law_lock_due, (fun_mk (st := s_law_lock_due) l_law_lock_due c_law_lock_due k_law_lock_due), ((fun_mk (st := s_law_lock_due) l_law_lock_due c_law_lock_due k_law_lock_due).binds (ps := ["_law_w", "_law_word", "_law_name"]) fun _ _ _ _ _ _ us hl => match us, hl with | [_, _, _], _ => rfl)⟩
  · exact ⟨_, _, (fun Ca hC => by cases (PySem.W.mg_of X G a_LiveRow).symm.trans hC; exact ⟨⟨pg_LiveRow, hd_LiveRow, po_LiveRow, sa_LiveRow⟩, ⟨at_LiveRow_lock, i_LiveRow_lock, k_LiveRow_lock⟩⟩), (fun_mk (st := s_LiveRow_lock) l_LiveRow_lock c_LiveRow_lock k_LiveRow_lock), ((fun_mk (st := s_LiveRow_lock) l_LiveRow_lock c_LiveRow_lock k_LiveRow_lock).binds (ps := ["self", "name"]) fun _ _ _ _ _ _ us hl => match us, hl with | [_, _], _ => rfl)⟩
  · exact ⟨_, _, (fun Ca hC => by cases (PySem.W.mg_of X G a_LiveRow).symm.trans hC; exact ⟨⟨pg_LiveRow, hd_LiveRow, po_LiveRow, sa_LiveRow⟩, ⟨at_LiveRow_unlock, i_LiveRow_unlock, k_LiveRow_unlock⟩⟩), (fun_mk (st := s_LiveRow_unlock) l_LiveRow_unlock c_LiveRow_unlock k_LiveRow_unlock), ((fun_mk (st := s_LiveRow_unlock) l_LiveRow_unlock c_LiveRow_unlock k_LiveRow_unlock).binds (ps := ["self", "name"]) fun _ _ _ _ _ _ us hl => match us, hl with | [_, _], _ => rfl)⟩
  · exact PySem.W.mg_none_of X G z_dict
  · exact PySem.W.mg_none_of X G z_str
  · exact PySem.W.mg_none_of X G z_bool
  · exact ⟨_, _, PySem.W.mg_of X G a_law_alike, (fun_mk (st := s_law_alike) l_law_alike c_law_alike k_law_alike), ((fun_mk (st := s_law_alike) l_law_alike c_law_alike k_law_alike).binds (ps := ["_law_found", "_law_due"]) fun _ _ _ _ _ _ us hl => match us, hl with | [_, _], _ => rfl)⟩
  · exact ⟨_, _, _, (fun Ca hC => by cases (PySem.W.mg_of X G a_LiveRow).symm.trans hC; exact ⟨⟨pg_LiveRow, hd_LiveRow, po_LiveRow, sa_LiveRow⟩, ⟨at_LiveRow_missed_water, gt_LiveRow_missed_water, tk_LiveRow_missed_water, ⟨_, rc_LiveRow_missed_water⟩⟩⟩), (fun_mk (st := s_LiveRow_missed_water) l_LiveRow_missed_water c_LiveRow_missed_water k_LiveRow_missed_water), ((fun_mk (st := s_LiveRow_missed_water) l_LiveRow_missed_water c_LiveRow_missed_water k_LiveRow_missed_water).binds (ps := ["self"]) fun _ _ _ _ _ _ us hl => match us, hl with | [_], _ => rfl)⟩
  · exact ⟨_, _, _, (fun Ca hC => by cases (PySem.W.mg_of X G a_LiveRow).symm.trans hC; exact ⟨⟨pg_LiveRow, hd_LiveRow, po_LiveRow, sa_LiveRow⟩, ⟨at_LiveRow_lost_water, gt_LiveRow_lost_water, tk_LiveRow_lost_water, ⟨_, rc_LiveRow_lost_water⟩⟩⟩), (fun_mk (st := s_LiveRow_lost_water) l_LiveRow_lost_water c_LiveRow_lost_water k_LiveRow_lost_water), ((fun_mk (st := s_LiveRow_lost_water) l_LiveRow_lost_water c_LiveRow_lost_water k_LiveRow_lost_water).binds (ps := ["self"]) fun _ _ _ _ _ _ us hl => match us, hl with | [_], _ => rfl)⟩
  · exact ⟨_, _, _, (fun Ca hC => by cases (PySem.W.mg_of X G a_LiveRow).symm.trans hC; exact ⟨⟨pg_LiveRow, hd_LiveRow, po_LiveRow, sa_LiveRow⟩, ⟨at_LiveRow_levels, gt_LiveRow_levels, tk_LiveRow_levels, ⟨_, rc_LiveRow_levels⟩⟩⟩), (fun_mk (st := s_LiveRow_levels) l_LiveRow_levels c_LiveRow_levels k_LiveRow_levels), ((fun_mk (st := s_LiveRow_levels) l_LiveRow_levels c_LiveRow_levels k_LiveRow_levels).binds (ps := ["self"]) fun _ _ _ _ _ _ us hl => match us, hl with | [_], _ => rfl)⟩
  · exact ⟨_, _, _, (fun Ca hC => by cases (PySem.W.mg_of X G a_LiveRow).symm.trans hC; exact ⟨⟨pg_LiveRow, hd_LiveRow, po_LiveRow, sa_LiveRow⟩, ⟨at_LiveRow_now, gt_LiveRow_now, tk_LiveRow_now, ⟨_, rc_LiveRow_now⟩⟩⟩), (fun_mk (st := s_LiveRow_now) l_LiveRow_now c_LiveRow_now k_LiveRow_now), ((fun_mk (st := s_LiveRow_now) l_LiveRow_now c_LiveRow_now k_LiveRow_now).binds (ps := ["self"]) fun _ _ _ _ _ _ us hl => match us, hl with | [_], _ => rfl)⟩
  · exact ⟨_, _, _, (fun Ca hC => by cases (PySem.W.mg_of X G a_LiveRow).symm.trans hC; exact ⟨⟨pg_LiveRow, hd_LiveRow, po_LiveRow, sa_LiveRow⟩, ⟨at_LiveRow_history, gt_LiveRow_history, tk_LiveRow_history, ⟨_, rc_LiveRow_history⟩⟩⟩), (fun_mk (st := s_LiveRow_history) l_LiveRow_history c_LiveRow_history k_LiveRow_history), ((fun_mk (st := s_LiveRow_history) l_LiveRow_history c_LiveRow_history k_LiveRow_history).binds (ps := ["self"]) fun _ _ _ _ _ _ us hl => match us, hl with | [_], _ => rfl)⟩
  · exact ⟨_, _, _, (fun Ca hC => by cases (PySem.W.mg_of X G a_LiveRow).symm.trans hC; exact ⟨⟨pg_LiveRow, hd_LiveRow, po_LiveRow, sa_LiveRow⟩, ⟨at_LiveRow_locked_names, gt_LiveRow_locked_names, tk_LiveRow_locked_names, ⟨_, rc_LiveRow_locked_names⟩⟩⟩), (fun_mk (st := s_LiveRow_locked_names) l_LiveRow_locked_names c_LiveRow_locked_names k_LiveRow_locked_names), ((fun_mk (st := s_LiveRow_locked_names) l_LiveRow_locked_names c_LiveRow_locked_names k_LiveRow_locked_names).binds (ps := ["self"]) fun _ _ _ _ _ _ us hl => match us, hl with | [_], _ => rfl)⟩
  · exact ⟨_, _, PySem.W.mg_of X G a_law_told, (fun_mk (st := s_law_told) l_law_told c_law_told k_law_told), ((fun_mk (st := s_law_told) l_law_told c_law_told k_law_told).binds (ps := ["_law_live"]) fun _ _ _ _ _ _ us hl => match us, hl with | [_], _ => rfl)⟩
  · exact ⟨_, _, _, _, (PySem.W.mg_of X G a_InvalidRow), ⟨(PySem.W.mg_of X G a_RowError), rd_RowError, ga_RowError, iv_RowError⟩, ⟨⟨_, _, _, _, _, _, _, _, _, _, _, _, _, _, _, xL_x_InvalidRow, rV_x_InvalidRow⟩, sa_InvalidRow, bx_InvalidRow, tx_InvalidRow, kc_InvalidRow⟩, ii_InvalidRow, ti_InvalidRow, no_InvalidRow_part, no_InvalidRow_index, (fun_mk (st := s_x_InvalidRow) l_x_InvalidRow c_x_InvalidRow k_x_InvalidRow)⟩
  · exact ⟨_, _, _, _, (PySem.W.mg_of X G a_UnknownBarrel), ⟨(PySem.W.mg_of X G a_RowError), rd_RowError, ga_RowError, iv_RowError⟩, ⟨⟨_, _, _, _, _, _, _, _, _, _, _, _, _, _, _, xL_x_UnknownBarrel, rV_x_UnknownBarrel⟩, sa_UnknownBarrel, bx_UnknownBarrel, tx_UnknownBarrel, kc_UnknownBarrel⟩, ii_UnknownBarrel, ti_UnknownBarrel, no_UnknownBarrel_name, (fun_mk (st := s_x_UnknownBarrel) l_x_UnknownBarrel c_x_UnknownBarrel k_x_UnknownBarrel)⟩

theorem end_at {l : PySem.W.OpenLaw} {w : World} {K : PySem.W.Frag} {mg : Str → Option Value} {h : Heap} {fa f c P : Addr} {kV doc pm ct oc : Value} {an od : Option Addr} {osl : Array (Option Value)} {e : Value} {dd : Option Addr} {vs : Array Value} {sl : Array (Option Value)}
    (X : K.In h) (G : h.Ns mainGlobals mg) (own : LamX.OwnTab K fa h) (hfa : mg "law" = some (.ref fa)) (fx : ∀ base : Heap, Fx ⟨l.prog, w, K, mg, base⟩)
    (plain : ∀ (ns : List Int) (cell : Cell), IsScript ns cell → ns.length ≤ 63 → (∀ z ∈ ns, Builtin.Int.intBits z ≤ 1048576) → ∃ st', defM 1 17 m_law [.ref 0] [cell] = .ok (.bl true) st')
    (a_law : PySem.W.nsIn K mainGlobals "law" = some (some (.ref f))) (z1 : PySem.W.nsIn K mainGlobals "_law_refused" = some none) (z2 : PySem.W.nsIn K mainGlobals "_law_changed" = some none)
    (lk : K.lookup f = some ⟨oc, od, .func (PySem.W.fnOf "law" "law" (defArgs s_law) (defBody s_law) (defScope s_law) .none kV doc pm an (.ref c) ct), osl⟩) (hcd : PySem.W.codeIn K (.ref c) "law" = true)
    (lc : K.lookup c = some ⟨e, dd, .fields vs, sl⟩) (h11 : vs[11]? = some (.ref P)) (nP : K.lookup P = none) (hh : codeHdB e vs c P = true) :
    LamX.LawAtS l w K (L2.CX l.prog w) 8 63 "_law_script" mg fa h := by
  cases hfa.symm.trans (PySem.W.mg_of X G a_law)
  exact law_at X own hfa (PySem.W.mg_none_of X G z1) (PySem.W.mg_none_of X G z2) lk hcd lc h11 nP (codeHd_by lc hh) sc_law rfl (fun s u => .of_eq rfl) (fun base hK hNs TB hmT huT A outer s H E hr => j_law (fx base) TB hmT huT hr) plain

end K43

set_option Elab.async false
set_option linter.all false
set_option maxRecDepth 100000
set_option maxHeartbeats 2000000
namespace K43
open PySem PySem.Spec PyProof.Rows L2
open Ab (Val Cell Store Slots R O ME MT MA MS MF MG MGs MI MO Chk Wish Exc seqAt Keep Draws New Wr)
open Vc (WpR WpO WpG)
/-! steppers: sizeOf_list_dec closes side conditions; array_get_dec looks a cell up; array_mem_dec is one step of a wish -/
local macro_rules | `(tactic| sizeOf_list_dec) => `(tactic| (simp only [List.length_append, List.length_map, List.length_cons, List.length_nil, List.length_set, List.length_range] at *; omega))
local macro_rules | `(tactic| sizeOf_list_dec) => `(tactic| decide)
local macro_rules | `(tactic| sizeOf_list_dec) => `(tactic| ((with_reducible apply Vc.ne_new'); assumption; array_get_dec))
local macro_rules | `(tactic| sizeOf_list_dec) => `(tactic| ((with_reducible apply Vc.ne_new); assumption; array_get_dec))
local macro_rules | `(tactic| sizeOf_list_dec) => `(tactic| (with_reducible exact Ne.symm (by assumption)))
local macro_rules | `(tactic| sizeOf_list_dec) => `(tactic| omega)
local macro_rules | `(tactic| sizeOf_list_dec) => `(tactic| ((refine Nat.le_trans ?_ (by assumption : Nat.le (List.length (α := Ab.Cell) _) _)); sizeOf_list_dec))
local macro_rules | `(tactic| sizeOf_list_dec) => `(tactic| ((with_reducible refine Vc.k_len (by assumption) ?_); sizeOf_list_dec))
local macro_rules | `(tactic| sizeOf_list_dec) => `(tactic| with_reducible exact Nat.le_refl _)
local macro_rules | `(tactic| sizeOf_list_dec) => `(tactic| ((with_reducible refine Vc.nin_cons ?_ ?_); sizeOf_list_dec; sizeOf_list_dec))
local macro_rules | `(tactic| sizeOf_list_dec) => `(tactic| with_reducible exact List.not_mem_nil)
local macro_rules | `(tactic| sizeOf_list_dec) => `(tactic| ((with_reducible refine Vc.hs_cons ?_ ?_); ((first | exact Or.inl (List.Mem.head _) | exact Or.inl (List.Mem.tail _ (List.Mem.head _)) | exact Or.inl (List.Mem.tail _ (List.Mem.tail _ (List.Mem.head _))) | exact Or.inl (List.Mem.tail _ (List.Mem.tail _ (List.Mem.tail _ (List.Mem.head _)))) | exact Or.inl (List.Mem.tail _ (List.Mem.tail _ (List.Mem.tail _ (List.Mem.tail _ (List.Mem.head _))))) | exact Or.inl (List.Mem.tail _ (List.Mem.tail _ (List.Mem.tail _ (List.Mem.tail _ (List.Mem.tail _ (List.Mem.head _)))))) | exact Or.inl (List.Mem.tail _ (List.Mem.tail _ (List.Mem.tail _ (List.Mem.tail _ (List.Mem.tail _ (List.Mem.tail _ (List.Mem.head _))))))) | (apply Or.inr; sizeOf_list_dec))); sizeOf_list_dec))
local macro_rules | `(tactic| sizeOf_list_dec) => `(tactic| with_reducible exact Vc.hs_nil)
local macro_rules | `(tactic| sizeOf_list_dec) => `(tactic| ((with_reducible refine Vc.k_seq ?_ (by assumption) ?_); sizeOf_list_dec; sizeOf_list_dec))
local macro_rules | `(tactic| sizeOf_list_dec) => `(tactic| with_reducible exact Ab.Keep.refl)
local macro_rules | `(tactic| sizeOf_list_dec) => `(tactic| assumption)
local macro_rules | `(tactic| array_get_dec) => `(tactic| ((with_reducible apply Vc.get_push); array_get_dec))
local macro_rules | `(tactic| array_get_dec) => `(tactic| with_reducible exact Vc.get_last)
local macro_rules | `(tactic| array_get_dec) => `(tactic| (refine Ab.Keep.get (by assumption) (by first | array_get_dec | fail) ?_; sizeOf_list_dec))
local macro_rules | `(tactic| array_get_dec) => `(tactic| assumption)
local macro_rules | `(tactic| array_mem_dec) => `(tactic| ((first | (with_reducible show Vc.WpO _ _) | (with_reducible show Vc.WpR _ _ _) | (with_reducible show Ab.NF _ _ _ _)); simp only [List.set_cons_succ, List.set_cons_zero, Ab.wipeM, List.map_cons, List.map_nil, List.cons_append, List.nil_append, List.replicate, -eq_self]))
local macro_rules | `(tactic| array_mem_dec) => `(tactic| with_reducible apply Vc.b_ok)
local macro_rules | `(tactic| array_mem_dec) => `(tactic| with_reducible apply Vc.and_wp)
local macro_rules | `(tactic| array_mem_dec) => `(tactic| ((with_reducible apply Vc.wr_by); intro _ _ _))
local macro_rules | `(tactic| array_mem_dec) => `(tactic| ((with_reducible apply Vc.new_by); intro _ _ _ _ _))
local macro_rules | `(tactic| array_mem_dec) => `(tactic| ((with_reducible apply And.intro); ((with_reducible apply Vc.ty_lst); array_get_dec)))
local macro_rules | `(tactic| array_mem_dec) => `(tactic| with_reducible apply Vc.ite_nrfl)
local macro_rules | `(tactic| array_mem_dec) => `(tactic| with_reducible apply Vc.ite_rfl)
local macro_rules | `(tactic| array_mem_dec) => `(tactic| with_reducible apply Vc.ite_nf)
local macro_rules | `(tactic| array_mem_dec) => `(tactic| with_reducible apply Vc.ite_nt)
local macro_rules | `(tactic| array_mem_dec) => `(tactic| with_reducible apply Vc.ite_f)
local macro_rules | `(tactic| array_mem_dec) => `(tactic| with_reducible apply Vc.ite_t)
local macro_rules | `(tactic| array_mem_dec) => `(tactic| with_reducible apply Vc.chk_bl)
local macro_rules | `(tactic| array_mem_dec) => `(tactic| with_reducible apply Vc.v_pow18)
local macro_rules | `(tactic| array_mem_dec) => `(tactic| with_reducible apply Vc.v_pow9)
local macro_rules | `(tactic| array_mem_dec) => `(tactic| with_reducible apply Vc.v_pow6)
local macro_rules | `(tactic| array_mem_dec) => `(tactic| with_reducible apply Vc.v_ge)
local macro_rules | `(tactic| array_mem_dec) => `(tactic| with_reducible apply Vc.v_gt)
local macro_rules | `(tactic| array_mem_dec) => `(tactic| with_reducible apply Vc.v_lt)
local macro_rules | `(tactic| array_mem_dec) => `(tactic| ((with_reducible apply Vc.ex_int); sizeOf_list_dec))
local macro_rules | `(tactic| array_mem_dec) => `(tactic| ((with_reducible apply Vc.one_ins); array_get_dec))
local macro_rules | `(tactic| array_mem_dec) => `(tactic| ((with_reducible apply Vc.two_ins); array_get_dec; array_get_dec))
local macro_rules | `(tactic| array_mem_dec) => `(tactic| ((with_reducible apply Vc.v_div); sizeOf_list_dec))
local macro_rules | `(tactic| array_mem_dec) => `(tactic| ((with_reducible apply Vc.v_mod); sizeOf_list_dec))
local macro_rules | `(tactic| array_mem_dec) => `(tactic| ((with_reducible apply Vc.v_mul); sizeOf_list_dec))
local macro_rules | `(tactic| array_mem_dec) => `(tactic| ((with_reducible apply Vc.v_app); array_get_dec; sizeOf_list_dec))
local macro_rules | `(tactic| array_mem_dec) => `(tactic| ((with_reducible apply Vc.v_addT); sizeOf_list_dec))
local macro_rules | `(tactic| array_mem_dec) => `(tactic| ((with_reducible apply Vc.v_addL); array_get_dec; array_get_dec; sizeOf_list_dec))
local macro_rules | `(tactic| array_mem_dec) => `(tactic| ((with_reducible apply Vc.v_lstL); array_get_dec))
local macro_rules | `(tactic| array_mem_dec) => `(tactic| ((with_reducible apply Vc.v_tupL); array_get_dec))
local macro_rules | `(tactic| array_mem_dec) => `(tactic| ((with_reducible apply Vc.v_lenL); array_get_dec))
local macro_rules | `(tactic| array_mem_dec) => `(tactic| ((with_reducible apply Vc.v_dget); array_get_dec; exact rfl))
local macro_rules | `(tactic| array_mem_dec) => `(tactic| ((with_reducible apply Vc.v_ixT); exact rfl))
local macro_rules | `(tactic| array_mem_dec) => `(tactic| ((with_reducible apply Vc.v_ixL); array_get_dec; exact rfl))
local macro_rules | `(tactic| array_mem_dec) => `(tactic| ((with_reducible apply Vc.v_fld'); array_get_dec; exact rfl; exact rfl))
local macro_rules | `(tactic| array_mem_dec) => `(tactic| ((with_reducible apply Vc.ex_subD); array_get_dec; exact rfl))
local macro_rules | `(tactic| array_mem_dec) => `(tactic| ((with_reducible apply Vc.chk_lst); array_get_dec; exact rfl))
local macro_rules | `(tactic| array_mem_dec) => `(tactic| ((with_reducible apply Vc.ex_fld); array_get_dec; exact rfl; exact rfl))
local macro_rules | `(tactic| array_mem_dec) => `(tactic| ((with_reducible apply Vc.ex_meth); ((with_reducible apply Vc.cls_at); array_get_dec); exact rfl))
local macro_rules | `(tactic| array_mem_dec) => `(tactic| ((with_reducible apply Vc.isb_f); exact rfl))
local macro_rules | `(tactic| array_mem_dec) => `(tactic| ((with_reducible apply Vc.isb_t); exact rfl))
local macro_rules | `(tactic| array_mem_dec) => `(tactic| ((with_reducible apply Vc.ex_isi); exact rfl))
local macro_rules | `(tactic| array_mem_dec) => `(tactic| ((with_reducible apply Vc.ex_isiL); array_get_dec))
local macro_rules | `(tactic| array_mem_dec) => `(tactic| ((with_reducible apply Vc.ex_items); array_get_dec))
local macro_rules | `(tactic| array_mem_dec) => `(tactic| ((with_reducible apply Vc.ex_starL); array_get_dec))
local macro_rules | `(tactic| array_mem_dec) => `(tactic| ((with_reducible apply Vc.ex_seqL); array_get_dec))
local macro_rules | `(tactic| array_mem_dec) => `(tactic| with_reducible apply Vc.ex_starT)
local macro_rules | `(tactic| array_mem_dec) => `(tactic| with_reducible apply Vc.ex_zipT)
local macro_rules | `(tactic| array_mem_dec) => `(tactic| with_reducible apply Vc.ex_enumT)
local macro_rules | `(tactic| array_mem_dec) => `(tactic| with_reducible apply Vc.ex_seqT)
local macro_rules | `(tactic| array_mem_dec) => `(tactic| with_reducible apply Vc.ex_key)
local macro_rules | `(tactic| array_mem_dec) => `(tactic| with_reducible apply Vc.ex_chain)
local macro_rules | `(tactic| array_mem_dec) => `(tactic| with_reducible apply Vc.ex_par)
local macro_rules | `(tactic| array_mem_dec) => `(tactic| ((with_reducible apply Vc.len_and); exact rfl))
local macro_rules | `(tactic| array_mem_dec) => `(tactic| with_reducible apply Vc.i_range2)
local macro_rules | `(tactic| array_mem_dec) => `(tactic| with_reducible apply Vc.i_range1)
local macro_rules | `(tactic| array_mem_dec) => `(tactic| with_reducible apply Vc.i_str)
local macro_rules | `(tactic| array_mem_dec) => `(tactic| with_reducible apply Vc.i_zip)
local macro_rules | `(tactic| array_mem_dec) => `(tactic| with_reducible apply Vc.i_enum)
local macro_rules | `(tactic| array_mem_dec) => `(tactic| with_reducible apply Vc.i_seq)
local macro_rules | `(tactic| array_mem_dec) => `(tactic| with_reducible apply Vc.g_subD)
local macro_rules | `(tactic| array_mem_dec) => `(tactic| with_reducible apply Vc.g_subL)
local macro_rules | `(tactic| array_mem_dec) => `(tactic| with_reducible apply Vc.g_fld)
local macro_rules | `(tactic| array_mem_dec) => `(tactic| ((with_reducible apply Vc.g_tup); exact rfl))
local macro_rules | `(tactic| array_mem_dec) => `(tactic| with_reducible apply Vc.g_nil)
local macro_rules | `(tactic| array_mem_dec) => `(tactic| with_reducible apply Vc.g_cons)
local macro_rules | `(tactic| array_mem_dec) => `(tactic| with_reducible apply Vc.g_set)
local macro_rules | `(tactic| array_mem_dec) => `(tactic| with_reducible apply Vc.b_yes)
local macro_rules | `(tactic| array_mem_dec) => `(tactic| with_reducible apply Vc.b_dc)
local macro_rules | `(tactic| array_mem_dec) => `(tactic| with_reducible apply Vc.b_lc)
local macro_rules | `(tactic| array_mem_dec) => `(tactic| with_reducible apply Vc.b_for)
local macro_rules | `(tactic| array_mem_dec) => `(tactic| with_reducible apply Vc.b_raise0)
local macro_rules | `(tactic| array_mem_dec) => `(tactic| with_reducible apply Vc.b_raise)
local macro_rules | `(tactic| array_mem_dec) => `(tactic| with_reducible apply Vc.b_fldaug)
local macro_rules | `(tactic| array_mem_dec) => `(tactic| with_reducible apply Vc.b_fldm)
local macro_rules | `(tactic| array_mem_dec) => `(tactic| with_reducible apply Vc.b_par)
local macro_rules | `(tactic| array_mem_dec) => `(tactic| with_reducible apply Vc.b_asg)
local macro_rules | `(tactic| array_mem_dec) => `(tactic| with_reducible apply Vc.b_cont)
local macro_rules | `(tactic| array_mem_dec) => `(tactic| with_reducible apply Vc.b_break)
local macro_rules | `(tactic| array_mem_dec) => `(tactic| ((with_reducible apply Vc.b_aug); exact rfl))
local macro_rules | `(tactic| array_mem_dec) => `(tactic| with_reducible apply Vc.b_outcome)
local macro_rules | `(tactic| array_mem_dec) => `(tactic| with_reducible apply Vc.b_len)
local macro_rules | `(tactic| array_mem_dec) => `(tactic| with_reducible apply Vc.b_op)
local macro_rules | `(tactic| array_mem_dec) => `(tactic| with_reducible apply Vc.b_star)
local macro_rules | `(tactic| array_mem_dec) => `(tactic| with_reducible apply Vc.b_isi)
local macro_rules | `(tactic| array_mem_dec) => `(tactic| with_reducible apply Vc.b_items)
local macro_rules | `(tactic| array_mem_dec) => `(tactic| with_reducible apply Vc.b_pnil)
local macro_rules | `(tactic| array_mem_dec) => `(tactic| with_reducible apply Vc.b_pcons)
local macro_rules | `(tactic| array_mem_dec) => `(tactic| with_reducible apply Vc.b_disp)
local macro_rules | `(tactic| array_mem_dec) => `(tactic| with_reducible apply Vc.b_neg)
local macro_rules | `(tactic| array_mem_dec) => `(tactic| with_reducible apply Vc.b_oSome)
local macro_rules | `(tactic| array_mem_dec) => `(tactic| with_reducible apply Vc.b_oNone)
local macro_rules | `(tactic| array_mem_dec) => `(tactic| with_reducible apply Vc.b_cut)
local macro_rules | `(tactic| array_mem_dec) => `(tactic| with_reducible apply Vc.b_dget)
local macro_rules | `(tactic| array_mem_dec) => `(tactic| with_reducible apply Vc.b_make)
local macro_rules | `(tactic| array_mem_dec) => `(tactic| with_reducible apply Vc.b_prop)
local macro_rules | `(tactic| array_mem_dec) => `(tactic| with_reducible apply Vc.b_meth)
local macro_rules | `(tactic| array_mem_dec) => `(tactic| with_reducible apply Vc.b_BM)
local macro_rules | `(tactic| array_mem_dec) => `(tactic| with_reducible apply Vc.b_fld)
local macro_rules | `(tactic| array_mem_dec) => `(tactic| with_reducible apply Vc.b_mnot)
local macro_rules | `(tactic| array_mem_dec) => `(tactic| with_reducible apply Vc.b_or)
local macro_rules | `(tactic| array_mem_dec) => `(tactic| with_reducible apply Vc.b_and)
local macro_rules | `(tactic| array_mem_dec) => `(tactic| with_reducible apply Vc.b_if)
local macro_rules | `(tactic| array_mem_dec) => `(tactic| with_reducible apply Vc.b_chainI)
local macro_rules | `(tactic| array_mem_dec) => `(tactic| with_reducible apply Vc.b_lst)
local macro_rules | `(tactic| array_mem_dec) => `(tactic| with_reducible apply Vc.b_tup)
local macro_rules | `(tactic| array_mem_dec) => `(tactic| with_reducible apply Vc.b_app)
local macro_rules | `(tactic| array_mem_dec) => `(tactic| with_reducible apply Vc.b_tor)
local macro_rules | `(tactic| array_mem_dec) => `(tactic| with_reducible apply Vc.b_tand)
local macro_rules | `(tactic| array_mem_dec) => `(tactic| with_reducible apply Vc.b_not)
local macro_rules | `(tactic| array_mem_dec) => `(tactic| with_reducible apply Vc.b_test)
local macro_rules | `(tactic| array_mem_dec) => `(tactic| with_reducible apply Vc.b_next)
local macro_rules | `(tactic| array_mem_dec) => `(tactic| with_reducible apply Vc.b_sif)
local macro_rules | `(tactic| array_mem_dec) => `(tactic| with_reducible apply Vc.b_drop)
local macro_rules | `(tactic| array_mem_dec) => `(tactic| with_reducible apply Vc.b_ret)
local macro_rules | `(tactic| array_mem_dec) => `(tactic| with_reducible apply Vc.b_set)
local macro_rules | `(tactic| array_mem_dec) => `(tactic| with_reducible apply Vc.b_seq)
local macro_rules | `(tactic| array_mem_dec) => `(tactic| with_reducible apply Vc.b_aNil)
local macro_rules | `(tactic| array_mem_dec) => `(tactic| with_reducible apply Vc.b_aCons)
local macro_rules | `(tactic| array_mem_dec) => `(tactic| with_reducible apply Vc.b_bin)
local macro_rules | `(tactic| array_mem_dec) => `(tactic| with_reducible apply Vc.b_C)
local macro_rules | `(tactic| array_mem_dec) => `(tactic| ((with_reducible apply Vc.b_var); exact rfl))
local macro_rules | `(tactic| array_mem_dec) => `(tactic| with_reducible apply Vc.nf0)
local macro_rules | `(tactic| array_mem_dec) => `(tactic| with_reducible apply Vc.nf1)
local macro_rules | `(tactic| array_mem_dec) => `(tactic| with_reducible apply Vc.nf4)
theorem next_spec {h c : Nat} {st : Store} {lim : Int} (d : Draws h c st) (h0 : 0 < lim) (h1 : lim < 2 ^ 64) :
    WpR (f_law_next [.ref h, .int lim] st) (fun v st' => (∃ r : Int, v = .int r ∧ 0 ≤ r ∧ r < lim) ∧ Draws h c st' ∧ Keep [h, c] st st') (fun _ _ => False) := Vc.of_ab (Ab.next_spec d h0 h1)
theorem mix_spec {n : Nat} {st : Store} {ns : List Int} {seed : Int} (hs : seqAt st n = some (ns.map .int)) (hl : ns.length ≤ 63) (h0 : 0 ≤ seed) (h1 : seed < 2147483647) :
    WpR (f_law_mix [.ref n, .int seed] st) (fun v st' => ∃ h c, v = .ref h ∧ Draws h c st' ∧ Keep [] st st') (fun _ _ => False) := Vc.of_ab (Ab.mix_spec hs hl h0 h1)
theorem Row_len_spec {i : Nat} {w : Val} {xs : List Val} {st : Store} (h : st[i]? = some (.ins 13 [(29, w), (30, .tup xs)])) : WpR (f_Row_len [.ref i] st) (fun v s => v = .int xs.length ∧ s = st) (fun _ _ => False) := by
  refine Vc.b_def rfl ?_
  unfold m_Row_len
  repeat' (first | array_mem_dec | fail)
  exact ⟨rfl, rfl⟩
theorem val_spec {a b c : Int} {st : Store} : WpR (f_validate_number [.int a, .int b, .int c] st) (fun v s => v = .non ∧ s = st ∧ b ≤ a ∧ a ≤ c) (fun x s => x = ⟨4, []⟩ ∧ s = st ∧ ¬(b ≤ a ∧ a ≤ c)) := by
  refine Vc.b_def rfl ?_
  unfold m_validate_number
  repeat' (first | array_mem_dec | fail)
  refine Vc.ite_nd (fun h => ?_) (fun h => ?_)
  · repeat' (first | array_mem_dec | fail)
    exact ⟨rfl, rfl, h⟩
  · repeat' (first | array_mem_dec | fail)
    exact ⟨rfl, rfl, h⟩
theorem Row_barrels_spec {i : Nat} {w v : Val} {st : Store} (h : st[i]? = some (.ins 13 [(29, w), (30, v)])) : WpR (f_Row_barrels [.ref i] st) (fun x s => x = v ∧ s = st) (fun _ _ => False) := by
  refine Vc.b_def rfl ?_
  unfold m_Row_barrels
  repeat' (first | array_mem_dec | fail)
  exact ⟨rfl, rfl⟩
/-- the fields of a live row -/
def LF (rw : Nat) (water : List Int) (now : Int) (lost missed : Int) (shut : List Str) (past fut : Nat) : List (Nat × Val) := [(51, .ref rw), (52, .tup (water.map .int)), (53, .int now), (54, .tup [.int lost, .int missed]), (55, .tup (shut.map .str)), (56, .ref past), (57, .ref fut)]
theorem rep_zero (n : Nat) : Ab.repW' n [Val.int 0] = (List.replicate n (0 : Int)).map .int := by
  unfold Ab.repW'
  induction n with
  | zero => rfl
  | succ n ih => rw [List.replicate_succ, List.flatten_cons, ih, List.replicate_succ]; rfl
theorem LiveRow_init_spec {i l : Nat} {w : Val} {xs : List Val} {st : Store} (h : st[i]? = some (.ins 13 [(29, w), (30, .tup xs)])) (h0 : 0 < xs.length) (h1 : xs.length ≤ 1000) (hl : st[l]? = some (.ins 20 [])) (hne : i ≠ l) :
    WpR (f_LiveRow_init [.ref l, .ref i] st) (fun v s => v = .non ∧ ∃ p f, s[l]? = some (.ins 20 (LF i (List.replicate xs.length 0) 0 0 0 [] p f)) ∧ s[p]? = some (.lst []) ∧ s[f]? = some (.lst []) ∧ st.length ≤ p ∧ st.length ≤ f ∧ f ≠ p ∧ Keep [l] st s) (fun _ _ => False) := by
  refine Vc.b_def rfl ?_
  unfold m_LiveRow_init
  repeat' (first | array_mem_dec | fail)
  refine Vc.via0 (Row_len_spec (by (first | array_get_dec | fail))) fun v s hv => ?_
  obtain ⟨rfl, rfl⟩ := hv
  repeat' (first | array_mem_dec | fail)
  refine Vc.v_repT ⟨by simp, by omega, by omega, by simp⟩ ?_
  rw [rep_zero, Int.toNat_natCast]
  repeat' (first | array_mem_dec | fail)
  refine ⟨rfl, _, _, by assumption, ?_⟩
  ((repeat' (with_reducible apply And.intro)) <;> first | exact rfl | (first | array_get_dec | fail) | (first | sizeOf_list_dec | fail))
/-- a barrel -/
structure Bar where
  nm : Str
  cap : Int
  roof : Int
  dr : List Int
def Bar.val (b : Bar) : Val := .tup [.str b.nm, .int b.cap, .int b.roof, .tup (b.dr.map .int)]
def Bar.dat (b : Bar) : PyData := .tuple [.str b.nm, .int b.cap, .int b.roof, .tuple (b.dr.map .int)]
theorem Bar.val_eq (b : Bar) : b.val = .tup [.str b.nm, .int b.cap, .int b.roof, .tup (b.dr.map .int)] := rfl
def nameOk (z : Str) : Prop := 1 ≤ z.length ∧ z.length ≤ 8 ∧ ∀ c ∈ z.cps.toList, c ∈ ("abcdefghijklmnopqrstuvwxyz" : Str).cps.toList
structure Bar.Ok (b : Bar) (t : Nat) : Prop where
  nm : nameOk b.nm
  lay : PyData.canLay0 (.str b.nm) = true
  c0 : 0 ≤ b.cap
  c1 : b.cap ≤ 1000000000
  r0 : 0 ≤ b.roof
  r1 : b.roof ≤ 100
  dl : b.dr.length = t
  d01 : ∀ d ∈ b.dr, 0 ≤ d ∧ d ≤ 1000000000
theorem Bar.deep {b : Bar} {t : Nat} (h : b.Ok t) {st : Store} {n : Nat} : Ab.deep st (n + 3) b.val = some b.dat := by
  have e : ∀ i : Int, Ab.deep st (n + 2) (.int i) = some (.int i) := fun i => by rw [Ab.deep]
  have s : Ab.deep st (n + 2) (.str b.nm) = some (.str b.nm) := by rw [Ab.deep, if_pos h.lay]
  unfold Bar.val Bar.dat
  rw [Ab.deep, Ab.mapO, s, Ab.mapO, e, Ab.mapO, e, Ab.mapO, Vc.deep_ints]
  rfl
theorem is_name_spec {z : Str} {st : Store} (h : nameOk z) : WpR (f_is_name [.str z] st) (fun v s => v = .bl true ∧ Keep [] st s) (fun _ _ => False) := by
  obtain ⟨h1, h2, h3⟩ := h
  refine Vc.b_def rfl ?_
  unfold m_is_name
  repeat' (first | array_mem_dec | fail)
  refine Vc.b_ifok (by rw [sizeLine_eq]; omega) ?_
  repeat' (first | array_mem_dec | fail)
  rw [decide_eq_true (by omega)]
  repeat' (first | array_mem_dec | fail)
  refine ⟨z, rfl, ?_⟩
  repeat' (first | array_mem_dec | fail)
  refine Vc.lc_map (fun c => .bl true) (fun _ => trivial) (by rw [Array.length_toList]; show z.length ≤ _; omega) (fun c hc acc => ?_) ?_
  · repeat' (first | array_mem_dec | fail)
    refine ⟨?_, rfl⟩
    rw [decide_eq_true (h3 c hc)]
  repeat' (first | array_mem_dec | fail)
  refine Vc.v_allL (bs := z.cps.toList.map fun _ => true) (by rw [List.map_map]; (first | array_get_dec | fail)) ?_
  refine ⟨?_, by (first | sizeOf_list_dec | fail)⟩
  simp
theorem is_barrel_spec {b : Bar} {t : Nat} {st : Store} (h : b.Ok t) (ht : t ≤ 100000) : WpR (f_is_barrel [b.val, .int t] st) (fun v s => v = .bl true ∧ Keep [] st s) (fun _ _ => False) := by
  refine Vc.b_def rfl ?_
  unfold m_is_barrel Bar.val
  repeat' (first | array_mem_dec | fail)
  refine Vc.via0 (is_name_spec h.nm) fun v s hv => ?_
  obtain ⟨rfl, k1⟩ := hv
  repeat' (first | array_mem_dec | fail)
  try simp only [Bool.not_true, Bool.not_false, -eq_self]
  repeat' (first | array_mem_dec | fail)
  have := h.c0; have := h.c1; have := h.r0; have := h.r1
  rw [decide_eq_true (by omega)]
  try simp only [Bool.not_true, Bool.not_false, -eq_self]
  repeat' (first | array_mem_dec | fail)
  rw [decide_eq_true (by omega)]
  try simp only [Bool.not_true, Bool.not_false, -eq_self]
  repeat' (first | array_mem_dec | fail)
  rw [List.length_map, decide_eq_true (by have := h.dl; omega)]
  repeat' (first | array_mem_dec | fail)
  refine Vc.lc_map (fun c => .bl true) (fun _ => trivial) (by have := h.dl; omega) (fun c hc acc => ?_) ?_
  · repeat' (first | array_mem_dec | fail)
    refine ⟨?_, rfl⟩
    rw [decide_eq_true (h.d01 c hc)]
  repeat' (first | array_mem_dec | fail)
  refine Vc.v_allL (bs := b.dr.map fun _ => true) (by rw [List.map_map]; (first | array_get_dec | fail)) ?_
  refine ⟨?_, by (first | sizeOf_list_dec | fail)⟩
  simp
/-- the fields of a row -/
def RF (rain : List Int) (bars : List Bar) : List (Nat × Val) := [(29, .tup (rain.map .int)), (30, .tup (bars.map Bar.val))]
structure RowOk (rain : List Int) (bars : List Bar) : Prop where
  n0 : 0 < rain.length
  n1 : rain.length ≤ 12
  r01 : ∀ r ∈ rain, 0 ≤ r ∧ r ≤ 1000000
  b0 : 0 < bars.length
  b1 : bars.length ≤ 5
  ok : ∀ b ∈ bars, b.Ok rain.length
  nd : (bars.map Bar.nm).Nodup
theorem take_not_mem {α β : Type} {f : α → β} {xs : List α} {i : Nat} {x : α} (h : (xs.map f).Nodup) (e : xs[i]? = some x) : f x ∉ (xs.take i).map f := fun z => by
  obtain ⟨y, hy, e'⟩ := List.mem_map.mp z
  obtain ⟨j, hj, e2⟩ := List.mem_iff_getElem.mp hy
  rw [List.getElem_take] at e2
  have hj' : j < i ∧ j < xs.length := by simp at hj; omega
  obtain ⟨hi, e3⟩ := List.getElem?_eq_some_iff.mp e
  have hij : i ≠ j := by omega
  refine hij ((List.getElem_inj (i := i) (j := j) (h₀ := by simpa using hi) (h₁ := by simpa using hj'.2) h).mp ?_)
  rw [List.getElem_map, List.getElem_map, e3, e2, e']
theorem Row_init_spec {i : Nat} {rain : List Int} {bars : List Bar} {st : Store} (h : RowOk rain bars) (hi : st[i]? = some (.ins 13 [])) :
    WpR (f_Row_init (.ref i :: .tup (rain.map .int) :: bars.map Bar.val) st) (fun v s => v = .non ∧ s[i]? = some (.ins 13 (RF rain bars)) ∧ Keep [i] st s) (fun _ _ => False) := by
  refine Vc.b_defS (by have := h.b1; simp; omega) ?_
  unfold m_Row_init
  have := h.n0; have := h.n1; have := h.b0; have := h.b1
  simp only [List.take, List.drop, -eq_self]
  repeat' (first | array_mem_dec | fail)
  rw [Vc.enum_map]
  refine Vc.for_l (fun d ρ s => s = st ∧ ∃ a b, ρ = [some (.ref i), some (.tup (rain.map .int)), some (.tup (bars.map Bar.val)), a, b, none, none, none]) (fun _ _ _ _ => trivial) ?_ ?_ ⟨rfl, none, none, rfl⟩
  · rintro d ⟨r, j⟩ rest ρ s e ⟨rfl, a, b, rfl⟩
    obtain ⟨e1, e2, e3, e4⟩ := Vc.idx_split e
    simp only at e1 e2
    repeat' (first | array_mem_dec | fail)
    rw [decide_eq_false (by omega)]
    repeat' (first | array_mem_dec | fail)
    rw [decide_eq_true (h.r01 r (List.mem_of_getElem? e1))]
    try simp only [Bool.not_true, Bool.not_false, -eq_self]
    repeat' (first | array_mem_dec | fail)
    exact ⟨rfl, _, _, rfl⟩
  · rintro ρ s ⟨rfl, a, b, rfl⟩
    repeat' (first | array_mem_dec | fail)
    refine Vc.v_eqTI0 ?_
    repeat' (first | array_mem_dec | fail)
    rw [decide_eq_false (List.ne_nil_of_length_pos (by omega))]
    repeat' (first | array_mem_dec | fail)
    rw [Vc.enum_map]
    refine Vc.for_l (fun d ρ s' => Keep [] s s' ∧ ∃ a b c d, ρ = [some (.ref i), some (.tup (rain.map .int)), some (.tup (bars.map Bar.val)), a, b, c, d, none]) (fun _ _ _ _ => trivial) ?_ ?_ ⟨by (first | sizeOf_list_dec | fail), _, _, _, _, rfl⟩
    · rintro d ⟨r, j⟩ rest ρ s1 e ⟨k1, a, b, c, dd, rfl⟩
      obtain ⟨e1, e2, e3, e4⟩ := Vc.idx_split e
      simp only at e1 e2
      repeat' (first | array_mem_dec | fail)
      rw [Vc.cut_take, ← List.map_take]
      repeat' (first | array_mem_dec | fail)
      refine Vc.lc_map (fun b : Bar => .str b.nm) (fun _ => trivial) (by simp; omega) (fun c hc acc => ?_) ?_
      · unfold Bar.val
        repeat' (first | array_mem_dec | fail)
        exact ⟨rfl, rfl⟩
      repeat' (first | array_mem_dec | fail)
      rw [decide_eq_false (by omega)]
      repeat' (first | array_mem_dec | fail)
      rw [List.length_map]
      refine Vc.via0 (is_barrel_spec (h.ok r (List.mem_of_getElem? e1)) (by omega)) fun v s2 hv => ?_
      obtain ⟨rfl, k2⟩ := hv
      repeat' (first | array_mem_dec | fail)
      try simp only [Bool.not_true, Bool.not_false, -eq_self]
      repeat' (first | array_mem_dec | fail)
      unfold Bar.val
      repeat' (first | array_mem_dec | fail)
      refine Vc.v_inLs (ys := (bars.take j).map Bar.nm) (by rw [List.map_map]; (first | array_get_dec | fail)) ?_
      repeat' (first | array_mem_dec | fail)
      rw [decide_eq_false (take_not_mem h.nd (e2 ▸ e1))]
      repeat' (first | array_mem_dec | fail)
      exact ⟨by (first | sizeOf_list_dec | fail), _, _, _, _, rfl⟩
    · rintro ρ s1 ⟨k1, a, b, c, d, rfl⟩
      repeat' (first | array_mem_dec | fail)
      refine Vc.v_eqT0 (fun b hb => Bar.deep (h.ok b hb)) ?_
      repeat' (first | array_mem_dec | fail)
      rw [decide_eq_false (List.ne_nil_of_length_pos (by omega))]
      repeat' (first | array_mem_dec | fail)
      refine ⟨rfl, by assumption, ?_⟩
      (first | sizeOf_list_dec | fail)
theorem Row_add_spec {i j : Nat} {rain : List Int} {b1 b2 : List Bar} {st : Store} (h : RowOk rain (b1 ++ b2)) (hi : st[i]? = some (.ins 13 (RF rain b1))) (hj : st[j]? = some (.ins 13 (RF rain b2))) :
    WpR (f_Row_add [.ref i, .ref j] st) (fun v s => ∃ k, v = .ref k ∧ s[k]? = some (.ins 13 (RF rain (b1 ++ b2))) ∧ Keep [] st s ∧ st.length ≤ k) (fun _ _ => False) := by
  refine Vc.b_def rfl ?_
  unfold m_Row_add
  have := h.b1
  simp only [List.length_append] at this
  repeat' (first | array_mem_dec | fail)
  refine Vc.v_neTI ?_
  repeat' (first | array_mem_dec | fail)
  rw [← List.map_append]
  repeat' (first | array_mem_dec | fail)
  rw [List.append_nil]
  refine Vc.via0 (Row_init_spec h (by (first | array_get_dec | fail))) fun v s hv => ?_
  obtain ⟨rfl, h1, h2⟩ := hv
  exact ⟨rfl, _, rfl, h1, by (first | sizeOf_list_dec | fail), by (first | sizeOf_list_dec | fail)⟩
def nm4 : List Str := ["top", "mid", "low", "abcdefgh"]
theorem nm4_ok : ∀ z ∈ nm4, nameOk z ∧ PyData.canLay0 (.str z) = true := by
  intro z hz
  simp only [nm4, List.mem_cons, List.not_mem_nil, or_false] at hz
  rcases hz with e | e | e | e <;> subst e <;> exact ⟨⟨by decide +kernel, by decide +kernel, by decide +kernel⟩, by decide +kernel⟩
theorem nm4_nd : nm4.Nodup := by decide +kernel
/-- what _law_parts draws -/
structure Parts (rain : List Int) (bars : List Bar) (most wide : Int) : Prop where
  n0 : 0 < rain.length
  n1 : (rain.length : Int) ≤ most
  r01 : ∀ r ∈ rain, 0 ≤ r ∧ r < wide
  b0 : 0 < bars.length
  b1 : bars.length ≤ 4
  nms : bars.map Bar.nm = nm4.take bars.length
  ok : ∀ b ∈ bars, 0 ≤ b.cap ∧ b.cap < 5 * wide ∧ 0 ≤ b.roof ∧ b.roof < 3 ∧ b.dr.length = rain.length ∧ ∀ d ∈ b.dr, 0 ≤ d ∧ d < 2 * wide
theorem Parts.row {rain : List Int} {bars : List Bar} {most wide : Int} (p : Parts rain bars most wide) (h1 : most ≤ 12) (h2 : wide ≤ 1000000) : RowOk rain bars := by
  have hn : ∀ b ∈ bars, b.nm ∈ nm4 := fun b hb => List.mem_of_mem_take (p.nms ▸ List.mem_map_of_mem hb)
  have := p.n1; have := p.b1
  exact ⟨p.n0, by omega, fun r hr => ⟨(p.r01 r hr).1, by have := (p.r01 r hr).2; omega⟩, p.b0, by omega,
    fun b hb => by
      obtain ⟨c0, c1, r0, r1, dl, hd⟩ := p.ok b hb
      exact ⟨(nm4_ok _ (hn b hb)).1, (nm4_ok _ (hn b hb)).2, c0, by omega, r0, by omega, dl, fun d hh => ⟨(hd d hh).1, by have := (hd d hh).2; omega⟩⟩,
    by rw [p.nms]; exact nm4_nd.sublist (List.take_sublist _ _)⟩
/-- a list of draws, each times 0 or 1 -/
theorem draws_lc {h c n : Nat} {lim : Int} {st : Store} {g : Nat} {ρ : Slots} {elt : ME} {X : Exc → Store → Prop} {Q : Val → Store → Prop} {okp : Store → Prop} (hok : ∀ s, okp s) (hn : n ≤ 1000) (d0 : Draws h c st)
    (he : ∀ (i : Nat) s, Draws h c s → WpR (elt (ρ.set g (some (.int i))) s) (fun v s' => (∃ r : Int, v = .int r ∧ 0 ≤ r ∧ r < lim) ∧ Draws h c s' ∧ Keep [h, c] s s') fun _ _ => False)
    (q : ∀ (D : Nat) (rs : List Int) (s : Store), s[D]? = some (.lst (rs.map .int)) → rs.length = n → (∀ r ∈ rs, 0 ≤ r ∧ r < lim) → Draws h c s → Keep [h, c] st s → st.length ≤ D → Q (.ref D) s) :
    WpR (Ab.lcM (Se.gSet g) Se.mYes elt okp st.length ρ ((List.range n).map fun i : Nat => Val.int i) (st ++ [.lst []])) Q X := by
  refine Vc.lc_new fun D s0 hD k0 hl => ?_
  have hh : h < st.length ∧ c < st.length := by
    obtain ⟨_, _, _, e1, e2, _⟩ := d0
    exact ⟨Vc.lt_of e1, Vc.lt_of e2⟩
  refine Vc.lcY_l (fun d acc s => ∃ rs : List Int, acc = rs.map .int ∧ rs.length = d.length ∧ (∀ r ∈ rs, 0 ≤ r ∧ r < lim) ∧ Draws h c s ∧ Keep [h, c] st s ∧ D < s.length) (fun _ _ s _ => hok s) ?_ ?_ ⟨[], rfl, rfl, (fun _ z => by cases z), d0.keep k0 (by simp) (by simp), by (first | sizeOf_list_dec | fail), Vc.lt_of hD⟩ hD
  · rintro d x rest acc s e ⟨rs, rfl, hl1, hr, dr, kp, _⟩ hs
    obtain ⟨e1, e2, e3⟩ := Vc.range_split e
    repeat' (first | array_mem_dec | fail)
    refine Vc.via0 (he x s dr) fun v s1 hv => ?_
    obtain ⟨⟨r, rfl, r0, r1⟩, d1, k1⟩ := hv
    have hs1 : s1[D]? = some (.lst (rs.map .int)) := k1.get hs (by simp; omega)
    refine ⟨hs1, by simp; omega, ?_⟩
    intro s2 hs2 k2
    refine ⟨rs ++ [r], by simp, by simp [hl1], fun z hz => ?_, d1.keep k2 (by simp; omega) (by simp; omega), ?_, Vc.lt_of hs2⟩
    · rcases List.mem_append.mp hz with hz | hz
      · exact hr z hz
      · rw [List.mem_singleton.mp hz]; exact ⟨r0, r1⟩
    · (first | sizeOf_list_dec | fail)
  · rintro acc s ⟨rs, rfl, hl1, hr, dr, kp, _⟩ hs
    exact q D rs s hs (by simpa using hl1) hr dr kp hl
theorem times01 {r lim : Int} {b : Bool} (h0 : 0 ≤ r) (h1 : r < lim) : 0 ≤ r * (if b then 1 else 0) ∧ r * (if b then 1 else 0) < lim := by
  cases b <;> simp <;> omega
theorem parts_spec {h c : Nat} {most wide : Int} {st : Store} (d0 : Draws h c st) (m0 : 0 < most) (m1 : most ≤ 12) (w0 : 0 < wide) (w1 : wide ≤ 1000000) :
    WpR (f_law_parts [.ref h, .int most, .int wide] st) (fun v s => ∃ rain bars, v = .tup [.tup (rain.map .int), .tup (bars.map Bar.val)] ∧ Parts rain bars most wide ∧ Draws h c s ∧ Keep [h, c] st s) (fun _ _ => False) := by
  have hh : h < st.length ∧ c < st.length := by
    obtain ⟨_, _, _, e1, e2, _⟩ := d0
    exact ⟨Vc.lt_of e1, Vc.lt_of e2⟩
  refine Vc.b_def rfl ?_
  unfold m_law_parts
  repeat' (first | array_mem_dec | fail)
  refine Vc.via0 (next_spec d0 m0 (by omega)) fun v s1 hv => ?_
  obtain ⟨⟨r, rfl, r0, r1⟩, d1, k1⟩ := hv
  repeat' (first | array_mem_dec | fail)
  rename_i F s2 hF k2 hFl
  have d2 := d1.keep k2 (by simp) (by simp)
  refine Vc.ex_range1 (by omega) ?_
  refine draws_lc (lim := wide) (h := h) (c := c) (fun _ => trivial) (by omega) d2 (fun i s d => ?_) fun D rs s3 h3 l3 b3 d3 k3 hDl => ?_
  · repeat' (first | array_mem_dec | fail)
    refine Vc.via0 (next_spec d w0 (by omega)) fun v s1 hv => ?_
    obtain ⟨⟨r, rfl, r0, r1⟩, d1, k1⟩ := hv
    repeat' (first | array_mem_dec | fail)
    refine Vc.via0 (next_spec d1 (by decide) (by decide)) fun v s2 hv => ?_
    obtain ⟨⟨r', rfl, r0', r1'⟩, d2, k2⟩ := hv
    repeat' (first | array_mem_dec | fail)
    exact ⟨⟨_, rfl, times01 r0 r1⟩, d2, by (first | sizeOf_list_dec | fail)⟩
  have hD : D ≠ F := by have := Vc.lt_of hF; omega
  repeat' (first | array_mem_dec | fail)
  refine Vc.via0 (next_spec d3 (by decide) (by decide)) fun v s4 hv => ?_
  obtain ⟨⟨nb, rfl, nb0, nb1⟩, d4, k4⟩ := hv
  have hFh : F ≠ h ∧ F ≠ c := by have := k1.1; omega
  have f4 : s4[F]? = some (.lst (([] : List Bar).map Bar.val)) := k4.get (k3.get hF (by simp; omega)) (by simp; omega)
  repeat' (first | array_mem_dec | fail)
  refine Vc.ex_range1 (by omega) ?_
  refine Vc.for_l (fun d ρ s => ∃ (bars : List Bar) (a b e f : Option Val), ρ = [some (.ref h), some (.int most), some (.int wide), some (.int (1 + r)), some (.ref F), some (.tup (rs.map .int)), a, b, e, f] ∧ s[F]? = some (.lst (bars.map Bar.val)) ∧ bars.length = d.length ∧ bars.map Bar.nm = nm4.take bars.length ∧
    (∀ b ∈ bars, 0 ≤ b.cap ∧ b.cap < 5 * wide ∧ 0 ≤ b.roof ∧ b.roof < 3 ∧ b.dr.length = rs.length ∧ ∀ d ∈ b.dr, 0 ≤ d ∧ d < 2 * wide) ∧ Draws h c s ∧ Keep [h, c, F] s4 s) (fun _ _ _ _ => trivial) ?_ ?_ ⟨[], none, none, none, none, rfl, f4, rfl, rfl, (fun _ z => by cases z), d4, by (first | sizeOf_list_dec | fail)⟩
  · rintro d x rest ρ s e ⟨bars, a, b, e', f, rfl, hF5, hbl, hnm, hbs, d5, k5⟩
    obtain ⟨e1, e2, e3⟩ := Vc.range_split e
    have hx4 : x < 4 := by omega
    repeat' (first | array_mem_dec | fail)
    rename_i T s6 hT k6 hTl
    have hx : nm4[x]? = some nm4[x] := List.getElem?_eq_getElem (by simp [nm4]; omega)
    refine Vc.v_ixLn (xs := nm4) (f := .str) hT hx ?_
    repeat' (first | array_mem_dec | fail)
    refine Vc.ex_range1 (by omega) ?_
    have d6 := d5.keep k6 (by simp) (by simp)
    have q6 := k6.1
    have := Vc.lt_of hF5
    refine draws_lc (lim := 2 * wide) (h := h) (c := c) (fun _ => trivial) (by omega) d6 (fun i s d => ?_) fun D ds s7 h7 l7 b7 d7 k7 hDl => ?_
    · repeat' (first | array_mem_dec | fail)
      refine Vc.via0 (next_spec d (by omega) (by omega)) fun v s1 hv => ?_
      obtain ⟨⟨r, rfl, r0, r1⟩, d1, k1⟩ := hv
      repeat' (first | array_mem_dec | fail)
      refine Vc.via0 (next_spec d1 (by decide) (by decide)) fun v s2 hv => ?_
      obtain ⟨⟨r', rfl, r0', r1'⟩, d2, k2⟩ := hv
      repeat' (first | array_mem_dec | fail)
      exact ⟨⟨_, rfl, times01 r0 r1⟩, d2, by (first | sizeOf_list_dec | fail)⟩
    have h7F := k7.get (k6.get hF5 (by simp)) (by simp; omega)
    repeat' (first | array_mem_dec | fail)
    refine Vc.via0 (next_spec d7 (by omega) (by omega)) fun v s8 hv => ?_
    obtain ⟨⟨cap, rfl, c0, c1⟩, d8, k8⟩ := hv
    repeat' (first | array_mem_dec | fail)
    refine Vc.via0 (next_spec d8 (by decide) (by decide)) fun v s9 hv => ?_
    obtain ⟨⟨roof, rfl, ro0, ro1⟩, d9, k9⟩ := hv
    have h9F := k9.get (k8.get h7F (by simp; omega)) (by simp; omega)
    repeat' (first | array_mem_dec | fail)
    rename_i s10 h10 k10
    refine ⟨bars ++ [⟨nm4[x], cap, roof, ds⟩], _, _, _, _, rfl, by rw [List.map_append]; exact h10, by simp [hbl], ?_, ?_, d9.keep k10 (by simp; omega) (by simp; omega), by (first | sizeOf_list_dec | fail)⟩
    · rw [List.map_append, hnm, List.length_append, show bars.length = x by omega]
      simp [List.take_succ, hx]
    · intro b hb
      rcases List.mem_append.mp hb with hb | hb
      · exact hbs b hb
      · rw [List.mem_singleton.mp hb]
        exact ⟨c0, c1, ro0, ro1, by show ds.length = rs.length; omega, b7⟩
  · rintro ρ s ⟨bars, a, b, e', f, rfl, hF5, hbl, hnm, hbs, d5, k5⟩
    repeat' (first | array_mem_dec | fail)
    simp only [List.length_range] at hbl
    refine ⟨rs, bars, rfl, ⟨by omega, by omega, b3, by omega, by omega, hnm, hbs⟩, d5, ?_⟩
    (first | sizeOf_list_dec | fail)
theorem RowOk.sub {rain : List Int} {bars bs : List Bar} (h : RowOk rain bars) (hs : bs.Sublist bars) (h0 : 0 < bs.length) : RowOk rain bs :=
  ⟨h.n0, h.n1, h.r01, h0, Nat.le_trans hs.length_le h.b1, fun b hb => h.ok b (hs.subset hb), h.nd.sublist (hs.map _)⟩
theorem law_row_spec {rain : List Int} {bars : List Bar} {st : Store} (h : RowOk rain bars) :
    WpR (f_law_row [.tup [.tup (rain.map .int), .tup (bars.map Bar.val)]] st) (fun v s => ∃ k, v = .ref k ∧ s[k]? = some (.ins 13 (RF rain bars)) ∧ Keep [] st s ∧ st.length ≤ k) (fun _ _ => False) := by
  have hb := h.b0
  obtain ⟨b0, bs, rfl⟩ : ∃ b bs, bars = b :: bs := by
    cases bars with
    | nil => simp at hb
    | cons b bs => exact ⟨b, bs, rfl⟩
  refine Vc.b_def rfl ?_
  unfold m_law_row
  repeat' (first | array_mem_dec | fail)
  refine Vc.v_ixTn (xs := b0 :: bs) (f := Bar.val) (i := 0) rfl ?_
  repeat' (first | array_mem_dec | fail)
  refine Vc.via0 (Row_init_spec (bars := [b0]) (h.sub (by simp) (by simp)) (by (first | array_get_dec | fail))) fun v s hv => ?_
  obtain ⟨rfl, h1, h2⟩ := hv
  refine ⟨rfl, ?_⟩
  repeat' (first | array_mem_dec | fail)
  rw [show Ab.cut (b0.val :: bs.map Bar.val) (some 1) none = bs.map Bar.val from Vc.cut_drop (b0.val :: bs.map Bar.val) 1]
  refine Vc.for_l (fun d ρ s' => ∃ (k : Nat) (a : Option Val), ρ = [some (.tup [.tup (rain.map .int), .tup ((b0 :: bs).map Bar.val)]), some (.ref k), a] ∧ s'[k]? = some (.ins 13 (RF rain (b0 :: d))) ∧ Keep [] st s' ∧ st.length ≤ k) (fun _ _ _ _ => trivial) ?_ ?_ ⟨_, none, rfl, h1, by (first | sizeOf_list_dec | fail), by (first | sizeOf_list_dec | fail)⟩
  · rintro d x rest ρ s1 e ⟨k, a, rfl, h3, h4, h5⟩
    repeat' (first | array_mem_dec | fail)
    refine Vc.via0 (Row_init_spec (bars := [x]) (h.sub (by subst e; simp) (by simp)) (by (first | array_get_dec | fail))) fun v s2 hv => ?_
    obtain ⟨rfl, h6, h7⟩ := hv
    refine ⟨rfl, ?_⟩
    have h8 : s2[k]? = some (.ins 13 (RF rain (b0 :: d))) := by (first | array_get_dec | fail)
    repeat' (first | array_mem_dec | fail)
    refine Vc.via0 (Row_add_spec (b1 := b0 :: d) (b2 := [x]) (h.sub (by subst e; simp) (by simp)) h8 h6) fun v s3 hv => ?_
    obtain ⟨k3, rfl, h9, k9, l9⟩ := hv
    repeat' (first | array_mem_dec | fail)
    refine ⟨_, _, rfl, h9, by (first | sizeOf_list_dec | fail), by (first | sizeOf_list_dec | fail)⟩
  · rintro ρ s1 ⟨k, a, rfl, h3, h4, h5⟩
    repeat' (first | array_mem_dec | fail)
    exact ⟨k, rfl, h3, h4, h5⟩
/-- what a barrel gives and holds in a tick -/
def wishOf (b : Bar) (now : Nat) : Int := b.dr.getD (now % b.dr.length) 0
structure TS where
  found : List Int
  drawn : Int
  missed : Int
  flow : Int
def stepT (now : Nat) (amount : Int) (L : List Str) (t : TS) (p : Bar × Int) : TS :=
  let full := p.2 + p.1.roof * amount + t.flow
  let over := max 0 (full - p.1.cap)
  let got := if p.1.nm ∈ L then 0 else min (full - over) (wishOf p.1 now)
  ⟨t.found ++ [full - over - got], t.drawn + got, t.missed + (wishOf p.1 now - got), over⟩
def tickT (now : Nat) (amount : Int) (L : List Str) (xs : List (Bar × Int)) : TS := xs.foldl (stepT now amount L) ⟨[], 0, 0, 0⟩
theorem tickT_snoc (now : Nat) (amount : Int) (L : List Str) (xs : List (Bar × Int)) (p : Bar × Int) : tickT now amount L (xs ++ [p]) = stepT now amount L (tickT now amount L xs) p := by
  unfold tickT; rw [List.foldl_append]; rfl
theorem tickT_len (now : Nat) (amount : Int) (L : List Str) (xs : List (Bar × Int)) : (tickT now amount L xs).found.length = xs.length := by
  unfold tickT
  have : ∀ (xs : List (Bar × Int)) (t : TS), (xs.foldl (stepT now amount L) t).found.length = t.found.length + xs.length := by
    intro xs
    induction xs with
    | nil => intro t; simp
    | cons x xs ih => intro t; rw [List.foldl_cons, ih]; simp [stepT]; omega
  rw [this]; simp
theorem tickT_mem (now : Nat) (amount : Int) {L L' : List Str} (h : ∀ z, z ∈ L ↔ z ∈ L') (xs : List (Bar × Int)) : tickT now amount L xs = tickT now amount L' xs := by
  unfold tickT
  congr 1
  funext t p
  unfold stepT
  simp only [h]
theorem law_tick_spec {rain : List Int} {bars : List Bar} {lv lk : Nat} {levels : List Int} {locked : List Str} {now : Nat} {amount : Int} {t : Nat} {st : Store} (hb : ∀ b ∈ bars, b.Ok t) (t0 : 0 < t) (hl : levels.length = bars.length) (hs : bars.length ≤ 1000)
    (h1 : st[lv]? = some (.lst (levels.map .int))) (h2 : st[lk]? = some (.lst (locked.map .str))) :
    WpR (f_law_tick [.tup [.tup (rain.map .int), .tup (bars.map Bar.val)], .ref lv, .int now, .int amount, .ref lk] st) (fun v s => ∃ F, v = .tup [.ref F, .int (tickT now amount locked (bars.zip levels)).drawn, .int (tickT now amount locked (bars.zip levels)).missed, .int (tickT now amount locked (bars.zip levels)).flow] ∧ s[F]? = some (.lst ((tickT now amount locked (bars.zip levels)).found.map .int)) ∧ Keep [] st s ∧ st.length ≤ F) (fun _ _ => False) := by
  refine Vc.b_def rfl ?_
  unfold m_law_tick
  repeat' (first | array_mem_dec | fail)
  rename_i F s0 hF k0 hFl
  rw [List.length_map]
  refine Vc.ex_range1 (by omega) ?_
  refine Vc.for_l (fun d ρ s => ∃ (a b c e f g h i : Option Val), ρ = [some (.tup [.tup (rain.map .int), .tup (bars.map Bar.val)]), some (.ref lv), some (.int now), some (.int amount), some (.ref lk), some (.ref F), some (.int (tickT now amount locked ((bars.zip levels).take d.length)).drawn), some (.int (tickT now amount locked ((bars.zip levels).take d.length)).missed), some (.int (tickT now amount locked ((bars.zip levels).take d.length)).flow), a, b, c, e, f, g, h, i] ∧
    s[F]? = some (.lst ((tickT now amount locked ((bars.zip levels).take d.length)).found.map .int)) ∧ Keep [F] s0 s) (fun _ _ _ _ => trivial) ?_ ?_ ⟨_, _, _, _, _, _, _, _, rfl, hF, by (first | sizeOf_list_dec | fail)⟩
  · rintro d x rest ρ s e ⟨a, b, c, e', f, g, h, i, rfl, h3, k3⟩
    obtain ⟨e1, e2, e3⟩ := Vc.range_split e
    rw [Int.toNat_natCast] at e3
    have hx : bars[x]? = some bars[x] := List.getElem?_eq_getElem (by omega)
    have hy : levels[x]? = some levels[x] := List.getElem?_eq_getElem (by omega)
    have ok := hb _ (List.mem_of_getElem? hx)
    have hw : bars[x].dr[now % bars[x].dr.length]? = some (wishOf bars[x] now) := by
      have : now % bars[x].dr.length < bars[x].dr.length := Nat.mod_lt _ (by have := ok.dl; omega)
      unfold wishOf
      rw [List.getD_eq_getElem?_getD, List.getElem?_eq_getElem this]; rfl
    have hz : (bars.zip levels)[x]? = some (bars[x], levels[x]) := by rw [List.getElem?_zip_eq_some]; exact ⟨hx, hy⟩
    have hT : tickT now amount locked ((bars.zip levels).take (d ++ [x]).length) = stepT now amount locked (tickT now amount locked ((bars.zip levels).take d.length)) (bars[x], levels[x]) := by
      rw [List.length_append, List.length_singleton, List.take_succ, ← e1, hz, Option.toList, tickT_snoc]
    have hlen : (tickT now amount locked ((bars.zip levels).take d.length)).found.length ≤ 1000 := by
      rw [tickT_len, List.length_take, List.length_zip]; omega
    rw [hT]
    generalize tickT now amount locked ((bars.zip levels).take d.length) = T at *
    generalize bars[x] = B at *
    generalize levels[x] = lev at *
    repeat' (first | array_mem_dec | fail)
    refine Vc.v_ixTn hx ?_
    rw [Bar.val_eq B]
    repeat' (first | array_mem_dec | fail)
    refine Vc.v_ixLn (f := .int) (by (first | array_get_dec | fail)) hy ?_
    repeat' (first | array_mem_dec | fail)
    have := ok.r0; have := ok.r1; have := ok.dl
    repeat' (first | array_mem_dec | fail)
    refine Vc.ite_both rfl rfl ?_
    have ho : (if B.cap < lev + B.roof * amount + T.flow then lev + B.roof * amount + T.flow - B.cap else 0) = max 0 (lev + B.roof * amount + T.flow - B.cap) := by split <;> omega
    rw [ho]
    repeat' (first | array_mem_dec | fail)
    rw [List.length_map]
    repeat' (first | array_mem_dec | fail)
    rw [← Int.natCast_emod]
    refine Vc.v_ixTn hw ?_
    repeat' (first | array_mem_dec | fail)
    refine Vc.v_inLs (by (first | array_get_dec | fail)) ?_
    repeat' (first | array_mem_dec | fail)
    generalize hF : lev + B.roof * amount + T.flow - max 0 (lev + B.roof * amount + T.flow - B.cap) = full
    refine Vc.ite_both (i := 0) (j := min full (wishOf B now)) rfl (show (if decide (wishOf B now < full) = true then R.ok (Val.int (wishOf B now)) s else R.ok (Val.int full) s) = _ by by_cases q : wishOf B now < full <;> simp [q] <;> omega) ?_
    repeat' (first | array_mem_dec | fail)
    rename_i s1 h4 k4
    have hS : stepT now amount locked T (B, lev) = ⟨T.found ++ [full - (if B.nm ∈ locked then 0 else min full (wishOf B now))], T.drawn + (if B.nm ∈ locked then 0 else min full (wishOf B now)), T.missed + (wishOf B now - (if B.nm ∈ locked then 0 else min full (wishOf B now))), max 0 (lev + B.roof * amount + T.flow - B.cap)⟩ := by
      subst hF; rfl
    rw [hS]
    refine ⟨_, _, _, _, _, _, _, _, by rw [Int.add_sub_assoc T.missed], by rw [List.map_append]; exact h4, by (first | sizeOf_list_dec | fail)⟩
  · rintro ρ s ⟨a, b, c, e', f, g, h, i, rfl, h3, k3⟩
    repeat' (first | array_mem_dec | fail)
    simp only [Int.toNat_natCast, List.length_range] at h3 ⊢
    rw [List.take_of_length_le (by rw [List.length_zip]; omega)] at h3 ⊢
    exact ⟨F, rfl, h3, by (first | sizeOf_list_dec | fail), by (first | sizeOf_list_dec | fail)⟩
theorem next_tick_spec {rw_ : Nat} {rain : List Int} {bars : List Bar} {levels : List Int} {locked : List Str} {now : Nat} {amount : Int} {t : Nat} {st : Store} (hb : ∀ b ∈ bars, b.Ok t) (t0 : 0 < t) (hl : levels.length = bars.length) (hs : bars.length ≤ 1000)
    (h1 : st[rw_]? = some (.ins 13 (RF rain bars))) :
    WpR (f_next_tick [.ref rw_, .tup (levels.map .int), .int now, .int amount, .tup (locked.map .str)] st) (fun v s => v = .tup [.tup ((tickT now amount locked (bars.zip levels)).found.map .int), .int (tickT now amount locked (bars.zip levels)).drawn, .int (tickT now amount locked (bars.zip levels)).missed, .int (tickT now amount locked (bars.zip levels)).flow] ∧ Keep [] st s) (fun _ _ => False) := by
  refine Vc.b_def rfl ?_
  unfold m_next_tick
  repeat' (first | array_mem_dec | fail)
  rename_i F s0 hF k0 hFl
  refine Vc.via0 (Row_barrels_spec (v := .tup (bars.map Bar.val)) (by (first | array_get_dec | fail))) fun v s hv => ?_
  obtain ⟨rfl, rfl⟩ := hv
  repeat' (first | array_mem_dec | fail)
  rw [Vc.zip_map]
  refine Vc.for_l (fun d ρ s' => ∃ (a b c e f g h i j : Option Val), ρ = [some (.ref rw_), some (.tup (levels.map .int)), some (.int now), some (.int amount), some (.tup (locked.map .str)), some (.ref F), some (.int (tickT now amount locked ((bars.zip levels).take d.length)).drawn), some (.int (tickT now amount locked ((bars.zip levels).take d.length)).missed), some (.int (tickT now amount locked ((bars.zip levels).take d.length)).flow), a, b, c, e, f, g, h, i, j] ∧
    s'[F]? = some (.lst ((tickT now amount locked ((bars.zip levels).take d.length)).found.map .int)) ∧ Keep [F] s s') (fun _ _ _ _ => ⟨trivial, trivial⟩) ?_ ?_ ⟨_, _, _, _, _, _, _, _, _, rfl, hF, by (first | sizeOf_list_dec | fail)⟩
  · rintro d ⟨lev, B⟩ rest ρ s1 e ⟨a, b, c, e', f, g, h, i, j, rfl, h3, k3⟩
    obtain ⟨hy, hx⟩ := Vc.zip_split e
    simp only at hx hy
    have ok := hb _ (List.mem_of_getElem? hx)
    have hw : B.dr[now % B.dr.length]? = some (wishOf B now) := by
      have : now % B.dr.length < B.dr.length := Nat.mod_lt _ (by have := ok.dl; omega)
      unfold wishOf
      rw [List.getD_eq_getElem?_getD, List.getElem?_eq_getElem this]; rfl
    have hz : (bars.zip levels)[d.length]? = some (B, lev) := by rw [List.getElem?_zip_eq_some]; exact ⟨hx, hy⟩
    have hT : tickT now amount locked ((bars.zip levels).take (d ++ [(lev, B)]).length) = stepT now amount locked (tickT now amount locked ((bars.zip levels).take d.length)) (B, lev) := by
      rw [List.length_append, List.length_singleton, List.take_succ, hz, Option.toList, tickT_snoc]
    have hlen : (tickT now amount locked ((bars.zip levels).take d.length)).found.length ≤ 1000 := by
      rw [tickT_len, List.length_take, List.length_zip]; omega
    rw [hT]
    generalize tickT now amount locked ((bars.zip levels).take d.length) = T at *
    simp only [Bar.val_eq B]
    have := ok.r0; have := ok.r1; have := ok.dl
    repeat' (first | array_mem_dec | fail)
    rw [List.length_map]
    repeat' (first | array_mem_dec | fail)
    rw [← Int.natCast_emod]
    refine Vc.v_ixTn hw ?_
    repeat' (first | array_mem_dec | fail)
    refine Vc.v_inTs ?_
    repeat' (first | array_mem_dec | fail)
    generalize hF : lev + B.roof * amount + T.flow - max 0 (lev + B.roof * amount + T.flow - B.cap) = full
    refine Vc.ite_both (i := 0) (j := min full (wishOf B now)) rfl rfl ?_
    repeat' (first | array_mem_dec | fail)
    rename_i s2 h4 k4
    have hS : stepT now amount locked T (B, lev) = ⟨T.found ++ [full - (if B.nm ∈ locked then 0 else min full (wishOf B now))], T.drawn + (if B.nm ∈ locked then 0 else min full (wishOf B now)), T.missed + (wishOf B now - (if B.nm ∈ locked then 0 else min full (wishOf B now))), max 0 (lev + B.roof * amount + T.flow - B.cap)⟩ := by
      subst hF; rfl
    rw [hS]
    refine ⟨_, _, _, _, _, _, _, _, _, rfl, by rw [List.map_append]; exact h4, by (first | sizeOf_list_dec | fail)⟩
  · rintro ρ s1 ⟨a, b, c, e', f, g, h, i, j, rfl, h3, k3⟩
    repeat' (first | array_mem_dec | fail)
    rw [List.take_of_length_le (by rw [List.length_zip, List.length_zip]; omega)] at h3 ⊢
    repeat' (first | array_mem_dec | fail)
    exact ⟨rfl, by (first | sizeOf_list_dec | fail)⟩
def pr (p : Val × Val) : Val := .tup [p.1, p.2]
def ST (water : List Int) (now lost missed : Int) (shut : List Str) : Val := .tup [.tup (water.map .int), .int now, .tup [.int lost, .int missed], .tup (shut.map .str)]
theorem state_spec {l rw_ p f : Nat} {water : List Int} {now lost missed : Int} {shut : List Str} {st : Store} (h : st[l]? = some (.ins 20 (LF rw_ water now lost missed shut p f))) : WpR (f_LiveRow_state [.ref l] st) (fun v s => v = ST water now lost missed shut ∧ s = st) (fun _ _ => False) := by
  refine Vc.b_def rfl ?_
  unfold m_LiveRow_state
  repeat' (first | array_mem_dec | fail)
  exact ⟨rfl, rfl⟩
theorem set_state_spec {l rw_ p f : Nat} {water water' : List Int} {now lost missed now' lost' missed' : Int} {shut shut' : List Str} {st : Store} (h : st[l]? = some (.ins 20 (LF rw_ water now lost missed shut p f))) :
    WpR (f_LiveRow_set_state [.ref l, ST water' now' lost' missed' shut'] st) (fun v s => v = .non ∧ s[l]? = some (.ins 20 (LF rw_ water' now' lost' missed' shut' p f)) ∧ Keep [l] st s) (fun _ _ => False) := by
  refine Vc.b_def rfl ?_
  unfold m_LiveRow_set_state ST
  repeat' (first | array_mem_dec | fail)
  refine ⟨rfl, ?_, ?_⟩
  · assumption
  · (first | sizeOf_list_dec | fail)
theorem commit_spec {l rw_ p f : Nat} {water water' : List Int} {now lost missed now' lost' missed' : Int} {shut shut' : List Str} {past : List (Val × Val)} {op : Val} {st : Store}
    (h : st[l]? = some (.ins 20 (LF rw_ water now lost missed shut p f))) (hp : st[p]? = some (.lst (past.map pr))) (hne : p ≠ l) (hl : past.length ≤ 1000) :
    WpR (f_LiveRow_commit [.ref l, op, ST water' now' lost' missed' shut'] st) (fun v s => v = .non ∧ ∃ f', s[l]? = some (.ins 20 (LF rw_ water' now' lost' missed' shut' p f')) ∧ s[p]? = some (.lst ((past ++ [(op, ST water now lost missed shut)]).map pr)) ∧ s[f']? = some (.lst []) ∧ st.length ≤ f' ∧ Keep [l, p] st s) (fun _ _ => False) := by
  refine Vc.b_def rfl ?_
  unfold m_LiveRow_commit
  repeat' (first | array_mem_dec | fail)
  refine Vc.via0 (state_spec (by (first | array_get_dec | fail))) fun v s hv => ?_
  obtain ⟨rfl, rfl⟩ := hv
  repeat' (first | array_mem_dec | fail)
  rename_i s1 h1 k1 F s2 h2 k2 hF s3 h3 k3
  refine Vc.via0 (set_state_spec (f := F) (p := p) (rw_ := rw_) (water := water) (now := now) (lost := lost) (missed := missed) (shut := shut) (l := l) h3) fun v s4 hv => ?_
  obtain ⟨rfl, h4, k4⟩ := hv
  refine ⟨rfl, F, h4, ?_, ?_, ?_, ?_⟩
  · have e : s4[p]? = some (.lst (past.map pr ++ [.tup [op, ST water now lost missed shut]])) := by (first | array_get_dec | fail)
    rw [e, List.map_append]; rfl
  · (first | array_get_dec | fail)
  · (first | sizeOf_list_dec | fail)
  · (first | sizeOf_list_dec | fail)
theorem names_spec {i : Nat} {rain : List Int} {bars : List Bar} {st : Store} (hb : bars.length ≤ 1000) (h : st[i]? = some (.ins 13 (RF rain bars))) : WpR (f_Row_names [.ref i] st) (fun v s => v = .tup ((bars.map Bar.nm).map .str) ∧ Keep [] st s) (fun _ _ => False) := by
  refine Vc.b_def rfl ?_
  unfold m_Row_names
  repeat' (first | array_mem_dec | fail)
  refine Vc.lc_map (fun b : Bar => .str b.nm) (fun _ => trivial) (by omega) (fun c hc acc => ?_) ?_
  · rw [Bar.val_eq]
    repeat' (first | array_mem_dec | fail)
    exact ⟨rfl, rfl⟩
  repeat' (first | array_mem_dec | fail)
  exact ⟨by rw [List.map_map]; rfl, by (first | sizeOf_list_dec | fail)⟩
theorem idxOf_take {xs : List Str} {n : Str} : ∀ {i : Nat}, xs[i]? = some n → n ∉ xs.take i → xs.idxOf n = i := by
  induction xs with
  | nil => intro i h; simp at h
  | cons x xs ih =>
    intro i h hn
    cases i with
    | zero => simp at h; subst h; simp
    | succ i =>
      simp only [List.take_succ_cons, List.mem_cons, not_or] at hn
      rw [List.idxOf_cons, beq_eq_false_iff_ne.mpr (Ne.symm hn.1), cond_false, ih (by simpa using h) hn.2]
theorem place_spec {i : Nat} {rain : List Int} {bars : List Bar} {n : Str} {st : Store} (hb : bars.length ≤ 1000) (h : st[i]? = some (.ins 13 (RF rain bars))) :
    WpR (f_place_of [.ref i, .str n] st) (fun v s => v = .int ((bars.map Bar.nm).idxOf n : Nat) ∧ n ∈ bars.map Bar.nm ∧ Keep [] st s) (fun x s => x = ⟨2, [(26, .str n)]⟩ ∧ n ∉ bars.map Bar.nm ∧ Keep [] st s) := by
  refine Vc.b_def rfl ?_
  unfold m_place_of
  repeat' (first | array_mem_dec | fail)
  refine Vc.via0 (names_spec hb h) fun v s hv => ?_
  obtain ⟨rfl, k⟩ := hv
  repeat' (first | array_mem_dec | fail)
  rw [Vc.enum_map]
  refine Vc.for_l (fun d ρ s' => s' = s ∧ (∃ a b, ρ = [some (.ref i), some (.str n), a, b]) ∧ n ∉ d.map (·.1)) (fun _ _ _ _ => trivial) ?_ ?_ ⟨rfl, ⟨_, _, rfl⟩, by simp⟩
  · rintro d ⟨z, j⟩ rest ρ s' e ⟨rfl, ⟨a, b, rfl⟩, hn⟩
    obtain ⟨e1, e2, e3, e4⟩ := Vc.idx_split e
    simp only at e1 e2
    repeat' (first | array_mem_dec | fail)
    refine Vc.ite_d (fun q => ?_) (fun q => ?_)
    · repeat' (first | array_mem_dec | fail)
      subst q
      rw [e3] at hn
      exact ⟨by rw [idxOf_take e1 hn, e2], List.mem_of_getElem? e1, k⟩
    · repeat' (first | array_mem_dec | fail)
      refine ⟨rfl, ⟨_, _, rfl⟩, ?_⟩
      simp only [List.map_append, List.map_cons, List.map_nil, List.mem_append, List.mem_singleton]
      exact fun z => z.elim hn fun e => q e.symm
  · rintro ρ s' ⟨rfl, ⟨a, b, rfl⟩, hn⟩
    repeat' (first | array_mem_dec | fail)
    rw [List.zipIdx_map_fst] at hn
    exact ⟨rfl, rfl, hn, k⟩
theorem alike_step {n : Nat} {rec : MF} (ih : ∀ x y st, Vc.Alike st n x y → WpR (rec [x, y] st) (fun v s => v = .bl true ∧ Keep [] st s) (fun _ _ => False)) {x y : Val} {st : Store} (h : Vc.Alike st (n + 1) x y) : WpR (Ab.defM 2 1 (m_law_alike rec) [x, y] st) (fun v s => v = .bl true ∧ Keep [] st s) (fun _ _ => False) := by
    have seqs : ∀ (xs ys : List Val), xs.length = ys.length → xs.length ≤ 100000 → (∀ (i : Nat) (x y : Val), xs[i]? = some x → ys[i]? = some y → Vc.Alike st n x y) → ∀ i < ys.length, ∃ a b, L2.atI xs (i : Int) = some a ∧ L2.atI ys (i : Int) = some b ∧ Vc.Alike st n a b := by
      intro xs ys h1 h2 h3 i hi
      have e1 : xs[i]? = some xs[i] := List.getElem?_eq_getElem (by omega)
      have e2 : ys[i]? = some ys[i] := List.getElem?_eq_getElem hi
      exact ⟨_, _, L2.atI_nat e1, L2.atI_nat e2, h3 i _ _ e1 e2⟩
    refine Vc.b_def rfl ?_
    unfold m_law_alike
    simp only [List.map_cons, List.map_nil, List.cons_append, List.nil_append, List.replicate, -eq_self]
    unfold Vc.Alike at h
    split at h
    · repeat' (first | array_mem_dec | fail)
      refine Vc.v_eqNN ?_
      repeat' (first | array_mem_dec | fail)
      exact ⟨rfl, by (first | sizeOf_list_dec | fail)⟩
    · subst h
      repeat' (first | array_mem_dec | fail)
      exact ⟨by simp, by (first | sizeOf_list_dec | fail)⟩
    · subst h
      repeat' (first | array_mem_dec | fail)
      exact ⟨by simp, by (first | sizeOf_list_dec | fail)⟩
    · subst h
      repeat' (first | array_mem_dec | fail)
      exact ⟨by simp, by (first | sizeOf_list_dec | fail)⟩
    · rename_i xs ys
      obtain ⟨h1, h2, h3⟩ := h
      repeat' (first | array_mem_dec | fail)
      refine Vc.ite_ndp (by omega) ?_
      repeat' (first | array_mem_dec | fail)
      refine Vc.ex_range1 (by omega) ?_
      refine Vc.lc_new fun D s1 hD k1 hl => ?_
      refine Vc.lc_none (fun _ _ => trivial) (fun i hi s k => ?_) fun s2 k2 => ?_
      · obtain ⟨a, b, e1, e2, e3⟩ := seqs xs ys h1 h2 h3 i (by simpa using hi)
        repeat' (first | array_mem_dec | fail)
        refine Vc.v_ixT e1 ?_
        repeat' (first | array_mem_dec | fail)
        refine Vc.v_ixT e2 ?_
        repeat' (first | array_mem_dec | fail)
        refine Vc.via0 (ih _ _ _ (e3.keep (k1.trans k))) fun v s hv => ?_
        obtain ⟨rfl, k3⟩ := hv
        repeat' (first | array_mem_dec | fail)
        exact ⟨rfl, k3⟩
      · repeat' (first | array_mem_dec | fail)
        rename_i E s3 hE k3 hEl
        refine Vc.v_eq00 (by (first | array_get_dec | fail)) (by (first | array_get_dec | fail)) ?_
        exact ⟨rfl, by (first | sizeOf_list_dec | fail)⟩
    · rename_i ra rb
      obtain ⟨xs, ys, ha, hb, h1, h2, h3⟩ := h
      repeat' (first | array_mem_dec | fail)
      refine Vc.ite_ndp (by omega) ?_
      repeat' (first | array_mem_dec | fail)
      refine Vc.ex_range1 (by omega) ?_
      refine Vc.lc_new fun D s1 hD k1 hl => ?_
      refine Vc.lc_none (fun _ _ => trivial) (fun i hi s k => ?_) fun s2 k2 => ?_
      · obtain ⟨a, b, e1, e2, e3⟩ := seqs xs ys h1 h2 h3 i (by simpa using hi)
        have kk := k1.trans k
        repeat' (first | array_mem_dec | fail)
        refine Vc.v_ixL (xs := xs) (kk.get ha (by simp)) e1 ?_
        repeat' (first | array_mem_dec | fail)
        refine Vc.v_ixL (xs := ys) (kk.get hb (by simp)) e2 ?_
        repeat' (first | array_mem_dec | fail)
        refine Vc.via0 (ih _ _ _ (e3.keep kk)) fun v s hv => ?_
        obtain ⟨rfl, k3⟩ := hv
        repeat' (first | array_mem_dec | fail)
        exact ⟨rfl, k3⟩
      · repeat' (first | array_mem_dec | fail)
        rename_i E s3 hE k3 hEl
        refine Vc.v_eq00 (by (first | array_get_dec | fail)) (by (first | array_get_dec | fail)) ?_
        exact ⟨rfl, by (first | sizeOf_list_dec | fail)⟩
    · exact h.elim
theorem alike_spec : ∀ {n : Nat} {x y : Val} {st : Store}, Vc.Alike st n x y → WpR (f_law_alike n [x, y] st) (fun v s => v = .bl true ∧ Keep [] st s) (fun _ _ => False)
  | 0, _, _, _, h => h.elim
  | n + 1, x, y, st, h => alike_step (fun _ _ _ h => alike_spec h) h
/-- a live row: its cells -/
structure Live (l rw_ p f : Nat) (rain : List Int) (bars : List Bar) (water : List Int) (now lost missed : Int) (shut : List Str) (past : List (Val × Val)) (s : Store) : Prop where
  row : s[rw_]? = some (.ins 13 (RF rain bars))
  at_ : s[l]? = some (.ins 20 (LF rw_ water now lost missed shut p f))
  pst : s[p]? = some (.lst (past.map pr))
  pl : p ≠ l
  rl : rw_ ≠ l
  rp : rw_ ≠ p
theorem Live.keep {l rw_ p f : Nat} {rain : List Int} {bars : List Bar} {water : List Int} {now lost missed : Int} {shut : List Str} {past : List (Val × Val)} {s s' : Store} {S : List Nat} (h : Live l rw_ p f rain bars water now lost missed shut past s) (k : Keep S s s') (h1 : l ∉ S) (h2 : rw_ ∉ S) (h3 : p ∉ S) : Live l rw_ p f rain bars water now lost missed shut past s' :=
  ⟨k.get h.row h2, k.get h.at_ h1, k.get h.pst h3, h.pl, h.rl, h.rp⟩
/-- what an operation leaves behind -/
def After (l rw_ p : Nat) (rain : List Int) (bars : List Bar) (water : List Int) (now lost missed : Int) (shut : List Str) (past : List (Val × Val)) (st s : Store) : Prop := ∃ f', Live l rw_ p f' rain bars water now lost missed shut past s ∧ s[f']? = some (.lst []) ∧ st.length ≤ f' ∧ Keep [l, p] st s
section
variable {l rw_ p f : Nat} {rain : List Int} {bars : List Bar} {water : List Int} {now : Nat} {lost missed : Int} {shut : List Str} {past : List (Val × Val)} {st : Store}
theorem after_commit {s s' : Store} {water' : List Int} {now0 now' lost' missed' : Int} {shut' : List Str} {op : Val} {f' : Nat} (L : Live l rw_ p f rain bars water now0 lost missed shut past st) (k : Keep [] st s)
    (h1 : s'[l]? = some (.ins 20 (LF rw_ water' now' lost' missed' shut' p f'))) (h2 : s'[p]? = some (.lst ((past ++ [(op, ST water now0 lost missed shut)]).map pr))) (h3 : s'[f']? = some (.lst [])) (h4 : s.length ≤ f') (h5 : Keep [l, p] s s') :
    After l rw_ p rain bars water' now' lost' missed' shut' (past ++ [(op, ST water now0 lost missed shut)]) st s' := by
  have := L.row; have := L.rl; have := L.rp; have := L.pl
  exact ⟨f', ⟨by (first | array_get_dec | fail), h1, h2, L.pl, L.rl, L.rp⟩, h3, by (first | sizeOf_list_dec | fail), by (first | sizeOf_list_dec | fail)⟩
theorem pour_spec {amount : Int} {t : Nat} (L : Live l rw_ p f rain bars water now lost missed shut past st) (hb : ∀ b ∈ bars, b.Ok t) (t0 : 0 < t) (hl : water.length = bars.length) (hs : bars.length ≤ 1000) (hp : past.length ≤ 1000) :
    WpR (f_LiveRow_pour [.ref l, .int amount] st) (fun v s => (0 ≤ amount ∧ amount ≤ 1000000) ∧ v = .int (tickT now amount shut (bars.zip water)).flow ∧
      After l rw_ p rain bars (tickT now amount shut (bars.zip water)).found ((now + 1 : Nat) : Int) (lost + (tickT now amount shut (bars.zip water)).flow) (missed + (tickT now amount shut (bars.zip water)).missed) shut (past ++ [(.tup [.str "pour", .int amount], ST water now lost missed shut)]) st s)
      (fun x s => ¬(0 ≤ amount ∧ amount ≤ 1000000) ∧ x = ⟨4, []⟩ ∧ Keep [] st s) := by
  have h1 := L.row; have h2 := L.at_; have h3 := L.pst; have h4 := L.pl
  refine Vc.b_def rfl ?_
  unfold m_LiveRow_pour
  repeat' (first | array_mem_dec | fail)
  refine Vc.via val_spec (fun v s hv => ?_) (fun x s hx => ⟨hx.2.2, hx.1, by rw [hx.2.1]; (first | sizeOf_list_dec | fail)⟩)
  obtain ⟨rfl, rfl, ha⟩ := hv
  repeat' (first | array_mem_dec | fail)
  refine Vc.via0 (next_tick_spec hb t0 hl hs h1) fun v s1 hv => ?_
  obtain ⟨rfl, k1⟩ := hv
  generalize tickT now amount shut (bars.zip water) = T at *
  repeat' (first | array_mem_dec | fail)
  have h2' : s1[l]? = some (.ins 20 (LF rw_ water now lost missed shut p f)) := by (first | array_get_dec | fail)
  have h3' : s1[p]? = some (.lst (past.map pr)) := by (first | array_get_dec | fail)
  refine Vc.via0 (commit_spec (water' := T.found) (now' := now + 1) (lost' := lost + T.flow) (missed' := missed + T.missed) (shut' := shut) h2' h3' h4 hp) fun v s2 hv => ?_
  obtain ⟨rfl, f', g1, g2, g3, g4, g5⟩ := hv
  repeat' (first | array_mem_dec | fail)
  exact ⟨ha, rfl, after_commit L k1 g1 g2 g3 g4 g5⟩
theorem set_cut {ws : List Int} {i : Nat} {w : Int} (h : i < ws.length) (x : Int) : (ws.map Val.int).take i ++ [.int x] ++ (ws.map Val.int).drop (i + 1) = (ws.set i x).map .int := by
  rw [List.set_eq_take_append_cons_drop, if_pos h, List.map_append, List.map_cons, List.map_take, List.map_drop]; simp
theorem scoop_spec {n : Str} {amount : Int} (L : Live l rw_ p f rain bars water now lost missed shut past st) (hl : water.length = bars.length) (hs : bars.length ≤ 1000) (hp : past.length ≤ 1000) :
    WpR (f_LiveRow_scoop [.ref l, .str n, .int amount] st) (fun v s => n ∈ bars.map Bar.nm ∧ (1 ≤ amount ∧ amount ≤ 1000000000) ∧ ∃ w, water[(bars.map Bar.nm).idxOf n]? = some w ∧ v = .int (min amount w) ∧
      After l rw_ p rain bars (water.set ((bars.map Bar.nm).idxOf n) (w - min amount w)) now lost missed shut (past ++ [(.tup [.str "scoop", .str n, .int amount], ST water now lost missed shut)]) st s)
      (fun x s => (n ∉ bars.map Bar.nm ∧ x = ⟨2, [(26, .str n)]⟩ ∨ n ∈ bars.map Bar.nm ∧ ¬(1 ≤ amount ∧ amount ≤ 1000000000) ∧ x = ⟨4, []⟩) ∧ Keep [] st s) := by
  have h1 := L.row; have h2 := L.at_; have h3 := L.pst; have h4 := L.pl
  refine Vc.b_def rfl ?_
  unfold m_LiveRow_scoop
  repeat' (first | array_mem_dec | fail)
  refine Vc.via (place_spec hs h1) (fun v s1 hv => ?_) (fun x s hx => ⟨.inl ⟨hx.2.1, hx.1⟩, hx.2.2⟩)
  obtain ⟨rfl, hn, k1⟩ := hv
  have hi : (bars.map Bar.nm).idxOf n < water.length := by
    have := List.idxOf_lt_length_iff.mpr hn
    rw [List.length_map] at this; omega
  generalize (bars.map Bar.nm).idxOf n = i at *
  have hw : water[i]? = some water[i] := List.getElem?_eq_getElem hi
  generalize water[i] = w at *
  repeat' (first | array_mem_dec | fail)
  refine Vc.via val_spec (fun v s2 hv => ?_) (fun x s hx => ⟨.inr ⟨hn, hx.2.2, hx.1⟩, by rw [hx.2.1]; exact k1⟩)
  obtain ⟨rfl, rfl, ha⟩ := hv
  repeat' (first | array_mem_dec | fail)
  refine Vc.v_ixTn hw ?_
  repeat' (first | array_mem_dec | fail)
  refine Vc.v_ixTn hw ?_
  repeat' (first | array_mem_dec | fail)
  rw [Vc.cut_take]
  repeat' (first | array_mem_dec | fail)
  refine Vc.v_addT (by simp; omega) ?_
  repeat' (first | array_mem_dec | fail)
  rw [show ((i : Int) + 1) = ((i + 1 : Nat) : Int) from rfl, Vc.cut_drop]
  refine Vc.v_addT (by simp; omega) ?_
  rw [set_cut (w := w) hi]
  repeat' (first | array_mem_dec | fail)
  have h2' : s2[l]? = some (.ins 20 (LF rw_ water now lost missed shut p f)) := by (first | array_get_dec | fail)
  have h3' : s2[p]? = some (.lst (past.map pr)) := by (first | array_get_dec | fail)
  refine Vc.via0 (commit_spec (water' := water.set i (w - min amount w)) (now' := now) (lost' := lost) (missed' := missed) (shut' := shut) h2' h3' h4 hp) fun v s3 hv => ?_
  obtain ⟨rfl, f', g1, g2, g3, g4, g5⟩ := hv
  repeat' (first | array_mem_dec | fail)
  exact ⟨hn, ha, w, hw, rfl, after_commit L k1 g1 g2 g3 g4 g5⟩
theorem lock_spec {n : Str} (L : Live l rw_ p f rain bars water now lost missed shut past st) (hs : bars.length ≤ 1000) (hp : past.length ≤ 1000) (hh : shut.length ≤ 1000) :
    WpR (f_LiveRow_lock [.ref l, .str n] st) (fun v s => n ∈ bars.map Bar.nm ∧ v = .bl (!decide (n ∈ shut)) ∧
      After l rw_ p rain bars water now lost missed (if n ∈ shut then shut else shut ++ [n]) (past ++ [(.tup [.str "lock", .str n], ST water now lost missed shut)]) st s)
      (fun x s => n ∉ bars.map Bar.nm ∧ x = ⟨2, [(26, .str n)]⟩ ∧ Keep [] st s) := by
  have h1 := L.row; have h2 := L.at_; have h3 := L.pst; have h4 := L.pl
  refine Vc.b_def rfl ?_
  unfold m_LiveRow_lock
  repeat' (first | array_mem_dec | fail)
  refine Vc.via (place_spec hs h1) (fun v s1 hv => ?_) (fun x s hx => ⟨hx.2.1, hx.1, hx.2.2⟩)
  obtain ⟨rfl, hn, k1⟩ := hv
  have h2' : s1[l]? = some (.ins 20 (LF rw_ water now lost missed shut p f)) := by (first | array_get_dec | fail)
  have h3' : s1[p]? = some (.lst (past.map pr)) := by (first | array_get_dec | fail)
  repeat' (first | array_mem_dec | fail)
  refine Vc.v_ninTs ?_
  repeat' (first | array_mem_dec | fail)
  refine Vc.ite_nd (fun q => ?_) (fun q => ?_)
  · repeat' (first | array_mem_dec | fail)
    refine Vc.via0 (commit_spec (water' := water) (now' := now) (lost' := lost) (missed' := missed) (shut' := shut) h2' h3' h4 hp) fun v s3 hv => ?_
    obtain ⟨rfl, f', g1, g2, g3, g4, g5⟩ := hv
    repeat' (first | array_mem_dec | fail)
    rw [if_pos q]
    exact ⟨hn, rfl, after_commit L k1 g1 g2 g3 g4 g5⟩
  · repeat' (first | array_mem_dec | fail)
    rw [show shut.map Val.str ++ [.str n] = (shut ++ [n]).map .str by simp]
    refine Vc.via0 (commit_spec (water' := water) (now' := now) (lost' := lost) (missed' := missed) (shut' := shut ++ [n]) h2' h3' h4 hp) fun v s3 hv => ?_
    obtain ⟨rfl, f', g1, g2, g3, g4, g5⟩ := hv
    repeat' (first | array_mem_dec | fail)
    rw [if_neg q]
    exact ⟨hn, rfl, after_commit L k1 g1 g2 g3 g4 g5⟩
theorem unlock_spec {n : Str} (L : Live l rw_ p f rain bars water now lost missed shut past st) (hs : bars.length ≤ 1000) (hp : past.length ≤ 1000) (hh : shut.length ≤ 1000) :
    WpR (f_LiveRow_unlock [.ref l, .str n] st) (fun v s => n ∈ bars.map Bar.nm ∧ v = .bl (decide (n ∈ shut)) ∧
      After l rw_ p rain bars water now lost missed (shut.filter fun z => !decide (z = n)) (past ++ [(.tup [.str "unlock", .str n], ST water now lost missed shut)]) st s)
      (fun x s => n ∉ bars.map Bar.nm ∧ x = ⟨2, [(26, .str n)]⟩ ∧ Keep [] st s) := by
  have h1 := L.row; have h2 := L.at_; have h3 := L.pst; have h4 := L.pl
  refine Vc.b_def rfl ?_
  unfold m_LiveRow_unlock
  repeat' (first | array_mem_dec | fail)
  refine Vc.via (place_spec hs h1) (fun v s1 hv => ?_) (fun x s hx => ⟨hx.2.1, hx.1, hx.2.2⟩)
  obtain ⟨rfl, hn, k1⟩ := hv
  have h2' : s1[l]? = some (.ins 20 (LF rw_ water now lost missed shut p f)) := by (first | array_get_dec | fail)
  repeat' (first | array_mem_dec | fail)
  refine Vc.lc_pure (fun z : Str => !decide (z = n)) (fun z => .str z) (fun _ => trivial) (by omega) (fun c hc acc => ?_) ?_
  · repeat' (first | array_mem_dec | fail)
    refine ⟨rfl, rfl, fun _ => ?_⟩
    repeat' (first | array_mem_dec | fail)
    exact ⟨rfl, rfl⟩
  repeat' (first | array_mem_dec | fail)
  rename_i D s2 hD k2 hDl
  have h2' : s2[l]? = some (.ins 20 (LF rw_ water now lost missed shut p f)) := by (first | array_get_dec | fail)
  have h3' : s2[p]? = some (.lst (past.map pr)) := by (first | array_get_dec | fail)
  refine Vc.via0 (commit_spec (water' := water) (now' := now) (lost' := lost) (missed' := missed) (shut' := shut.filter fun z => !decide (z = n)) h2' h3' h4 hp) fun v s3 hv => ?_
  obtain ⟨rfl, f', g1, g2, g3, g4, g5⟩ := hv
  repeat' (first | array_mem_dec | fail)
  refine ⟨hn, ?_, after_commit L (k1.trans k2) g1 g2 g3 g4 g5⟩
  rw [List.length_map, List.length_map]
  congr 1
  rw [decide_eq_decide]
  have e := List.length_filter_lt_length_iff_exists (l := shut) (p := fun z => !decide (z = n))
  rw [Int.ofNat_lt, e]
  simp
end
def WD (parts names levels now lost missed locked history : Val) : List (Key × Val) := [(.inr "parts", parts), (.inr "names", names), (.inr "levels", levels), (.inr "now", now), (.inr "lost", lost), (.inr "missed", missed), (.inr "locked", locked), (.inr "history", history)]
section
variable {parts names levels now lost missed locked history x : Val}
end
/-- the law's own books -/
structure WS (w nl lv lk hs : Nat) (rain : List Int) (bars : List Bar) (levels : List Int) (now : Nat) (lost missed : Int) (locked : List Str) (hist : List Val) (s : Store) : Prop where
  at_ : s[w]? = some (.dct (WD (.tup [.tup (rain.map .int), .tup (bars.map Bar.val)]) (.ref nl) (.ref lv) (.int now) (.int lost) (.int missed) (.ref lk) (.ref hs)))
  nms : s[nl]? = some (.lst ((bars.map Bar.nm).map .str))
  lev : s[lv]? = some (.lst (levels.map .int))
  loc : s[lk]? = some (.lst (locked.map .str))
  his : s[hs]? = some (.lst hist)
  d1 : hs ≠ w
  d2 : hs ≠ nl
  d3 : hs ≠ lv
  d4 : hs ≠ lk
  d5 : lv ≠ w
  d6 : lv ≠ nl
  d7 : lv ≠ lk
  d8 : nl ≠ w
  d9 : lk ≠ w
section
variable {w nl lv lk hs : Nat} {rain : List Int} {bars : List Bar} {levels : List Int} {now : Nat} {lost missed : Int} {locked : List Str} {hist : List Val} {st : Store}
theorem WS.keep {s' : Store} {S : List Nat} (h : WS w nl lv lk hs rain bars levels now lost missed locked hist st) (k : Keep S st s') (h1 : w ∉ S) (h2 : nl ∉ S) (h3 : lv ∉ S) (h4 : lk ∉ S) (h5 : hs ∉ S) : WS w nl lv lk hs rain bars levels now lost missed locked hist s' :=
  ⟨k.get h.at_ h1, k.get h.nms h2, k.get h.lev h3, k.get h.loc h4, k.get h.his h5, h.d1, h.d2, h.d3, h.d4, h.d5, h.d6, h.d7, h.d8, h.d9⟩
theorem pour_due_spec {amount : Int} {t : Nat} (W : WS w nl lv lk hs rain bars levels now lost missed locked hist st) (hb : ∀ b ∈ bars, b.Ok t) (t0 : 0 < t) (hl : levels.length = bars.length) (hs' : bars.length ≤ 1000) (hh : hist.length ≤ 1000) :
    WpR (f_law_pour_due [.ref w, .int amount] st) (fun v s => (¬(0 ≤ amount ∧ amount ≤ 1000000) ∧ v = .tup [.str "number"] ∧ Keep [] st s) ∨ ((0 ≤ amount ∧ amount ≤ 1000000) ∧ v = .tup [.str "value", .int (tickT now amount locked (bars.zip levels)).flow] ∧
      ∃ lv', WS w nl lv' lk hs rain bars (tickT now amount locked (bars.zip levels)).found (now + 1) (lost + (tickT now amount locked (bars.zip levels)).flow) (missed + (tickT now amount locked (bars.zip levels)).missed) locked (hist ++ [.tup [.str "pour", .int amount]]) s ∧ st.length ≤ lv' ∧ Keep [w, hs] st s)) (fun _ _ => False) := by
  have h1 := W.at_; have h2 := W.nms; have h3 := W.lev; have h4 := W.loc; have h5 := W.his; have e1 := W.d1; have e2 := W.d2; have e3 := W.d3; have e4 := W.d4; have e5 := W.d5; have e6 := W.d6; have e7 := W.d7; have e8 := W.d8; have e9 := W.d9
  refine Vc.b_def rfl ?_
  unfold m_law_pour_due
  repeat' (first | array_mem_dec | fail)
  refine Vc.ite_nd (fun ha => ?_) (fun ha => ?_)
  · repeat' (first | array_mem_dec | fail)
    refine Vc.via0 (law_tick_spec hb t0 hl hs' h3 h4) fun v s1 hv => ?_
    obtain ⟨F, rfl, hF, k1, hFl⟩ := hv
    generalize tickT now amount locked (bars.zip levels) = T at *
    have nF : F ≠ w ∧ F ≠ nl ∧ F ≠ lk ∧ F ≠ hs := by
      have := Vc.lt_of h1; have := Vc.lt_of h2; have := Vc.lt_of h4; have := Vc.lt_of h5; omega
    repeat' (first | array_mem_dec | fail)
    rename_i s2 g2 k2 s3 g3 k3 s4 g4 k4 s5 g5 k5 s6 g6 k6
    refine .inr ⟨ha, rfl, F, ⟨?_, by (first | array_get_dec | fail), by (first | array_get_dec | fail), by (first | array_get_dec | fail), g6, e1, e2, nF.2.2.2.symm, e4, nF.1, nF.2.1, nF.2.2.1, e8, e9⟩, hFl, by (first | sizeOf_list_dec | fail)⟩
    have : s6[w]? = _ := k6.get g5 (by simp; omega)
    rw [this]; rfl
  · repeat' (first | array_mem_dec | fail)
    exact .inl ⟨ha, rfl, by (first | sizeOf_list_dec | fail)⟩
theorem scoop_due_spec {n : Str} {amount : Int} (W : WS w nl lv lk hs rain bars levels now lost missed locked hist st) (hl : levels.length = bars.length) (hs' : bars.length ≤ 1000) (hh : hist.length ≤ 1000) :
    WpR (f_law_scoop_due [.ref w, .str n, .int amount] st) (fun v s => (n ∉ bars.map Bar.nm ∧ v = .tup [.str "barrel", .str n] ∧ Keep [] st s) ∨ (n ∈ bars.map Bar.nm ∧ ¬(1 ≤ amount ∧ amount ≤ 1000000000) ∧ v = .tup [.str "number"] ∧ Keep [] st s) ∨
      (n ∈ bars.map Bar.nm ∧ (1 ≤ amount ∧ amount ≤ 1000000000) ∧ ∃ x, levels[(bars.map Bar.nm).idxOf n]? = some x ∧ v = .tup [.str "value", .int (min amount x)] ∧
        WS w nl lv lk hs rain bars (levels.set ((bars.map Bar.nm).idxOf n) (x - min amount x)) now lost missed locked (hist ++ [.tup [.str "scoop", .str n, .int amount]]) s ∧ Keep [lv, hs] st s)) (fun _ _ => False) := by
  have h1 := W.at_; have h2 := W.nms; have h3 := W.lev; have h4 := W.loc; have h5 := W.his; have e1 := W.d1; have e2 := W.d2; have e3 := W.d3; have e4 := W.d4; have e5 := W.d5; have e6 := W.d6; have e7 := W.d7; have e8 := W.d8; have e9 := W.d9
  refine Vc.b_def rfl ?_
  unfold m_law_scoop_due
  repeat' (first | array_mem_dec | fail)
  refine Vc.v_ninLs (by (first | array_get_dec | fail)) ?_
  repeat' (first | array_mem_dec | fail)
  refine Vc.ite_nd (fun hn => ?_) (fun hn => ?_)
  · have hi : (bars.map Bar.nm).idxOf n < levels.length := by
      have := List.idxOf_lt_length_iff.mpr hn
      rw [List.length_map] at this; omega
    repeat' (first | array_mem_dec | fail)
    refine Vc.ite_nd (fun ha => ?_) (fun ha => ?_)
    · repeat' (first | array_mem_dec | fail)
      refine Vc.v_idxL (by (first | array_get_dec | fail)) hn ?_
      generalize (bars.map Bar.nm).idxOf n = i at *
      have hw : levels[i]? = some levels[i] := List.getElem?_eq_getElem hi
      generalize levels[i] = x at *
      repeat' (first | array_mem_dec | fail)
      refine Vc.v_ixLn (f := .int) (by (first | array_get_dec | fail)) hw ?_
      repeat' (first | array_mem_dec | fail)
      refine Vc.v_ixLn (f := .int) (by (first | array_get_dec | fail)) hw ?_
      repeat' (first | array_mem_dec | fail)
      refine Vc.ex_subL (by (first | array_get_dec | fail)) (j := i) (by unfold L2.ixN; rw [List.length_map, if_pos (by omega), if_pos (by omega), Int.toNat_natCast]) ?_
      repeat' (first | array_mem_dec | fail)
      rename_i s1 g1 k1 s2 g2 k2
      rw [← List.map_set] at g1
      refine .inr (.inr ⟨hn, ha, x, hw, rfl, ⟨by (first | array_get_dec | fail), by (first | array_get_dec | fail), by (first | array_get_dec | fail), by (first | array_get_dec | fail), g2, e1, e2, e3, e4, e5, e6, e7, e8, e9⟩, by (first | sizeOf_list_dec | fail)⟩)
    · repeat' (first | array_mem_dec | fail)
      exact .inr (.inl ⟨hn, ha, rfl, by (first | sizeOf_list_dec | fail)⟩)
  · repeat' (first | array_mem_dec | fail)
    exact .inl ⟨hn, rfl, by (first | sizeOf_list_dec | fail)⟩
theorem lock_due_spec {n word : Str} (W : WS w nl lv lk hs rain bars levels now lost missed locked hist st) (hh : hist.length ≤ 1000) (hk : locked.length ≤ 1000) :
    WpR (f_law_lock_due [.ref w, .str word, .str n] st) (fun v s => (n ∉ bars.map Bar.nm ∧ v = .tup [.str "barrel", .str n] ∧ Keep [] st s) ∨
      (n ∈ bars.map Bar.nm ∧ v = .tup [.str "value", .bl (decide (decide (n ∈ locked) = decide (word = "unlock")))] ∧ ∃ lk', WS w nl lv lk' hs rain bars levels now lost missed (locked.filter (fun z => !decide (z = n)) ++ if word = "lock" then [n] else []) (hist ++ [.tup [.str word, .str n]]) s ∧ st.length ≤ lk' ∧ Keep [w, hs] st s)) (fun _ _ => False) := by
  have h1 := W.at_; have h2 := W.nms; have h3 := W.lev; have h4 := W.loc; have h5 := W.his; have e1 := W.d1; have e2 := W.d2; have e3 := W.d3; have e4 := W.d4; have e5 := W.d5; have e6 := W.d6; have e7 := W.d7; have e8 := W.d8; have e9 := W.d9
  refine Vc.b_def rfl ?_
  unfold m_law_lock_due
  repeat' (first | array_mem_dec | fail)
  refine Vc.v_ninLs (by (first | array_get_dec | fail)) ?_
  repeat' (first | array_mem_dec | fail)
  refine Vc.ite_nd (fun hn => ?_) (fun hn => ?_)
  · repeat' (first | array_mem_dec | fail)
    refine Vc.v_inLs (by (first | array_get_dec | fail)) ?_
    repeat' (first | array_mem_dec | fail)
    refine Vc.lc_pure (fun z : Str => !decide (z = n)) (fun z => .str z) (fun acc => Ab.seqAt_lst (by (first | array_get_dec | fail))) (by omega) (fun c hc acc => ?_) ?_
    · repeat' (first | array_mem_dec | fail)
      refine ⟨rfl, rfl, fun _ => ?_⟩
      repeat' (first | array_mem_dec | fail)
      exact ⟨rfl, rfl⟩
    repeat' (first | array_mem_dec | fail)
    refine Vc.v_repL (by (first | array_get_dec | fail)) ⟨by split <;> omega, by split <;> omega, by simp⟩ ?_
    rw [show Ab.repW' (if decide (word = "lock") = true then (1 : Int) else 0).toNat [Val.str n] = (if word = "lock" then [n] else []).map Val.str by by_cases q : word = "lock" <;> simp [q, Ab.repW']]
    repeat' (first | array_mem_dec | fail)
    rename_i F1 s1 g1 k1 l1 F2 s2 g2 k2 l2 F3 s3 g3 k3 l3
    refine Vc.v_addL (by (first | array_get_dec | fail)) (by (first | array_get_dec | fail)) (by have := List.length_filter_le (fun z => !decide (z = n)) locked; simp only [List.length_map]; split <;> simp <;> omega) ?_
    repeat' (first | array_mem_dec | fail)
    rename_i F4 s4 g4 k4 l4 s5 g5 k5 s6 g6 k6
    rw [show (fun z : Str => Val.str z) = Val.str from rfl, ← List.map_append] at g4
    have lw := Vc.lt_of h1; have ln := Vc.lt_of h2; have lv' := Vc.lt_of h3; have lk' := Vc.lt_of h4; have lh := Vc.lt_of h5
    have q1 := k1.1; have q2 := k2.1; have q3 := k3.1
    have nF : F4 ≠ w ∧ F4 ≠ nl ∧ F4 ≠ lv ∧ F4 ≠ hs := by omega
    refine .inr ⟨hn, rfl, F4, ⟨?_, by (first | array_get_dec | fail), by (first | array_get_dec | fail), by (first | array_get_dec | fail), g6, e1, e2, e3, nF.2.2.2.symm, e5, e6, nF.2.2.1.symm, e8, nF.1⟩, by (first | sizeOf_list_dec | fail), by (first | sizeOf_list_dec | fail)⟩
    have : s6[w]? = _ := k6.get g5 (by simp; omega)
    rw [this]; rfl
  · repeat' (first | array_mem_dec | fail)
    exact .inl ⟨hn, rfl, by (first | sizeOf_list_dec | fail)⟩
end
section
variable {l rw_ p f : Nat} {rain : List Int} {bars : List Bar} {water : List Int} {now : Nat} {lost missed : Int} {shut : List Str} {past : List (Val × Val)} {st : Store}
theorem lnow_spec (L : Live l rw_ p f rain bars water now lost missed shut past st) : WpR (f_LiveRow_now [.ref l] st) (fun v s => v = .int now ∧ s = st) (fun _ _ => False) := by
  have h2 := L.at_
  refine Vc.b_def rfl ?_
  unfold m_LiveRow_now
  repeat' (first | array_mem_dec | fail)
  exact ⟨rfl, rfl⟩
theorem llost_spec (L : Live l rw_ p f rain bars water now lost missed shut past st) : WpR (f_LiveRow_lost_water [.ref l] st) (fun v s => v = .int lost ∧ s = st) (fun _ _ => False) := by
  have h2 := L.at_
  refine Vc.b_def rfl ?_
  unfold m_LiveRow_lost_water
  repeat' (first | array_mem_dec | fail)
  exact ⟨rfl, rfl⟩
theorem lmissed_spec (L : Live l rw_ p f rain bars water now lost missed shut past st) : WpR (f_LiveRow_missed_water [.ref l] st) (fun v s => v = .int missed ∧ s = st) (fun _ _ => False) := by
  have h2 := L.at_
  refine Vc.b_def rfl ?_
  unfold m_LiveRow_missed_water
  repeat' (first | array_mem_dec | fail)
  exact ⟨rfl, rfl⟩
theorem zip_sub : ∀ (bars : List Bar) (water : List Int), ((bars.zip water).map fun p => p.1.nm).Sublist (bars.map Bar.nm)
  | [], _ => by simp
  | _ :: _, [] => by simp
  | b :: bs, w :: ws => by simpa using zip_sub bs ws
theorem zip_nodup {bars : List Bar} {water : List Int} (nd : (bars.map Bar.nm).Nodup) : ((bars.zip water).map fun p => p.1.nm).Nodup := nd.sublist (zip_sub bars water)
theorem levels_spec (L : Live l rw_ p f rain bars water now lost missed shut past st) (nd : (bars.map Bar.nm).Nodup) (hb : bars.length ≤ 900) : WpR (f_LiveRow_levels [.ref l] st) (fun v s => ∃ D, v = .ref D ∧ s[D]? = some (.dct ((bars.zip water).map fun p => (.inr p.1.nm, .int p.2))) ∧ Keep [] st s) (fun _ _ => False) := by
  have h1 := L.row; have h2 := L.at_
  refine Vc.b_def rfl ?_
  unfold m_LiveRow_levels
  repeat' (first | array_mem_dec | fail)
  rw [Vc.zip_map]
  refine Vc.dc_pure (fun p : Bar × Int => p.1.nm) (fun p => .int p.2) (zip_nodup nd) (fun _ => ⟨trivial, trivial⟩) (by rw [List.length_zip]; omega) (fun c hc acc => ?_) ?_
  · simp only [Bar.val_eq]
    repeat' (first | array_mem_dec | fail)
    refine ⟨rfl, rfl, ?_⟩
    repeat' (first | array_mem_dec | fail)
    exact ⟨rfl, rfl⟩
  repeat' (first | array_mem_dec | fail)
  exact ⟨_, rfl, by (first | array_get_dec | fail), by (first | sizeOf_list_dec | fail)⟩
theorem locked_spec (L : Live l rw_ p f rain bars water now lost missed shut past st) (hb : bars.length ≤ 1000) : WpR (f_LiveRow_locked_names [.ref l] st) (fun v s => ∃ D, v = .ref D ∧ s[D]? = some (.lst (((bars.map Bar.nm).filter fun z => decide (z ∈ shut)).map .str)) ∧ Keep [] st s ∧ st.length ≤ D) (fun _ _ => False) := by
  have h1 := L.row; have h2 := L.at_
  refine Vc.b_def rfl ?_
  unfold m_LiveRow_locked_names
  repeat' (first | array_mem_dec | fail)
  refine Vc.lc_pure (fun b : Bar => decide (b.nm ∈ shut)) (fun b => .str b.nm) (fun _ => trivial) (by omega) (fun c hc acc => ?_) ?_
  · simp only [Bar.val_eq]
    repeat' (first | array_mem_dec | fail)
    refine Vc.v_inTs ?_
    repeat' (first | array_mem_dec | fail)
    refine ⟨rfl, rfl, fun _ => ?_⟩
    repeat' (first | array_mem_dec | fail)
    exact ⟨rfl, rfl⟩
  repeat' (first | array_mem_dec | fail)
  rename_i D s1 h3 k3 l3
  refine ⟨_, rfl, ?_, by (first | sizeOf_list_dec | fail), by (first | sizeOf_list_dec | fail)⟩
  rw [h3, List.filter_map, List.map_map]; rfl
theorem history_spec (L : Live l rw_ p f rain bars water now lost missed shut past st) (hb : past.length ≤ 1000) : WpR (f_LiveRow_history [.ref l] st) (fun v s => ∃ D, v = .ref D ∧ s[D]? = some (.lst (past.map (·.1))) ∧ Keep [] st s ∧ st.length ≤ D) (fun _ _ => False) := by
  have h1 := L.row; have h2 := L.at_; have h3 := L.pst
  refine Vc.b_def rfl ?_
  unfold m_LiveRow_history
  repeat' (first | array_mem_dec | fail)
  refine Vc.lc_map (fun p : Val × Val => p.1) (fun acc => Ab.seqAt_lst (by (first | array_get_dec | fail))) (by omega) (fun c hc acc => ?_) ?_
  · show WpG (Se.gTupM 2 _ (.tup [c.1, c.2]) _ _) _
    repeat' (first | array_mem_dec | fail)
    exact ⟨rfl, rfl⟩
  repeat' (first | array_mem_dec | fail)
  exact ⟨_, rfl, by (first | array_get_dec | fail), by (first | sizeOf_list_dec | fail), by (first | sizeOf_list_dec | fail)⟩
theorem told_spec (L : Live l rw_ p f rain bars water now lost missed shut past st) (nd : (bars.map Bar.nm).Nodup) (hb : bars.length ≤ 900) (hp : past.length ≤ 1000) :
    WpR (f_law_told [.ref l] st) (fun v s => ∃ T A B C, v = .ref T ∧ s[T]? = some (.lst [.int now, .ref A, .int lost, .int missed, .ref B, .ref C]) ∧ s[A]? = some (.lst ((bars.zip water).map fun p => .tup [.str p.1.nm, .int p.2])) ∧ s[B]? = some (.lst (((bars.map Bar.nm).filter fun z => decide (z ∈ shut)).map .str)) ∧ s[C]? = some (.lst (past.map (·.1))) ∧ Keep [] st s) (fun _ _ => False) := by
  have h1 := L.row; have h2 := L.at_; have h3 := L.pst
  refine Vc.b_def rfl ?_
  unfold m_law_told
  repeat' (first | array_mem_dec | fail)
  refine Vc.via0 (lnow_spec L) fun v s hv => ?_
  obtain ⟨rfl, rfl⟩ := hv
  repeat' (first | array_mem_dec | fail)
  refine Vc.via0 (levels_spec L nd hb) fun v s1 hv => ?_
  obtain ⟨D, rfl, hD, k1⟩ := hv
  repeat' (first | array_mem_dec | fail)
  rename_i A s2 hA k2 lA
  have k12 := k1.trans k2
  have L2 := L.keep k12 (by simp) (by simp) (by simp)
  have g2 := L2.at_
  refine Vc.via0 (llost_spec L2) fun v s hv => ?_
  obtain ⟨rfl, rfl⟩ := hv
  repeat' (first | array_mem_dec | fail)
  refine Vc.via0 (lmissed_spec L2) fun v s hv => ?_
  obtain ⟨rfl, rfl⟩ := hv
  repeat' (first | array_mem_dec | fail)
  rename_i F s3 hF k3 lF
  have L3 := L2.keep k3 (by simp) (by simp) (by simp)
  have g3 := L3.at_
  refine Vc.via0 (locked_spec L3 (by omega)) fun v s4 hv => ?_
  obtain ⟨B, rfl, hB, k4, lB⟩ := hv
  have L4 := L3.keep k4 (by simp) (by simp) (by simp)
  have g4 := L4.at_
  repeat' (first | array_mem_dec | fail)
  refine Vc.via0 (history_spec L4 hp) fun v s5 hv => ?_
  obtain ⟨C, rfl, hC, k5, lC⟩ := hv
  repeat' (first | array_mem_dec | fail)
  rename_i G s6 hG k6 lG T s7 hT k7 lT
  have hA' : s[A]? = some (Cell.lst ((bars.zip water).map fun p => Val.tup [Val.str p.1.nm, Val.int p.2])) := by rw [hA, List.map_map]; rfl
  exact ⟨T, A, B, C, rfl, hT, by (first | array_get_dec | fail), by (first | array_get_dec | fail), by (first | array_get_dec | fail), by (first | sizeOf_list_dec | fail)⟩
end

noncomputable def t_law : MS := (Se.sSeq (Se.sSet 13 (Se.mLc (Se.iRange1 (Se.aCons (Se.mApp Ab.bLen (Se.aCons (Se.mVar 4) (Se.aNil))) (Se.aNil))) (Se.gSet 14) (Se.mYes) (Se.mTup (Se.aCons (Se.mBin Ab.vIx (Se.mVar 4) (Se.mVar 14)) (Se.aCons (Se.mBin Ab.vIx (Se.mDget (Se.mVar 6) (Se.mC (.str "levels"))) (Se.mVar 14)) (Se.aNil)))) [14])) (Se.sSeq (Se.sSet 15 (Se.mLc (Se.iSeqM (Se.mVar 4)) (Se.gSet 16) (Se.mTest (Se.mBin Ab.vIn (Se.mVar 16) (Se.mDget (Se.mVar 6) (Se.mC (.str "locked"))))) (Se.mVar 16) [16])) (Se.sSeq (Se.sSet 17 (Se.mLst (Se.aCons (Se.mDget (Se.mVar 6) (Se.mC (.str "now"))) (Se.aCons (Se.mVar 13) (Se.aCons (Se.mDget (Se.mVar 6) (Se.mC (.str "lost"))) (Se.aCons (Se.mDget (Se.mVar 6) (Se.mC (.str "missed"))) (Se.aCons (Se.mVar 15) (Se.aCons (Se.mDget (Se.mVar 6) (Se.mC (.str "history"))) (Se.aNil))))))))) (Se.sIf (Se.tOrM (Se.tNotM (Se.mTest (Se.mApp (f_law_alike 6) (Se.aCons (Se.mVar 11) (Se.aCons (Se.mVar 12) (Se.aNil)))))) (Se.tNotM (Se.mTest (Se.mApp (f_law_alike 6) (Se.aCons (Se.mApp f_law_told (Se.aCons (Se.mVar 3) (Se.aNil))) (Se.aCons (Se.mVar 17) (Se.aNil))))))) (Se.sRet (Se.mC (.bl false))) (Se.sNext)))))
structure LD where
  water : List Int
  now : Nat
  lost : Int
  missed : Int
  shut : List Str
  past : List (Val × Val)
structure BD where
  levels : List Int
  now : Nat
  lost : Int
  missed : Int
  locked : List Str
  hist : List Val
/-- the draws', the live row's and the books' cells side by side -/
structure J (h c l rw_ p f w nl hs lv lk : Nat) (rain : List Int) (bars : List Bar) (x : LD) (y : BD) (s : Store) : Prop where
  dr : Draws h c s
  live : Live l rw_ p f rain bars x.water x.now x.lost x.missed x.shut x.past s
  book : WS w nl lv lk hs rain bars y.levels y.now y.lost y.missed y.locked y.hist s
  ab : Vc.Dis [h, c] [l, rw_, p]
  ac : Vc.Dis [h, c] [w, nl, hs, lv, lk]
  bc : Vc.Dis [l, rw_, p] [w, nl, hs, lv, lk]
section
variable {h c l rw_ p f w nl hs lv lk : Nat} {rain : List Int} {bars : List Bar} {x : LD} {y : BD} {s s' : Store}
theorem J.keepA (j : J h c l rw_ p f w nl hs lv lk rain bars x y s) (k : Keep [h, c] s s') (d : Draws h c s') : J h c l rw_ p f w nl hs lv lk rain bars x y s' :=
  ⟨d, j.live.keep k (j.ab.symm _ (by simp)) (j.ab.symm _ (by simp)) (j.ab.symm _ (by simp)), j.book.keep k (j.ac.symm _ (by simp)) (j.ac.symm _ (by simp)) (j.ac.symm _ (by simp)) (j.ac.symm _ (by simp)) (j.ac.symm _ (by simp)), j.ab, j.ac, j.bc⟩
theorem J.keep0 (j : J h c l rw_ p f w nl hs lv lk rain bars x y s) (k : Keep [] s s') : J h c l rw_ p f w nl hs lv lk rain bars x y s' := j.keepA k.nil (j.dr.keep k (by simp) (by simp))
theorem J.ltA (j : J h c l rw_ p f w nl hs lv lk rain bars x y s) : ∀ z ∈ [h, c], z < s.length := by
  obtain ⟨_, _, _, e1, e2, _⟩ := j.dr
  intro z hz
  simp only [List.mem_cons, List.not_mem_nil, or_false] at hz
  rcases hz with e | e <;> subst e
  · exact Vc.lt_of e1
  · exact Vc.lt_of e2
theorem J.ltB (j : J h c l rw_ p f w nl hs lv lk rain bars x y s) : ∀ z ∈ [l, rw_, p], z < s.length := by
  intro z hz
  simp only [List.mem_cons, List.not_mem_nil, or_false] at hz
  rcases hz with e | e | e <;> subst e
  · exact Vc.lt_of j.live.at_
  · exact Vc.lt_of j.live.row
  · exact Vc.lt_of j.live.pst
theorem J.keepB {f' : Nat} {x' : LD} (j : J h c l rw_ p f w nl hs lv lk rain bars x y s) (k : Keep [l, p] s s') (L : Live l rw_ p f' rain bars x'.water x'.now x'.lost x'.missed x'.shut x'.past s') : J h c l rw_ p f' w nl hs lv lk rain bars x' y s' := by
  have ab : Vc.Dis [h, c] [l, p] := j.ab.sub (by simp)
  have bc : Vc.Dis [w, nl, hs, lv, lk] [l, p] := j.bc.symm.sub (by simp)
  exact ⟨j.dr.keep k (ab _ (by simp)) (ab _ (by simp)), L, j.book.keep k (bc _ (by simp)) (bc _ (by simp)) (bc _ (by simp)) (bc _ (by simp)) (bc _ (by simp)), j.ab, j.ac, j.bc⟩
theorem J.keepC {S : List Nat} {lv' lk' : Nat} {y' : BD} (j : J h c l rw_ p f w nl hs lv lk rain bars x y s) (k : Keep S s s') (hS : ∀ z ∈ S, z ∈ [w, nl, hs, lv, lk]) (W : WS w nl lv' lk' hs rain bars y'.levels y'.now y'.lost y'.missed y'.locked y'.hist s')
    (hf : ∀ z ∈ [w, nl, hs, lv', lk'], z ∈ [w, nl, hs, lv, lk] ∨ s.length ≤ z) : J h c l rw_ p f w nl hs lv' lk' rain bars x y' s' := by
  have ac : Vc.Dis [h, c] S := j.ac.sub hS
  have bc : Vc.Dis [l, rw_, p] S := j.bc.sub hS
  exact ⟨j.dr.keep k (ac _ (by simp)) (ac _ (by simp)), j.live.keep k (bc _ (by simp)) (bc _ (by simp)) (bc _ (by simp)), W, j.ab, j.ac.repl j.ltA hf, j.bc.repl j.ltB hf⟩
end
/-- the books are right -/
structure Rel (x : LD) (y : BD) : Prop where
  lev : y.levels = x.water
  now : y.now = x.now
  lost : y.lost = x.lost
  missed : y.missed = x.missed
  shut : ∀ z, z ∈ x.shut ↔ z ∈ y.locked
  hist : y.hist = x.past.map (·.1)
def opOk (v : Val) : Prop := ∃ xs, v = .tup xs ∧ xs.length ≤ 100000 ∧ xs.all Ab.flatW = true
/-- sizes -/
structure Fit (bars : List Bar) (n : Nat) (x : LD) (y : BD) : Prop where
  water : x.water.length = bars.length
  past : x.past.length ≤ n
  shut : x.shut.length ≤ n
  locked : y.locked.length ≤ n
  ops : ∀ p ∈ x.past, opOk p.1
theorem pairs_eq {bars : List Bar} {ws : List Int} (h : ws.length = bars.length) : ((List.range (bars.map Bar.nm).length).map fun k => Val.tup [.str ((bars.map Bar.nm).getD k ""), .int (ws.getD k 0)]) = (bars.zip ws).map fun p => Val.tup [.str p.1.nm, .int p.2] := by
  apply List.ext_getElem
  · simp [h]
  · intro i h1 h2
    have hi : i < bars.length := by simpa using h1
    simp [List.getD_eq_getElem?_getD, List.getElem?_eq_getElem hi, List.getElem?_eq_getElem (show i < ws.length by omega)]
theorem tail_spec {h c l rw_ p f w nl hs lv lk : Nat} {rain : List Int} {bars : List Bar} {x : LD} {y : BD} {n : Nat} {st : Store} {fo du : Val} {v0 v2 v5 v7 v8 v9 v10 v13 v14 v15 v16 v17 : Option Val}
    (j : J h c l rw_ p f w nl hs lv lk rain bars x y st) (R : Rel x y) (F : Fit bars n x y) (hn : n ≤ 1000) (nd : (bars.map Bar.nm).Nodup) (hb : bars.length ≤ 900) (al : Vc.Alike st 6 fo du) :
    WpO (t_law [v0, some (.ref h), v2, some (.ref l), some (.ref nl), v5, some (.ref w), v7, v8, v9, v10, some fo, some du, v13, v14, v15, v16, v17] st)
      { nx := fun ρ s => J h c l rw_ p f w nl hs lv lk rain bars x y s ∧ ∃ u8 u9 u10 u11 u12 u13 u14 u15 u16 u17, ρ = [v0, some (.ref h), v2, some (.ref l), some (.ref nl), v5, some (.ref w), v7, u8, u9, u10, u11, u12, u13, u14, u15, u16, u17] } := by
  have h1 := j.book.at_; have h2 := j.book.nms; have h3 := j.book.lev; have h4 := j.book.loc; have h5 := j.book.his
  have q1 := F.water; have q2 := F.past; have q3 := R.lev; have q4 := F.locked
  unfold t_law
  repeat' (first | array_mem_dec | fail)
  refine Vc.ex_range1 (by simp; omega) ?_
  rw [Int.toNat_natCast, List.length_map]
  refine Vc.lc_map (fun k => .tup [.str ((bars.map Bar.nm).getD k ""), .int (y.levels.getD k 0)]) (fun _ => trivial) (by simp; omega) (fun k hk acc => ?_) ?_
  · have hk' : k < bars.length := by simpa using hk
    have e1 : (bars.map Bar.nm)[k]? = some ((bars.map Bar.nm).getD k "") := by rw [List.getD_eq_getElem?_getD, List.getElem?_eq_getElem (by simpa using hk')]; rfl
    have e2 : y.levels[k]? = some (y.levels.getD k 0) := by rw [List.getD_eq_getElem?_getD, List.getElem?_eq_getElem (by rw [q3]; omega)]; rfl
    repeat' (first | array_mem_dec | fail)
    refine Vc.v_ixLn (f := .str) (by (first | array_get_dec | fail)) e1 ?_
    repeat' (first | array_mem_dec | fail)
    refine Vc.v_ixLn (f := .int) (by (first | array_get_dec | fail)) e2 ?_
    repeat' (first | array_mem_dec | fail)
    exact ⟨rfl, rfl⟩
  rw [pairs_eq (by rw [q3]; exact q1)]
  repeat' (first | array_mem_dec | fail)
  refine Vc.lc_pure (fun z : Str => decide (z ∈ y.locked)) (fun z => .str z) (fun acc => Ab.seqAt_lst (by (first | array_get_dec | fail))) (by simp; omega) (fun z hz acc => ?_) ?_
  · repeat' (first | array_mem_dec | fail)
    refine Vc.v_inLs (by (first | array_get_dec | fail)) ?_
    repeat' (first | array_mem_dec | fail)
    refine ⟨rfl, rfl, fun _ => ?_⟩
    repeat' (first | array_mem_dec | fail)
    exact ⟨rfl, rfl⟩
  repeat' (first | array_mem_dec | fail)
  rename_i P s1 g1 k1 l1 Z s2 g2 k2 l2 T s3 g3 k3 l3
  have k13 := (k1.trans k2).trans k3
  refine Vc.via0 (alike_spec (al.keep k13)) fun v s4 hv => ?_
  obtain ⟨rfl, k4⟩ := hv
  repeat' (first | array_mem_dec | fail)
  have k14 := k13.trans k4
  have j4 := j.keep0 k14
  refine Vc.via0 (told_spec j4.live nd hb (by omega)) fun v s5 hv => ?_
  obtain ⟨T', A', B', C', rfl, t1, t2, t3, t4, k5⟩ := hv
  have j5 := j4.keep0 k5
  have hpast : x.past.map (·.1) = y.hist := R.hist.symm
  have hfil : ((bars.map Bar.nm).filter fun z => decide (z ∈ x.shut)) = ((bars.map Bar.nm).filter fun z => decide (z ∈ y.locked)) := by
    congr 1; funext z; simp only [R.shut]
  clear k13 k14
  have g1' : s5[P]? = some (.lst ((bars.zip x.water).map fun p => .tup [.str p.1.nm, .int p.2])) := by rw [← q3]; (first | array_get_dec | fail)
  have g2' : s5[Z]? = some (.lst (((bars.map Bar.nm).filter fun z => decide (z ∈ x.shut)).map .str)) := by rw [hfil]; (first | array_get_dec | fail)
  have g3' : s5[T]? = some (.lst [.int y.now, .ref P, .int y.lost, .int y.missed, .ref Z, .ref hs]) := by (first | array_get_dec | fail)
  repeat' (first | array_mem_dec | fail)
  refine Vc.via0 (alike_spec (n := 6) ?al) fun v s6 hv => ?_
  case al =>
    refine Vc.alike_two t1 g3' (by simp) ?_
    rw [R.now, R.lost, R.missed]
    refine .cons (Vc.alike_flat rfl) (.cons ?_ (.cons (Vc.alike_flat rfl) (.cons (Vc.alike_flat rfl) (.cons ?_ (.cons ?_ .nil)))))
    · refine Vc.alike_lst t2 g1' (by simp; omega) fun z hz => ?_
      obtain ⟨q, _, rfl⟩ := List.mem_map.mp hz
      exact Vc.alike_flats (by simp) rfl
    · refine Vc.alike_lst t3 g2' ?_ fun z hz => ?_
      · rw [List.length_map]
        exact Nat.le_trans (List.length_filter_le _ _) (by simp; omega)
      · obtain ⟨q, _, rfl⟩ := List.mem_map.mp hz
        exact Vc.alike_flat rfl
    · have g4' : s5[hs]? = some (.lst (x.past.map (·.1))) := by rw [hpast]; exact j5.book.his
      refine Vc.alike_lst t4 g4' (by simp; omega) fun z hz => ?_
      obtain ⟨q, hq, rfl⟩ := List.mem_map.mp hz
      obtain ⟨xs, e1, e2, e3⟩ := F.ops q hq
      rw [e1]
      exact Vc.alike_flats e2 e3
  obtain ⟨rfl, k6⟩ := hv
  repeat' (first | array_mem_dec | fail)
  exact ⟨j5.keep0 k6, _, _, _, _, _, _, _, _, _, _, rfl⟩
def MoreJ (h c l rw_ p w nl hs : Nat) (rain : List Int) (bars : List Bar) (n : Nat) (ws : List Val) (s : Store) : Prop := ∃ fo du f' lv' lk' x' y', ws = [fo, du] ∧ J h c l rw_ p f' w nl hs lv' lk' rain bars x' y' s ∧ Rel x' y' ∧ Fit bars (n + 1) x' y' ∧ Vc.Alike s 6 fo du
section
variable {h c l rw_ p f w nl hs lv lk : Nat} {rain : List Int} {bars : List Bar} {x : LD} {y : BD} {n : Nat} {st : Store} {v0 v2 v4 v5 v7 v8 v9 v11 v12 v13 v14 v15 v16 v17 : Option Val} {amount : Int} {z : Str}
theorem Fit.mono (F : Fit bars n x y) : Fit bars (n + 1) x y := ⟨F.water, by have := F.past; omega, by have := F.shut; omega, by have := F.locked; omega, F.ops⟩
theorem al2 {a : Val} (ha : Ab.flatW a = true) {s : Store} {t : Str} : Vc.Alike s 6 (.tup [.str t, a]) (.tup [.str t, a]) := Vc.alike_flats (by simp) (by simp [Ab.flatW, ha])
theorem al1 {s : Store} {t : Str} : Vc.Alike s 6 (.tup [.str t]) (.tup [.str t]) := Vc.alike_flats (by simp) (by simp [Ab.flatW])
theorem more_same {fo : Val} {s : Store} (j : J h c l rw_ p f w nl hs lv lk rain bars x y s) (R : Rel x y) (F : Fit bars n x y) (al : Vc.Alike s 6 fo fo) : MoreJ h c l rw_ p w nl hs rain bars n [fo, fo] s := ⟨fo, fo, f, lv, lk, x, y, rfl, j, R, F.mono, al⟩
theorem ops_snoc {past : List (Val × Val)} {o t : Val} (h : ∀ p ∈ past, opOk p.1) (ho : opOk o) : ∀ p ∈ past ++ [(o, t)], opOk p.1 := fun p hp => by
  rcases List.mem_append.mp hp with hp | hp
  · exact h p hp
  · rw [List.mem_singleton.mp hp]; exact ho
theorem pour_pair (j : J h c l rw_ p f w nl hs lv lk rain bars x y st) (R : Rel x y) (F : Fit bars n x y) (hn : n ≤ 900) (ok : RowOk rain bars) :
    WpR (Se.aCons (Se.mOutcome (Se.mMeth [(20, f_LiveRow_pour)] (Se.mVar 3) (Se.aCons (Se.mVar 10) (Se.aNil)))) (Se.aCons (Se.mApp f_law_pour_due (Se.aCons (Se.mVar 6) (Se.aCons (Se.mVar 10) (Se.aNil)))) (Se.aNil)) [v0, some (.ref h), v2, some (.ref l), v4, v5, some (.ref w), v7, v8, v9, some (.int amount), v11, v12, v13, v14, v15, v16, v17] st) (MoreJ h c l rw_ p w nl hs rain bars n) (fun _ _ => False) := by
  have h2 := j.live.at_; have q1 := F.water; have q2 := F.past; have q3 := ok.b1; have q4 : y.hist.length ≤ 1000 := by rw [R.hist, List.length_map]; omega
  repeat' (first | array_mem_dec | fail)
  refine Vc.via (pour_spec j.live ok.ok ok.n0 q1 (by omega) (by omega)) (fun v s hv => ?_) (fun e s he => ?_)
  · obtain ⟨ha, rfl, f', L', hf', lf', k⟩ := hv
    have j1 := j.keepB (x' := ⟨_, _, _, _, _, _⟩) k L'
    repeat' (first | array_mem_dec | fail)
    refine Vc.via0 (pour_due_spec j1.book ok.ok ok.n0 (by rw [R.lev]; exact q1) (by omega) q4) fun v s2 hv => ?_
    rcases hv with ⟨hb, _⟩ | ⟨_, rfl, lv', W', lf2, k2⟩
    · exact absurd ha hb
    repeat' (first | array_mem_dec | fail)
    have hT : tickT y.now amount y.locked (bars.zip y.levels) = tickT x.now amount x.shut (bars.zip x.water) := by rw [R.lev, R.now]; exact tickT_mem _ _ (fun z => (R.shut z).symm) _
    rw [hT] at W' ⊢
    have hTl := tickT_len x.now amount x.shut (bars.zip x.water)
    generalize tickT x.now amount x.shut (bars.zip x.water) = T at *
    refine ⟨_, _, f', lv', lk, _, ⟨_, _, _, _, _, _⟩, rfl, j1.keepC k2 (by simp) W' (by (first | sizeOf_list_dec | fail)), ⟨rfl, by show y.now + 1 = x.now + 1; rw [R.now], by show y.lost + T.flow = _; rw [R.lost], by show y.missed + T.missed = _; rw [R.missed], R.shut, by show y.hist ++ _ = _; rw [R.hist, List.map_append]; rfl⟩, ⟨by show T.found.length = _; rw [hTl, List.length_zip]; omega, by show (x.past ++ _).length ≤ _; simp; omega, by have := F.shut; show x.shut.length ≤ _; omega, by have := F.locked; show y.locked.length ≤ _; omega, ops_snoc F.ops ⟨_, rfl, by simp, rfl⟩⟩, al2 rfl⟩
  · obtain ⟨ha, rfl, k⟩ := he
    have j1 := j.keep0 k
    refine ⟨[.str "number"], rfl, rfl, ?_⟩
    repeat' (first | array_mem_dec | fail)
    refine Vc.via0 (pour_due_spec j1.book ok.ok ok.n0 (by rw [R.lev]; exact q1) (by omega) q4) fun v s2 hv => ?_
    rcases hv with ⟨_, rfl, k2⟩ | ⟨hb, _⟩
    · repeat' (first | array_mem_dec | fail)
      exact more_same (j1.keep0 k2) R F al1
    · exact absurd hb ha
theorem scoop_pair (j : J h c l rw_ p f w nl hs lv lk rain bars x y st) (R : Rel x y) (F : Fit bars n x y) (hn : n ≤ 900) (ok : RowOk rain bars) :
    WpR (Se.aCons (Se.mOutcome (Se.mMeth [(20, f_LiveRow_scoop)] (Se.mVar 3) (Se.aCons (Se.mVar 9) (Se.aCons (Se.mVar 10) (Se.aNil))))) (Se.aCons (Se.mApp f_law_scoop_due (Se.aCons (Se.mVar 6) (Se.aCons (Se.mVar 9) (Se.aCons (Se.mVar 10) (Se.aNil))))) (Se.aNil)) [v0, some (.ref h), v2, some (.ref l), v4, v5, some (.ref w), v7, v8, some (.str z), some (.int amount), v11, v12, v13, v14, v15, v16, v17] st) (MoreJ h c l rw_ p w nl hs rain bars n) (fun _ _ => False) := by
  have h2 := j.live.at_; have q1 := F.water; have q2 := F.past; have q3 := ok.b1; have q4 : y.hist.length ≤ 1000 := by rw [R.hist, List.length_map]; omega
  repeat' (first | array_mem_dec | fail)
  refine Vc.via (scoop_spec j.live q1 (by omega) (by omega)) (fun v s hv => ?_) (fun e s he => ?_)
  · obtain ⟨hz, ha, wv, hw, rfl, f', L', hf', lf', k⟩ := hv
    have j1 := j.keepB (x' := ⟨_, _, _, _, _, _⟩) k L'
    repeat' (first | array_mem_dec | fail)
    refine Vc.via0 (scoop_due_spec j1.book (by rw [R.lev]; exact q1) (by omega) q4) fun v s2 hv => ?_
    rcases hv with ⟨hb, _⟩ | ⟨_, hb, _⟩ | ⟨_, _, wv', hw', rfl, W', k2⟩
    · exact absurd hz hb
    · exact absurd ha hb
    repeat' (first | array_mem_dec | fail)
    rw [R.lev] at hw' W'
    rw [hw] at hw'
    cases hw'
    generalize hi : (bars.map Bar.nm).idxOf z = i at *
    refine ⟨_, _, f', lv, lk, _, ⟨x.water.set i (wv - min amount wv), y.now, y.lost, y.missed, y.locked, _⟩, rfl, j1.keepC k2 (by simp) W' (by (first | sizeOf_list_dec | fail)), ⟨rfl, R.now, R.lost, R.missed, R.shut, by show y.hist ++ _ = _; rw [R.hist, List.map_append]; rfl⟩, ⟨by show (x.water.set _ _).length = _; rw [List.length_set]; exact q1, by show (x.past ++ _).length ≤ _; simp; omega, by have := F.shut; show x.shut.length ≤ _; omega, by have := F.locked; show y.locked.length ≤ _; omega, ops_snoc F.ops ⟨_, rfl, by simp, rfl⟩⟩, al2 rfl⟩
  · obtain ⟨he, k⟩ := he
    have j1 := j.keep0 k
    rcases he with ⟨hz, rfl⟩ | ⟨hz, ha, rfl⟩
    · refine ⟨[.str "barrel", .str z], rfl, rfl, ?_⟩
      repeat' (first | array_mem_dec | fail)
      refine Vc.via0 (scoop_due_spec j1.book (by rw [R.lev]; exact q1) (by omega) q4) fun v s2 hv => ?_
      rcases hv with ⟨hb, rfl, k2⟩ | ⟨hb, _⟩ | ⟨hb, _⟩
      · repeat' (first | array_mem_dec | fail)
        exact more_same (j1.keep0 k2) R F (al2 rfl)
      · exact absurd hb hz
      · exact absurd hb hz
    · refine ⟨[.str "number"], rfl, rfl, ?_⟩
      repeat' (first | array_mem_dec | fail)
      refine Vc.via0 (scoop_due_spec j1.book (by rw [R.lev]; exact q1) (by omega) q4) fun v s2 hv => ?_
      rcases hv with ⟨hb, _⟩ | ⟨_, hb, rfl, k2⟩ | ⟨_, hb, _⟩
      · exact absurd hz hb
      · repeat' (first | array_mem_dec | fail)
        exact more_same (j1.keep0 k2) R F al1
      · exact absurd hb ha
theorem lock_pair (j : J h c l rw_ p f w nl hs lv lk rain bars x y st) (R : Rel x y) (F : Fit bars n x y) (hn : n ≤ 900) (ok : RowOk rain bars) :
    WpR (Se.aCons (Se.mOutcome (Se.mMeth [(20, f_LiveRow_lock)] (Se.mVar 3) (Se.aCons (Se.mVar 9) (Se.aNil)))) (Se.aCons (Se.mApp f_law_lock_due (Se.aCons (Se.mVar 6) (Se.aCons (Se.mC (.str "lock")) (Se.aCons (Se.mVar 9) (Se.aNil))))) (Se.aNil)) [v0, some (.ref h), v2, some (.ref l), v4, v5, some (.ref w), v7, v8, some (.str z), some (.int amount), v11, v12, v13, v14, v15, v16, v17] st) (MoreJ h c l rw_ p w nl hs rain bars n) (fun _ _ => False) := by
  have h2 := j.live.at_; have q1 := F.water; have q2 := F.past; have q3 := ok.b1; have q4 : y.hist.length ≤ 1000 := by rw [R.hist, List.length_map]; omega
  have q5 := F.shut; have q6 := F.locked
  repeat' (first | array_mem_dec | fail)
  refine Vc.via (lock_spec j.live (by omega) (by omega) (by omega)) (fun v s hv => ?_) (fun e s he => ?_)
  · obtain ⟨hz, rfl, f', L', hf', lf', k⟩ := hv
    have j1 := j.keepB (x' := ⟨x.water, x.now, x.lost, x.missed, if z ∈ x.shut then x.shut else x.shut ++ [z], x.past ++ [(.tup [.str "lock", .str z], ST x.water x.now x.lost x.missed x.shut)]⟩) k L'
    repeat' (first | array_mem_dec | fail)
    refine Vc.via0 (lock_due_spec j1.book q4 (by omega)) fun v s2 hv => ?_
    rcases hv with ⟨hb, _⟩ | ⟨_, rfl, lk', W', lf2, k2⟩
    · exact absurd hz hb
    repeat' (first | array_mem_dec | fail)
    have e1 : (!decide (z ∈ x.shut)) = decide (decide (z ∈ y.locked) = decide (("lock" : Str) = "unlock")) := by
      rw [show decide (("lock" : Str) = "unlock") = false from rfl]
      by_cases q : z ∈ x.shut
      · rw [decide_eq_true q, decide_eq_true ((R.shut z).mp q)]; rfl
      · rw [decide_eq_false q, decide_eq_false fun t => q ((R.shut z).mpr t)]; rfl
    rw [← e1]
    rw [if_pos rfl] at W'
    have hl : (y.locked.filter fun t => !decide (t = z)).length ≤ n := Nat.le_trans (List.length_filter_le _ _) q6
    refine ⟨_, _, f', lv, lk', _, ⟨y.levels, y.now, y.lost, y.missed, (y.locked.filter fun t => !decide (t = z)) ++ [z], y.hist ++ [.tup [.str "lock", .str z]]⟩, rfl, j1.keepC k2 (by simp) W' (by (first | sizeOf_list_dec | fail)), ⟨R.lev, R.now, R.lost, R.missed, fun t => ?_, by show y.hist ++ [.tup [.str "lock", .str z]] = _; rw [R.hist, List.map_append]; rfl⟩, ⟨q1, by show (x.past ++ _).length ≤ _; simp; omega, by show (if z ∈ x.shut then x.shut else x.shut ++ [z]).length ≤ _; split <;> (try simp) <;> omega, by show ((y.locked.filter fun t => !decide (t = z)) ++ [z]).length ≤ _; rw [List.length_append]; simp only [List.length_singleton]; omega, ops_snoc F.ops ⟨_, rfl, by simp, rfl⟩⟩, al2 rfl⟩
    show t ∈ (if z ∈ x.shut then x.shut else x.shut ++ [z]) ↔ t ∈ (y.locked.filter fun t => !decide (t = z)) ++ [z]
    have := R.shut t
    by_cases q : t = z
    · subst q
      by_cases q2 : t ∈ x.shut <;> simp [q2]
    · by_cases q2 : z ∈ x.shut <;> simp [q2, q, this]
  · obtain ⟨hz, rfl, k⟩ := he
    have j1 := j.keep0 k
    refine ⟨[.str "barrel", .str z], rfl, rfl, ?_⟩
    repeat' (first | array_mem_dec | fail)
    refine Vc.via0 (lock_due_spec j1.book q4 (by omega)) fun v s2 hv => ?_
    rcases hv with ⟨hb, rfl, k2⟩ | ⟨hb, _⟩
    · repeat' (first | array_mem_dec | fail)
      exact more_same (j1.keep0 k2) R F (al2 rfl)
    · exact absurd hb hz
theorem unlock_pair (j : J h c l rw_ p f w nl hs lv lk rain bars x y st) (R : Rel x y) (F : Fit bars n x y) (hn : n ≤ 900) (ok : RowOk rain bars) :
    WpR (Se.aCons (Se.mOutcome (Se.mMeth [(20, f_LiveRow_unlock)] (Se.mVar 3) (Se.aCons (Se.mVar 9) (Se.aNil)))) (Se.aCons (Se.mApp f_law_lock_due (Se.aCons (Se.mVar 6) (Se.aCons (Se.mC (.str "unlock")) (Se.aCons (Se.mVar 9) (Se.aNil))))) (Se.aNil)) [v0, some (.ref h), v2, some (.ref l), v4, v5, some (.ref w), v7, v8, some (.str z), some (.int amount), v11, v12, v13, v14, v15, v16, v17] st) (MoreJ h c l rw_ p w nl hs rain bars n) (fun _ _ => False) := by
  have h2 := j.live.at_; have q1 := F.water; have q2 := F.past; have q3 := ok.b1; have q4 : y.hist.length ≤ 1000 := by rw [R.hist, List.length_map]; omega
  have q5 := F.shut; have q6 := F.locked
  repeat' (first | array_mem_dec | fail)
  refine Vc.via (unlock_spec j.live (by omega) (by omega) (by omega)) (fun v s hv => ?_) (fun e s he => ?_)
  · obtain ⟨hz, rfl, f', L', hf', lf', k⟩ := hv
    have j1 := j.keepB (x' := ⟨x.water, x.now, x.lost, x.missed, x.shut.filter fun t => !decide (t = z), x.past ++ [(.tup [.str "unlock", .str z], ST x.water x.now x.lost x.missed x.shut)]⟩) k L'
    repeat' (first | array_mem_dec | fail)
    refine Vc.via0 (lock_due_spec j1.book q4 (by omega)) fun v s2 hv => ?_
    rcases hv with ⟨hb, _⟩ | ⟨_, rfl, lk', W', lf2, k2⟩
    · exact absurd hz hb
    repeat' (first | array_mem_dec | fail)
    have e1 : (decide (z ∈ x.shut)) = decide (decide (z ∈ y.locked) = decide (("unlock" : Str) = "unlock")) := by
      rw [show decide (("unlock" : Str) = "unlock") = true from rfl]
      by_cases q : z ∈ x.shut
      · rw [decide_eq_true q, decide_eq_true ((R.shut z).mp q)]; rfl
      · rw [decide_eq_false q, decide_eq_false fun t => q ((R.shut z).mpr t)]; rfl
    rw [← e1]
    rw [if_neg (by decide), List.append_nil] at W'
    have hl : (y.locked.filter fun t => !decide (t = z)).length ≤ n := Nat.le_trans (List.length_filter_le _ _) q6
    have hl' : (x.shut.filter fun t => !decide (t = z)).length ≤ n := Nat.le_trans (List.length_filter_le _ _) q5
    refine ⟨_, _, f', lv, lk', _, ⟨y.levels, y.now, y.lost, y.missed, y.locked.filter fun t => !decide (t = z), y.hist ++ [.tup [.str "unlock", .str z]]⟩, rfl, j1.keepC k2 (by simp) W' (by (first | sizeOf_list_dec | fail)), ⟨R.lev, R.now, R.lost, R.missed, fun t => ?_, by show y.hist ++ [.tup [.str "unlock", .str z]] = _; rw [R.hist, List.map_append]; rfl⟩, ⟨q1, by show (x.past ++ _).length ≤ _; simp; omega, by show (x.shut.filter _).length ≤ _; omega, by show (y.locked.filter fun t => !decide (t = z)).length ≤ _; omega, ops_snoc F.ops ⟨_, rfl, by simp, rfl⟩⟩, al2 rfl⟩
    show t ∈ (x.shut.filter fun t => !decide (t = z)) ↔ t ∈ (y.locked.filter fun t => !decide (t = z))
    have := R.shut t
    simp [this]
  · obtain ⟨hz, rfl, k⟩ := he
    have j1 := j.keep0 k
    refine ⟨[.str "barrel", .str z], rfl, rfl, ?_⟩
    repeat' (first | array_mem_dec | fail)
    refine Vc.via0 (lock_due_spec j1.book q4 (by omega)) fun v s2 hv => ?_
    rcases hv with ⟨hb, rfl, k2⟩ | ⟨hb, _⟩
    · repeat' (first | array_mem_dec | fail)
      exact more_same (j1.keep0 k2) R F (al2 rfl)
    · exact absurd hb hz
end
theorem law_spec {ns : List Int} {cell : Cell} (hs : seqAt [cell] 0 = some (ns.map .int)) (hl : ns.length ≤ 63) : WpR (Ab.defM 1 17 m_law [.ref 0] [cell]) (fun v _ => v = .bl true) (fun _ _ => False) := by
  refine Vc.b_def rfl ?_
  unfold m_law
  repeat' (first | array_mem_dec | fail)
  refine Vc.via0 (mix_spec hs hl (by decide) (by decide)) fun v s1 hv => ?_
  obtain ⟨h, c, rfl, d1, k1⟩ := hv
  repeat' (first | array_mem_dec | fail)
  refine Vc.via0 (parts_spec d1 (by decide) (by decide) (by decide) (by decide)) fun v s2 hv => ?_
  obtain ⟨rain, bars, rfl, pt, d2, k2⟩ := hv
  have ok := pt.row (by decide) (by decide)
  have lA : ∀ z ∈ [h, c], z < s2.length := by
    obtain ⟨_, _, _, e1, e2, _⟩ := d2
    intro z hz
    simp only [List.mem_cons, List.not_mem_nil, or_false] at hz
    rcases hz with e | e <;> subst e
    · exact Vc.lt_of e1
    · exact Vc.lt_of e2
  repeat' (first | array_mem_dec | fail)
  refine Vc.via0 (law_row_spec ok) fun v s3 hv => ?_
  obtain ⟨rw_, rfl, hrw, k3, l3⟩ := hv
  repeat' (first | array_mem_dec | fail)
  rename_i l s4 hL k4 l4
  have hn : bars.length ≤ 4 := pt.b1
  have hp := ok.b0
  have hrw4 : s4[rw_]? = some (.ins 13 (RF rain bars)) := by (first | array_get_dec | fail)
  refine Vc.via0 (LiveRow_init_spec (i := rw_) (xs := bars.map Bar.val) hrw4 (by simpa using hp) (by simp; omega) hL (by have := Vc.lt_of hrw; omega)) fun v s5 hv => ?_
  obtain ⟨rfl, p, f, g1, g2, g3, lp, lf, nfp, k5⟩ := hv
  refine ⟨rfl, ?_⟩
  repeat' (first | array_mem_dec | fail)
  refine Vc.lc_map (fun b : Bar => .str b.nm) (fun _ => trivial) (by omega) (fun b hb acc => ?_) ?_
  · rw [Bar.val_eq]
    repeat' (first | array_mem_dec | fail)
    exact ⟨rfl, rfl⟩
  repeat' (first | array_mem_dec | fail)
  rename_i nl s6 hnl k6 l6 w s7 hw k7 l7 z0 s8 hz0 k8 l8
  have hnl' : s6[nl]? = some (.lst ((bars.map Bar.nm).map .str)) := by rw [hnl, List.map_map]; rfl
  rw [List.length_map]
  refine Vc.v_repL hz0 ⟨by omega, by omega, by simp⟩ ?_
  rw [rep_zero, Int.toNat_natCast]
  repeat' (first | array_mem_dec | fail)
  rename_i lv s9 hlv k9 l9 lk s10 hlk k10 l10 s11 hw' k11 hs s12 hhs k12 l12 s13 hw'' k13
  have hhsL : s13[hs]? = some (.lst []) := by (first | array_get_dec | fail)
  have q3 := k3.1; have q4 := k4.1; have q5 := k5.1; have q6 := k6.1; have q7 := k7.1; have q8 := k8.1; have q9 := k9.1; have q10 := k10.1; have q11 := k11.1
  have b1 := Vc.lt_of hrw; have b2 := Vc.lt_of hL; have b3 := Vc.lt_of g2; have b4 := Vc.lt_of g3; have b5 := Vc.lt_of hnl; have b6 := Vc.lt_of hw; have b7 := Vc.lt_of hlv; have b8 := Vc.lt_of hlk; have b9 := Vc.lt_of hhs
  have nA := lA h (by simp); have nC := lA c (by simp)
  have d13 : Draws h c s13 := d2.keep (S := []) (by (first | sizeOf_list_dec | fail)) (by simp) (by simp)
  rw [List.length_map] at g1
  have j0 : J h c l rw_ p f w nl hs lv lk rain bars ⟨List.replicate bars.length 0, 0, 0, 0, [], []⟩ ⟨List.replicate bars.length 0, 0, 0, 0, [], []⟩ s13 := by
    refine ⟨d13, ⟨by (first | array_get_dec | fail), by (first | array_get_dec | fail), ?_, by omega, by omega, by omega⟩, ⟨hw'', by (first | array_get_dec | fail), by (first | array_get_dec | fail), ?_, hhsL, by omega, by omega, by omega, by omega, by omega, by omega, by omega, by omega, by omega⟩, ?_, ?_, ?_⟩
    · show s13[p]? = some (.lst [])
      (first | array_get_dec | fail)
    · show s13[lk]? = some (.lst [])
      (first | array_get_dec | fail)
    all_goals (intro z hz hz'; simp only [List.mem_cons, List.not_mem_nil, or_false] at hz hz'; omega)
  clear hw' hw'' hhs hlk hlv hnl hnl' hz0 g1 g2 g3 hrw4 hrw hL hw
  refine Vc.via0 (next_spec d13 (by decide) (by decide)) fun v s14 hv => ?_
  obtain ⟨⟨r, rfl, r0, r1⟩, d14, k14⟩ := hv
  have j1 := j0.keepA k14 d14
  repeat' (first | array_mem_dec | fail)
  refine Vc.ex_range1 (by omega) ?_
  refine Vc.for_l (fun d ρ s => ∃ f lv lk x y u5 u7 u8 u9 u10 u11 u12 u13 u14 u15 u16 u17, ρ = [some (.ref 0), some (.ref h), some (.tup [.tup (rain.map .int), .tup (bars.map Bar.val)]), some (.ref l), some (.ref nl), u5, some (.ref w), u7, u8, u9, u10, u11, u12, u13, u14, u15, u16, u17] ∧ J h c l rw_ p f w nl hs lv lk rain bars x y s ∧ Rel x y ∧ Fit bars d.length x y) (fun _ _ _ _ => trivial) ?_ ?_
    ⟨f, lv, lk, _, _, _, _, _, _, _, _, _, _, _, _, _, _, rfl, j1, ⟨rfl, rfl, rfl, rfl, fun _ => .rfl, rfl⟩, ⟨by simp, by simp, by simp, by simp, fun _ z => by cases z⟩⟩
  · clear j0 j1
    rintro d t rest ρ s e ⟨f, lv, lk, x, y, u5, u7, u8, u9, u10, u11, u12, u13, u14, u15, u16, u17, rfl, j, R, F⟩
    obtain ⟨e1, e2, e3⟩ := Vc.range_split e
    have hd : d.length ≤ 40 := by omega
    repeat' (first | array_mem_dec | fail)
    refine Vc.via0 (next_spec j.dr (by decide) (by decide)) fun v s1 hv => ?_
    obtain ⟨⟨kd, rfl, _, _⟩, d1, k1⟩ := hv
    have j1 := j.keepA k1 d1
    have hnl := j1.book.nms
    obtain ⟨b0, hb0⟩ : ∃ b0, (bars.map Bar.nm)[0]? = some b0 := ⟨_, List.getElem?_eq_getElem (by simpa using hp)⟩
    repeat' (first | array_mem_dec | fail)
    refine Vc.v_ixLn (i := 0) (f := .str) hnl hb0 ?_
    repeat' (first | array_mem_dec | fail)
    rename_i N0 s2 hN0 k2 l2 N s3 hN k3 l3
    have lA := j1.ltA; have lh := lA h (by simp); have lc := lA c (by simp)
    have j3 := (j1.keep0 k2).keep0 k3
    have z2 := k2.1; have z3 := k3.1
    rw [List.length_map, List.length_map]
    refine Vc.via0 (next_spec j3.dr (by omega) (by omega)) fun v s4 hv => ?_
    obtain ⟨⟨r2, rfl, r20, r21⟩, d4, k4⟩ := hv
    have j4 := j3.keepA k4 d4
    have hN4 : s4[N]? = some (.lst ((bars.map Bar.nm ++ ([("no" : Str), b0] : List Str)).map .str)) := by rw [k4.get hN (by simp; omega), List.map_append]; rfl
    obtain ⟨z, hz⟩ : ∃ z, (bars.map Bar.nm ++ ([("no" : Str), b0] : List Str))[r2.toNat]? = some z := ⟨_, List.getElem?_eq_getElem (by simp; omega)⟩
    rw [show r2 = ((r2.toNat : Nat) : Int) by omega]
    refine Vc.v_ixLn hN4 hz ?_
    repeat' (first | array_mem_dec | fail)
    refine Vc.via0 (next_spec j4.dr (by decide) (by decide)) fun v s5 hv => ?_
    obtain ⟨⟨am, rfl, _, _⟩, d5, k5⟩ := hv
    have j5 := j4.keepA k5 d5
    repeat' (first | array_mem_dec | fail)
    rename_i M s6 hM k6 l6
    have j6 := j5.keep0 k6
    have lA := j5.ltA; have lh := lA h (by simp); have lc := lA c (by simp)
    refine Vc.via0 (next_spec j6.dr (by decide) (by decide)) fun v s7 hv => ?_
    obtain ⟨⟨r3, rfl, r30, r31⟩, d7, k7⟩ := hv
    have j7 := j6.keepA k7 d7
    have hM7 : s7[M]? = some (.lst (([am, 0, 1000000, 1000001, -1, 1000000000, 1000000001] : List Int).map .int)) := k7.get hM (by simp; omega)
    repeat' (first | array_mem_dec | fail)
    obtain ⟨amount, ha⟩ : ∃ amount, ([am, 0, 1000000, 1000001, -1, 1000000000, 1000000001] : List Int)[(max 0 (r3 - 7)).toNat]? = some amount := ⟨_, List.getElem?_eq_getElem (by simp; omega)⟩
    rw [show max 0 (r3 - 7) = (((max 0 (r3 - 7)).toNat : Nat) : Int) by omega]
    refine Vc.v_ixLn hM7 ha ?_
    repeat' (first | array_mem_dec | fail)
    have fin : ∀ (ws : List Val) (s : Store), MoreJ h c l rw_ p w nl hs rain bars d.length ws s → ∃ fo du, ws = [fo, du] ∧ WpO (t_law [some (.ref 0), some (.ref h), some (.tup [.tup (rain.map .int), .tup (bars.map Bar.val)]), some (.ref l), some (.ref nl), u5, some (.ref w), some (.int t), some (.int kd), some (.str z), some (.int amount), some fo, some du, u13, u14, u15, u16, u17] s)
        { nx := fun ρ s => ∃ f lv lk x y u5 u7 u8 u9 u10 u11 u12 u13 u14 u15 u16 u17, ρ = [some (.ref 0), some (.ref h), some (.tup [.tup (rain.map .int), .tup (bars.map Bar.val)]), some (.ref l), some (.ref nl), u5, some (.ref w), u7, u8, u9, u10, u11, u12, u13, u14, u15, u16, u17] ∧ J h c l rw_ p f w nl hs lv lk rain bars x y s ∧ Rel x y ∧ Fit bars (d ++ [t]).length x y } := by
      rintro ws s ⟨fo, du, f', lv', lk', x', y', rfl, j', R', F', al⟩
      refine ⟨fo, du, rfl, ?_⟩
      refine Vc.viaN (tail_spec j' R' F' (by omega) ok.nd (by omega) al) ?_
      rintro ρ s ⟨j2, v8, v9, v10, v11, v12, v13, v14, v15, v16, v17, rfl⟩
      exact ⟨f', lv', lk', x', y', _, _, _, _, _, _, _, _, _, _, _, _, rfl, j2, R', by rw [List.length_append]; exact F'⟩
    refine Vc.ite_d (fun q => ?_) (fun q => ?_)
    · with_reducible apply Vc.b_par
      refine Vc.via0 (pour_pair j7 R F (by omega) ok) fun ws s8 hw => ?_
      obtain ⟨fo, du, rfl, hfin⟩ := fin ws s8 hw
      refine ⟨fo, du, rfl, ?_⟩
      repeat (first | with_reducible apply Vc.nf4 | with_reducible apply Vc.nf1 | with_reducible apply Vc.nf0)
      unfold t_law at hfin
      exact Vc.viaN hfin (fun _ _ h => h)
    · repeat' (first | array_mem_dec | fail)
      refine Vc.ite_d (fun q2 => ?_) (fun q2 => ?_)
      · with_reducible apply Vc.b_par
        refine Vc.via0 (scoop_pair j7 R F (by omega) ok) fun ws s8 hw => ?_
        obtain ⟨fo, du, rfl, hfin⟩ := fin ws s8 hw
        refine ⟨fo, du, rfl, ?_⟩
        repeat (first | with_reducible apply Vc.nf4 | with_reducible apply Vc.nf1 | with_reducible apply Vc.nf0)
        unfold t_law at hfin
        exact Vc.viaN hfin (fun _ _ h => h)
      · repeat' (first | array_mem_dec | fail)
        refine Vc.ite_d (fun q3 => ?_) (fun q3 => ?_)
        · with_reducible apply Vc.b_par
          refine Vc.via0 (lock_pair (amount := amount) j7 R F (by omega) ok) fun ws s8 hw => ?_
          obtain ⟨fo, du, rfl, hfin⟩ := fin ws s8 hw
          refine ⟨fo, du, rfl, ?_⟩
          repeat (first | with_reducible apply Vc.nf4 | with_reducible apply Vc.nf1 | with_reducible apply Vc.nf0)
          unfold t_law at hfin
          exact Vc.viaN hfin (fun _ _ h => h)
        · with_reducible apply Vc.b_par
          refine Vc.via0 (unlock_pair (amount := amount) j7 R F (by omega) ok) fun ws s8 hw => ?_
          obtain ⟨fo, du, rfl, hfin⟩ := fin ws s8 hw
          refine ⟨fo, du, rfl, ?_⟩
          repeat (first | with_reducible apply Vc.nf4 | with_reducible apply Vc.nf1 | with_reducible apply Vc.nf0)
          unfold t_law at hfin
          exact Vc.viaN hfin (fun _ _ h => h)
  · rintro ρ s ⟨f, lv, lk, x, y, u5, u7, u8, u9, u10, u11, u12, u13, u14, u15, u16, u17, rfl, j, R, F⟩
    repeat' (first | array_mem_dec | fail)
    rfl
theorem plain (ns : List Int) (cell : Cell) (hc : Ab.IsScript ns cell) (hl : ns.length ≤ 63) (hb : ∀ z ∈ ns, Builtin.Int.intBits z ≤ 1048576) : ∃ st', Ab.defM 1 17 m_law [.ref 0] [cell] = .ok (.bl true) st' := by
  have hs : seqAt [cell] 0 = some (ns.map .int) := by rcases hc with e | e <;> subst e <;> rfl
  obtain ⟨a, st', e, h⟩ := Ab.wp_eq (Vc.to_ab (law_spec hs hl))
  exact ⟨st', by rw [e, h]⟩
end K43

set_option Elab.async false
set_option linter.all false
open PySem PySem.W PyProof.Rows in
set_option maxRecDepth 100000 in
set_option maxHeartbeats 0 in
theorem PySem.Challenge.cw_barrelrow_k43_whole_live_rows_holds : PySem.Challenge.rw_barrelrow_k43_whole_live_rows.Holds := by
  w_on; o_law; k_head; (case hw => w_witness2)
  k_fill
  refine LamX.walk_ofOwn (l := PySem.Challenge.rw_barrelrow_k43_whole_live_rows) (n := 63) (k := 8) (CX := fun w => L2.CX PySem.Challenge.rw_barrelrow_k43_whole_live_rows.prog w) (x := "_law_script") rfl (by decide) rfl ⟨rfl, by decide, by decide⟩ (by decide +kernel) (fun w h Y => by first | exact PySem.W.km_in_of Y | exact PySem.W.kIn_of Y) ?F (fun w H s e s' hx => by
    obtain ⟨_, _, _, _, _, _, _, _, _, _, _, _, z⟩ := hx
    exact z)
  case F =>
    intro w mg fa h Y KX G hmg own
    refine' K43.end_at KX G own hmg ?fx K43.plain ?a_law ?z1 ?z2 ?lk ?hcd ?lc ?h11 ?nP ?hh
    (case a_law => k_is); (case z1 => k_is); (case z2 => k_is); (case lk => k_is); (case hcd => k_is); (case lc => k_is); (case h11 => first | rfl | decide +kernel); (case nP => first | k_is | rfl | decide +kernel); (case hh => first | rfl | decide +kernel)
    case fx =>
      refine' K43.fx_mk KX G ?z_list ?z_len ?z_max ?z_range ?z_int ?z_tuple ?z_enumerate ?v_MAX_RAIN ?v_MAX_LETTERS ?v_LETTERS ?z_all ?v_MAX_AMOUNT ?v_MAX_ROOF ?z_isinstance ?z_ValueError ?z_Contradiction ?z_zip ?z_min ?z_dict ?z_str ?z_bool ?a_law_mix ?a_law_next ?a_law_parts ?a_LiveRow ?a_Row ?a_is_name ?a_is_barrel ?a_OtherRain ?a_law_row ?a_law_tick ?a_law_pour_due ?a_InvalidNumber ?a_DecodeError ?a_DaybookError ?a_InvalidText ?a_InvalidRow ?a_InvalidOperation ?a_UnknownBarrel ?a_InvalidWeather ?a_law_outcome ?a_RowError ?a_validate_number ?a_next_tick ?a_law_scoop_due ?a_place_of ?a_law_lock_due ?a_law_alike ?a_law_told ?at_Row_len ?ii_LiveRow ?ii_Row ?at_Row_add ?at_Row_barrels ?at_LiveRow_state ?at_LiveRow_set_state ?at_LiveRow_commit ?at_LiveRow_pour ?at_Row_names ?at_LiveRow_scoop ?at_LiveRow_lock ?at_LiveRow_unlock ?at_LiveRow_missed_water ?at_LiveRow_lost_water ?at_LiveRow_levels ?at_LiveRow_now ?at_LiveRow_history ?at_LiveRow_locked_names ?ii_InvalidRow ?ii_UnknownBarrel ?gt_Row_barrels ?tk_Row_barrels ?rc_Row_barrels ?gt_Row_names ?tk_Row_names ?rc_Row_names ?gt_LiveRow_missed_water ?tk_LiveRow_missed_water ?rc_LiveRow_missed_water ?gt_LiveRow_lost_water ?tk_LiveRow_lost_water ?rc_LiveRow_lost_water ?gt_LiveRow_levels ?tk_LiveRow_levels ?rc_LiveRow_levels ?gt_LiveRow_now ?tk_LiveRow_now ?rc_LiveRow_now ?gt_LiveRow_history ?tk_LiveRow_history ?rc_LiveRow_history ?gt_LiveRow_locked_names ?tk_LiveRow_locked_names ?rc_LiveRow_locked_names ?l_law_mix ?l_law_next ?l_law_parts ?l_Row_len ?l_LiveRow_init ?l_is_name ?l_is_barrel ?l_Row_init ?l_Row_add ?l_law_row ?l_law_tick ?l_law_pour_due ?l_law_outcome ?l_validate_number ?l_Row_barrels ?l_next_tick ?l_LiveRow_state ?l_LiveRow_set_state ?l_LiveRow_commit ?l_LiveRow_pour ?l_law_scoop_due ?l_Row_names ?l_place_of ?l_LiveRow_scoop ?l_law_lock_due ?l_LiveRow_lock ?l_LiveRow_unlock ?l_law_alike ?l_LiveRow_missed_water ?l_LiveRow_lost_water ?l_LiveRow_levels ?l_LiveRow_now ?l_LiveRow_history ?l_LiveRow_locked_names ?l_law_told ?l_x_InvalidRow ?l_x_UnknownBarrel ?xL_x_OtherRain ?xL_x_InvalidNumber ?xL_x_InvalidRow ?xL_x_UnknownBarrel ?c_law_mix ?k_law_mix ?c_law_next ?k_law_next ?c_law_parts ?k_law_parts ?pg_LiveRow ?hd_LiveRow ?po_LiveRow ?sa_LiveRow ?no_LiveRow_plan ?pg_Row ?hd_Row ?po_Row ?sa_Row ?no_Row_parts ?c_Row_len ?k_Row_len ?i_Row_len ?no_LiveRow_water ?no_LiveRow_passed ?no_LiveRow_gone ?no_LiveRow_shut ?no_LiveRow_past ?no_LiveRow_future ?c_LiveRow_init ?k_LiveRow_init ?mk_LiveRow ?if_LiveRow ?kc_LiveRow ?rd_Row ?ga_Row ?cv_MAX_TICKS ?cv_MAX_BARRELS ?c_is_name ?k_is_name ?c_is_barrel ?k_is_barrel ?no_Row_weather ?c_Row_init ?k_Row_init ?mk_Row ?if_Row ?kc_Row ?rV_x_OtherRain ?sa_OtherRain ?bx_OtherRain ?tx_OtherRain ?kc_OtherRain ?ib_OtherRain ?c_Row_add ?k_Row_add ?i_Row_add ?sf_Row ?c_law_row ?k_law_row ?c_law_tick ?k_law_tick ?c_law_pour_due ?k_law_pour_due ?c_law_outcome ?k_law_outcome ?bx_RowError ?hd_RowError ?tx_RowError ?oc_get ?oc_tak ?hg_InvalidRow ?hk_InvalidRow ?bx_InvalidRow ?hd_InvalidRow ?ha_InvalidRow ?hm_InvalidRow ?no_InvalidRow_part ?no_InvalidRow_index ?no_InvalidRow_name ?no_InvalidRow_line ?no_InvalidRow_offset ?ko_InvalidRow_InvalidRow ?ko_InvalidRow_UnknownBarrel ?ko_InvalidRow_InvalidNumber ?ko_InvalidRow_InvalidWeather ?ko_InvalidRow_InvalidOperation ?ko_InvalidRow_InvalidText ?ko_InvalidRow_DaybookError ?ko_InvalidRow_DecodeError ?kv_InvalidRow ?sr_InvalidRow ?hg_UnknownBarrel ?hk_UnknownBarrel ?bx_UnknownBarrel ?hd_UnknownBarrel ?ha_UnknownBarrel ?hm_UnknownBarrel ?no_UnknownBarrel_part ?no_UnknownBarrel_index ?no_UnknownBarrel_name ?no_UnknownBarrel_line ?no_UnknownBarrel_offset ?ko_UnknownBarrel_InvalidRow ?ko_UnknownBarrel_UnknownBarrel ?ko_UnknownBarrel_InvalidNumber ?ko_UnknownBarrel_InvalidWeather ?ko_UnknownBarrel_InvalidOperation ?ko_UnknownBarrel_InvalidText ?ko_UnknownBarrel_DaybookError ?ko_UnknownBarrel_DecodeError ?kv_UnknownBarrel ?sr_UnknownBarrel ?hg_OtherRain ?hk_OtherRain ?hd_OtherRain ?ha_OtherRain ?hm_OtherRain ?no_OtherRain_part ?no_OtherRain_index ?no_OtherRain_name ?no_OtherRain_line ?no_OtherRain_offset ?ko_OtherRain_InvalidRow ?ko_OtherRain_UnknownBarrel ?ko_OtherRain_InvalidNumber ?ko_OtherRain_InvalidWeather ?ko_OtherRain_InvalidOperation ?ko_OtherRain_InvalidText ?ko_OtherRain_DaybookError ?ko_OtherRain_DecodeError ?kv_OtherRain ?sr_OtherRain ?hg_InvalidNumber ?hk_InvalidNumber ?bx_InvalidNumber ?hd_InvalidNumber ?ha_InvalidNumber ?hm_InvalidNumber ?no_InvalidNumber_part ?no_InvalidNumber_index ?no_InvalidNumber_name ?no_InvalidNumber_line ?no_InvalidNumber_offset ?ko_InvalidNumber_InvalidRow ?ko_InvalidNumber_UnknownBarrel ?ko_InvalidNumber_InvalidNumber ?ko_InvalidNumber_InvalidWeather ?ko_InvalidNumber_InvalidOperation ?ko_InvalidNumber_InvalidText ?ko_InvalidNumber_DaybookError ?ko_InvalidNumber_DecodeError ?kv_InvalidNumber ?sr_InvalidNumber ?hg_InvalidWeather ?hk_InvalidWeather ?bx_InvalidWeather ?hd_InvalidWeather ?ha_InvalidWeather ?hm_InvalidWeather ?no_InvalidWeather_part ?no_InvalidWeather_index ?no_InvalidWeather_name ?no_InvalidWeather_line ?no_InvalidWeather_offset ?ko_InvalidWeather_InvalidRow ?ko_InvalidWeather_UnknownBarrel ?ko_InvalidWeather_InvalidNumber ?ko_InvalidWeather_InvalidWeather ?ko_InvalidWeather_InvalidOperation ?ko_InvalidWeather_InvalidText ?ko_InvalidWeather_DaybookError ?ko_InvalidWeather_DecodeError ?kv_InvalidWeather ?sr_InvalidWeather ?hg_InvalidOperation ?hk_InvalidOperation ?bx_InvalidOperation ?hd_InvalidOperation ?ha_InvalidOperation ?hm_InvalidOperation ?no_InvalidOperation_part ?no_InvalidOperation_index ?no_InvalidOperation_name ?no_InvalidOperation_line ?no_InvalidOperation_offset ?ko_InvalidOperation_InvalidRow ?ko_InvalidOperation_UnknownBarrel ?ko_InvalidOperation_InvalidNumber ?ko_InvalidOperation_InvalidWeather ?ko_InvalidOperation_InvalidOperation ?ko_InvalidOperation_InvalidText ?ko_InvalidOperation_DaybookError ?ko_InvalidOperation_DecodeError ?kv_InvalidOperation ?sr_InvalidOperation ?hg_InvalidText ?hk_InvalidText ?bx_InvalidText ?hd_InvalidText ?ha_InvalidText ?hm_InvalidText ?no_InvalidText_part ?no_InvalidText_index ?no_InvalidText_name ?no_InvalidText_line ?no_InvalidText_offset ?ko_InvalidText_InvalidRow ?ko_InvalidText_UnknownBarrel ?ko_InvalidText_InvalidNumber ?ko_InvalidText_InvalidWeather ?ko_InvalidText_InvalidOperation ?ko_InvalidText_InvalidText ?ko_InvalidText_DaybookError ?ko_InvalidText_DecodeError ?kv_InvalidText ?sr_InvalidText ?hg_DaybookError ?hk_DaybookError ?bx_DaybookError ?hd_DaybookError ?ha_DaybookError ?hm_DaybookError ?no_DaybookError_part ?no_DaybookError_index ?no_DaybookError_name ?no_DaybookError_line ?no_DaybookError_offset ?ko_DaybookError_InvalidRow ?ko_DaybookError_UnknownBarrel ?ko_DaybookError_InvalidNumber ?ko_DaybookError_InvalidWeather ?ko_DaybookError_InvalidOperation ?ko_DaybookError_InvalidText ?ko_DaybookError_DaybookError ?ko_DaybookError_DecodeError ?kv_DaybookError ?sr_DaybookError ?hg_DecodeError ?hk_DecodeError ?bx_DecodeError ?hd_DecodeError ?ha_DecodeError ?hm_DecodeError ?no_DecodeError_part ?no_DecodeError_index ?no_DecodeError_name ?no_DecodeError_line ?no_DecodeError_offset ?ko_DecodeError_InvalidRow ?ko_DecodeError_UnknownBarrel ?ko_DecodeError_InvalidNumber ?ko_DecodeError_InvalidWeather ?ko_DecodeError_InvalidOperation ?ko_DecodeError_InvalidText ?ko_DecodeError_DaybookError ?ko_DecodeError_DecodeError ?kv_DecodeError ?sr_DecodeError ?rV_x_InvalidNumber ?sa_InvalidNumber ?tx_InvalidNumber ?kc_InvalidNumber ?ib_InvalidNumber ?c_validate_number ?k_validate_number ?c_Row_barrels ?k_Row_barrels ?c_next_tick ?k_next_tick ?c_LiveRow_state ?k_LiveRow_state ?i_LiveRow_state ?c_LiveRow_set_state ?k_LiveRow_set_state ?i_LiveRow_set_state ?c_LiveRow_commit ?k_LiveRow_commit ?i_LiveRow_commit ?c_LiveRow_pour ?k_LiveRow_pour ?i_LiveRow_pour ?c_law_scoop_due ?k_law_scoop_due ?c_Row_names ?k_Row_names ?c_place_of ?k_place_of ?c_LiveRow_scoop ?k_LiveRow_scoop ?i_LiveRow_scoop ?c_law_lock_due ?k_law_lock_due ?c_LiveRow_lock ?k_LiveRow_lock ?i_LiveRow_lock ?c_LiveRow_unlock ?k_LiveRow_unlock ?i_LiveRow_unlock ?c_law_alike ?k_law_alike ?c_LiveRow_missed_water ?k_LiveRow_missed_water ?c_LiveRow_lost_water ?k_LiveRow_lost_water ?c_LiveRow_levels ?k_LiveRow_levels ?c_LiveRow_now ?k_LiveRow_now ?c_LiveRow_history ?k_LiveRow_history ?c_LiveRow_locked_names ?k_LiveRow_locked_names ?c_law_told ?k_law_told ?c_x_InvalidRow ?k_x_InvalidRow ?rd_RowError ?ga_RowError ?iv_RowError ?rV_x_InvalidRow ?sa_InvalidRow ?tx_InvalidRow ?kc_InvalidRow ?ti_InvalidRow ?c_x_UnknownBarrel ?k_x_UnknownBarrel ?rV_x_UnknownBarrel ?sa_UnknownBarrel ?tx_UnknownBarrel ?kc_UnknownBarrel ?ti_UnknownBarrel
      (case z_list => k_is)
      (case z_len => k_is)
      (case z_max => k_is)
      (case z_range => k_is)
      (case z_int => k_is)
      (case z_tuple => k_is)
      (case z_enumerate => k_is)
      (case v_MAX_RAIN => k_is)
      (case v_MAX_LETTERS => k_is)
      (case v_LETTERS => k_is)
      (case z_all => k_is)
      (case v_MAX_AMOUNT => k_is)
      (case v_MAX_ROOF => k_is)
      (case z_isinstance => k_is)
      (case z_ValueError => k_is)
      (case z_Contradiction => k_is)
      (case z_zip => k_is)
      (case z_min => k_is)
      (case z_dict => k_is)
      (case z_str => k_is)
      (case z_bool => k_is)
      (case a_law_mix => k_is)
      (case a_law_next => k_is)
      (case a_law_parts => k_is)
      (case a_LiveRow => k_is)
      (case a_Row => k_is)
      (case a_is_name => k_is)
      (case a_is_barrel => k_is)
      (case a_OtherRain => k_is)
      (case a_law_row => k_is)
      (case a_law_tick => k_is)
      (case a_law_pour_due => k_is)
      (case a_InvalidNumber => k_is)
      (case a_DecodeError => k_is)
      (case a_DaybookError => k_is)
      (case a_InvalidText => k_is)
      (case a_InvalidRow => k_is)
      (case a_InvalidOperation => k_is)
      (case a_UnknownBarrel => k_is)
      (case a_InvalidWeather => k_is)
      (case a_law_outcome => k_is)
      (case a_RowError => k_is)
      (case a_validate_number => k_is)
      (case a_next_tick => k_is)
      (case a_law_scoop_due => k_is)
      (case a_place_of => k_is)
      (case a_law_lock_due => k_is)
      (case a_law_alike => k_is)
      (case a_law_told => k_is)
      (case at_Row_len => k_is)
      (case ii_LiveRow => k_is)
      (case ii_Row => k_is)
      (case at_Row_add => k_is)
      (case at_Row_barrels => k_is)
      (case at_LiveRow_state => k_is)
      (case at_LiveRow_set_state => k_is)
      (case at_LiveRow_commit => k_is)
      (case at_LiveRow_pour => k_is)
      (case at_Row_names => k_is)
      (case at_LiveRow_scoop => k_is)
      (case at_LiveRow_lock => k_is)
      (case at_LiveRow_unlock => k_is)
      (case at_LiveRow_missed_water => k_is)
      (case at_LiveRow_lost_water => k_is)
      (case at_LiveRow_levels => k_is)
      (case at_LiveRow_now => k_is)
      (case at_LiveRow_history => k_is)
      (case at_LiveRow_locked_names => k_is)
      (case ii_InvalidRow => k_is)
      (case ii_UnknownBarrel => k_is)
      (case gt_Row_barrels => k_is)
      (case tk_Row_barrels => k_is)
      (case rc_Row_barrels => k_is)
      (case gt_Row_names => k_is)
      (case tk_Row_names => k_is)
      (case rc_Row_names => k_is)
      (case gt_LiveRow_missed_water => k_is)
      (case tk_LiveRow_missed_water => k_is)
      (case rc_LiveRow_missed_water => k_is)
      (case gt_LiveRow_lost_water => k_is)
      (case tk_LiveRow_lost_water => k_is)
      (case rc_LiveRow_lost_water => k_is)
      (case gt_LiveRow_levels => k_is)
      (case tk_LiveRow_levels => k_is)
      (case rc_LiveRow_levels => k_is)
      (case gt_LiveRow_now => k_is)
      (case tk_LiveRow_now => k_is)
      (case rc_LiveRow_now => k_is)
      (case gt_LiveRow_history => k_is)
      (case tk_LiveRow_history => k_is)
      (case rc_LiveRow_history => k_is)
      (case gt_LiveRow_locked_names => k_is)
      (case tk_LiveRow_locked_names => k_is)
      (case rc_LiveRow_locked_names => k_is)
      (case l_law_mix => k_is)
      (case l_law_next => k_is)
      (case l_law_parts => k_is)
      (case l_Row_len => k_is)
      (case l_LiveRow_init => k_is)
      (case l_is_name => k_is)
      (case l_is_barrel => k_is)
      (case l_Row_init => k_is)
      (case l_Row_add => k_is)
      (case l_law_row => k_is)
      (case l_law_tick => k_is)
      (case l_law_pour_due => k_is)
      (case l_law_outcome => k_is)
      (case l_validate_number => k_is)
      (case l_Row_barrels => k_is)
      (case l_next_tick => k_is)
      (case l_LiveRow_state => k_is)
      (case l_LiveRow_set_state => k_is)
      (case l_LiveRow_commit => k_is)
      (case l_LiveRow_pour => k_is)
      (case l_law_scoop_due => k_is)
      (case l_Row_names => k_is)
      (case l_place_of => k_is)
      (case l_LiveRow_scoop => k_is)
      (case l_law_lock_due => k_is)
      (case l_LiveRow_lock => k_is)
      (case l_LiveRow_unlock => k_is)
      (case l_law_alike => k_is)
      (case l_LiveRow_missed_water => k_is)
      (case l_LiveRow_lost_water => k_is)
      (case l_LiveRow_levels => k_is)
      (case l_LiveRow_now => k_is)
      (case l_LiveRow_history => k_is)
      (case l_LiveRow_locked_names => k_is)
      (case l_law_told => k_is)
      (case l_x_InvalidRow => k_is)
      (case l_x_UnknownBarrel => k_is)
      (case xL_x_OtherRain => k_is)
      (case xL_x_InvalidNumber => k_is)
      (case xL_x_InvalidRow => k_is)
      (case xL_x_UnknownBarrel => k_is)
      (case c_law_mix => k_is)
      (case k_law_mix => k_is)
      (case c_law_next => k_is)
      (case k_law_next => k_is)
      (case c_law_parts => k_is)
      (case k_law_parts => k_is)
      (case pg_LiveRow => k_is)
      (case hd_LiveRow => k_is)
      (case po_LiveRow => k_is)
      (case sa_LiveRow => k_is)
      (case no_LiveRow_plan => k_is)
      (case pg_Row => k_is)
      (case hd_Row => k_is)
      (case po_Row => k_is)
      (case sa_Row => k_is)
      (case no_Row_parts => k_is)
      (case c_Row_len => k_is)
      (case k_Row_len => k_is)
      (case i_Row_len => k_is)
      (case no_LiveRow_water => k_is)
      (case no_LiveRow_passed => k_is)
      (case no_LiveRow_gone => k_is)
      (case no_LiveRow_shut => k_is)
      (case no_LiveRow_past => k_is)
      (case no_LiveRow_future => k_is)
      (case c_LiveRow_init => k_is)
      (case k_LiveRow_init => k_is)
      (case mk_LiveRow => k_is)
      (case if_LiveRow => k_is)
      (case kc_LiveRow => k_is)
      (case rd_Row => k_is)
      (case ga_Row => k_is)
      (case cv_MAX_TICKS => k_is)
      (case cv_MAX_BARRELS => k_is)
      (case c_is_name => k_is)
      (case k_is_name => k_is)
      (case c_is_barrel => k_is)
      (case k_is_barrel => k_is)
      (case no_Row_weather => k_is)
      (case c_Row_init => k_is)
      (case k_Row_init => k_is)
      (case mk_Row => k_is)
      (case if_Row => k_is)
      (case kc_Row => k_is)
      (case rV_x_OtherRain => decide +kernel)
      (case sa_OtherRain => k_is)
      (case bx_OtherRain => k_is)
      (case tx_OtherRain => k_is)
      (case kc_OtherRain => k_is)
      (case ib_OtherRain => k_is)
      (case c_Row_add => k_is)
      (case k_Row_add => k_is)
      (case i_Row_add => k_is)
      (case sf_Row => k_is)
      (case c_law_row => k_is)
      (case k_law_row => k_is)
      (case c_law_tick => k_is)
      (case k_law_tick => k_is)
      (case c_law_pour_due => k_is)
      (case k_law_pour_due => k_is)
      (case c_law_outcome => k_is)
      (case k_law_outcome => k_is)
      (case bx_RowError => k_is)
      (case hd_RowError => k_is)
      (case tx_RowError => k_is)
      (case oc_get => k_is)
      (case oc_tak => k_is)
      (case hg_InvalidRow => k_is)
      (case hk_InvalidRow => k_is)
      (case bx_InvalidRow => k_is)
      (case hd_InvalidRow => k_is)
      (case ha_InvalidRow => k_is)
      (case hm_InvalidRow => k_is)
      (case no_InvalidRow_part => k_is)
      (case no_InvalidRow_index => k_is)
      (case no_InvalidRow_name => k_is)
      (case no_InvalidRow_line => k_is)
      (case no_InvalidRow_offset => k_is)
      (case ko_InvalidRow_InvalidRow => first | kit_is | k_is)
      (case ko_InvalidRow_UnknownBarrel => first | kit_is | k_is)
      (case ko_InvalidRow_InvalidNumber => first | kit_is | k_is)
      (case ko_InvalidRow_InvalidWeather => first | kit_is | k_is)
      (case ko_InvalidRow_InvalidOperation => first | kit_is | k_is)
      (case ko_InvalidRow_InvalidText => first | kit_is | k_is)
      (case ko_InvalidRow_DaybookError => first | kit_is | k_is)
      (case ko_InvalidRow_DecodeError => first | kit_is | k_is)
      (case kv_InvalidRow => first | kit_is | k_is)
      (case sr_InvalidRow => k_is)
      (case hg_UnknownBarrel => k_is)
      (case hk_UnknownBarrel => k_is)
      (case bx_UnknownBarrel => k_is)
      (case hd_UnknownBarrel => k_is)
      (case ha_UnknownBarrel => k_is)
      (case hm_UnknownBarrel => k_is)
      (case no_UnknownBarrel_part => k_is)
      (case no_UnknownBarrel_index => k_is)
      (case no_UnknownBarrel_name => k_is)
      (case no_UnknownBarrel_line => k_is)
      (case no_UnknownBarrel_offset => k_is)
      (case ko_UnknownBarrel_InvalidRow => first | kit_is | k_is)
      (case ko_UnknownBarrel_UnknownBarrel => first | kit_is | k_is)
      (case ko_UnknownBarrel_InvalidNumber => first | kit_is | k_is)
      (case ko_UnknownBarrel_InvalidWeather => first | kit_is | k_is)
      (case ko_UnknownBarrel_InvalidOperation => first | kit_is | k_is)
      (case ko_UnknownBarrel_InvalidText => first | kit_is | k_is)
      (case ko_UnknownBarrel_DaybookError => first | kit_is | k_is)
      (case ko_UnknownBarrel_DecodeError => first | kit_is | k_is)
      (case kv_UnknownBarrel => first | kit_is | k_is)
      (case sr_UnknownBarrel => k_is)
      (case hg_OtherRain => k_is)
      (case hk_OtherRain => k_is)
      (case hd_OtherRain => k_is)
      (case ha_OtherRain => k_is)
      (case hm_OtherRain => k_is)
      (case no_OtherRain_part => k_is)
      (case no_OtherRain_index => k_is)
      (case no_OtherRain_name => k_is)
      (case no_OtherRain_line => k_is)
      (case no_OtherRain_offset => k_is)
      (case ko_OtherRain_InvalidRow => first | kit_is | k_is)
      (case ko_OtherRain_UnknownBarrel => first | kit_is | k_is)
      (case ko_OtherRain_InvalidNumber => first | kit_is | k_is)
      (case ko_OtherRain_InvalidWeather => first | kit_is | k_is)
      (case ko_OtherRain_InvalidOperation => first | kit_is | k_is)
      (case ko_OtherRain_InvalidText => first | kit_is | k_is)
      (case ko_OtherRain_DaybookError => first | kit_is | k_is)
      (case ko_OtherRain_DecodeError => first | kit_is | k_is)
      (case kv_OtherRain => first | kit_is | k_is)
      (case sr_OtherRain => k_is)
      (case hg_InvalidNumber => k_is)
      (case hk_InvalidNumber => k_is)
      (case bx_InvalidNumber => k_is)
      (case hd_InvalidNumber => k_is)
      (case ha_InvalidNumber => k_is)
      (case hm_InvalidNumber => k_is)
      (case no_InvalidNumber_part => k_is)
      (case no_InvalidNumber_index => k_is)
      (case no_InvalidNumber_name => k_is)
      (case no_InvalidNumber_line => k_is)
      (case no_InvalidNumber_offset => k_is)
      (case ko_InvalidNumber_InvalidRow => first | kit_is | k_is)
      (case ko_InvalidNumber_UnknownBarrel => first | kit_is | k_is)
      (case ko_InvalidNumber_InvalidNumber => first | kit_is | k_is)
      (case ko_InvalidNumber_InvalidWeather => first | kit_is | k_is)
      (case ko_InvalidNumber_InvalidOperation => first | kit_is | k_is)
      (case ko_InvalidNumber_InvalidText => first | kit_is | k_is)
      (case ko_InvalidNumber_DaybookError => first | kit_is | k_is)
      (case ko_InvalidNumber_DecodeError => first | kit_is | k_is)
      (case kv_InvalidNumber => first | kit_is | k_is)
      (case sr_InvalidNumber => k_is)
      (case hg_InvalidWeather => k_is)
      (case hk_InvalidWeather => k_is)
      (case bx_InvalidWeather => k_is)
      (case hd_InvalidWeather => k_is)
      (case ha_InvalidWeather => k_is)
      (case hm_InvalidWeather => k_is)
      (case no_InvalidWeather_part => k_is)
      (case no_InvalidWeather_index => k_is)
      (case no_InvalidWeather_name => k_is)
      (case no_InvalidWeather_line => k_is)
      (case no_InvalidWeather_offset => k_is)
      (case ko_InvalidWeather_InvalidRow => first | kit_is | k_is)
      (case ko_InvalidWeather_UnknownBarrel => first | kit_is | k_is)
      (case ko_InvalidWeather_InvalidNumber => first | kit_is | k_is)
      (case ko_InvalidWeather_InvalidWeather => first | kit_is | k_is)
      (case ko_InvalidWeather_InvalidOperation => first | kit_is | k_is)
      (case ko_InvalidWeather_InvalidText => first | kit_is | k_is)
      (case ko_InvalidWeather_DaybookError => first | kit_is | k_is)
      (case ko_InvalidWeather_DecodeError => first | kit_is | k_is)
      (case kv_InvalidWeather => first | kit_is | k_is)
      (case sr_InvalidWeather => k_is)
      (case hg_InvalidOperation => k_is)
      (case hk_InvalidOperation => k_is)
      (case bx_InvalidOperation => k_is)
      (case hd_InvalidOperation => k_is)
      (case ha_InvalidOperation => k_is)
      (case hm_InvalidOperation => k_is)
      (case no_InvalidOperation_part => k_is)
      (case no_InvalidOperation_index => k_is)
      (case no_InvalidOperation_name => k_is)
      (case no_InvalidOperation_line => k_is)
      (case no_InvalidOperation_offset => k_is)
      (case ko_InvalidOperation_InvalidRow => first | kit_is | k_is)
      (case ko_InvalidOperation_UnknownBarrel => first | kit_is | k_is)
      (case ko_InvalidOperation_InvalidNumber => first | kit_is | k_is)
      (case ko_InvalidOperation_InvalidWeather => first | kit_is | k_is)
      (case ko_InvalidOperation_InvalidOperation => first | kit_is | k_is)
      (case ko_InvalidOperation_InvalidText => first | kit_is | k_is)
      (case ko_InvalidOperation_DaybookError => first | kit_is | k_is)
      (case ko_InvalidOperation_DecodeError => first | kit_is | k_is)
      (case kv_InvalidOperation => first | kit_is | k_is)
      (case sr_InvalidOperation => k_is)
      (case hg_InvalidText => k_is)
      (case hk_InvalidText => k_is)
      (case bx_InvalidText => k_is)
      (case hd_InvalidText => k_is)
      (case ha_InvalidText => k_is)
      (case hm_InvalidText => k_is)
      (case no_InvalidText_part => k_is)
      (case no_InvalidText_index => k_is)
      (case no_InvalidText_name => k_is)
      (case no_InvalidText_line => k_is)
      (case no_InvalidText_offset => k_is)
      (case ko_InvalidText_InvalidRow => first | kit_is | k_is)
      (case ko_InvalidText_UnknownBarrel => first | kit_is | k_is)
      (case ko_InvalidText_InvalidNumber => first | kit_is | k_is)
      (case ko_InvalidText_InvalidWeather => first | kit_is | k_is)
      (case ko_InvalidText_InvalidOperation => first | kit_is | k_is)
      (case ko_InvalidText_InvalidText => first | kit_is | k_is)
      (case ko_InvalidText_DaybookError => first | kit_is | k_is)
      (case ko_InvalidText_DecodeError => first | kit_is | k_is)
      (case kv_InvalidText => first | kit_is | k_is)
      (case sr_InvalidText => k_is)
      (case hg_DaybookError => k_is)
      (case hk_DaybookError => k_is)
      (case bx_DaybookError => k_is)
      (case hd_DaybookError => k_is)
      (case ha_DaybookError => k_is)
      (case hm_DaybookError => k_is)
      (case no_DaybookError_part => k_is)
      (case no_DaybookError_index => k_is)
      (case no_DaybookError_name => k_is)
      (case no_DaybookError_line => k_is)
      (case no_DaybookError_offset => k_is)
      (case ko_DaybookError_InvalidRow => first | kit_is | k_is)
      (case ko_DaybookError_UnknownBarrel => first | kit_is | k_is)
      (case ko_DaybookError_InvalidNumber => first | kit_is | k_is)
      (case ko_DaybookError_InvalidWeather => first | kit_is | k_is)
      (case ko_DaybookError_InvalidOperation => first | kit_is | k_is)
      (case ko_DaybookError_InvalidText => first | kit_is | k_is)
      (case ko_DaybookError_DaybookError => first | kit_is | k_is)
      (case ko_DaybookError_DecodeError => first | kit_is | k_is)
      (case kv_DaybookError => first | kit_is | k_is)
      (case sr_DaybookError => k_is)
      (case hg_DecodeError => k_is)
      (case hk_DecodeError => k_is)
      (case bx_DecodeError => k_is)
      (case hd_DecodeError => k_is)
      (case ha_DecodeError => k_is)
      (case hm_DecodeError => k_is)
      (case no_DecodeError_part => k_is)
      (case no_DecodeError_index => k_is)
      (case no_DecodeError_name => k_is)
      (case no_DecodeError_line => k_is)
      (case no_DecodeError_offset => k_is)
      (case ko_DecodeError_InvalidRow => first | kit_is | k_is)
      (case ko_DecodeError_UnknownBarrel => first | kit_is | k_is)
      (case ko_DecodeError_InvalidNumber => first | kit_is | k_is)
      (case ko_DecodeError_InvalidWeather => first | kit_is | k_is)
      (case ko_DecodeError_InvalidOperation => first | kit_is | k_is)
      (case ko_DecodeError_InvalidText => first | kit_is | k_is)
      (case ko_DecodeError_DaybookError => first | kit_is | k_is)
      (case ko_DecodeError_DecodeError => first | kit_is | k_is)
      (case kv_DecodeError => first | kit_is | k_is)
      (case sr_DecodeError => k_is)
      (case rV_x_InvalidNumber => decide +kernel)
      (case sa_InvalidNumber => k_is)
      (case tx_InvalidNumber => k_is)
      (case kc_InvalidNumber => k_is)
      (case ib_InvalidNumber => k_is)
      (case c_validate_number => k_is)
      (case k_validate_number => k_is)
      (case c_Row_barrels => k_is)
      (case k_Row_barrels => k_is)
      (case c_next_tick => k_is)
      (case k_next_tick => k_is)
      (case c_LiveRow_state => k_is)
      (case k_LiveRow_state => k_is)
      (case i_LiveRow_state => k_is)
      (case c_LiveRow_set_state => k_is)
      (case k_LiveRow_set_state => k_is)
      (case i_LiveRow_set_state => k_is)
      (case c_LiveRow_commit => k_is)
      (case k_LiveRow_commit => k_is)
      (case i_LiveRow_commit => k_is)
      (case c_LiveRow_pour => k_is)
      (case k_LiveRow_pour => k_is)
      (case i_LiveRow_pour => k_is)
      (case c_law_scoop_due => k_is)
      (case k_law_scoop_due => k_is)
      (case c_Row_names => k_is)
      (case k_Row_names => k_is)
      (case c_place_of => k_is)
      (case k_place_of => k_is)
      (case c_LiveRow_scoop => k_is)
      (case k_LiveRow_scoop => k_is)
      (case i_LiveRow_scoop => k_is)
      (case c_law_lock_due => k_is)
      (case k_law_lock_due => k_is)
      (case c_LiveRow_lock => k_is)
      (case k_LiveRow_lock => k_is)
      (case i_LiveRow_lock => k_is)
      (case c_LiveRow_unlock => k_is)
      (case k_LiveRow_unlock => k_is)
      (case i_LiveRow_unlock => k_is)
      (case c_law_alike => k_is)
      (case k_law_alike => k_is)
      (case c_LiveRow_missed_water => k_is)
      (case k_LiveRow_missed_water => k_is)
      (case c_LiveRow_lost_water => k_is)
      (case k_LiveRow_lost_water => k_is)
      (case c_LiveRow_levels => k_is)
      (case k_LiveRow_levels => k_is)
      (case c_LiveRow_now => k_is)
      (case k_LiveRow_now => k_is)
      (case c_LiveRow_history => k_is)
      (case k_LiveRow_history => k_is)
      (case c_LiveRow_locked_names => k_is)
      (case k_LiveRow_locked_names => k_is)
      (case c_law_told => k_is)
      (case k_law_told => k_is)
      (case c_x_InvalidRow => k_is)
      (case k_x_InvalidRow => k_is)
      (case rd_RowError => k_is)
      (case ga_RowError => k_is)
      (case iv_RowError => k_is)
      (case rV_x_InvalidRow => decide +kernel)
      (case sa_InvalidRow => k_is)
      (case tx_InvalidRow => k_is)
      (case kc_InvalidRow => k_is)
      (case ti_InvalidRow => k_is)
      (case c_x_UnknownBarrel => k_is)
      (case k_x_UnknownBarrel => k_is)
      (case rV_x_UnknownBarrel => decide +kernel)
      (case sa_UnknownBarrel => k_is)
      (case tx_UnknownBarrel => k_is)
      (case kc_UnknownBarrel => k_is)
      (case ti_UnknownBarrel => k_is)
