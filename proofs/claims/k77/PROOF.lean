import PyProof.Rows.All
import HandS.ForMost
import HandS.ForExc
import HandS.Defaults
import HandS.Flow
import HandS.IsInst
import HandS.Gcd
import HandS.Wide
import HandS.OwnEq
import HandS.Style
import HandS.Iter
import HandS.Text
import HandS.RaiseMore
import HandS.SortInts
import HandS.CallSlots
import HandS.Words
import HandS.EndBits
import HandS.HeadEnd
import HandS.Head0
import HandS.Head1
import HandS.Head2
import HandS.HeadHook1
import HandS.HeadHook2
import HandS.Codes
import HandS.Head3
import PySem.Challenge.RW_seriesroads_k77_deep_expressions
set_option Elab.async false
set_option linter.all false
set_option maxRecDepth 100000
set_option maxHeartbeats 4000000
section
/-! L3: the hand layer lifted to plain data. D: data that nobody changes any more; O: data, or a list, an instance, a dict that one holder alone owns. -/
namespace L3
open PySem L2

inductive D where
  | non | bl (b : Bool) | int (i : Int) | str (s : Str) | ty (n : String) | adr (a : Addr)
  | tup (xs : List D) | lst (xs : List D) | sq (xs : List D) | ins (C : Addr) (fs : List (Str × D))
  | dK (kvs : List (Key × D)) | dT (kvs : List (List Key × D))

inductive O where
  | fz (d : D) | ol (xs : List D) | oi (C : Addr) (fs : List (Str × D)) | odK (kvs : List (Key × D)) | odT (kvs : List (List Key × D))

def O.own : O → Bool
  | .fz _ => false
  | _ => true
def O.frz : O → D
  | .fz d => d
  | .ol xs => .lst xs
  | .oi C fs => .ins C fs
  | .odK kvs => .dK kvs
  | .odT kvs => .dT kvs

/-- an extension of what is known -/
def Ex (H H' : Hp) : Prop := ∀ a o, H a = some o → H' a = some o
theorem Ex.refl (H : Hp) : Ex H H := fun _ _ h => h
theorem Ex.trans {H H1 H2 : Hp} (a : Ex H H1) (b : Ex H1 H2) : Ex H H2 := fun x o h => b x o (a x o h)
theorem Ex.new {H : Hp} {p : Addr} {o : HO} (h : H p = none) : Ex H (upd H p o) := fun a u e => by
  rw [upd_ne (ne_of_none e h)]; exact e
theorem Ex.fresh {H H' : Hp} {p : Addr} (e : Ex H H') (h : H' p = none) : H p = none := by
  cases h1 : H p with
  | none => rfl
  | some o => rw [e p o h1] at h; cases h
theorem Ex.rd {H H' : Hp} {a : Addr} {u : HO} (e : Ex H H') (h : Rd H a u) : Rd H' a u := by
  rcases h with h | ⟨o, h⟩
  · exact Or.inl (e a _ h)
  · exact Or.inr ⟨o, e a _ h⟩
theorem Ex.l {K : PySem.W.Frag} {H H' : Hp} {a : Addr} {xs : List V} (e : Ex H H') (h : SqL K H a xs) : SqL K H' a xs := by
  rcases h with h | h
  · exact Or.inl (e.rd h)
  · exact Or.inr h
/-- a tuple that is tracked -/
def TpAt (K : PySem.W.Frag) (H : Hp) (a : Addr) (xs : List V) : Prop := H a = some (.tup xs)
theorem TpAt.of {K : PySem.W.Frag} {H : Hp} {a : Addr} {xs : List V} (h : H a = some (.tup xs)) : TpAt K H a xs := h
theorem TpAt.sq {K : PySem.W.Frag} {H : Hp} {a : Addr} {xs : List V} (h : TpAt K H a xs) : SqT K H a xs := Or.inl (.inl h)
theorem Ex.tp {K : PySem.W.Frag} {H H' : Hp} {a : Addr} {xs : List V} (e : Ex H H') (h : TpAt K H a xs) : TpAt K H' a xs := e _ _ h
theorem Ex.t {K : PySem.W.Frag} {H H' : Hp} {a : Addr} {xs : List V} (e : Ex H H') (h : TpAt K H a xs) : SqT K H' a xs := (e.tp h).sq

section
variable (K : PySem.W.Frag)
inductive RepF (H : Hp) : D → V → Prop
  | non : RepF H .non .non
  | bl {b} : RepF H (.bl b) (.bl b)
  | int {i} : RepF H (.int i) (.int i)
  | str {s} : RepF H (.str s) (.str s)
  | ty {n} : RepF H (.ty n) (.ty n)
  | adr {a} : RepF H (.adr a) (.ref a)
  | tup {xs a vs} : TpAt K H a vs → xs.length = vs.length → (∀ (i : Nat) (d : D) (v : V), xs[i]? = some d → vs[i]? = some v → RepF H d v) → RepF H (.tup xs) (.ref a)
  | lst {xs a vs} : H a = some (.lst vs) → xs.length = vs.length → (∀ (i : Nat) (d : D) (v : V), xs[i]? = some d → vs[i]? = some v → RepF H d v) → RepF H (.lst xs) (.ref a)
  | sq {xs a vs} : SqL K H a vs → xs.length = vs.length → (∀ (i : Nat) (d : D) (v : V), xs[i]? = some d → vs[i]? = some v → RepF H d v) → RepF H (.sq xs) (.ref a)
  | ins {C fs a dx gs} : H a = some (.ins C dx gs) → fs.map (·.1) = gs.map (·.1) → (∀ (i : Nat) (p : Str × D) (q : Str × V), fs[i]? = some p → gs[i]? = some q → RepF H p.2 q.2) → RepF H (.ins C fs) (.ref a)
  | dK {kvs a gs} : Rd H a (.dK gs) → kvs.map (·.1) = gs.map (·.1) → (∀ (i : Nat) (p : Key × D) (q : Key × V), kvs[i]? = some p → gs[i]? = some q → RepF H p.2 q.2) → RepF H (.dK kvs) (.ref a)
  | dT {kvs a gs} : Rd H a (.dT gs) → kvs.map (·.1) = gs.map (·.1) → (∀ (i : Nat) (p : List Key × D) (q : List Key × V), kvs[i]? = some p → gs[i]? = some q → RepF H p.2 q.2) → RepF H (.dT kvs) (.ref a)
def RepFs (H : Hp) (xs : List D) (vs : List V) : Prop := xs.length = vs.length ∧ ∀ (i : Nat) (d : D) (v : V), xs[i]? = some d → vs[i]? = some v → RepF K H d v
def RepKs {κ : Type} (H : Hp) (fs : List (κ × D)) (gs : List (κ × V)) : Prop := fs.map (·.1) = gs.map (·.1) ∧ ∀ (i : Nat) (p : κ × D) (q : κ × V), fs[i]? = some p → gs[i]? = some q → RepF K H p.2 q.2
inductive RepO (Hf H : Hp) : O → V → Prop
  | fz {d v} : RepF K Hf d v → RepO Hf H (.fz d) v
  | ol {xs a vs} : H a = some (.lst vs) → RepFs K Hf xs vs → RepO Hf H (.ol xs) (.ref a)
  | oi {C fs a dx gs} : H a = some (.ins C dx gs) → RepKs K Hf fs gs → RepO Hf H (.oi C fs) (.ref a)
  | odK {kvs a gs} : H a = some (.dK gs) → RepKs K Hf kvs gs → RepO Hf H (.odK kvs) (.ref a)
  | odT {kvs a gs} : H a = some (.dT gs) → RepKs K Hf kvs gs → RepO Hf H (.odT kvs) (.ref a)
end

section
variable {K : PySem.W.Frag} {H H' Hf Hf' : Hp}
theorem RepF.mono (e : Ex H H') {d : D} {v : V} (h : RepF K H d v) : RepF K H' d v := by
  induction h with
  | non => exact .non
  | bl => exact .bl
  | int => exact .int
  | str => exact .str
  | ty => exact .ty
  | adr => exact .adr
  | tup h1 h2 _ ih => exact .tup (e.tp h1) h2 ih
  | lst h1 h2 _ ih => exact .lst (e _ _ h1) h2 ih
  | sq h1 h2 _ ih => exact .sq (e.l h1) h2 ih
  | ins h1 h2 _ ih => exact .ins (e _ _ h1) h2 ih
  | dK h1 h2 _ ih => exact .dK (e.rd h1) h2 ih
  | dT h1 h2 _ ih => exact .dT (e.rd h1) h2 ih
theorem RepFs.mono (e : Ex H H') {xs : List D} {vs : List V} (h : RepFs K H xs vs) : RepFs K H' xs vs := ⟨h.1, fun i d v a b => (h.2 i d v a b).mono e⟩
theorem RepKs.mono {κ : Type} (e : Ex H H') {xs : List (κ × D)} {vs : List (κ × V)} (h : RepKs K H xs vs) : RepKs K H' xs vs := ⟨h.1, fun i d v a b => (h.2 i d v a b).mono e⟩
theorem RepFs.nil : RepFs K H [] [] := ⟨rfl, fun i d v h => by simp at h⟩
theorem RepFs.cons {d : D} {v : V} {xs : List D} {vs : List V} (h : RepF K H d v) (t : RepFs K H xs vs) : RepFs K H (d :: xs) (v :: vs) :=
  ⟨by simp [t.1], fun i e u h1 h2 => by
    cases i with
    | zero => simp at h1 h2; subst h1 h2; exact h
    | succ i => simp at h1 h2; exact t.2 i e u h1 h2⟩
theorem RepFs.uncons {d : D} {xs : List D} {vs : List V} (h : RepFs K H (d :: xs) vs) : ∃ v r, vs = v :: r ∧ RepF K H d v ∧ RepFs K H xs r := by
  cases vs with
  | nil => exact absurd h.1 (by simp)
  | cons v r => exact ⟨v, r, rfl, h.2 0 d v rfl rfl, by simpa using h.1, fun i e u h1 h2 => h.2 (i + 1) e u (by simpa using h1) (by simpa using h2)⟩
theorem RepFs.nil_of {vs : List V} (h : RepFs K H [] vs) : vs = [] := by
  cases vs with
  | nil => rfl
  | cons v r => exact absurd h.1 (by simp)
theorem RepFs.append {xs ys : List D} {vs us : List V} (h : RepFs K H xs vs) (t : RepFs K H ys us) : RepFs K H (xs ++ ys) (vs ++ us) := by
  induction xs generalizing vs with
  | nil => rw [h.nil_of]; exact t
  | cons d xs ih => obtain ⟨v, r, rfl, h1, h2⟩ := h.uncons; exact .cons h1 (ih h2)
theorem RepFs.at {xs : List D} {vs : List V} (h : RepFs K H xs vs) {i : Nat} {d : D} (e : xs[i]? = some d) : ∃ v, vs[i]? = some v ∧ RepF K H d v := by
  obtain ⟨hl, _⟩ := List.getElem?_eq_some_iff.mp e
  have hl2 : i < vs.length := by rw [← h.1]; exact hl
  exact ⟨vs[i], by simp [hl2], h.2 i d _ e (by simp [hl2])⟩
theorem RepFs.set {xs : List D} {vs : List V} (h : RepFs K H xs vs) {i : Nat} {d : D} {v : V} (r : RepF K H d v) : RepFs K H (xs.set i d) (vs.set i v) := by
  refine ⟨by simp [h.1], fun j e u h1 h2 => ?_⟩
  by_cases hij : i = j
  · subst hij
    have l1 : i < xs.length := by
      obtain ⟨l, _⟩ := List.getElem?_eq_some_iff.mp h1
      simpa using l
    rw [List.getElem?_set_self l1] at h1
    rw [List.getElem?_set_self (by rw [← h.1]; exact l1)] at h2
    cases h1; cases h2; exact r
  · rw [List.getElem?_set_ne hij] at h1 h2
    exact h.2 j e u h1 h2
theorem RepFs.take {xs : List D} {vs : List V} (h : RepFs K H xs vs) (n : Nat) : RepFs K H (xs.take n) (vs.take n) := by
  refine ⟨by simp [h.1], fun j e u h1 h2 => ?_⟩
  rw [List.getElem?_take] at h1 h2
  split at h1
  · rw [if_pos (by assumption)] at h2; exact h.2 j e u h1 h2
  · cases h1
theorem RepFs.drop {xs : List D} {vs : List V} (h : RepFs K H xs vs) (n : Nat) : RepFs K H (xs.drop n) (vs.drop n) := by
  refine ⟨by simp [h.1], fun j e u h1 h2 => ?_⟩
  rw [List.getElem?_drop] at h1 h2
  exact h.2 _ e u h1 h2
theorem RepFs.reverse {xs : List D} {vs : List V} (h : RepFs K H xs vs) : RepFs K H xs.reverse vs.reverse := by
  induction xs generalizing vs with
  | nil => rw [h.nil_of]; exact .nil
  | cons d xs ih => obtain ⟨v, r, rfl, h1, h2⟩ := h.uncons; simp; exact (ih h2).append (.cons h1 .nil)
theorem RepKs.look {fs : List (Str × D)} {gs : List (Str × V)} (h : RepKs K H fs gs) {f : Str} {d : D} (e : fs.lookup f = some d) : ∃ v, gs.lookup f = some v ∧ RepF K H d v := by
  induction fs generalizing gs with
  | nil => cases e
  | cons p fs ih =>
    obtain ⟨f1, d1⟩ := p
    cases gs with
    | nil => exact absurd h.1 (by simp)
    | cons q gs =>
      obtain ⟨f2, v2⟩ := q
      have e1 : f1 = f2 ∧ fs.map (·.1) = gs.map (·.1) := by simpa using h.1
      obtain ⟨rfl, e2⟩ := e1
      rw [List.lookup_cons] at e ⊢
      cases hq : (f == f1) with
      | true => rw [hq] at e; cases e; exact ⟨v2, rfl, h.2 0 (f1, d) (f1, v2) rfl rfl⟩
      | false =>
        rw [hq] at e
        exact ih ⟨e2, fun i p q h1 h2 => h.2 (i + 1) p q (by simpa using h1) (by simpa using h2)⟩ e
theorem RepKs.lookN {fs : List (Str × D)} {gs : List (Str × V)} (h : RepKs K H fs gs) {f : Str} (e : fs.lookup f = none) : gs.lookup f = none := by
  induction fs generalizing gs with
  | nil =>
    cases gs with
    | nil => rfl
    | cons q gs => exact absurd h.1 (by simp)
  | cons p fs ih =>
    obtain ⟨f1, d1⟩ := p
    cases gs with
    | nil => exact absurd h.1 (by simp)
    | cons q gs =>
      obtain ⟨f2, v2⟩ := q
      have e1 : f1 = f2 ∧ fs.map (·.1) = gs.map (·.1) := by simpa using h.1
      obtain ⟨rfl, e2⟩ := e1
      rw [List.lookup_cons] at e ⊢
      cases hq : (f == f1) with
      | true => rw [hq] at e; cases e
      | false => rw [hq] at e; exact ih ⟨e2, fun i p q h1 h2 => h.2 (i + 1) p q (by simpa using h1) (by simpa using h2)⟩ e
/-- a field stored -/
def putD (f : Str) (d : D) : List (Str × D) → List (Str × D)
  | [] => [(f, d)]
  | (g, e) :: r => if g = f then (g, d) :: r else (g, e) :: putD f d r
theorem RepKs.put {fs : List (Str × D)} {gs : List (Str × V)} (h : RepKs K H fs gs) (f : Str) {d : D} {v : V} (r : RepF K H d v) : RepKs K H (putD f d fs) (putF f v gs) := by
  induction fs generalizing gs with
  | nil =>
    cases gs with
    | nil => exact ⟨rfl, fun i p q h1 h2 => by
        cases i with
        | zero => simp [putD] at h1; simp [putF] at h2; subst h1 h2; exact r
        | succ i => simp [putD] at h1⟩
    | cons q gs => exact absurd h.1 (by simp)
  | cons p fs ih =>
    obtain ⟨f1, d1⟩ := p
    cases gs with
    | nil => exact absurd h.1 (by simp)
    | cons q gs =>
      obtain ⟨f2, v2⟩ := q
      have e1 : f1 = f2 ∧ fs.map (·.1) = gs.map (·.1) := by simpa using h.1
      obtain ⟨rfl, e2⟩ := e1
      have ht : RepKs K H fs gs := ⟨e2, fun i p q h1 h2 => h.2 (i + 1) p q (by simpa using h1) (by simpa using h2)⟩
      unfold putD putF
      by_cases hf : f1 = f
      · rw [if_pos hf, if_pos hf]
        exact ⟨by simp [e2], fun i p q h1 h2 => by
          cases i with
          | zero => simp at h1 h2; subst h1 h2; exact r
          | succ i => exact ht.2 i p q (by simpa using h1) (by simpa using h2)⟩
      · rw [if_neg hf, if_neg hf]
        have k := ih ht
        exact ⟨by simp [k.1], fun i p q h1 h2 => by
          cases i with
          | zero => simp at h1 h2; subst h1 h2; exact h.2 0 (f1, d1) (f1, v2) rfl rfl
          | succ i => exact k.2 i p q (by simpa using h1) (by simpa using h2)⟩
theorem RepO.mono {o : O} {v : V} (e : Ex Hf Hf') (h : RepO K Hf H o v) (k : ∀ a, v = .ref a → o.own = true → ∀ u, H a = some u → H' a = some u) : RepO K Hf' H' o v := by
  cases h with
  | fz h => exact .fz (h.mono e)
  | ol h1 h2 => exact .ol (k _ rfl rfl _ h1) (h2.mono e)
  | oi h1 h2 => exact .oi (k _ rfl rfl _ h1) (h2.mono e)
  | odK h1 h2 => exact .odK (k _ rfl rfl _ h1) (h2.mono e)
  | odT h1 h2 => exact .odT (k _ rfl rfl _ h1) (h2.mono e)
/-- an owned thing stands at an address -/
theorem RepO.addr {o : O} {v : V} (h : RepO K Hf H o v) (ho : o.own = true) : ∃ a u, v = .ref a ∧ H a = some u := by
  cases h with
  | fz _ => cases ho
  | ol h1 _ => exact ⟨_, _, rfl, h1⟩
  | oi h1 _ => exact ⟨_, _, rfl, h1⟩
  | odK h1 _ => exact ⟨_, _, rfl, h1⟩
  | odT h1 _ => exact ⟨_, _, rfl, h1⟩
/-- what it is once nobody changes it any more -/
theorem RepO.frozen {o : O} {v : V} (h : RepO K Hf H o v) (e : Ex Hf Hf') (k : ∀ a, v = .ref a → o.own = true → ∀ u, H a = some u → Hf' a = some u) : RepF K Hf' o.frz v := by
  cases h with
  | fz h => exact h.mono e
  | ol h1 h2 => exact .lst (k _ rfl rfl _ h1) h2.1 (h2.mono e).2
  | oi h1 h2 => exact .ins (k _ rfl rfl _ h1) h2.1 (h2.mono e).2
  | odK h1 h2 => exact .dK (.of (k _ rfl rfl _ h1)) h2.1 (h2.mono e).2
  | odT h1 h2 => exact .dT (.of (k _ rfl rfl _ h1)) h2.1 (h2.mono e).2
end
end L3
end

section
namespace L3
open PySem L2

/-- how the def was entered: its heap, what was frozen, the objects that were lent, the slots that stay as they are -/
structure Ent where
  H : Hp
  Hf : Hp
  fp : Addr → Prop
  pin : List (Nat × V)

/-- the state: G tells of each holder (slots, then things in hand) what it has -/
structure Rl (K : PySem.W.Frag) (E : Ent) (G : List (Option O)) (S : St) (Hf H : Hp) : Prop where
  len : G.length = S.length
  sub : Ex Hf H
  ext : Ex E.Hf Hf
  frame : ∀ a o, E.H a = some o → ¬ E.fp a → H a = some o
  nofz : ∀ a, E.H a ≠ none → E.Hf a = none → ¬ E.fp a → Hf a = none
  at_ : ∀ (i : Nat) (o : O), G[i]? = some (some o) → ∃ v, S[i]? = some (some v) ∧ RepO K Hf H o v
  own : ∀ (i : Nat) (o : O), G[i]? = some (some o) → o.own = true → ∀ a, S[i]? = some (some (.ref a)) → Hf a = none ∧ (E.H a = none ∨ E.fp a)
  dis : ∀ (i j : Nat) (o o' : O) (a : Addr), G[i]? = some (some o) → o.own = true → G[j]? = some (some o') → o'.own = true → S[i]? = some (some (.ref a)) → S[j]? = some (some (.ref a)) → i = j
  pin : ∀ p ∈ E.pin, S[p.1]? = some (some p.2)

section
variable {K : PySem.W.Frag} {E : Ent} {G G' : List (Option O)} {S S' : St} {Hf H : Hp}

theorem get_set_some {α : Type} {l : List α} {i j : Nat} {x y : α} (h : (l.set i x)[j]? = some y) : (i = j ∧ y = x ∧ i < l.length) ∨ (i ≠ j ∧ l[j]? = some y) := by
  by_cases e : i = j
  · subst e
    by_cases hl : i < l.length
    · rw [List.getElem?_set_self hl] at h; cases h; exact .inl ⟨rfl, rfl, hl⟩
    · rw [List.getElem?_eq_none (by simpa using hl)] at h; cases h
  · rw [List.getElem?_set_ne e] at h; exact .inr ⟨e, h⟩

/-- holders taken elsewhere -/
theorem Rl.map (R : Rl K E G S Hf H) (hl : G'.length = S'.length) (f : Nat → Nat)
    (h : ∀ (i : Nat) (o : O), G'[i]? = some (some o) → G[f i]? = some (some o) ∧ S'[i]? = S[f i]?)
    (inj : ∀ (i j : Nat) (o o' : O), G'[i]? = some (some o) → G'[j]? = some (some o') → o.own = true → o'.own = true → f i = f j → i = j)
    (hp : ∀ p ∈ E.pin, S'[p.1]? = some (some p.2)) : Rl K E G' S' Hf H where
  len := hl
  sub := R.sub
  ext := R.ext
  frame := R.frame
  nofz := R.nofz
  at_ := fun i o e => by
    obtain ⟨e1, e2⟩ := h i o e
    obtain ⟨v, h1, h2⟩ := R.at_ _ _ e1
    exact ⟨v, by rw [e2]; exact h1, h2⟩
  own := fun i o e ho a ea => by
    obtain ⟨e1, e2⟩ := h i o e
    exact R.own _ _ e1 ho a (by rw [← e2]; exact ea)
  dis := fun i j o o' a e ho e' ho' ea ea' => by
    obtain ⟨e1, e2⟩ := h i o e
    obtain ⟨e3, e4⟩ := h j o' e'
    exact inj i j o o' e e' ho ho' (R.dis _ _ o o' a e1 ho e3 ho' (by rw [← e2]; exact ea) (by rw [← e4]; exact ea'))
  pin := hp

theorem Rl.pinL {S0 S1 : St} (R : Rl K E G (S0 ++ S1) Hf H) (hp : ∀ p ∈ E.pin, p.1 < S0.length) : ∀ p ∈ E.pin, S0[p.1]? = some (some p.2) := fun p h => by
  have := R.pin p h
  rwa [List.getElem?_append_left (hp p h)] at this
/-- the last things in hand dropped -/
theorem Rl.drop {G0 G1 : List (Option O)} {S0 S1 : St} (R : Rl K E (G0 ++ G1) (S0 ++ S1) Hf H) (hl : G0.length = S0.length) (hp : ∀ p ∈ E.pin, p.1 < S0.length) : Rl K E G0 S0 Hf H :=
  R.map hl (fun i => i) (fun i o e => by
    obtain ⟨l, _⟩ := List.getElem?_eq_some_iff.mp e
    exact ⟨by rw [List.getElem?_append_left l]; exact e, by rw [List.getElem?_append_left (by omega)]⟩) (fun _ _ _ _ _ _ _ _ e => e) (R.pinL hp)
/-- a holder forgotten -/
theorem Rl.forget (R : Rl K E G S Hf H) (i : Nat) : Rl K E (G.set i none) S Hf H :=
  R.map (by simpa using R.len) (fun i => i) (fun j o e => by
    rcases get_set_some e with ⟨_, e2, _⟩ | ⟨_, e2⟩
    · cases e2
    · exact ⟨e2, rfl⟩) (fun _ _ _ _ _ _ _ _ e => e) R.pin
/-- frozen data pushed -/
theorem Rl.push_fz (R : Rl K E G S Hf H) {d : D} {v : V} (r : RepF K Hf d v) : Rl K E (G ++ [some (.fz d)]) (S ++ [some v]) Hf H where
  len := by simp [R.len]
  sub := R.sub
  ext := R.ext
  frame := R.frame
  nofz := R.nofz
  at_ := fun i o e => by
    by_cases hi : i < G.length
    · rw [List.getElem?_append_left hi] at e
      obtain ⟨v, h1, h2⟩ := R.at_ _ _ e
      exact ⟨v, by rw [List.getElem?_append_left (by rw [← R.len]; exact hi)]; exact h1, h2⟩
    · rw [List.getElem?_append_right (by omega)] at e
      have hi' : i = G.length := by
        obtain ⟨l, _⟩ := List.getElem?_eq_some_iff.mp e
        simp at l; omega
      subst hi'
      simp at e; subst e
      exact ⟨v, by rw [R.len]; simp, .fz r⟩
  own := fun i o e ho a ea => by
    by_cases hi : i < G.length
    · rw [List.getElem?_append_left hi] at e
      rw [List.getElem?_append_left (by rw [← R.len]; exact hi)] at ea
      exact R.own _ _ e ho a ea
    · rw [List.getElem?_append_right (by omega)] at e
      have hi' : i = G.length := by
        obtain ⟨l, _⟩ := List.getElem?_eq_some_iff.mp e
        simp at l; omega
      subst hi'
      simp at e; subst e; cases ho
  dis := fun i j o o' a e ho e' ho' ea ea' => by
    have key : ∀ (i : Nat) (o : O), (G ++ [some (O.fz d)])[i]? = some (some o) → o.own = true → i < G.length := fun i o e ho => by
      by_cases hi : i < G.length
      · exact hi
      · rw [List.getElem?_append_right (by omega)] at e
        have hi' : i = G.length := by
          obtain ⟨l, _⟩ := List.getElem?_eq_some_iff.mp e
          simp at l; omega
        subst hi'
        simp at e; subst e; cases ho
    have l1 := key i o e ho
    have l2 := key j o' e' ho'
    rw [List.getElem?_append_left l1] at e
    rw [List.getElem?_append_left l2] at e'
    rw [List.getElem?_append_left (by rw [← R.len]; exact l1)] at ea
    rw [List.getElem?_append_left (by rw [← R.len]; exact l2)] at ea'
    exact R.dis i j o o' a e ho e' ho' ea ea'
  pin := fun p h => by
    have := R.pin p h
    obtain ⟨l, _⟩ := List.getElem?_eq_some_iff.mp this
    rw [List.getElem?_append_left l]; exact this

theorem Rl.fresh (R : Rl K E G S Hf H) {p : Addr} (hp : H p = none) : Hf p = none ∧ (E.H p = none ∨ E.fp p) := by
  refine ⟨R.sub.fresh hp, ?_⟩
  cases h : E.H p with
  | none => exact .inl rfl
  | some o =>
    refine .inr (Classical.byContradiction fun n => ?_)
    rw [R.frame p o h n] at hp; cases hp
theorem Rl.ne_new (R : Rl K E G S Hf H) {p : Addr} (hp : H p = none) {i : Nat} {o : O} (e : G[i]? = some (some o)) (ho : o.own = true) {a : Addr} (ea : S[i]? = some (some (.ref a))) : a ≠ p := by
  obtain ⟨v, h1, h2⟩ := R.at_ _ _ e
  obtain ⟨b, u, rfl, hb⟩ := h2.addr ho
  rw [ea] at h1; cases h1
  exact ne_of_none hb hp
/-- the heap grows by an object that no holder has -/
theorem Rl.alloc (R : Rl K E G S Hf H) {p : Addr} {u : HO} (hp : H p = none) : Rl K E G S Hf (upd H p u) where
  len := R.len
  sub := R.sub.trans (.new hp)
  ext := R.ext
  frame := fun a o h n => by
    have k := R.frame a o h n
    rw [upd_ne (ne_of_none k hp)]; exact k
  nofz := R.nofz
  at_ := fun i o e => by
    obtain ⟨v, h1, h2⟩ := R.at_ _ _ e
    exact ⟨v, h1, h2.mono (.refl _) fun a _ _ u h => by rw [upd_ne (ne_of_none h hp)]; exact h⟩
  own := R.own
  dis := R.dis
  pin := R.pin
/-- .. frozen at once -/
theorem Rl.allocF (R : Rl K E G S Hf H) {p : Addr} {u : HO} (hp : H p = none) : Rl K E G S (upd Hf p u) (upd H p u) where
  len := R.len
  sub := fun a o h => by
    by_cases e : a = p
    · subst e; rw [upd_same] at h ⊢; exact h
    · rw [upd_ne e] at h ⊢; exact R.sub a o h
  ext := R.ext.trans (.new (R.sub.fresh hp))
  frame := fun a o h n => by
    have k := R.frame a o h n
    rw [upd_ne (ne_of_none k hp)]; exact k
  nofz := fun a h h1 h2 => by
    have e : a ≠ p := by
      rintro rfl
      obtain ⟨o, e⟩ := Option.ne_none_iff_exists'.mp h
      rw [R.frame a o e h2] at hp; cases hp
    rw [upd_ne e]; exact R.nofz a h h1 h2
  at_ := fun i o e => by
    obtain ⟨v, h1, h2⟩ := R.at_ _ _ e
    exact ⟨v, h1, h2.mono (.new (R.sub.fresh hp)) fun a _ _ u h => by rw [upd_ne (ne_of_none h hp)]; exact h⟩
  own := fun i o e ho a ea => by
    obtain ⟨h1, h2⟩ := R.own i o e ho a ea
    exact ⟨by rw [upd_ne (R.ne_new hp e ho ea)]; exact h1, h2⟩
  dis := R.dis
  pin := R.pin
/-- a new owned thing in hand -/
theorem Rl.push_new (R : Rl K E G S Hf H) {p : Addr} {u : HO} {o : O} (hp : H p = none) (r : RepO K Hf (upd H p u) o (.ref p)) : Rl K E (G ++ [some o]) (S ++ [some (.ref p)]) Hf (upd H p u) := by
  have A := R.alloc (u := u) hp
  have key : ∀ {i : Nat} {o' : O}, (G ++ [some o])[i]? = some (some o') → (i < G.length ∧ G[i]? = some (some o')) ∨ (i = G.length ∧ o' = o) := fun {i o'} e => by
    by_cases hi : i < G.length
    · rw [List.getElem?_append_left hi] at e; exact .inl ⟨hi, e⟩
    · rw [List.getElem?_append_right (by omega)] at e
      have hi' : i = G.length := by
        obtain ⟨l, _⟩ := List.getElem?_eq_some_iff.mp e
        simp at l; omega
      subst hi'
      simp at e
      exact .inr ⟨rfl, e.symm⟩
  have kS : ∀ {i : Nat}, i < G.length → (S ++ [some (V.ref p)])[i]? = S[i]? := fun {i} hi => List.getElem?_append_left (by rw [← R.len]; exact hi)
  have kL : (S ++ [some (V.ref p)])[G.length]? = some (some (.ref p)) := by rw [R.len]; simp
  refine ⟨by simp [R.len], A.sub, A.ext, A.frame, A.nofz, fun i o' e => ?_, fun i o' e ho a ea => ?_, fun i j o1 o2 a e1 h1 e2 h2 a1 a2 => ?_, fun q h => ?_⟩
  · rcases key e with ⟨hi, e⟩ | ⟨rfl, rfl⟩
    · obtain ⟨v, h1, h2⟩ := A.at_ _ _ e
      exact ⟨v, by rw [kS hi]; exact h1, h2⟩
    · exact ⟨_, kL, r⟩
  · rcases key e with ⟨hi, e⟩ | ⟨rfl, rfl⟩
    · rw [kS hi] at ea; exact A.own _ _ e ho a ea
    · rw [kL] at ea; cases ea; exact R.fresh hp
  · rcases key e1 with ⟨hi, f1⟩ | ⟨ei, _⟩
    · rcases key e2 with ⟨hj, f2⟩ | ⟨ej, _⟩
      · rw [kS hi] at a1; rw [kS hj] at a2; exact R.dis i j o1 o2 a f1 h1 f2 h2 a1 a2
      · rw [kS hi] at a1; rw [ej, kL] at a2; cases a2; exact absurd rfl (R.ne_new hp f1 h1 a1)
    · rcases key e2 with ⟨hj, f2⟩ | ⟨ej, _⟩
      · rw [kS hj] at a2; rw [ei, kL] at a1; cases a1; exact absurd rfl (R.ne_new hp f2 h2 a2)
      · rw [ei, ej]
  · have := R.pin q h
    obtain ⟨l, _⟩ := List.getElem?_eq_some_iff.mp this
    rw [List.getElem?_append_left l]; exact this
/-- what a holder has is frozen -/
theorem Rl.freeze (R : Rl K E G S Hf H) {i : Nat} {o : O} (e : G[i]? = some (some o)) : ∃ Hf', Ex Hf Hf' ∧ Rl K E (G.set i (some (.fz o.frz))) S Hf' H := by
  have hi : i < G.length := (List.getElem?_eq_some_iff.mp e).1
  cases ho : o.own with
  | false =>
    have eo : o = .fz o.frz := by cases o <;> first | rfl | cases ho
    refine ⟨Hf, .refl _, ?_⟩
    have : G.set i (some (.fz o.frz)) = G := by
      rw [← eo]
      exact List.ext_getElem? fun j => by
        by_cases hj : i = j
        · subst hj; rw [List.getElem?_set_self hi, e]
        · rw [List.getElem?_set_ne hj]
    rw [this]; exact R
  | true =>
    obtain ⟨v, h1, h2⟩ := R.at_ _ _ e
    obtain ⟨a, u, rfl, hu⟩ := h2.addr ho
    obtain ⟨n1, n2⟩ := R.own i o e ho a h1
    have sub : Ex (upd Hf a u) H := fun b w h => by
      by_cases hb : b = a
      · subst hb; rw [upd_same] at h; cases h; exact hu
      · rw [upd_ne hb] at h; exact R.sub b w h
    refine ⟨upd Hf a u, .new n1, ⟨by simpa using R.len, sub, R.ext.trans (.new n1), R.frame, fun b q q1 q2 => ?_, fun j o' e' => ?_, fun j o' e' ho' b eb => ?_, fun j k o1 o2 b e1 h1 e2 h2 a1 a2 => ?_, R.pin⟩⟩
    · have : b ≠ a := fun z => by
        rw [z] at q q2
        rcases n2 with n2 | n2
        · exact q n2
        · exact q2 n2
      rw [upd_ne this]; exact R.nofz b q q1 q2
    · rcases get_set_some e' with ⟨rfl, e2, _⟩ | ⟨_, e2⟩
      · cases e2
        exact ⟨_, h1, .fz (h2.frozen (.new n1) fun b eb _ u' hu' => by cases eb; rw [hu] at hu'; cases hu'; exact upd_same)⟩
      · obtain ⟨v, g1, g2⟩ := R.at_ _ _ e2
        exact ⟨v, g1, g2.mono (.new n1) fun _ _ _ _ h => h⟩
    · rcases get_set_some e' with ⟨rfl, e2, _⟩ | ⟨hne, e2⟩
      · cases e2; cases ho'
      · obtain ⟨g1, g2⟩ := R.own _ _ e2 ho' b eb
        refine ⟨?_, g2⟩
        rw [upd_ne]; exact g1
        rintro rfl
        exact hne (R.dis i j o o' b e ho e2 ho' h1 eb)
    · rcases get_set_some e1 with ⟨rfl, e3, _⟩ | ⟨_, e3⟩
      · cases e3; cases h1
      · rcases get_set_some e2 with ⟨rfl, e4, _⟩ | ⟨_, e4⟩
        · cases e4; cases h2
        · exact R.dis j k o1 o2 b e3 h1 e4 h2 a1 a2
/-- the object of an owning holder is changed -/
theorem Rl.mut (R : Rl K E G S Hf H) {i : Nat} {o o' : O} {a : Addr} {u : HO} (e : G[i]? = some (some o)) (ho : o.own = true) (ea : S[i]? = some (some (.ref a))) (ho' : o'.own = true)
    (r : RepO K Hf (upd H a u) o' (.ref a)) : Rl K E (G.set i (some o')) S Hf (upd H a u) := by
  obtain ⟨n1, n2⟩ := R.own i o e ho a ea
  have other : ∀ {j : Nat} {oj : O} {b : Addr}, i ≠ j → G[j]? = some (some oj) → oj.own = true → S[j]? = some (some (.ref b)) → b ≠ a := fun {j oj b} hne ej hj eb => by
    rintro rfl; exact hne (R.dis i j o oj b e ho ej hj ea eb)
  refine ⟨by simpa using R.len, fun b w h => ?_, R.ext, fun b w h n => ?_, R.nofz, fun j oj ej => ?_, fun j oj ej hj b eb => ?_, fun j k o1 o2 b e1 h1 e2 h2 a1 a2 => ?_, R.pin⟩
  · rw [upd_ne (ne_of_none h n1)]; exact R.sub b w h
  · have : b ≠ a := by
      rintro rfl
      rcases n2 with n2 | n2
      · rw [n2] at h; cases h
      · exact n n2
    rw [upd_ne this]; exact R.frame b w h n
  · rcases get_set_some ej with ⟨rfl, e2, _⟩ | ⟨hne, e2⟩
    · cases e2; exact ⟨_, ea, r⟩
    · obtain ⟨v, g1, g2⟩ := R.at_ _ _ e2
      exact ⟨v, g1, g2.mono (.refl _) fun b hb hown w hw => by
        subst hb
        rw [upd_ne (other hne e2 hown g1)]; exact hw⟩
  · rcases get_set_some ej with ⟨rfl, e2, _⟩ | ⟨hne, e2⟩
    · cases e2; rw [ea] at eb; cases eb; exact ⟨n1, n2⟩
    · exact R.own _ _ e2 hj b eb
  · have tr : ∀ {j : Nat} {oj : O}, (G.set i (some o'))[j]? = some (some oj) → oj.own = true → ∃ ok, G[j]? = some (some ok) ∧ ok.own = true := fun {j oj} ej hj => by
      rcases get_set_some ej with ⟨rfl, e2, _⟩ | ⟨hne, e2⟩
      · exact ⟨o, e, ho⟩
      · exact ⟨oj, e2, hj⟩
    obtain ⟨k1, f1, f2⟩ := tr e1 h1
    obtain ⟨k2, f3, f4⟩ := tr e2 h2
    exact R.dis j k k1 k2 b f1 f2 f3 f4 a1 a2
end
end L3
end

section
namespace L3
open PySem L2

abbrev Gm := List (Option O)
inductive RE (α : Type) where
  | ok (a : α) (g : Gm) | ex (c : Addr) (fs : List (Str × D)) (g : Gm) | no
def RE.bind {α β : Type} : RE α → (α → Gm → RE β) → RE β
  | .ok a g, k => k a g
  | .ex c fs g, _ => .ex c fs g
  | .no, _ => .no
@[simp] theorem RE.bind_ok {α β : Type} (a : α) (g : Gm) (k : α → Gm → RE β) : (RE.ok a g).bind k = k a g := rfl
@[simp] theorem RE.bind_ex {α β : Type} (c : Addr) (fs : List (Str × D)) (g : Gm) (k : α → Gm → RE β) : (RE.ex c fs g : RE α).bind k = .ex c fs g := rfl
@[simp] theorem RE.bind_no {α β : Type} (k : α → Gm → RE β) : (RE.no : RE α).bind k = .no := rfl
abbrev ME := Gm → RE O
abbrev MA := Gm → RE (List O)
abbrev MT := Gm → RE Bool
inductive RS where
  | nx (g : Gm) | rt (o : O) (g : Gm) | bk (g : Gm) | ct (g : Gm) | ex (c : Addr) (fs : List (Str × D)) (g : Gm) | no
abbrev MS := Gm → RS
def RE.toS {α : Type} : RE α → (α → Gm → RS) → RS
  | .ok a g, k => k a g
  | .ex c fs g, _ => .ex c fs g
  | .no, _ => .no
@[simp] theorem RE.toS_ok {α : Type} (a : α) (g : Gm) (k : α → Gm → RS) : (RE.ok a g).toS k = k a g := rfl
@[simp] theorem RE.toS_ex {α : Type} (c : Addr) (fs : List (Str × D)) (g : Gm) (k : α → Gm → RS) : (RE.ex c fs g : RE α).toS k = .ex c fs g := rfl
@[simp] theorem RE.toS_no {α : Type} (k : α → Gm → RS) : (RE.no : RE α).toS k = .no := rfl
def RS.then_ : RS → MS → RS
  | .nx g, k => k g
  | r, _ => r
@[simp] theorem RS.then_nx (g : Gm) (k : MS) : (RS.nx g).then_ k = k g := rfl
@[simp] theorem RS.then_rt (o : O) (g : Gm) (k : MS) : (RS.rt o g).then_ k = .rt o g := rfl
@[simp] theorem RS.then_bk (g : Gm) (k : MS) : (RS.bk g).then_ k = .bk g := rfl
@[simp] theorem RS.then_ct (g : Gm) (k : MS) : (RS.ct g).then_ k = .ct g := rfl
@[simp] theorem RS.then_ex (c : Addr) (fs : List (Str × D)) (g : Gm) (k : MS) : (RS.ex c fs g).then_ k = .ex c fs g := rfl
@[simp] theorem RS.then_no (k : MS) : (RS.no).then_ k = .no := rfl

section
variable (K : PySem.W.Frag) (E : Ent) (W : WX)
/-- the state with things t in hand (their values τ) -/
structure Rdy (g t : Gm) (σ τ : St) (Hf H : Hp) : Prop where
  lg : g.length = σ.length
  pb : ∀ p ∈ E.pin, p.1 < σ.length
  rl : Rl K E (g ++ t) (σ ++ τ) Hf H
/-- an exception's own fields -/
def ExR (Hf H : Hp) (fs : List (Str × D)) (d : Option Addr) : Prop := (fs = [] ∧ d = none) ∨ ∃ dd gs, d = some dd ∧ H dd = some (.xd gs) ∧ RepKs K Hf fs gs
def Fin (r : RE O) (t : Gm) (τ σ : St) (Q : VK) : Prop := match r with
  | .ok o g' => ∀ v Hf' H', Rdy K E g' (t ++ [some o]) σ (τ ++ [some v]) Hf' H' → Q v H'
  | .ex c fs g' => ∀ d Hf' H', Rdy K E g' t σ τ Hf' H' → ExR K Hf' H' fs d → W (.ref c) d σ H'
  | .no => False
def FinA (r : RE (List O)) (t : Gm) (τ σ : St) (Q : List V → Hp → Prop) : Prop := match r with
  | .ok os g' => ∀ vs Hf' H', os.length = vs.length → Rdy K E g' (t ++ os.map some) σ (τ ++ vs.map some) Hf' H' → Q vs H'
  | .ex c fs g' => ∀ d Hf' H', Rdy K E g' t σ τ Hf' H' → ExR K Hf' H' fs d → W (.ref c) d σ H'
  | .no => False
def FinT (r : RE Bool) (t : Gm) (τ σ : St) (Q : Bool → Hp → Prop) : Prop := match r with
  | .ok b g' => ∀ Hf' H', Rdy K E g' t σ τ Hf' H' → Q b H'
  | .ex c fs g' => ∀ d Hf' H', Rdy K E g' t σ τ Hf' H' → ExR K Hf' H' fs d → W (.ref c) d σ H'
  | .no => False
def FinS (r : RS) (t : Gm) (τ : St) (D : Ends) : Prop := match r with
  | .nx g' => ∀ σ' Hf' H', Rdy K E g' t σ' τ Hf' H' → D.nx σ' H'
  | .rt o g' => ∀ v σ' Hf' H', Rdy K E g' (t ++ [some o]) σ' (τ ++ [some v]) Hf' H' → D.rt v H'
  | .bk g' => ∀ σ' Hf' H', Rdy K E g' t σ' τ Hf' H' → D.bk σ' H'
  | .ct g' => ∀ σ' Hf' H', Rdy K E g' t σ' τ Hf' H' → D.ct σ' H'
  | .ex c fs g' => ∀ d σ' Hf' H', Rdy K E g' t σ' τ Hf' H' → ExR K Hf' H' fs d → W (.ref c) d σ' H'
  | .no => False
def rdE (m : ME) : TE := fun σ H Q => ∃ g t τ Hf, Rdy K E g t σ τ Hf H ∧ Fin K E W (m g) t τ σ Q
def rdA (m : MA) : TA := fun σ H Q => ∃ g t τ Hf, Rdy K E g t σ τ Hf H ∧ FinA K E W (m g) t τ σ Q
def rdT (m : MT) : TT := fun σ H Q => ∃ g t τ Hf, Rdy K E g t σ τ Hf H ∧ FinT K E W (m g) t τ σ Q
def rdS (m : MS) : TS := fun D σ H => ∃ g t τ Hf, Rdy K E g t σ τ Hf H ∧ FinS K E W (m g) t τ D
end

/-! ### the state -/
section
variable {K : PySem.W.Frag} {E : Ent} {W : WX} {g t t2 : Gm} {σ τ τ2 : St} {Hf H : Hp}
theorem Rdy.lt (R : Rdy K E g t σ τ Hf H) : t.length = τ.length := by
  have h1 := R.rl.len
  have h2 := R.lg
  simp only [List.length_append] at h1
  omega
/-- the last things in hand dropped -/
theorem Rdy.drop (R : Rdy K E g (t ++ t2) σ (τ ++ τ2) Hf H) (hl : t2.length = τ2.length) : Rdy K E g t σ τ Hf H := by
  refine ⟨R.lg, R.pb, ?_⟩
  have h := R.rl
  rw [← List.append_assoc, ← List.append_assoc] at h
  have h1 := R.lt
  simp only [List.length_append] at h1
  refine h.drop (by have := R.lg; simp only [List.length_append]; omega) fun p hp => ?_
  have := R.pb p hp
  simp only [List.length_append]; omega
theorem Rdy.push_fz (R : Rdy K E g t σ τ Hf H) {d : D} {v : V} (r : RepF K Hf d v) : Rdy K E g (t ++ [some (.fz d)]) σ (τ ++ [some v]) Hf H :=
  ⟨R.lg, R.pb, by rw [← List.append_assoc, ← List.append_assoc]; exact R.rl.push_fz r⟩
theorem Rdy.push_new (R : Rdy K E g t σ τ Hf H) {p : Addr} {u : HO} {o : O} (hp : H p = none) (r : RepO K Hf (upd H p u) o (.ref p)) : Rdy K E g (t ++ [some o]) σ (τ ++ [some (.ref p)]) Hf (upd H p u) :=
  ⟨R.lg, R.pb, by rw [← List.append_assoc, ← List.append_assoc]; exact R.rl.push_new hp r⟩
theorem Rdy.alloc (R : Rdy K E g t σ τ Hf H) {p : Addr} {u : HO} (hp : H p = none) : Rdy K E g t σ τ Hf (upd H p u) := ⟨R.lg, R.pb, R.rl.alloc hp⟩
theorem Rdy.allocF (R : Rdy K E g t σ τ Hf H) {p : Addr} {u : HO} (hp : H p = none) : Rdy K E g t σ τ (upd Hf p u) (upd H p u) := ⟨R.lg, R.pb, R.rl.allocF hp⟩
/-- a new frozen thing in hand -/
theorem Rdy.push_newF (R : Rdy K E g t σ τ Hf H) {p : Addr} {u : HO} {d : D} (hp : H p = none) (r : RepF K (upd Hf p u) d (.ref p)) : Rdy K E g (t ++ [some (.fz d)]) σ (τ ++ [some (.ref p)]) (upd Hf p u) (upd H p u) :=
  (R.allocF hp).push_fz r
theorem Rdy.free (R : Rdy K E g t σ τ Hf H) {p : Addr} (hp : H p = none) : Hf p = none := R.rl.sub.fresh hp
theorem set_append_left' {α : Type} {l r : List α} {i : Nat} {x : α} (h : i < l.length) : (l ++ r).set i x = l.set i x ++ r := by
  rw [List.set_append_left _ _ h]
/-- a slot -/
theorem Rdy.slot (R : Rdy K E g t σ τ Hf H) {i : Nat} {o : O} (e : g[i]? = some (some o)) : ∃ v, σ[i]? = some (some v) ∧ RepO K Hf H o v := by
  obtain ⟨l, _⟩ := List.getElem?_eq_some_iff.mp e
  obtain ⟨v, h1, h2⟩ := R.rl.at_ i o (by rw [List.getElem?_append_left l]; exact e)
  rw [List.getElem?_append_left (by rw [← R.lg]; exact l)] at h1
  exact ⟨v, h1, h2⟩
/-- a slot's thing frozen -/
theorem Rdy.freeze (R : Rdy K E g t σ τ Hf H) {i : Nat} {o : O} (e : g[i]? = some (some o)) : ∃ Hf', Ex Hf Hf' ∧ Rdy K E (g.set i (some (.fz o.frz))) t σ τ Hf' H := by
  obtain ⟨l, _⟩ := List.getElem?_eq_some_iff.mp e
  obtain ⟨Hf', h1, h2⟩ := R.rl.freeze (i := i) (o := o) (by rw [List.getElem?_append_left l]; exact e)
  rw [set_append_left' l] at h2
  exact ⟨Hf', h1, by rw [List.length_set]; exact R.lg, R.pb, h2⟩
/-- the thing in hand frozen -/
theorem Rdy.freezeT {o : O} {v : V} (R : Rdy K E g (t ++ [some o]) σ (τ ++ [some v]) Hf H) : ∃ Hf', Ex Hf Hf' ∧ Rdy K E g (t ++ [some (.fz o.frz)]) σ (τ ++ [some v]) Hf' H := by
  have hl := R.lt
  simp only [List.length_append, List.length_singleton] at hl
  have e : (g ++ (t ++ [some o]))[(g ++ t).length]? = some (some o) := by rw [← List.append_assoc]; simp
  obtain ⟨Hf', h1, h2⟩ := R.rl.freeze e
  refine ⟨Hf', h1, R.lg, R.pb, ?_⟩
  have : (g ++ (t ++ [some o])).set (g ++ t).length (some (.fz o.frz)) = g ++ (t ++ [some (.fz o.frz)]) := by
    rw [← List.append_assoc, ← List.append_assoc, List.set_append_right _ _ (Nat.le_refl _)]; simp
  rw [this] at h2; exact h2
/-- the thing in hand -/
theorem Rdy.top {o : O} {v : V} (R : Rdy K E g (t ++ [some o]) σ (τ ++ [some v]) Hf H) : RepO K Hf H o v := by
  have hl := R.lt
  have hg := R.lg
  simp only [List.length_append, List.length_singleton] at hl
  have e : (g ++ (t ++ [some o]))[(g ++ t).length]? = some (some o) := by rw [← List.append_assoc]; simp
  obtain ⟨u, h1, h2⟩ := R.rl.at_ _ _ e
  have hx : (g ++ t).length = (σ ++ τ).length := by simp only [List.length_append]; omega
  rw [hx, ← List.append_assoc] at h1
  simp at h1
  subst h1; exact h2
theorem Rdy.topF {d : D} {v : V} (R : Rdy K E g (t ++ [some (.fz d)]) σ (τ ++ [some v]) Hf H) : RepF K Hf d v := by
  cases R.top with
  | fz h => exact h
/-- .. of a stack of things in hand -/
theorem Rdy.hand (R : Rdy K E g t σ τ Hf H) {i : Nat} {o : O} (e : t[i]? = some (some o)) : ∃ v, τ[i]? = some (some v) ∧ RepO K Hf H o v := by
  have hg := R.lg
  obtain ⟨v, h1, h2⟩ := R.rl.at_ (g.length + i) o (by rw [List.getElem?_append_right (by omega)]; simpa using e)
  rw [List.getElem?_append_right (by omega)] at h1
  exact ⟨v, by rw [show g.length + i - σ.length = i by omega] at h1; exact h1, h2⟩
end

/-! ### one expression behind another -/
section
variable {K : PySem.W.Frag} {E : Ent} {W : WX} {g t t2 : Gm} {σ τ τ2 : St} {Hf H : Hp} {Q : VK}
theorem rdE_more {ma : ME} {k : O → ME} {Q2 : VK} (hl : t2.length = τ2.length) (R : Rdy K E g (t ++ t2) σ (τ ++ τ2) Hf H) (F : Fin K E W ((ma g).bind k) t τ σ Q)
    (hQ : ∀ v g2 Hf2 H2 o2, ma g = .ok o2 g2 → Rdy K E g2 (t ++ t2 ++ [some o2]) σ (τ ++ τ2 ++ [some v]) Hf2 H2 → Fin K E W (k o2 g2) t τ σ Q → Q2 v H2) : rdE K E W ma σ H Q2 := by
  refine ⟨g, t ++ t2, τ ++ τ2, Hf, R, ?_⟩
  cases e : ma g with
  | ok o2 g2 =>
    rw [e] at F
    exact fun v Hf' H' R' => hQ v g2 Hf' H' o2 e R' F
  | ex c fs g' =>
    rw [e] at F
    exact fun d Hf' H' R' x => F d Hf' H' (R'.drop hl) x
  | no => rw [e] at F; exact F
theorem rdA_more {ma : MA} {k : List O → ME} {Q2 : List V → Hp → Prop} (hl : t2.length = τ2.length) (R : Rdy K E g (t ++ t2) σ (τ ++ τ2) Hf H) (F : Fin K E W ((ma g).bind k) t τ σ Q)
    (hQ : ∀ vs g2 Hf2 H2 os, ma g = .ok os g2 → os.length = vs.length → Rdy K E g2 (t ++ t2 ++ os.map some) σ (τ ++ τ2 ++ vs.map some) Hf2 H2 → Fin K E W (k os g2) t τ σ Q → Q2 vs H2) : rdA K E W ma σ H Q2 := by
  refine ⟨g, t ++ t2, τ ++ τ2, Hf, R, ?_⟩
  cases e : ma g with
  | ok o2 g2 =>
    rw [e] at F
    exact fun v Hf' H' hv R' => hQ v g2 Hf' H' o2 e hv R' F
  | ex c fs g' =>
    rw [e] at F
    exact fun d Hf' H' R' x => F d Hf' H' (R'.drop hl) x
  | no => rw [e] at F; exact F
theorem rdE_moreA {ma : ME} {k : O → MA} {Q1 : List V → Hp → Prop} {Q2 : VK} (hl : t2.length = τ2.length) (R : Rdy K E g (t ++ t2) σ (τ ++ τ2) Hf H) (F : FinA K E W ((ma g).bind k) t τ σ Q1)
    (hQ : ∀ v g2 Hf2 H2 o2, ma g = .ok o2 g2 → Rdy K E g2 (t ++ t2 ++ [some o2]) σ (τ ++ τ2 ++ [some v]) Hf2 H2 → FinA K E W (k o2 g2) t τ σ Q1 → Q2 v H2) : rdE K E W ma σ H Q2 := by
  refine ⟨g, t ++ t2, τ ++ τ2, Hf, R, ?_⟩
  cases e : ma g with
  | ok o2 g2 =>
    rw [e] at F
    exact fun v Hf' H' R' => hQ v g2 Hf' H' o2 e R' F
  | ex c fs g' =>
    rw [e] at F
    exact fun d Hf' H' R' x => F d Hf' H' (R'.drop hl) x
  | no => rw [e] at F; exact F
theorem rdA_moreA {ma : MA} {k : List O → MA} {Q1 Q2 : List V → Hp → Prop} (hl : t2.length = τ2.length) (R : Rdy K E g (t ++ t2) σ (τ ++ τ2) Hf H) (F : FinA K E W ((ma g).bind k) t τ σ Q1)
    (hQ : ∀ vs g2 Hf2 H2 os, ma g = .ok os g2 → os.length = vs.length → Rdy K E g2 (t ++ t2 ++ os.map some) σ (τ ++ τ2 ++ vs.map some) Hf2 H2 → FinA K E W (k os g2) t τ σ Q1 → Q2 vs H2) : rdA K E W ma σ H Q2 := by
  refine ⟨g, t ++ t2, τ ++ τ2, Hf, R, ?_⟩
  cases e : ma g with
  | ok o2 g2 =>
    rw [e] at F
    exact fun v Hf' H' hv R' => hQ v g2 Hf' H' o2 e hv R' F
  | ex c fs g' =>
    rw [e] at F
    exact fun d Hf' H' R' x => F d Hf' H' (R'.drop hl) x
  | no => rw [e] at F; exact F
theorem rdE_moreT {ma : ME} {k : O → MT} {Q1 : Bool → Hp → Prop} {Q2 : VK} (R : Rdy K E g t σ τ Hf H) (F : FinT K E W ((ma g).bind k) t τ σ Q1)
    (hQ : ∀ v g2 Hf2 H2 o2, ma g = .ok o2 g2 → Rdy K E g2 (t ++ [some o2]) σ (τ ++ [some v]) Hf2 H2 → FinT K E W (k o2 g2) t τ σ Q1 → Q2 v H2) : rdE K E W ma σ H Q2 := by
  refine ⟨g, t, τ, Hf, R, ?_⟩
  cases e : ma g with
  | ok o2 g2 =>
    rw [e] at F
    exact fun v Hf' H' R' => hQ v g2 Hf' H' o2 e R' F
  | ex c fs g' => rw [e] at F; exact F
  | no => rw [e] at F; exact F
theorem rdT_moreT {ma : MT} {k : Bool → MT} {Q1 Q2 : Bool → Hp → Prop} (R : Rdy K E g t σ τ Hf H) (F : FinT K E W ((ma g).bind k) t τ σ Q1)
    (hQ : ∀ g2 Hf2 H2 b, ma g = .ok b g2 → Rdy K E g2 t σ τ Hf2 H2 → FinT K E W (k b g2) t τ σ Q1 → Q2 b H2) : rdT K E W ma σ H Q2 := by
  refine ⟨g, t, τ, Hf, R, ?_⟩
  cases e : ma g with
  | ok b g2 =>
    rw [e] at F
    exact fun Hf' H' R' => hQ g2 Hf' H' b e R' F
  | ex c fs g' => rw [e] at F; exact F
  | no => rw [e] at F; exact F
theorem rdT_moreE {ma : MT} {k : Bool → ME} {Q2 : Bool → Hp → Prop} (R : Rdy K E g t σ τ Hf H) (F : Fin K E W ((ma g).bind k) t τ σ Q)
    (hQ : ∀ g2 Hf2 H2 b, ma g = .ok b g2 → Rdy K E g2 t σ τ Hf2 H2 → Fin K E W (k b g2) t τ σ Q → Q2 b H2) : rdT K E W ma σ H Q2 := by
  refine ⟨g, t, τ, Hf, R, ?_⟩
  cases e : ma g with
  | ok b g2 =>
    rw [e] at F
    exact fun Hf' H' R' => hQ g2 Hf' H' b e R' F
  | ex c fs g' => rw [e] at F; exact F
  | no => rw [e] at F; exact F
theorem rdE_moreS {ma : ME} {k : O → MS} {D : Ends} {Q2 : VK} (R : Rdy K E g t σ τ Hf H) (F : FinS K E W ((ma g).toS k) t τ D)
    (hQ : ∀ v g2 Hf2 H2 o2, ma g = .ok o2 g2 → Rdy K E g2 (t ++ [some o2]) σ (τ ++ [some v]) Hf2 H2 → FinS K E W (k o2 g2) t τ D → Q2 v H2) : rdE K E W ma σ H Q2 := by
  refine ⟨g, t, τ, Hf, R, ?_⟩
  cases e : ma g with
  | ok o2 g2 =>
    rw [e] at F
    exact fun v Hf' H' R' => hQ v g2 Hf' H' o2 e R' F
  | ex c fs g' => rw [e] at F; exact fun d Hf' H' R' x => F d σ Hf' H' R' x
  | no => rw [e] at F; exact F
theorem rdT_moreS {ma : MT} {k : Bool → MS} {D : Ends} {Q2 : Bool → Hp → Prop} (R : Rdy K E g t σ τ Hf H) (F : FinS K E W ((ma g).toS k) t τ D)
    (hQ : ∀ g2 Hf2 H2 b, ma g = .ok b g2 → Rdy K E g2 t σ τ Hf2 H2 → FinS K E W (k b g2) t τ D → Q2 b H2) : rdT K E W ma σ H Q2 := by
  refine ⟨g, t, τ, Hf, R, ?_⟩
  cases e : ma g with
  | ok o2 g2 =>
    rw [e] at F
    exact fun Hf' H' R' => hQ g2 Hf' H' o2 e R' F
  | ex c fs g' => rw [e] at F; exact fun d Hf' H' R' x => F d σ Hf' H' R' x
  | no => rw [e] at F; exact F
end
end L3
end

section
namespace L3
open PySem L2 PySem.Spec PyProof.Rows

abbrev LE (X : Cx) (E : Ent) (W : WX) (e : Expr) (m : ME) : Prop := PE X e (rdE X.K E W m)
abbrev LA (X : Cx) (E : Ent) (W : WX) (es : List Expr) (m : MA) : Prop := PA X es (rdA X.K E W m)
abbrev LT (X : Cx) (E : Ent) (W : WX) (e : Expr) (m : MT) : Prop := PT X e (rdT X.K E W m)
abbrev LW (X : Cx) (E : Ent) (W : WX) (e : Expr) (m : MT) : Prop := PW X e (rdT X.K E W m)
abbrev LS (X : Cx) (E : Ent) (W : WX) (st : Stmt) (m : MS) : Prop := PS X st (rdS X.K E W m)
abbrev LB (X : Cx) (E : Ent) (W : WX) (st : List Stmt) (m : MS) : Prop := PSs X st (rdS X.K E W m)

theorem _root_.L2.PE.to {X : Cx} {e : Expr} {t t' : TE} (h : PE X e t) (f : ∀ σ H Q, t' σ H Q → t σ H Q) : PE X e t' := ⟨fun pins s σ H Q I q => h.run pins s σ H Q I (f σ H Q q)⟩
theorem _root_.L2.PA.to {X : Cx} {es : List Expr} {t t' : TA} (h : PA X es t) (f : ∀ σ H Q, t' σ H Q → t σ H Q) : PA X es t' := ⟨fun pos pins s σ H Q I q => h.run pos pins s σ H Q I (f σ H Q q)⟩
theorem _root_.L2.PT.to {X : Cx} {e : Expr} {t t' : TT} (h : PT X e t) (f : ∀ σ H Q, t' σ H Q → t σ H Q) : PT X e t' := ⟨fun pins s σ H Q I q => h.run pins s σ H Q I (f σ H Q q)⟩
theorem _root_.L2.PW.to {X : Cx} {e : Expr} {t t' : TT} (h : PW X e t) (f : ∀ σ H Q, t' σ H Q → t σ H Q) : PW X e t' := ⟨fun wh pins s σ H Q I q => h.run wh pins s σ H Q I (f σ H Q q)⟩
theorem _root_.L2.PS.to {X : Cx} {st : Stmt} {t t' : TS} (h : PS X st t) (f : ∀ D σ H, t' D σ H → t D σ H) : PS X st t' := ⟨fun pins s σ H D I q => h.run pins s σ H D I (f D σ H q)⟩
theorem _root_.L2.PSs.to {X : Cx} {st : List Stmt} {t t' : TS} (h : PSs X st t) (f : ∀ D σ H, t' D σ H → t D σ H) : PSs X st t' := ⟨fun pins s σ H D I q => h.run pins s σ H D I (f D σ H q)⟩

def big : Nat := 16777216
theorem big_eq : big = sizeLine := sizeLine_eq.symm

section
variable {X : Cx} {E : Ent} {W : WX}

/-! ### names, constants -/
def dC (d : D) : ME := fun g => .ok (.fz d) g
def dVar (i : Nat) : ME := fun g => match g[i]? with
  | some (some (.fz d)) => .ok (.fz d) g
  | some (some o) => .ok (.fz o.frz) (g.set i (some (.fz o.frz)))
  | _ => .no
/-- the slot's thing is handed over -/
def dMov (i : Nat) : ME := fun g => match g[i]? with
  | some (some (.fz d)) => .ok (.fz d) g
  | some (some o) => .ok o (g.set i none)
  | _ => .no
theorem le_c {e : Expr} {v : V} {d : D} (h : PE X e (tC v)) (r : ∀ H : Hp, RepF X.K H d v) : LE X E W e (dC d) :=
  h.to fun σ H Q ⟨g, t, τ, Hf, R, F⟩ => F v Hf H (R.push_fz (r _))
theorem le_int {i j pos} : LE X E W (.Constant (.int i) j pos) (dC (.int i)) := le_c pe_int fun _ => .int
theorem le_bl {b j pos} : LE X E W (.Constant (.bool b) j pos) (dC (.bl b)) := le_c pe_bl fun _ => .bl
theorem le_non {j pos} : LE X E W (.Constant .none j pos) (dC .non) := le_c pe_non fun _ => .non
theorem le_str {x j pos} : LE X E W (.Constant (.str x) j pos) (dC (.str x)) := le_c pe_str fun _ => .str
/-- a module's constant, class, def -/
theorem le_gint {x : Str} {i : Int} {pos : Pos} (hg : Gl X x) (hm : ∃ t, X.mg x = some (.int i t)) (hd : (x == ("__debug__" : Str)) = false := by decide) : LE X E W (.Name x pos) (dC (.int i)) := by
  obtain ⟨t, hm⟩ := hm
  exact le_c (pe_glob (v := .int i) hg hm ⟨t, rfl⟩ hd) fun _ => .int
theorem le_gstr {x : Str} {z : Str} {pos : Pos} (hg : Gl X x) (hm : ∃ t, X.mg x = some (.str z t)) (hd : (x == ("__debug__" : Str)) = false := by decide) : LE X E W (.Name x pos) (dC (.str z)) := by
  obtain ⟨t, hm⟩ := hm
  exact le_c (pe_glob (v := .str z) hg hm ⟨t, rfl⟩ hd) fun _ => .str
theorem le_gref {x : Str} {a : Addr} {pos : Pos} (hg : Gl X x) (hm : X.mg x = some (.ref a)) (hd : (x == ("__debug__" : Str)) = false := by decide) : LE X E W (.Name x pos) (dC (.adr a)) := 
  le_c (pe_glob (v := .ref a) hg hm rfl hd) fun _ => .adr
theorem le_bty {x : Str} {n : String} {pos : Pos} (hg : Gl X x) (hm : X.mg x = none) (hv : bootBuiltins x = some (.type n)) (hn : x ≠ "__name__" := by decide) (hd : (x == ("__debug__" : Str)) = false := by decide) : LE X E W (.Name x pos) (dC (.ty n)) :=
  le_c (pe_bltn (v := .ty n) hg hm hv rfl hn hd) fun _ => .ty
theorem le_var {i : Nat} {x : Str} {pos : Pos} (hN : X.N[i]? = some x) (hv : Vis X.env.scope x) (hd : (x == ("__debug__" : Str)) = false := by decide) (hcd : (x == ("__classdict__" : Str)) = false := by decide) : LE X E W (.Name x pos) (dVar i) := by
  refine (pe_var hN hv hd hcd).to fun σ H Q ⟨g, t, τ, Hf, R, F⟩ => ?_
  unfold dVar at F
  cases e : g[i]? with
  | none => rw [e] at F; exact F.elim
  | some s =>
    cases s with
    | none => rw [e] at F; exact F.elim
    | some o =>
      obtain ⟨v, h1, h2⟩ := R.slot e
      refine ⟨v, h1, ?_⟩
      obtain ⟨Hf', hx, R'⟩ := R.freeze e
      obtain ⟨v', g1, g2⟩ := R'.slot (i := i) (o := .fz o.frz) (List.getElem?_set_self (List.getElem?_eq_some_iff.mp e).1)
      rw [h1] at g1; cases g1
      cases g2 with
      | fz r =>
        rw [e] at F
        cases o with
        | fz d =>
          cases h2 with
          | fz r2 => exact F v Hf H (R.push_fz r2)
        | ol xs => exact F v Hf' H (R'.push_fz r)
        | oi C fs => exact F v Hf' H (R'.push_fz r)
        | odK kvs => exact F v Hf' H (R'.push_fz r)
        | odT kvs => exact F v Hf' H (R'.push_fz r)
/-- an owned slot's thing taken in hand -/
theorem Rdy.take {K : PySem.W.Frag} {g t : Gm} {σ τ : L2.St} {Hf H : Hp} (R : Rdy K E g t σ τ Hf H) {i : Nat} {o : O} {v : V} (e : g[i]? = some (some o)) (ev : σ[i]? = some (some v)) : Rdy K E (g.set i none) (t ++ [some o]) σ (τ ++ [some v]) Hf H := by
  have hi := (List.getElem?_eq_some_iff.mp e).1
  have hl := R.rl.len
  have hg := R.lg
  simp only [List.length_append] at hl
  refine ⟨by rw [List.length_set]; exact hg, R.pb, ?_⟩
  rw [← List.append_assoc, ← List.append_assoc]
  have key : ∀ {j : Nat} {o' : O}, (g.set i none ++ t ++ [some o])[j]? = some (some o') → (j < (g ++ t).length ∧ j ≠ i ∧ (g ++ t)[j]? = some (some o')) ∨ (j = (g ++ t).length ∧ o' = o) := fun {j o'} ej => by
    have e1 : (g.set i none ++ t) = (g ++ t).set i none := by rw [set_append_left' hi]
    rw [e1] at ej
    by_cases hj : j < ((g ++ t).set i none).length
    · rw [List.getElem?_append_left hj] at ej
      rcases get_set_some ej with ⟨_, z, _⟩ | ⟨hne, z⟩
      · cases z
      · exact .inl ⟨by simpa using hj, fun q => hne q.symm, z⟩
    · rw [List.getElem?_append_right (by omega)] at ej
      have hjl : j - ((g ++ t).set i none).length < 1 := by
        obtain ⟨l, _⟩ := List.getElem?_eq_some_iff.mp ej
        simpa using l
      have h0 : j - ((g ++ t).set i none).length = 0 := by omega
      rw [h0] at ej
      simp at ej
      refine .inr ⟨?_, ej.symm⟩
      have : ((g ++ t).set i none).length = (g ++ t).length := by simp
      omega
  have kS : ∀ {j : Nat}, j < (g ++ t).length → (σ ++ τ ++ [some v])[j]? = (σ ++ τ)[j]? := fun {j} hj => List.getElem?_append_left (by simp only [List.length_append] at hj ⊢; omega)
  have kL : (σ ++ τ ++ [some v])[(g ++ t).length]? = some (some v) := by
    have : (g ++ t).length = (σ ++ τ).length := by simp only [List.length_append]; omega
    rw [this]; simp
  refine R.rl.map (f := fun j => if j = (g ++ t).length then i else j) (by simp only [List.length_append, List.length_set, List.length_singleton]; omega) (fun j o' ej => ?_) (fun j k o1 o2 e1 e2 _ _ ef => ?_) (fun p hp => ?_)
  · rcases key ej with ⟨h1, h2, h3⟩ | ⟨rfl, rfl⟩
    · rw [if_neg (by omega)]
      exact ⟨h3, kS h1⟩
    · rw [if_pos rfl]
      exact ⟨by rw [List.getElem?_append_left hi]; exact e, by rw [kL, List.getElem?_append_left (by omega)]; exact ev.symm⟩
  · rcases key e1 with ⟨h1, h2, h3⟩ | ⟨h1, _⟩
    · rcases key e2 with ⟨h4, h5, h6⟩ | ⟨h4, _⟩
      · rw [if_neg (by omega), if_neg (by omega)] at ef; exact ef
      · rw [if_neg (by omega), if_pos h4] at ef; exact absurd ef h2
    · rcases key e2 with ⟨h4, h5, h6⟩ | ⟨h4, _⟩
      · rw [if_pos h1, if_neg (by omega)] at ef; exact absurd ef.symm h5
      · omega
  · have := R.rl.pin p hp
    obtain ⟨l, _⟩ := List.getElem?_eq_some_iff.mp this
    rw [List.getElem?_append_left l]; exact this
theorem le_mov {i : Nat} {x : Str} {pos : Pos} (hN : X.N[i]? = some x) (hv : Vis X.env.scope x) (hd : (x == ("__debug__" : Str)) = false := by decide) (hcd : (x == ("__classdict__" : Str)) = false := by decide) : LE X E W (.Name x pos) (dMov i) := by
  refine (pe_var hN hv hd hcd).to fun σ H Q ⟨g, t, τ, Hf, R, F⟩ => ?_
  unfold dMov at F
  cases e : g[i]? with
  | none => rw [e] at F; exact F.elim
  | some s =>
    cases s with
    | none => rw [e] at F; exact F.elim
    | some o =>
      obtain ⟨v, h1, h2⟩ := R.slot e
      refine ⟨v, h1, ?_⟩
      rw [e] at F
      cases o with
      | fz d => cases h2 with | fz r => exact F v Hf H (R.push_fz r)
      | ol xs => exact F v Hf H (R.take e h1)
      | oi C fs => exact F v Hf H (R.take e h1)
      | odK kvs => exact F v Hf H (R.take e h1)
      | odT kvs => exact F v Hf H (R.take e h1)

/-! ### operators on values -/
def Pure2 (K : PySem.W.Frag) (r : R2) (φ : D → D → Option D) : Prop :=
  ∀ (Hf H : Hp) (x y d : D) (u v : V) (Q : VK), Ex Hf H → φ x y = some d → RepF K Hf x u → RepF K Hf y v → (∀ z, RepF K Hf d z → Q z H) → r u v H Q
def Pure1 (K : PySem.W.Frag) (r : V → Hp → VK → Prop) (φ : D → Option D) : Prop :=
  ∀ (Hf H : Hp) (x d : D) (u : V) (Q : VK), Ex Hf H → φ x = some d → RepF K Hf x u → (∀ z, RepF K Hf d z → Q z H) → r u H Q
def opt (r : Option D) (g : Gm) : RE O := match r with
  | some d => .ok (.fz d) g
  | none => .no
@[simp] theorem opt_some (d : D) (g : Gm) : opt (some d) g = .ok (.fz d) g := rfl
@[simp] theorem opt_none (g : Gm) : opt none g = .no := rfl
def dOp (φ : D → D → Option D) (ma mb : ME) : ME := fun g => (ma g).bind fun a g1 => (mb g1).bind fun b g2 => opt (φ a.frz b.frz) g2
def dUn (φ : D → Option D) (ma : ME) : ME := fun g => (ma g).bind fun a g1 => opt (φ a.frz) g1
theorem app2 {α : Type} (t : List α) (a b : α) : t ++ [a] ++ [b] = t ++ ([a] ++ [b]) := List.append_assoc ..
/-- two things in hand frozen -/
theorem Rdy.freeze2 {K : PySem.W.Frag} {g t : Gm} {σ τ : L2.St} {Hf H : Hp} {o1 o2 : O} {v1 v2 : V} (R : Rdy K E g (t ++ [some o1] ++ [some o2]) σ (τ ++ [some v1] ++ [some v2]) Hf H) :
    ∃ Hf', Ex Hf Hf' ∧ Ex Hf' H ∧ RepF K Hf' o1.frz v1 ∧ RepF K Hf' o2.frz v2 ∧ Rdy K E g t σ τ Hf' H := by
  obtain ⟨Hf1, x1, R1⟩ := R.freezeT
  have r2 := R1.topF
  have R2 := R1.drop (by rfl)
  obtain ⟨Hf2, x2, R3⟩ := R2.freezeT
  exact ⟨Hf2, x1.trans x2, R3.rl.sub, R3.topF, r2.mono x2, R3.drop (by rfl)⟩
theorem Rdy.freeze1 {K : PySem.W.Frag} {g t : Gm} {σ τ : L2.St} {Hf H : Hp} {o1 : O} {v1 : V} (R : Rdy K E g (t ++ [some o1]) σ (τ ++ [some v1]) Hf H) :
    ∃ Hf', Ex Hf Hf' ∧ Ex Hf' H ∧ RepF K Hf' o1.frz v1 ∧ Rdy K E g t σ τ Hf' H := by
  obtain ⟨Hf1, x1, R1⟩ := R.freezeT
  exact ⟨Hf1, x1, R1.rl.sub, R1.topF, R1.drop (by rfl)⟩
theorem rd_op {ta tb : ME} {r : R2} {φ : D → D → Option D} (hφ : Pure2 X.K r φ) {σ : L2.St} {H : Hp} {Q : VK} (h : rdE X.K E W (dOp φ ta tb) σ H Q) : tOp r (rdE X.K E W ta) (rdE X.K E W tb) σ H Q := by
  obtain ⟨g, t, τ, Hf, R, F⟩ := h
  refine rdE_more (t2 := []) (τ2 := []) rfl (by simpa using R) F fun v1 g1 Hf1 H1 o1 _ R1 F1 => ?_
  simp only [List.append_nil] at R1
  refine rdE_more (t2 := [some o1]) (τ2 := [some v1]) rfl R1 F1 fun v2 g2 Hf2 H2 o2 _ R2 F2 => ?_
  obtain ⟨Hf3, _, x3, r1, r2, R3⟩ := R2.freeze2
  cases e : φ o1.frz o2.frz with
  | none => rw [e] at F2; exact F2.elim
  | some d =>
    rw [e] at F2
    exact hφ Hf3 H2 _ _ d _ _ Q x3 e r1 r2 fun z rz => F2 z Hf3 H2 (R3.push_fz rz)
theorem le_op {a b : Expr} {ma mb : ME} {op : Operator} {r : R2} {φ : D → D → Option D} {pos : Pos} (ho : OpR X (binaryOp op) r) (hφ : Pure2 X.K r φ) (ha : LE X E W a ma) (hb : LE X E W b mb) : LE X E W (.BinOp a op b pos) (dOp φ ma mb) :=
  (pe_op ho ha hb).to fun _ _ _ h => rd_op hφ h
theorem le_un {a : Expr} {ma : ME} {op : UnaryOp} {r : V → Hp → VK → Prop} {φ : D → Option D} {pos : Pos} (ho : UnR X (unaryOp op) r) (hφ : Pure1 X.K r φ) (ha : LE X E W a ma) : LE X E W (.UnaryOp op a pos) (dUn φ ma) := by
  refine (pe_un ho ha).to fun σ H Q ⟨g, t, τ, Hf, R, F⟩ => ?_
  refine rdE_more (t2 := []) (τ2 := []) rfl (by simpa using R) F fun v1 g1 Hf1 H1 o1 _ R1 F1 => ?_
  simp only [List.append_nil] at R1
  obtain ⟨Hf3, _, x3, r1, R3⟩ := R1.freeze1
  cases e : φ o1.frz with
  | none => rw [e] at F1; exact F1.elim
  | some d =>
    rw [e] at F1
    exact hφ Hf3 H1 _ d _ Q x3 e r1 fun z rz => F1 z Hf3 H1 (R3.push_fz rz)
/-- a pure operation on the values of an index -/
theorem le_ix {a b : Expr} {ma mb : ME} {r : R2} {φ : D → D → Option D} {pos : Pos} (hr : IxR X r) (hφ : Pure2 X.K r φ) (ha : LE X E W a ma) (hb : LE X E W b mb) (hs : PlainIx b) : LE X E W (.Subscript a b pos) (dOp φ ma mb) :=
  (pe_ix hr ha hb hs).to fun _ _ _ h => rd_op hφ h

/-! ### the operations -/
def fAdd : D → D → Option D
  | .int i, .int j => some (.int (i + j))
  | _, _ => none
def fSub : D → D → Option D
  | .int i, .int j => some (.int (i - j))
  | _, _ => none
def mulOk (i j : Int) : Bool := decide (i.natAbs.log2 + j.natAbs.log2 < 134000000)
def fMul : D → D → Option D
  | .int i, .int j => if mulOk i j then some (.int (i * j)) else none
  | _, _ => none
def divOk (j : Int) : Bool := decide (j ≠ 0) && decide (j.natAbs.log2 < 9000)
def fDiv : D → D → Option D
  | .int i, .int j => if divOk j then some (.int (i.fdiv j)) else none
  | _, _ => none
def fMod : D → D → Option D
  | .int i, .int j => if j ≠ 0 then some (.int (i.fmod j)) else none
  | _, _ => none
def fPow : D → D → Option D
  | .int i, .int j => if 0 ≤ j ∧ j ≤ 1000000 ∧ i.natAbs < 2 ^ 64 then some (.int (i ^ j.toNat)) else none
  | _, _ => none
def fNeg : D → Option D
  | .int i => some (.int (-i))
  | _ => none
variable {K : PySem.W.Frag}
theorem p_int2 {f : Int → Int → V} {f' : Int → Int → D} {φ : D → D → Option D} (h : ∀ x y d, φ x y = some d → ∃ i j, x = .int i ∧ y = .int j ∧ d = f' i j) (hr : ∀ H i j, RepF K H (f' i j) (f i j)) : Pure2 K (rI0 f) φ := by
  intro Hf H x y d u v Q _ e r1 r2 q
  obtain ⟨i, j, rfl, rfl, rfl⟩ := h x y d e
  cases r1; cases r2
  exact ⟨i, j, rfl, rfl, q _ (hr _ _ _)⟩
theorem p_int2c {C : Int → Int → Prop} {f : Int → Int → V} {f' : Int → Int → D} {φ : D → D → Option D} (h : ∀ x y d, φ x y = some d → ∃ i j, x = .int i ∧ y = .int j ∧ d = f' i j ∧ C i j) (hr : ∀ H i j, RepF K H (f' i j) (f i j)) : Pure2 K (rI C f) φ := by
  intro Hf H x y d u v Q _ e r1 r2 q
  obtain ⟨i, j, rfl, rfl, rfl, hc⟩ := h x y d e
  cases r1; cases r2
  exact ⟨i, j, rfl, rfl, hc, q _ (hr _ _ _)⟩
theorem p_add : Pure2 K (rI0 fun i j => .int (i + j)) fAdd := p_int2 (f' := fun i j => .int (i + j)) (fun x y d e => by cases x <;> cases y <;> simp [fAdd] at e; exact ⟨_, _, rfl, rfl, e.symm⟩) fun _ _ _ => .int
theorem p_sub : Pure2 K (rI0 fun i j => .int (i - j)) fSub := p_int2 (f' := fun i j => .int (i - j)) (fun x y d e => by cases x <;> cases y <;> simp [fSub] at e; exact ⟨_, _, rfl, rfl, e.symm⟩) fun _ _ _ => .int
def CMulX (i j : Int) : Prop := i.natAbs.log2 + j.natAbs.log2 < 134000000
theorem CMulX.ok {i j : Int} (h : CMulX i j) : IntMulOk i j := by
  have b : ∀ x : Int, Builtin.Int.intBits x ≤ x.natAbs.log2 + 1 := fun x => by
    unfold Builtin.Int.intBits
    split <;> omega
  have h1 := b i
  have h2 := b j
  have h3 : i.natAbs.log2 + j.natAbs.log2 < 134000000 := h
  have e : bitsLine = 134217728 := by decide
  unfold IntMulOk
  intro z
  rw [Bool.and_eq_true] at z
  have z2 := z.2
  unfold Builtin.Int.intTooBig at z2
  have z3 := of_decide_eq_true z2
  rw [e] at z3
  omega
def CDivX (_ j : Int) : Prop := j ≠ 0 ∧ j.natAbs.log2 < 9000
theorem op_mulX : OpR X (binaryOp .Mult) (rI CMulX fun i j => .int (i * j)) := opI fun _ _ _ _ _ _ _ hc q => mul_int q hc.ok
theorem op_divX : OpR X (binaryOp .FloorDiv) (rI CDivX fun i j => .int (i.fdiv j)) := opI fun _ _ _ _ _ _ _ hc q => floordiv_int hc.1 q (.inl (PyProof.noPylong_of_log2 hc.2))
theorem p_mul : Pure2 K (rI CMulX fun i j => .int (i * j)) fMul := p_int2c (f' := fun i j => .int (i * j)) (fun x y d e => by
  cases x <;> cases y <;> simp [fMul, mulOk] at e
  exact ⟨_, _, rfl, rfl, e.2.symm, e.1⟩) fun _ _ _ => .int
theorem p_div : Pure2 K (rI CDivX fun i j => .int (i.fdiv j)) fDiv := p_int2c (f' := fun i j => .int (i.fdiv j)) (fun x y d e => by
  cases x <;> cases y <;> simp [fDiv, divOk] at e
  exact ⟨_, _, rfl, rfl, e.2.symm, e.1.1, e.1.2⟩) fun _ _ _ => .int
theorem p_mod : Pure2 K (rI (fun _ j => j ≠ 0) fun i j => .int (i.fmod j)) fMod := p_int2c (f' := fun i j => .int (i.fmod j)) (fun x y d e => by
  cases x <;> cases y <;> simp [fMod] at e
  exact ⟨_, _, rfl, rfl, e.2.symm, e.1⟩) fun _ _ _ => .int
theorem p_pow : Pure2 K (rI CPow fun i j => .int (i ^ j.toNat)) fPow := p_int2c (f' := fun i j => .int (i ^ j.toNat)) (fun x y d e => by
  cases x <;> cases y <;> simp only [fPow] at e <;> try cases e
  split at e
  · cases e; exact ⟨_, _, rfl, rfl, rfl, by assumption⟩
  · cases e) fun _ _ _ => .int
theorem p_neg : Pure1 K (rU fun i => .int (-i)) fNeg := by
  intro Hf H x d u Q _ e r1 q
  cases x <;> simp [fNeg] at e
  subst e
  cases r1
  exact ⟨_, rfl, q _ .int⟩
/-- == of plain values -/
def atm : D → Option V
  | .non => some .non | .bl b => some (.bl b) | .int i => some (.int i) | .str z => some (.str z) | _ => none
theorem atm_rep {H : Hp} {x : D} {u v : V} (e : atm x = some u) (r : RepF K H x v) : v = u := by
  cases x <;> simp [atm] at e <;> cases r <;> exact e
def fAddS : D → D → Option D
  | .str a, .str b => if a.length + b.length ≤ big then some (.str (a ++ b)) else none
  | _, _ => none
theorem p_addS : Pure2 K (fun x y H Q => ∃ i j, x = .str i ∧ y = .str j ∧ i.length + j.length ≤ sizeLine ∧ Q (.str (i ++ j)) H) fAddS := by
  intro Hf H x y d u v Q _ e r1 r2 q
  cases x <;> cases y <;> simp only [fAddS] at e <;> try cases e
  split at e
  · cases e
    cases r1; cases r2
    exact ⟨_, _, rfl, rfl, by rw [← big_eq]; assumption, q _ .str⟩
  · cases e
/-- items -/
def fIxT : D → D → Option D
  | .tup xs, .int i => atI xs i
  | _, _ => none
def fIxL : D → D → Option D
  | .lst xs, .int i => atI xs i
  | _, _ => none
def fIxS : D → D → Option D
  | .str z, .int i => if z.length ≤ big then (atI z.cps.toList i).map fun c => .str ⟨#[c]⟩ else none
  | _, _ => none
theorem atI_rep {H : Hp} {xs : List D} {vs : List V} {i : Int} {d : D} (r : RepFs K H xs vs) (e : atI xs i = some d) : ∃ v, atI vs i = some v ∧ RepF K H d v := by
  unfold atI at e ⊢
  rw [← r.1]
  cases h : ixN xs.length i with
  | none => rw [h] at e; cases e
  | some j => rw [h] at e; exact r.at e
theorem p_ixT : Pure2 K (rIxT K) fIxT := by
  intro Hf H x y d u v Q s e r1 r2 q
  cases x <;> cases y <;> simp only [fIxT] at e <;> try cases e
  cases r2
  cases r1 with
  | tup h1 h2 h3 =>
    obtain ⟨w, e1, rw'⟩ := atI_rep ⟨h2, h3⟩ e
    exact ⟨_, _, _, w, rfl, rfl, s.t h1, e1, q _ rw'⟩
theorem p_ixL : Pure2 K (rIxL K) fIxL := by
  intro Hf H x y d u v Q s e r1 r2 q
  cases x <;> cases y <;> simp only [fIxL] at e <;> try cases e
  cases r2
  cases r1 with
  | lst h1 h2 h3 =>
    obtain ⟨w, e1, rw'⟩ := atI_rep ⟨h2, h3⟩ e
    exact ⟨_, _, _, w, rfl, rfl, .of (s _ _ h1), e1, q _ rw'⟩
theorem p_ixS : Pure2 K rIxS fIxS := by
  intro Hf H x y d u v Q s e r1 r2 q
  cases x <;> cases y <;> simp only [fIxS] at e <;> try cases e
  cases r2; cases r1
  split at e
  · rename_i hl
    rw [Option.map_eq_some_iff] at e
    obtain ⟨c, e1, rfl⟩ := e
    exact ⟨_, _, c, rfl, rfl, by rw [← big_eq]; exact hl, e1, q _ .str⟩
  · cases e
def fIx : D → D → Option D
  | .tup xs, .int i => atI xs i
  | .lst xs, .int i => atI xs i
  | .str z, .int i => if z.length ≤ big then (atI z.cps.toList i).map fun c => .str ⟨#[c]⟩ else none
  | _, _ => none
theorem p_ix : Pure2 K (rIx K) fIx := by
  intro Hf H x y d u v Q s e r1 r2 q
  cases x <;> cases y <;> (try (simp only [fIx] at e; cases e; done))
  · exact .inr (.inr (p_ixS Hf H (.str _) (.int _) d u v Q s e r1 r2 q))
  · exact .inr (.inl (p_ixT Hf H (.tup _) (.int _) d u v Q s e r1 r2 q))
  · exact .inl (p_ixL Hf H (.lst _) (.int _) d u v Q s e r1 r2 q)
/-! ### comparisons -/
def PureB (K : PySem.W.Frag) (r : R2) (ψ : D → D → Option Bool) : Prop :=
  ∀ (Hf H : Hp) (x y : D) (b : Bool) (u v : V) (Q : VK), Ex Hf H → ψ x y = some b → RepF K Hf x u → RepF K Hf y v → Q (.bl b) H → r u v H Q
def optT {α : Type} (r : Option α) (g : Gm) : RE α := match r with
  | some d => .ok d g
  | none => .no
@[simp] theorem optT_some {α : Type} (d : α) (g : Gm) : optT (some d) g = .ok d g := rfl
@[simp] theorem optT_none {α : Type} (g : Gm) : optT (none : Option α) g = .no := rfl
def dCmpT (ψ : D → D → Option Bool) (ma mb : ME) : MT := fun g => (ma g).bind fun a g1 => (mb g1).bind fun b g2 => optT (ψ a.frz b.frz) g2
def dCmp (ψ : D → D → Option Bool) (ma mb : ME) : ME := fun g => (dCmpT ψ ma mb g).bind fun b g2 => .ok (.fz (.bl b)) g2
theorem rdT_of {X : Cx} {E : Ent} {W : WX} {ta tb : ME} {r : R2} {ψ : D → D → Option Bool} (hφ : PureB X.K r ψ) {g t : Gm} {σ τ : L2.St} {Hf H : Hp} {Q : Bool → Hp → Prop} {Q2 : VK} (R : Rdy X.K E g t σ τ Hf H) (F : FinT X.K E W (dCmpT ψ ta tb g) t τ σ Q)
    (hQ : ∀ b H, Q b H → Q2 (.bl b) H) : tOp r (rdE X.K E W ta) (rdE X.K E W tb) σ H Q2 := by
  refine rdE_moreT R F fun v1 g1 Hf1 H1 o1 _ R1 F1 => ?_
  refine ⟨g1, t ++ [some o1], τ ++ [some v1], Hf1, R1, ?_⟩
  cases e : tb g1 with
  | ok o2 g2 =>
    rw [e] at F1
    intro v2 Hf2 H2 R2
    obtain ⟨Hf3, _, x3, r1, r2, R3⟩ := R2.freeze2
    rw [RE.bind_ok] at F1
    cases e : ψ o1.frz o2.frz with
    | none => rw [e] at F1; exact F1.elim
    | some b => rw [e] at F1; exact hφ Hf3 H2 _ _ b _ _ _ x3 e r1 r2 (hQ _ _ (F1 Hf3 H2 R3))
  | ex c fs g' => rw [e] at F1; exact fun d Hf' H' R' x => F1 d Hf' H' (R'.drop (by rfl)) x
  | no => rw [e] at F1; exact F1
theorem le_cmp {a b : Expr} {ma mb : ME} {op : CmpOp} {r : R2} {ψ : D → D → Option Bool} {pos : Pos} (ho : OpR X (compareOp op) r) (hφ : PureB X.K r ψ) (ha : LE X E W a ma) (hb : LE X E W b mb) (hm : behindInMarks op b = false) : LE X E W (.Compare a [op] [b] pos) (dCmp ψ ma mb) := by
  refine (pe_cmpR ho ha hb hm).to fun σ H Q ⟨g, t, τ, Hf, R, F⟩ => ?_
  unfold dCmp at F
  have F2 : FinT X.K E W (dCmpT ψ ma mb g) t τ σ (fun b H' => Q (.bl b) H') := by
    cases e : dCmpT ψ ma mb g with
    | ok b g2 => rw [e] at F; exact fun Hf' H' R' => F _ Hf' H' (R'.push_fz .bl)
    | ex c fs g2 => rw [e] at F; exact F
    | no => rw [e] at F; exact F
  exact rdT_of hφ R F2 fun b H q => q
theorem lt_cmp {a b : Expr} {ma mb : ME} {op : CmpOp} {r : R2} {ψ : D → D → Option Bool} {pos : Pos} (ho : OpR X (compareOp op) r) (hφ : PureB X.K r ψ) (ha : LE X E W a ma) (hb : LE X E W b mb) (hm : behindInMarks op b = false) : LT X E W (.Compare a [op] [b] pos) (dCmpT ψ ma mb) :=
  (pt_cmpR ho ha hb hm).to fun σ H Q ⟨g, t, τ, Hf, R, F⟩ => rdT_of hφ R F fun b H q => ⟨b, rfl, q⟩
def cLt : D → D → Option Bool
  | .int i, .int j => some (decide (i < j))
  | _, _ => none
def cLe : D → D → Option Bool
  | .int i, .int j => some (decide (i ≤ j))
  | _, _ => none
def cGt : D → D → Option Bool
  | .int i, .int j => some (decide (j < i))
  | _, _ => none
def cGe : D → D → Option Bool
  | .int i, .int j => some (decide (j ≤ i))
  | _, _ => none
theorem b_int2 {f : Int → Int → Bool} {ψ : D → D → Option Bool} (h : ∀ x y b, ψ x y = some b → ∃ i j, x = .int i ∧ y = .int j ∧ b = f i j) : PureB K (rI0 fun i j => .bl (f i j)) ψ := by
  intro Hf H x y b u v Q _ e r1 r2 q
  obtain ⟨i, j, rfl, rfl, rfl⟩ := h x y b e
  cases r1; cases r2
  exact ⟨i, j, rfl, rfl, q⟩
theorem b_lt : PureB K (rI0 fun i j => .bl (decide (i < j))) cLt := b_int2 (fun x y d e => by cases x <;> cases y <;> simp [cLt] at e; exact ⟨_, _, rfl, rfl, e.symm⟩)
theorem b_le : PureB K (rI0 fun i j => .bl (decide (i ≤ j))) cLe := b_int2 (fun x y d e => by cases x <;> cases y <;> simp [cLe] at e; exact ⟨_, _, rfl, rfl, e.symm⟩)
theorem b_gt : PureB K (rI0 fun i j => .bl (decide (j < i))) cGt := b_int2 (fun x y d e => by cases x <;> cases y <;> simp [cGt] at e; exact ⟨_, _, rfl, rfl, e.symm⟩)
theorem b_ge : PureB K (rI0 fun i j => .bl (decide (j ≤ i))) cGe := b_int2 (fun x y d e => by cases x <;> cases y <;> simp [cGe] at e; exact ⟨_, _, rfl, rfl, e.symm⟩)
def cEq : D → D → Option Bool := fun x y => match atm x, atm y with
  | some u, some v => if scal u v then some (decide (u = v)) else none
  | _, _ => none
def cNe : D → D → Option Bool := fun x y => match atm x, atm y with
  | some u, some v => if scal u v then some (!decide (u = v)) else none
  | _, _ => none
theorem b_eq : PureB K rEq cEq := by
  intro Hf H x y d u v Q _ e r1 r2 q
  unfold cEq at e
  cases e1 : atm x with
  | none => rw [e1] at e; cases e
  | some a =>
    cases e2 : atm y with
    | none => rw [e1, e2] at e; cases e
    | some b =>
      rw [e1, e2] at e
      dsimp only at e
      split at e
      · cases e
        rw [atm_rep e1 r1, atm_rep e2 r2]
        exact ⟨by assumption, q⟩
      · cases e
theorem b_ne : PureB K rNe cNe := by
  intro Hf H x y d u v Q _ e r1 r2 q
  unfold cNe at e
  cases e1 : atm x with
  | none => rw [e1] at e; cases e
  | some a =>
    cases e2 : atm y with
    | none => rw [e1, e2] at e; cases e
    | some b =>
      rw [e1, e2] at e
      dsimp only at e
      split at e
      · cases e
        rw [atm_rep e1 r1, atm_rep e2 r2]
        exact ⟨by assumption, q⟩
      · cases e
@[simp] theorem cEq_int (i j : Int) : cEq (.int i) (.int j) = some (decide (i = j)) := by simp [cEq, atm, scal]
@[simp] theorem cEq_str (i j : Str) : cEq (.str i) (.str j) = some (decide (i = j)) := by simp [cEq, atm, scal]
@[simp] theorem cEq_bl (i j : Bool) : cEq (.bl i) (.bl j) = some (decide (i = j)) := by simp [cEq, atm, scal]
@[simp] theorem cNe_int (i j : Int) : cNe (.int i) (.int j) = some (!decide (i = j)) := by simp [cNe, atm, scal]
@[simp] theorem cNe_str (i j : Str) : cNe (.str i) (.str j) = some (!decide (i = j)) := by simp [cNe, atm, scal]
@[simp] theorem cNe_bl (i j : Bool) : cNe (.bl i) (.bl j) = some (!decide (i = j)) := by simp [cNe, atm, scal]
def isNon : D → Bool
  | .non => true
  | _ => false
def cIsN : D → D → Option Bool
  | x, .non => some (isNon x)
  | _, _ => none
def cNotN : D → D → Option Bool
  | x, .non => some (!isNon x)
  | _, _ => none
theorem isNon_rep {H : Hp} {x : D} {v : V} (r : RepF K H x v) : decide (v = .non) = isNon x := by cases r <;> simp [isNon]
theorem b_isN : PureB K (fun x y H Q => y = .non ∧ Q (.bl (decide (x = .non))) H) cIsN := by
  intro Hf H x y d u v Q _ e r1 r2 q
  cases y <;> simp only [cIsN] at e <;> try cases e
  cases r2
  exact ⟨rfl, by rw [isNon_rep r1]; exact q⟩
theorem b_notN : PureB K (fun x y H Q => y = .non ∧ Q (.bl (!decide (x = .non))) H) cNotN := by
  intro Hf H x y d u v Q _ e r1 r2 q
  cases y <;> simp only [cNotN] at e <;> try cases e
  cases r2
  exact ⟨rfl, by rw [isNon_rep r1]; exact q⟩
def cIsB : D → D → Option Bool
  | .bl a, .bl b => some (decide (a = b))
  | _, _ => none
def cNotB : D → D → Option Bool
  | .bl a, .bl b => some (!decide (a = b))
  | _, _ => none
theorem b_isB : PureB K rIsB cIsB := by
  intro Hf H x y d u v Q _ e r1 r2 q
  cases x <;> cases y <;> simp only [cIsB] at e <;> try cases e
  cases r1; cases r2
  exact ⟨_, _, rfl, rfl, q⟩
theorem b_notB : PureB K rNotB cNotB := by
  intro Hf H x y d u v Q _ e r1 r2 q
  cases x <;> cases y <;> simp only [cNotB] at e <;> try cases e
  cases r1; cases r2
  exact ⟨_, _, rfl, rfl, q⟩
end
end L3
end

section
namespace L3
open PySem L2

section
variable {X : Cx} {E : Ent} {W : WX} {K : PySem.W.Frag} {g t : Gm} {σ τ : L2.St} {Hf H : Hp}

/-! ### truth -/
def truthD : D → Option Bool
  | .non => some false
  | .bl b => some b
  | .int i => some (i != 0)
  | .str z => if z.length ≤ big then some ((z.length : Int) != 0) else none
  | .lst xs => some (!xs.isEmpty)
  | .tup xs => some (!xs.isEmpty)
  | _ => none
theorem isEmpty_rep {xs : List D} {vs : List V} (r : RepFs K H xs vs) : xs.isEmpty = vs.isEmpty := by
  cases xs with
  | nil => rw [r.nil_of]; rfl
  | cons d xs => obtain ⟨v, u, rfl, _⟩ := r.uncons; rfl
theorem truth_ok {o : O} {v : V} {b : Bool} (s : Ex Hf H) (r : RepO K Hf H o v) (e : truthD o.frz = some b) : TruV K v H b := by
  have key : ∀ {d : D} {Hg : Hp}, Ex Hg H → RepF K Hg d v → truthD d = some b → TruV K v H b := fun {d Hg} s r e => by
    cases r with
    | non => cases e; exact rfl
    | bl => cases e; exact rfl
    | int => cases e; exact rfl
    | str =>
      simp only [truthD] at e
      split at e
      · cases e; exact ⟨by rw [← big_eq]; assumption, rfl⟩
      · cases e
    | tup h1 h2 h3 => cases e; exact .inr (.inl ⟨_, s.t h1, by rw [isEmpty_rep ⟨h2, h3⟩]⟩)
    | lst h1 h2 h3 => cases e; exact .inl ⟨_, .of (s _ _ h1), by rw [isEmpty_rep ⟨h2, h3⟩]⟩
    | _ => cases e
  cases r with
  | fz r => exact key s r e
  | ol h1 h2 => cases e; exact .inl ⟨_, .of h1, by rw [isEmpty_rep h2]⟩
  | _ => cases e
def dTru (m : ME) : MT := fun g => (m g).bind fun o g' => optT (truthD o.frz) g'
/-- a value's truth as a test (not for and, or, not, comparisons) -/
theorem lt_tru {e : Expr} {m : ME} (h : LE X E W e m) (he : ∀ whole, isTrue e X.env whole = (do let v ← whole; standAt e.pos; holding [v] (truthy v)) := by intro _; rfl) : LT X E W e (dTru m) := by
  refine (pt_truth h he).to fun σ H Q ⟨g, t, τ, Hf, R, F⟩ => ?_
  refine rdE_moreT R F fun v g2 Hf2 H2 o2 _ R2 F2 => ?_
  cases e : truthD o2.frz with
  | none => rw [e] at F2; exact F2.elim
  | some b => rw [e] at F2; exact ⟨b, truth_ok R2.rl.sub R2.top e, F2 Hf2 H2 (R2.drop (by rfl))⟩
/-- the truth of a slot's own thing: it stays its own -/
def dTruS (i : Nat) : MT := fun g => match g[i]? with
  | some (some o) => optT (truthD o.frz) g
  | _ => .no
theorem lt_truS {i : Nat} {x : Str} {pos : Pos} (hN : X.N[i]? = some x) (hv : Vis X.env.scope x) (hd : (x == ("__debug__" : Str)) = false := by decide) (hcd : (x == ("__classdict__" : Str)) = false := by decide) : LT X E W (.Name x pos) (dTruS i) := by
  refine (pt_truth (pe_var hN hv hd hcd) (by intro _; rfl)).to fun σ H Q ⟨g, t, τ, Hf, R, F⟩ => ?_
  unfold dTruS at F
  cases e : g[i]? with
  | none => rw [e] at F; exact F.elim
  | some s =>
    cases s with
    | none => rw [e] at F; exact F.elim
    | some o =>
      obtain ⟨v, h1, h2⟩ := R.slot e
      rw [e] at F
      dsimp only at F
      cases e2 : truthD o.frz with
      | none => rw [e2] at F; exact F.elim
      | some b => rw [e2] at F; exact ⟨v, h1, b, truth_ok R.rl.sub h2 e2, F Hf H R⟩

/-! ### and, or, not, if -/
def dAndT (ma mb : MT) : MT := fun g => (ma g).bind fun b g' => if b = true then mb g' else .ok false g'
def dOrT (ma mb : MT) : MT := fun g => (ma g).bind fun b g' => if b = true then .ok true g' else mb g'
def dNotT (ma : MT) : MT := fun g => (ma g).bind fun b g' => .ok (!b) g'
variable {a b : Expr} {rest : List Expr} {pos : Pos} {ma mb : MT}
theorem lw_and1 (ha : LT X E W a ma) : LW X E W (.BoolOp .And [a] pos) ma := pw_and1 ha
theorem lw_or1 (ha : LT X E W a ma) : LW X E W (.BoolOp .Or [a] pos) ma := pw_or1 ha
theorem lw_and (ha : LT X E W a ma) (hb : LW X E W (.BoolOp .And (b :: rest) pos) mb) : LW X E W (.BoolOp .And (a :: b :: rest) pos) (dAndT ma mb) := by
  refine (pw_and ha hb).to fun σ H Q ⟨g, t, τ, Hf, R, F⟩ => ?_
  refine rdT_moreT R F fun g2 Hf2 H2 b _ R2 F2 => ?_
  cases b with
  | true => exact ⟨g2, t, τ, Hf2, R2, F2⟩
  | false => exact F2 Hf2 H2 R2
theorem lw_or (ha : LT X E W a ma) (hb : LW X E W (.BoolOp .Or (b :: rest) pos) mb) : LW X E W (.BoolOp .Or (a :: b :: rest) pos) (dOrT ma mb) := by
  refine (pw_or ha hb).to fun σ H Q ⟨g, t, τ, Hf, R, F⟩ => ?_
  refine rdT_moreT R F fun g2 Hf2 H2 b _ R2 F2 => ?_
  cases b with
  | true => exact F2 Hf2 H2 R2
  | false => exact ⟨g2, t, τ, Hf2, R2, F2⟩
theorem lt_w {e : Expr} (h : LW X E W e ma) : LT X E W e ma := h.pt
theorem lt_not (ha : LT X E W a ma) : LT X E W (.UnaryOp .Not a pos) (dNotT ma) := by
  refine (pt_not ha).to fun σ H Q ⟨g, t, τ, Hf, R, F⟩ => ?_
  refine rdT_moreT R F fun g2 Hf2 H2 b _ R2 F2 => ?_
  exact F2 Hf2 H2 R2
def dIf (mt : MT) (ma mb : ME) : ME := fun g => (mt g).bind fun b g' => if b = true then ma g' else mb g'
theorem le_if {c : Expr} {mt : MT} {ma mb : ME} (hc : LT X E W c mt) (ha : LE X E W a ma) (hb : LE X E W b mb) : LE X E W (.IfExp c a b pos) (dIf mt ma mb) := by
  refine (pe_ifExp hc ha hb).to fun σ H Q ⟨g, t, τ, Hf, R, F⟩ => ?_
  refine rdT_moreE R F fun g2 Hf2 H2 b _ R2 F2 => ?_
  cases b with
  | true => exact ⟨g2, t, τ, Hf2, R2, F2⟩
  | false => exact ⟨g2, t, τ, Hf2, R2, F2⟩
/-- .. as values -/
def isBl : O → Option Bool
  | .fz (.bl b) => some b
  | _ => none
def dAnd (ma mb : ME) : ME := fun g => (ma g).bind fun o g' => match isBl o with
  | some true => mb g'
  | some false => .ok (.fz (.bl false)) g'
  | none => .no
def dOr (ma mb : ME) : ME := fun g => (ma g).bind fun o g' => match isBl o with
  | some true => .ok (.fz (.bl true)) g'
  | some false => mb g'
  | none => .no
def dNot (ma : ME) : ME := fun g => (ma g).bind fun o g' => match isBl o with
  | some b => .ok (.fz (.bl (!b))) g'
  | none => .no
theorem isBl_eq {o : O} {b : Bool} (h : isBl o = some b) : o = .fz (.bl b) := by
  cases o <;> simp [isBl] at h
  rename_i d
  cases d <;> simp at h
  subst h; rfl
theorem le_one {op} {m : ME} (h : LE X E W a m) : LE X E W (.BoolOp op [a] pos) m := pe_one h
theorem le_and {ma mb : ME} (ha : LE X E W a ma) (hb : LE X E W (.BoolOp .And (b :: rest) pos) mb) : LE X E W (.BoolOp .And (a :: b :: rest) pos) (dAnd ma mb) := by
  refine (pe_and ha hb).to fun σ H Q ⟨g, t, τ, Hf, R, F⟩ => ?_
  refine rdE_more (t2 := []) (τ2 := []) rfl (by simpa using R) F fun v1 g1 Hf1 H1 o1 _ R1 F1 => ?_
  simp only [List.append_nil] at R1
  cases e : isBl o1 with
  | none => rw [e] at F1; exact F1.elim
  | some c =>
    obtain rfl := isBl_eq e
    rw [e] at F1
    cases R1.topF
    refine ⟨c, rfl, ?_⟩
    have R2 := R1.drop (by rfl)
    cases c with
    | true => exact ⟨g1, t, τ, Hf1, R2, F1⟩
    | false => exact F1 _ Hf1 H1 (R2.push_fz .bl)
theorem le_or {ma mb : ME} (ha : LE X E W a ma) (hb : LE X E W (.BoolOp .Or (b :: rest) pos) mb) : LE X E W (.BoolOp .Or (a :: b :: rest) pos) (dOr ma mb) := by
  refine (pe_or ha hb).to fun σ H Q ⟨g, t, τ, Hf, R, F⟩ => ?_
  refine rdE_more (t2 := []) (τ2 := []) rfl (by simpa using R) F fun v1 g1 Hf1 H1 o1 _ R1 F1 => ?_
  simp only [List.append_nil] at R1
  cases e : isBl o1 with
  | none => rw [e] at F1; exact F1.elim
  | some c =>
    obtain rfl := isBl_eq e
    rw [e] at F1
    cases R1.topF
    refine ⟨c, rfl, ?_⟩
    have R2 := R1.drop (by rfl)
    cases c with
    | true => exact F1 _ Hf1 H1 (R2.push_fz .bl)
    | false => exact ⟨g1, t, τ, Hf1, R2, F1⟩
theorem le_not {ma : ME} (ha : LE X E W a ma) : LE X E W (.UnaryOp .Not a pos) (dNot ma) := by
  refine (pe_not ha).to fun σ H Q ⟨g, t, τ, Hf, R, F⟩ => ?_
  refine rdE_more (t2 := []) (τ2 := []) rfl (by simpa using R) F fun v1 g1 Hf1 H1 o1 _ R1 F1 => ?_
  simp only [List.append_nil] at R1
  cases e : isBl o1 with
  | none => rw [e] at F1; exact F1.elim
  | some c =>
    obtain rfl := isBl_eq e
    rw [e] at F1
    cases R1.topF
    exact ⟨c, rfl, F1 _ Hf1 H1 ((R1.drop (by rfl)).push_fz .bl)⟩

/-! ### arguments, displays -/
def aNil : MA := fun g => .ok [] g
def aCons (ma : ME) (mr : MA) : MA := fun g => (ma g).bind fun o g1 => (mr g1).bind fun os g2 => .ok (o :: os) g2
theorem la_nil : LA X E W [] aNil := pa_nil.to fun σ H Q ⟨g, t, τ, Hf, R, F⟩ => F [] Hf H rfl (by simpa using R)
theorem la_cons {e : Expr} {es : List Expr} {me : ME} {mr : MA} (he : LE X E W e me) (hr : LA X E W es mr) (hs : starEach (e :: es) X.env = (false, eval e X.env) :: starEach es X.env := by rfl) : LA X E W (e :: es) (aCons me mr) := by
  refine (pa_cons he hr hs).to fun σ H Q ⟨g, t, τ, Hf, R, F⟩ => ?_
  refine rdE_moreA (t2 := []) (τ2 := []) rfl (by simpa using R) F fun v1 g1 Hf1 H1 o1 _ R1 F1 => ?_
  simp only [List.append_nil] at R1
  refine rdA_moreA (t2 := [some o1]) (τ2 := [some v1]) rfl R1 F1 fun vs g2 Hf2 H2 os _ hl R2 F2 => ?_
  refine F2 (v1 :: vs) Hf2 H2 (by simp [hl]) ?_
  simpa using R2
/-- all things in hand frozen -/
theorem Rdy.freezeA : ∀ {n : Nat} {os : List O} {vs : List V} {Hf : Hp}, os.length = n → os.length = vs.length → Rdy K E g (t ++ os.map some) σ (τ ++ vs.map some) Hf H →
    ∃ Hf', Ex Hf Hf' ∧ Ex Hf' H ∧ RepFs K Hf' (os.map O.frz) vs ∧ Rdy K E g t σ τ Hf' H
  | 0, os, vs, Hf, hn, hl, R => by
    have e1 : os = [] := List.length_eq_zero_iff.mp hn
    have e2 : vs = [] := List.length_eq_zero_iff.mp (by omega)
    subst e1 e2
    simp at R
    exact ⟨Hf, .refl _, R.rl.sub, .nil, R⟩
  | n + 1, os, vs, Hf, hn, hl, R => by
    rcases List.eq_nil_or_concat os with e | ⟨os', o, rfl⟩
    · rw [e] at hn; cases hn
    rcases List.eq_nil_or_concat vs with e | ⟨vs', v, rfl⟩
    · rw [e, hn] at hl; cases hl
    simp only [List.concat_eq_append, List.length_append, List.length_singleton] at hn hl
    simp only [List.concat_eq_append, List.map_append, List.map_cons, List.map_nil] at R ⊢
    rw [← List.append_assoc, ← List.append_assoc] at R
    obtain ⟨Hf1, x1, R1⟩ := R.freezeT
    have r1 := R1.topF
    obtain ⟨Hf2, x2, x3, r2, R2⟩ := Rdy.freezeA (n := n) (by omega) (by omega) (R1.drop (by rfl))
    exact ⟨Hf2, x1.trans x2, x3, r2.append (.cons (r1.mono x2) .nil), R2⟩
def dTup (ma : MA) : ME := fun g => (ma g).bind fun os g' => if os.length ≤ big then .ok (.fz (.tup (os.map O.frz))) g' else .no
def dLst (ma : MA) : ME := fun g => (ma g).bind fun os g' => if os.length ≤ big then .ok (.ol (os.map O.frz)) g' else .no
theorem le_tup {es : List Expr} {ma : MA} {x1} (h : LA X E W es ma) : LE X E W (.Tuple es x1 pos) (dTup ma) := by
  refine (pe_tup h).to fun σ H Q ⟨g, t, τ, Hf, R, F⟩ => ?_
  refine rdA_more (t2 := []) (τ2 := []) rfl (by simpa using R) F fun vs g1 Hf1 H1 os _ hl R1 F1 => ?_
  simp only [List.append_nil] at R1
  split at F1
  · rename_i hb
    obtain ⟨Hf2, x2, x3, r2, R2⟩ := Rdy.freezeA rfl hl R1
    refine ⟨by rw [← hl, ← big_eq]; exact hb, fun p hp => ?_⟩
    have hf := R2.free hp
    refine F1 _ _ _ (R2.push_newF (u := .tup vs) hp ?_)
    have r3 := r2.mono (Ex.new (o := .tup vs) hf)
    exact .tup (.of upd_same) r3.1 r3.2
  · exact F1.elim
theorem le_lst {es : List Expr} {ma : MA} (h : LA X E W es ma) : LE X E W (.List es pos) (dLst ma) := by
  refine (pe_lst h).to fun σ H Q ⟨g, t, τ, Hf, R, F⟩ => ?_
  refine rdA_more (t2 := []) (τ2 := []) rfl (by simpa using R) F fun vs g1 Hf1 H1 os _ hl R1 F1 => ?_
  simp only [List.append_nil] at R1
  split at F1
  · rename_i hb
    obtain ⟨Hf2, x2, x3, r2, R2⟩ := Rdy.freezeA rfl hl R1
    refine ⟨by rw [← hl, ← big_eq]; exact hb, fun p hp => ?_⟩
    exact F1 _ _ _ (R2.push_new (u := .lst vs) hp (.ol upd_same r2))
  · exact F1.elim

/-! ### fields -/
def fldD (Cs : List Addr) (f : Str) : D → Option D
  | .ins C fs => if C ∈ Cs then fs.lookup f else none
  | _ => none
def dFld (Cs : List Addr) (f : Str) (m : ME) : ME := fun g => (m g).bind fun o g' => opt (fldD Cs f o.frz) g'
/-- .. of a slot's thing, which stays as it is -/
def dFldS (Cs : List Addr) (f : Str) (i : Nat) : ME := fun g => match g[i]? with
  | some (some o) => opt (fldD Cs f o.frz) g
  | _ => .no
theorem fld_ok {Cs : List Addr} {f : Str} {o : O} {v : V} {d : D} (s : Ex Hf H) (r : RepO K Hf H o v) (e : fldD Cs f o.frz = some d) :
    ∃ a C dx gs u, v = .ref a ∧ C ∈ Cs ∧ H a = some (.ins C dx gs) ∧ gs.lookup f = some u ∧ RepF K Hf d u := by
  cases o with
  | fz x =>
    cases r with
    | fz r =>
      cases r with
      | ins h1 h2 h3 =>
        simp only [O.frz, fldD] at e
        split at e
        · obtain ⟨u, e1, e2⟩ := RepKs.look ⟨h2, h3⟩ e
          exact ⟨_, _, _, _, u, rfl, by assumption, s _ _ h1, e1, e2⟩
        · cases e
      | _ => cases e
  | oi C fs =>
    cases r with
    | oi h1 h2 =>
      simp only [O.frz, fldD] at e
      split at e
      · obtain ⟨u, e1, e2⟩ := h2.look e
        exact ⟨_, _, _, _, u, rfl, by assumption, h1, e1, e2⟩
      · cases e
  | _ => cases e
theorem le_fld {e : Expr} {Cs : List Addr} {f : Str} {m : ME} (hC : ∀ C ∈ Cs, Cls X.K C ∧ NoAttr X.K C f) (he : LE X E W e m) (hb : attributeBase e f X.env (eval e X.env) = eval e X.env := by rfl) : LE X E W (.Attribute e f pos) (dFld Cs f m) := by
  refine (pe_fld he hb).to fun σ H Q ⟨g, t, τ, Hf, R, F⟩ => ?_
  refine rdE_more (t2 := []) (τ2 := []) rfl (by simpa using R) F fun v1 g1 Hf1 H1 o1 _ R1 F1 => ?_
  simp only [List.append_nil] at R1
  cases e : fldD Cs f o1.frz with
  | none => rw [e] at F1; exact F1.elim
  | some d =>
    rw [e] at F1
    obtain ⟨a, C, dx, gs, u, h1, h2, h3, h4, h5⟩ := fld_ok R1.rl.sub R1.top e
    exact ⟨a, C, dx, gs, u, h1, h3, (hC C h2).1, (hC C h2).2, h4, F1 u Hf1 H1 ((R1.drop (by rfl)).push_fz h5)⟩
theorem le_fldS {x : Str} {Cs : List Addr} {f : Str} {i : Nat} {p2 : Pos} (hC : ∀ C ∈ Cs, Cls X.K C ∧ NoAttr X.K C f) (hN : X.N[i]? = some x) (hv : Vis X.env.scope x) (hb : attributeBase (.Name x p2) f X.env (eval (.Name x p2) X.env) = eval (.Name x p2) X.env := by rfl)
    (hd : (x == ("__debug__" : Str)) = false := by decide) (hcd : (x == ("__classdict__" : Str)) = false := by decide) : LE X E W (.Attribute (.Name x p2) f pos) (dFldS Cs f i) := by
  refine (pe_fld (pe_var hN hv hd hcd) hb).to fun σ H Q ⟨g, t, τ, Hf, R, F⟩ => ?_
  unfold dFldS at F
  cases e : g[i]? with
  | none => rw [e] at F; exact F.elim
  | some s =>
    cases s with
    | none => rw [e] at F; exact F.elim
    | some o =>
      obtain ⟨v, h1, h2⟩ := R.slot e
      rw [e] at F
      dsimp only at F
      cases e2 : fldD Cs f o.frz with
      | none => rw [e2] at F; exact F.elim
      | some d =>
        rw [e2] at F
        obtain ⟨a, C, dx, gs, u, k1, k2, k3, k4, k5⟩ := fld_ok R.rl.sub h2 e2
        exact ⟨v, h1, a, C, dx, gs, u, k1, k3, (hC C k2).1, (hC C k2).2, k4, F u Hf H (R.push_fz k5)⟩
/-- x[i], x a slot's list or other thing, which stays as it is -/
def dIxS (i : Nat) (mb : ME) : ME := fun g => match g[i]? with
  | some (some _) => (mb g).bind fun b g1 => match g1[i]? with
    | some (some o) => opt (fIx o.frz b.frz) g1
    | _ => .no
  | _ => .no
theorem ix_ok {o : O} {v w : V} {x d : D} {Q : VK} (s : Ex Hf H) (r : RepO K Hf H o v) (rw' : RepF K Hf x w) (e : fIx o.frz x = some d) (q : ∀ z, RepF K Hf d z → Q z H) : rIx K v w H Q := by
  cases r with
  | fz r => exact p_ix Hf H _ _ d v w Q s e r rw' q
  | ol h1 h2 =>
    cases x <;> simp only [O.frz, fIx] at e <;> try cases e
    cases rw'
    obtain ⟨z, e1, r1⟩ := atI_rep h2 e
    exact .inl ⟨_, _, _, z, rfl, rfl, .of h1, e1, q _ r1⟩
  | _ => cases x <;> cases e
theorem le_ixS {x : Str} {i : Nat} {b : Expr} {mb : ME} {p2 : Pos} (hN : X.N[i]? = some x) (hv : Vis X.env.scope x) (hb : LE X E W b mb) (hs : PlainIx b) (hd : (x == ("__debug__" : Str)) = false := by decide) (hcd : (x == ("__classdict__" : Str)) = false := by decide) :
    LE X E W (.Subscript (.Name x p2) b pos) (dIxS i mb) := by
  refine (pe_ix ix_seq (pe_var hN hv hd hcd) hb hs).to fun σ H Q ⟨g, t, τ, Hf, R, F⟩ => ?_
  unfold dIxS at F
  cases e0 : g[i]? with
  | none => rw [e0] at F; exact F.elim
  | some s0 =>
    cases s0 with
    | none => rw [e0] at F; exact F.elim
    | some o0 =>
      rw [e0] at F
      dsimp only at F
      obtain ⟨v, hv1, _⟩ := R.slot e0
      refine ⟨v, hv1, ?_⟩
      refine rdE_more (t2 := []) (τ2 := []) rfl (by simpa using R) F fun v1 g1 Hf1 H1 o1 _ R1 F1 => ?_
      simp only [List.append_nil] at R1
      obtain ⟨Hf2, x2, x3, r2, R2⟩ := R1.freeze1
      cases e : g1[i]? with
      | none => rw [e] at F1; exact F1.elim
      | some s =>
        cases s with
        | none => rw [e] at F1; exact F1.elim
        | some o =>
          obtain ⟨v', h1, h2⟩ := R2.slot e
          rw [hv1] at h1; cases h1
          rw [e] at F1
          dsimp only at F1
          cases e2 : fIx o.frz o1.frz with
          | none => rw [e2] at F1; exact F1.elim
          | some d =>
            rw [e2] at F1
            exact ix_ok R2.rl.sub h2 r2 e2 fun z rz => F1 z Hf2 H1 (R2.push_fz rz)
end
end L3
end

section
namespace L3
open PySem L2

section
variable {X : Cx} {E : Ent} {W : WX} {K : PySem.W.Frag} {g t : Gm} {σ τ : L2.St} {Hf H : Hp} {pos : Pos}

/-- the slot is not a lent one -/
def Off (E : Ent) (i : Nat) : Prop := ∀ p ∈ E.pin, p.1 ≠ i
theorem off_of {is : List Nat} {i : Nat} (h : ∀ p ∈ E.pin, p.1 ∈ is) (hi : i ∉ is) : Off E i := fun p hp e => hi (e ▸ h p hp)
/-- the thing in hand goes into a slot -/
theorem Rdy.store {o : O} {v : V} {i : Nat} (R : Rdy K E g (t ++ [some o]) σ (τ ++ [some v]) Hf H) (hp : Off E i) : Rdy K E (g.set i (some o)) t (σ.set i (some v)) τ Hf H := by
  have hg := R.lg
  have ht := R.lt
  simp only [List.length_append, List.length_singleton] at ht
  by_cases hi : i < g.length
  · refine ⟨by simpa using hg, fun p h => by simpa using R.pb p h, ?_⟩
    have key : ∀ {j : Nat} {o' : O}, (g.set i (some o) ++ t)[j]? = some (some o') → (j = i ∧ o' = o) ∨ (j ≠ i ∧ j < (g ++ t).length ∧ (g ++ (t ++ [some o]))[j]? = some (some o')) := fun {j o'} e => by
      rw [← set_append_left' hi] at e
      rcases get_set_some e with ⟨e1, e2, _⟩ | ⟨hne, e2⟩
      · cases e2; exact .inl ⟨e1.symm, rfl⟩
      · have l := (List.getElem?_eq_some_iff.mp e2).1
        exact .inr ⟨fun q => hne q.symm, l, by rw [← List.append_assoc, List.getElem?_append_left l]; exact e2⟩
    have top : (g ++ (t ++ [some o]))[(g ++ t).length]? = some (some o) := by rw [← List.append_assoc]; simp
    have lx : (g ++ t).length = (σ ++ τ).length := by simp only [List.length_append]; omega
    have topS : (σ ++ (τ ++ [some v]))[(g ++ t).length]? = some (some v) := by rw [lx, ← List.append_assoc]; simp
    have kS : ∀ {j : Nat}, j ≠ i → j < (g ++ t).length → (σ.set i (some v) ++ τ)[j]? = (σ ++ (τ ++ [some v]))[j]? := fun {j} hne hj => by
      have a1 : (σ.set i (some v) ++ τ)[j]? = (σ ++ τ)[j]? := by rw [← set_append_left' (by omega), List.getElem?_set_ne (fun q => hne q.symm)]
      have a2 : (σ ++ (τ ++ [some v]))[j]? = (σ ++ τ)[j]? := by rw [← List.append_assoc, List.getElem?_append_left (by omega)]
      rw [a1, a2]
    have kI : (σ.set i (some v) ++ τ)[i]? = some (some v) := by
      rw [← set_append_left' (by omega), List.getElem?_set_self (by rw [← lx]; simp only [List.length_append]; omega)]
    refine R.rl.map (f := fun j => if j = i then (g ++ t).length else j) (by simp only [List.length_append, List.length_set]; omega) (fun j o' e => ?_) (fun j k o1 o2 e1 e2 _ _ ef => ?_) (fun p h => ?_)
    · rcases key e with ⟨rfl, rfl⟩ | ⟨hne, hj, e2⟩
      · rw [if_pos rfl]; exact ⟨top, by rw [kI, topS]⟩
      · rw [if_neg hne]; exact ⟨e2, kS hne hj⟩
    · rcases key e1 with ⟨h1, _⟩ | ⟨h1, hj, _⟩
      · rcases key e2 with ⟨h2, _⟩ | ⟨h2, hk, _⟩
        · omega
        · rw [if_pos h1, if_neg h2] at ef; omega
      · rcases key e2 with ⟨h2, _⟩ | ⟨h2, hk, _⟩
        · rw [if_neg h1, if_pos h2] at ef; omega
        · rw [if_neg h1, if_neg h2] at ef; exact ef
    · have h1 := R.rl.pin p h
      have h2 := R.pb p h
      rw [List.getElem?_append_left h2] at h1
      rw [List.getElem?_append_left (by simpa using h2), List.getElem?_set_ne (fun q => hp p h q.symm)]
      exact h1
  · rw [List.set_eq_of_length_le (by omega), List.set_eq_of_length_le (by omega)]
    exact R.drop (by rfl)

/-! ### names stored -/
def dSet (i : Nat) (me : ME) : MS := fun g => (me g).toS fun o g1 => .nx (g1.set i (some o))
theorem rd_set {i : Nat} {me : ME} {D : Ends} (hp : Off E i) (h : rdS X.K E W (dSet i me) D σ H) : tAsg (rdE X.K E W me) (gName i) D σ H := by
  obtain ⟨g, t, τ, Hf, R, F⟩ := h
  exact rdE_moreS R F fun v g2 Hf2 H2 o2 _ R2 F2 => F2 _ _ _ (R2.store hp)
theorem ls_set {i : Nat} {x : Str} {e : Expr} {me : ME} {p2 : Pos} (hp : Off E i) (hN : X.N.Nodup) (hi : X.N[i]? = some x) (hx : Loc X.env.scope x) (he : LE X E W e me) (hs : swapsWith e (some (.Name x p2)) pos.line X.env = pure false := by rfl)
    (hf : X.fn x = true ∨ X.env.scope.names.lookup x = some .local := by first | exact .inl rfl | exact .inr rfl | assumption) : LS X E W (.Assign [.Name x p2] e pos) (dSet i me) :=
  (ps_set hN hi hx he hs hf).to fun _ _ _ h => rd_set hp h
/-- targets of any form; ix the slots that are stored -/
abbrev AG := D → Gm → Option Gm
def Keeps (ix : List Nat) (σ σ' : L2.St) : Prop := σ'.length = σ.length ∧ ∀ j, j ∉ ix → σ'[j]? = σ[j]?
theorem Keeps.refl {ix : List Nat} : Keeps ix σ σ := ⟨rfl, fun _ _ => rfl⟩
theorem Keeps.trans {ix iy : List Nat} {σ1 σ2 σ3 : L2.St} (a : Keeps ix σ1 σ2) (b : Keeps iy σ2 σ3) : Keeps (ix ++ iy) σ1 σ3 :=
  ⟨b.1.trans a.1, fun j hj => (b.2 j fun h => hj (List.mem_append_right _ h)).trans (a.2 j fun h => hj (List.mem_append_left _ h))⟩
def rdG (K : PySem.W.Frag) (E : Ent) (ix : List Nat) (as : AG) : TG := fun v σ H Q => ∃ g t τ Hf d, Rdy K E g (t ++ [some (.fz d)]) σ (τ ++ [some v]) Hf H ∧
  match as d g with
  | some g' => ∀ σ' Hf' H', Rdy K E g' t σ' τ Hf' H' → Ex Hf Hf' → Keeps ix σ σ' → Q σ' H'
  | none => False
abbrev LG (X : Cx) (E : Ent) (tg : Expr) (ix : List Nat) (as : AG) : Prop := PG X tg (rdG X.K E ix as)
theorem _root_.L2.PG.to {X : Cx} {e : Expr} {t t' : TG} (h : PG X e t) (f : ∀ v σ H Q, t' v σ H Q → t v σ H Q) : PG X e t' := ⟨fun pins s σ H v u Q I r q => h.run pins s σ H v u Q I r (f v σ H Q q)⟩
def aName (i : Nat) : AG := fun d g => some (g.set i (some (.fz d)))
theorem lg_name {i : Nat} {x : Str} (hp : Off E i) (hN : X.N.Nodup) (hi : X.N[i]? = some x) (hx : Loc X.env.scope x)
    (hf : X.fn x = true ∨ X.env.scope.names.lookup x = some .local := by first | exact .inl rfl | exact .inr rfl | assumption) : LG X E (.Name x pos) [i] (aName i) :=
  (pg_name hN hi hx hf).to fun v σ H Q ⟨g, t, τ, Hf, d, R, F⟩ => F _ Hf H (R.store hp) (.refl _) ⟨by simp, fun j hj => List.getElem?_set_ne (by intro h; exact hj (by simp [h]))⟩
/-- the names of a tuple target, one behind another -/
def aTup (is : List AG) : AG := fun d g => match d with
  | .tup ds => if ds.length = is.length then (ds.zip is).foldlM (fun g p => p.2 p.1 g) g else none
  | _ => none
structure LGs (X : Cx) (E : Ent) (ts : List Expr) (ix : List Nat) (is : List AG) : Prop where
  len : (assignEach ts X.env).length = is.length
  run : ∃ u : TGs, PGs X ts u ∧ ∀ (ds : List D) (vs : List V) (g t : Gm) (σ τ : L2.St) (Hf H : Hp) (Q : L2.St → Hp → Prop), RepFs X.K Hf ds vs → ds.length = is.length → Rdy X.K E g t σ τ Hf H →
    (match (ds.zip is).foldlM (fun g p => p.2 p.1 g) g with
      | some g' => ∀ σ' Hf' H', Rdy X.K E g' t σ' τ Hf' H' → Ex Hf Hf' → Keeps ix σ σ' → Q σ' H'
      | none => False) → u vs σ H Q
theorem lgs_nil : LGs X E [] [] [] := ⟨rfl, gNil, pgs_nil, fun ds vs g t σ τ Hf H Q r hl R F => by
  have e : ds = [] := List.length_eq_zero_iff.mp hl
  subst e
  exact ⟨r.nil_of, F σ Hf H R (.refl _) .refl⟩⟩
theorem lgs_cons {e : Expr} {es : List Expr} {i : AG} {is : List AG} {ix iy : List Nat} (h1 : LG X E e ix i) (h2 : LGs X E es iy is) (hl : (assignEach (e :: es) X.env).length = (assignEach es X.env).length + 1 := by rfl)
    (hc : (assignEach (e :: es) X.env).map (·.2) = assign e X.env :: (assignEach es X.env).map (·.2) := by rfl) : LGs X E (e :: es) (ix ++ iy) (i :: is) := by
  obtain ⟨u, pu, hu⟩ := h2.run
  refine ⟨by rw [hl, h2.len]; rfl, _, pgs_cons h1 pu hc, fun ds vs g t σ τ Hf H Q r hl R F => ?_⟩
  cases ds with
  | nil => cases hl
  | cons d ds =>
    obtain ⟨v, vr, rfl, r1, r2⟩ := r.uncons
    refine ⟨v, vr, rfl, g, t, τ, Hf, d, R.push_fz r1, ?_⟩
    simp only [List.zip_cons_cons, List.foldlM_cons] at F
    cases e2 : i d g with
    | none => rw [e2] at F; exact F.elim
    | some g1 =>
      rw [e2] at F
      intro σ' Hf' H' R' x' k'
      refine hu ds vr g1 t σ' τ Hf' H' Q (r2.mono x') (by simpa using hl) R' ?_
      have F' : (match (ds.zip is).foldlM (fun g p => p.2 p.1 g) g1 with
        | some g' => ∀ σ' Hf' H', Rdy X.K E g' t σ' τ Hf' H' → Ex Hf Hf' → Keeps (ix ++ iy) σ σ' → Q σ' H'
        | none => False) := F
      cases e3 : (ds.zip is).foldlM (fun g p => p.2 p.1 g) g1 with
      | none => rw [e3] at F'; exact F'.elim
      | some g2 => rw [e3] at F'; exact fun σ2 Hf2 H2 R2 x2 k2 => F' σ2 Hf2 H2 R2 (x'.trans x2) (k'.trans k2)
theorem lg_tup {es : List Expr} {is : List AG} {ix : List Nat} {k : Nat} (hc : X.calm = true) (h : LGs X E es ix is) (hst : (assignEach es X.env).findIdx? (·.1) = none := by rfl) : LG X E (.Tuple es k pos) ix (aTup is) := by
  obtain ⟨u, pu, hu⟩ := h.run
  refine (pg_tup (n := is.length) hc pu h.len hst).to fun v σ H Q ⟨g, t, τ, Hf, d, R, F⟩ => ?_
  unfold aTup at F
  cases d with
  | tup ds =>
    dsimp only at F
    have r := R.topF
    cases r with
    | tup h1 h2 h3 =>
      by_cases hl : ds.length = is.length
      · rw [if_pos hl] at F
        exact ⟨_, _, rfl, R.rl.sub.t h1, by rw [← h2]; exact hl, hu ds _ g t σ τ Hf H Q ⟨h2, h3⟩ hl (R.drop (by rfl)) F⟩
      · rw [if_neg hl] at F; exact F.elim
  | _ => exact F.elim
def dAsg (as : AG) (me : ME) : MS := fun g => (me g).toS fun o g1 => match as o.frz g1 with
  | some g2 => .nx g2
  | none => .no
theorem ls_asg {tg e : Expr} {as : AG} {me : ME} (he : LE X E W e me) {ix : List Nat} (hg : LG X E tg ix as) (hs : swapsWithSole [tg] e pos.line X.env = pure false := by rfl) (hw : swappedStores [tg] e X.env = pure none := by rfl)
    (h1 : (assignEach [tg] X.env).map (·.2) = [assign tg X.env] := by rfl) : LS X E W (.Assign [tg] e pos) (dAsg as me) := by
  refine (ps_asg he hg hs hw h1).to fun D σ H ⟨g, t, τ, Hf, R, F⟩ => ?_
  refine rdE_moreS R F fun v g2 Hf2 H2 o2 _ R2 F2 => ?_
  obtain ⟨Hf3, x3, R3⟩ := R2.freezeT
  refine ⟨g2, t, τ, Hf3, o2.frz, R3, ?_⟩
  cases e : as o2.frz g2 with
  | none => rw [e] at F2; exact F2.elim
  | some g3 => rw [e] at F2; exact fun σ' Hf' H' R' _ _ => F2 σ' Hf' H' R'
/-- a, b = e1, e2: both may be handed over -/
def dPar (i j : Nat) (ma : MA) : MS := fun g => (ma g).toS fun os g1 => match os with
  | [a, b] => .nx ((g1.set i (some a)).set j (some b))
  | _ => .no
theorem rdA_moreS {ma : MA} {k : List O → MS} {D : Ends} {Q2 : List V → Hp → Prop} (R : Rdy K E g t σ τ Hf H) (F : FinS K E W ((ma g).toS k) t τ D)
    (hQ : ∀ vs g2 Hf2 H2 os, ma g = .ok os g2 → os.length = vs.length → Rdy K E g2 (t ++ os.map some) σ (τ ++ vs.map some) Hf2 H2 → FinS K E W (k os g2) t τ D → Q2 vs H2) : rdA K E W ma σ H Q2 := by
  refine ⟨g, t, τ, Hf, R, ?_⟩
  cases e : ma g with
  | ok o2 g2 =>
    rw [e] at F
    exact fun v Hf' H' hv R' => hQ v g2 Hf' H' o2 e hv R' F
  | ex c fs g' => rw [e] at F; exact fun d Hf' H' R' x => F d σ Hf' H' R' x
  | no => rw [e] at F; exact F
theorem ls_par {i j : Nat} {x y : Str} {a b : Expr} {ma : MA} {px py pt : Pos} {kt k2 pt2} (hpi : Off E i) (hpj : Off E j) (hc : X.calm = true) (hN : X.N.Nodup) (hi : X.N[i]? = some x) (hj : X.N[j]? = some y) (hij : i ≠ j)
    (hx : X.env.scope.names.lookup x = some .local) (hy : X.env.scope.names.lookup y = some .local) (ha : LA X E W [a, b] ma)
    (hw : swappedStores [.Tuple [.Name x px, .Name y py] kt pt] (.Tuple [a, b] k2 pt2) X.env = pure (some [x, y]))
    (hs : swapsWithSole [.Tuple [.Name x px, .Name y py] kt pt] (.Tuple [a, b] k2 pt2) pos.line X.env = pure false := by rfl) :
    LS X E W (.Assign [.Tuple [.Name x px, .Name y py] kt pt] (.Tuple [a, b] k2 pt2) pos) (dPar i j ma) := by
  refine (ps_par hc hN hi hj hij hx hy ha hw hs).to fun D σ H ⟨g, t, τ, Hf, R, F⟩ => ?_
  refine rdA_moreS R F fun vs g1 Hf1 H1 os _ hl R1 F1 => ?_
  match os, vs, hl with
  | [a, b], [v, w], _ =>
    refine ⟨v, w, rfl, F1 _ Hf1 _ ?_⟩
    have R2 : Rdy X.K E g1 (t ++ [some a] ++ [some b]) σ (τ ++ [some v] ++ [some w]) Hf1 H1 := by simpa using R1
    have R3 := (R2.store hpj).store hpi
    rw [List.set_comm _ _ hij, List.set_comm (l := σ) _ _ hij]
    exact R3
  | [], [], _ => exact F1.elim
  | [_], [_], _ => exact F1.elim
  | _ :: _ :: _ :: _, _ :: _ :: _ :: _, _ => exact F1.elim

/-! ### blocks -/
def dNx : MS := fun g => .nx g
def dSeq (a b : MS) : MS := fun g => (a g).then_ b
theorem lb_nil : LB X E W [] dNx := pss_nil.to fun D σ H ⟨g, t, τ, Hf, R, F⟩ => F σ Hf H R
theorem rd_seq {m1 m2 : MS} {D : Ends} (h : rdS X.K E W (dSeq m1 m2) D σ H) : tSeq (rdS X.K E W m1) (rdS X.K E W m2) D σ H := by
  obtain ⟨g, t, τ, Hf, R, F⟩ := h
  refine ⟨g, t, τ, Hf, R, ?_⟩
  unfold dSeq at F
  cases e : m1 g with
  | nx g' => rw [e] at F; exact fun σ' Hf' H' R' => ⟨g', t, τ, Hf', R', F⟩
  | rt o g' => rw [e] at F; exact F
  | bk g' => rw [e] at F; exact F
  | ct g' => rw [e] at F; exact F
  | ex c fs g' => rw [e] at F; exact F
  | no => rw [e] at F; exact F
theorem lb_cons {st : Stmt} {rest : List Stmt} {m1 m2 : MS} (h1 : LS X E W st m1) (h2 : LB X E W rest m2) : LB X E W (st :: rest) (dSeq m1 m2) := (pss_cons h1 h2).to fun _ _ _ h => rd_seq h
theorem lb_one {st : Stmt} {m1 : MS} (h1 : LS X E W st m1) : LB X E W [st] m1 := pss_one h1
/-- what is never reached -/
def dNo : MS := fun _ => .no
theorem ls_never {st : Stmt} : LS X E W st dNo := ps_never.to fun D σ H ⟨g, t, τ, Hf, R, F⟩ => F.elim
theorem ls_pass : LS X E W (.Pass pos) dNx := ps_pass.to fun D σ H ⟨g, t, τ, Hf, R, F⟩ => F σ Hf H R
def dBk : MS := fun g => .bk g
def dCt : MS := fun g => .ct g
theorem ls_break : LS X E W (.Break pos) dBk := ps_break.to fun D σ H ⟨g, t, τ, Hf, R, F⟩ => F σ Hf H R
theorem ls_continue : LS X E W (.Continue pos) dCt := ps_continue.to fun D σ H ⟨g, t, τ, Hf, R, F⟩ => F σ Hf H R
def dDrop (me : ME) : MS := fun g => (me g).toS fun _ g1 => .nx g1
theorem ls_expr {e : Expr} {me : ME} (he : LE X E W e me) (hs : swapsWith e none pos.line X.env = pure false := by rfl) : LS X E W (.Expr e pos) (dDrop me) :=
  (ps_expr he hs).to fun D σ H ⟨g, t, τ, Hf, R, F⟩ => rdE_moreS R F fun v g2 Hf2 H2 o2 _ R2 F2 => F2 _ _ _ (R2.drop (by rfl))
def dRet (me : ME) : MS := fun g => (me g).toS fun o g1 => .rt o g1
theorem ls_ret {e : Expr} {me : ME} (he : LE X E W e me) : LS X E W (.Return (some e) pos) (dRet me) :=
  (ps_ret he).to fun D σ H ⟨g, t, τ, Hf, R, F⟩ => rdE_moreS R F fun v g2 Hf2 H2 o2 _ R2 F2 => F2 _ _ _ _ R2
def dRetN : MS := fun g => .rt (.fz .non) g
theorem ls_retN : LS X E W (.Return none pos) dRetN := ps_retN.to fun D σ H ⟨g, t, τ, Hf, R, F⟩ => F _ _ _ _ (R.push_fz .non)
def dIfS (mt : MT) (ma mb : MS) : MS := fun g => (mt g).toS fun b g1 => if b = true then ma g1 else mb g1
theorem ls_if {c : Expr} {a b : List Stmt} {mt : MT} {ma mb : MS} (hc : LT X E W c mt) (ha : LB X E W a ma) (hb : LB X E W b mb) : LS X E W (.If c a b pos) (dIfS mt ma mb) := by
  refine (ps_if hc ha hb).to fun D σ H ⟨g, t, τ, Hf, R, F⟩ => ?_
  refine rdT_moreS R F fun g2 Hf2 H2 b _ R2 F2 => ?_
  cases b with
  | true => exact ⟨g2, t, τ, Hf2, R2, F2⟩
  | false => exact ⟨g2, t, τ, Hf2, R2, F2⟩

/-! ### while -/
def turnS (r : RS) (k : MS) : RS := match r with
  | .nx g2 => k g2
  | .ct g2 => k g2
  | .bk g2 => .nx g2
  | .rt o g2 => .rt o g2
  | .ex c fs g2 => .ex c fs g2
  | .no => .no
@[simp] theorem turnS_nx (g : Gm) (k : MS) : turnS (.nx g) k = k g := rfl
@[simp] theorem turnS_ct (g : Gm) (k : MS) : turnS (.ct g) k = k g := rfl
@[simp] theorem turnS_bk (g : Gm) (k : MS) : turnS (.bk g) k = .nx g := rfl
@[simp] theorem turnS_rt (o : O) (g : Gm) (k : MS) : turnS (.rt o g) k = .rt o g := rfl
@[simp] theorem turnS_ex (c : Addr) (fs : List (Str × D)) (g : Gm) (k : MS) : turnS (.ex c fs g) k = .ex c fs g := rfl
@[simp] theorem turnS_no (k : MS) : turnS .no k = .no := rfl
def wN (c : MT) (b : MS) : Nat → MS
  | 0, _ => .no
  | n + 1, g => (c g).toS fun r g1 => if r = true then turnS (b g1) (wN c b n) else .nx g1
theorem wN_mono {c : MT} {b : MS} : ∀ {n : Nat} {g : Gm}, wN c b n g ≠ .no → wN c b (n + 1) g = wN c b n g
  | 0, g, h => absurd rfl h
  | n + 1, g, h => by
    have e1 : wN c b (n + 1) g = (c g).toS fun r g1 => if r = true then turnS (b g1) (wN c b n) else .nx g1 := rfl
    have e2 : wN c b (n + 2) g = (c g).toS fun r g1 => if r = true then turnS (b g1) (wN c b (n + 1)) else .nx g1 := rfl
    rw [e1] at h
    rw [e1, e2]
    cases e : c g with
    | ok r g1 =>
      rw [e] at h
      simp only [RE.toS_ok] at h ⊢
      cases r with
      | false => rfl
      | true =>
        simp only [if_true] at h ⊢
        cases e3 : b g1 with
        | nx g2 => rw [e3] at h; exact wN_mono h
        | ct g2 => rw [e3] at h; exact wN_mono h
        | _ => rfl
    | _ => rfl
theorem wN_le {c : MT} {b : MS} {g : Gm} {n : Nat} (h : wN c b n g ≠ .no) : ∀ k, wN c b (n + k) g = wN c b n g
  | 0 => rfl
  | k + 1 => by rw [← Nat.add_assoc, wN_mono (by rw [wN_le h k]; exact h), wN_le h k]
open Classical in
noncomputable def dWhile (c : MT) (b : MS) : MS := fun g => if h : ∃ n, wN c b n g ≠ .no then wN c b h.choose g else .no
theorem dWhile_eq {c : MT} {b : MS} {g : Gm} {r : RS} (n : Nat) (h : wN c b n g = r) (hr : r ≠ .no) : dWhile c b g = r := by
  have hx : ∃ n, wN c b n g ≠ .no := ⟨n, by rw [h]; exact hr⟩
  unfold dWhile
  rw [dif_pos hx]
  have hc := hx.choose_spec
  have h1 : wN c b (n + hx.choose) g = wN c b n g := wN_le (by rw [h]; exact hr) _
  have h2 : wN c b (hx.choose + n) g = wN c b hx.choose g := wN_le hc n
  rw [Nat.add_comm] at h1
  rw [← h2, h1, h]
theorem ls_while {c : Expr} {body : List Stmt} {mc : MT} {mb : MS} (hp : PassesOwn (model X.prog X.w) X.A X.env X.xe) (hc : LT X E W c mc) (hb : LB X E W body mb) : LS X E W (.While c body [] pos) (dWhile mc mb) := by
  refine (ps_while hp hc hb).to fun D σ H ⟨g, t, τ, Hf, R, F⟩ => ?_
  unfold dWhile at F
  split at F
  · rename_i hx
    refine ⟨fun k σ' H' => ∃ g Hf, Rdy X.K E g t σ' τ Hf H' ∧ FinS X.K E W (wN mc mb k g) t τ D, ⟨_, g, Hf, R, F⟩, ?_⟩
    rintro k σ1 H1 ⟨g1, Hf1, R1, F1⟩
    cases k with
    | zero => exact F1.elim
    | succ n =>
      refine rdT_moreS R1 F1 fun g2 Hf2 H2 r _ R2 F2 => ?_
      cases r with
      | false => exact F2 σ1 Hf2 H2 R2
      | true =>
        simp only [if_true] at F2 ⊢
        refine ⟨fun σ' H' => ∃ g Hf, Rdy X.K E g t σ' τ Hf H' ∧ FinS X.K E W (wN mc mb n g) t τ D, fun σ' H' q => ⟨n, Nat.lt_succ_self n, q⟩, g2, t, τ, Hf2, R2, ?_⟩
        cases e : mb g2 with
        | nx g3 => rw [e] at F2; exact fun σ' Hf' H' R' => ⟨g3, Hf', R', F2⟩
        | ct g3 => rw [e] at F2; exact fun σ' Hf' H' R' => ⟨g3, Hf', R', F2⟩
        | bk g3 => rw [e] at F2; exact F2
        | rt o g3 => rw [e] at F2; exact F2
        | ex c fs g3 => rw [e] at F2; exact F2
        | no => rw [e] at F2; exact F2
  · exact F.elim

/-! ### for -/
/-- things in the middle dropped -/
theorem Rdy.mid {t2 : Gm} {τ2 : L2.St} {o : O} {v : V} (R : Rdy K E g (t ++ t2 ++ [some o]) σ (τ ++ τ2 ++ [some v]) Hf H) (hl : t2.length = τ2.length) : Rdy K E g (t ++ [some o]) σ (τ ++ [some v]) Hf H := by
  have hg := R.lg
  have ht := R.lt
  simp only [List.length_append, List.length_singleton] at ht
  refine ⟨hg, R.pb, ?_⟩
  have top : (g ++ (t ++ t2 ++ [some o]))[(g ++ (t ++ t2)).length]? = some (some o) := by rw [← List.append_assoc]; simp
  have lx : (g ++ (t ++ t2)).length = (σ ++ (τ ++ τ2)).length := by simp only [List.length_append]; omega
  have topS : (σ ++ (τ ++ τ2 ++ [some v]))[(g ++ (t ++ t2)).length]? = some (some v) := by rw [lx, ← List.append_assoc]; simp
  have ly : (g ++ t).length = (σ ++ τ).length := by simp only [List.length_append]; omega
  have big1 : ∀ {j : Nat}, j < (g ++ t).length → (g ++ (t ++ t2 ++ [some o]))[j]? = (g ++ t)[j]? := fun {j} hj => by
    have : g ++ (t ++ t2 ++ [some o]) = (g ++ t) ++ (t2 ++ [some o]) := by simp
    rw [this, List.getElem?_append_left hj]
  have big2 : ∀ {j : Nat}, j < (g ++ t).length → (σ ++ (τ ++ τ2 ++ [some v]))[j]? = (σ ++ τ)[j]? := fun {j} hj => by
    have : σ ++ (τ ++ τ2 ++ [some v]) = (σ ++ τ) ++ (τ2 ++ [some v]) := by simp
    rw [this, List.getElem?_append_left (by omega)]
  have key : ∀ {j : Nat} {o' : O}, (g ++ (t ++ [some o]))[j]? = some (some o') → (j < (g ++ t).length ∧ (g ++ t)[j]? = some (some o')) ∨ (j = (g ++ t).length ∧ o' = o) := fun {j o'} e => by
    rw [← List.append_assoc] at e
    by_cases hj : j < (g ++ t).length
    · rw [List.getElem?_append_left hj] at e; exact .inl ⟨hj, e⟩
    · rw [List.getElem?_append_right (by omega)] at e
      have hjl : j - (g ++ t).length < 1 := by
        obtain ⟨l, _⟩ := List.getElem?_eq_some_iff.mp e
        simpa using l
      have h0 : j - (g ++ t).length = 0 := by omega
      rw [h0] at e
      simp only [List.getElem?_cons_zero, Option.some.injEq] at e
      exact .inr ⟨by omega, e.symm⟩
  have kS : ∀ {j : Nat}, j < (g ++ t).length → (σ ++ (τ ++ [some v]))[j]? = (σ ++ τ)[j]? := fun {j} hj => by rw [← List.append_assoc, List.getElem?_append_left (by omega)]
  have kT : (σ ++ (τ ++ [some v]))[(g ++ t).length]? = some (some v) := by rw [ly, ← List.append_assoc]; simp
  refine R.rl.map (f := fun j => if j = (g ++ t).length then (g ++ (t ++ t2)).length else j) (by simp only [List.length_append, List.length_singleton]; omega) (fun j o' e => ?_) (fun j k o1 o2 e1 e2 _ _ ef => ?_) (fun p h => ?_)
  · rcases key e with ⟨hj, e2⟩ | ⟨rfl, rfl⟩
    · rw [if_neg (by omega)]; exact ⟨by rw [big1 hj]; exact e2, by rw [kS hj, big2 hj]⟩
    · rw [if_pos rfl]; exact ⟨top, by rw [kT, topS]⟩
  · have le1 : (g ++ t).length ≤ (g ++ (t ++ t2)).length := by simp only [List.length_append]; omega
    rcases key e1 with ⟨h1, _⟩ | ⟨h1, _⟩
    · rcases key e2 with ⟨h2, _⟩ | ⟨h2, _⟩
      · rw [if_neg (by omega), if_neg (by omega)] at ef; exact ef
      · rw [if_neg (by omega), if_pos h2] at ef; omega
    · rcases key e2 with ⟨h2, _⟩ | ⟨h2, _⟩
      · rw [if_pos h1, if_neg (by omega)] at ef; omega
      · omega
  · have h1 := R.rl.pin p h
    have h2 := R.pb p h
    rw [List.getElem?_append_left h2] at h1 ⊢
    exact h1
/-- J walks the items ds, while the things ks (their values kv) are kept -/
structure Walks (K : PySem.W.Frag) (J : It) (ds : List D) (ks : List D) (kv : List V) : Prop where
  go : ∀ i Hf H, i < ds.length → Ex Hf H → RepFs K Hf ks kv → J.go i H
  stop : ∀ Hf H, Ex Hf H → RepFs K Hf ks kv → J.stop ds.length H
  yld : ∀ i Hf H x H' d, ds[i]? = some d → Ex Hf H → RepFs K Hf ks kv → J.yld i H x H' → (H' = H ∧ RepF K Hf d x) ∨ ∃ p u, H p = none ∧ H' = upd H p u ∧ RepF K (upd Hf p u) d x
abbrev MI := Gm → RE (List D)
def FinI (K : PySem.W.Frag) (E : Ent) (W : WX) (r : RE (List D)) (t : Gm) (τ σ : L2.St) (R : It → Hp → Prop) : Prop := match r with
  | .ok ds g' => ∀ J ks kv Hf' H', ks.length = kv.length → Rdy K E g' (t ++ ks.map fun d => some (.fz d)) σ (τ ++ kv.map some) Hf' H' → Walks K J ds ks kv → R J H'
  | .ex c fs g' => ∀ d Hf' H', Rdy K E g' t σ τ Hf' H' → ExR K Hf' H' fs d → W (.ref c) d σ H'
  | .no => False
def rdI (K : PySem.W.Frag) (E : Ent) (W : WX) (m : MI) : TI := fun σ H R => ∃ g t τ Hf, Rdy K E g t σ τ Hf H ∧ FinI K E W (m g) t τ σ R
abbrev LI (X : Cx) (E : Ent) (W : WX) (tg iter : Expr) (m : MI) : Prop := PI X tg iter (rdI X.K E W m)
theorem _root_.L2.PI.to {X : Cx} {tg e : Expr} {t t' : TI} (h : PI X tg e t) (f : ∀ σ H R, t' σ H R → t σ H R) : PI X tg e t' := ⟨fun pins s σ H R I q => h.run pins s σ H R I (f σ H R q)⟩
theorem Rdy.keep {ks : List D} {kv : List V} (R : Rdy K E g (t ++ ks.map fun d => some (.fz d)) σ (τ ++ kv.map some) Hf H) (hl : ks.length = kv.length) : RepFs K Hf ks kv := by
  have ht := R.lt
  simp only [List.length_append, List.length_map] at ht
  refine ⟨hl, fun i d v e1 e2 => ?_⟩
  obtain ⟨u, h1, h2⟩ := R.hand (i := t.length + i) (o := .fz d) (by rw [List.getElem?_append_right (by omega)]; simp [e1])
  rw [show t.length + i = τ.length + i by omega, List.getElem?_append_right (by omega)] at h1
  simp [e2] at h1
  subst h1
  cases h2 with
  | fz r => exact r
def fL (as : AG) (b : MS) : List D → MS
  | [], g => .nx g
  | d :: ds, g => match as d g with
    | some g1 => turnS (b g1) (fL as b ds)
    | none => .no
def dFor (mi : MI) (as : AG) (b : MS) : MS := fun g => (mi g).toS fun ds g1 => fL as b ds g1
theorem ls_for {tg iter : Expr} {body : List Stmt} {mi : MI} {as : AG} {mb : MS} (hp : PassesOwn (model X.prog X.w) X.A X.env X.xe) (hc : X.calm = true) {ix : List Nat} (hi : LI X E W tg iter mi) (hg : LG X E tg ix as) (hb : LB X E W body mb)
    (hs : ∀ x, foldedSetIterable iter X.env x = pure x := by intro _; rfl) : LS X E W (.For tg iter body [] pos) (dFor mi as mb) := by
  refine (ps_for hp hc hi hg hb hs).to fun D σ H ⟨g, t, τ, Hf, R, F⟩ => ?_
  refine ⟨g, t, τ, Hf, R, ?_⟩
  unfold dFor at F
  cases e : mi g with
  | no => rw [e] at F; exact F
  | ex c fs g' => rw [e] at F; exact fun d Hf' H' R' x => F d σ Hf' H' R' x
  | ok ds g1 =>
    rw [e] at F
    intro J ks kv Hf1 H1 hk R1 wk
    have hkl : (ks.map fun d => some (O.fz d)).length = (kv.map some).length := by simpa using hk
    refine ⟨fun i m σ' H' => m = ds.length - i ∧ i ≤ ds.length ∧ ∃ g Hf', Rdy X.K E g (t ++ ks.map fun d => some (.fz d)) σ' (τ ++ kv.map some) Hf' H' ∧ FinS X.K E W (fL as mb (ds.drop i) g) t τ D, ⟨ds.length, by simp, Nat.zero_le _, g1, Hf1, R1, by simpa using F⟩, ?_⟩
    rintro i m σ2 H2 ⟨rfl, hi, g2, Hf2, R2, F2⟩
    have kp := R2.keep hk
    by_cases hlt : i < ds.length
    · refine .inr ⟨wk.go i Hf2 H2 hlt R2.rl.sub kp, fun σ' H' => ∃ g Hf', Rdy X.K E g (t ++ ks.map fun d => some (.fz d)) σ' (τ ++ kv.map some) Hf' H' ∧ FinS X.K E W (fL as mb (ds.drop (i + 1)) g) t τ D, fun σ' H' q => ⟨ds.length - (i + 1), by omega, rfl, hlt, q⟩, fun x H' y => ?_⟩
      have ed : ds[i]? = some ds[i] := by simp [hlt]
      rw [List.drop_eq_getElem_cons hlt] at F2
      have next : ∀ Hf3, Rdy X.K E g2 (t ++ (ks.map fun d => some (.fz d)) ++ [some (.fz ds[i])]) σ2 (τ ++ kv.map some ++ [some x]) Hf3 H' → rdG X.K E ix as x σ2 H' fun σ3 H3 => rdS X.K E W mb { D with nx := fun σ' H' => ∃ g Hf', Rdy X.K E g (t ++ ks.map fun d => some (.fz d)) σ' (τ ++ kv.map some) Hf' H' ∧ FinS X.K E W (fL as mb (ds.drop (i + 1)) g) t τ D, ct := fun σ' H' => ∃ g Hf', Rdy X.K E g (t ++ ks.map fun d => some (.fz d)) σ' (τ ++ kv.map some) Hf' H' ∧ FinS X.K E W (fL as mb (ds.drop (i + 1)) g) t τ D, bk := D.nx } σ3 H3 := fun Hf3 R3 => by
        refine ⟨g2, _, _, Hf3, ds[i], R3, ?_⟩
        unfold fL at F2
        cases e2 : as ds[i] g2 with
        | none => rw [e2] at F2; exact F2.elim
        | some g3 =>
          rw [e2] at F2
          intro σ4 Hf4 H4 R4 _ _
          have F3 : FinS X.K E W (turnS (mb g3) (fL as mb (ds.drop (i + 1)))) t τ D := F2
          refine ⟨g3, _, _, Hf4, R4, ?_⟩
          cases e3 : mb g3 with
          | nx g4 => rw [e3] at F3; exact fun σ' Hf' H' R' => ⟨g4, Hf', R', F3⟩
          | ct g4 => rw [e3] at F3; exact fun σ' Hf' H' R' => ⟨g4, Hf', R', F3⟩
          | bk g4 => rw [e3] at F3; exact fun σ' Hf' H' R' => F3 σ' Hf' H' (R'.drop hkl)
          | rt o g4 => rw [e3] at F3; exact fun v σ' Hf' H' R' => F3 v σ' Hf' H' (R'.mid hkl)
          | ex c fs g4 => rw [e3] at F3; exact fun d σ' Hf' H' R' x => F3 d σ' Hf' H' (R'.drop hkl) x
          | no => rw [e3] at F3; exact F3
      rcases wk.yld i Hf2 H2 x H' _ ed R2.rl.sub kp y with ⟨rfl, r⟩ | ⟨p, u, hp, rfl, r⟩
      · exact next Hf2 (R2.push_fz r)
      · exact next _ ((R2.allocF hp).push_fz r)
    · have ei : i = ds.length := by omega
      subst ei
      refine .inl ⟨wk.stop Hf2 H2 R2.rl.sub kp, ?_⟩
      rw [List.drop_length] at F2
      exact F2 σ2 Hf2 H2 (R2.drop hkl)
end
end L3
end

section
namespace L3
open PySem L2

section
variable {X : Cx} {E : Ent} {W : WX} {K : PySem.W.Frag} {g t : Gm} {σ τ : L2.St} {Hf H : Hp} {pos : Pos}

/-- what an operation gives: a value, a new owned thing, a new frozen thing -/
inductive Yld (K : PySem.W.Frag) (Hf H : Hp) : O → V → Hp → Hp → Prop
  | val {d v} : RepF K Hf d v → Yld K Hf H (.fz d) v Hf H
  | newO {o p u} : H p = none → RepO K Hf (upd H p u) o (.ref p) → Yld K Hf H o (.ref p) Hf (upd H p u)
  | newF {d p u} : H p = none → RepF K (upd Hf p u) d (.ref p) → Yld K Hf H (.fz d) (.ref p) (upd Hf p u) (upd H p u)
theorem Rdy.yld {o : O} {v : V} {Hf' H' : Hp} (R : Rdy K E g t σ τ Hf H) (y : Yld K Hf H o v Hf' H') : Rdy K E g (t ++ [some o]) σ (τ ++ [some v]) Hf' H' := by
  cases y with
  | val r => exact R.push_fz r
  | newO hp r => exact R.push_new hp r
  | newF hp r => exact R.push_newF hp r
def optO (r : Option O) (g : Gm) : RE O := match r with
  | some o => .ok o g
  | none => .no
@[simp] theorem optO_some (o : O) (g : Gm) : optO (some o) g = .ok o g := rfl
@[simp] theorem optO_none (g : Gm) : optO none g = .no := rfl
def PureY (K : PySem.W.Frag) (r : R2) (φ : D → D → Option O) : Prop :=
  ∀ (Hf H : Hp) (x y : D) (o : O) (u v : V) (Q : VK), Ex Hf H → φ x y = some o → RepF K Hf x u → RepF K Hf y v → (∀ z Hf' H', Yld K Hf H o z Hf' H' → Q z H') → r u v H Q
def dOpY (φ : D → D → Option O) (ma mb : ME) : ME := fun g => (ma g).bind fun a g1 => (mb g1).bind fun b g2 => optO (φ a.frz b.frz) g2
theorem le_opY {a b : Expr} {ma mb : ME} {op : Operator} {r : R2} {φ : D → D → Option O} (ho : OpR X (binaryOp op) r) (hφ : PureY X.K r φ) (ha : LE X E W a ma) (hb : LE X E W b mb) : LE X E W (.BinOp a op b pos) (dOpY φ ma mb) := by
  refine (pe_op ho ha hb).to fun σ H Q ⟨g, t, τ, Hf, R, F⟩ => ?_
  refine rdE_more (t2 := []) (τ2 := []) rfl (by simpa using R) F fun v1 g1 Hf1 H1 o1 _ R1 F1 => ?_
  simp only [List.append_nil] at R1
  refine rdE_more (t2 := [some o1]) (τ2 := [some v1]) rfl R1 F1 fun v2 g2 Hf2 H2 o2 _ R2 F2 => ?_
  obtain ⟨Hf3, _, x3, r1, r2, R3⟩ := R2.freeze2
  cases e : φ o1.frz o2.frz with
  | none => rw [e] at F2; exact F2.elim
  | some d =>
    rw [e] at F2
    exact hφ Hf3 H2 _ _ d _ _ Q x3 e r1 r2 fun z Hf' H' y => F2 z Hf' H' (R3.yld y)
/-- xs + ys, two lists; t + u, two tuples -/
def fCatL : D → D → Option O
  | .lst xs, .lst ys => if xs.length + ys.length ≤ big then some (.ol (xs ++ ys)) else none
  | _, _ => none
theorem y_catL : PureY K rCat fCatL := by
  intro Hf H x y o u v Q s e r1 r2 q
  cases x <;> cases y <;> simp only [fCatL] at e <;> try cases e
  split at e
  · rename_i hb
    cases e
    cases r1 with
    | lst h1 h2 h3 =>
      cases r2 with
      | lst k1 k2 k3 =>
        have r := RepFs.append ⟨h2, h3⟩ ⟨k2, k3⟩
        exact ⟨_, _, _, _, rfl, rfl, s _ _ h1, s _ _ k1, by rw [← h2, ← k2, ← big_eq]; exact hb, fun p hp => q _ _ _ (.newO hp (.ol upd_same r))⟩
  · cases e
/-- .. of a slot's list on the left, which stays as it is -/
def dCatS (i : Nat) (mb : ME) : ME := fun g => match g[i]? with
  | some (some _) => (mb g).bind fun b g1 => match g1[i]? with
    | some (some o) => optO (fCatL o.frz b.frz) g1
    | _ => .no
  | _ => .no
theorem cat_ok {o : O} {v w : V} {x : D} {o' : O} {Q : VK} (s : Ex Hf H) (r : RepO K Hf H o v) (rw' : RepF K Hf x w) (e : fCatL o.frz x = some o') (q : ∀ z Hf' H', Yld K Hf H o' z Hf' H' → Q z H') : rCat v w H Q := by
  cases r with
  | fz r => exact y_catL Hf H _ _ o' v w Q s e r rw' q
  | ol h1 h2 =>
    cases x <;> simp only [O.frz, fCatL] at e <;> try cases e
    split at e
    · rename_i hb
      cases e
      cases rw' with
      | lst k1 k2 k3 =>
        have r := RepFs.append h2 ⟨k2, k3⟩
        exact ⟨_, _, _, _, rfl, rfl, h1, s _ _ k1, by rw [← h2.1, ← k2, ← big_eq]; exact hb, fun p hp => q _ _ _ (.newO hp (.ol upd_same r))⟩
    · cases e
  | _ => cases x <;> cases e
theorem le_catS {x : Str} {i : Nat} {b : Expr} {mb : ME} {p2 : Pos} (hN : X.N[i]? = some x) (hv : Vis X.env.scope x) (hb : LE X E W b mb) (hd : (x == ("__debug__" : Str)) = false := by decide) (hcd : (x == ("__classdict__" : Str)) = false := by decide) :
    LE X E W (.BinOp (.Name x p2) .Add b pos) (dCatS i mb) := by
  refine (pe_op op_cat (pe_var hN hv hd hcd) hb).to fun σ H Q ⟨g, t, τ, Hf, R, F⟩ => ?_
  unfold dCatS at F
  cases e0 : g[i]? with
  | none => rw [e0] at F; exact F.elim
  | some s0 =>
    cases s0 with
    | none => rw [e0] at F; exact F.elim
    | some o0 =>
      rw [e0] at F
      dsimp only at F
      obtain ⟨v, hv1, _⟩ := R.slot e0
      refine ⟨v, hv1, ?_⟩
      refine rdE_more (t2 := []) (τ2 := []) rfl (by simpa using R) F fun v1 g1 Hf1 H1 o1 _ R1 F1 => ?_
      simp only [List.append_nil] at R1
      obtain ⟨Hf2, x2, x3, r2, R2⟩ := R1.freeze1
      cases e : g1[i]? with
      | none => rw [e] at F1; exact F1.elim
      | some s =>
        cases s with
        | none => rw [e] at F1; exact F1.elim
        | some o =>
          obtain ⟨v', h1, h2⟩ := R2.slot e
          rw [hv1] at h1; cases h1
          rw [e] at F1
          dsimp only at F1
          cases e2 : fCatL o.frz o1.frz with
          | none => rw [e2] at F1; exact F1.elim
          | some d =>
            rw [e2] at F1
            exact cat_ok R2.rl.sub h2 r2 e2 fun z Hf' H' y => F1 z Hf' H' (R2.yld y)

/-! ### slices -/
/-- the bounds of a slice -/
abbrev MO := Gm → RE (Option Int)
def FinO (K : PySem.W.Frag) (E : Ent) (W : WX) (r : RE (Option Int)) (t : Gm) (τ σ : L2.St) (Q : Option Int → Hp → Prop) : Prop := match r with
  | .ok b g' => ∀ Hf' H', Rdy K E g' t σ τ Hf' H' → Q b H'
  | .ex c fs g' => ∀ d Hf' H', Rdy K E g' t σ τ Hf' H' → ExR K Hf' H' fs d → W (.ref c) d σ H'
  | .no => False
def rdO (K : PySem.W.Frag) (E : Ent) (W : WX) (m : MO) : TO := fun σ H Q => ∃ g t τ Hf, Rdy K E g t σ τ Hf H ∧ FinO K E W (m g) t τ σ Q
abbrev LO (X : Cx) (E : Ent) (W : WX) (e : Option Expr) (m : MO) : Prop := PO X e (rdO X.K E W m)
theorem _root_.L2.PO.to {X : Cx} {e : Option Expr} {t t' : TO} (h : PO X e t) (f : ∀ σ H Q, t' σ H Q → t σ H Q) : PO X e t' := by
  obtain ⟨h⟩ := h
  exact ⟨fun pins s σ H Q I q => h pins s σ H Q I (f _ _ _ q)⟩
def dNoP : MO := fun g => .ok none g
def asInt : O → Option Int
  | .fz (.int i) => some i
  | _ => none
def dPart (m : ME) : MO := fun g => (m g).bind fun o g1 => match asInt o with
  | some i => .ok (some i) g1
  | none => .no
theorem asInt_eq {o : O} {i : Int} (h : asInt o = some i) : o = .fz (.int i) := by
  cases o <;> simp [asInt] at h
  rename_i d
  cases d <;> simp at h
  subst h; rfl
theorem lo_none : LO X E W none dNoP := po_none.to fun σ H Q ⟨g, t, τ, Hf, R, F⟩ => F Hf H R
theorem lo_some {e : Expr} {m : ME} (h : LE X E W e m) : LO X E W (some e) (dPart m) := by
  refine (po_some h).to fun σ H Q ⟨g, t, τ, Hf, R, F⟩ => ?_
  refine ⟨g, t, τ, Hf, R, ?_⟩
  unfold dPart at F
  cases e : m g with
  | no => rw [e] at F; exact F
  | ex c fs g' => rw [e] at F; exact F
  | ok o g1 =>
    rw [e] at F
    intro v Hf' H' R'
    rw [RE.bind_ok] at F
    cases e2 : asInt o with
    | none => rw [e2] at F; exact F.elim
    | some i =>
      rw [e2] at F
      obtain rfl := asInt_eq e2
      cases R'.topF
      exact ⟨i, rfl, F _ _ (R'.drop (by rfl))⟩
def cutD (xs : List D) (lo hi : Option Int) : List D := (xs.drop (HT.sIx xs.length 0 lo)).take (HT.sIx xs.length xs.length hi - HT.sIx xs.length 0 lo)
theorem cut_rep {xs : List D} {vs : List V} (r : RepFs K H xs vs) (lo hi : Option Int) : RepFs K H (cutD xs lo hi) (cutV vs lo hi) := by
  unfold cutD cutV
  rw [r.1]
  exact (r.drop _).take _
def PureSl (K : PySem.W.Frag) (r : V → Option Int → Option Int → Hp → VK → Prop) (φ : D → Option Int → Option Int → Option O) : Prop :=
  ∀ (Hf H : Hp) (x : O) (lo hi : Option Int) (o : O) (u : V) (Q : VK), Ex Hf H → φ x.frz lo hi = some o → RepO K Hf H x u → (∀ z Hf' H', Yld K Hf H o z Hf' H' → Q z H') → r u lo hi H Q
def fSlL : D → Option Int → Option Int → Option O
  | .lst xs, lo, hi => some (.ol (cutD xs lo hi))
  | .sq xs, lo, hi => some (.ol (cutD xs lo hi))
  | _, _, _ => none
def fSlS : D → Option Int → Option Int → Option O
  | .str z, lo, hi => if z.length ≤ big then some (.fz (.str (cutS z lo hi))) else none
  | _, _, _ => none
def fSlT : D → Option Int → Option Int → Option O
  | .tup xs, lo, hi => if HT.sIx xs.length 0 lo = 0 ∧ HT.sIx xs.length xs.length hi = xs.length then none else some (.fz (.tup (cutD xs lo hi)))
  | _, _, _ => none
theorem s_list : PureSl K (rSlL K) fSlL := by
  intro Hf H x lo hi o u Q s e r q
  have go : ∀ {xs : List D} {vs : List V} {a : Addr}, o = .ol (cutD xs lo hi) → SqL K H a vs → RepFs K Hf xs vs → rSlL K (.ref a) lo hi H Q := fun {xs vs a} eo h1 h2 => by
    subst eo
    exact ⟨_, _, rfl, h1, fun p hp => q _ _ _ (.newO hp (.ol upd_same (cut_rep h2 lo hi)))⟩
  cases r with
  | fz r =>
    cases r with
    | lst h1 h2 h3 => cases e; exact go rfl (.of (s _ _ h1)) ⟨h2, h3⟩
    | sq h1 h2 h3 => cases e; exact go rfl (s.l h1) ⟨h2, h3⟩
    | _ => cases e
  | ol h1 h2 => cases e; exact go rfl (.of h1) h2
  | _ => cases e
theorem s_str : PureSl K rSlS fSlS := by
  intro Hf H x lo hi o u Q s e r q
  cases r with
  | fz r =>
    cases r with
    | str =>
      simp only [O.frz, fSlS] at e
      split at e
      · cases e; exact ⟨_, rfl, by rw [← big_eq]; assumption, q _ _ _ (.val .str)⟩
      · cases e
    | _ => cases e
  | _ => cases e
theorem s_tup : PureSl K (rSlT K) fSlT := by
  intro Hf H x lo hi o u Q s e r q
  cases r with
  | fz r =>
    cases r with
    | @tup xs a vs h1 h2 h3 =>
      simp only [O.frz, fSlT] at e
      split at e
      · cases e
      · rename_i hw
        cases e
        have c := cut_rep ⟨h2, h3⟩ lo hi
        refine ⟨_, _, rfl, s.t h1, by rw [← h2]; exact hw, fun p hp => q _ _ _ (.newF hp ?_)⟩
        have c2 := c.mono (Ex.new (o := .tup (cutV vs lo hi)) (s.fresh hp))
        exact .tup (.of upd_same) c2.1 c2.2
    | _ => cases e
  | _ => cases e
def fSl : D → Option Int → Option Int → Option O := fun d lo hi => match d with
  | .str _ => fSlS d lo hi
  | .tup _ => fSlT d lo hi
  | _ => fSlL d lo hi
def rSl (K : PySem.W.Frag) : V → Option Int → Option Int → Hp → VK → Prop := fun x lo hi H Q => rSlL K x lo hi H Q ∨ rSlT K x lo hi H Q ∨ rSlS x lo hi H Q
theorem sl_all {X : Cx} : SlR X (rSl X.K) := sl_list.or (sl_tup.or sl_str)
theorem s_all : PureSl K (rSl K) fSl := by
  intro Hf H x lo hi o u Q s e r q
  cases hx : x.frz with
  | str z => exact .inr (.inr (s_str Hf H x lo hi o u Q s (by rw [hx] at e ⊢; exact e) r q))
  | tup z => exact .inr (.inl (s_tup Hf H x lo hi o u Q s (by rw [hx] at e ⊢; exact e) r q))
  | _ => exact .inl (s_list Hf H x lo hi o u Q s (by rw [hx] at e ⊢; exact e) r q)
def dSl (me : ME) (ml mh : MO) : ME := fun g => (me g).bind fun o g1 => (ml g1).bind fun lo g2 => (mh g2).bind fun hi g3 => optO (fSl o.frz lo hi) g3
theorem rd_sl {v : V} {o : O} {ml mh : MO} {Q : VK} (R : Rdy X.K E g (t ++ [some o]) σ (τ ++ [some v]) Hf H)
    (F : Fin X.K E W ((ml g).bind fun lo g2 => (mh g2).bind fun hi g3 => optO (fSl o.frz lo hi) g3) t τ σ Q) :
    rdO X.K E W ml σ H fun l H2 => rdO X.K E W mh σ H2 fun u H3 => rSl X.K v l u H3 Q := by
  refine ⟨g, t ++ [some o], τ ++ [some v], Hf, R, ?_⟩
  cases e : ml g with
  | no => rw [e] at F; exact F
  | ex c fs g' => rw [e] at F; exact fun d Hf' H' R' x => F d Hf' H' (R'.drop (by rfl)) x
  | ok lo g2 =>
    rw [e] at F
    intro Hf2 H2 R2
    rw [RE.bind_ok] at F
    refine ⟨g2, t ++ [some o], τ ++ [some v], Hf2, R2, ?_⟩
    cases e2 : mh g2 with
    | no => rw [e2] at F; exact F
    | ex c fs g' => rw [e2] at F; exact fun d Hf' H' R' x => F d Hf' H' (R'.drop (by rfl)) x
    | ok hi g3 =>
      rw [e2] at F
      intro Hf3 H3 R3
      rw [RE.bind_ok] at F
      cases e3 : fSl o.frz lo hi with
      | none => rw [e3] at F; exact F.elim
      | some o' =>
        rw [e3] at F
        exact s_all Hf3 H3 o lo hi o' v Q R3.rl.sub e3 R3.top fun z Hf' H' y => F z Hf' H' ((R3.drop (by rfl)).yld y)
theorem le_sl {e : Expr} {lo hi : Option Expr} {me : ME} {ml mh : MO} {p2 : Pos} (he : LE X E W e me) (hl : LO X E W lo ml) (hh : LO X E W hi mh) : LE X E W (.Subscript e (.Slice lo hi none p2) pos) (dSl me ml mh) := by
  refine (pe_slice sl_all he hl hh).to fun σ H Q ⟨g, t, τ, Hf, R, F⟩ => ?_
  refine rdE_more (t2 := []) (τ2 := []) rfl (by simpa using R) F fun v1 g1 Hf1 H1 o1 _ R1 F1 => ?_
  simp only [List.append_nil] at R1
  exact rd_sl R1 F1
/-- .. of a slot's thing, which stays as it is -/
def dSlS (i : Nat) (ml mh : MO) : ME := fun g => match g[i]? with
  | some (some _) => (ml g).bind fun lo g2 => (mh g2).bind fun hi g3 => match g3[i]? with
    | some (some o) => optO (fSl o.frz lo hi) g3
    | _ => .no
  | _ => .no
theorem le_slS {x : Str} {i : Nat} {lo hi : Option Expr} {ml mh : MO} {p1 p2 : Pos} (hN : X.N[i]? = some x) (hv : Vis X.env.scope x) (hl : LO X E W lo ml) (hh : LO X E W hi mh)
    (hd : (x == ("__debug__" : Str)) = false := by decide) (hcd : (x == ("__classdict__" : Str)) = false := by decide) : LE X E W (.Subscript (.Name x p1) (.Slice lo hi none p2) pos) (dSlS i ml mh) := by
  refine (pe_slice sl_all (pe_var hN hv hd hcd) hl hh).to fun σ H Q ⟨g, t, τ, Hf, R, F⟩ => ?_
  unfold dSlS at F
  cases e0 : g[i]? with
  | none => rw [e0] at F; exact F.elim
  | some s0 =>
    cases s0 with
    | none => rw [e0] at F; exact F.elim
    | some o0 =>
      rw [e0] at F
      dsimp only at F
      obtain ⟨v, hv1, _⟩ := R.slot e0
      refine ⟨v, hv1, g, t, τ, Hf, R, ?_⟩
      cases e : ml g with
      | no => rw [e] at F; exact F
      | ex c fs g' => rw [e] at F; exact F
      | ok lo g2 =>
        rw [e] at F
        intro Hf2 H2 R2
        rw [RE.bind_ok] at F
        refine ⟨g2, t, τ, Hf2, R2, ?_⟩
        cases e2 : mh g2 with
        | no => rw [e2] at F; exact F
        | ex c fs g' => rw [e2] at F; exact F
        | ok hi g3 =>
          rw [e2] at F
          intro Hf3 H3 R3
          rw [RE.bind_ok] at F
          cases e : g3[i]? with
          | none => rw [e] at F; exact F.elim
          | some s =>
            cases s with
            | none => rw [e] at F; exact F.elim
            | some o =>
              obtain ⟨v', h1, h2⟩ := R3.slot e
              rw [hv1] at h1; cases h1
              rw [e] at F
              dsimp only at F
              cases e3 : fSl o.frz lo hi with
              | none => rw [e3] at F; exact F.elim
              | some o' =>
                rw [e3] at F
                exact s_all Hf3 H3 o lo hi o' _ Q R3.rl.sub e3 h2 fun z Hf' H' y => F z Hf' H' (R3.yld y)

/-! ### a slot's own thing changed -/
theorem Rdy.mutS {i : Nat} {o o' : O} {a : Addr} {u : HO} (R : Rdy K E g t σ τ Hf H) (e : g[i]? = some (some o)) (ho : o.own = true) (ea : σ[i]? = some (some (.ref a))) (ho' : o'.own = true)
    (r : RepO K Hf (upd H a u) o' (.ref a)) : Rdy K E (g.set i (some o')) t σ τ Hf (upd H a u) := by
  have hi := (List.getElem?_eq_some_iff.mp e).1
  have hj := (List.getElem?_eq_some_iff.mp ea).1
  have k := R.rl.mut (i := i) (o := o) (o' := o') (a := a) (u := u) (by rw [List.getElem?_append_left hi]; exact e) ho (by rw [List.getElem?_append_left hj]; exact ea) ho' r
  rw [set_append_left' hi] at k
  exact ⟨by rw [List.length_set]; exact R.lg, R.pb, k⟩
/-- the slot's list -/
def ownL (g : Gm) (i : Nat) : Option (List D) := match g[i]? with
  | some (some (.ol xs)) => some xs
  | _ => none
theorem ownL_eq {i : Nat} {xs : List D} (h : ownL g i = some xs) : g[i]? = some (some (.ol xs)) := by
  unfold ownL at h
  split at h
  · cases h; assumption
  · cases h
theorem Rdy.ownL {i : Nat} {xs : List D} (R : Rdy K E g t σ τ Hf H) (h : ownL g i = some xs) : ∃ a vs, σ[i]? = some (some (.ref a)) ∧ H a = some (.lst vs) ∧ RepFs K Hf xs vs := by
  obtain ⟨v, h1, h2⟩ := R.slot (ownL_eq h)
  cases h2 with
  | ol k1 k2 => exact ⟨_, _, h1, k1, k2⟩
theorem Rdy.setL {i : Nat} {xs ys : List D} {a : Addr} {ws : List V} (R : Rdy K E g t σ τ Hf H) (h : L3.ownL g i = some xs) (ea : σ[i]? = some (some (.ref a))) (r : RepFs K Hf ys ws) : Rdy K E (g.set i (some (.ol ys))) t σ τ Hf (upd H a (.lst ws)) :=
  R.mutS (ownL_eq h) rfl ea rfl (.ol upd_same r)
/-- xs[i] = e -/
def aIxS (i : Nat) (mb : ME) : AG := fun d g => match ownL g i with
  | some _ => match mb g with
    | .ok k g1 => match ownL g1 i, asInt k with
      | some xs, some n => (ixN xs.length n).map fun j => g1.set i (some (.ol (xs.set j d)))
      | _, _ => none
    | _ => none
  | none => none
theorem ls_setIx {x : Str} {i : Nat} {b e : Expr} {me mb : ME} {p2 p3 : Pos} (he : LE X E W e me) (hN : X.N[i]? = some x) (hv : Vis X.env.scope x) (hb : LE X E W b mb)
    (ha : ∀ v, assign (.Subscript (.Name x p2) b p3) X.env v = (do
      let ov ← holding [v] (eval (.Name x p2) X.env)
      let iv ← holding [v, ov] (eval b X.env)
      standAt p3
      holding [v, ov, iv] (setItem ov iv v)
      release [v, ov, iv] []) := by intro _; rfl) (hd : (x == ("__debug__" : Str)) = false := by decide) (hcd : (x == ("__classdict__" : Str)) = false := by decide)
    (hs : swapsWithSole [.Subscript (.Name x p2) b p3] e pos.line X.env = pure false := by rfl) (hw : swappedStores [.Subscript (.Name x p2) b p3] e X.env = pure none := by rfl)
    (h1 : (assignEach [.Subscript (.Name x p2) b p3] X.env).map (·.2) = [assign (.Subscript (.Name x p2) b p3) X.env] := by rfl) : LS X E W (.Assign [.Subscript (.Name x p2) b p3] e pos) (dAsg (aIxS i mb) me) := by
  refine (ps_asg he (pg_sub (pe_var hN hv hd hcd) hb set_list ha) hs hw h1).to fun D σ H ⟨g, t, τ, Hf, R, F⟩ => ?_
  refine rdE_moreS R F fun v g Hf H o _ R F => ?_
  obtain ⟨Hf, _, R⟩ := R.freezeT
  unfold aIxS at F
  cases e0 : ownL g i with
  | none => rw [e0] at F; exact F.elim
  | some xs0 =>
    rw [e0] at F
    obtain ⟨a, vs0, h1, _, _⟩ := (R.drop (t2 := [some (O.fz o.frz)]) (τ2 := [some v]) rfl).ownL e0
    refine ⟨_, h1, g, _, _, Hf, R, ?_⟩
    dsimp only at F
    cases e1 : mb g with
    | no => rw [e1] at F; exact F.elim
    | ex c fs g' => rw [e1] at F; exact F.elim
    | ok k g1 =>
      rw [e1] at F
      intro w Hf1 H1 R1
      dsimp only at F
      cases e2 : ownL g1 i with
      | none => rw [e2] at F; exact F.elim
      | some xs =>
        cases e3 : asInt k with
        | none => rw [e2, e3] at F; exact F.elim
        | some n =>
          rw [e2, e3] at F
          obtain rfl := asInt_eq e3
          cases R1.topF
          dsimp only at F
          cases e4 : ixN xs.length n with
          | none => rw [e4] at F; exact F.elim
          | some j =>
            rw [e4] at F
            have R2 := R1.drop (t2 := [some (O.fz (.int n))]) (τ2 := [some (.int n)]) rfl
            have rd := R2.topF
            have R3 := R2.drop (t2 := [some (O.fz o.frz)]) (τ2 := [some v]) rfl
            obtain ⟨a', vs, k1, k2, k3⟩ := R3.ownL e2
            rw [h1] at k1; cases k1
            refine ⟨a, vs, n, j, rfl, rfl, k2, by rw [← k3.1]; exact e4, ?_⟩
            exact F _ _ _ (R3.setL e2 h1 (k3.set rd))
/-- xs.m(e): a method that changes the slot's list -/
def MtP (K : PySem.W.Frag) (r : V → List V → Hp → VK → Prop) (φ : List D → List D → Option (D × List D)) : Prop :=
  ∀ (Hf H : Hp) (a : Addr) (xs ds : List D) (vs us : List V) (d : D) (ys : List D) (Q : VK), Ex Hf H → H a = some (.lst vs) → RepFs K Hf xs vs → RepFs K Hf ds us → φ xs ds = some (d, ys) →
    (∀ z ws, RepF K Hf d z → RepFs K Hf ys ws → Q z (upd H a (.lst ws))) → r (.ref a) us H Q
def dMt (φ : List D → List D → Option (D × List D)) (i : Nat) (ma : MA) : ME := fun g => match ownL g i with
  | some _ => (ma g).bind fun os g1 => match ownL g1 i with
    | some xs => match φ xs (os.map O.frz) with
      | some (d, ys) => .ok (.fz d) (g1.set i (some (.ol ys)))
      | none => .no
    | none => .no
  | none => .no
theorem mt_ok {r : V → List V → Hp → VK → Prop} {φ : List D → List D → Option (D × List D)} {ma : MA} {i : Nat} {x : Str} (hm : MtP X.K r φ) {tA : TA} {Q : VK} {a : Addr} (hA : ∀ σ H Q, rdA X.K E W ma σ H Q → tA σ H Q) (R : Rdy X.K E g t σ τ Hf H) (F : Fin X.K E W (dMt φ i ma g) t τ σ Q) (ha : σ[i]? = some (some (.ref a))) :
    tA σ H fun xs H2 => r (.ref a) xs H2 Q := by
  unfold dMt at F
  cases e0 : ownL g i with
  | none => rw [e0] at F; exact F.elim
  | some xs0 =>
    rw [e0] at F
    dsimp only at F
    refine hA _ _ _ (rdA_more (t2 := []) (τ2 := []) rfl (by simpa using R) F fun us g1 Hf1 H1 os _ hl R1 F1 => ?_)
    simp only [List.append_nil] at R1
    obtain ⟨Hf2, x2, x3, r2, R2⟩ := Rdy.freezeA rfl hl R1
    cases e1 : ownL g1 i with
    | none => rw [e1] at F1; exact F1.elim
    | some xs =>
      rw [e1] at F1
      dsimp only at F1
      obtain ⟨a', vs, k1, k2, k3⟩ := R2.ownL e1
      rw [ha] at k1; cases k1
      cases e2 : φ xs (os.map O.frz) with
      | none => rw [e2] at F1; exact F1.elim
      | some p =>
        obtain ⟨d, ys⟩ := p
        rw [e2] at F1
        exact hm Hf2 H1 a xs _ vs us d ys Q x3 k2 k3 r2 e2 fun z ws rz rw' => F1 z _ _ ((R2.setL e1 ha rw').push_fz rz)
theorem le_mt {id : String} {r : V → List V → Hp → VK → Prop} {φ : List D → List D → Option (D × List D)} {name x : Str} {i : Nat} {e : Expr} {es : List Expr} {ma : MA} {p2 apos cpos : Pos} (slot : Slot "list" name id) (hty : typeOf (.builtin id) = pure (.type "method_descriptor")) (hm : MtR X id r) (hφ : MtP X.K r φ)
    (hN : X.N[i]? = some x) (hv : Vis X.env.scope x) (ha : LA X E W (e :: es) ma)
    (hbase : attributeBase (.Name x p2) name X.env (eval (.Name x p2) X.env) = eval (.Name x p2) X.env := by rfl)
    (hfew : ((backTo cpos (starEach (e :: es) X.env)).all (fun x => !x.1) && (backToKw cpos (keywordEach [] X.env)).all (fun x => x.1.isSome)
      && decide ((e :: es).length + ([] : List Keyword).length + (if ([] : List Keyword).isEmpty then 0 else 1) < 30)) = true := by rfl)
    (hline : (apos.endLine == cpos.line) = true := by rfl) (hs : starEach (e :: es) X.env = (false, eval e X.env) :: starEach es X.env := by rfl) (hplain : (backTo cpos (starEach es X.env)).any (·.1) = false := by rfl)
    (hd : (x == ("__debug__" : Str)) = false := by decide) (hcd : (x == ("__classdict__" : Str)) = false := by decide) :
    LE X E W (.Call (.Attribute (.Name x p2) name apos) (e :: es) [] cpos) (dMt φ i ma) := by
  refine (pe_bm PySem.F.plainAttrs_list slot hty hm (pe_var hN hv hd hcd) ha hbase hfew hline hs hplain).to fun σ H Q ⟨g, t, τ, Hf, R, F⟩ => ?_
  have F0 := F
  unfold dMt at F
  cases e0 : ownL g i with
  | none => rw [e0] at F; exact F.elim
  | some xs0 =>
    obtain ⟨a, vs0, h1, h2, _⟩ := R.ownL e0
    exact ⟨_, h1, .inl ⟨rfl, _, .of h2⟩, mt_ok (x := x) hφ (fun _ _ _ h => h) R F0 h1⟩
theorem le_mt0 {id : String} {r : V → List V → Hp → VK → Prop} {φ : List D → List D → Option (D × List D)} {name x : Str} {i : Nat} {p2 apos cpos : Pos} (slot : Slot "list" name id) (hty : typeOf (.builtin id) = pure (.type "method_descriptor")) (hm : MtR X id r) (hφ : MtP X.K r φ)
    (hN : X.N[i]? = some x) (hv : Vis X.env.scope x)
    (hbase : attributeBase (.Name x p2) name X.env (eval (.Name x p2) X.env) = eval (.Name x p2) X.env := by rfl) (hline : (apos.endLine == cpos.line) = true := by rfl)
    (hd : (x == ("__debug__" : Str)) = false := by decide) (hcd : (x == ("__classdict__" : Str)) = false := by decide) :
    LE X E W (.Call (.Attribute (.Name x p2) name apos) [] [] cpos) (dMt φ i aNil) := by
  refine (pe_bm0 PySem.F.plainAttrs_list slot hty hm (pe_var hN hv hd hcd) hbase hline).to fun σ H Q ⟨g, t, τ, Hf, R, F⟩ => ?_
  have F0 := F
  unfold dMt at F
  cases e0 : ownL g i with
  | none => rw [e0] at F; exact F.elim
  | some xs0 =>
    obtain ⟨a, vs0, h1, h2, _⟩ := R.ownL e0
    refine ⟨_, h1, .inl ⟨rfl, _, .of h2⟩, mt_ok (x := x) (tA := fun σ H Q => Q [] H) hφ (fun σ H Q ⟨g, t, τ, Hf, R, F⟩ => F [] Hf H rfl (by simpa using R)) R F0 h1⟩
def mApp : List D → List D → Option (D × List D)
  | xs, [d] => if xs.length < big then some (.non, xs ++ [d]) else none
  | _, _ => none
theorem m_app : MtP K rAppend mApp := by
  intro Hf H a xs ds vs us d ys Q s ha r rd e q
  match ds, us, rd with
  | [y], _, rd =>
    obtain ⟨v, r0, rfl, r1, r2⟩ := rd.uncons
    rw [r2.nil_of]
    simp only [mApp] at e
    split at e
    · cases e
      exact ⟨a, vs, v, rfl, rfl, ha, by rw [← r.1, ← big_eq]; assumption, q _ _ .non (r.append (.cons r1 .nil))⟩
    · cases e
  | [], _, _ => cases e
  | _ :: _ :: _, _, _ => cases e
def mPop : List D → List D → Option (D × List D)
  | xs, [] => match xs[xs.length - 1]? with
    | some d => some (d, xs.dropLast)
    | none => none
  | _, _ => none
theorem dropLast_rep {xs : List D} {vs : List V} (r : RepFs K H xs vs) : RepFs K H xs.dropLast vs.dropLast := by
  rw [List.dropLast_eq_take, List.dropLast_eq_take, r.1]
  exact r.take _
theorem m_pop : MtP K rPop mPop := by
  intro Hf H a xs ds vs us d ys Q s ha r rd e q
  cases ds with
  | cons _ _ => cases e
  | nil =>
    rw [rd.nil_of]
    simp only [mPop] at e
    split at e
    · rename_i d' hd
      cases e
      obtain ⟨v, h1, h2⟩ := r.at hd
      exact ⟨a, vs, v, rfl, rfl, ha, by rw [← r.1]; exact h1, q _ _ h2 (dropLast_rep r)⟩
    · cases e
def mExt : List D → List D → Option (D × List D)
  | xs, [.lst zs] => if xs.length + zs.length ≤ big then some (.non, xs ++ zs) else none
  | _, _ => none
theorem one_of {α : Type} {P : List α → Prop} {xs : List α} (h : P xs) (h0 : P [] → False) (h2 : ∀ a b l, P (a :: b :: l) → False) : ∃ a, xs = [a] := by
  match xs, h with
  | [], h => exact (h0 h).elim
  | [a], _ => exact ⟨a, rfl⟩
  | a :: b :: l, h => exact (h2 a b l h).elim
theorem m_ext : MtP K rExtend mExt := by
  intro Hf H a xs ds vs us d ys Q s ha r rd e q
  obtain ⟨y, rfl⟩ := one_of (P := fun ds => mExt xs ds = some (d, ys)) e (fun h => by cases h) (fun a b l h => by cases a <;> cases h)
  obtain ⟨v, r0, rfl, r1, r2⟩ := rd.uncons
  rw [r2.nil_of]
  cases y <;> simp only [mExt] at e <;> try cases e
  split at e
  · cases e
    cases r1 with
    | lst h1 h2 h3 =>
      exact ⟨a, _, vs, _, rfl, rfl, ha, s _ _ h1, by rw [← r.1, ← h2, ← big_eq]; assumption, q _ _ .non (r.append ⟨h2, h3⟩)⟩
  · cases e
def mRev : List D → List D → Option (D × List D)
  | xs, [] => some (.non, xs.reverse)
  | _, _ => none
theorem m_rev : MtP K rReverse mRev := by
  intro Hf H a xs ds vs us d ys Q s ha r rd e q
  cases ds with
  | cons _ _ => cases e
  | nil => rw [rd.nil_of]; cases e; exact ⟨a, vs, rfl, rfl, ha, q _ _ .non r.reverse⟩
def mPopAt : List D → List D → Option (D × List D)
  | xs, [.int i] => if -(2 ^ 63) ≤ i ∧ i < 2 ^ 63 then match seqIndex? i xs.length with
    | some k => match xs[k]? with
      | some d => some (d, xs.eraseIdx k)
      | none => none
    | none => none
    else none
  | _, _ => none
theorem erase_rep {xs : List D} {vs : List V} {k : Nat} (r : RepFs K H xs vs) : RepFs K H (xs.eraseIdx k) (vs.eraseIdx k) := by
  rw [List.eraseIdx_eq_take_drop_succ, List.eraseIdx_eq_take_drop_succ]
  exact (r.take _).append (r.drop _)
theorem m_popAt : MtP K rPopAt mPopAt := by
  intro Hf H a xs ds vs us d ys Q s ha r rd e q
  obtain ⟨y, rfl⟩ := one_of (P := fun ds => mPopAt xs ds = some (d, ys)) e (fun h => by cases h) (fun a b l h => by cases a <;> cases h)
  obtain ⟨v, r0, rfl, r1, r2⟩ := rd.uncons
  rw [r2.nil_of]
  cases y <;> simp only [mPopAt] at e <;> try cases e
  cases r1
  split at e
  · rename_i hb
    split at e
    · rename_i k e1
      split at e
      · rename_i d' e2
        cases e
        obtain ⟨w, h1, h2⟩ := r.at e2
        exact ⟨a, vs, _, k, w, rfl, rfl, ha, hb.1, hb.2, by rw [← r.1]; exact e1, h1, q _ _ h2 (erase_rep r)⟩
      · cases e
    · cases e
  · cases e

/-! ### self.f = e -/
def ownI (g : Gm) (i : Nat) : Option (Addr × List (Str × D)) := match g[i]? with
  | some (some (.oi C fs)) => some (C, fs)
  | _ => none
theorem ownI_eq {i : Nat} {p : Addr × List (Str × D)} (h : ownI g i = some p) : g[i]? = some (some (.oi p.1 p.2)) := by
  unfold ownI at h
  split at h
  · cases h; assumption
  · cases h
def dFldSet (Cs : List Addr) (f : Str) (i : Nat) (me : ME) : MS := fun g => (me g).toS fun o g1 => match ownI g1 i with
  | some (C, fs) => if C ∈ Cs ∧ fs.length < 1000 then .nx (g1.set i (some (.oi C (putD f o.frz fs)))) else .no
  | none => .no
theorem repKs_len {κ : Type} {fs : List (κ × D)} {gs : List (κ × V)} (r : RepKs K H fs gs) : fs.length = gs.length := by
  have := congrArg List.length r.1
  simpa using this
theorem ls_fldSet {Cs : List Addr} {f x : Str} {i : Nat} {e : Expr} {me : ME} {p2 p3 : Pos} (hC : ∀ C ∈ Cs, Cls X.K C ∧ NoAttr X.K C f) (hN : X.N[i]? = some x) (hv : Vis X.env.scope x) (he : LE X E W e me)
    (hs : swapsWith e (some (.Attribute (.Name x p2) f p3)) pos.line X.env = pure false := by rfl)
    (hd : (x == ("__debug__" : Str)) = false := by decide) (hcd : (x == ("__classdict__" : Str)) = false := by decide) : LS X E W (.Assign [.Attribute (.Name x p2) f p3] e pos) (dFldSet Cs f i me) := by
  refine (ps_fld (pe_var hN hv hd hcd) he hs).to fun D σ H ⟨g, t, τ, Hf, R, F⟩ => ?_
  refine rdE_moreS R F fun v g2 Hf2 H2 o2 _ R2 F2 => ?_
  obtain ⟨Hf3, x3, R3⟩ := R2.freezeT
  have rd := R3.topF
  have R4 := R3.drop (t2 := [some (O.fz o2.frz)]) (τ2 := [some v]) rfl
  cases e1 : ownI g2 i with
  | none => rw [e1] at F2; exact F2.elim
  | some p =>
    obtain ⟨C, fs⟩ := p
    rw [e1] at F2
    dsimp only at F2
    split at F2
    · rename_i hc
      obtain ⟨w, k1, k2⟩ := R4.slot (ownI_eq e1)
      cases k2 with
      | oi h1 h2 =>
        exact ⟨_, k1, _, C, _, _, rfl, h1, (hC C hc.1).1, (hC C hc.1).2, by rw [← repKs_len h2]; exact hc.2, F2 _ _ _ (R4.mutS (ownI_eq e1) rfl k1 rfl (.oi upd_same (h2.put f rd)))⟩
    · exact F2.elim

/-! ### x op= e -/
def PureI (X : Cx) (op : Operator) (φ : D → D → Option D) : Prop := ∃ ti : TIp, PIp X op ti ∧ Pure2 X.K ti φ
def dAug (i : Nat) (φ : D → D → Option D) (me : ME) : MS := fun g => match g[i]? with
  | some (some (.fz a)) => (me g).toS fun o g1 => match φ a o.frz with
    | some d => .nx (g1.set i (some (.fz d)))
    | none => .no
  | _ => .no
theorem ls_aug {i : Nat} {x : Str} {e : Expr} {me : ME} {op : Operator} {φ : D → D → Option D} {p2 : Pos} (hp : Off E i) (hN : X.N.Nodup) (hi : X.N[i]? = some x) (hx : Loc X.env.scope x) (he : LE X E W e me) (ho : PureI X op φ)
    (hf : X.fn x = true ∨ X.env.scope.names.lookup x = some .local := by first | exact .inl rfl | exact .inr rfl | assumption) : LS X E W (.AugAssign (.Name x p2) op e pos) (dAug i φ me) := by
  obtain ⟨ti, h1, h2⟩ := ho
  refine (ps_aug hN hi hx he h1 hf).to fun D σ H ⟨g, t, τ, Hf, R, F⟩ => ?_
  unfold dAug at F
  split at F
  · rename_i a e0
    obtain ⟨v, k1, k2⟩ := R.slot e0
    cases k2 with
    | fz ra =>
      refine ⟨v, k1, ?_⟩
      -- the value is kept in hand
      have R0 := R.push_fz ra
      refine ⟨g, _, _, Hf, R0, ?_⟩
      cases e1 : me g with
      | no => rw [e1] at F; exact F
      | ex c fs g' => rw [e1] at F; exact fun d Hf' H' R' x => F d σ Hf' H' (R'.drop (t2 := [some (O.fz a)]) (τ2 := [some v]) rfl) x
      | ok o g1 =>
        rw [e1] at F
        intro w Hf1 H1 R1
        obtain ⟨Hf2, x2, x3, r1, r2, R2⟩ := R1.freeze2
        rw [RE.toS_ok] at F
        cases e2 : φ a o.frz with
        | none => rw [e2] at F; exact F.elim
        | some d =>
          rw [e2] at F
          exact h2 Hf2 H1 a o.frz d v w _ x3 e2 r1 r2 fun z rz => F _ _ _ ((R2.push_fz rz).store hp)
  · exact F.elim
theorem pi_of {op : Operator} {f : Int → Int → Int} (h : PIp X op (ipI f)) {φ : D → D → Option D} (hφ : ∀ x y d, φ x y = some d → ∃ i j, x = .int i ∧ y = .int j ∧ d = .int (f i j)) : PureI X op φ := by
  refine ⟨_, h, fun Hf H x y d u v Q _ e r1 r2 q => ?_⟩
  obtain ⟨i, j, rfl, rfl, rfl⟩ := hφ x y d e
  cases r1; cases r2
  exact ⟨i, j, rfl, rfl, q _ .int⟩
theorem i_add : PureI X .Add fAdd := pi_of ip_add fun x y d e => by cases x <;> cases y <;> simp [fAdd] at e; exact ⟨_, _, rfl, rfl, e.symm⟩
theorem i_sub : PureI X .Sub fSub := pi_of ip_sub fun x y d e => by cases x <;> cases y <;> simp [fSub] at e; exact ⟨_, _, rfl, rfl, e.symm⟩
end
end L3
end

section
namespace L3
open PySem L2

section
variable {X : Cx} {E : Ent} {W : WX} {K : PySem.W.Frag} {g t : Gm} {σ τ : L2.St} {Hf H : Hp} {pos : Pos}

/-! ### slots forgotten -/
def wipeG (g : Gm) : List Nat → Gm
  | [] => g
  | v :: vs => (wipeG g vs).set v none
theorem wipeG_length (g : Gm) : ∀ vs : List Nat, (wipeG g vs).length = g.length
  | [] => rfl
  | v :: vs => by unfold wipeG; rw [List.length_set, wipeG_length g vs]
theorem wipeG_some {g : Gm} {i : Nat} {x : O} : ∀ {vs : List Nat}, (wipeG g vs)[i]? = some (some x) → g[i]? = some (some x) ∧ i ∉ vs
  | [], h => ⟨h, by simp⟩
  | v :: vs, h => by
    unfold wipeG at h
    by_cases hi : v = i
    · subst hi
      by_cases hv : v < (wipeG g vs).length
      · rw [List.getElem?_set_self hv] at h; cases h
      · rw [List.getElem?_eq_none (by simpa using hv)] at h; cases h
    · rw [List.getElem?_set_ne hi] at h
      obtain ⟨h1, h2⟩ := wipeG_some h
      exact ⟨h1, by simp only [List.mem_cons, not_or]; exact ⟨fun e => hi e.symm, h2⟩⟩
theorem wipe_out {σ : L2.St} {i : Nat} : ∀ {vs : List Nat}, i ∉ vs → (wipe σ vs)[i]? = σ[i]?
  | [], _ => rfl
  | v :: vs, h => by
    unfold wipe
    simp only [List.mem_cons, not_or] at h
    rw [List.getElem?_set_ne (fun e => h.1 e.symm)]
    exact wipe_out h.2
theorem wipe_in {σ : L2.St} {i : Nat} : ∀ {vs : List Nat}, i ∈ vs → (wipe σ vs)[i]? = if i < σ.length then some none else none
  | [], h => by cases h
  | v :: vs, h => by
    unfold wipe
    by_cases hi : v = i
    · subst hi
      by_cases hv : v < σ.length
      · rw [List.getElem?_set_self (by rw [wipe_length]; exact hv), if_pos hv]
      · rw [List.getElem?_eq_none (by rw [List.length_set, wipe_length]; omega), if_neg hv]
    · rw [List.getElem?_set_ne hi]
      exact wipe_in (by rcases List.mem_cons.mp h with e | e; exact absurd e.symm hi; exact e)
theorem wipe_eq {σ σ2 : L2.St} {ix vs : List Nat} (k : Keeps ix (wipe σ vs) σ2) (h : ∀ i ∈ ix, i ∈ vs) : wipe σ2 vs = wipe σ vs := by
  have hl : σ2.length = σ.length := by rw [k.1, wipe_length]
  refine List.ext_getElem? fun j => ?_
  by_cases hj : j ∈ vs
  · rw [wipe_in hj, wipe_in hj, hl]
  · rw [wipe_out hj, k.2 j fun q => hj (h j q)]
/-- the slots seen otherwise -/
theorem Rdy.reslot {g' : Gm} {σ' : L2.St} (R : Rdy K E g t σ τ Hf H) (hg : g'.length = g.length) (hs : σ'.length = σ.length)
    (h : ∀ (j : Nat) (o : O), g'[j]? = some (some o) → g[j]? = some (some o) ∧ σ'[j]? = σ[j]?) (hp : ∀ p ∈ E.pin, σ'[p.1]? = σ[p.1]?) : Rdy K E g' t σ' τ Hf H := by
  have lg := R.lg
  refine ⟨by rw [hg, hs]; exact lg, fun p h => by rw [hs]; exact R.pb p h, ?_⟩
  refine R.rl.map (f := fun i => i) (by have := R.rl.len; simp only [List.length_append] at this ⊢; omega) (fun j o e => ?_) (fun _ _ _ _ _ _ _ _ e => e) (fun p h => ?_)
  · by_cases hj : j < g'.length
    · rw [List.getElem?_append_left hj] at e
      obtain ⟨e1, e2⟩ := h j o e
      exact ⟨by rw [List.getElem?_append_left (by omega)]; exact e1, by rw [List.getElem?_append_left (by omega), List.getElem?_append_left (by omega)]; exact e2⟩
    · rw [List.getElem?_append_right (by omega)] at e
      exact ⟨by rw [List.getElem?_append_right (by omega), ← hg]; exact e, by rw [List.getElem?_append_right (by omega), List.getElem?_append_right (by omega), hs]⟩
  · have h1 := R.rl.pin p h
    have h2 := R.pb p h
    rw [List.getElem?_append_left h2] at h1
    rw [List.getElem?_append_left (by rw [hs]; exact h2), hp p h]; exact h1
theorem Rdy.wipe (R : Rdy K E g t σ τ Hf H) {vs : List Nat} (hv : ∀ v ∈ vs, Off E v) : Rdy K E (wipeG g vs) t (wipe σ vs) τ Hf H :=
  R.reslot (wipeG_length _ _) (wipe_length _ _) (fun j o e => by
    obtain ⟨h1, h2⟩ := wipeG_some e
    exact ⟨h1, wipe_out h2⟩) fun p hp => wipe_out fun q => hv _ q p hp rfl
theorem Rdy.unwipe {σ2 : L2.St} {vs : List Nat} (R : Rdy K E (wipeG g vs) t (L2.wipe σ vs) τ Hf H) (hv : ∀ v ∈ vs, Off E v) : Rdy K E (wipeG g vs) t σ τ Hf H :=
  R.reslot rfl (wipe_length _ _).symm (fun j o e => ⟨e, (wipe_out (wipeG_some e).2).symm⟩) fun p hp => (wipe_out fun q => hv _ q p hp rfl).symm
/-- the thing in hand is changed -/
theorem Rdy.mutT {o o' : O} {a : Addr} {u : HO} (R : Rdy K E g (t ++ [some o]) σ (τ ++ [some (.ref a)]) Hf H) (ho : o.own = true) (ho' : o'.own = true)
    (r : RepO K Hf (upd H a u) o' (.ref a)) : Rdy K E g (t ++ [some o']) σ (τ ++ [some (.ref a)]) Hf (upd H a u) := by
  have hl := R.lt
  have hg := R.lg
  simp only [List.length_append, List.length_singleton] at hl
  have e : (g ++ (t ++ [some o]))[(g ++ t).length]? = some (some o) := by rw [← List.append_assoc]; simp
  have hx : (g ++ t).length = (σ ++ τ).length := by simp only [List.length_append]; omega
  have e2 : (σ ++ (τ ++ [some (V.ref a)]))[(g ++ t).length]? = some (some (.ref a)) := by rw [hx, ← List.append_assoc]; simp
  have k := R.rl.mut e ho e2 ho' r
  have : (g ++ (t ++ [some o])).set (g ++ t).length (some o') = g ++ (t ++ [some o']) := by
    rw [← List.append_assoc, ← List.append_assoc, List.set_append_right _ _ (Nat.le_refl _)]; simp
  rw [this] at k
  exact ⟨R.lg, R.pb, k⟩

/-! ### [elt for target in iter if test] -/
def W0 : WX := fun _ _ _ _ => False
def cL (vs : List Nat) (as : AG) (mt : MT) (me : ME) : List D → List D → Gm → Option (List D × Gm)
  | [], acc, g => some (acc, g)
  | d :: ds, acc, g => match as d (wipeG g vs) with
    | some g1 => match mt g1 with
      | .ok b g2 => if b = true then (match me g2 with
        | .ok o g3 => if acc.length < big then cL vs as mt me ds (acc ++ [o.frz]) g3 else none
        | _ => none) else cL vs as mt me ds acc g2
      | _ => none
    | none => none
def dLc (vs : List Nat) (mi : MI) (as : AG) (mt : MT) (me : ME) : ME := fun g => (mi g).bind fun ds g1 => match cL vs as mt me ds [] g1 with
  | some (acc, g2) => .ok (.ol acc) (wipeG g2 vs)
  | none => .no
theorem rd_lc {mi : MI} {as : AG} {mt : MT} {me : ME} {vs ix : List Nat} (hix : ∀ i ∈ ix, i ∈ vs) (hoff : ∀ v ∈ vs, Off E v) {Q : VK} (h : rdE K E W (dLc vs mi as mt me) σ H Q) : tLc (rdI K E W mi) (rdG K E ix as) (rdT K E W0 mt) (rdE K E W0 me) vs σ H Q := by
  obtain ⟨g, t, τ, Hf, R, F⟩ := h
  refine ⟨g, t, τ, Hf, R, ?_⟩
  unfold dLc at F
  cases e : mi g with
  | no => rw [e] at F; exact F
  | ex c fs g' => rw [e] at F; exact F
  | ok ds g1 =>
    rw [e] at F
    intro J ks kv Hf1 H1 hk R1 wk DA hD
    have hkl : (ks.map fun d => some (O.fz d)).length = (kv.map some).length := by simpa using hk
    rw [RE.bind_ok] at F
    cases ec : cL vs as mt me ds [] g1 with
    | none => rw [ec] at F; exact F.elim
    | some p =>
      obtain ⟨accF, gF⟩ := p
      rw [ec] at F
      have Rs := (R1.push_new (u := .lst []) hD (.ol upd_same .nil)).wipe hoff
      refine ⟨fun i m H => m = ds.length - i ∧ i ≤ ds.length ∧ ∃ g Hf acc, Rdy K E (wipeG g vs) (t ++ (ks.map fun d => some (.fz d)) ++ [some (.ol acc)]) (wipe σ vs) (τ ++ kv.map some ++ [some (.ref DA)]) Hf H ∧ cL vs as mt me (ds.drop i) acc g = some (accF, gF),
        ⟨ds.length, by simp, Nat.zero_le _, g1, Hf1, [], Rs, by simpa using ec⟩, ?_⟩
      rintro i m H2 ⟨rfl, hi, g2, Hf2, acc, R2, F2⟩
      have keep : ∀ {acc : List D} {g : Gm} {Hf H : Hp} {σ : L2.St}, Rdy K E g (t ++ (ks.map fun d => some (.fz d)) ++ [some (.ol acc)]) σ (τ ++ kv.map some ++ [some (.ref DA)]) Hf H → RepFs K Hf ks kv := fun {acc g Hf H σ} R => Rdy.keep (R.drop (t2 := [some (O.ol acc)]) (τ2 := [some (V.ref DA)]) rfl) hk
      by_cases hlt : i < ds.length
      · refine .inr ⟨wk.go i Hf2 H2 hlt R2.rl.sub (keep R2), fun H' => ∃ g Hf acc, Rdy K E (wipeG g vs) (t ++ (ks.map fun d => some (.fz d)) ++ [some (.ol acc)]) (wipe σ vs) (τ ++ kv.map some ++ [some (.ref DA)]) Hf H' ∧ cL vs as mt me (ds.drop (i + 1)) acc g = some (accF, gF),
          fun H' q => ⟨ds.length - (i + 1), by omega, rfl, hlt, q⟩, fun x H' y => ?_⟩
        have ed : ds[i]? = some ds[i] := by simp [hlt]
        rw [List.drop_eq_getElem_cons hlt] at F2
        unfold cL at F2
        have next : ∀ Hf3, Rdy K E (wipeG g2 vs) (t ++ (ks.map fun d => some (.fz d)) ++ [some (.ol acc)] ++ [some (.fz ds[i])]) (wipe σ vs) (τ ++ kv.map some ++ [some (.ref DA)] ++ [some x]) Hf3 H' → rdG K E ix as x (wipe σ vs) H' fun σ2 H2 => wipe σ2 vs = wipe σ vs ∧ rdT K E W0 mt σ2 H2 fun b H3 =>
            if b = true then rdE K E W0 me σ2 H3 fun y H4 => ∃ acc, H4 DA = some (.lst acc) ∧ acc.length < sizeLine ∧ ∃ g Hf acc', Rdy K E (wipeG g vs) (t ++ (ks.map fun d => some (.fz d)) ++ [some (.ol acc')]) (wipe σ vs) (τ ++ kv.map some ++ [some (.ref DA)]) Hf (upd H4 DA (.lst (acc ++ [y]))) ∧ cL vs as mt me (ds.drop (i + 1)) acc' g = some (accF, gF)
            else ∃ g Hf acc, Rdy K E (wipeG g vs) (t ++ (ks.map fun d => some (.fz d)) ++ [some (.ol acc)]) (wipe σ vs) (τ ++ kv.map some ++ [some (.ref DA)]) Hf H3 ∧ cL vs as mt me (ds.drop (i + 1)) acc g = some (accF, gF) := fun Hf3 R3 => by
          refine ⟨_, _, _, Hf3, ds[i], R3, ?_⟩
          cases e1 : as ds[i] (wipeG g2 vs) with
          | none => rw [e1] at F2; cases F2
          | some ga =>
            rw [e1] at F2
            intro σ4 Hf4 H4 R4 _ kk
            have hw := wipe_eq kk hix
            refine ⟨hw, ga, _, _, Hf4, R4, ?_⟩
            dsimp only at F2
            cases e2 : mt ga with
            | no => rw [e2] at F2; cases F2
            | ex c fs g' => rw [e2] at F2; cases F2
            | ok b gb =>
              rw [e2] at F2
              intro Hf5 H5 R5
              dsimp only at F2
              cases b with
              | false =>
                simp only [Bool.false_eq_true, if_false] at F2 ⊢
                have Rw := R5.wipe hoff
                rw [hw] at Rw
                exact ⟨gb, Hf5, acc, Rw, F2⟩
              | true =>
                simp only [if_true] at F2 ⊢
                refine ⟨gb, _, _, Hf5, R5, ?_⟩
                cases e3 : me gb with
                | no => rw [e3] at F2; cases F2
                | ex c fs g' => rw [e3] at F2; cases F2
                | ok o gc =>
                  rw [e3] at F2
                  intro y Hf6 H6 R6
                  dsimp only at F2
                  split at F2
                  · rename_i hb
                    obtain ⟨Hf7, _, R7⟩ := R6.freezeT
                    have ry := R7.topF
                    have R8 := R7.drop (t2 := [some (O.fz o.frz)]) (τ2 := [some y]) rfl
                    have top := R8.top
                    cases top with
                    | ol k1 k2 =>
                      have R9 := R8.mutT (o' := .ol (acc ++ [o.frz])) (u := .lst (_ ++ [y])) rfl rfl (.ol upd_same (k2.append (.cons ry .nil)))
                      have Rw := R9.wipe hoff
                      rw [hw] at Rw
                      exact ⟨_, k1, by rw [← k2.1, ← big_eq]; exact hb, gc, Hf7, _, Rw, F2⟩
                  · cases F2
        rcases wk.yld i Hf2 H2 x H' _ ed R2.rl.sub (keep R2) y with ⟨rfl, r⟩ | ⟨p, u, hp, rfl, r⟩
        · exact next Hf2 (R2.push_fz r)
        · exact next _ ((R2.allocF hp).push_fz r)
      · have ei : i = ds.length := by omega
        subst ei
        rw [List.drop_length] at F2
        cases F2
        refine .inl ⟨wk.stop Hf2 H2 R2.rl.sub (keep R2), ?_⟩
        exact F _ _ _ ((Rdy.unwipe (σ2 := σ) R2 hoff).mid hkl)
abbrev LTs (X : Cx) (E : Ent) (W : WX) (ifs : List Expr) (m : MT) : Prop := PTs X ifs (rdT X.K E W m)
def dYes : MT := fun g => .ok true g
theorem lts_nil : LTs X E W [] dYes := ⟨fun pins s σ H Q I ⟨g, t, τ, Hf, R, F⟩ => pts_nil.run pins s σ H Q I (F Hf H R)⟩
theorem lts_one {c : Expr} {m : MT} (h : LT X E W c m) : LTs X E W [c] m := pts_one h
theorem le_lc {elt tg iter : Expr} {ifs : List Expr} {scope : Scope} {mi : MI} {as : AG} {mt : MT} {me : ME} {ix : List Nat} (own : List (Str × Nat)) (hc : X.calm = true) (hN : X.N.Nodup) (hi : LI X E W tg iter mi) (ok : BlkOk X.N X.env.scope scope own)
    (hg : ∀ (s : Shared) (H : Hp) (C : Addr) (cl : List (Str × Addr)) (fp : List Addr), LG (X.blk s H scope (compEnvC scope cl C X.env) fp) E tg ix as) (ht : ∀ (s : Shared) (H : Hp) (C : Addr) (cl : List (Str × Addr)) (fp : List Addr), LTs (X.blk s H scope (compEnvC scope cl C X.env) fp) E W0 ifs mt)
    (he : ∀ (s : Shared) (H : Hp) (C : Addr) (cl : List (Str × Addr)) (fp : List Addr), LE (X.blk s H scope (compEnvC scope cl C X.env) fp) E W0 elt me) (hix : ∀ i ∈ ix, i ∈ own.map (·.2)) (hoff : ∀ v ∈ own.map (·.2), Off E v) (hs : ∀ x, foldedSetIterable iter X.env x = pure x := by intro _; rfl) :
    LE X E W (.ListComp elt [⟨tg, iter, ifs, 0⟩] scope pos) (dLc (own.map (·.2)) mi as mt me) :=
  (pe_lc hc hN hi ok hg ht he hs).to fun _ _ _ h => rd_lc hix hoff h
theorem ls_setLc {i : Nat} {y : Str} {py spos : Pos} {elt tg iter : Expr} {ifs : List Expr} {scope : Scope} {mi : MI} {as : AG} {mt : MT} {me : ME} {ix : List Nat} (own : List (Str × Nat)) (hp : Off E i) (hc : X.calm = true) (hN : X.N.Nodup) (hy : X.N[i]? = some y) (hyl : X.env.scope.names.lookup y = some .local)
    (hsw : swapsWith (.ListComp elt [⟨tg, iter, ifs, 0⟩] scope pos) (some (.Name y py)) spos.line X.env = pure true) (hi : LI X E W tg iter mi) (ok : BlkOk X.N X.env.scope scope own)
    (hg : ∀ (s : Shared) (H : Hp) (C : Addr) (cl : List (Str × Addr)) (fp : List Addr), LG (X.blk s H scope (compEnvC scope cl C X.env) fp) E tg ix as) (ht : ∀ (s : Shared) (H : Hp) (C : Addr) (cl : List (Str × Addr)) (fp : List Addr), LTs (X.blk s H scope (compEnvC scope cl C X.env) fp) E W0 ifs mt)
    (he : ∀ (s : Shared) (H : Hp) (C : Addr) (cl : List (Str × Addr)) (fp : List Addr), LE (X.blk s H scope (compEnvC scope cl C X.env) fp) E W0 elt me) (hix : ∀ i ∈ ix, i ∈ own.map (·.2)) (hoff : ∀ v ∈ own.map (·.2), Off E v) (hs : ∀ x, foldedSetIterable iter X.env x = pure x := by intro _; rfl) :
    LS X E W (.Assign [.Name y py] (.ListComp elt [⟨tg, iter, ifs, 0⟩] scope pos) spos) (dSet i (dLc (own.map (·.2)) mi as mt me)) := by
  refine (ps_setLc (te := rdE X.K E W0 me) (tt := rdT X.K E W0 mt) (g := rdG X.K E ix as) hc hN hy hyl hsw hi ok hg ht he hs).to fun D σ H ⟨g, t, τ, Hf, R, F⟩ => ?_
  have h : rdE X.K E W (dLc (own.map (·.2)) mi as mt me) σ H (fun x H1 => gName i x σ H1 D.nx) := rdE_moreS R F fun v g2 Hf2 H2 o2 _ R2 F2 => F2 _ _ _ (R2.store hp)
  exact rd_lc hix hoff h
end
end L3
end

section
namespace L3
open PySem L2

section
variable {X : Cx} {E : Ent} {W : WX} {K : PySem.W.Frag} {g t : Gm} {σ τ : L2.St} {Hf H : Hp} {pos : Pos}

/-! ### what is walked -/
theorem walks_list {a : Addr} {ds : List D} {k : D} (hk : k = .lst ds ∨ k = .sq ds) : Walks K (Itl K a) ds [k] [.ref a] where
  go := fun i Hf H hi s r => by
    obtain ⟨vs, h1, h2⟩ : ∃ vs, SqL K H a vs ∧ RepFs K Hf ds vs := by
      have := r.2 0 k (.ref a) rfl rfl
      rcases hk with rfl | rfl
      · cases this with | lst h1 h2 h3 => exact ⟨_, .of (s _ _ h1), h2, h3⟩
      · cases this with | sq h1 h2 h3 => exact ⟨_, s.l h1, h2, h3⟩
    obtain ⟨v, e, _⟩ := h2.at (i := i) (d := ds[i]) (by simp [hi])
    exact ⟨vs, v, h1, e⟩
  stop := fun Hf H s r => by
    have := r.2 0 k (.ref a) rfl rfl
    rcases hk with rfl | rfl
    · cases this with | lst h1 h2 h3 => exact ⟨_, .of (s _ _ h1), by rw [h2]; exact Nat.le_refl _⟩
    · cases this with | sq h1 h2 h3 => exact ⟨_, s.l h1, by rw [h2]; exact Nat.le_refl _⟩
  yld := fun i Hf H x H' d hd s r y => by
    obtain ⟨rfl, y⟩ := y
    refine .inl ⟨rfl, ?_⟩
    have := r.2 0 k (.ref a) rfl rfl
    rcases hk with rfl | rfl
    · cases this with
      | lst h1 h2 h3 => exact h3 i d x hd (y _ (.of (s _ _ h1)))
    · cases this with
      | sq h1 h2 h3 => exact h3 i d x hd (y _ (s.l h1))
theorem walks_tup {a : Addr} {ds : List D} : Walks K (Itt K a) ds [.tup ds] [.ref a] where
  go := fun i Hf H hi s r => by
    have := r.2 0 (.tup ds) (.ref a) rfl rfl
    cases this with
    | tup h1 h2 h3 =>
      obtain ⟨v, e, _⟩ := RepFs.at ⟨h2, h3⟩ (i := i) (d := ds[i]) (by simp [hi])
      exact ⟨_, v, s.t h1, e⟩
  stop := fun Hf H s r => by
    have := r.2 0 (.tup ds) (.ref a) rfl rfl
    cases this with
    | tup h1 h2 h3 => exact ⟨_, s.t h1, by rw [h2]; exact Nat.le_refl _⟩
  yld := fun i Hf H x H' d hd s r y => by
    obtain ⟨rfl, y⟩ := y
    have := r.2 0 (.tup ds) (.ref a) rfl rfl
    cases this with
    | tup h1 h2 h3 => exact .inl ⟨rfl, h3 i d x hd (y _ (s.t h1))⟩
def signs (z : Str) : List D := z.cps.toList.map fun c => .str ⟨#[c]⟩
theorem walks_str {z : Str} : Walks K (Its z) (signs z) [] [] where
  go := fun i Hf H hi s r => by
    have : i < z.cps.size := by simpa [signs] using hi
    exact this
  stop := fun Hf H s r => by show z.cps.size ≤ (signs z).length; simp [signs]
  yld := fun i Hf H x H' d hd s r y => by
    obtain ⟨rfl, c, h1, rfl⟩ := y
    refine .inl ⟨rfl, ?_⟩
    simp only [signs, List.getElem?_map, Array.getElem?_toList, h1] at hd
    cases hd; exact .str
def rngD (lo : Int) (n : Nat) : List D := (List.range n).map fun k : Nat => .int (lo + (k : Int))
theorem walks_rng {lo : Int} {n : Nat} : Walks K (Itr lo n) (rngD lo n) [] [] where
  go := fun i Hf H hi s r => by
    have : i < n := by simpa [rngD] using hi
    exact this
  stop := fun Hf H s r => by show n ≤ (rngD lo n).length; simp [rngD]
  yld := fun i Hf H x H' d hd s r y => by
    obtain ⟨rfl, rfl⟩ := y
    refine .inl ⟨rfl, ?_⟩
    simp only [rngD, List.getElem?_map] at hd
    cases e : (List.range n)[i]? with
    | none => rw [e] at hd; cases hd
    | some k =>
      rw [e] at hd
      have : k = i := by
        obtain ⟨h1, h2⟩ := List.getElem?_eq_some_iff.mp e
        simpa using h2.symm
      subst this
      cases hd; exact .int
/-- a list, a tuple or a text is walked -/
def itemsD : D → Option (List D)
  | .lst xs => some xs
  | .sq xs => some xs
  | .tup xs => some xs
  | .str z => some (signs z)
  | _ => none
def dIt (me : ME) : MI := fun g => (me g).bind fun o g1 => match itemsD o.frz with
  | some ds => .ok ds g1
  | none => .no
def iAny (K : PySem.W.Frag) (te : TE) : TI := fun σ H R => te σ H fun x H1 => (∃ a, x = .ref a ∧ (∃ xs, SqL K H1 a xs) ∧ R (Itl K a) H1) ∨ (∃ a, x = .ref a ∧ (∃ xs, SqT K H1 a xs) ∧ R (Itt K a) H1) ∨ ∃ z, x = .str z ∧ R (Its z) H1
open PySem.Spec PyProof.Rows in
theorem pi_any {tg e : Expr} {te : TE} (he : PE X e te) : PI X tg e (iAny X.K te) := by
  refine ⟨fun pins s σ H R I h => ?_⟩
  refine thn (he.run pins s σ H _ I h) fun v s1 ⟨x, H1, I1, r1, q1⟩ => ?_
  rcases q1 with ⟨a, e, ⟨xs, hq⟩, q⟩ | ⟨a, e, ⟨xs, hq⟩, q⟩ | ⟨z, e, q⟩
  · subst e
    cases r1
    obtain ⟨its, rv, p, hz⟩ := I1.list hq
    exact wpAny_pyIter_list p.isList (pi_one (tk := s1.toks) I1 _ (turn_list a _) ⟨_, Heap.get?_push_size _ rfl, rfl, rfl⟩ q)
  · subst e
    cases r1
    obtain ⟨its, rv, p, hz⟩ := I1.tuple hq
    exact wpAny_pyIter_tuple (show s1.heap.IsTuple a its.toArray from p) (pi_one (tk := s1.toks) I1 _ (turn_tuple a _) ⟨_, Heap.get?_push_size _ rfl, rfl, rfl⟩ q)
  · subst e
    obtain ⟨t, rfl⟩ := r1
    cases ha : z.cps.all (· < 128)
    · exact wpAny_pyIter_wide ha (pi_one (tk := s1.toks) I1 _ (turn_str _ z t "str_iterator" (.inr rfl)) ⟨_, Heap.get?_push_size _ rfl, rfl, rfl⟩ q)
    · exact wpAny_pyIter_ascii ha (pi_one (tk := s1.toks) I1 _ (turn_str _ z t "str_ascii_iterator" (.inl rfl)) ⟨_, Heap.get?_push_size _ rfl, rfl, rfl⟩ q)
theorem li_it {tg e : Expr} {me : ME} (he : LE X E W e me) : LI X E W tg e (dIt me) := by
  refine (pi_any he).to fun σ H R ⟨g, t, τ, Hf, Rr, F⟩ => ?_
  refine ⟨g, t, τ, Hf, Rr, ?_⟩
  unfold dIt at F
  cases e : me g with
  | no => rw [e] at F; exact F
  | ex c fs g' => rw [e] at F; exact F
  | ok o g1 =>
    rw [e] at F
    intro v Hf1 H1 R1
    obtain ⟨Hf2, x2, R2⟩ := R1.freezeT
    have rp := R2.topF
    have R3 := R2.drop (t2 := [some (O.fz o.frz)]) (τ2 := [some v]) rfl
    rw [RE.bind_ok] at F
    cases e2 : itemsD o.frz with
    | none => rw [e2] at F; exact F.elim
    | some ds =>
      rw [e2] at F
      cases hf : o.frz with
      | lst xs =>
        rw [hf] at rp e2 R2; cases e2
        cases rp with
        | lst h1 h2 h3 => exact .inl ⟨_, rfl, ⟨_, .of (R3.rl.sub _ _ h1)⟩, F _ [.lst ds] [.ref _] Hf2 H1 rfl R2 (walks_list (.inl rfl))⟩
      | sq xs =>
        rw [hf] at rp e2 R2; cases e2
        cases rp with
        | sq h1 h2 h3 => exact .inl ⟨_, rfl, ⟨_, R3.rl.sub.l h1⟩, F _ [.sq ds] [.ref _] Hf2 H1 rfl R2 (walks_list (.inr rfl))⟩
      | tup xs =>
        rw [hf] at rp e2 R2; cases e2
        cases rp with
        | tup h1 h2 h3 => exact .inr (.inl ⟨_, rfl, ⟨_, R3.rl.sub.t h1⟩, F _ [.tup ds] [.ref _] Hf2 H1 rfl R2 walks_tup⟩)
      | str z =>
        rw [hf] at rp e2; cases e2
        cases rp
        exact .inr (.inr ⟨z, rfl, F _ [] [] Hf2 H1 rfl (by simpa using R3) walks_str⟩)
      | _ => rw [hf] at e2; cases e2
def R62 (i : Int) : Bool := decide (i.natAbs < 4611686018427387904)
def dRng1 (ma : MA) : MI := fun g => (ma g).bind fun os g1 => match os with
  | [.fz (.int j)] => if R62 j = true then .ok (rngD 0 j.toNat) g1 else .no
  | _ => .no
def dRng2 (ma : MA) : MI := fun g => (ma g).bind fun os g1 => match os with
  | [.fz (.int i), .fz (.int j)] => if R62 i = true ∧ R62 j = true then .ok (rngD i (j - i).toNat) g1 else .no
  | _ => .no
theorem r62 {i : Int} (h : R62 i = true) : -(2 ^ 62) ≤ i ∧ i < 2 ^ 62 := by
  unfold R62 at h
  simp only [decide_eq_true_eq] at h
  omega
theorem li_rng1 {tg a : Expr} {ma : MA} {p : Pos} (hg : Gl X "range") (hm : X.mg "range" = none) (ha : LA X E W [a] ma) (hs : starEach [a] X.env = [(false, eval a X.env)] := by rfl) : LI X E W tg (.Call (.Name "range" p) [a] [] pos) (dRng1 ma) := by
  refine (pi_range1 hg hm ha hs).to fun σ H R ⟨g, t, τ, Hf, Rr, F⟩ => ?_
  refine ⟨g, t, τ, Hf, Rr, ?_⟩
  unfold dRng1 at F
  cases e : ma g with
  | no => rw [e] at F; exact F
  | ex c fs g' => rw [e] at F; exact F
  | ok os g1 =>
    rw [e] at F
    intro vs Hf1 H1 hl R1
    rw [RE.bind_ok] at F
    split at F
    · rename_i j
      split at F
      · rename_i hb
        match vs, hl with
        | [v], _ =>
          have := R1.topF
          cases this
          exact ⟨j, rfl, (r62 hb).1, (r62 hb).2, F _ [] [] Hf1 H1 rfl (by simpa using R1.drop (t2 := [some (O.fz (.int j))]) (τ2 := [some (.int j)]) rfl) walks_rng⟩
      · exact F.elim
    · exact F.elim
theorem li_rng2 {tg a b : Expr} {ma : MA} {p : Pos} (hg : Gl X "range") (hm : X.mg "range" = none) (ha : LA X E W [a, b] ma) (hs : starEach [a, b] X.env = [(false, eval a X.env), (false, eval b X.env)] := by rfl) (hs2 : starEach [b] X.env = [(false, eval b X.env)] := by rfl) :
    LI X E W tg (.Call (.Name "range" p) [a, b] [] pos) (dRng2 ma) := by
  refine (pi_range2 hg hm ha hs hs2).to fun σ H R ⟨g, t, τ, Hf, Rr, F⟩ => ?_
  refine ⟨g, t, τ, Hf, Rr, ?_⟩
  unfold dRng2 at F
  cases e : ma g with
  | no => rw [e] at F; exact F
  | ex c fs g' => rw [e] at F; exact F
  | ok os g1 =>
    rw [e] at F
    intro vs Hf1 H1 hl R1
    rw [RE.bind_ok] at F
    split at F
    · rename_i i j
      split at F
      · rename_i hb
        match vs, hl with
        | [v, w], _ =>
          have R2 : Rdy X.K E g1 (t ++ [some (O.fz (.int i))] ++ [some (O.fz (.int j))]) σ (τ ++ [some v] ++ [some w]) Hf1 H1 := by simpa using R1
          have := R2.topF
          cases this
          have R3 := R2.drop (t2 := [some (O.fz (.int j))]) (τ2 := [some (.int j)]) rfl
          have := R3.topF
          cases this
          exact ⟨i, j, rfl, ⟨(r62 hb.1).1, (r62 hb.1).2, (r62 hb.2).1, (r62 hb.2).2⟩, F _ [] [] Hf1 H1 rfl (by simpa using R3.drop (t2 := [some (O.fz (.int i))]) (τ2 := [some (.int i)]) rfl) walks_rng⟩
      · exact F.elim
    · exact F.elim

/-! ### builtins that are called -/
def RepOs (K : PySem.W.Frag) (Hf H : Hp) (os : List O) (vs : List V) : Prop := os.length = vs.length ∧ ∀ (i : Nat) (o : O) (v : V), os[i]? = some o → vs[i]? = some v → RepO K Hf H o v
theorem RepOs.uncons {o : O} {os : List O} {vs : List V} (h : RepOs K Hf H (o :: os) vs) : ∃ v r, vs = v :: r ∧ RepO K Hf H o v ∧ RepOs K Hf H os r := by
  cases vs with
  | nil => exact absurd h.1 (by simp)
  | cons v r => exact ⟨v, r, rfl, h.2 0 o v rfl rfl, by simpa using h.1, fun i e u h1 h2 => h.2 (i + 1) e u (by simpa using h1) (by simpa using h2)⟩
theorem RepOs.nil_of {vs : List V} (h : RepOs K Hf H [] vs) : vs = [] := by
  cases vs with
  | nil => rfl
  | cons v r => exact absurd h.1 (by simp)
theorem RepFs.os {ds : List D} {vs : List V} (h : RepFs K Hf ds vs) : RepOs K Hf H (ds.map .fz) vs := ⟨by simpa using h.1, fun i o v e1 e2 => by
  simp only [List.getElem?_map] at e1
  cases e : ds[i]? with
  | none => rw [e] at e1; cases e1
  | some d => rw [e] at e1; cases e1; exact .fz (h.2 i d v e e2)⟩
def PureC (K : PySem.W.Frag) (r : List V → Hp → VK → Prop) (φ : List D → Option O) : Prop :=
  ∀ (Hf H : Hp) (os : List O) (vs : List V) (o : O) (Q : VK), Ex Hf H → φ (os.map O.frz) = some o → RepOs K Hf H os vs → (∀ z Hf' H', Yld K Hf H o z Hf' H' → Q z H') → r vs H Q
def dCall (φ : List D → Option O) (ma : MA) : ME := fun g => (ma g).bind fun os g1 => optO (φ (os.map O.frz)) g1
theorem frz_fz (ds : List D) : (ds.map O.fz).map O.frz = ds := by simp [Function.comp_def, O.frz]
theorem rd_call {r : List V → Hp → VK → Prop} {φ : List D → Option O} {ma : MA} (hφ : PureC K r φ) {Q : VK} (h : rdE K E W (dCall φ ma) σ H Q) : rdA K E W ma σ H fun vs H1 => r vs H1 Q := by
  obtain ⟨g, t, τ, Hf, R, F⟩ := h
  refine rdA_more (t2 := []) (τ2 := []) rfl (by simpa using R) F fun vs g1 Hf1 H1 os _ hl R1 F1 => ?_
  simp only [List.append_nil] at R1
  obtain ⟨Hf2, x2, x3, r2, R2⟩ := Rdy.freezeA rfl hl R1
  cases e : φ (os.map O.frz) with
  | none => rw [e] at F1; exact F1.elim
  | some o =>
    rw [e] at F1
    exact hφ Hf2 H1 _ vs o Q x3 (by rw [frz_fz]; exact e) r2.os fun z Hf' H' y => F1 z Hf' H' (R2.yld y)
/-- .. of a slot's thing, which stays as it is -/
def dCallS (φ : List D → Option O) (i : Nat) : ME := fun g => match g[i]? with
  | some (some o) => optO (φ [o.frz]) g
  | _ => .no
theorem rd_callS {r : List V → Hp → VK → Prop} {φ : List D → Option O} {i : Nat} (hφ : PureC K r φ) {Q : VK} (h : rdE K E W (dCallS φ i) σ H Q) : ∃ v, σ[i]? = some (some v) ∧ r [v] H Q := by
  obtain ⟨g, t, τ, Hf, R, F⟩ := h
  unfold dCallS at F
  cases e0 : g[i]? with
  | none => rw [e0] at F; exact F.elim
  | some s0 =>
    cases s0 with
    | none => rw [e0] at F; exact F.elim
    | some o =>
      rw [e0] at F
      dsimp only at F
      obtain ⟨v, h1, h2⟩ := R.slot e0
      refine ⟨v, h1, ?_⟩
      cases e : φ [o.frz] with
      | none => rw [e] at F; exact F.elim
      | some o' =>
        rw [e] at F
        exact hφ Hf H [o] [v] o' Q R.rl.sub e ⟨rfl, fun j p q h3 h4 => by
          cases j with
          | zero => cases h3; cases h4; exact h2
          | succ j => cases h3⟩ fun z Hf' H' y => F z Hf' H' (R.yld y)
variable {e : Expr} {es : List Expr} {x y : Str} {id T : String} {r : List V → Hp → VK → Prop} {φ : List D → Option O} {ma : MA} {p : Pos} {i : Nat}
theorem le_callB (hc : CallR X (.builtin id) r) (hφ : PureC X.K r φ) (hg : Gl X x) (hm : X.mg x = none) (hv : bootBuiltins x = some (.builtin id)) (ha : LA X E W (e :: es) ma) (hn : x ≠ "__name__" := by decide) (hdb : (x == ("__debug__" : Str)) = false := by decide)
    (hs : starEach (e :: es) X.env = (false, eval e X.env) :: starEach es X.env := by rfl) (hpl : (backTo pos (starEach es X.env)).any (·.1) = false := by rfl) : LE X E W (.Call (.Name x p) (e :: es) [] pos) (dCall φ ma) :=
  (pe_callB hc hg hm hv ha hn hdb hs hpl).to fun _ _ _ h => rd_call hφ h
theorem le_callT (hc : CallR X (.type T) r) (hφ : PureC X.K r φ) (hg : Gl X x) (hm : X.mg x = none) (hv : bootBuiltins x = some (.type T)) (ha : LA X E W (e :: es) ma) (hn : x ≠ "__name__" := by decide) (hdb : (x == ("__debug__" : Str)) = false := by decide)
    (hs : starEach (e :: es) X.env = (false, eval e X.env) :: starEach es X.env := by rfl) (hpl : (backTo pos (starEach es X.env)).any (·.1) = false := by rfl) : LE X E W (.Call (.Name x p) (e :: es) [] pos) (dCall φ ma) :=
  (pe_callTy hc hg hm hv ha hn hdb hs hpl).to fun _ _ _ h => rd_call hφ h
end
end L3
end

section
namespace L3
open PySem L2

section
variable {X : Cx} {E : Ent} {W : WX} {K : PySem.W.Frag} {g t : Gm} {σ τ : L2.St} {Hf H : Hp} {pos : Pos}
variable {e : Expr} {es : List Expr} {x y : Str} {id T : String} {r : List V → Hp → VK → Prop} {φ : List D → Option O} {ma : MA} {p p2 : Pos} {i : Nat}

/-! ### further calls -/
theorem le_callM (hc : CallR X (.builtin id) r) (hφ : PureC X.K r φ) (hg : Gl X x) (hm : X.mg x = some (.builtin id)) (ha : LA X E W (e :: es) ma) (hdb : (x == ("__debug__" : Str)) = false := by decide)
    (hs : starEach (e :: es) X.env = (false, eval e X.env) :: starEach es X.env := by rfl) (hpl : (backTo pos (starEach es X.env)).any (·.1) = false := by rfl) : LE X E W (.Call (.Name x p) (e :: es) [] pos) (dCall φ ma) :=
  (pe_callBfun hc hg hm ha hdb hs hpl).to fun _ _ _ h => rd_call hφ h
theorem le_callBS (hc : CallR X (.builtin id) r) (hφ : PureC X.K r φ) (hg : Gl X x) (hm : X.mg x = none) (hv : bootBuiltins x = some (.builtin id)) (hN : X.N[i]? = some y) (hvy : Vis X.env.scope y)
    (hd : (y == ("__debug__" : Str)) = false := by decide) (hcd : (y == ("__classdict__" : Str)) = false := by decide) (hn : x ≠ "__name__" := by decide) (hdb : (x == ("__debug__" : Str)) = false := by decide)
    (hs : starEach [.Name y p2] X.env = (false, eval (.Name y p2) X.env) :: starEach [] X.env := by rfl) (hpl : (backTo pos (starEach [] X.env)).any (·.1) = false := by rfl) : LE X E W (.Call (.Name x p) [.Name y p2] [] pos) (dCallS φ i) :=
  (pe_callB hc hg hm hv (pa_cons (pe_var hN hvy hd hcd) pa_nil hs) hn hdb hs hpl).to fun σ H Q h => rd_callS hφ h
theorem le_callTS (hc : CallR X (.type T) r) (hφ : PureC X.K r φ) (hg : Gl X x) (hm : X.mg x = none) (hv : bootBuiltins x = some (.type T)) (hN : X.N[i]? = some y) (hvy : Vis X.env.scope y)
    (hd : (y == ("__debug__" : Str)) = false := by decide) (hcd : (y == ("__classdict__" : Str)) = false := by decide) (hn : x ≠ "__name__" := by decide) (hdb : (x == ("__debug__" : Str)) = false := by decide)
    (hs : starEach [.Name y p2] X.env = (false, eval (.Name y p2) X.env) :: starEach [] X.env := by rfl) (hpl : (backTo pos (starEach [] X.env)).any (·.1) = false := by rfl) : LE X E W (.Call (.Name x p) [.Name y p2] [] pos) (dCallS φ i) :=
  (pe_callTy hc hg hm hv (pa_cons (pe_var hN hvy hd hcd) pa_nil hs) hn hdb hs hpl).to fun σ H Q h => rd_callS hφ h

/-! ### what a thing is -/
theorem RepO.val {o : O} {v : V} (h : RepO K Hf H o v) {d : D} (e : o.frz = d) (hd : ∀ a, v ≠ .ref a) : RepF K Hf d v := by
  cases h with
  | fz r => cases e; exact r
  | _ => exact absurd rfl (hd _)
theorem RepO.int {o : O} {v : V} {i : Int} (h : RepO K Hf H o v) (e : o.frz = .int i) : v = .int i := by
  cases h with
  | fz r => simp only [O.frz] at e; subst e; cases r; rfl
  | _ => cases e
theorem RepO.bl {o : O} {v : V} {b : Bool} (h : RepO K Hf H o v) (e : o.frz = .bl b) : v = .bl b := by
  cases h with
  | fz r => simp only [O.frz] at e; subst e; cases r; rfl
  | _ => cases e
theorem RepO.str {o : O} {v : V} {z : Str} (h : RepO K Hf H o v) (e : o.frz = .str z) : v = .str z := by
  cases h with
  | fz r => simp only [O.frz] at e; subst e; cases r; rfl
  | _ => cases e
def seqL : D → Option (List D)
  | .lst xs => some xs
  | .sq xs => some xs
  | _ => none
theorem RepO.seqL {o : O} {v : V} {xs : List D} (s : Ex Hf H) (h : RepO K Hf H o v) (e : L3.seqL o.frz = some xs) : ∃ a vs, v = .ref a ∧ SqL K H a vs ∧ RepFs K Hf xs vs := by
  cases h with
  | fz r =>
    cases r with
    | lst h1 h2 h3 => cases e; exact ⟨_, _, rfl, .of (s _ _ h1), h2, h3⟩
    | sq h1 h2 h3 => cases e; exact ⟨_, _, rfl, s.l h1, h2, h3⟩
    | _ => cases e
  | ol h1 h2 => cases e; exact ⟨_, _, rfl, .of h1, h2⟩
  | _ => cases e
theorem RepO.tup {o : O} {v : V} {xs : List D} (s : Ex Hf H) (h : RepO K Hf H o v) (e : o.frz = .tup xs) : ∃ a vs, v = .ref a ∧ SqT K H a vs ∧ RepFs K Hf xs vs := by
  cases h with
  | fz r => simp only [O.frz] at e; subst e; cases r with | tup h1 h2 h3 => exact ⟨_, _, rfl, s.t h1, h2, h3⟩
  | _ => cases e
def intD : D → Option Int
  | .int i => some i
  | _ => none
def strD : D → Option Str
  | .str i => some i
  | _ => none
def blD : D → Option Bool
  | .bl i => some i
  | _ => none
def allD {α : Type} (f : D → Option α) : List D → Option (List α)
  | [] => some []
  | d :: ds => match f d, allD f ds with
    | some a, some as => some (a :: as)
    | _, _ => none
theorem allD_rep {α : Type} {f : D → Option α} {h : α → V} (hf : ∀ d a H v, f d = some a → RepF K H d v → v = h a) : ∀ {ds : List D} {as : List α} {vs : List V}, allD f ds = some as → RepFs K Hf ds vs → vs = as.map h
  | [], as, vs, e, r => by cases e; exact r.nil_of
  | d :: ds, as, vs, e, r => by
    obtain ⟨v, vr, rfl, r1, r2⟩ := r.uncons
    unfold allD at e
    split at e
    · rename_i a as' e1 e2
      cases e
      rw [hf d a Hf v e1 r1, allD_rep hf e2 r2]; rfl
    · cases e
theorem ints_rep {ds : List D} {ns : List Int} {vs : List V} (e : allD intD ds = some ns) (r : RepFs K Hf ds vs) : vs = ns.map V.int := allD_rep (fun d a H v h r => by cases d <;> cases h; cases r; rfl) e r
theorem strs_rep {ds : List D} {ns : List Str} {vs : List V} (e : allD strD ds = some ns) (r : RepFs K Hf ds vs) : vs = ns.map V.str := allD_rep (fun d a H v h r => by cases d <;> cases h; cases r; rfl) e r
theorem bls_rep {ds : List D} {ns : List Bool} {vs : List V} (e : allD blD ds = some ns) (r : RepFs K Hf ds vs) : vs = ns.map V.bl := allD_rep (fun d a H v h r => by cases d <;> cases h; cases r; rfl) e r
theorem rep_ints {ns : List Int} : RepFs K H (ns.map D.int) (ns.map V.int) := ⟨by simp, fun i d v e1 e2 => by
  simp only [List.getElem?_map] at e1 e2
  cases e : ns[i]? with
  | none => rw [e] at e1; cases e1
  | some n => rw [e] at e1 e2; cases e1; cases e2; exact .int⟩
theorem rep_strs {ns : List Str} : RepFs K H (ns.map D.str) (ns.map V.str) := ⟨by simp, fun i d v e1 e2 => by
  simp only [List.getElem?_map] at e1 e2
  cases e : ns[i]? with
  | none => rw [e] at e1; cases e1
  | some n => rw [e] at e1 e2; cases e1; cases e2; exact .str⟩

/-! ### the functions -/
def fOne (f : D → Option O) : List D → Option O
  | [d] => f d
  | _ => none
def fTwo (f : D → D → Option O) : List D → Option O
  | [d, d'] => f d d'
  | _ => none
theorem c_one {f : D → Option O} (h : ∀ (Hf H : Hp) (o' : O) (v : V) (o : O) (Q : VK), Ex Hf H → f o'.frz = some o → RepO K Hf H o' v → (∀ z Hf' H', Yld K Hf H o z Hf' H' → Q z H') → r [v] H Q) : PureC K r (fOne f) := by
  intro Hf H os vs o Q s e rs q
  match os, e with
  | [o'], e =>
    obtain ⟨v, vr, rfl, r1, r2⟩ := rs.uncons
    rw [r2.nil_of]
    exact h Hf H o' v o Q s e r1 q
theorem c_two {f : D → D → Option O} (h : ∀ (Hf H : Hp) (o1 o2 : O) (v w : V) (o : O) (Q : VK), Ex Hf H → f o1.frz o2.frz = some o → RepO K Hf H o1 v → RepO K Hf H o2 w → (∀ z Hf' H', Yld K Hf H o z Hf' H' → Q z H') → r [v, w] H Q) : PureC K r (fTwo f) := by
  intro Hf H os vs o Q s e rs q
  match os, e with
  | [o1, o2], e =>
    obtain ⟨v, vr, rfl, r1, rs⟩ := rs.uncons
    obtain ⟨w, vr, rfl, r2, r3⟩ := rs.uncons
    rw [r3.nil_of]
    exact h Hf H o1 o2 v w o Q s e r1 r2 q
def fInt1D : D → Option O
  | .int i => some (.fz (.int i))
  | .bl b => some (.fz (.int (if b then 1 else 0)))
  | _ => none
theorem c_int : PureC K (fun xs H Q => (∃ i, xs = [.int i] ∧ Q (.int i) H) ∨ ∃ k, xs = [.bl k] ∧ Q (.int (if k then 1 else 0)) H) (fOne fInt1D) := c_one fun Hf H o' v o Q s e r1 q => by
  cases hf : o'.frz <;> rw [hf] at e <;> try cases e
  · rw [r1.bl hf]; exact .inr ⟨_, rfl, q _ _ _ (.val .int)⟩
  · rw [r1.int hf]; exact .inl ⟨_, rfl, q _ _ _ (.val .int)⟩
def fAbsD : D → Option O
  | .int i => some (.fz (.int (if i < 0 then -i else i)))
  | _ => none
theorem c_abs : PureC K (fun xs H Q => ∃ i, xs = [.int i] ∧ Q (.int (if i < 0 then -i else i)) H) (fOne fAbsD) := c_one fun Hf H o' v o Q s e r1 q => by
  cases hf : o'.frz <;> rw [hf] at e <;> try cases e
  rw [r1.int hf]; exact ⟨_, rfl, q _ _ _ (.val .int)⟩
def fMax2D : D → D → Option O
  | .int i, .int j => some (.fz (.int (if j > i then j else i)))
  | _, _ => none
def fMin2D : D → D → Option O
  | .int i, .int j => some (.fz (.int (if j < i then j else i)))
  | _, _ => none
theorem c_max2 : PureC K (fun xs H Q => ∃ i j, xs = [.int i, .int j] ∧ Q (.int (if j > i then j else i)) H) (fTwo fMax2D) := c_two fun Hf H o1 o2 v w o Q s e r1 r2 q => by
  cases hf : o1.frz <;> cases hg : o2.frz <;> rw [hf, hg] at e <;> try cases e
  rw [r1.int hf, r2.int hg]; exact ⟨_, _, rfl, q _ _ _ (.val .int)⟩
theorem c_min2 : PureC K (fun xs H Q => ∃ i j, xs = [.int i, .int j] ∧ Q (.int (if j < i then j else i)) H) (fTwo fMin2D) := c_two fun Hf H o1 o2 v w o Q s e r1 r2 q => by
  cases hf : o1.frz <;> cases hg : o2.frz <;> rw [hf, hg] at e <;> try cases e
  rw [r1.int hf, r2.int hg]; exact ⟨_, _, rfl, q _ _ _ (.val .int)⟩
def fGcdD : D → D → Option O
  | .int i, .int j => some (.fz (.int ((Nat.gcd i.natAbs j.natAbs : Nat) : Int)))
  | _, _ => none
theorem c_gcd : PureC K rGcd (fTwo fGcdD) := c_two fun Hf H o1 o2 v w o Q s e r1 r2 q => by
  cases hf : o1.frz <;> cases hg : o2.frz <;> rw [hf, hg] at e <;> try cases e
  rw [r1.int hf, r2.int hg]; exact ⟨_, _, rfl, q _ _ _ (.val .int)⟩
def fLenD : D → Option O
  | .str z => if z.length ≤ big then some (.fz (.int (z.length : Nat))) else none
  | .lst xs => some (.fz (.int (xs.length : Nat)))
  | .sq xs => some (.fz (.int (xs.length : Nat)))
  | .tup xs => some (.fz (.int (xs.length : Nat)))
  | _ => none
theorem c_len : PureC K (fun xs H Q => ∃ x n, xs = [x] ∧ LenV K x H n ∧ Q (.int n) H) (fOne fLenD) := c_one fun Hf H o' v o Q s e r1 q => by
  cases hf : o'.frz <;> rw [hf] at e <;> simp only [fLenD] at e <;> try cases e
  · split at e
    · cases e
      rw [r1.str hf]; exact ⟨_, _, rfl, ⟨by rw [← big_eq]; assumption, rfl⟩, q _ _ _ (.val .int)⟩
    · cases e
  · obtain ⟨a, vs, rfl, h1, h2⟩ := r1.tup s hf
    exact ⟨_, _, rfl, .inr ⟨vs, h1, rfl⟩, q _ _ _ (.val (by rw [h2.1]; exact .int))⟩
  · obtain ⟨a, vs, rfl, h1, h2⟩ := r1.seqL s (by rw [hf]; rfl)
    exact ⟨_, _, rfl, .inl ⟨vs, h1, rfl⟩, q _ _ _ (.val (by rw [h2.1]; exact .int))⟩
  · obtain ⟨a, vs, rfl, h1, h2⟩ := r1.seqL s (by rw [hf]; rfl)
    exact ⟨_, _, rfl, .inl ⟨vs, h1, rfl⟩, q _ _ _ (.val (by rw [h2.1]; exact .int))⟩
def fSumD : D → Option O := fun d => match seqL d with
  | some xs => (allD intD xs).map fun ns => .fz (.int ns.sum)
  | none => none
def fAnyD : D → Option O := fun d => match seqL d with
  | some xs => (allD blD xs).map fun ns => .fz (.bl (ns.any _root_.id))
  | none => none
def fAllD : D → Option O := fun d => match seqL d with
  | some xs => (allD blD xs).map fun ns => .fz (.bl (ns.all _root_.id))
  | none => none
theorem c_sum : PureC K (rSum K) (fOne fSumD) := c_one fun Hf H o' v o Q s e r1 q => by
  unfold fSumD at e
  cases e1 : seqL o'.frz with
  | none => rw [e1] at e; cases e
  | some xs =>
    rw [e1] at e
    obtain ⟨a, vs, rfl, h1, h2⟩ := r1.seqL s e1
    dsimp only at e
    cases e2 : allD intD xs with
    | none => rw [e2] at e; cases e
    | some ns => rw [e2] at e; cases e; exact ⟨a, ns, rfl, by rw [← ints_rep e2 h2]; exact h1, q _ _ _ (.val .int)⟩
theorem c_any : PureC K (rAny K) (fOne fAnyD) := c_one fun Hf H o' v o Q s e r1 q => by
  unfold fAnyD at e
  cases e1 : seqL o'.frz with
  | none => rw [e1] at e; cases e
  | some xs =>
    rw [e1] at e
    obtain ⟨a, vs, rfl, h1, h2⟩ := r1.seqL s e1
    dsimp only at e
    cases e2 : allD blD xs with
    | none => rw [e2] at e; cases e
    | some ns => rw [e2] at e; cases e; exact ⟨a, ns, rfl, by rw [← bls_rep e2 h2]; exact h1, q _ _ _ (.val .bl)⟩
theorem c_all : PureC K (rAll K) (fOne fAllD) := c_one fun Hf H o' v o Q s e r1 q => by
  unfold fAllD at e
  cases e1 : seqL o'.frz with
  | none => rw [e1] at e; cases e
  | some xs =>
    rw [e1] at e
    obtain ⟨a, vs, rfl, h1, h2⟩ := r1.seqL s e1
    dsimp only at e
    cases e2 : allD blD xs with
    | none => rw [e2] at e; cases e
    | some ns => rw [e2] at e; cases e; exact ⟨a, ns, rfl, by rw [← bls_rep e2 h2]; exact h1, q _ _ _ (.val .bl)⟩
def fListD : D → Option O
  | .lst xs => some (.ol xs)
  | .sq xs => some (.ol xs)
  | .tup xs => some (.ol xs)
  | _ => none
theorem c_list : PureC K (fun xs H Q => ∃ p ys, xs = [.ref p] ∧ (SqL K H p ys ∨ SqT K H p ys) ∧ ∀ l, H l = none → Q (.ref l) (upd H l (.lst ys))) (fOne fListD) := c_one fun Hf H o' v o Q s e r1 q => by
  have go : ∀ {xs : List D} {a : Addr} {vs : List V}, o = .ol xs → RepFs K Hf xs vs → ∀ l, H l = none → Q (.ref l) (upd H l (.lst vs)) := fun {xs a vs} eo h2 l hl => by
    subst eo; exact q _ _ _ (.newO hl (.ol upd_same h2))
  cases hf : o'.frz <;> rw [hf] at e <;> simp only [fListD] at e <;> try cases e
  · obtain ⟨a, vs, rfl, h1, h2⟩ := r1.tup s hf
    exact ⟨a, vs, rfl, .inr h1, go (a := a) rfl h2⟩
  · obtain ⟨a, vs, rfl, h1, h2⟩ := r1.seqL s (by rw [hf]; rfl)
    exact ⟨a, vs, rfl, .inl h1, go (a := a) rfl h2⟩
  · obtain ⟨a, vs, rfl, h1, h2⟩ := r1.seqL s (by rw [hf]; rfl)
    exact ⟨a, vs, rfl, .inl h1, go (a := a) rfl h2⟩
def fTupleD : D → Option O
  | .lst xs => some (.fz (.tup xs))
  | .sq xs => some (.fz (.tup xs))
  | .tup xs => some (.fz (.tup xs))
  | _ => none
theorem c_tuple : PureC K (fun xs H Q => ∃ p ys, xs = [.ref p] ∧ ((SqL K H p ys ∧ ∀ l, H l = none → Q (.ref l) (upd H l (.tup ys))) ∨ (SqT K H p ys ∧ Q (.ref p) H))) (fOne fTupleD) := c_one fun Hf H o' v o Q s e r1 q => by
  have go : ∀ {xs : List D} {a : Addr} {vs : List V}, o = .fz (.tup xs) → RepFs K Hf xs vs → ∀ l, H l = none → Q (.ref l) (upd H l (.tup vs)) := fun {xs a vs} eo h2 l hl => by
    subst eo
    have h3 := h2.mono (Ex.new (o := .tup vs) (s.fresh hl))
    exact q _ _ _ (.newF hl (.tup (.of upd_same) h3.1 h3.2))
  cases hf : o'.frz <;> rw [hf] at e <;> simp only [fTupleD] at e <;> try cases e
  · obtain ⟨a, vs, rfl, h1, h2⟩ := r1.tup s hf
    have : RepF K Hf o'.frz (.ref a) := by
      cases r1 with
      | fz r => exact r
      | _ => cases hf
    rw [hf] at this
    exact ⟨a, vs, rfl, .inr ⟨h1, q _ _ _ (.val this)⟩⟩
  · obtain ⟨a, vs, rfl, h1, h2⟩ := r1.seqL s (by rw [hf]; rfl)
    exact ⟨a, vs, rfl, .inl ⟨h1, go (a := a) rfl h2⟩⟩
  · obtain ⟨a, vs, rfl, h1, h2⟩ := r1.seqL s (by rw [hf]; rfl)
    exact ⟨a, vs, rfl, .inl ⟨h1, go (a := a) rfl h2⟩⟩
def fStrID : D → Option O
  | .int i => if i.natAbs.log2 < 1920 then some (.fz (.str (toString i))) else none
  | _ => none
theorem c_strI : PureC K (fun xs H Q => ∃ i : Int, xs = [.int i] ∧ i.natAbs.log2 < 1920 ∧ Q (.str (toString i)) H) (fOne fStrID) := c_one fun Hf H o' v o Q s e r1 q => by
  cases hf : o'.frz <;> rw [hf] at e <;> simp only [fStrID] at e <;> try cases e
  split at e
  · cases e; rw [r1.int hf]; exact ⟨_, rfl, by assumption, q _ _ _ (.val .str)⟩
  · cases e
/-- isinstance -/
structure IsC (K : PySem.W.Frag) (C : Addr) : Prop where
  cl : Cls K C
  ha : PySem.W.findIn K (.ref C) "__class__" = some (some (.builtin "object.__class__"))
  hn : PySem.W.specialIn K (.builtin "object.__class__") "__get__" = some (some (.builtin "getset_descriptor.__get__"))
  ht : PySem.W.takesIn K (.builtin "object.__class__") = some true
  hm : PySem.W.mroIn K C (.type "object") = some true
def tyD : D → Option Value
  | .non => some (.type "NoneType")
  | .bl _ => some (.type "bool")
  | .int _ => some (.type "int")
  | .str _ => some (.type "str")
  | .tup _ => some (.type "tuple")
  | .lst _ => some (.type "list")
  | .dK _ => some (.type "dict")
  | .ins C _ => some (.ref C)
  | _ => none
def clD : D → Option Value
  | .ty n => some (.type n)
  | .adr C => some (.ref C)
  | _ => none
/-- the answers, by a table kit -/
def isiD (kit : Value → Value → Option Bool) : D → D → Option O := fun x c => match tyD x, clD c with
  | some t, some u => (kit t u).map fun b => .fz (.bl b)
  | _, _ => none
structure Kit (K : PySem.W.Frag) (kit : Value → Value → Option Bool) : Prop where
  ok : ∀ t u b, kit t u = some b → PySem.W.kitOne K t u = some b
  cl : ∀ C u b, kit (.ref C) u = some b → IsC K C
theorem tyX_of {kit : Value → Value → Option Bool} (k : Kit K kit) {o : O} {v : V} {t u : Value} {b : Bool} (s : Ex Hf H) (h : RepO K Hf H o v) (e : tyD o.frz = some t) (hk : kit t u = some b) : TyX K H v t := by
  cases h with
  | fz r =>
    cases r with
    | non => cases e; exact .base .non
    | bl => cases e; exact .base (.bl _)
    | int => cases e; exact .base (.int _)
    | str => cases e; exact .base (.str _)
    | lst h1 _ _ => cases e; exact .base (.lst (s _ _ h1))
    | @tup xs a vs h1 _ _ =>
      cases e
      exact .base (.tup (s.tp h1))
    | ins h1 _ _ => cases e; exact .base (let c := k.cl _ _ _ hk; .ins (s _ _ h1) c.cl c.ha c.hn c.ht c.hm)
    | dK h1 _ _ =>
      cases e
      rcases s.rd h1 with h1 | ⟨o, h1⟩
      · exact .base (.dK h1)
      · exact .fDict h1
    | _ => cases e
  | ol h1 _ => cases e; exact .base (.lst h1)
  | oi h1 _ => cases e; exact .base (let c := k.cl _ _ _ hk; .ins h1 c.cl c.ha c.hn c.ht c.hm)
  | odK h1 _ => cases e; exact .base (.dK h1)
  | odT h1 _ => cases e
theorem clsV_of {K : PySem.W.Frag} {Hf H : Hp} {o : O} {v : V} {u : Value} (h : RepO K Hf H o v) (e : clD o.frz = some u) : ClsV v u := by
  cases h with
  | fz r => cases r <;> cases e <;> constructor
  | _ => cases e
theorem c_isi {kit : Value → Value → Option Bool} (k : Kit K kit) : PureC K (rIsi K) (fTwo (isiD kit)) := c_two fun Hf H o1 o2 v w o Q s e r1 r2 q => by
  unfold isiD at e
  cases e1 : tyD o1.frz with
  | none => rw [e1] at e; cases e
  | some t =>
    cases e2 : clD o2.frz with
    | none => rw [e1, e2] at e; cases e
    | some u =>
      rw [e1, e2] at e
      dsimp only at e
      cases e3 : kit t u with
      | none => rw [e3] at e; cases e
      | some b => rw [e3] at e; cases e; exact ⟨v, w, t, u, b, rfl, clsV_of r2 e2, tyX_of k s r1 e1 e3, k.ok _ _ _ e3, q _ _ _ (.val .bl)⟩
/-- isinstance(x, (T1, T2, ..)) -/
def kitAnyD (kit : Value → Value → Option Bool) (t : Value) : List Value → Option Bool
  | [] => some false
  | c :: r => match kit t c with
    | some true => some true
    | some false => kitAnyD kit t r
    | none => none
theorem kitAnyD_ok {kit : Value → Value → Option Bool} (k : Kit K kit) {t : Value} {b : Bool} : ∀ {us : List Value}, kitAnyD kit t us = some b → PySem.W.kitAny K t us = some b
  | [], e => e
  | c :: r, e => by
    unfold kitAnyD at e
    unfold PySem.W.kitAny
    split at e
    · rename_i h; rw [k.ok _ _ _ h]; exact e
    · rename_i h; rw [k.ok _ _ _ h]; exact kitAnyD_ok k e
    · cases e
def isiTD (kit : Value → Value → Option Bool) : D → D → Option O := fun x c => match c with
  | .tup cs => match tyD x, allD clD cs with
    | some t, some (u :: us) => (kitAnyD kit t (u :: us)).map fun b => .fz (.bl b)
    | _, _ => none
  | _ => none
theorem clsVs_of {cs : List D} {vs : List V} {us : List Value} (e : allD clD cs = some us) (r : RepFs K Hf cs vs) : Paired ClsV vs us := by
  induction cs generalizing vs us with
  | nil => cases e; rw [r.nil_of]; exact .nil
  | cons d ds ih =>
    obtain ⟨v, vr, rfl, r1, r2⟩ := r.uncons
    unfold allD at e
    split at e
    · rename_i a as' e1 e2
      cases e
      exact .cons (clsV_of (H := Hf) (.fz r1) e1) (ih e2 r2)
    · cases e
theorem c_isiT {kit : Value → Value → Option Bool} (k : Kit K kit) : PureC K (rIsiT K) (fTwo (isiTD kit)) := c_two fun Hf H o1 o2 v w o Q s e r1 r2 q => by
  unfold isiTD at e
  split at e
  · rename_i cs hc
    cases e1 : tyD o1.frz with
    | none => rw [e1] at e; cases e
    | some t =>
      cases e2 : allD clD cs with
      | none => rw [e1, e2] at e; cases e
      | some us =>
        rw [e1, e2] at e
        cases us with
        | nil => cases e
        | cons u us =>
          dsimp only at e
          cases e3 : kitAnyD kit t (u :: us) with
          | none => rw [e3] at e; cases e
          | some b =>
            rw [e3] at e; cases e
            obtain ⟨b', hk⟩ : ∃ b', kit t u = some b' := by
              have e3' := e3
              unfold kitAnyD at e3'
              split at e3'
              · exact ⟨_, by assumption⟩
              · exact ⟨_, by assumption⟩
              · cases e3'
            have hx : TyX K H v t := tyX_of k s r1 e1 hk
            cases r2 with
            | fz r2 =>
              simp only [O.frz] at hc
              subst hc
              cases r2 with
              | tup h1 h2 h3 => exact ⟨v, _, _, t, u :: us, b, rfl, s.tp h1, clsVs_of e2 ⟨h2, h3⟩, hx, kitAnyD_ok k e3, q _ _ _ (.val .bl)⟩
            | _ => cases hc
  · cases e
end
end L3
end

section
namespace L3
open PySem L2

section
variable {X : Cx} {E : Ent} {W : WX} {K : PySem.W.Frag} {g t : Gm} {σ τ : L2.St} {Hf H Hf' H' : Hp} {pos : Pos}

/-! ### calls: what is lent -/
/-- the objects that holders own -/
def fpOf (B : Gm) (S : L2.St) (a : Addr) : Prop := ∃ (i : Nat) (o : O), B[i]? = some (some o) ∧ o.own = true ∧ S[i]? = some (some (.ref a))
theorem Rl.enter {A B : Gm} {SA SB : L2.St} (R : Rl K E (A ++ B) (SA ++ SB) Hf H) (hA : A.length = SA.length) {pin : List (Nat × V)} (hp : ∀ p ∈ pin, SB[p.1]? = some (some p.2)) : Rl K ⟨H, Hf, fpOf B SB, pin⟩ B SB Hf H := by
  have up : ∀ {i : Nat} {o : O}, B[i]? = some (some o) → (A ++ B)[A.length + i]? = some (some o) := fun {i o} e => by rw [List.getElem?_append_right (by omega)]; simpa using e
  have upS : ∀ {i : Nat}, (SA ++ SB)[A.length + i]? = SB[i]? := fun {i} => by rw [hA, List.getElem?_append_right (by omega)]; simp
  refine ⟨?_, R.sub, .refl _, fun a o h _ => h, fun a _ h _ => h, fun i o e => ?_, fun i o e ho a ea => ?_, fun i j o o' a e ho e' ho' ea ea' => ?_, hp⟩
  · have := R.len; simp only [List.length_append] at this; omega
  · obtain ⟨v, h1, h2⟩ := R.at_ _ o (up e)
    exact ⟨v, by rw [← upS]; exact h1, h2⟩
  · exact ⟨(R.own _ o (up e) ho a (by rw [upS]; exact ea)).1, .inr ⟨i, o, e, ho, ea⟩⟩
  · have := R.dis _ _ o o' a (up e) ho (up e') ho' (by rw [upS]; exact ea) (by rw [upS]; exact ea')
    omega
/-- behind a call: the things B that were handed over are gone, B' has come -/
theorem Rl.call {A B B' : Gm} {SA SB SB' : L2.St} (R : Rl K E (A ++ B) (SA ++ SB) Hf H) (hA : A.length = SA.length) (hE : ∀ p ∈ E.pin, p.1 < SA.length) {pin : List (Nat × V)} (C : Rl K ⟨H, Hf, fpOf B SB, pin⟩ B' SB' Hf' H') : Rl K E (A ++ B') (SA ++ SB') Hf' H' := by
  have up : ∀ {i : Nat} {o : O}, B[i]? = some (some o) → (A ++ B)[A.length + i]? = some (some o) := fun {i o} e => by rw [List.getElem?_append_right (by omega)]; simpa using e
  have upS : ∀ {i : Nat}, (SA ++ SB)[A.length + i]? = SB[i]? := fun {i} => by rw [hA, List.getElem?_append_right (by omega)]; simp
  have lo : ∀ {i : Nat} {o : O}, A[i]? = some (some o) → (A ++ B)[i]? = some (some o) := fun {i o} e => by rw [List.getElem?_append_left (List.getElem?_eq_some_iff.mp e).1]; exact e
  have loS : ∀ {i : Nat} {o : O}, A[i]? = some (some o) → (SA ++ SB)[i]? = SA[i]? := fun {i o} e => List.getElem?_append_left (by have := (List.getElem?_eq_some_iff.mp e).1; omega)
  have loS' : ∀ {i : Nat} {o : O}, A[i]? = some (some o) → (SA ++ SB')[i]? = SA[i]? := fun {i o} e => List.getElem?_append_left (by have := (List.getElem?_eq_some_iff.mp e).1; omega)
  have fpE : ∀ {a : Addr}, fpOf B SB a → E.H a = none ∨ E.fp a := fun {a} h => by
    obtain ⟨i, o, e, ho, ea⟩ := h
    exact (R.own _ o (up e) ho a (by rw [upS]; exact ea)).2
  -- a holder of the caller keeps its object
  have noA : ∀ {i : Nat} {o : O} {a : Addr}, A[i]? = some (some o) → o.own = true → SA[i]? = some (some (.ref a)) → ¬ fpOf B SB a := fun {i o a} e ho ea h => by
    obtain ⟨j, o', e', ho', ea'⟩ := h
    have l := (List.getElem?_eq_some_iff.mp e).1
    have := R.dis _ _ o o' a (lo e) ho (up e') ho' (by rw [loS e]; exact ea) (by rw [upS]; exact ea')
    omega
  have key : ∀ {i : Nat} {o : O}, (A ++ B')[i]? = some (some o) → A[i]? = some (some o) ∨ (A.length ≤ i ∧ B'[i - A.length]? = some (some o)) := fun {i o} e => by
    by_cases hi : i < A.length
    · rw [List.getElem?_append_left hi] at e; exact .inl e
    · rw [List.getElem?_append_right (by omega)] at e; exact .inr ⟨by omega, e⟩
  have hiS : ∀ {i : Nat}, A.length ≤ i → (SA ++ SB')[i]? = SB'[i - A.length]? := fun {i} h => by rw [hA] at h ⊢; exact List.getElem?_append_right h
  refine ⟨?_, C.sub, R.ext.trans C.ext, fun a o h n => ?_, fun a h1 h2 h3 => ?_, fun i o e => ?_, fun i o e ho a ea => ?_, fun i j o o' a e ho e' ho' ea ea' => ?_, fun p h => ?_⟩
  · have := C.len; simp only [List.length_append]; omega
  · refine C.frame a o (R.frame a o h n) fun f => ?_
    rcases fpE f with z | z
    · rw [z] at h; cases h
    · exact n z
  · refine C.nofz a ?_ (R.nofz a h1 h2 h3) fun f => ?_
    · obtain ⟨o, e⟩ := Option.ne_none_iff_exists'.mp h1
      show H a ≠ none
      rw [R.frame a o e h3]; simp
    · rcases fpE f with z | z
      · exact h1 z
      · exact h3 z
  · rcases key e with e1 | ⟨hi, e1⟩
    · obtain ⟨v, h1, h2⟩ := R.at_ _ o (lo e1)
      rw [loS e1] at h1
      refine ⟨v, by rw [loS' e1]; exact h1, h2.mono C.ext fun a ha hown u hu => ?_⟩
      subst ha
      exact C.frame a u hu (noA e1 hown h1)
    · obtain ⟨v, h1, h2⟩ := C.at_ _ o e1
      exact ⟨v, by rw [hiS hi]; exact h1, h2⟩
  · rcases key e with e1 | ⟨hi, e1⟩
    · rw [loS' e1] at ea
      obtain ⟨h1, h2⟩ := R.own _ o (lo e1) ho a (by rw [loS e1]; exact ea)
      refine ⟨C.nofz a ?_ h1 (noA e1 ho ea), h2⟩
      obtain ⟨v, k1, k2⟩ := R.at_ _ o (lo e1)
      rw [loS e1, ea] at k1; cases k1
      obtain ⟨b, u, hb, hu⟩ := k2.addr ho
      cases hb
      show H a ≠ none
      rw [hu]; simp
    · rw [hiS hi] at ea
      obtain ⟨h1, h2⟩ := C.own _ o e1 ho a ea
      refine ⟨h1, ?_⟩
      rcases h2 with h2 | h2
      · exact (R.fresh h2).2
      · exact fpE h2
  · have apart : ∀ {i j : Nat} {o o' : O}, A[i]? = some (some o) → o.own = true → SA[i]? = some (some (.ref a)) → B'[j]? = some (some o') → o'.own = true → SB'[j]? = some (some (.ref a)) → False := fun {i j o o'} e ho ea e' ho' ea' => by
      obtain ⟨h1, h2⟩ := C.own _ o' e' ho' a ea'
      rcases h2 with h2 | h2
      · obtain ⟨v, k1, k2⟩ := R.at_ _ o (lo e)
        rw [loS e, ea] at k1; cases k1
        obtain ⟨b, u, hb, hu⟩ := k2.addr ho
        cases hb
        have h2 : H a = none := h2
        rw [hu] at h2; cases h2
      · exact noA e ho ea h2
    rcases key e with e1 | ⟨hi, e1⟩
    · rcases key e' with e2 | ⟨hj, e2⟩
      · exact R.dis i j o o' a (lo e1) ho (lo e2) ho' (by rw [loS e1, ← loS' e1]; exact ea) (by rw [loS e2, ← loS' e2]; exact ea')
      · exact (apart e1 ho (by rw [← loS' e1]; exact ea) e2 ho' (by rw [← hiS hj]; exact ea')).elim
    · rcases key e' with e2 | ⟨hj, e2⟩
      · exact (apart e2 ho' (by rw [← loS' e2]; exact ea') e1 ho (by rw [← hiS hi]; exact ea)).elim
      · have := C.dis _ _ o o' a e1 ho e2 ho' (by rw [← hiS hi]; exact ea) (by rw [← hiS hj]; exact ea')
        omega
  · have h1 := R.pin p h
    have h2 := hE p h
    rw [List.getElem?_append_left h2] at h1 ⊢
    exact h1

/-! ### what a def promises -/
/-- its answer; u: what it hands back of its first parameter -/
inductive RF where
  | ok (r : O) (u : Option O) | ex (c : Addr) (fs : List (Str × D)) (u : Option O) | no
/-- the first of the arguments is lent (br) -/
def pinOf (br : Bool) (vs : List V) : List (Nat × V) := match br, vs with
  | true, v :: _ => [(0, v)]
  | _, _ => []
def backs (u : Option O) (n : Nat) : Gm := match n with
  | 0 => []
  | n + 1 => u :: List.replicate n none
def FinF (K : PySem.W.Frag) (E : Ent) (r : RF) (vs : List V) (Q : VK) (Ex : XK) : Prop := match r with
  | .ok o u => ∀ v Hf' H', Rl K E (backs u vs.length ++ [some o]) (vs.map some ++ [some v]) Hf' H' → Q v H'
  | .ex c fs u => ∀ d Hf' H', Rl K E (backs u vs.length) (vs.map some) Hf' H' → ExR K Hf' H' fs d → Ex (.ref c) d H'
  | .no => False
def spL (K : PySem.W.Frag) (n : Nat) (br : Bool) (F : List O → RF) : Sp := fun vs H Q Ex => ∃ os Hf, os.length = n ∧ vs.length = n ∧ Rl K ⟨H, Hf, fpOf (os.map some) (vs.map some), pinOf br vs⟩ (os.map some) (vs.map some) Hf H ∧
  FinF K ⟨H, Hf, fpOf (os.map some) (vs.map some), pinOf br vs⟩ (F os) vs Q Ex
theorem spL_len {n : Nat} {br : Bool} {F : List O → RF} {ps : List Str} (h : ps.length = n) : ∀ vs H Q E, spL K n br F vs H Q E → vs.length = ps.length := fun vs H Q E ⟨os, Hf, _, h2, _⟩ => by rw [h2, h]
/-- a body's run as the def's answer -/
def back0 (br : Bool) (g : Gm) : Option O := match br, g with
  | true, some o :: _ => some o
  | _, _ => none
theorem back0_eq {br : Bool} {g : Gm} {o : O} (h : back0 br g = some o) : br = true ∧ g[0]? = some (some o) := by
  unfold back0 at h
  split at h
  · cases h; exact ⟨rfl, rfl⟩
  · cases h
def runD (N : Nat) (br : Bool) (m : MS) (os : List O) : RF := match m (os.map some ++ List.replicate (N - os.length) none) with
  | .nx g => .ok (.fz .non) (back0 br g)
  | .rt o g => .ok o (back0 br g)
  | .ex c fs g => .ex c fs (back0 br g)
  | _ => .no
theorem backs_some {u : Option O} {n i : Nat} {o : O} (h : (backs u n)[i]? = some (some o)) : i = 0 ∧ 0 < n ∧ u = some o := by
  cases n with
  | zero => simp [backs] at h
  | succ n =>
    cases i with
    | zero => simp only [backs, List.getElem?_cons_zero, Option.some.injEq] at h; exact ⟨rfl, Nat.succ_pos _, h⟩
    | succ i =>
      simp only [backs, List.getElem?_cons_succ, List.getElem?_replicate] at h
      split at h <;> cases h
theorem backs_length {u : Option O} {n : Nat} : (backs u n).length = n := by cases n <;> simp [backs]
theorem pinOf_mem {br : Bool} {vs : List V} {p : Nat × V} (h : p ∈ pinOf br vs) : p.1 = 0 ∧ vs[0]? = some p.2 := by
  unfold pinOf at h
  split at h
  · rcases List.mem_cons.mp h with e | e
    · subst e; exact ⟨rfl, rfl⟩
    · cases e
  · cases h
/-- the callee's end, seen by its parameters -/
theorem Rl.back {br : Bool} {g' T : Gm} {σ' TS : L2.St} {vs : List V} (R : Rl K E (g' ++ T) (σ' ++ TS) Hf H) (hg : g'.length = σ'.length) (hT : T.length = TS.length) (hE : E.pin = pinOf br vs) :
    Rl K E (backs (back0 br g') vs.length ++ T) (vs.map some ++ TS) Hf H := by
  have key : ∀ {j : Nat} {o : O}, (backs (back0 br g') vs.length ++ T)[j]? = some (some o) → (j = 0 ∧ 0 < vs.length ∧ br = true ∧ g'[0]? = some (some o)) ∨ (vs.length ≤ j ∧ T[j - vs.length]? = some (some o)) := fun {j o} e => by
    by_cases hj : j < vs.length
    · rw [List.getElem?_append_left (by rw [backs_length]; exact hj)] at e
      obtain ⟨h1, h2, h3⟩ := backs_some e
      obtain ⟨h4, h5⟩ := back0_eq h3
      exact .inl ⟨h1, h2, h4, h5⟩
    · rw [List.getElem?_append_right (by rw [backs_length]; omega), backs_length] at e
      exact .inr ⟨by omega, e⟩
  have p0 : br = true → ∀ {v : V}, vs[0]? = some v → (σ' ++ TS)[0]? = some (some v) := fun hb v hv => by
    cases vs with
    | nil => cases hv
    | cons w ws =>
      have e : w = v := by simpa using hv
      subst e
      have := R.pin (0, w) (by rw [hE, hb]; simp [pinOf])
      exact this
  refine R.map (f := fun i => if i < vs.length then i else g'.length + (i - vs.length)) (by simp only [List.length_append, List.length_map, backs_length]; omega) (fun j o e => ?_) (fun j k o o' e e' _ _ ef => ?_) (fun p hp => ?_)
  · rcases key e with ⟨rfl, h1, h2, h3⟩ | ⟨h1, h2⟩
    · rw [if_pos h1]
      refine ⟨by rw [List.getElem?_append_left (List.getElem?_eq_some_iff.mp h3).1]; exact h3, ?_⟩
      have e0 : vs[0]? = some vs[0] := by simp [h1]
      rw [p0 h2 e0, List.getElem?_append_left (by simpa using h1)]
      simp [e0]
    · rw [if_neg (by omega)]
      refine ⟨by rw [List.getElem?_append_right (by omega)]; simpa using h2, ?_⟩
      rw [List.getElem?_append_right (by simpa using h1), List.getElem?_append_right (by omega), List.length_map]
      congr 1; omega
  · rcases key e with ⟨rfl, h1, _, h3⟩ | ⟨h1, _⟩
    · have hp := (List.getElem?_eq_some_iff.mp h3).1
      rcases key e' with ⟨rfl, h2, _⟩ | ⟨h2, _⟩
      · rfl
      · rw [if_pos h1, if_neg (by omega)] at ef; omega
    · rcases key e' with ⟨rfl, h2, _, h3⟩ | ⟨h2, _⟩
      · have hp := (List.getElem?_eq_some_iff.mp h3).1
        rw [if_neg (by omega), if_pos h2] at ef; omega
      · rw [if_neg (by omega), if_neg (by omega)] at ef; omega
  · rw [hE] at hp
    obtain ⟨h1, h2⟩ := pinOf_mem hp
    have hl : 0 < vs.length := (List.getElem?_eq_some_iff.mp h2).1
    rw [h1, List.getElem?_append_left (by simpa using hl)]
    simp [h2]

/-- a def's promise from its body -/
theorem body_ok {n N : Nat} {br : Bool} {m : MS} {vs : List V} {Q : VK} {Ex : XK} {NN : List Str} (hN : NN.length = N) (hn : n ≤ N) (h : spL K n br (runD N br m) vs H Q Ex) :
    ∃ E : Ent, (∀ p ∈ E.pin, p.1 ∈ if br = true then [0] else []) ∧ rdS K E (fun c d _ H => Ex c d H) m { nx := fun _ H' => Q .non H', rt := Q } (start NN vs) H := by
  obtain ⟨os, Hf, h1, h2, R, F⟩ := h
  have pin : ∀ p ∈ pinOf br vs, p.1 ∈ if br = true then [0] else [] := fun p hp => by
    obtain ⟨e, e2⟩ := pinOf_mem hp
    cases br with
    | true => simp [e]
    | false => simp [pinOf] at hp
  refine ⟨⟨H, Hf, fpOf (os.map some) (vs.map some), pinOf br vs⟩, pin, os.map some ++ List.replicate (N - os.length) none, [], [], Hf, ⟨?_, ?_, ?_⟩, ?_⟩
  · simp only [L2.start, List.length_append, List.length_map, List.length_replicate]; omega
  · intro p hp
    obtain ⟨h3, h4⟩ := pinOf_mem hp
    have hl : 0 < vs.length := (List.getElem?_eq_some_iff.mp h4).1
    rw [h3]
    simp only [L2.start, List.length_append, List.length_map]; omega
  · simp only [List.append_nil]
    have up : ∀ {j : Nat} {o : O}, (os.map some ++ List.replicate (N - os.length) none)[j]? = some (some o) → j < os.length ∧ (os.map some)[j]? = some (some o) := fun {j o} e => by
      by_cases hj : j < os.length
      · rw [List.getElem?_append_left (by simpa using hj)] at e; exact ⟨hj, e⟩
      · rw [List.getElem?_append_right (by simpa using hj), List.getElem?_replicate] at e
        split at e <;> cases e
    refine R.map (f := fun i => i) (by simp only [L2.start, List.length_append, List.length_map, List.length_replicate]; omega) (fun j o e => ?_) (fun _ _ _ _ _ _ _ _ e => e) (fun p hp => ?_)
    · obtain ⟨h3, h4⟩ := up e
      exact ⟨h4, List.getElem?_append_left (by simp only [List.length_map]; omega)⟩
    · have := R.pin p hp
      obtain ⟨l, _⟩ := List.getElem?_eq_some_iff.mp this
      rw [L2.start, List.getElem?_append_left l]; exact this
  · have hb : ∀ {g : Gm} {σ : L2.St} {t : Gm} {τ : L2.St} {Hf1 H1 : Hp}, Rdy K ⟨H, Hf, fpOf (os.map some) (vs.map some), pinOf br vs⟩ g t σ τ Hf1 H1 → Rl K ⟨H, Hf, fpOf (os.map some) (vs.map some), pinOf br vs⟩ (backs (back0 br g) vs.length ++ t) (vs.map some ++ τ) Hf1 H1 := fun {g σ t τ Hf1 H1} R => R.rl.back R.lg R.lt rfl
    unfold runD at F
    cases e : m (os.map some ++ List.replicate (N - os.length) none) with
    | nx g =>
      rw [e] at F
      intro σ' Hf' H' R'
      exact F _ _ _ (hb (R'.push_fz .non))
    | rt o g =>
      rw [e] at F
      intro v σ' Hf' H' R'
      exact F _ _ _ (hb R')
    | bk g => rw [e] at F; exact F.elim
    | ct g => rw [e] at F; exact F.elim
    | ex c fs g =>
      rw [e] at F
      intro d σ' Hf' H' R' x
      refine F d Hf' H' ?_ x
      have := hb R'
      simpa using this
    | no => rw [e] at F; exact F

/-! ### the call -/
/-- what was lent goes back to its slot -/
theorem Rdy.untake {T : Gm} {TS : L2.St} {u : Option O} {v : V} {j : Nat} (R : Rdy K E g (t ++ [u] ++ T) σ (τ ++ [some v] ++ TS) Hf H) (hv : σ[j]? = some (some v)) (hT : T.length = TS.length) : Rdy K E (g.set j u) (t ++ T) σ (τ ++ TS) Hf H := by
  have hg := R.lg
  have hj : j < σ.length := (List.getElem?_eq_some_iff.mp hv).1
  have ht : t.length = τ.length := by have := R.lt; simp only [List.length_append, List.length_singleton] at this; omega
  refine ⟨by rw [List.length_set]; exact hg, R.pb, ?_⟩
  have b1 : (g ++ (t ++ [u] ++ T))[(g ++ t).length]? = some u := by
    have : g ++ (t ++ [u] ++ T) = (g ++ t) ++ ([u] ++ T) := by simp
    rw [this, List.getElem?_append_right (Nat.le_refl _)]; simp
  have lx : (g ++ t).length = (σ ++ τ).length := by simp only [List.length_append]; omega
  have b2 : (σ ++ (τ ++ [some v] ++ TS))[(g ++ t).length]? = some (some v) := by
    have : σ ++ (τ ++ [some v] ++ TS) = (σ ++ τ) ++ ([some v] ++ TS) := by simp
    rw [lx, this, List.getElem?_append_right (Nat.le_refl _)]; simp
  have key : ∀ {i : Nat} {o : O}, (g.set j u ++ (t ++ T))[i]? = some (some o) → (i = j ∧ u = some o) ∨ (i ≠ j ∧ i < (g ++ t).length ∧ (g ++ (t ++ [u] ++ T))[i]? = some (some o)) ∨ ((g ++ t).length ≤ i ∧ (g ++ (t ++ [u] ++ T))[i + 1]? = some (some o)) := fun {i o} e => by
    rw [← List.append_assoc] at e
    by_cases hi : i < (g.set j u ++ t).length
    · rw [List.getElem?_append_left hi, ← set_append_left' (by omega)] at e
      rcases get_set_some e with ⟨e1, e2, _⟩ | ⟨hne, e2⟩
      · exact .inl ⟨e1.symm, e2.symm⟩
      · refine .inr (.inl ⟨fun q => hne q.symm, by simpa using hi, ?_⟩)
        have : g ++ (t ++ [u] ++ T) = (g ++ t) ++ ([u] ++ T) := by simp
        rw [this, List.getElem?_append_left (by simpa using hi)]; exact e2
    · rw [List.getElem?_append_right (by omega)] at e
      have hl : (g.set j u ++ t).length = (g ++ t).length := by simp
      refine .inr (.inr ⟨by omega, ?_⟩)
      have : g ++ (t ++ [u] ++ T) = (g ++ t ++ [u]) ++ T := by simp
      rw [this, List.getElem?_append_right (by simp only [List.length_append, List.length_singleton] at hl hi ⊢; omega)]
      rw [← e]; congr 1; simp only [List.length_append, List.length_singleton] at hl hi ⊢; omega
  have kS : ∀ {i : Nat}, i < (g ++ t).length → (σ ++ (τ ++ TS))[i]? = (σ ++ (τ ++ [some v] ++ TS))[i]? := fun {i} hi => by
    have e1 : σ ++ (τ ++ TS) = (σ ++ τ) ++ TS := by simp
    have e2 : σ ++ (τ ++ [some v] ++ TS) = (σ ++ τ) ++ ([some v] ++ TS) := by simp
    rw [e1, e2, @List.getElem?_append_left _ (σ ++ τ) TS _ (by omega), @List.getElem?_append_left _ (σ ++ τ) ([some v] ++ TS) _ (by omega)]
  have kT : ∀ {i : Nat}, (g ++ t).length ≤ i → (σ ++ (τ ++ TS))[i]? = (σ ++ (τ ++ [some v] ++ TS))[i + 1]? := fun {i} hi => by
    have e1 : σ ++ (τ ++ TS) = (σ ++ τ) ++ TS := by simp
    have e2 : σ ++ (τ ++ [some v] ++ TS) = (σ ++ τ ++ [some v]) ++ TS := by simp
    rw [e1, e2, List.getElem?_append_right (by omega), List.getElem?_append_right (by simp only [List.length_append, List.length_singleton] at lx hi ⊢; omega)]
    congr 1; simp only [List.length_append, List.length_singleton] at lx hi ⊢; omega
  have hjl : j < (g ++ t).length := by simp only [List.length_append]; omega
  refine R.rl.map (f := fun i => if i = j then (g ++ t).length else if i < (g ++ t).length then i else i + 1) (by simp only [List.length_append, List.length_set]; omega) (fun i o e => ?_) (fun i k o o' e e' _ _ ef => ?_) (fun p hp => ?_)
  · rcases key e with ⟨h1, h2⟩ | ⟨h1, h2, h3⟩ | ⟨h1, h2⟩
    · rw [if_pos h1]
      subst h1
      refine ⟨by rw [b1, h2], ?_⟩
      rw [b2, List.getElem?_append_left hj, hv]
    · rw [if_neg h1, if_pos h2]; exact ⟨h3, kS h2⟩
    · rw [if_neg (by omega), if_neg (by omega)]; exact ⟨h2, kT h1⟩
  · rcases key e with ⟨h1, h2⟩ | ⟨h1, h2, h3⟩ | ⟨h1, h2⟩
    · rcases key e' with ⟨k1, k2⟩ | ⟨k1, k2, k3⟩ | ⟨k1, k2⟩
      · omega
      · rw [if_pos h1, if_neg k1, if_pos k2] at ef; omega
      · rw [if_pos h1, if_neg (by omega), if_neg (by omega)] at ef; omega
    · rcases key e' with ⟨k1, k2⟩ | ⟨k1, k2, k3⟩ | ⟨k1, k2⟩
      · rw [if_neg h1, if_pos h2, if_pos k1] at ef; omega
      · rw [if_neg h1, if_pos h2, if_neg k1, if_pos k2] at ef; exact ef
      · rw [if_neg h1, if_pos h2, if_neg (by omega), if_neg (by omega)] at ef; omega
    · rcases key e' with ⟨k1, k2⟩ | ⟨k1, k2, k3⟩ | ⟨k1, k2⟩
      · rw [if_neg (by omega), if_neg (by omega), if_pos k1] at ef; omega
      · rw [if_neg (by omega), if_neg (by omega), if_neg k1, if_pos k2] at ef; omega
      · rw [if_neg (by omega), if_neg (by omega), if_neg (by omega), if_neg (by omega)] at ef; omega
  · have h1 := R.rl.pin p hp
    have h2 := R.pb p hp
    rw [List.getElem?_append_left h2] at h1 ⊢
    exact h1
/-- the thing made last comes ahead of the arguments -/
theorem Rdy.rot {T : Gm} {TS : L2.St} {o : O} {v : V} (R : Rdy K E g (t ++ T ++ [some o]) σ (τ ++ TS ++ [some v]) Hf H) (hT : T.length = TS.length) : Rdy K E g (t ++ ([some o] ++ T)) σ (τ ++ ([some v] ++ TS)) Hf H := by
  have hg := R.lg
  have ht : t.length = τ.length := by have := R.lt; simp only [List.length_append, List.length_singleton] at this; omega
  refine ⟨hg, R.pb, ?_⟩
  have lx : (g ++ t).length = (σ ++ τ).length := by simp only [List.length_append]; omega
  have n1 : g ++ (t ++ ([some o] ++ T)) = (g ++ t) ++ (some o :: T) := by simp
  have n2 : σ ++ (τ ++ ([some v] ++ TS)) = (σ ++ τ) ++ (some v :: TS) := by simp
  have o1 : g ++ (t ++ T ++ [some o]) = (g ++ t) ++ (T ++ [some o]) := by simp
  have o2 : σ ++ (τ ++ TS ++ [some v]) = (σ ++ τ) ++ (TS ++ [some v]) := by simp
  have R0 := R.rl
  rw [o1, o2] at R0
  rw [n1, n2]
  refine R0.map (f := fun i => if i < (g ++ t).length then i else if i = (g ++ t).length then (g ++ t).length + T.length else i - 1) (by simp only [List.length_append, List.length_cons] at lx ⊢; omega) (fun i o' e => ?_) (fun i k o1 o2 e e' _ _ ef => ?_) (fun p hp => ?_)
  · by_cases h1 : i < (g ++ t).length
    · rw [if_pos h1]
      rw [List.getElem?_append_left h1] at e ⊢
      exact ⟨e, by rw [@List.getElem?_append_left _ (σ ++ τ) (some v :: TS) _ (by omega), @List.getElem?_append_left _ (σ ++ τ) (TS ++ [some v]) _ (by omega)]⟩
    · rw [if_neg h1]
      by_cases h2 : i = (g ++ t).length
      · rw [if_pos h2]
        subst h2
        rw [List.getElem?_append_right (Nat.le_refl _)] at e
        simp only [Nat.sub_self, List.getElem?_cons_zero] at e
        refine ⟨by rw [List.getElem?_append_right (by omega), show (g ++ t).length + T.length - (g ++ t).length = T.length by omega, List.getElem?_append_right (Nat.le_refl _)]; simpa using e, ?_⟩
        rw [lx, List.getElem?_append_right (Nat.le_refl _), List.getElem?_append_right (by omega), show (σ ++ τ).length + T.length - (σ ++ τ).length = TS.length by omega, List.getElem?_append_right (Nat.le_refl _)]
        simp
      · rw [if_neg h2]
        rw [List.getElem?_append_right (by omega)] at e
        obtain ⟨k, hk⟩ : ∃ k, i - (g ++ t).length = k + 1 := ⟨i - (g ++ t).length - 1, by omega⟩
        rw [hk, List.getElem?_cons_succ] at e
        have hkl := (List.getElem?_eq_some_iff.mp e).1
        refine ⟨by rw [List.getElem?_append_right (by omega), show i - 1 - (g ++ t).length = k by omega, List.getElem?_append_left hkl]; exact e, ?_⟩
        rw [List.getElem?_append_right (by omega), List.getElem?_append_right (by omega), show i - (σ ++ τ).length = k + 1 by omega, show i - 1 - (σ ++ τ).length = k by omega, List.getElem?_cons_succ, List.getElem?_append_left (by omega)]
  · have le : ∀ {i : Nat} {o' : O}, ((g ++ t) ++ (some o :: T))[i]? = some (some o') → i ≤ (g ++ t).length + T.length := fun {i o'} e => by
      have := (List.getElem?_eq_some_iff.mp e).1
      simp only [List.length_append, List.length_cons] at this ⊢; omega
    have l1 := le e
    have l2 := le e'
    split at ef <;> split at ef <;> (try split at ef) <;> (try split at ef) <;> omega
  · have h1 := R0.pin p hp
    have h2 := R.pb p hp
    have h3 : p.1 < (σ ++ τ).length := by simp only [List.length_append]; omega
    rw [List.getElem?_append_left h3] at h1 ⊢
    exact h1
end
end L3
end

section
namespace L3
open PySem L2

/-! ### the hand layer's calls, what is raised wished for at the caller's slots -/
section
open PySem.Spec PyProof.Rows
variable {X : Cx} {CX : CXT} {k : Nat} {f C : Addr} {fd : FuncData} {ps : List Str} {sp : Sp} {dvs : List V} {ds : List Value} {E : L2.St → XK} {x m : Str} {p pos apos : Pos} {e o a b : Expr} {es : List Expr} {ta tb : TE} {t : TA}
theorem pe_callSD0 (F : FnOk X.prog X.w X.K X.mg X.base CX k f fd ps sp) (hr : Room k X.A) (hg : Gl X x) (hm : X.mg x = some (.ref f)) (hk : PySem.W.keepIn X.K (.ref f) = true) (hb : Binds X.K fd ps ds) (hd : Vals dvs ds) (hx : ∀ σ, PassesAt CX X σ (E σ))
    (hdb : (x == ("__debug__" : Str)) = false := by decide) : PE X (.Call (.Name x p) [] [] pos) (fun σ H Q => sp dvs H Q (E σ)) := by
  refine ⟨fun pins s σ H Q I h => ?_⟩
  refine wpAny_Call_Name_kw (ld_glob I hg hm ?_ hdb)
  exact PySem.W.callWith_K0 I.kIn hk (run_fnSD (us := []) (vs := []) F hr hb hd (hx σ) I .nil (by simpa using h))
theorem pe_methSD {pl : Sem Bool} (he : PE X o ta) (c : Cls X.K C) (hm : Meth X.K C m f) (F : FnOk X.prog X.w X.K X.mg X.base CX k f fd ps sp) (hr : Room k X.A) (hb : Binds X.K fd ps ds) (hd : Vals dvs ds) (hx : ∀ σ, PassesAt CX X σ (E σ)) (ha : PA X (e :: es) t)
    (hst : starEach (e :: es) X.env = (false, eval e X.env) :: starEach es X.env := by rfl) (hpl : (backTo pos (starEach es X.env)).any (·.1) = false := by rfl)
    (ht : eval (.Call (.Attribute o m apos) (e :: es) [] pos) X.env = (do
      let ov ← eval o X.env
      standAt apos.atName
      let (f, first) ← holding [ov] (getMethod ov m pl)
      callWith pos f first (backTo pos (starEach (e :: es) X.env)) (backToKw pos (keywordEach [] X.env))) := by rfl) :
    PE X (.Call (.Attribute o m apos) (e :: es) [] pos) (fun σ H Q => ta σ H fun x H1 => ∃ a dx fs, x = .ref a ∧ H1 a = some (.ins C dx fs) ∧ fs.lookup m = none ∧ t σ H1 fun vs H2 => sp (x :: (vs ++ dvs)) H2 Q (E σ)) := by
  refine ⟨fun pins s σ H Q I h => ?_⟩
  refine PySem.W.methodCall_KW (pl := pl) (thn (he.run pins s σ H _ I h) fun u s1 ⟨x, H1, I1, rx, a, dx, fs, ex, ea, l, q⟩ => ?_) ht
  subst ex
  obtain rfl : u = Value.ref a := rx
  refine getmeth_ok I1 ea c hm l ?_
  refine PySem.W.callWith_K (first := [.ref a]) (h₀ := X.base) I.ok.mod.kin hm.kp (thn (ha.run pos pins s1 σ H1 _ I1 q) fun us s2 ⟨vs, H2, I2, r, q2⟩ => ⟨I2.kIn, ?_⟩) hst hpl
  exact run_fnSD (us := .ref a :: us) (vs := .ref a :: vs) F hr hb hd (hx σ) I2 (.cons rfl r) q2
theorem pe_methSD0 {pl : Sem Bool} (he : PE X o ta) (c : Cls X.K C) (hm : Meth X.K C m f) (F : FnOk X.prog X.w X.K X.mg X.base CX k f fd ps sp) (hr : Room k X.A) (hb : Binds X.K fd ps ds) (hd : Vals dvs ds) (hx : ∀ σ, PassesAt CX X σ (E σ))
    (ht : eval (.Call (.Attribute o m apos) [] [] pos) X.env = (do
      let ov ← eval o X.env
      standAt apos.atName
      let (f, first) ← holding [ov] (getMethod ov m pl)
      callWith pos f first (backTo pos (starEach [] X.env)) (backToKw pos (keywordEach [] X.env))) := by rfl) :
    PE X (.Call (.Attribute o m apos) [] [] pos) (fun σ H Q => ta σ H fun x H1 => ∃ a dx fs, x = .ref a ∧ H1 a = some (.ins C dx fs) ∧ fs.lookup m = none ∧ sp (x :: dvs) H1 Q (E σ)) := by
  refine ⟨fun pins s σ H Q I h => ?_⟩
  refine PySem.W.methodCall_KW (pl := pl) (thn (he.run pins s σ H _ I h) fun u s1 ⟨x, H1, I1, rx, a, dx, fs, ex, ea, l, q⟩ => ?_) ht
  subst ex
  obtain rfl : u = Value.ref a := rx
  refine getmeth_ok I1 ea c hm l ?_
  exact PySem.W.callWith_K0 (first := [.ref a]) I1.kIn hm.kp (run_fnSD (us := [.ref a]) (vs := [.ref a]) F hr hb hd (hx σ) I1 (.cons rfl .nil) q)
theorem run_makeSD {pins : List (Addr × Obj)} {σ : L2.St} {H : Hp} {s : Shared} {Q : VK} {us : List Value} {vs : List V} (M : Mk X.K C f) (F : FnOk X.prog X.w X.K X.mg X.base CX k f fd ps sp) (hr : Room (k + 1) X.A) (hb : Binds X.K fd ps ds) (hd : Vals dvs ds)
    (hx : PassesAt CX X σ (E σ)) (I : Inv X pins σ H s) (r : Vals vs us)
    (h : ∀ x dx, H x = none → H dx = none → dx ≠ x → sp (.ref x :: (vs ++ dvs)) (upd (upd H dx (.own x)) x (.ins C dx [])) (fun v H2 => v = .non ∧ Q (.ref x) H2) (E σ)) :
    wpAny (model X.prog X.w) X.A (call (.ref C) us) (EP X pins σ Q) X.xe s := by
  have hq := h (s.heap.objs.size + 1) s.heap.objs.size (I.hok.fresh (Nat.le_succ _)) (I.hok.fresh (Nat.le_refl _)) (Nat.ne_of_lt (Nat.lt_succ_self _))
  have I2 := Inv.made (C := C) I
  have r2 : Vals (V.ref (s.heap.objs.size + 1) :: (vs ++ dvs)) (Value.ref (s.heap.objs.size + 1) :: (us ++ ds)) := .cons rfl (r.append hd)
  have hl : (Value.ref (s.heap.objs.size + 1) :: us ++ ds).length = ps.length := by
    have e := r2.length
    rw [F.len _ _ _ _ hq] at e
    exact e.symm
  refine wpAny_call (make_map (f := f) I.kIn M.makes M.init (beq_iff_eq.mp M.fn) (codeAny_mono (F.run _ X.stack _ _ ⟨Value.ref (s.heap.objs.size + 1) :: us, []⟩ (Value.ref (s.heap.objs.size + 1) :: (us ++ ds)) _ _ (E σ) (hr.make C us [])
    (I2.env0.make C us []) (hb _ (Value.ref (s.heap.objs.size + 1) :: us) I2.kIn hl) r2 hq) fun r s' hq' => ?_))
  cases r with
  | error e => exact hx pins _ _ e s' I2 hq'
  | ok fl =>
    cases fl with
    | ret u =>
      obtain ⟨v, H', I3, rv, ev, q3⟩ := I2.after hq'
      subst ev
      exact ⟨rv, ⟨V.ref (s.heap.objs.size + 1), H', I3, rfl, q3⟩⟩
    | next => exact False.elim hq'
    | brk => exact False.elim hq'
    | cont => exact False.elim hq'
theorem pe_makeSD (M : Mk X.K C f) (F : FnOk X.prog X.w X.K X.mg X.base CX k f fd ps sp) (hr : Room (k + 1) X.A) (hg : Gl X x) (hm : X.mg x = some (.ref C)) (hb : Binds X.K fd ps ds) (hd : Vals dvs ds) (hx : ∀ σ, PassesAt CX X σ (E σ))
    (ha : PA X (e :: es) t) (hdb : (x == ("__debug__" : Str)) = false := by decide) (he : starEach (e :: es) X.env = (false, eval e X.env) :: starEach es X.env := by rfl) (hpl : (backTo pos (starEach es X.env)).any (·.1) = false := by rfl) :
    PE X (.Call (.Name x p) (e :: es) [] pos) (fun σ H Q => t σ H fun vs H1 => ∀ x dx, H1 x = none → H1 dx = none → dx ≠ x → sp (.ref x :: (vs ++ dvs)) (upd (upd H1 dx (.own x)) x (.ins C dx [])) (fun v H2 => v = .non ∧ Q (.ref x) H2) (E σ)) := by
  refine ⟨fun pins s σ H Q I h => ?_⟩
  refine wpAny_Call_Name_kw (ld_glob I hg hm ?_ hdb)
  refine PySem.W.callWith_K (h₀ := X.base) I.ok.mod.kin M.kp (thn (ha.run pos pins s σ H _ I h) fun us s1 ⟨vs, H1, I1, r, q⟩ => ⟨I1.kIn, ?_⟩) he hpl
  exact run_makeSD M F hr hb hd (hx σ) I1 r q
theorem pe_makeSD0 (M : Mk X.K C f) (F : FnOk X.prog X.w X.K X.mg X.base CX k f fd ps sp) (hr : Room (k + 1) X.A) (hg : Gl X x) (hm : X.mg x = some (.ref C)) (hb : Binds X.K fd ps ds) (hd : Vals dvs ds) (hx : ∀ σ, PassesAt CX X σ (E σ))
    (hdb : (x == ("__debug__" : Str)) = false := by decide) :
    PE X (.Call (.Name x p) [] [] pos) (fun σ H1 Q => ∀ x dx, H1 x = none → H1 dx = none → dx ≠ x → sp (.ref x :: dvs) (upd (upd H1 dx (.own x)) x (.ins C dx [])) (fun v H2 => v = .non ∧ Q (.ref x) H2) (E σ)) := by
  refine ⟨fun pins s σ H Q I h => ?_⟩
  refine wpAny_Call_Name_kw (ld_glob I hg hm ?_ hdb)
  exact PySem.W.callWith_K0 I.kIn M.kp (run_makeSD (us := []) (vs := []) M F hr hb hd (hx σ) I .nil h)
theorem cmpBack_of {pins : List (Addr × Obj)} {σ : L2.St} {Q : VK} {u : Value} {s : Shared} (h : EP X pins σ Q u s) : PySem.W.CmpBack (EP X pins σ Q) u s := by
  obtain ⟨v, H', I, r, q⟩ := h
  have : u ≠ .notImplemented := by
    rintro rfl
    cases v <;> (first | (cases r; done) | (obtain ⟨t, r⟩ := r; exact absurd r (by simp)))
  cases u <;> first | exact absurd rfl this | exact ⟨v, H', I, r, q⟩
/-- a op b, two instances of one own class that has the operator -/
theorem pe_opOwn {op : Operator} {id : Str} (ha : PE X a ta) (hb' : PE X b tb) (F : FnOk X.prog X.w X.K X.mg X.base CX k f fd ps sp) (hr : Room k X.A) (hb : Binds X.K fd ps []) (hx : ∀ σ, PassesAt CX X σ (E σ))
    (hc : PySem.W.selfFirst X.K C = true) (hid : PySem.dunder op.info.2 = id) (hs : PySem.W.findIn X.K (.ref C) id = some (some (.ref f))) (hf : PySem.W.isFn X.K (.ref f) = true) :
    PE X (.BinOp a op b pos) (fun σ H Q => ta σ H fun x H1 => tb σ H1 fun y H2 => ∃ a b dx dy fs gs, x = .ref a ∧ y = .ref b ∧ H2 a = some (.ins C dx fs) ∧ H2 b = some (.ins C dy gs) ∧ sp [x, y] H2 Q (E σ)) := by
  refine ⟨fun pins s σ H Q I h => ?_⟩
  refine wpAny_BinOp (thn (ha.run pins s σ H _ I h) fun v s1 ⟨x, H1, I1, r1, q1⟩ => thn (hb'.run pins s1 σ H1 _ I1 q1) fun u s2 ⟨y, H2, I2, r2, q2⟩ => ?_)
  obtain ⟨p1, p2, dx, dy, fs, gs, rfl, rfl, h1, h2, h3⟩ := q2
  cases r1; cases r2
  obtain ⟨mA, J, _⟩ := ins_get I2.hok h1
  obtain ⟨mB, J', _⟩ := ins_get I2.hok h2
  obtain ⟨od, J, _⟩ := J.look
  obtain ⟨od', J', _⟩ := J'.look
  obtain ⟨mm, hF⟩ := I2.fr
  refine PySem.W.binop_K hF I2.ok.mod.kin J J'.type hc (by rw [hid]; exact hs) hf ?_
  exact thn (run_fnSD (us := [.ref p1, .ref p2]) (vs := [.ref p1, .ref p2]) (dvs := []) F hr hb .nil (hx σ) I2 (.cons rfl (.cons rfl .nil)) (by simpa using h3)) fun u s3 e => cmpBack_of e
/-- -a, an instance of an own class that has it -/
theorem pe_negOwn (ha : PE X a ta) (F : FnOk X.prog X.w X.K X.mg X.base CX k f fd ps sp) (hr : Room k X.A) (hb : Binds X.K fd ps []) (hx : ∀ σ, PassesAt CX X σ (E σ))
    (hs : PySem.W.findIn X.K (.ref C) "__neg__" = some (some (.ref f))) (hf : PySem.W.isFn X.K (.ref f) = true) :
    PE X (.UnaryOp .USub a pos) (fun σ H Q => ta σ H fun x H1 => ∃ a dx fs, x = .ref a ∧ H1 a = some (.ins C dx fs) ∧ sp [x] H1 Q (E σ)) := by
  refine ⟨fun pins s σ H Q I h => ?_⟩
  refine UnaryOp_ (thn (ha.run pins s σ H _ I h) fun v s1 ⟨x, H1, I1, r1, q1⟩ => ?_)
  obtain ⟨p1, dx, fs, rfl, h1, h3⟩ := q1
  cases r1
  obtain ⟨mA, J, _⟩ := ins_get I1.hok h1
  obtain ⟨od, J, _⟩ := J.look
  obtain ⟨mm, hF⟩ := I1.fr
  refine PySem.W.ksp_neg hF I1.ok.mod.kin J hs hf ?_
  exact run_fnSD (us := [.ref p1]) (vs := [.ref p1]) (dvs := []) F hr hb .nil (hx σ) I1 (.cons rfl .nil) (by simpa using h3)
end

section
variable {X : Cx} {E : Ent} {W : WX} {K : PySem.W.Frag} {g t : Gm} {σ τ : L2.St} {Hf H Hf' H' : Hp}
/-! ### the same of data -/
theorem Rdy.fn {n : Nat} {br : Bool} {F : List O → RF} {os : List O} {vs : List V} {Q : VK} {XE : XK} (R : Rdy K E g (t ++ os.map some) σ (τ ++ vs.map some) Hf H) (h1 : os.length = n) (h2 : vs.length = n)
    (hQ : match F os with
      | .ok o u => ∀ v Hf' H', Rdy K E g (t ++ (backs u n ++ [some o])) σ (τ ++ (vs.map some ++ [some v])) Hf' H' → Q v H'
      | .ex c fs u => ∀ d Hf' H', Rdy K E g (t ++ backs u n) σ (τ ++ vs.map some) Hf' H' → ExR K Hf' H' fs d → XE (.ref c) d H'
      | .no => False) : spL K n br F vs H Q XE := by
  have R0 := R.rl
  have ht : t.length = τ.length := by have := R.lt; simp only [List.length_append, List.length_map] at this; omega
  have hg := R.lg
  rw [← List.append_assoc, ← List.append_assoc] at R0
  have hA : (g ++ t).length = (σ ++ τ).length := by simp only [List.length_append]; omega
  have hE : ∀ p ∈ E.pin, p.1 < (σ ++ τ).length := fun p hp => by have := R.pb p hp; simp only [List.length_append]; omega
  have pn : ∀ p ∈ pinOf br vs, (vs.map some)[p.1]? = some (some p.2) := fun p hp => by
    obtain ⟨e1, e2⟩ := pinOf_mem hp
    rw [e1]; simp [e2]
  refine ⟨os, Hf, h1, h2, R0.enter hA pn, ?_⟩
  unfold FinF
  cases e : F os with
  | no => rw [e] at hQ; exact hQ
  | ok o u =>
    rw [e] at hQ
    intro v Hf' H' C
    refine hQ v Hf' H' ⟨hg, R.pb, ?_⟩
    have := R0.call hA hE C
    rw [← List.append_assoc g, ← List.append_assoc σ]
    rw [h2] at this
    exact this
  | ex c fs u =>
    rw [e] at hQ
    intro d Hf' H' C x
    refine hQ d Hf' H' ⟨hg, R.pb, ?_⟩ x
    have := R0.call hA hE C
    rw [← List.append_assoc g, ← List.append_assoc σ]
    rw [h2] at this
    exact this
theorem Rdy.push_fzs : ∀ {dd : List D} {dvs : List V} {t : Gm} {τ : L2.St}, Rdy K E g t σ τ Hf H → RepFs K Hf dd dvs → Rdy K E g (t ++ (dd.map O.fz).map some) σ (τ ++ dvs.map some) Hf H
  | [], dvs, t, τ, R, r => by rw [r.nil_of]; simpa using R
  | d :: dd, dvs, t, τ, R, r => by
    obtain ⟨v, vr, rfl, r1, r2⟩ := r.uncons
    have := Rdy.push_fzs (R.push_fz r1) r2
    simpa using this
/-- an answer without what was lent -/
def retF (r : RF) (g : Gm) : RE O := match r with
  | .ok o _ => .ok o g
  | .ex c fs _ => .ex c fs g
  | .no => .no
theorem Rdy.fnF {n : Nat} {br : Bool} {F : List O → RF} {os : List O} {vs : List V} {Q : VK} (R : Rdy K E g (t ++ os.map some) σ (τ ++ vs.map some) Hf H) (h1 : os.length = n) (h2 : vs.length = n) (hF : Fin K E W (retF (F os) g) t τ σ Q) :
    spL K n br F vs H Q (fun c d H => W c d σ H) := by
  refine R.fn h1 h2 ?_
  have hb : ∀ u, (backs u n).length = (vs.map some).length := fun u => by rw [backs_length, List.length_map, h2]
  unfold retF at hF
  cases e : F os with
  | no => rw [e] at hF; exact hF
  | ok o u =>
    rw [e] at hF
    intro v Hf' H' R'
    rw [← List.append_assoc, ← List.append_assoc] at R'
    exact hF v Hf' H' (R'.mid (hb u))
  | ex c fs u =>
    rw [e] at hF
    intro d Hf' H' R' x
    exact hF d Hf' H' (R'.drop (hb u)) x
/-- defaults: data that is the same in every heap -/
def Dfl (K : PySem.W.Frag) (dd : List D) (dvs : List V) : Prop := ∀ H : Hp, RepFs K H dd dvs
theorem dfl_nil : Dfl K [] [] := fun _ => .nil
def PAt (CX : CXT) (X : Cx) (W : WX) : Prop := ∀ σ, PassesAt CX X σ (fun c d H => W c d σ H)
theorem pat0 : PAt CX0 X W := fun σ pins H s e s' I h => h.elim
def dCallF (n : Nat) (F : List O → RF) (dd : List D) (ma : MA) : ME := fun g => (ma g).bind fun os g1 => if os.length + dd.length = n then retF (F (os ++ dd.map .fz)) g1 else .no
variable {CX : CXT} {k n : Nat} {br : Bool} {f C : Addr} {fd : FuncData} {ps : List Str} {F : List O → RF} {dd : List D} {dvs : List V} {ds : List Value} {x m : Str} {p pos apos p2 : Pos} {e o a b : Expr} {es : List Expr} {ma : MA} {me mb : ME} {i : Nat}
theorem repFs_len {dd : List D} {dvs : List V} (h : Dfl K dd dvs) : dd.length = dvs.length := (h fun _ => none).1
theorem rd_fn (hdd : Dfl K dd dvs) {Q : VK} (h : rdE K E W (dCallF n F dd ma) σ H Q) : rdA K E W ma σ H fun vs H1 => spL K n br F (vs ++ dvs) H1 Q (fun c d H => W c d σ H) := by
  obtain ⟨g, t, τ, Hf, R, F0⟩ := h
  refine rdA_more (t2 := []) (τ2 := []) rfl (by simpa using R) F0 fun vs g1 Hf1 H1 os he hl R1 F1 => ?_
  simp only [List.append_nil] at R1
  split at F1
  · rename_i hn
    have R2 := R1.push_fzs (hdd Hf1)
    have hl2 := repFs_len hdd
    exact Rdy.fnF (os := os ++ dd.map .fz) (by simpa using R2) (by simpa using hn) (by simp; omega) F1
  · exact F1.elim
/-- f(e, ..) -/
theorem le_call (Fn : FnOk X.prog X.w X.K X.mg X.base CX k f fd ps (spL X.K n br F)) (hr : Room k X.A) (hg : Gl X x) (hm : X.mg x = some (.ref f)) (hk : PySem.W.keepIn X.K (.ref f) = true) (hb : Binds X.K fd ps ds) (hd : Vals dvs ds) (hdd : Dfl X.K dd dvs) (hx : PAt CX X W)
    (ha : LA X E W (e :: es) ma) (hdb : (x == ("__debug__" : Str)) = false := by decide) (he : starEach (e :: es) X.env = (false, eval e X.env) :: starEach es X.env := by rfl) (hpl : (backTo pos (starEach es X.env)).any (·.1) = false := by rfl) :
    LE X E W (.Call (.Name x p) (e :: es) [] pos) (dCallF n F dd ma) :=
  (pe_callSD Fn hr hg hm hk hb hd hx ha hdb he hpl).to fun σ H Q h => rd_fn hdd h
theorem le_call0 (Fn : FnOk X.prog X.w X.K X.mg X.base CX k f fd ps (spL X.K n br F)) (hr : Room k X.A) (hg : Gl X x) (hm : X.mg x = some (.ref f)) (hk : PySem.W.keepIn X.K (.ref f) = true) (hb : Binds X.K fd ps ds) (hd : Vals dvs ds) (hdd : Dfl X.K dd dvs) (hx : PAt CX X W)
    (hdb : (x == ("__debug__" : Str)) = false := by decide) : LE X E W (.Call (.Name x p) [] [] pos) (dCallF n F dd aNil) :=
  (pe_callSD0 Fn hr hg hm hk hb hd hx hdb).to fun σ H Q h => by
    obtain ⟨g, t, τ, Hf, R, F0⟩ := h
    have F0 : Fin X.K E W (if ([] : List O).length + dd.length = n then retF (F ([] ++ dd.map .fz)) g else .no) t τ σ Q := F0
    split at F0
    · rename_i hn
      have R2 := R.push_fzs (hdd Hf)
      have hl2 := repFs_len hdd
      exact Rdy.fnF (os := dd.map .fz) R2 (by simpa using hn) (by simp at hn; omega) (by simpa using F0)
    · exact F0.elim
/-- f(x, e, ..), x a slot whose thing is lent -/
def dCallR (n : Nat) (F : List O → RF) (dd : List D) (j : Nat) (ma : MA) : ME := fun g => match g[j]? with
  | some (some o) => match ma (g.set j none) with
    | .ok os g1 => if os.length + dd.length + 1 = n then (match F (o :: (os ++ dd.map .fz)) with
      | .ok r u => .ok r (g1.set j u)
      | .ex c fs u => .ex c fs (g1.set j u)
      | .no => .no) else .no
    | .ex c fs g1 => .ex c fs (g1.set j (some o))
    | .no => .no
  | _ => .no
theorem Rdy.lend {o : O} {v : V} (R : Rdy K E g t σ τ Hf H) {j : Nat} (e : g[j]? = some (some o)) (ev : σ[j]? = some (some v)) : Rdy K E (g.set j none) (t ++ [some o]) σ (τ ++ [some v]) Hf H := R.take e ev
theorem rd_fnR {j : Nat} (hdd : Dfl K dd dvs) {Q : VK} (h : rdE K E W (dCallR n F dd j ma) σ H Q) : ∃ v, σ[j]? = some (some v) ∧ rdA K E W ma σ H fun vs H1 => spL K n br F (v :: (vs ++ dvs)) H1 Q (fun c d H => W c d σ H) := by
  obtain ⟨g, t, τ, Hf, R, F0⟩ := h
  unfold dCallR at F0
  cases e0 : g[j]? with
  | none => rw [e0] at F0; exact F0.elim
  | some s0 =>
    cases s0 with
    | none => rw [e0] at F0; exact F0.elim
    | some o =>
      rw [e0] at F0
      dsimp only at F0
      obtain ⟨v, hv, _⟩ := R.slot e0
      refine ⟨v, hv, ?_⟩
      have R1 := R.lend e0 hv
      refine ⟨g.set j none, t ++ [some o], τ ++ [some v], Hf, R1, ?_⟩
      cases e1 : ma (g.set j none) with
      | no => rw [e1] at F0; exact F0
      | ex c fs g' =>
        rw [e1] at F0
        intro d Hf' H' R' x
        have R6 : Rdy K E g' (t ++ [some o] ++ []) σ (τ ++ [some v] ++ []) Hf' H' := by simpa using R'
        have R7 := R6.untake hv rfl
        exact F0 d Hf' H' (by simpa using R7) x
      | ok os g1 =>
        rw [e1] at F0
        intro vs Hf2 H2 hl R2
        dsimp only at F0
        split at F0
        · rename_i hn
          have R3 := R2.push_fzs (hdd Hf2)
          have hl2 := repFs_len hdd
          have R4 : Rdy K E g1 (t ++ (o :: (os ++ dd.map O.fz)).map some) σ (τ ++ (v :: (vs ++ dvs)).map some) Hf2 H2 := by simpa using R3
          refine R4.fn (by simp; omega) (by simp; omega) ?_
          cases n with
          | zero => omega
          | succ n =>
            have hb : ∀ u : Option O, backs u (n + 1) = [u] ++ List.replicate n none := fun u => rfl
            have hn2 : n = (vs ++ dvs).length := by simp; omega
            cases e2 : F (o :: (os ++ dd.map .fz)) with
            | no => rw [e2] at F0; exact F0
            | ok r u =>
              rw [e2] at F0
              intro w Hf' H' R5
              have R6 : Rdy K E g1 (t ++ [u] ++ (List.replicate n none ++ [some r])) σ (τ ++ [some v] ++ ((vs ++ dvs).map some ++ [some w])) Hf' H' := by
                rw [hb] at R5
                simpa using R5
              have R7 := R6.untake hv (by simp; omega)
              rw [← List.append_assoc, ← List.append_assoc] at R7
              exact F0 w Hf' H' (R7.mid (by simp; omega))
            | ex c fs u =>
              rw [e2] at F0
              intro d Hf' H' R5 x
              have R6 : Rdy K E g1 (t ++ [u] ++ List.replicate n none) σ (τ ++ [some v] ++ (vs ++ dvs).map some) Hf' H' := by
                rw [hb] at R5
                simpa using R5
              have R7 := R6.untake hv (by simp; omega)
              exact F0 d Hf' H' (R7.drop (by simp; omega)) x
        · exact F0.elim
theorem le_callR {y : Str} {j : Nat} (Fn : FnOk X.prog X.w X.K X.mg X.base CX k f fd ps (spL X.K n br F)) (hr : Room k X.A) (hg : Gl X x) (hm : X.mg x = some (.ref f)) (hk : PySem.W.keepIn X.K (.ref f) = true) (hb : Binds X.K fd ps ds) (hd : Vals dvs ds) (hdd : Dfl X.K dd dvs) (hx : PAt CX X W)
    (hN : X.N[j]? = some y) (hv : Vis X.env.scope y) (ha : LA X E W es ma) (hdb : (x == ("__debug__" : Str)) = false := by decide) (hd1 : (y == ("__debug__" : Str)) = false := by decide) (hcd : (y == ("__classdict__" : Str)) = false := by decide)
    (he : starEach (.Name y p2 :: es) X.env = (false, eval (.Name y p2) X.env) :: starEach es X.env := by rfl) (hpl : (backTo pos (starEach es X.env)).any (·.1) = false := by rfl) :
    LE X E W (.Call (.Name x p) (.Name y p2 :: es) [] pos) (dCallR n F dd j ma) := by
  refine (pe_callSD Fn hr hg hm hk hb hd hx (pa_cons (pe_var hN hv hd1 hcd) ha he) hdb he hpl).to fun σ H Q h => ?_
  obtain ⟨v, h1, g, t, τ, Hf, R, Fi⟩ := rd_fnR hdd h
  refine ⟨v, h1, ?_⟩
  refine ⟨g, t, τ, Hf, R, ?_⟩
  exact Fi
/-- o.m(e, ..) -/
def insIs (C : Addr) (m : Str) : D → Bool
  | .ins C' fs => decide (C' = C) && (fs.lookup m).isNone
  | _ => false
theorem insIs_eq {d : D} (h : insIs C m d = true) : ∃ fs, d = .ins C fs ∧ fs.lookup m = none := by
  cases d <;> simp only [insIs, Bool.and_eq_true, Bool.false_eq_true] at h
  obtain ⟨h1, h2⟩ := h
  exact ⟨_, by rw [of_decide_eq_true h1], Option.isNone_iff_eq_none.mp h2⟩
def isC (C : Addr) : D → Bool
  | .ins C' _ => decide (C' = C)
  | _ => false
theorem isC_eq {d : D} (h : isC C d = true) : ∃ fs, d = .ins C fs := by
  cases d <;> simp only [isC, Bool.false_eq_true] at h
  exact ⟨_, by rw [of_decide_eq_true h]⟩
def dMeth (n : Nat) (C : Addr) (m : Str) (F : List O → RF) (dd : List D) (me : ME) (ma : MA) : ME := fun g => (me g).bind fun o g1 => if insIs C m o.frz = true then (ma g1).bind fun os g2 =>
  if os.length + dd.length + 1 = n then retF (F (.fz o.frz :: (os ++ dd.map .fz))) g2 else .no else .no
theorem rd_meth {v : V} {d : D} {Q : VK} (hdd : Dfl K dd dvs) (R : Rdy K E g (t ++ [some (.fz d)]) σ (τ ++ [some v]) Hf H)
    (F1 : Fin K E W ((ma g).bind fun os g2 => if os.length + dd.length + 1 = n then retF (F (.fz d :: (os ++ dd.map .fz))) g2 else .no) t τ σ Q) :
    rdA K E W ma σ H fun vs H2 => spL K n br F (v :: (vs ++ dvs)) H2 Q (fun c d H => W c d σ H) := by
  refine rdA_more (t2 := [some (.fz d)]) (τ2 := [some v]) rfl R F1 fun vs g2 Hf2 H2 os _ hl R2 F2 => ?_
  split at F2
  · rename_i hn
    have R3 := R2.push_fzs (hdd Hf2)
    have hl2 := repFs_len hdd
    exact Rdy.fnF (os := .fz d :: (os ++ dd.map .fz)) (vs := v :: (vs ++ dvs)) (by simpa using R3) (by simp; omega) (by simp; omega) F2
  · exact F2.elim
theorem le_meth {pl : Sem Bool} (c : Cls X.K C) (hm : Meth X.K C m f) (Fn : FnOk X.prog X.w X.K X.mg X.base CX k f fd ps (spL X.K n br F)) (hr : Room k X.A) (hb : Binds X.K fd ps ds) (hd : Vals dvs ds) (hdd : Dfl X.K dd dvs) (hx : PAt CX X W) (ho : LE X E W o me) (ha : LA X E W (e :: es) ma)
    (hst : starEach (e :: es) X.env = (false, eval e X.env) :: starEach es X.env := by rfl) (hpl : (backTo pos (starEach es X.env)).any (·.1) = false := by rfl)
    (ht : eval (.Call (.Attribute o m apos) (e :: es) [] pos) X.env = (do
      let ov ← eval o X.env
      standAt apos.atName
      let (f, first) ← holding [ov] (getMethod ov m pl)
      callWith pos f first (backTo pos (starEach (e :: es) X.env)) (backToKw pos (keywordEach [] X.env))) := by rfl) :
    LE X E W (.Call (.Attribute o m apos) (e :: es) [] pos) (dMeth n C m F dd me ma) := by
  refine (pe_methSD ho c hm Fn hr hb hd hx ha hst hpl ht).to fun σ H Q ⟨g, t, τ, Hf, R, F0⟩ => ?_
  refine rdE_more (t2 := []) (τ2 := []) rfl (by simpa using R) F0 fun v1 g1 Hf1 H1 o1 _ R1 F1 => ?_
  simp only [List.append_nil] at R1
  split at F1
  · rename_i hi
    obtain ⟨fs, e1, e2⟩ := insIs_eq hi
    obtain ⟨Hf2, _, R2⟩ := R1.freezeT
    have rp := R2.topF
    rw [e1] at rp
    cases rp with
    | ins h1 h2 h3 => exact ⟨_, _, _, rfl, R2.rl.sub _ _ h1, RepKs.lookN ⟨h2, h3⟩ e2, rd_meth hdd R2 F1⟩
  · exact F1.elim
theorem le_meth0 {pl : Sem Bool} (c : Cls X.K C) (hm : Meth X.K C m f) (Fn : FnOk X.prog X.w X.K X.mg X.base CX k f fd ps (spL X.K n br F)) (hr : Room k X.A) (hb : Binds X.K fd ps ds) (hd : Vals dvs ds) (hdd : Dfl X.K dd dvs) (hx : PAt CX X W) (ho : LE X E W o me)
    (ht : eval (.Call (.Attribute o m apos) [] [] pos) X.env = (do
      let ov ← eval o X.env
      standAt apos.atName
      let (f, first) ← holding [ov] (getMethod ov m pl)
      callWith pos f first (backTo pos (starEach [] X.env)) (backToKw pos (keywordEach [] X.env))) := by rfl) :
    LE X E W (.Call (.Attribute o m apos) [] [] pos) (dMeth n C m F dd me aNil) := by
  refine (pe_methSD0 ho c hm Fn hr hb hd hx ht).to fun σ H Q ⟨g, t, τ, Hf, R, F0⟩ => ?_
  refine rdE_more (t2 := []) (τ2 := []) rfl (by simpa using R) F0 fun v1 g1 Hf1 H1 o1 _ R1 F1 => ?_
  simp only [List.append_nil] at R1
  split at F1
  · rename_i hi
    obtain ⟨fs, e1, e2⟩ := insIs_eq hi
    obtain ⟨Hf2, _, R2⟩ := R1.freezeT
    have rp := R2.topF
    have hl2 := repFs_len hdd
    have F2 : Fin X.K E W (if ([] : List O).length + dd.length + 1 = n then retF (F (.fz o1.frz :: ([] ++ dd.map .fz))) g1 else .no) t τ σ Q := F1
    split at F2
    · rename_i hn
      simp only [List.length_nil, Nat.zero_add] at hn
      have R3 := R2.push_fzs (hdd Hf2)
      have z : spL X.K n br F (v1 :: dvs) H1 Q (fun c d H => W c d σ H) := Rdy.fnF (os := .fz o1.frz :: dd.map .fz) (vs := v1 :: dvs) (by simpa using R3) (by simp; omega) (by simp; omega) (by simpa using F2)
      rw [e1] at rp
      cases rp with
      | ins h1 h2 h3 => exact ⟨_, _, _, rfl, R2.rl.sub _ _ h1, RepKs.lookN ⟨h2, h3⟩ e2, z⟩
    · exact F2.elim
  · exact F1.elim
/-- C(e, ..) -/
def dMake (n : Nat) (C : Addr) (F : List O → RF) (dd : List D) (ma : MA) : ME := fun g => (ma g).bind fun os g1 => if os.length + dd.length + 1 = n then (match F (.oi C [] :: (os ++ dd.map .fz)) with
  | .ok (.fz .non) (some o) => .ok o g1
  | .ex c fs _ => .ex c fs g1
  | _ => .no) else .no
theorem rd_make {os : List O} {vs : List V} {Q : VK} (hdd : Dfl K dd dvs) (R : Rdy K E g (t ++ os.map some) σ (τ ++ vs.map some) Hf H) (hl : os.length = vs.length) (F1 : Fin K E W (if os.length + dd.length + 1 = n then (match F (.oi C [] :: (os ++ dd.map .fz)) with
  | .ok (.fz .non) (some o) => .ok o g
  | .ex c fs _ => .ex c fs g
  | _ => .no) else .no) t τ σ Q) : ∀ x dx, H x = none → H dx = none → dx ≠ x → spL K n br F (.ref x :: (vs ++ dvs)) (upd (upd H dx (.own x)) x (.ins C dx [])) (fun v H2 => v = .non ∧ Q (.ref x) H2) (fun c d H => W c d σ H) := by
  intro x dx hx hdx hne
  split at F1
  · rename_i hn
    have hl2 := repFs_len hdd
    have R1 := R.push_fzs (hdd Hf)
    have R2 := R1.alloc (u := .own x) hdx
    have hx2 : upd H dx (.own x) x = none := by rw [upd_ne (fun e => hne e.symm)]; exact hx
    have R3 := R2.push_new (u := .ins C dx []) (o := .oi C []) hx2 (.oi upd_same ⟨rfl, fun i p q h => by simp at h⟩)
    have R4 : Rdy K E g (t ++ (os ++ dd.map O.fz).map some ++ [some (.oi C [])]) σ (τ ++ (vs ++ dvs).map some ++ [some (.ref x)]) Hf (upd (upd H dx (.own x)) x (.ins C dx [])) := by simpa using R3
    have R5 := R4.rot (by simp; omega)
    have R6 : Rdy K E g (t ++ (O.oi C [] :: (os ++ dd.map O.fz)).map some) σ (τ ++ (V.ref x :: (vs ++ dvs)).map some) Hf (upd (upd H dx (.own x)) x (.ins C dx [])) := by simpa using R5
    refine R6.fn (by simp; omega) (by simp; omega) ?_
    cases n with
    | zero => omega
    | succ n =>
      have hb : ∀ u : Option O, backs u (n + 1) = [u] ++ List.replicate n none := fun u => rfl
      have hn2 : n = (vs ++ dvs).length := by simp; omega
      cases e2 : F (.oi C [] :: (os ++ dd.map .fz)) with
      | no => rw [e2] at F1; exact F1
      | ok r u =>
        rw [e2] at F1
        intro w Hf' H' R5
        split at F1
        · rename_i o heq
          cases heq
          have rw' := (by
            rw [← List.append_assoc, ← List.append_assoc] at R5
            exact R5.topF : RepF K Hf' .non w)
          cases rw'
          refine ⟨rfl, F1 _ Hf' H' ?_⟩
          rw [hb] at R5
          have R6 : Rdy K E g ((t ++ [some o]) ++ (List.replicate n none ++ [some (.fz .non)])) σ ((τ ++ [some (.ref x)]) ++ ((vs ++ dvs).map some ++ [some .non])) Hf' H' := by simpa using R5
          exact R6.drop (by simp; omega)
        · rename_i heq; cases heq
        · exact F1.elim
      | ex c fs u =>
        rw [e2] at F1
        intro d Hf' H' R5 xx
        exact F1 d Hf' H' (R5.drop (by rw [backs_length]; simp; omega)) xx
  · exact F1.elim
theorem le_make (M : Mk X.K C f) (Fn : FnOk X.prog X.w X.K X.mg X.base CX k f fd ps (spL X.K n br F)) (hr : Room (k + 1) X.A) (hg : Gl X x) (hm : X.mg x = some (.ref C)) (hb : Binds X.K fd ps ds) (hd : Vals dvs ds) (hdd : Dfl X.K dd dvs) (hx : PAt CX X W)
    (ha : LA X E W (e :: es) ma) (hdb : (x == ("__debug__" : Str)) = false := by decide) (he : starEach (e :: es) X.env = (false, eval e X.env) :: starEach es X.env := by rfl) (hpl : (backTo pos (starEach es X.env)).any (·.1) = false := by rfl) :
    LE X E W (.Call (.Name x p) (e :: es) [] pos) (dMake n C F dd ma) := by
  refine (pe_makeSD M Fn hr hg hm hb hd hx ha hdb he hpl).to fun σ H Q ⟨g, t, τ, Hf, R, F0⟩ => ?_
  refine rdA_more (t2 := []) (τ2 := []) rfl (by simpa using R) F0 fun vs g1 Hf1 H1 os _ hl R1 F1 => ?_
  simp only [List.append_nil] at R1
  exact rd_make hdd R1 hl F1
theorem le_make0 (M : Mk X.K C f) (Fn : FnOk X.prog X.w X.K X.mg X.base CX k f fd ps (spL X.K n br F)) (hr : Room (k + 1) X.A) (hg : Gl X x) (hm : X.mg x = some (.ref C)) (hb : Binds X.K fd ps ds) (hd : Vals dvs ds) (hdd : Dfl X.K dd dvs) (hx : PAt CX X W)
    (hdb : (x == ("__debug__" : Str)) = false := by decide) : LE X E W (.Call (.Name x p) [] [] pos) (dMake n C F dd aNil) := by
  refine (pe_makeSD0 M Fn hr hg hm hb hd hx hdb).to fun σ H Q ⟨g, t, τ, Hf, R, F0⟩ => ?_
  have := rd_make (os := []) (vs := []) (F := F) (C := C) (n := n) (br := br) (g := g) hdd (by simpa using R) rfl F0
  simpa using this
/-- a op b, -a of own instances -/
def dOpF (C : Addr) (F : List O → RF) (ma mb : ME) : ME := fun g => (ma g).bind fun a g1 => (mb g1).bind fun b g2 => if isC C a.frz = true ∧ isC C b.frz = true then retF (F [.fz a.frz, .fz b.frz]) g2 else .no
theorem le_opF {op : Operator} {id : Str} (Fn : FnOk X.prog X.w X.K X.mg X.base CX k f fd ps (spL X.K 2 br F)) (hr : Room k X.A) (hb : Binds X.K fd ps []) (hx : PAt CX X W) (hc : PySem.W.selfFirst X.K C = true)
    (hid : PySem.dunder op.info.2 = id) (hs : PySem.W.findIn X.K (.ref C) id = some (some (.ref f))) (hf : PySem.W.isFn X.K (.ref f) = true) (ha : LE X E W a me) (hb' : LE X E W b mb) : LE X E W (.BinOp a op b pos) (dOpF C F me mb) := by
  refine (pe_opOwn ha hb' Fn hr hb hx hc hid hs hf).to fun σ H Q ⟨g, t, τ, Hf, R, F0⟩ => ?_
  refine rdE_more (t2 := []) (τ2 := []) rfl (by simpa using R) F0 fun v1 g1 Hf1 H1 o1 _ R1 F1 => ?_
  simp only [List.append_nil] at R1
  refine rdE_more (t2 := [some o1]) (τ2 := [some v1]) rfl R1 F1 fun v2 g2 Hf2 H2 o2 _ R2 F2 => ?_
  split at F2
  · rename_i hi
    obtain ⟨Hf3, _, x3, r1, r2, R3⟩ := R2.freeze2
    have R4 := (R3.push_fz r1).push_fz r2
    have z : spL X.K 2 br F [v1, v2] H2 Q (fun c d H => W c d σ H) := Rdy.fnF (os := [.fz o1.frz, .fz o2.frz]) (vs := [v1, v2]) (by simpa using R4) rfl rfl F2
    obtain ⟨fs, e1⟩ := isC_eq hi.1
    obtain ⟨gs, e2⟩ := isC_eq hi.2
    rw [e1] at r1
    rw [e2] at r2
    cases r1 with
    | ins h1 _ _ =>
      cases r2 with
      | ins k1 _ _ => exact ⟨_, _, _, _, _, _, rfl, rfl, x3 _ _ h1, x3 _ _ k1, z⟩
  · exact F2.elim
def dNegF (C : Addr) (F : List O → RF) (ma : ME) : ME := fun g => (ma g).bind fun a g1 => if isC C a.frz = true then retF (F [.fz a.frz]) g1 else .no
theorem le_negF (Fn : FnOk X.prog X.w X.K X.mg X.base CX k f fd ps (spL X.K 1 br F)) (hr : Room k X.A) (hb : Binds X.K fd ps []) (hx : PAt CX X W)
    (hs : PySem.W.findIn X.K (.ref C) "__neg__" = some (some (.ref f))) (hf : PySem.W.isFn X.K (.ref f) = true) (ha : LE X E W a me) : LE X E W (.UnaryOp .USub a pos) (dNegF C F me) := by
  refine (pe_negOwn ha Fn hr hb hx hs hf).to fun σ H Q ⟨g, t, τ, Hf, R, F0⟩ => ?_
  refine rdE_more (t2 := []) (τ2 := []) rfl (by simpa using R) F0 fun v1 g1 Hf1 H1 o1 _ R1 F1 => ?_
  simp only [List.append_nil] at R1
  split at F1
  · rename_i hi
    obtain ⟨Hf3, _, x3, r1, R3⟩ := R1.freeze1
    have R4 := R3.push_fz r1
    have z : spL X.K 1 br F [v1] H1 Q (fun c d H => W c d σ H) := Rdy.fnF (os := [.fz o1.frz]) (vs := [v1]) (by simpa using R4) rfl rfl F1
    obtain ⟨fs, e1⟩ := isC_eq hi
    rw [e1] at r1
    cases r1 with
    | ins h1 _ _ => exact ⟨_, _, _, rfl, x3 _ _ h1, z⟩
  · exact F1.elim
end
end L3
end

section
namespace L3
open PySem L2

section
variable {X : Cx} {E : Ent} {W : WX} {K : PySem.W.Frag} {g t : Gm} {σ τ : L2.St} {Hf H : Hp} {pos : Pos}

/-! ### texts -/
/-- o.m(e), o a text -/
def dM1 (φ : Str → D → Option O) (mo me : ME) : ME := fun g => (mo g).bind fun o g1 => match strD o.frz with
  | some z => (me g1).bind fun e g2 => optO (φ z e.frz) g2
  | none => .no
def dM0 (φ : Str → Option O) (mo : ME) : ME := fun g => (mo g).bind fun o g1 => match strD o.frz with
  | some z => optO (φ z) g1
  | none => .no
def PureM1 (K : PySem.W.Frag) (r : V → List V → Hp → VK → Prop) (φ : Str → D → Option O) : Prop :=
  ∀ (Hf H : Hp) (z : Str) (d : D) (v : V) (o : O) (Q : VK), Ex Hf H → φ z d = some o → RepF K Hf d v → (∀ z Hf' H', Yld K Hf H o z Hf' H' → Q z H') → r (.str z) [v] H Q
def PureM0 (K : PySem.W.Frag) (r : V → List V → Hp → VK → Prop) (φ : Str → Option O) : Prop :=
  ∀ (Hf H : Hp) (z : Str) (o : O) (Q : VK), Ex Hf H → φ z = some o → (∀ z Hf' H', Yld K Hf H o z Hf' H' → Q z H') → r (.str z) [] H Q
theorem strD_eq {d : D} {z : Str} (h : strD d = some z) : d = .str z := by cases d <;> simp [strD] at h; rw [h]
theorem le_m1 {o e : Expr} {mo me : ME} {id : String} {name : Str} {apos : Pos} {r : V → List V → Hp → VK → Prop} {φ : Str → D → Option O} (slot : Slot "str" name id) (ty : typeOf (.builtin id) = pure (.type "method_descriptor")) (rule : MtR X id r) (hφ : PureM1 X.K r φ) (ho : LE X E W o mo) (he : LE X E W e me)
    (hs : starEach [e] X.env = [(false, eval e X.env)] := by rfl) (hbase : attributeBase o name X.env (eval o X.env) = eval o X.env := by rfl) (hline : (apos.endLine == pos.line) = true := by rfl) :
    LE X E W (.Call (.Attribute o name apos) [e] [] pos) (dM1 φ mo me) := by
  refine (pe_m1 slot ty rule ho he hs hbase hline).to fun σ H Q ⟨g, t, τ, Hf, R, F0⟩ => ?_
  refine rdE_more (t2 := []) (τ2 := []) rfl (by simpa using R) F0 fun v1 g1 Hf1 H1 o1 _ R1 F1 => ?_
  simp only [List.append_nil] at R1
  cases e1 : strD o1.frz with
  | none => rw [e1] at F1; exact F1.elim
  | some z =>
    rw [e1] at F1
    obtain rfl := R1.top.str (strD_eq e1)
    refine ⟨⟨z, rfl⟩, ?_⟩
    refine rdE_more (t2 := [some o1]) (τ2 := [some (.str z)]) rfl R1 F1 fun v2 g2 Hf2 H2 o2 _ R2 F2 => ?_
    obtain ⟨Hf3, _, x3, r1, r2, R3⟩ := R2.freeze2
    cases e : φ z o2.frz with
    | none => rw [e] at F2; exact F2.elim
    | some d => rw [e] at F2; exact hφ Hf3 H2 z _ v2 d Q x3 e r2 fun w Hf' H' y => F2 w Hf' H' (R3.yld y)
theorem le_m0 {o : Expr} {mo : ME} {id : String} {name : Str} {apos : Pos} {r : V → List V → Hp → VK → Prop} {φ : Str → Option O} (slot : Slot "str" name id) (ty : typeOf (.builtin id) = pure (.type "method_descriptor")) (rule : MtR X id r) (hφ : PureM0 X.K r φ) (ho : LE X E W o mo)
    (hbase : attributeBase o name X.env (eval o X.env) = eval o X.env := by rfl) (hline : (apos.endLine == pos.line) = true := by rfl) :
    LE X E W (.Call (.Attribute o name apos) [] [] pos) (dM0 φ mo) := by
  refine (pe_m0 slot ty rule ho hbase hline).to fun σ H Q ⟨g, t, τ, Hf, R, F0⟩ => ?_
  refine rdE_more (t2 := []) (τ2 := []) rfl (by simpa using R) F0 fun v1 g1 Hf1 H1 o1 _ R1 F1 => ?_
  simp only [List.append_nil] at R1
  cases e1 : strD o1.frz with
  | none => rw [e1] at F1; exact F1.elim
  | some z =>
    rw [e1] at F1
    obtain rfl := R1.top.str (strD_eq e1)
    refine ⟨⟨z, rfl⟩, ?_⟩
    dsimp only at F1
    cases e : φ z with
    | none => rw [e] at F1; exact F1.elim
    | some d => rw [e] at F1; exact hφ Hf1 H1 z d Q R1.rl.sub e fun w Hf' H' y => F1 w Hf' H' ((R1.drop (by rfl)).yld y)
def seqD : D → Option (List D)
  | .lst xs => some xs
  | .sq xs => some xs
  | .tup xs => some xs
  | _ => none
theorem RepF.seqD {d : D} {v : V} {xs : List D} (s : Ex Hf H) (h : RepF K Hf d v) (e : L3.seqD d = some xs) : ∃ a vs, v = .ref a ∧ (SqL K H a vs ∨ SqT K H a vs) ∧ RepFs K Hf xs vs := by
  cases h with
  | lst h1 h2 h3 => cases e; exact ⟨_, _, rfl, .inl (.of (s _ _ h1)), h2, h3⟩
  | sq h1 h2 h3 => cases e; exact ⟨_, _, rfl, .inl (s.l h1), h2, h3⟩
  | tup h1 h2 h3 => cases e; exact ⟨_, _, rfl, .inr (s.t h1), h2, h3⟩
  | _ => cases e
def fJoin (z : Str) (d : D) : Option O := match seqD d with
  | some xs => match allD strD xs with
    | some ys => if (ys.map (·.length)).sum + ys.length * z.length ≤ big then some (.fz (.str (Txt.join z ys))) else none
    | none => none
  | none => none
theorem j_join : PureM1 K (fun x xs H Q => ∃ a p, ∃ ys : List Str, x = .str a ∧ xs = [.ref p] ∧ (SqL K H p (ys.map V.str) ∨ SqT K H p (ys.map V.str)) ∧
    (ys.map (·.length)).sum + ys.length * a.length ≤ 16777216 ∧ Q (.str (Txt.join a ys)) H) fJoin := by
  intro Hf H z d v o Q s e r q
  unfold fJoin at e
  cases e1 : seqD d with
  | none => rw [e1] at e; cases e
  | some xs =>
    obtain ⟨a, vs, rfl, h1, h2⟩ := r.seqD s e1
    rw [e1] at e
    dsimp only at e
    cases e2 : allD strD xs with
    | none => rw [e2] at e; cases e
    | some ys =>
      rw [e2] at e
      dsimp only at e
      split at e
      · cases e
        have hv := strs_rep e2 h2
        subst hv
        exact ⟨z, a, ys, rfl, rfl, h1, by rw [show (16777216 : Nat) = big from rfl]; assumption, q _ _ _ (.val .str)⟩
      · cases e
theorem le_join {o e : Expr} {mo me : ME} {apos : Pos} (ho : LE X E W o mo) (he : LE X E W e me)
    (hs : starEach [e] X.env = [(false, eval e X.env)] := by rfl) (hbase : attributeBase o "join" X.env (eval o X.env) = eval o X.env := by rfl) (hline : (apos.endLine == pos.line) = true := by rfl) :
    LE X E W (.Call (.Attribute o "join" apos) [e] [] pos) (dM1 fJoin mo me) := le_m1 PySem.F.slot_str_join PySem.F.type_str_join mt_join j_join ho he hs hbase hline
/-- one sign in a text; an item in a list, a tuple of flat things -/
def oneC : Str → Option Nat := fun z => match z.cps.toList with
  | [c] => some c
  | _ => none
theorem oneC_eq {z : Str} {c : Nat} (h : oneC z = some c) : z = ⟨#[c]⟩ := by
  unfold oneC at h
  split at h
  · rename_i c' e
    cases h
    cases z with
    | mk a => congr 1; exact Array.toList_inj.mp (by simpa using e)
  · cases h
def flatD : D → Option V
  | .non => some .non
  | .bl b => some (.bl b)
  | .int i => some (.int i)
  | .str z => some (.str z)
  | _ => none
theorem flatD_rep {d : D} {u v : V} (e : flatD d = some u) (r : RepF K Hf d v) : v = u := by cases r <;> cases e <;> rfl
theorem flatD_flat {d : D} {u : V} (e : flatD d = some u) : flatV u = true := by cases d <;> cases e <;> rfl
theorem flats_rep {ds : List D} {us vs : List V} (e : allD flatD ds = some us) (r : RepFs K Hf ds vs) : vs = us := by
  have := allD_rep (h := fun u : V => u) (fun d a H v h r => flatD_rep h r) e r
  simpa using this
theorem flats_flat : ∀ {ds : List D} {us : List V}, allD flatD ds = some us → us.all flatV = true
  | [], us, e => by cases e; rfl
  | d :: ds, us, e => by
    unfold allD at e
    split at e
    · rename_i a as e1 e2
      cases e
      simp only [List.all_cons, Bool.and_eq_true]
      exact ⟨flatD_flat e1, flats_flat e2⟩
    · cases e
def cIn : D → D → Option Bool := fun x y => match y with
  | .str z => match x with
    | .str c => (oneC c).map fun c => decide (c ∈ z.cps.toList)
    | _ => none
  | d => match flatD x, seqD d with
    | some u, some xs => (allD flatD xs).map fun us => inV u us
    | _, _ => none
def rInA (K : PySem.W.Frag) (neg : Bool) : R2 := fun x y H Q => (∃ (c : Nat) (z : Str), x = .str ⟨#[c]⟩ ∧ y = .str z ∧ Q (.bl (if neg then !decide (c ∈ z.cps.toList) else decide (c ∈ z.cps.toList))) H) ∨ rIn K neg x y H Q
theorem op_inA : OpR X (compareOp .In) (rInA X.K false) := (op_in_sign).or op_in_seq
theorem op_notInA : OpR X (compareOp .NotIn) (rInA X.K true) := (op_notIn_sign).or op_notIn_seq
theorem b_inG {neg : Bool} : PureB K (rInA K neg) (fun x y => (cIn x y).map fun b => if neg then !b else b) := by
  intro Hf H x y b u v Q s e r1 r2 q
  dsimp only at e
  cases e0 : cIn x y with
  | none => rw [e0] at e; cases e
  | some b0 =>
    rw [e0] at e
    cases e
    cases y with
    | str z =>
      cases x with
      | str c =>
        simp only [cIn] at e0
        cases e1 : oneC c with
        | none => rw [e1] at e0; cases e0
        | some n =>
          rw [e1] at e0
          cases e0
          cases r1; cases r2
          exact .inl ⟨n, z, by rw [oneC_eq e1], rfl, q⟩
      | _ => cases e0
    | _ =>
      simp only [cIn] at e0
      split at e0
      · rename_i u' xs e1 e2
        cases e3 : allD flatD xs with
        | none => rw [e3] at e0; cases e0
        | some us =>
          rw [e3] at e0
          cases e0
          obtain ⟨a, vs, rfl, h1, h2⟩ := r2.seqD s e2
          have hv := flats_rep e3 h2
          subst hv
          have hu := flatD_rep e1 r1
          subst hu
          exact .inr ⟨a, _, rfl, h1, flatD_flat e1, flats_flat e3, q⟩
      · cases e0
theorem b_in : PureB K (rInA K false) cIn := by
  intro Hf H x y b u v Q s e r1 r2 q
  exact b_inG (neg := false) Hf H x y b u v Q s (by dsimp only; rw [e]; rfl) r1 r2 q
def cNotIn : D → D → Option Bool := fun x y => (cIn x y).map fun b => !b
theorem b_notIn : PureB K (rInA K true) cNotIn := by
  intro Hf H x y b u v Q s e r1 r2 q
  exact b_inG (neg := true) Hf H x y b u v Q s e r1 r2 q
end

/-! ### a def keeps its promise -/
section
open PySem.Spec PyProof.Rows
variable {P : Program} {w : World} {K : PySem.W.Frag} {mg : Str → Option Value} {base : Heap} {x qual : Str} {params : Arguments} {body : List Stmt} {scope : Scope} {dvs : List V} {kws : List (Str × V)} {f : Addr} {fd : FuncData}
/-- room, with a little to spare -/
structure RoomX (k : Nat) (A : Around) : Prop where
  r : Room k A
  un : A.units + 16 * k + 213 ≤ cLine
theorem fn_ofX {CX : CXT} {k : Nat} {name : Str} {dV kV doc pm cdv ct oc : Value} {an od : Option Addr}
    {osl : Array (Option Value)} {N ps : List Str} {sp : Sp} (lk : K.lookup f = some ⟨oc, od, .func (PySem.W.fnOf name qual params body scope dV kV doc pm an cdv ct), osl⟩) (hcd : PySem.W.codeIn K cdv qual = true) (S : FnScope N ps scope)
    (len : ∀ vs H Q E, sp vs H Q E → vs.length = ps.length)
    (hbody : ∀ (A : Around) (outer : List Env) (s : Shared) (H : Hp) (vs : List V) (Q : VK) (E : XK), RoomX k (A.deeper (envOfC qual scope s.heap.objs.size f cdv)) → sp vs H Q E →
      ∃ t, PSs (cxOf CX P w K mg base N qual scope f cdv A outer s H E) body t ∧ t { nx := fun _ H' => Q .non H', rt := Q } (L2.start N vs) H) :
    FnOk P w K mg base CX (k + 1) f (PySem.W.fnOf name qual params body scope dV kV doc pm an cdv ct) ps sp := by
  refine ⟨len, fun A outer s H args us vs Q E hr e0 hb r hsp => ?_⟩
  have hx : RoomX k (A.deeper (envOfC qual scope s.heap.objs.size f cdv)) := ⟨hr.deeper _, by have := hr.un; show A.units + 3 + 16 * k + 213 ≤ _; omega⟩
  have hl := len _ _ _ _ hsp
  have KX : K.In s.heap := e0.mod.kin.keeps fun b o e => (e0.bs b o e).1
  have lim : s.heap.NoLimit := e0.mod.nolimit.keeps fun b o e => (e0.bs b o e).1
  have hkind : ∀ y ∈ ps.zip us, scope.names.lookup y.1 = some .local ∨ (scope.names.lookup y.1 = some .cell ∧ ((cellsFrom (s.heap.objs.size + 1) scope.names []).lookup y.1).isSome = true) := fun ⟨n, v⟩ hy => by
    rcases S.par n (List.of_mem_zip hy).1 with q | q
    · exact .inl q
    · exact .inr ⟨q, PySem.W.cellsFrom_some _ _ _ (.inl q)⟩
  refine codeAny_call_function hr.depth (KX _ _ lk) rfl S.co S.gen rfl (PySem.W.codeRec_of KX hcd) (hb _ _ _ _ ?_)
  refine wpAny_newFunctionEnv_cells S.kind hkind fun env he s1 x => ?_
  subst he
  refine ⟨lim.keeps x.toInCall.keep, codeAny_func ?_⟩
  obtain ⟨t, ht, hq⟩ := hbody A outer s H vs Q E hx hsp
  have I : Inv (cxOf CX P w K mg base N qual scope f cdv A outer s H E) [] (L2.start N vs) H s1 := inv_start S hr.hd e0 hl r x
  refine wpAny_mono (ht.run [] s1 (L2.start N vs) H _ I hq) (fun fl s' hs => ?_) fun e s' hs => hs
  have fin : ∀ {σ' : L2.St} {H' : Hp} {v : V} {u : Value}, Inv (cxOf CX P w K mg base N qual scope f cdv A outer s H E) [] σ' H' s' → RelV v u → Q v H' → CE outer P w H s Q u s' :=
    fun {σ' H' v u} J rv q => ⟨v, H', J.os, J.bare, J.base, J.hok, rv, q⟩
  cases fl with
  | ret u =>
    obtain ⟨v, σ', H', J, rv, q⟩ := hs
    exact fin J rv q
  | next =>
    obtain ⟨σ', H', J, q⟩ := hs
    exact fin (v := V.non) (u := Value.none) J rfl q
  | brk =>
    obtain ⟨_, _, _, q⟩ := hs
    exact False.elim q
  | cont =>
    obtain ⟨_, _, _, q⟩ := hs
    exact False.elim q
/-- a def that is known keeps its promise -/
theorem okL {CX : CXT} {N ps : List Str} {k n : Nat} {br : Bool} {m : MS} (F : FunD K x qual params body scope dvs kws f fd) (S : FnScope N ps scope) (hn : ps.length = n)
    (h : ∀ (cdv : Value) (A : Around) (outer : List Env) (s : Shared) (H : Hp) (XE : XK) (E : Ent), RoomX k (A.deeper (envOfC qual scope s.heap.objs.size f cdv)) → (∀ p ∈ E.pin, p.1 ∈ if br = true then [0] else []) →
      LB (cxOf CX P w K mg base N qual scope f cdv A outer s H XE) E (fun c d _ H => XE c d H) body m) :
    FnOk P w K mg base CX (k + 1) f fd ps (spL K n br (runD N.length br m)) := by
  obtain ⟨oc, od, dV, kV, doc, pm, an, cdv, ct, osl, rfl, lk, hcd, _, _⟩ := F.ex
  refine fn_ofX lk hcd S (spL_len hn) fun A outer s H vs Q XE hr hsp => ?_
  have hl : ps.length ≤ N.length := by have := congrArg List.length S.pre; rw [List.length_take] at this; omega
  obtain ⟨E, hp, q⟩ := body_ok (NN := N) rfl (by omega) hsp
  exact ⟨_, h cdv A outer s H XE E hr hp, q⟩
end
end L3
end

section
namespace L3G
open PySem PySem.SeqAt
open AutoSeq1 (wpAny_loadPart')
open MeetsSeq MeetsSeq2 MeetsSeq3 SeqRoads2
section
variable {prog : Program} {w : World} {A : Around} {R : Result → Shared → Prop}
theorem tuple_eqB (l b : Addr) (items items2 : Array Value) (n n2 : Nat) (dd dd2 : Option Addr) (sl sl2 : Array (Option Value)) (I : Nat → Shared → Prop) (J : Shared → Prop)
    (turn : ∀ i (h1 : i < items.size) (h2 : i < items2.size) s, I i s → wpAny (model prog w) A.in1 (eqBool items[i] items2[i]) (fun r s' => (r = true ∧ I (i + 1) s') ∨ (r = false ∧ J s')) (fun e s' => R (.error e) s') s)
    (fin : ∀ s, I (min items.size items2.size) s → R (.ok (.ret (.bool (items.size == items2.size)))) s) (finJ : ∀ s, J s → R (.ok (.ret (.bool false))) s) {s : Shared} (hl1 : s.heap.get? l = some { cls := .type "tuple", dict := dd, data := .seq items n, slots := sl }) (hb1 : s.heap.get? b = some { cls := .type "tuple", dict := dd2, data := .seq items2 n2, slots := sl2 }) (h : I 0 s) :
    wpAny (model prog w) A.in1 (Builtin.«tuple.__eq__» ⟨[.ref l, .ref b], []⟩) (GQ.FinOf prog w A R) (fun e s' => R (.error e) s') s := by
  have f2 := AutoSeq1.sub_tuple_tuple
  have hZ : (items.toList.zip items2.toList).length = min items.size items2.size := by simp
  have h0 := h
  obtain ⟨hp, g, d, tk, os⟩ := s
  wp_walk using wpAny_loadPart' hl1, wpAny_loadPart' hb1, wpAny_forIn_list _ (fun rest b s' => b.1 = none ∧ ∃ i, rest = (items.toList.zip items2.toList).drop i ∧ i ≤ min items.size items2.size ∧ I i s') _
  case turn =>
    rintro ⟨y, x⟩ rest b s' ⟨hb', i, hz, hi, hI⟩
    have hlt : i < (items.toList.zip items2.toList).length := by
      rcases Nat.lt_or_ge i (items.toList.zip items2.toList).length with h' | h'
      · exact h'
      · rw [List.drop_of_length_le h'] at hz; cases hz
    have h1 : i < items.size := by rw [hZ] at hlt; omega
    have h2 : i < items2.size := by rw [hZ] at hlt; omega
    rw [List.drop_eq_getElem_cons hlt] at hz
    injection hz with hyx hrest
    have hy : y = items[i] := by have := congrArg Prod.fst hyx; simpa using this
    have hx : x = items2[i] := by have := congrArg Prod.snd hyx; simpa using this
    subst hy hx
    refine wpAny_bind (wpAny_mono (turn i h1 h2 s' hI) (fun r s2 q2 => ?_) fun _ _ x => x)
    rcases q2 with ⟨hr, q2⟩ | ⟨hr, q2⟩
    · subst hr
      wp_walk
      exact ⟨rfl, i + 1, hrest, by rw [hZ] at hlt; omega, q2⟩
    · subst hr
      have hR := finJ s2 q2
      wp_walk
      exact hR
  case fin =>
    rintro ⟨b1, b2⟩ s' ⟨hb', i, hz, hi, hI⟩
    simp only at hb'
    subst hb'
    have hge : min items.size items2.size ≤ i := by
      rcases Nat.lt_or_ge i (items.toList.zip items2.toList).length with h' | h'
      · rw [List.drop_eq_getElem_cons h'] at hz; cases hz
      · exact hZ ▸ h'
    have hi' : i = min items.size items2.size := by omega
    have hR : R (.ok (.ret (.bool (items.size == items2.size)))) s' := fin s' (hi' ▸ hI)
    wp_walk
    simpa [Builtin.Tuple.tupleCompareSizes] using hR
  case h =>
    exact ⟨rfl, 0, rfl, Nat.zero_le _, h0⟩
end
section
variable {prog : Program} {w : World} {A : Around} {E : Value → Shared → Prop} {s : Shared}
theorem rc_tupB {l b : Addr} {items items2 : Array Value} {Q : Value → Shared → Prop} (hu : A.units < cLine) (I : Nat → Shared → Prop) (J : Shared → Prop)
    (hl : s.heap.IsTuple l items) (hb : s.heap.IsTuple b items2)
    (turn : ∀ i (h1 : i < items.size) (h2 : i < items2.size) s, I i s → wpAny (model prog w) A.in1 (eqBool items[i] items2[i]) (fun r s' => (r = true ∧ I (i + 1) s') ∨ (r = false ∧ J s')) E s)
    (fin : ∀ s, I (min items.size items2.size) s → Q (.bool (items.size == items2.size)) s) (finJ : ∀ s, J s → Q (.bool false) s) (h : I 0 s) : wpAny (model prog w) A (richCompare .Eq (.ref l) (.ref b)) Q E s := by
  obtain ⟨⟨cls, dd, data, sl⟩, ho, hc, n, hd⟩ := id hl
  obtain ⟨⟨cls2, dd2, data2, sl2⟩, ho2, hc2, n2, hd2⟩ := id hb
  simp only at hc hd hc2 hd2
  subst hc hd hc2 hd2
  refine wpAny_richCompare_same_room (op := .Eq) ⟨_, ho, rfl⟩ ⟨_, ho2, rfl⟩ F.slot_tuple_eq (GQ.call_here F.slot_tuple_eq ⟨_, ho, rfl⟩ F.entry_tuple_eq (F.args_tuple_eq_2 _ _) ?_) hu
  exact tuple_eqB (R := wants (fun v s' => v ≠ .notImplemented ∧ Q v s') E) l b items items2 n n2 dd dd2 sl sl2 I J turn (fun s' q => ⟨(fun x => nomatch x), fin s' q⟩) (fun s' q => ⟨(fun x => nomatch x), finJ s' q⟩) ho ho2 h
end
end L3G

namespace L3
open PySem L2
section
variable {X : Cx} {E : Ent} {W : WX} {K : PySem.W.Frag} {g t : Gm} {G : Gm} {S : L2.St} {σ τ : L2.St} {Hf H H' : Hp}

theorem Rl.grow (R : Rl K E G S Hf H) (e : Ex H H') : Rl K E G S Hf H' where
  len := R.len
  sub := R.sub.trans e
  ext := R.ext
  frame := fun a o h n => e _ _ (R.frame a o h n)
  nofz := R.nofz
  at_ := fun i o h => by
    obtain ⟨v, h1, h2⟩ := R.at_ i o h
    exact ⟨v, h1, h2.mono (.refl _) fun a _ _ u hu => e _ _ hu⟩
  own := R.own
  dis := R.dis
  pin := R.pin
theorem Rdy.grow (R : Rdy K E g t σ τ Hf H) (e : Ex H H') : Rdy K E g t σ τ Hf H' := ⟨R.lg, R.pb, R.rl.grow e⟩
/-- frozen arguments alone -/
theorem Rl.frozen {ds : List D} {vs : List V} {br : Bool} (s : Ex Hf H) (r : RepFs K Hf ds vs) : Rl K ⟨H, Hf, fpOf ((ds.map O.fz).map some) (vs.map some), pinOf br vs⟩ ((ds.map O.fz).map some) (vs.map some) Hf H := by
  have key : ∀ {i : Nat} {o : O}, ((ds.map O.fz).map some)[i]? = some (some o) → ∃ d, ds[i]? = some d ∧ o = .fz d := fun {i o} e => by
    simp only [List.getElem?_map] at e
    cases h : ds[i]? with
    | none => rw [h] at e; cases e
    | some d => rw [h] at e; cases e; exact ⟨d, rfl, rfl⟩
  refine ⟨by simp [r.1], s, .refl _, fun a o h _ => h, fun a _ h _ => h, fun i o e => ?_, fun i o e ho => ?_, fun i j o o' a e ho => ?_, fun p hp => ?_⟩
  · obtain ⟨d, h1, rfl⟩ := key e
    obtain ⟨v, h2, h3⟩ := r.at h1
    exact ⟨v, by simp [h2], .fz h3⟩
  · obtain ⟨d, _, rfl⟩ := key e; cases ho
  · obtain ⟨d, _, rfl⟩ := key e; cases ho
  · obtain ⟨e1, e2⟩ := pinOf_mem hp
    rw [e1]; simp [e2]
/-- a def's promise at frozen arguments whose answer is a Bool -/
theorem spL_bool {n : Nat} {br : Bool} {F : List O → RF} {ds : List D} {vs : List V} {b : Bool} {u : Option O} {XE : XK} (s : Ex Hf H) (r : RepFs K Hf ds vs) (hn : ds.length = n) (e : F (ds.map .fz) = .ok (.fz (.bl b)) u) :
    spL K n br F vs H (fun v H' => v = .bl b ∧ Ex H H') XE := by
  refine ⟨ds.map .fz, Hf, by simpa using hn, by rw [← r.1]; exact hn, Rl.frozen s r, ?_⟩
  unfold FinF
  rw [e]
  intro v Hf' H' R
  have hl : (backs u vs.length ++ [some (O.fz (.bl b))])[vs.length]? = some (some (.fz (.bl b))) := by
    rw [List.getElem?_append_right (by rw [backs_length]; exact Nat.le_refl _), backs_length]; simp
  obtain ⟨w, h1, h2⟩ := R.at_ _ _ hl
  rw [List.getElem?_append_right (by simp)] at h1
  simp only [List.length_map, Nat.sub_self, List.getElem?_cons_zero, Option.some.injEq] at h1
  subst h1
  refine ⟨?_, fun a o h => R.frame a o h fun hf => ?_⟩
  · cases h2 with
    | fz r => cases r; rfl
  · obtain ⟨i, o', h3, h4, _⟩ := hf
    simp only [List.getElem?_map] at h3
    cases h5 : ds[i]? with
    | none => rw [h5] at h3; cases h3
    | some d => rw [h5] at h3; cases h3; cases h4

/-! ### == of data, by own classes' __eq__ -/
/-- somewhere below the running body X, with room n and j to spare -/
structure SubX (X : Cx) (n j : Nat) (A : Around) : Prop where
  room : Room n A
  un : A.units + 16 * n + 200 + j < cLine
  fr : A.frames = X.A.frames
theorem SubX.in1 {n j : Nat} {A : Around} (s : SubX X n (j + 1) A) : SubX X n j A.in1 :=
  ⟨⟨s.room.hd, s.room.dp, by have := s.un; show A.units + 1 + 16 * n + 200 < _; omega⟩, by have := s.un; show A.units + 1 + 16 * n + 200 + j < _; omega, s.fr⟩
theorem SubX.mono {n m j i : Nat} {A : Around} (s : SubX X n j A) (h : m ≤ n) (h2 : i ≤ j) : SubX X m i A := ⟨s.room.mono h, by have := s.un; omega, s.fr⟩
theorem subX_of {k : Nat} (r : RoomX k X.A) : SubX X k 12 X.A := ⟨r.r, by have := r.un; omega, rfl⟩
abbrev DQ := D → D → Option Bool
def EqS (X : Cx) (n j : Nat) (ψ : DQ) : Prop :=
  ∀ (A : Around) (pins : List (Addr × Obj)) (s : Shared) (σ : L2.St) (Hf H : Hp) (d1 d2 : D) (b : Bool) (x y : V) (u v : Value), SubX X n j A → Inv X pins σ H s → RelV x u → RelV y v → Ex Hf H → RepF X.K Hf d1 x → RepF X.K Hf d2 y → ψ d1 d2 = some b →
    wpAny (model X.prog X.w) A (richCompare .Eq u v) (fun r s' => r = .bool b ∧ ∃ H', Inv X pins σ H' s' ∧ Ex H H') X.xe s
def EqB (X : Cx) (n j : Nat) (ψ : DQ) : Prop :=
  ∀ (A : Around) (pins : List (Addr × Obj)) (s : Shared) (σ : L2.St) (Hf H : Hp) (d1 d2 : D) (b : Bool) (x y : V) (u v : Value), SubX X n j A → Inv X pins σ H s → RelV x u → RelV y v → Ex Hf H → RepF X.K Hf d1 x → RepF X.K Hf d2 y → ψ d1 d2 = some b →
    wpAny (model X.prog X.w) A (eqBool u v) (fun r s' => r = b ∧ ∃ H', Inv X pins σ H' s' ∧ Ex H H') X.xe s
/-- what is the same object is found equal -/
def Rfl (K : PySem.W.Frag) (ψ : DQ) : Prop := ∀ (Hf : Hp) (v : V) (d1 d2 : D) (b : Bool), RepF K Hf d1 v → RepF K Hf d2 v → ψ d1 d2 = some b → b = true
/-- only of objects -/
def isRef : D → Bool
  | .tup _ => true | .lst _ => true | .ins _ _ => true | _ => false
def Rfd (ψ : DQ) : Prop := ∀ d1 d2 b, ψ d1 d2 = some b → isRef d1 = true ∧ (flatD d2 = none → isRef d2 = true)
theorem ref_of {d : D} {v : V} (h : isRef d = true) (r : RepF K Hf d v) : ∃ a, v = .ref a := by cases r <;> first | exact ⟨_, rfl⟩ | cases h
/-- the items -/
def elD (ψ : DQ) : DQ := fun d1 d2 => match flatD d1, flatD d2 with
  | some u, some v => some (eqV u v)
  | none, none => ψ d1 d2
  | _, _ => none
theorem eqV_refl {d : D} {u : V} (h : flatD d = some u) : eqV u u = true := by cases d <;> cases h <;> simp [eqV]
theorem rfl_el {ψ : DQ} (h : Rfl K ψ) : Rfl K (elD ψ) := fun Hf v d1 d2 b r1 r2 e => by
  unfold elD at e
  cases e1 : flatD d1 with
  | some u =>
    cases e2 : flatD d2 with
    | some w =>
      rw [e1, e2] at e
      have h1 := flatD_rep e1 r1
      have h2 := flatD_rep e2 r2
      rw [← h1, ← h2] at e
      have := eqV_refl e1
      rw [← h1] at this
      dsimp only at e
      rw [this] at e
      cases e; rfl
    | none => rw [e1, e2] at e; cases e
  | none =>
    cases e2 : flatD d2 with
    | some w => rw [e1, e2] at e; cases e
    | none => rw [e1, e2] at e; exact h Hf v d1 d2 b r1 r2 e
theorem eqB_el {ψ : DQ} {n j : Nat} (h : EqS X n j ψ) (hr : Rfl X.K ψ) (hd : Rfd ψ) : EqB X n j (elD ψ) := by
  intro A pins s σ Hf H d1 d2 b x y u v sb I rx ry s1 r1 r2 e
  unfold elD at e
  cases e1 : flatD d1 with
  | some u' =>
    cases e2 : flatD d2 with
    | some w =>
      rw [e1, e2] at e
      obtain rfl := flatD_rep e1 r1
      obtain rfl := flatD_rep e2 r2
      have q := eqAt_V (A := A) (s := s) rx ry (flatD_flat e1) (flatD_flat e2)
      cases e
      exact q X.prog X.w X.xe _ ⟨rfl, H, I, .refl _⟩
    | none => rw [e1, e2] at e; cases e
  | none =>
    cases e2 : flatD d2 with
    | some w => rw [e1, e2] at e; cases e
    | none =>
      rw [e1, e2] at e
      dsimp only at e
      obtain ⟨k1, k2⟩ := hd d1 d2 b e
      obtain ⟨a, rfl⟩ := ref_of k1 r1
      obtain ⟨c, rfl⟩ := ref_of (k2 e2) r2
      cases rx; cases ry
      by_cases hab : a = c
      · subst hab
        have hb := hr Hf _ d1 d2 b r1 r2 e
        subst hb
        exact SeqAt.EqAt.same (A := A) (s := s) (.ref a) X.prog X.w X.xe _ ⟨rfl, H, I, .refl _⟩
      · refine GQ.eqBool_refG hab (PySem.wpAny_mono (h A pins s σ Hf H d1 d2 b (.ref a) (.ref c) _ _ sb I rfl rfl s1 r1 r2 e) (fun r s' q => ?_) fun _ _ x => x)
        obtain ⟨hr', q⟩ := q
        exact ⟨b, hr', rfl, q⟩
/-- the type of a value that may stand to the right -/
def tyE : D → Option Value
  | .non => some (.type "NoneType")
  | .bl _ => some (.type "bool")
  | .int _ => some (.type "int")
  | .str _ => some (.type "str")
  | .ins C _ => some (.ref C)
  | _ => none
def nfV (kit : Value → Value → Option Bool) (C : Addr) : Value → Bool
  | .ref a => decide (a = C) || decide (kit (.ref a) (.ref C) = some false)
  | .type n => decide (kit (.type n) (.ref C) = some false)
  | _ => false
/-- to the right stands an instance of the same class, or what is not of a class below it -/
def nfD (kit : Value → Value → Option Bool) (C : Addr) (d : D) : Bool := match tyE d with
  | some t => nfV kit C t
  | none => false
theorem nfV_ok {kit : Value → Value → Option Bool} (k : Kit K kit) {C : Addr} {t : Value} (h : nfV kit C t = true) : PySem.W.notFirst K C t = true := by
  have main : ∀ {t : Value}, (t == Value.ref C) = false → PySem.W.kitOne K t (.ref C) = some false → PySem.W.notFirst K C t = true := fun {t} h1 h2 => by
    unfold PySem.W.kitOne at h2
    rw [h1] at h2
    simp only [Bool.false_eq_true, if_false] at h2
    have h3 : PySem.W.subIn K t (.ref C) = some false := by
      unfold PySem.W.kitCls at h2
      dsimp only at h2
      split at h2
      · exact h2
      · cases h2
    unfold PySem.W.notFirst
    rw [h3]; simp
  cases t with
  | ref a =>
    simp only [nfV, Bool.or_eq_true, decide_eq_true_eq] at h
    by_cases ha : a = C
    · subst ha; simp [PySem.W.notFirst]
    · rcases h with h | h
      · exact absurd h ha
      · refine main ?_ (k.ok _ _ _ h)
        cases hq : (Value.ref a == Value.ref C) with
        | false => rfl
        | true => have := eq_of_beq hq; cases this; exact absurd rfl ha
  | type n =>
    simp only [nfV, decide_eq_true_eq] at h
    refine main ?_ (k.ok _ _ _ h)
    cases hq : (Value.type n == Value.ref C) with
    | false => rfl
    | true => have := eq_of_beq hq; cases this
  | _ => cases h
/-- an own class's == -/
def owD (C : Addr) (nf : D → Bool) (F : List O → RF) : DQ := fun d1 d2 => if isC C d1 = true ∧ nf d2 = true then (match F [.fz d1, .fz d2] with
  | .ok (.fz (.bl b)) _ => some b
  | _ => none) else none
theorem rfd_ow {C : Addr} {kit : Value → Value → Option Bool} {F : List O → RF} : Rfd (owD C (nfD kit C) F) := fun d1 d2 b e => by
  unfold owD at e
  split at e
  · rename_i h
    obtain ⟨fs, rfl⟩ := isC_eq h.1
    refine ⟨rfl, fun hf => ?_⟩
    have h2 := h.2
    unfold nfD at h2
    cases d2 <;> first | rfl | (cases hf; done) | (simp [tyE] at h2; done)
  · cases e
open PySem.Spec PyProof.Rows in
theorem eqS_ow {CX : CXT} {C f : Addr} {fd : FuncData} {ps : List Str} {br : Bool} {F : List O → RF} {n j : Nat} {XE : XK} {kit : Value → Value → Option Bool} (k : Kit X.K kit) (Fn : FnOk X.prog X.w X.K X.mg X.base CX n f fd ps (spL X.K 2 br F))
    (hs : PySem.W.findIn X.K (.ref C) "__eq__" = some (some (.ref f))) (hf : PySem.W.isFn X.K (.ref f) = true) (hb : Binds X.K fd ps []) (hx : Passes CX X XE) : EqS X n j (owD C (nfD kit C) F) := by
  intro A pins s σ Hf H d1 d2 b x y u v sb I rx ry s1 r1 r2 e
  unfold owD at e
  split at e
  · rename_i hc
    have rr : RepFs X.K Hf [d1, d2] [x, y] := .cons r1 (.cons r2 .nil)
    obtain ⟨fs, e1⟩ := isC_eq hc.1
    have hn := hc.2
    split at e
    · rename_i b' u' eF
      cases e
      have hsp : spL X.K 2 br F [x, y] H (fun v H' => v = .bl b ∧ Ex H H') XE := spL_bool s1 rr rfl eF
      obtain ⟨m, hF⟩ := I.fr
      have e0 : Env0 X.prog X.w X.K X.mg X.base A X.stack s H := by
        have e := I.env0
        exact ⟨by rw [sb.fr]; exact e.frames, e.mod, e.bs, e.bsz, e.funs, e.frf, e.hok, e.bare⟩
      have hl := Fn.len _ _ _ _ hsp
      have ty : ∃ tb, PySem.W.notFirst X.K C tb = true ∧ PySem.W.Looks (PySem.model X.prog X.w) s.heap (typeOf v) tb := by
        unfold nfD at hn
        cases r2 with
        | non => cases (show v = Value.none from ry); exact ⟨_, nfV_ok k hn, PySem.W.Looks.of_pure rfl⟩
        | bl => cases (show v = Value.bool _ from ry); exact ⟨_, nfV_ok k hn, PySem.W.Looks.of_pure rfl⟩
        | int => obtain ⟨t, rfl⟩ := ry; exact ⟨_, nfV_ok k hn, PySem.W.Looks.of_pure rfl⟩
        | str => obtain ⟨t, rfl⟩ := ry; exact ⟨_, nfV_ok k hn, PySem.W.Looks.of_pure rfl⟩
        | ins k1 _ _ =>
          cases ry
          obtain ⟨mB, J', _⟩ := ins_get I.hok (s1 _ _ k1)
          obtain ⟨od', J', _⟩ := J'.look
          exact ⟨_, nfV_ok k hn, J'.type⟩
        | _ => cases hn
      obtain ⟨tb, nft, lk⟩ := ty
      rw [e1] at r1
      cases r1 with
      | @ins _ _ pa _ _ h1 _ _ =>
        cases rx
        obtain ⟨mA, J, _⟩ := ins_get I.hok (s1 _ _ h1)
        obtain ⟨od, J, _⟩ := J.look
        refine PySem.W.cmp_K (op := .Eq) (tb := tb) sb.room.units0 hF I.ok.mod.kin J lk nft hs hf ?_
        refine wpAny_call (codeAny_mono (Fn.run A X.stack s H ⟨[.ref pa, v], []⟩ [.ref pa, v] [.ref pa, y] _ XE sb.room e0 (by
          have := hb s [.ref pa, v] I.kIn (by simpa using hl)
          simpa using this) (.cons rfl (.cons ry .nil)) hsp) fun r s' hq => ?_)
        cases r with
        | error e => exact hx pins σ H s e s' I hq
        | ok fl =>
          cases fl with
          | ret w =>
            obtain ⟨z, H', I', rz, ez, ex⟩ := I.after hq
            subst ez
            cases rz
            exact ⟨rfl, H', I', ex⟩
          | next => exact False.elim hq
          | brk => exact False.elim hq
          | cont => exact False.elim hq
    · cases e
  · cases e
theorem rfl_ow {C : Addr} {kit : Value → Value → Option Bool} {F : List O → RF} (h : ∀ (Hf : Hp) (v : V) (fs gs : List (Str × D)) (b : Bool) (u : Option O), RepF K Hf (.ins C fs) v → RepF K Hf (.ins C gs) v → F [.fz (.ins C fs), .fz (.ins C gs)] = .ok (.fz (.bl b)) u → b = true) : Rfl K (owD C (nfD kit C) F) := fun Hf v d1 d2 b r1 r2 e => by
  unfold owD at e
  split at e
  · rename_i hc
    obtain ⟨fs, e1⟩ := isC_eq hc.1
    subst e1
    have r1' := r1
    cases r1 with
    | ins h1 h2 h3 =>
      cases r2 with
      | ins k1 k2 k3 =>
        rw [h1] at k1
        cases k1
        split at e
        · rename_i eF; cases e; exact h Hf _ _ _ _ _ r1' (.ins h1 k2 k3) eF
        · cases e
      | adr => have := hc.2; cases this
      | tup => have := hc.2; cases this
      | lst => have := hc.2; cases this
      | sq => have := hc.2; cases this
      | dK => have := hc.2; cases this
      | dT => have := hc.2; cases this
  · cases e
/-- item by item -/
def eqs (ψ : DQ) : List D → List D → Option Bool
  | x :: xs, y :: ys => match ψ x y with
    | some true => eqs ψ xs ys
    | some false => some false
    | none => none
  | [], [] => some true
  | _, _ => some false
theorem rfl_eqs {ψ : DQ} (h : Rfl K ψ) : ∀ {xs ys : List D} {vs : List V} {b : Bool}, RepFs K Hf xs vs → RepFs K Hf ys vs → eqs ψ xs ys = some b → b = true
  | [], [], vs, b, _, _, e => by cases e; rfl
  | [], y :: ys, vs, b, r1, r2, e => by rw [r1.nil_of] at r2; exact absurd r2.1 (by simp)
  | x :: xs, [], vs, b, r1, r2, e => by rw [r2.nil_of] at r1; exact absurd r1.1 (by simp)
  | x :: xs, y :: ys, vs, b, r1, r2, e => by
    obtain ⟨v, vr, rfl, k1, k2⟩ := r1.uncons
    obtain ⟨v', vr', e', k3, k4⟩ := r2.uncons
    cases e'
    unfold eqs at e
    cases e1 : ψ x y with
    | none => rw [e1] at e; cases e
    | some c =>
      have hc := h Hf v x y c k1 k3 e1
      subst hc
      rw [e1] at e
      exact rfl_eqs h k2 k4 e
def tupD (ψ : DQ) : DQ := fun d1 d2 => match d1, d2 with
  | .tup xs, .tup ys => eqs ψ xs ys
  | _, _ => none
theorem rfd_tup {ψ : DQ} : Rfd (tupD ψ) := fun d1 d2 b e => by
  unfold tupD at e
  split at e
  · exact ⟨rfl, fun _ => rfl⟩
  · cases e
theorem rfl_tup {ψ : DQ} (h : Rfl K ψ) : Rfl K (tupD ψ) := fun Hf v d1 d2 b r1 r2 e => by
  unfold tupD at e
  split at e
  · cases r1 with
    | tup h1 h2 h3 =>
      cases r2 with
      | tup k1 k2 k3 =>
        have : some _ = some _ := h1.symm.trans k1
        cases this
        exact rfl_eqs h ⟨h2, h3⟩ ⟨k2, k3⟩ e
  · cases e
theorem eqs_drop {ψ : DQ} {xs ys : List D} {b : Bool} (e : eqs ψ xs ys = some b) : ∀ {i : Nat}, (∀ j (x y : D), j < i → xs[j]? = some x → ys[j]? = some y → ψ x y = some true) → i ≤ xs.length → i ≤ ys.length → eqs ψ (xs.drop i) (ys.drop i) = some b
  | 0, _, _, _ => by simpa using e
  | i + 1, h, h1, h2 => by
    have ih := eqs_drop e (i := i) (fun j x y hj => h j x y (by omega)) (by omega) (by omega)
    have l1 : i < xs.length := by omega
    have l2 : i < ys.length := by omega
    rw [List.drop_eq_getElem_cons l1, List.drop_eq_getElem_cons l2] at ih
    unfold eqs at ih
    rw [h i xs[i] ys[i] (by omega) (by simp [l1]) (by simp [l2])] at ih
    exact ih
theorem eqS_tup {ψ : DQ} {n j : Nat} (h : EqB X n j ψ) : EqS X n (j + 1) (tupD ψ) := by
  intro A pins s σ Hf H d1 d2 b x y u v sb I rx ry s1 r1 r2 e
  unfold tupD at e
  split at e
  · rename_i xs ys
    cases r1 with
    | tup h1 h2 h3 =>
      cases r2 with
      | tup k1 k2 k3 =>
        cases rx; cases ry
        obtain ⟨its, rv, p, _⟩ := I.tuple (s1.t h1)
        obtain ⟨its2, rv2, p2, _⟩ := I.tuple (s1.t k1)
        have l1 : xs.length = its.toArray.size := by rw [h2, rv.length]; simp
        have l2 : ys.length = its2.toArray.size := by rw [k2, rv2.length]; simp
        refine L3G.rc_tupB sb.room.units0 (fun i s' => ∃ H', Inv X pins σ H' s' ∧ Ex H H' ∧ eqs ψ (xs.drop i) (ys.drop i) = some b) (fun s' => b = false ∧ ∃ H', Inv X pins σ H' s' ∧ Ex H H') p p2 (fun i i1 i2 s' l => ?_) (fun s' l => ?_) (fun s' l => ?_) ⟨H, I, .refl _, by simpa using e⟩
        · obtain ⟨H1, I1, e1, q1⟩ := l
          have m1 : i < xs.length := by omega
          have m2 : i < ys.length := by omega
          rw [List.drop_eq_getElem_cons m1, List.drop_eq_getElem_cons m2] at q1
          obtain ⟨w1, hw1, rw1⟩ := RepFs.at ⟨h2, h3⟩ (i := i) (d := xs[i]) (by simp [m1])
          obtain ⟨w2, hw2, rw2⟩ := RepFs.at ⟨k2, k3⟩ (i := i) (d := ys[i]) (by simp [m2])
          obtain ⟨u1, hu1, ru1⟩ := rv.get hw1
          obtain ⟨u2, hu2, ru2⟩ := rv2.get hw2
          have g1 : its.toArray[i] = u1 := by
            have i1' : i < its.length := by simpa using i1
            have : its[i]? = some its[i] := List.getElem?_eq_getElem i1'
            rw [hu1] at this
            simpa using this.symm
          have g2 : its2.toArray[i] = u2 := by
            have i2' : i < its2.length := by simpa using i2
            have : its2[i]? = some its2[i] := List.getElem?_eq_getElem i2'
            rw [hu2] at this
            simpa using this.symm
          rw [g1, g2]
          unfold eqs at q1
          cases e2 : ψ xs[i] ys[i] with
          | none => rw [e2] at q1; cases q1
          | some c =>
            rw [e2] at q1
            refine PySem.wpAny_mono (h A.in1 pins s' σ Hf H1 _ _ c w1 w2 u1 u2 sb.in1 I1 ru1 ru2 (s1.trans e1) rw1 rw2 e2) (fun r s2 q => ?_) fun _ _ x => x
            obtain ⟨hr, H2, I2, e3⟩ := q
            cases c with
            | true => exact .inl ⟨hr, H2, I2, e1.trans e3, q1⟩
            | false => cases q1; exact .inr ⟨hr, rfl, H2, I2, e1.trans e3⟩
        · obtain ⟨H1, I1, e1, q1⟩ := l
          refine ⟨?_, H1, I1, e1⟩
          have hb : b = (its.toArray.size == its2.toArray.size) := by
            rw [← l1, ← l2] at q1 ⊢
            rcases Nat.lt_trichotomy xs.length ys.length with hlt | heq | hgt
            · rw [Nat.min_eq_left (by omega), List.drop_length] at q1
              rw [List.drop_eq_getElem_cons hlt] at q1
              cases q1
              exact (beq_false_of_ne (by omega)).symm
            · rw [heq, Nat.min_self, ← heq, List.drop_length, heq, List.drop_length] at q1
              cases q1
              rw [heq]; simp
            · rw [Nat.min_eq_right (by omega), List.drop_length (l := ys)] at q1
              rw [List.drop_eq_getElem_cons hgt] at q1
              cases q1
              exact (beq_false_of_ne (by omega)).symm
          rw [hb]
        · obtain ⟨hb, H1, I1, e1⟩ := l
          subst hb
          exact ⟨rfl, H1, I1, e1⟩
  · cases e
def orD (ψ ψ' : DQ) : DQ := fun d1 d2 => match ψ d1 d2 with
  | some b => some b
  | none => ψ' d1 d2
theorem eqS_or {ψ ψ' : DQ} {n j : Nat} (h : EqS X n j ψ) (h' : EqS X n j ψ') : EqS X n j (orD ψ ψ') := by
  intro A pins s σ Hf H d1 d2 b x y u v sb I rx ry s1 r1 r2 e
  unfold orD at e
  split at e
  · rename_i c e1; cases e; exact h A pins s σ Hf H d1 d2 _ x y u v sb I rx ry s1 r1 r2 e1
  · exact h' A pins s σ Hf H d1 d2 b x y u v sb I rx ry s1 r1 r2 e
theorem rfl_or {ψ ψ' : DQ} (h : Rfl K ψ) (h' : Rfl K ψ') : Rfl K (orD ψ ψ') := fun Hf v d1 d2 b r1 r2 e => by
  unfold orD at e
  split at e
  · rename_i c e1; cases e; exact h Hf v d1 d2 _ r1 r2 e1
  · exact h' Hf v d1 d2 b r1 r2 e
theorem rfd_or {ψ ψ' : DQ} (h : Rfd ψ) (h' : Rfd ψ') : Rfd (orD ψ ψ') := fun d1 d2 b e => by
  unfold orD at e
  split at e
  · rename_i c e1; exact h d1 d2 _ e1
  · exact h' d1 d2 b e
theorem EqS.mono {ψ : DQ} {n m j i : Nat} (h : EqS X n j ψ) (hn : n ≤ m) (hj : j ≤ i) : EqS X m i ψ := fun A pins s σ Hf H d1 d2 b x y u v sb => h A pins s σ Hf H d1 d2 b x y u v (sb.mono hn hj)

/-! ### as an operator -/
def PureG (K : PySem.W.Frag) (r : R2) (ψ : DQ) : Prop :=
  ∀ (Hf H : Hp) (x y : D) (b : Bool) (u v : V) (Q : VK), Ex Hf H → ψ x y = some b → RepF K Hf x u → RepF K Hf y v → (∀ H', Ex H H' → Q (.bl b) H') → r u v H Q
def rEqX (K : PySem.W.Frag) (ψ : DQ) : R2 := fun x y H Q => ∃ Hf d1 d2 b, Ex Hf H ∧ RepF K Hf d1 x ∧ RepF K Hf d2 y ∧ ψ d1 d2 = some b ∧ ∀ H', Ex H H' → Q (.bl b) H'
theorem op_eqX {ψ : DQ} {n j : Nat} (h : EqS X n j ψ) (sb : SubX X n j X.A) : OpR X (compareOp .Eq) (rEqX X.K ψ) := by
  intro pins s σ H x y v u Q I rx ry hq
  obtain ⟨Hf, d1, d2, b, s1, r1, r2, e, q⟩ := hq
  show PySem.wpAny (PySem.model X.prog X.w) X.A (PySem.richCompare .Eq v u) (EP X pins σ Q) X.xe s
  refine PySem.wpAny_mono (h X.A pins s σ Hf H d1 d2 b x y v u sb I rx ry s1 r1 r2 e) (fun r s' z => ?_) fun _ _ x => x
  obtain ⟨hr', H', I', ex⟩ := z
  subst hr'
  exact ⟨.bl b, H', I', rfl, q H' ex⟩
def cEqA (ψ : DQ) : DQ := orD cEq ψ
theorem g_eqA {ψ : DQ} : PureG K (fun x y H Q => rEq x y H Q ∨ rEqX K ψ x y H Q) (cEqA ψ) := by
  intro Hf H x y b u v Q s e r1 r2 q
  unfold cEqA orD at e
  split at e
  · rename_i c e1
    cases e
    exact .inl (b_eq Hf H x y _ u v Q s e1 r1 r2 (q H (.refl _)))
  · exact .inr ⟨Hf, x, y, b, s, r1, r2, e, q⟩
theorem op_eqA {ψ : DQ} {n j : Nat} (h : EqS X n j ψ) (sb : SubX X n j X.A) : OpR X (compareOp .Eq) (fun x y H Q => rEq x y H Q ∨ rEqX X.K ψ x y H Q) := op_eq.or (op_eqX h sb)
theorem rdG_of {ta tb : ME} {r : R2} {ψ : DQ} (hφ : PureG X.K r ψ) {Q : Bool → Hp → Prop} {Q2 : VK} (R : Rdy X.K E g t σ τ Hf H) (F : FinT X.K E W (dCmpT ψ ta tb g) t τ σ Q)
    (hQ : ∀ b H, Q b H → Q2 (.bl b) H) : tOp r (rdE X.K E W ta) (rdE X.K E W tb) σ H Q2 := by
  refine rdE_moreT R F fun v1 g1 Hf1 H1 o1 _ R1 F1 => ?_
  refine ⟨g1, t ++ [some o1], τ ++ [some v1], Hf1, R1, ?_⟩
  cases e : tb g1 with
  | ok o2 g2 =>
    rw [e] at F1
    intro v2 Hf2 H2 R2
    obtain ⟨Hf3, _, x3, r1, r2, R3⟩ := R2.freeze2
    rw [RE.bind_ok] at F1
    cases e : ψ o1.frz o2.frz with
    | none => rw [e] at F1; exact F1.elim
    | some b => rw [e] at F1; exact hφ Hf3 H2 _ _ b _ _ _ x3 e r1 r2 fun H' ex => hQ _ _ (F1 Hf3 H' (R3.grow ex))
  | ex c fs g' => rw [e] at F1; exact fun d Hf' H' R' x => F1 d Hf' H' (R'.drop (by rfl)) x
  | no => rw [e] at F1; exact F1
theorem le_cmpG {a b : Expr} {ma mb : ME} {op : CmpOp} {r : R2} {ψ : DQ} {pos : Pos} (ho : OpR X (compareOp op) r) (hφ : PureG X.K r ψ) (ha : LE X E W a ma) (hb : LE X E W b mb) (hm : behindInMarks op b = false) : LE X E W (.Compare a [op] [b] pos) (dCmp ψ ma mb) := by
  refine (pe_cmpR ho ha hb hm).to fun σ H Q ⟨g, t, τ, Hf, R, F⟩ => ?_
  unfold dCmp at F
  have F2 : FinT X.K E W (dCmpT ψ ma mb g) t τ σ (fun b H' => Q (.bl b) H') := by
    cases e : dCmpT ψ ma mb g with
    | ok b g2 => rw [e] at F; exact fun Hf' H' R' => F _ Hf' H' (R'.push_fz .bl)
    | ex c fs g2 => rw [e] at F; exact F
    | no => rw [e] at F; exact F
  exact rdG_of hφ R F2 fun b H q => q
theorem lt_cmpG {a b : Expr} {ma mb : ME} {op : CmpOp} {r : R2} {ψ : DQ} {pos : Pos} (ho : OpR X (compareOp op) r) (hφ : PureG X.K r ψ) (ha : LE X E W a ma) (hb : LE X E W b mb) (hm : behindInMarks op b = false) : LT X E W (.Compare a [op] [b] pos) (dCmpT ψ ma mb) :=
  (pt_cmpR ho ha hb hm).to fun σ H Q ⟨g, t, τ, Hf, R, F⟩ => rdG_of hφ R F fun b H q => ⟨b, rfl, q⟩
end
end L3
end

section
namespace L3
open PySem L2

theorem off_all {E : Ent} {is vs : List Nat} (h : ∀ i, i ∉ is → Off E i) (hv : ∀ v ∈ vs, v ∉ is) : ∀ v ∈ vs, Off E v := fun v hm => h v (hv v hm)
/-! ### names by a look at the scope -/
def visB (sc : Scope) (x : Str) : Bool := match sc.names.lookup x with
  | some .local => true
  | some .cell => true
  | some .free => true
  | _ => false
theorem vis_of {sc : Scope} {x : Str} (h : visB sc x = true) : Vis sc x := by
  unfold visB at h
  split at h
  · rename_i e; exact .inl e
  · rename_i e; exact .inr (.inl e)
  · rename_i e; exact .inr (.inr e)
  · cases h
def locB (sc : Scope) (x : Str) : Bool := match sc.names.lookup x with
  | some .local => true
  | some .cell => true
  | _ => false
theorem loc_of {sc : Scope} {x : Str} (h : locB sc x = true) : Loc sc x := by
  unfold locB at h
  split at h
  · rename_i e; exact .inl e
  · rename_i e; exact .inr e
  · cases h

section
open PySem.Spec PyProof.Rows
variable {P : Program} {w : World} {K : PySem.W.Frag} {mg : Str → Option Value} {base : Heap} {x qual : Str} {params : Arguments} {body : List Stmt} {scope : Scope} {dvs : List V} {kws : List (Str × V)} {f : Addr} {fd : FuncData}
/-- a def that lets nothing out keeps its promise -/
theorem okL0 {N ps : List Str} {k n : Nat} {br : Bool} {m : MS} (F : FunD K x qual params body scope dvs kws f fd) (S : FnScope N ps scope) (hn : ps.length = n)
    (h : ∀ (cdv : Value) (A : Around) (outer : List Env) (s : Shared) (H : Hp) (XE : XK) (E : Ent), RoomX k (A.deeper (envOfC qual scope s.heap.objs.size f cdv)) → (∀ p ∈ E.pin, p.1 ∈ if br = true then [0] else []) →
      LB (cxOf CX0 P w K mg base N qual scope f cdv A outer s H XE).nox E (fun c d _ H => XE c d H) body m) :
    FnOk P w K mg base CX0 (k + 1) f fd ps (spL K n br (runD N.length br m)) :=
  okL F S hn fun cdv A outer s H XE E hr hp => (h cdv A outer s H XE E hr hp).nox
/-- no answer is promised -/
theorem ok_no {CX : CXT} {ps : List Str} {n : Nat} {br : Bool} {k : Nat} : FnOk P w K mg base CX k f fd ps (spL K n br fun _ => .no) :=
  ⟨fun vs H Q E ⟨os, Hf, _, _, _, h⟩ => h.elim, fun A outer s H args us vs Q E _ _ _ _ ⟨os, Hf, _, _, _, h⟩ => h.elim⟩
theorem walk_ofEB {l : PySem.W.OpenLaw} {n k : Nat} {q : Program} {loose : List Str} {XP : (Str → Option Value) → Heap → Prop} {YP : World → Heap → Prop} {d : DefRec} {CX : CXT} {x : Str}
    (hn : l.most = some n) (hn2 : n ≤ sizeLine) (hdf : d.params.defaults = []) (hr : Room k callerA)
    (F : ∀ (w : World) (mg : Str → Option Value) (fa : Addr) (h : Heap), YP w h → h.Ns mainGlobals mg → mg d.name = some (.ref fa) →
      ∃ (K : PySem.W.Frag) (fd : FuncData) (sp : Sp), K.In h ∧ (∀ (s : Shared) (u : Value), BindsTo s fd ⟨[u], []⟩ [(x, u)]) ∧
        (∀ (H : Hp) (a : Addr) (ns : List Int), ns.length ≤ n → (∀ z ∈ ns, Builtin.Int.intBits z ≤ 1048576) → Only H → SqL K H a (ns.map V.int) → sp [.ref a] H (fun v _ => v = .bl true) fun _ _ _ => False) ∧
        ∀ base : Heap, K.In base → base.Ns mainGlobals mg → FnOk l.prog w K mg base CX k fa fd [x] sp)
    (hCX : ∀ (H : Hp) (s : Shared) (e : Value) (s' : Shared), CX [] H s (fun _ _ _ => False) e s' → False) :
    PySem.W.WalkO q loose XP YP l.row.toRowW d [] (fun f vs => PySem.call f vs) := by
  refine Att.attach_callB hn hdf fun w s₀ s₁ mg mb fa o pm cd doc a vs ns G Y ho hd hcd hmg hobj hints hlen hbits hg => ?_
  obtain ⟨K, fd, sp, KX, hb, hsp, hF⟩ := F w mg fa _ Y G.T.g hmg
  exact law_call KX G.T.g G.T.b G.T.builtins G.T.nolimit hg hobj hints (Nat.le_trans hlen hn2) hr hF hb (fun H hO hS => hsp H a ns hlen hbits hO hS) fun H e s' => hCX H s₁ e s'
/-- the law's promise at its script, from its answer -/
theorem law_sp {H : Hp} {a : Addr} {ns : List Int} {F : List O → RF} {XE : XK} {u : Option O} (h : SqL K H a (ns.map V.int)) (hF : F [.fz (.sq (ns.map D.int))] = .ok (.fz (.bl true)) u) : spL K 1 false F [.ref a] H (fun v _ => v = .bl true) XE := by
  have r0 : RepFs K H (ns.map D.int) (ns.map V.int) := rep_ints
  have r : RepFs K H [.sq (ns.map D.int)] [.ref a] := .cons (.sq h r0.1 r0.2) .nil
  obtain ⟨os, Hf, h1, h2, h3, h4⟩ := spL_bool (n := 1) (br := false) (XE := XE) (F := F) (Ex.refl H) r rfl hF
  refine ⟨os, Hf, h1, h2, h3, ?_⟩
  unfold FinF at h4 ⊢
  cases e : F os with
  | ok o u => rw [e] at h4; exact fun v Hf' H' R => (h4 v Hf' H' R).1
  | ex c fs u => rw [e] at h4; exact h4
  | no => rw [e] at h4; exact h4
end

/-! ### programs of data at a state -/
section
variable {g g1 : Gm} {i j : Nat} {d : D} {o : O}
@[simp] theorem dC_ap : dC d g = .ok (.fz d) g := rfl
def rVar (i : Nat) (g : Gm) : Option (Option O) → RE O
  | some (some (.fz d)) => .ok (.fz d) g
  | some (some o) => .ok (.fz o.frz) (g.set i (some (.fz o.frz)))
  | _ => .no
theorem dVar_ap : dVar i g = rVar i g g[i]? := rfl
@[simp] theorem rVar_fz : rVar i g (some (some (.fz d))) = .ok (.fz d) g := rfl
@[simp] theorem rVar_ol {xs : List D} : rVar i g (some (some (.ol xs))) = .ok (.fz (.lst xs)) (g.set i (some (.fz (.lst xs)))) := rfl
@[simp] theorem rVar_oi {C : Addr} {fs : List (Str × D)} : rVar i g (some (some (.oi C fs))) = .ok (.fz (.ins C fs)) (g.set i (some (.fz (.ins C fs)))) := rfl
def rMov (i : Nat) (g : Gm) : Option (Option O) → RE O
  | some (some (.fz d)) => .ok (.fz d) g
  | some (some o) => .ok o (g.set i none)
  | _ => .no
theorem dMov_ap : dMov i g = rMov i g g[i]? := rfl
@[simp] theorem rMov_fz : rMov i g (some (some (.fz d))) = .ok (.fz d) g := rfl
@[simp] theorem rMov_ol {xs : List D} : rMov i g (some (some (.ol xs))) = .ok (.ol xs) (g.set i none) := rfl
@[simp] theorem rMov_oi {C : Addr} {fs : List (Str × D)} : rMov i g (some (some (.oi C fs))) = .ok (.oi C fs) (g.set i none) := rfl
@[simp] theorem frz_ol {xs : List D} : (O.ol xs).frz = .lst xs := rfl
@[simp] theorem frz_fzd : (O.fz d).frz = d := rfl
@[simp] theorem frz_oi {C : Addr} {fs : List (Str × D)} : (O.oi C fs).frz = .ins C fs := rfl
variable {φ : D → D → Option D} {ψ : D → D → Option Bool} {ma mb : ME}
theorem dOp_ap : dOp φ ma mb g = (ma g).bind fun a g1 => (mb g1).bind fun b g2 => opt (φ a.frz b.frz) g2 := rfl
theorem dUn_ap {φ : D → Option D} : dUn φ ma g = (ma g).bind fun a g1 => opt (φ a.frz) g1 := rfl
theorem dOpY_ap {φ : D → D → Option O} : dOpY φ ma mb g = (ma g).bind fun a g1 => (mb g1).bind fun b g2 => optO (φ a.frz b.frz) g2 := rfl
theorem dCmpT_ap : dCmpT ψ ma mb g = (ma g).bind fun a g1 => (mb g1).bind fun b g2 => optT (ψ a.frz b.frz) g2 := rfl
theorem dCmp_ap : dCmp ψ ma mb g = (dCmpT ψ ma mb g).bind fun b g2 => .ok (.fz (.bl b)) g2 := rfl
theorem dTru_ap : dTru ma g = (ma g).bind fun o g' => optT (truthD o.frz) g' := rfl
def rTruS (g : Gm) : Option (Option O) → RE Bool
  | some (some o) => optT (truthD o.frz) g
  | _ => .no
theorem dTruS_ap : dTruS i g = rTruS g g[i]? := rfl
@[simp] theorem rTruS_some : rTruS g (some (some o)) = optT (truthD o.frz) g := rfl
variable {ta tb : MT}
theorem dAndT_ap : dAndT ta tb g = (ta g).bind fun b g' => if b = true then tb g' else .ok false g' := rfl
theorem dOrT_ap : dOrT ta tb g = (ta g).bind fun b g' => if b = true then .ok true g' else tb g' := rfl
theorem dNotT_ap : dNotT ta g = (ta g).bind fun b g' => .ok (!b) g' := rfl
theorem dIf_ap {mt : MT} : dIf mt ma mb g = (mt g).bind fun b g' => if b = true then ma g' else mb g' := rfl
@[simp] theorem isBl_bl {b : Bool} : isBl (.fz (.bl b)) = some b := rfl
def rAnd (mb : ME) (g : Gm) : Option Bool → RE O
  | some true => mb g
  | some false => .ok (.fz (.bl false)) g
  | none => .no
def rOr (mb : ME) (g : Gm) : Option Bool → RE O
  | some true => .ok (.fz (.bl true)) g
  | some false => mb g
  | none => .no
def rNot (g : Gm) : Option Bool → RE O
  | some b => .ok (.fz (.bl (!b))) g
  | none => .no
theorem dAnd_ap : dAnd ma mb g = (ma g).bind fun o g' => rAnd mb g' (isBl o) := by unfold dAnd rAnd; rfl
theorem dOr_ap : dOr ma mb g = (ma g).bind fun o g' => rOr mb g' (isBl o) := by unfold dOr rOr; rfl
theorem dNot_ap : dNot ma g = (ma g).bind fun o g' => rNot g' (isBl o) := by unfold dNot rNot; rfl
@[simp] theorem rAnd_t : rAnd mb g (some true) = mb g := rfl
@[simp] theorem rAnd_f : rAnd mb g (some false) = .ok (.fz (.bl false)) g := rfl
@[simp] theorem rOr_t : rOr mb g (some true) = .ok (.fz (.bl true)) g := rfl
@[simp] theorem rOr_f : rOr mb g (some false) = mb g := rfl
@[simp] theorem rNot_s {b : Bool} : rNot g (some b) = .ok (.fz (.bl (!b))) g := rfl
variable {aa : MA}
@[simp] theorem aNil_ap : aNil g = .ok [] g := rfl
theorem aCons_ap : aCons ma aa g = (ma g).bind fun o g1 => (aa g1).bind fun os g2 => .ok (o :: os) g2 := rfl
theorem dTup_ap : dTup aa g = (aa g).bind fun os g' => if os.length ≤ big then .ok (.fz (.tup (os.map O.frz))) g' else .no := rfl
theorem dLst_ap : dLst aa g = (aa g).bind fun os g' => if os.length ≤ big then .ok (.ol (os.map O.frz)) g' else .no := rfl
theorem dFld_ap {Cs : List Addr} {f : Str} : dFld Cs f ma g = (ma g).bind fun o g' => opt (fldD Cs f o.frz) g' := rfl
def rFldS (Cs : List Addr) (f : Str) (g : Gm) : Option (Option O) → RE O
  | some (some o) => opt (fldD Cs f o.frz) g
  | _ => .no
theorem dFldS_ap {Cs : List Addr} {f : Str} : dFldS Cs f i g = rFldS Cs f g g[i]? := rfl
@[simp] theorem rFldS_some {Cs : List Addr} {f : Str} : rFldS Cs f g (some (some o)) = opt (fldD Cs f o.frz) g := rfl
def rIxS2 (b : O) (g : Gm) : Option (Option O) → RE O
  | some (some o) => opt (fIx o.frz b.frz) g
  | _ => .no
def rIxS (mb : ME) (i : Nat) (g : Gm) : Option (Option O) → RE O
  | some (some _) => (mb g).bind fun b g1 => rIxS2 b g1 g1[i]?
  | _ => .no
theorem dIxS_ap : dIxS i mb g = rIxS mb i g g[i]? := by
  rfl
@[simp] theorem rIxS_some : rIxS mb i g (some (some o)) = (mb g).bind fun b g1 => rIxS2 b g1 g1[i]? := rfl
@[simp] theorem rIxS2_some {b : O} : rIxS2 b g (some (some o)) = opt (fIx o.frz b.frz) g := rfl
theorem dCall_ap {φ : List D → Option O} : dCall φ aa g = (aa g).bind fun os g1 => optO (φ (os.map O.frz)) g1 := rfl
def rCallS (φ : List D → Option O) (g : Gm) : Option (Option O) → RE O
  | some (some o) => optO (φ [o.frz]) g
  | _ => .no
theorem dCallS_ap {φ : List D → Option O} : dCallS φ i g = rCallS φ g g[i]? := rfl
@[simp] theorem rCallS_some {φ : List D → Option O} : rCallS φ g (some (some o)) = optO (φ [o.frz]) g := rfl
@[simp] theorem fOne_ap {f : D → Option O} : fOne f [d] = f d := rfl
@[simp] theorem fTwo_ap {f : D → D → Option O} {d' : D} : fTwo f [d, d'] = f d d' := rfl
@[simp] theorem ownL_ol {xs : List D} (h : g[i]? = some (some (.ol xs))) : ownL g i = some xs := by unfold ownL; rw [h]
variable {k : MS} {m1 m2 : MS}
@[simp] theorem dNx_ap : dNx g = .nx g := rfl
theorem dSeq_ap : dSeq m1 m2 g = (m1 g).then_ m2 := rfl
theorem dSet_ap : dSet i ma g = (ma g).toS fun o g1 => .nx (g1.set i (some o)) := rfl
theorem dDrop_ap : dDrop ma g = (ma g).toS fun _ g1 => .nx g1 := rfl
theorem dRet_ap : dRet ma g = (ma g).toS fun o g1 => .rt o g1 := rfl
@[simp] theorem dRetN_ap : dRetN g = .rt (.fz .non) g := rfl
@[simp] theorem dBk_ap : dBk g = .bk g := rfl
@[simp] theorem dCt_ap : dCt g = .ct g := rfl
theorem dIfS_ap {mt : MT} : dIfS mt m1 m2 g = (mt g).toS fun b g1 => if b = true then m1 g1 else m2 g1 := rfl
theorem dFor_ap {mi : MI} {as : AG} : dFor mi as m1 g = (mi g).toS fun ds g1 => fL as m1 ds g1 := rfl
@[simp] theorem fL_nil {as : AG} : fL as m1 [] g = .nx g := rfl
def rFL (as : AG) (b : MS) (ds : List D) : Option Gm → RS
  | some g1 => turnS (b g1) (fL as b ds)
  | none => .no
theorem fL_cons {as : AG} {ds : List D} : fL as m1 (d :: ds) g = rFL as m1 ds (as d g) := rfl
@[simp] theorem rFL_some {as : AG} {ds : List D} : rFL as m1 ds (some g) = turnS (m1 g) (fL as m1 ds) := rfl
@[simp] theorem aName_ap : aName i d g = some (g.set i (some (.fz d))) := rfl
theorem aTup_ap {is : List AG} {ds : List D} : aTup is (.tup ds) g = if ds.length = is.length then (ds.zip is).foldlM (fun g p => p.2 p.1 g) g else none := rfl
theorem dIt_ap : dIt ma g = (ma g).bind fun o g1 => match itemsD o.frz with | some ds => .ok ds g1 | none => .no := rfl
@[simp] theorem dNoP_ap : dNoP g = .ok none g := rfl
@[simp] theorem asInt_int {n : Int} : asInt (.fz (.int n)) = some n := rfl
@[simp] theorem dYes_ap : dYes g = .ok true g := rfl
end
end L3
end

section
namespace L3
open PySem L2
/-! ### the head: facts by names, and one more look ex at what is known -/
abbrev AlE : Type := He.AlD × Bool
def obsE2 (n : Nat) (fa : List He.Fa) (fn : List He.DefD) (ex : PySem.W.Frag → Bool) (g : Addr → Option Obj) : AlE := (He.obsDG n fa fn g, ex (He.frG g (He.asD g n)))
def hookE2 (n : Nat) (fa : List He.Fa) (fn : List He.DefD) (ex : PySem.W.Frag → Bool) : PySem.W.Hook where
  α := AlE
  obs := fun s => obsE2 n fa fn ex s.heap.get?
  val := fun _ => (He.valD fn, true)
  says := fun _ h => ∃ K : PySem.W.Frag, K.In h ∧ He.SaysD fa fn K ∧ ex K = true
  of := fun _ _ e => ⟨_, He.frG_in, congrArg (fun z : AlE => z.1) e, congrArg (fun z : AlE => z.2) e⟩
  keeps := fun _ _ _ ⟨K, hK, c⟩ k => ⟨K, PySem.W.Frag.In.keeps hK k, c⟩
theorem obsE2_eq {n : Nat} {fa : List He.Fa} {fn : List He.DefD} {ex : PySem.W.Frag → Bool} {g : Addr → Option Obj} {s : Shared} (h : ∀ a, g a = s.heap.get? a) : obsE2 n fa fn ex g = (hookE2 n fa fn ex).obs s := by
  have e : g = s.heap.get? := funext h
  rw [e] <;> rfl
/-- a class that isinstance is asked of -/
def isCB (K : PySem.W.Frag) (C : Addr) : Bool := He.eqO (PySem.W.findIn K (.ref C) "__class__") (some (some (.builtin "object.__class__"))) && (He.eqO (PySem.W.specialIn K (.builtin "object.__class__") "__get__") (some (some (.builtin "getset_descriptor.__get__"))) &&
  (decide (PySem.W.takesIn K (.builtin "object.__class__") = some true) && decide (PySem.W.mroIn K C (.type "object") = some true)))
theorem isCB_ok {K : PySem.W.Frag} {C : Addr} (cl : Cls K C) (h : isCB K C = true) : IsC K C := by
  unfold isCB at h
  simp only [Bool.and_eq_true, decide_eq_true_eq] at h
  exact ⟨cl, He.eqO_ok h.1, He.eqO_ok h.2.1, h.2.2.1, h.2.2.2⟩
/-- the table kit's answers among the values ts -/
def kitB2 (K : PySem.W.Frag) (kit : Value → Value → Option Bool) (ts : List Value) : Bool := ts.all fun t => ts.all fun u => match kit t u with
  | some b => decide (PySem.W.kitOne K t u = some b)
  | none => true
theorem kitB2_ok {K : PySem.W.Frag} {kit : Value → Value → Option Bool} {ts : List Value} (h : kitB2 K kit ts = true) (hts : ∀ t u b, kit t u = some b → t ∈ ts ∧ u ∈ ts) {t u : Value} {b : Bool} (e : kit t u = some b) : PySem.W.kitOne K t u = some b := by
  unfold kitB2 at h
  obtain ⟨h1, h2⟩ := hts t u b e
  have h3 := List.all_eq_true.mp (List.all_eq_true.mp h t h1) u h2
  rw [e] at h3
  exact of_decide_eq_true h3
end L3
end

section
namespace L3
open PySem L2
/-! ### more programs of data at a state -/
section
variable {g g1 : Gm} {i j n : Nat} {d : D} {o r : O} {ma mb me mo : ME} {aa : MA} {F : List O → RF} {dd : List D} {C : Addr} {m : Str} {u : Option O}
theorem run_ap {N : Nat} {br : Bool} {m : MS} {os : List O} : runD N br m os = match m (os.map some ++ List.replicate (N - os.length) none) with
  | .nx g => .ok (.fz .non) (back0 br g)
  | .rt o g => .ok o (back0 br g)
  | .ex c fs g => .ex c fs (back0 br g)
  | _ => .no := rfl
@[simp] theorem back0_t {x : Option O} {l : Gm} : back0 true (some o :: l) = some o := rfl
@[simp] theorem back0_f {g : Gm} : back0 false g = none := by cases g <;> rfl
theorem rVar_u : rVar i g (some (some o)) = .ok (.fz o.frz) (match o with
  | .fz _ => g
  | _ => g.set i (some (.fz o.frz))) := by cases o <;> rfl
@[simp] theorem retF_ok : retF (.ok o u) g = .ok o g := rfl
theorem dCallF_ap : dCallF n F dd aa g = (aa g).bind fun os g1 => if os.length + dd.length = n then retF (F (os ++ dd.map .fz)) g1 else .no := rfl
def rCallR3 (j : Nat) (g1 : Gm) : RF → RE O
  | .ok r u => .ok r (g1.set j u)
  | .ex c fs u => .ex c fs (g1.set j u)
  | .no => .no
@[simp] theorem rCallR3_ok : rCallR3 j g (.ok r u) = .ok r (g.set j u) := rfl
def rCallR2 (n : Nat) (F : List O → RF) (dd : List D) (j : Nat) (o : O) : RE (List O) → RE O
  | .ok os g1 => if os.length + dd.length + 1 = n then rCallR3 j g1 (F (o :: (os ++ dd.map .fz))) else .no
  | .ex c fs g1 => .ex c fs (g1.set j (some o))
  | .no => .no
@[simp] theorem rCallR2_ok {os : List O} : rCallR2 n F dd j o (.ok os g) = if os.length + dd.length + 1 = n then rCallR3 j g (F (o :: (os ++ dd.map .fz))) else .no := rfl
def rCallR (n : Nat) (F : List O → RF) (dd : List D) (j : Nat) (ma : MA) (g : Gm) : Option (Option O) → RE O
  | some (some o) => rCallR2 n F dd j o (ma (g.set j none))
  | _ => .no
theorem dCallR_ap : dCallR n F dd j aa g = rCallR n F dd j aa g g[j]? := rfl
@[simp] theorem rCallR_some : rCallR n F dd j aa g (some (some o)) = rCallR2 n F dd j o (aa (g.set j none)) := rfl
theorem dMeth_ap : dMeth n C m F dd me aa g = (me g).bind fun o g1 => if insIs C m o.frz = true then (aa g1).bind fun os g2 => if os.length + dd.length + 1 = n then retF (F (.fz o.frz :: (os ++ dd.map .fz))) g2 else .no else .no := rfl
def rMake (g : Gm) : RF → RE O
  | .ok (.fz .non) (some o) => .ok o g
  | .ex c fs _ => .ex c fs g
  | _ => .no
@[simp] theorem rMake_ok : rMake g (.ok (.fz .non) (some o)) = .ok o g := rfl
theorem dMake_ap : dMake n C F dd aa g = (aa g).bind fun os g1 => if os.length + dd.length + 1 = n then rMake g1 (F (.oi C [] :: (os ++ dd.map .fz))) else .no := rfl
theorem dOpF_ap : dOpF C F ma mb g = (ma g).bind fun a g1 => (mb g1).bind fun b g2 => if isC C a.frz = true ∧ isC C b.frz = true then retF (F [.fz a.frz, .fz b.frz]) g2 else .no := rfl
theorem dSl_ap {ml mh : MO} : dSl me ml mh g = (me g).bind fun o g1 => (ml g1).bind fun lo g2 => (mh g2).bind fun hi g3 => optO (fSl o.frz lo hi) g3 := rfl
def rSlS2 (lo hi : Option Int) (g : Gm) : Option (Option O) → RE O
  | some (some o) => optO (fSl o.frz lo hi) g
  | _ => .no
@[simp] theorem rSlS2_some {lo hi : Option Int} : rSlS2 lo hi g (some (some o)) = optO (fSl o.frz lo hi) g := rfl
def rSlS (i : Nat) (ml mh : MO) (g : Gm) : Option (Option O) → RE O
  | some (some _) => (ml g).bind fun lo g2 => (mh g2).bind fun hi g3 => rSlS2 lo hi g3 g3[i]?
  | _ => .no
@[simp] theorem rSlS_some {ml mh : MO} : rSlS i ml mh g (some (some o)) = (ml g).bind fun lo g2 => (mh g2).bind fun hi g3 => rSlS2 lo hi g3 g3[i]? := rfl
theorem dSlS_ap {ml mh : MO} : dSlS i ml mh g = rSlS i ml mh g g[i]? := rfl
def rPart (g : Gm) : Option Int → RE (Option Int)
  | some i => .ok (some i) g
  | none => .no
@[simp] theorem rPart_some {i : Int} : rPart g (some i) = .ok (some i) g := rfl
theorem dPart_ap : dPart me g = (me g).bind fun o g1 => rPart g1 (asInt o) := rfl
def rAsg : Option Gm → RS
  | some g2 => .nx g2
  | none => .no
@[simp] theorem rAsg_some : rAsg (some g) = .nx g := rfl
theorem dAsg_ap {as : AG} : dAsg as me g = (me g).toS fun o g1 => rAsg (as o.frz g1) := rfl
def rMt3 (i : Nat) (g1 : Gm) : Option (D × List D) → RE O
  | some (d, ys) => .ok (.fz d) (g1.set i (some (.ol ys)))
  | none => .no
@[simp] theorem rMt3_some {ys : List D} : rMt3 i g (some (d, ys)) = .ok (.fz d) (g.set i (some (.ol ys))) := rfl
def rMt2 (φ : List D → List D → Option (D × List D)) (i : Nat) (os : List O) (g1 : Gm) : Option (List D) → RE O
  | some xs => rMt3 i g1 (φ xs (os.map O.frz))
  | none => .no
@[simp] theorem rMt2_some {φ : List D → List D → Option (D × List D)} {os : List O} {xs : List D} : rMt2 φ i os g (some xs) = rMt3 i g (φ xs (os.map O.frz)) := rfl
def rMt (φ : List D → List D → Option (D × List D)) (i : Nat) (ma : MA) (g : Gm) : Option (List D) → RE O
  | some _ => (ma g).bind fun os g1 => rMt2 φ i os g1 (ownL g1 i)
  | none => .no
@[simp] theorem rMt_some {φ : List D → List D → Option (D × List D)} {xs : List D} : rMt φ i aa g (some xs) = (aa g).bind fun os g1 => rMt2 φ i os g1 (ownL g1 i) := rfl
theorem dMt_ap {φ : List D → List D → Option (D × List D)} : dMt φ i aa g = rMt φ i aa g (ownL g i) := rfl
@[simp] theorem ownL_z {xs : List D} {l : Gm} : ownL (some (.ol xs) :: l) 0 = some xs := rfl
@[simp] theorem ownL_s {x : Option O} {l : Gm} : ownL (x :: l) (i + 1) = ownL l i := rfl
def rIxSet (i : Nat) (d : D) (g1 : Gm) : Option (List D) → Option Int → Option Gm
  | some xs, some n => (ixN xs.length n).map fun j => g1.set i (some (.ol (xs.set j d)))
  | _, _ => none
@[simp] theorem rIxSet_some {xs : List D} {n : Int} : rIxSet i d g (some xs) (some n) = (ixN xs.length n).map fun j => g.set i (some (.ol (xs.set j d))) := rfl
def rIxB (i : Nat) (d : D) : RE O → Option Gm
  | .ok k g1 => rIxSet i d g1 (ownL g1 i) (asInt k)
  | _ => none
@[simp] theorem rIxB_ok {k : O} : rIxB i d (.ok k g) = rIxSet i d g (ownL g i) (asInt k) := rfl
def rIxA (i : Nat) (mb : ME) (d : D) (g : Gm) : Option (List D) → Option Gm
  | some _ => rIxB i d (mb g)
  | none => none
@[simp] theorem rIxA_some {xs : List D} : rIxA i mb d g (some xs) = rIxB i d (mb g) := rfl
theorem aIxS_ap : aIxS i mb d g = rIxA i mb d g (ownL g i) := rfl
def rFSet (Cs : List Addr) (f : Str) (i : Nat) (o : O) (g1 : Gm) : Option (Addr × List (Str × D)) → RS
  | some (C, fs) => if C ∈ Cs ∧ fs.length < 1000 then .nx (g1.set i (some (.oi C (putD f o.frz fs)))) else .no
  | none => .no
@[simp] theorem rFSet_some {Cs : List Addr} {f : Str} {fs : List (Str × D)} : rFSet Cs f i o g (some (C, fs)) = if C ∈ Cs ∧ fs.length < 1000 then .nx (g.set i (some (.oi C (putD f o.frz fs)))) else .no := rfl
theorem dFldSet_ap {Cs : List Addr} {f : Str} : dFldSet Cs f i me g = (me g).toS fun o g1 => rFSet Cs f i o g1 (ownI g1 i) := rfl
@[simp] theorem ownI_z {fs : List (Str × D)} {l : Gm} : ownI (some (.oi C fs) :: l) 0 = some (C, fs) := rfl
@[simp] theorem ownI_s {x : Option O} {l : Gm} : ownI (x :: l) (i + 1) = ownI l i := rfl
def rM1 (φ : Str → D → Option O) (me : ME) (g1 : Gm) : Option Str → RE O
  | some z => (me g1).bind fun e g2 => optO (φ z e.frz) g2
  | none => .no
@[simp] theorem rM1_some {φ : Str → D → Option O} {z : Str} : rM1 φ me g (some z) = (me g).bind fun e g2 => optO (φ z e.frz) g2 := rfl
theorem dM1_ap {φ : Str → D → Option O} : dM1 φ mo me g = (mo g).bind fun o g1 => rM1 φ me g1 (strD o.frz) := rfl
@[simp] theorem strD_str {z : Str} : strD (.str z) = some z := rfl
def rLc (vs : List Nat) : Option (List D × Gm) → RE O
  | some (acc, g2) => .ok (.ol acc) (wipeG g2 vs)
  | none => .no
@[simp] theorem rLc_some {vs : List Nat} {acc : List D} : rLc vs (some (acc, g)) = .ok (.ol acc) (wipeG g vs) := rfl
theorem dLc_ap {vs : List Nat} {mi : MI} {as : AG} {mt : MT} : dLc vs mi as mt me g = (mi g).bind fun ds g1 => rLc vs (cL vs as mt me ds [] g1) := rfl
def rPar (i j : Nat) (g : Gm) : List O → RS
  | [a, b] => .nx ((g.set i (some a)).set j (some b))
  | _ => .no
@[simp] theorem rPar_two {a b : O} : rPar i j g [a, b] = .nx ((g.set i (some a)).set j (some b)) := rfl
theorem dPar_ap : dPar i j aa g = (aa g).toS fun os g1 => rPar i j g1 os := rfl
def rCat2 (b : O) (g : Gm) : Option (Option O) → RE O
  | some (some o) => optO (fCatL o.frz b.frz) g
  | _ => .no
@[simp] theorem rCat2_some {b : O} : rCat2 b g (some (some o)) = optO (fCatL o.frz b.frz) g := rfl
def rCat (i : Nat) (mb : ME) (g : Gm) : Option (Option O) → RE O
  | some (some _) => (mb g).bind fun b g1 => rCat2 b g1 g1[i]?
  | _ => .no
@[simp] theorem rCat_some : rCat i mb g (some (some o)) = (mb g).bind fun b g1 => rCat2 b g1 g1[i]? := rfl
theorem dCatS_ap : dCatS i mb g = rCat i mb g g[i]? := rfl
def rRng1 (g : Gm) : List O → RE (List D)
  | [.fz (.int j)] => if R62 j = true then .ok (rngD 0 j.toNat) g else .no
  | _ => .no
@[simp] theorem rRng1_one {k : Int} : rRng1 g [.fz (.int k)] = if R62 k = true then .ok (rngD 0 k.toNat) g else .no := rfl
theorem dRng1_ap : dRng1 aa g = (aa g).bind fun os g1 => rRng1 g1 os := rfl
def rIt (g : Gm) : Option (List D) → RE (List D)
  | some ds => .ok ds g
  | none => .no
@[simp] theorem rIt_some {ds : List D} : rIt g (some ds) = .ok ds g := rfl
theorem dIt_ap2 : dIt me g = (me g).bind fun o g1 => rIt g1 (itemsD o.frz) := rfl
@[simp] theorem atI_0 {α : Type} {a : α} {l : List α} : atI (a :: l) 0 = some a := atI_nat (j := 0) rfl
@[simp] theorem atI_1 {α : Type} {a b : α} {l : List α} : atI (a :: b :: l) 1 = some b := atI_nat (j := 1) rfl
@[simp] theorem atI_2 {α : Type} {a b e : α} {l : List α} : atI (a :: b :: e :: l) 2 = some e := atI_nat (j := 2) rfl
@[simp] theorem ixN_2_0 : ixN 2 0 = some 0 := rfl
@[simp] theorem ixN_2_1 : ixN 2 1 = some 1 := rfl

/-! ### loops that go through -/
/-- every item goes through -/
theorem fL_inv {as : AG} {b : MS} {ds : List D} (P : Nat → Gm → Prop) (step : ∀ (i : Nat) (d : D) (g : Gm), ds[i]? = some d → P i g → ∃ g1 g2, as d g = some g1 ∧ (b g1 = .nx g2 ∨ b g1 = .ct g2) ∧ P (i + 1) g2) :
    ∀ (k : Nat) (g : Gm), k ≤ ds.length → P k g → ∃ g', fL as b (ds.drop k) g = .nx g' ∧ P ds.length g' := by
  intro k
  obtain ⟨m, hm⟩ : ∃ m, m = ds.length - k := ⟨_, rfl⟩
  induction m generalizing k with
  | zero =>
    intro g hk h
    have : k = ds.length := by omega
    subst this
    exact ⟨g, by rw [List.drop_length]; rfl, h⟩
  | succ m ih =>
    intro g hk h
    have hlt : k < ds.length := by omega
    obtain ⟨g1, g2, h1, h2, h3⟩ := step k ds[k] g (by simp [hlt]) h
    obtain ⟨g', h4, h5⟩ := ih (k + 1) (by omega) g2 hlt h3
    refine ⟨g', ?_, h5⟩
    rw [List.drop_eq_getElem_cons hlt, fL_cons, h1, rFL_some]
    rcases h2 with h2 | h2
    · rw [h2, turnS_nx]; exact h4
    · rw [h2, turnS_ct]; exact h4
/-- a comprehension without a test -/
theorem cL_inv {vs : List Nat} {as : AG} {me : ME} {ds : List D} (P : Nat → List D → Gm → Prop) (hl : ds.length ≤ big) (step : ∀ (i : Nat) (d : D) (acc : List D) (g : Gm), ds[i]? = some d → P i acc g → ∃ g1 o g2, as d (wipeG g vs) = some g1 ∧ me g1 = .ok o g2 ∧ P (i + 1) (acc ++ [o.frz]) g2) :
    ∀ (k : Nat) (acc : List D) (g : Gm), k ≤ ds.length → acc.length = k → P k acc g → ∃ acc' g', cL vs as dYes me (ds.drop k) acc g = some (acc', g') ∧ acc'.length = ds.length ∧ P ds.length acc' g' := by
  intro k
  obtain ⟨m, hm⟩ : ∃ m, m = ds.length - k := ⟨_, rfl⟩
  induction m generalizing k with
  | zero =>
    intro acc g hk ha h
    have : k = ds.length := by omega
    subst this
    exact ⟨acc, g, by rw [List.drop_length]; rfl, ha, h⟩
  | succ m ih =>
    intro acc g hk ha h
    have hlt : k < ds.length := by omega
    obtain ⟨g1, o, g2, h1, h2, h3⟩ := step k ds[k] acc g (by simp [hlt]) h
    obtain ⟨acc', g', h4, h5, h6⟩ := ih (k + 1) (by omega) (acc ++ [o.frz]) g2 hlt (by simp [ha]) h3
    refine ⟨acc', g', ?_, h5, h6⟩
    rw [List.drop_eq_getElem_cons hlt]
    unfold cL
    rw [h1]
    simp only [dYes, if_true, h2]
    rw [if_pos (by omega)]
    exact h4

/-! ### while, turn by turn -/
def Runs (mc : MT) (mb : MS) (n : Nat) (g g' : Gm) : Prop := ∀ m, wN mc mb (n + m) g = wN mc mb m g'
section
variable {mc : MT} {mb : MS} {n n1 n2 : Nat} {g g1 g2 g3 : Gm} {o : O}
theorem Runs.refl : Runs mc mb 0 g g := fun m => by rw [Nat.zero_add]
theorem Runs.trans (h1 : Runs mc mb n1 g g1) (h2 : Runs mc mb n2 g1 g2) : Runs mc mb (n1 + n2) g g2 := fun m => by rw [Nat.add_assoc, h1, h2]
theorem Runs.one (h1 : mc g = .ok true g1) (h2 : mb g1 = .nx g2) : Runs mc mb 1 g g2 := fun m => by
  rw [Nat.add_comm 1 m]
  show (mc g).toS _ = _
  rw [h1, RE.toS_ok]
  simp only [if_true]
  rw [h2, turnS_nx]
theorem Runs.done (h : Runs mc mb n g g1) (h1 : mc g1 = .ok false g2) : dWhile mc mb g = .nx g2 := dWhile_eq (n + 1) (by
  rw [h]
  show (mc g1).toS _ = _
  rw [h1, RE.toS_ok]
  rfl) (by simp)
theorem Runs.ret (h : Runs mc mb n g g1) (h1 : mc g1 = .ok true g2) (h2 : mb g2 = .rt o g3) : dWhile mc mb g = .rt o g3 := dWhile_eq (n + 1) (by
  rw [h]
  show (mc g1).toS _ = _
  rw [h1, RE.toS_ok]
  simp only [if_true]
  rw [h2, turnS_rt]) (by simp)
end
theorem mPop_app {xs : List D} {d : D} : mPop (xs ++ [d]) [] = some (d, xs) := by
  unfold mPop
  simp
theorem mApp_one {xs : List D} {d : D} (h : xs.length < big) : mApp xs [d] = some (.non, xs ++ [d]) := by
  show (if xs.length < big then some (D.non, xs ++ [d]) else none) = _
  rw [if_pos h]
theorem truth_app {xs : List D} {d : D} : truthD (.lst (xs ++ [d])) = some true := by
  unfold truthD
  simp
end
end L3
end

section
namespace K77
open PySem L2 L3
noncomputable section
/-! ### the defs as programs of data (printed by gen.py) -/
structure Cs where
  Ratio : Addr
  Expression : Addr
def tys : List String := ["NoneType", "bool", "int", "str", "tuple", "list"]
def kit (c : Cs) : Value → Value → Option Bool
  | .ref a, .ref b => if (a = c.Ratio ∨ a = c.Expression) ∧ (b = c.Ratio ∨ b = c.Expression) then some (decide (a = b)) else none
  | .ref a, .type n => if (a = c.Ratio ∨ a = c.Expression) ∧ n ∈ tys then some false else none
  | .type n, .ref b => if (b = c.Ratio ∨ b = c.Expression) ∧ n ∈ tys then some false else none
  | .type n, .type m => if n ∈ tys ∧ m ∈ tys then some (decide (n = m) || (decide (n = "bool") && decide (m = "int"))) else none
  | _, _ => none
def fb_xlaw_state_1 (c : Cs) : MS := dSeq (dSet 1 (dOp fAdd (dOp fMul (dVar 1) (dC (.int 1000003))) (dCallS (fOne fAbsD) 3))) (dSet 2 (dOp fMod (dCall (fOne fInt1D) (aCons (dOp fAdd (dOp fMul (dVar 2) (dC (.int 48271))) (dVar 3)) (aNil))) (dC (.int 2147483647))))
def m_xlaw_state (c : Cs) : MS := dSeq (dSet 1 (dC (.int 0))) (dSeq (dSet 2 (dC (.int 1))) (dSeq (dFor (dIt (dSlS 0 (dNoP) (dPart (dC (.int 63))))) (aName 3) (fb_xlaw_state_1 c)) (dRet (dLst (aCons (dVar 1) (aCons (dVar 2) (aNil)))))))
def F_xlaw_state (c : Cs) : List O → RF := runD 4 false (m_xlaw_state c)
def m_Ratio_init (c : Cs) : MS := dSeq (dIfS (dCmpT cEq (dVar 2) (dC (.int 0))) (dNo) (dNx)) (dSeq (dSet 3 (dIf (dCmpT cGt (dVar 2) (dC (.int 0))) (dCall (fTwo fGcdD) (aCons (dVar 1) (aCons (dVar 2) (aNil)))) (dUn fNeg (dCall (fTwo fGcdD) (aCons (dVar 1) (aCons (dVar 2) (aNil))))))) (dSeq (dFldSet [c.Ratio] "n" 0 (dOp fDiv (dVar 1) (dVar 3))) (dFldSet [c.Ratio] "d" 0 (dOp fDiv (dVar 2) (dVar 3)))))
def F_Ratio_init (c : Cs) : List O → RF := runD 4 true (m_Ratio_init c)
def m_Ratio_eq (c : Cs) : MS := dRet (dAnd (dCall (fTwo (isiD (kit c))) (aCons (dVar 1) (aCons (dC (.adr c.Ratio)) (aNil)))) (dAnd (dCmp cEq (dFldS [c.Ratio] "n" 0) (dFldS [c.Ratio] "n" 1)) (dCmp cEq (dFldS [c.Ratio] "d" 0) (dFldS [c.Ratio] "d" 1))))
def F_Ratio_eq (c : Cs) : List O → RF := runD 2 false (m_Ratio_eq c)
def psiP (c : Cs) (F : List O → RF) : DQ := tupD (elD (orD (owD c.Expression (nfD (kit c) c.Expression) F) (owD c.Ratio (nfD (kit c) c.Ratio) (F_Ratio_eq c))))
def m_Expression_eq (c : Cs) (F : List O → RF) : MS := dRet (dAnd (dCall (fTwo (isiD (kit c))) (aCons (dVar 1) (aCons (dC (.adr c.Expression)) (aNil)))) (dAnd (dCmp cEq (dFldS [c.Expression] "kind" 0) (dFldS [c.Expression] "kind" 1)) (dCmp (cEqA (psiP c F)) (dFldS [c.Expression] "parts" 0) (dFldS [c.Expression] "parts" 1))))
def F_Expression_eq (c : Cs) : Nat → List O → RF
  | 0 => fun _ => .no
  | k + 1 => runD 2 false (m_Expression_eq c (F_Expression_eq c k))
def psiE (c : Cs) : DQ := owD c.Expression (nfD (kit c) c.Expression) (F_Expression_eq c 202)
def psiO (c : Cs) : DQ := owD c.Expression (nfD (kit c) c.Expression) (F_Expression_eq c 1)
def ct_xlaw_odd_1 (c : Cs) (F : List O → RF) : MT := dTru (dCallF 1 (F) [] (aCons (dVar 1) (aNil)))
def ce_xlaw_odd_2 (c : Cs) (F : List O → RF) : ME := dVar 1
def m_xlaw_odd (c : Cs) (F : List O → RF) : MS := dSeq (dIfS (dCmpT (cEqA (psiO c)) (dVar 0) (dC (.str "a word that nothing else is"))) (dRet (dC (.bl true))) (dNx)) (dRet (dAnd (dCall (fTwo (isiTD (kit c))) (aCons (dVar 0) (aCons (dTup (aCons (dC (.ty "tuple")) (aCons (dC (.ty "list")) (aNil)))) (aNil)))) (dCmp cGt (dCall (fOne fLenD) (aCons (dLc [1] (dIt (dVar 0)) (aName 1) ((ct_xlaw_odd_1 c F)) ((ce_xlaw_odd_2 c F))) (aNil))) (dC (.int 0)))))
def F_xlaw_odd (c : Cs) : Nat → List O → RF
  | 0 => fun _ => .no
  | k + 1 => runD 2 false (m_xlaw_odd c (F_xlaw_odd c k))
def m_xlaw_honest (c : Cs) : MS := dRet (dIf (dTru (dCallF 1 (F_xlaw_odd c 2) [] (aCons (dVar 0) (aNil)))) (dC (.str "odd")) (dMov 0))
def F_xlaw_honest (c : Cs) : List O → RF := runD 1 false (m_xlaw_honest c)
def m_Expression_init (c : Cs) : MS := dSeq (dFldSet [c.Expression] "kind" 0 (dVar 1)) (dFldSet [c.Expression] "parts" 0 (dVar 2))
def F_Expression_init (c : Cs) : List O → RF := runD 3 true (m_Expression_init c)
def ce_is_short_word_2 (c : Cs) : ME := dCmp cIn (dVar 1) (dC (.str "abcdefghijklmnopqrstuvwxyz"))
def m_is_short_word (c : Cs) : MS := dSeq (dIfS (dOrT (dNotT (dTru (dCall (fTwo (isiD (kit c))) (aCons (dVar 0) (aCons (dC (.ty "str")) (aNil)))))) (dOrT (dCmpT cLt (dCallS (fOne fLenD) 0) (dC (.int 1))) (dCmpT cGt (dCallS (fOne fLenD) 0) (dC (.int 8))))) (dRet (dC (.bl false))) (dNx)) (dRet (dCall (fOne fAllD) (aCons (dLc [1] (dIt (dVar 0)) (aName 1) (dYes) ((ce_is_short_word_2 c))) (aNil))))
def F_is_short_word (c : Cs) : List O → RF := runD 2 false (m_is_short_word c)
def m_letter_of (c : Cs) : MS := dSeq (dIfS (dOrT (dNotT (dTru (dCallF 1 (F_is_short_word c) [] (aCons (dVar 0) (aNil))))) (dCmpT cNe (dCallS (fOne fLenD) 0) (dC (.int 1)))) (dNo) (dNx)) (dRet (dMake 3 c.Expression (F_Expression_init c) [] (aCons (dC (.str "letter")) (aCons (dTup (aCons (dVar 0) (aNil))) (aNil)))))
def F_letter_of (c : Cs) : List O → RF := runD 1 false (m_letter_of c)
def m_Expression_star (c : Cs) : MS := dRet (dMake 3 c.Expression (F_Expression_init c) [] (aCons (dC (.str "star")) (aCons (dTup (aCons (dVar 0) (aNil))) (aNil))))
def F_Expression_star (c : Cs) : List O → RF := runD 1 false (m_Expression_star c)
def m_Expression_reverse (c : Cs) : MS := dRet (dMake 3 c.Expression (F_Expression_init c) [] (aCons (dC (.str "reverse")) (aCons (dTup (aCons (dVar 0) (aNil))) (aNil))))
def F_Expression_reverse (c : Cs) : List O → RF := runD 1 false (m_Expression_reverse c)
def m_Expression_left (c : Cs) : MS := dSeq (dIfS (dNotT (dTru (dCallF 1 (F_is_short_word c) [] (aCons (dVar 1) (aNil))))) (dNo) (dNx)) (dRet (dMake 3 c.Expression (F_Expression_init c) [] (aCons (dC (.str "left")) (aCons (dTup (aCons (dVar 1) (aCons (dVar 0) (aNil)))) (aNil)))))
def F_Expression_left (c : Cs) : List O → RF := runD 2 false (m_Expression_left c)
def m_Expression_right (c : Cs) : MS := dSeq (dIfS (dNotT (dTru (dCallF 1 (F_is_short_word c) [] (aCons (dVar 1) (aNil))))) (dNo) (dNx)) (dRet (dMake 3 c.Expression (F_Expression_init c) [] (aCons (dC (.str "right")) (aCons (dTup (aCons (dVar 1) (aCons (dVar 0) (aNil)))) (aNil)))))
def F_Expression_right (c : Cs) : List O → RF := runD 2 false (m_Expression_right c)
def m_number (c : Cs) : MS := dSeq (dIfS (dTru (dCall (fTwo (isiD (kit c))) (aCons (dVar 0) (aCons (dC (.adr c.Ratio)) (aNil))))) (dRet (dMake 3 c.Expression (F_Expression_init c) [] (aCons (dC (.str "number")) (aCons (dTup (aCons (dVar 0) (aNil))) (aNil))))) (dNx)) (dRet (dMake 3 c.Expression (F_Expression_init c) [] (aCons (dC (.str "number")) (aCons (dTup (aCons (dMake 3 c.Ratio (F_Ratio_init c) [.int 1] (aCons (dVar 0) (aNil))) (aNil))) (aNil)))))
def F_number (c : Cs) : List O → RF := runD 1 false (m_number c)
def m_Expression_add (c : Cs) : MS := dRet (dMake 3 c.Expression (F_Expression_init c) [] (aCons (dC (.str "sum")) (aCons (dTup (aCons (dVar 0) (aCons (dVar 1) (aNil)))) (aNil))))
def F_Expression_add (c : Cs) : List O → RF := runD 2 false (m_Expression_add c)
def m_Expression_mul (c : Cs) : MS := dRet (dMake 3 c.Expression (F_Expression_init c) [] (aCons (dC (.str "product")) (aCons (dTup (aCons (dVar 0) (aCons (dVar 1) (aNil)))) (aNil))))
def F_Expression_mul (c : Cs) : List O → RF := runD 2 false (m_Expression_mul c)
def m_Expression_and (c : Cs) : MS := dRet (dMake 3 c.Expression (F_Expression_init c) [] (aCons (dC (.str "both")) (aCons (dTup (aCons (dVar 0) (aCons (dVar 1) (aNil)))) (aNil))))
def F_Expression_and (c : Cs) : List O → RF := runD 2 false (m_Expression_and c)
def m_Expression_xor (c : Cs) : MS := dRet (dMake 3 c.Expression (F_Expression_init c) [] (aCons (dC (.str "shuffle")) (aCons (dTup (aCons (dVar 0) (aCons (dVar 1) (aNil)))) (aNil))))
def F_Expression_xor (c : Cs) : List O → RF := runD 2 false (m_Expression_xor c)
def m_xlaw_stepped (c : Cs) : MS := dSeq (dSet 4 (dCallF 1 (F_xlaw_honest c) [] (aCons (dCallF 1 (F_letter_of c) [] (aCons (dIxS 2 (dC (.int 0))) (aNil))) (aNil)))) (dSeq (dIfS (dCmpT cEq (dVar 1) (dC (.int 0))) (dRet (dMeth 1 c.Expression "star" (F_Expression_star c) [] (dVar 0) aNil)) (dNx)) (dSeq (dIfS (dCmpT cEq (dVar 1) (dC (.int 1))) (dRet (dMeth 1 c.Expression "reverse" (F_Expression_reverse c) [] (dVar 0) aNil)) (dNx)) (dSeq (dIfS (dCmpT cEq (dVar 1) (dC (.int 2))) (dRet (dMeth 2 c.Expression "left" (F_Expression_left c) [] (dVar 0) (aCons (dVar 2) (aNil)))) (dNx)) (dSeq (dIfS (dCmpT cEq (dVar 1) (dC (.int 3))) (dRet (dMeth 2 c.Expression "right" (F_Expression_right c) [] (dVar 0) (aCons (dVar 2) (aNil)))) (dNx)) (dSeq (dIfS (dCmpT cEq (dVar 1) (dC (.int 4))) (dRet (dOpF c.Expression (F_Expression_add c) (dVar 0) (dVar 4))) (dNx)) (dSeq (dIfS (dCmpT cEq (dVar 1) (dC (.int 5))) (dRet (dOpF c.Expression (F_Expression_mul c) (dCallF 1 (F_xlaw_honest c) [] (aCons (dCallF 1 (F_number c) [] (aCons (dMake 3 c.Ratio (F_Ratio_init c) [] (aCons (dVar 3) (aCons (dC (.int 3)) (aNil)))) (aNil))) (aNil))) (dVar 0))) (dNx)) (dSeq (dIfS (dCmpT cEq (dVar 1) (dC (.int 6))) (dRet (dOpF c.Expression (F_Expression_and c) (dVar 0) (dVar 4))) (dNx)) (dRet (dOpF c.Expression (F_Expression_xor c) (dVar 4) (dVar 0))))))))))
def F_xlaw_stepped (c : Cs) : List O → RF := runD 5 false (m_xlaw_stepped c)
def fb_xlaw_made_1 (c : Cs) : MS := dSet 1 (dCallF 4 (F_xlaw_stepped c) [] (aCons (dVar 1) (aCons (dVar 2) (aCons (dVar 3) (aCons (dVar 4) (aNil))))))
def m_xlaw_made (c : Cs) : MS := dSeq (dSet 1 (dCallF 1 (F_xlaw_honest c) [] (aCons (dCallF 1 (F_letter_of c) [] (aCons (dC (.str "m")) (aNil))) (aNil)))) (dSeq (dFor (dIt (dVar 0)) (aTup [aName 2, aName 3, aName 4]) (fb_xlaw_made_1 c)) (dRet (dMov 1)))
def F_xlaw_made (c : Cs) : List O → RF := runD 5 false (m_xlaw_made c)
def m_xlaw_take (c : Cs) : MS := dSeq (dIfS (dCmpT cGt (dIxS 0 (dC (.int 0))) (dC (.int 0))) (dSeq (dSet 2 (dOp fMod (dCall (fOne fInt1D) (aCons (dIxS 0 (dC (.int 0))) (aNil))) (dVar 1))) (dSeq (dAsg (aIxS 0 (dC (.int 0))) (dOp fDiv (dIxS 0 (dC (.int 0))) (dVar 1))) (dRet (dMov 2)))) (dNx)) (dSeq (dAsg (aIxS 0 (dC (.int 1))) (dOp fMod (dCall (fOne fInt1D) (aCons (dOp fAdd (dOp fMul (dIxS 0 (dC (.int 1))) (dC (.int 48271))) (dC (.int 11))) (aNil))) (dC (.int 2147483647)))) (dRet (dOp fMod (dCall (fOne fInt1D) (aCons (dOp fDiv (dIxS 0 (dC (.int 1))) (dC (.int 7))) (aNil))) (dVar 1))))
def F_xlaw_take (c : Cs) : List O → RF := runD 3 true (m_xlaw_take c)
def m_xlaw_says (c : Cs) : MS := dRet (dAnd (dCall (fTwo (isiD (kit c))) (aCons (dVar 0) (aCons (dC (.ty "bool")) (aNil)))) (dCmp cEq (dVar 0) (dVar 1)))
def F_xlaw_says (c : Cs) : List O → RF := runD 2 false (m_xlaw_says c)
def ce_xlaw_words_2 (c : Cs) : ME := dOp fIx (dC (.str "abcxyz")) (dCallR 2 (F_xlaw_take c) [] 0 (aCons (dC (.int 6)) (aNil)))
def m_xlaw_words (c : Cs) : MS := dRet (dM1 fJoin (dC (.str "")) (dLc [1] (dRng1 (aCons (dOp fAdd (dC (.int 1)) (dCallR 2 (F_xlaw_take c) [] 0 (aCons (dC (.int 8)) (aNil)))) (aNil))) (aName 1) (dYes) ((ce_xlaw_words_2 c))))
def F_xlaw_words (c : Cs) : List O → RF := runD 2 true (m_xlaw_words c)
def m_Expression_operands (c : Cs) : MS := dSeq (dIfS (dCmpT cIn (dFldS [c.Expression] "kind" 0) (dTup (aCons (dC (.str "number")) (aCons (dC (.str "letter")) (aNil))))) (dRet (dTup (aNil))) (dNx)) (dSeq (dIfS (dCmpT cIn (dFldS [c.Expression] "kind" 0) (dTup (aCons (dC (.str "left")) (aCons (dC (.str "right")) (aNil))))) (dRet (dSl (dFldS [c.Expression] "parts" 0) (dPart (dC (.int 1))) (dNoP))) (dNx)) (dRet (dFldS [c.Expression] "parts" 0)))
def F_Expression_operands (c : Cs) : List O → RF := runD 1 false (m_Expression_operands c)
def fb_measures_1 (c : Cs) : MS := dDrop (dMt mApp 3 (aCons (dTup (aCons (dVar 6) (aCons (dOp fAdd (dVar 5) (dC (.int 1))) (aNil)))) (aNil)))
def wc_measures_2 (c : Cs) : MT := dTruS 3
def wb_measures_3 (c : Cs) : MS := dSeq (dAsg (aTup [aName 4, aName 5]) (dMt mPop 3 aNil)) (dSeq (dSet 2 (dOp fAdd (dVar 2) (dC (.int 1)))) (dSeq (dSet 1 (dCall (fTwo fMax2D) (aCons (dVar 1) (aCons (dVar 5) (aNil))))) (dFor (dIt (dMeth 1 c.Expression "operands" (F_Expression_operands c) [] (dVar 4) aNil)) (aName 6) (fb_measures_1 c))))
def m_measures (c : Cs) : MS := dSeq (dSet 1 (dC (.int 0))) (dSeq (dSet 2 (dC (.int 0))) (dSeq (dSet 3 (dLst (aCons (dTup (aCons (dVar 0) (aCons (dC (.int 1)) (aNil)))) (aNil)))) (dSeq (dWhile (wc_measures_2 c) (wb_measures_3 c)) (dRet (dTup (aCons (dVar 1) (aCons (dVar 2) (aNil))))))))
def F_measures (c : Cs) : List O → RF := runD 7 false (m_measures c)
def m_Expression_depth (c : Cs) : MS := dRet (dOp fIx (dCallF 1 (F_measures c) [] (aCons (dVar 0) (aNil))) (dC (.int 0)))
def F_Expression_depth (c : Cs) : List O → RF := runD 1 false (m_Expression_depth c)
def m_Expression_count (c : Cs) : MS := dRet (dOp fIx (dCallF 1 (F_measures c) [] (aCons (dVar 0) (aNil))) (dC (.int 1)))
def F_Expression_count (c : Cs) : List O → RF := runD 1 false (m_Expression_count c)
def ct_Expression_used_letters_1 (c : Cs) : MT := dCmpT cIn (dVar 5) (dVar 4)
def ce_Expression_used_letters_2 (c : Cs) : ME := dVar 5
def wc_Expression_used_letters_3 (c : Cs) : MT := dTruS 2
def wb_Expression_used_letters_4 (c : Cs) : MS := dSeq (dSet 3 (dMt mPop 2 aNil)) (dSeq (dIfS (dCmpT cIn (dFldS [c.Expression] "kind" 3) (dTup (aCons (dC (.str "letter")) (aCons (dC (.str "left")) (aCons (dC (.str "right")) (aNil)))))) (dDrop (dMt mApp 1 (aCons (dOp fIx (dFldS [c.Expression] "parts" 3) (dC (.int 0))) (aNil)))) (dNx)) (dDrop (dMt mExt 2 (aCons (dCall (fOne fListD) (aCons (dMeth 1 c.Expression "operands" (F_Expression_operands c) [] (dVar 3) aNil) (aNil))) (aNil)))))
def m_Expression_used_letters (c : Cs) : MS := dSeq (dSet 1 (dLst (aNil))) (dSeq (dSet 2 (dLst (aCons (dVar 0) (aNil)))) (dSeq (dWhile (wc_Expression_used_letters_3 c) (wb_Expression_used_letters_4 c)) (dSeq (dSet 4 (dM1 fJoin (dC (.str "")) (dVar 1))) (dRet (dM1 fJoin (dC (.str "")) (dLc [5] (dIt (dC (.str "abcdefghijklmnopqrstuvwxyz"))) (aName 5) ((ct_Expression_used_letters_1 c)) ((ce_Expression_used_letters_2 c))))))))
def F_Expression_used_letters (c : Cs) : List O → RF := runD 6 false (m_Expression_used_letters c)
def ct_xlaw_letters_of_1 (c : Cs) : MT := dCmpT cIn (dVar 5) (dVar 1)
def ce_xlaw_letters_of_2 (c : Cs) : ME := dVar 5
def fb_xlaw_letters_of_3 (c : Cs) : MS := dSeq (dIfS (dOrT (dCmpT cEq (dVar 2) (dC (.int 2))) (dCmpT cEq (dVar 2) (dC (.int 3)))) (dSet 1 (dOp fAddS (dVar 1) (dVar 3))) (dNx)) (dIfS (dOrT (dCmpT cEq (dVar 2) (dC (.int 4))) (dCmpT cGt (dVar 2) (dC (.int 5)))) (dSet 1 (dOp fAddS (dVar 1) (dIxS 3 (dC (.int 0))))) (dNx))
def m_xlaw_letters_of (c : Cs) : MS := dSeq (dSet 1 (dC (.str "m"))) (dSeq (dFor (dIt (dVar 0)) (aTup [aName 2, aName 3, aName 4]) (fb_xlaw_letters_of_3 c)) (dRet (dM1 fJoin (dC (.str "")) (dLc [5] (dIt (dC (.str "abcdefghijklmnopqrstuvwxyz"))) (aName 5) ((ct_xlaw_letters_of_1 c)) ((ce_xlaw_letters_of_2 c))))))
def F_xlaw_letters_of (c : Cs) : List O → RF := runD 6 false (m_xlaw_letters_of c)
def m_is_long (c : Cs) : MS := dRet (dOr (dCmp cGe (dCall (fOne fAbsD) (aCons (dFldS [c.Ratio] "n" 0) (aNil))) (dOp fPow (dC (.int 10)) (dC (.int 60)))) (dCmp cGe (dFldS [c.Ratio] "d" 0) (dOp fPow (dC (.int 10)) (dC (.int 60)))))
def F_is_long (c : Cs) : List O → RF := runD 1 false (m_is_long c)
def fb_is_expression_1 (c : Cs) : MS := dDrop (dMt mApp 2 (aCons (dTup (aCons (dVar 5) (aCons (dOp fAdd (dVar 4) (dC (.int 1))) (aNil)))) (aNil)))
def wc_is_expression_2 (c : Cs) : MT := dTruS 2
def wb_is_expression_3 (c : Cs) : MS := dSeq (dAsg (aTup [aName 3, aName 4]) (dMt mPop 2 aNil)) (dSeq (dSet 1 (dOp fAdd (dVar 1) (dC (.int 1)))) (dSeq (dIfS (dOrT (dCmpT cGt (dVar 1) (dC (.int 200))) (dCmpT cGt (dVar 4) (dC (.int 40)))) (dRet (dC (.bl false))) (dNx)) (dSeq (dIfS (dAndT (dCmpT cEq (dFldS [c.Expression] "kind" 3) (dC (.str "number"))) (dTru (dCallF 1 (F_is_long c) [] (aCons (dOp fIx (dFldS [c.Expression] "parts" 3) (dC (.int 0))) (aNil))))) (dRet (dC (.bl false))) (dNx)) (dFor (dIt (dMeth 1 c.Expression "operands" (F_Expression_operands c) [] (dVar 3) aNil)) (aName 5) (fb_is_expression_1 c)))))
def m_is_expression (c : Cs) : MS := dSeq (dIfS (dNotT (dTru (dCall (fTwo (isiD (kit c))) (aCons (dVar 0) (aCons (dC (.adr c.Expression)) (aNil)))))) (dRet (dC (.bl false))) (dNx)) (dSeq (dSet 1 (dC (.int 0))) (dSeq (dSet 2 (dLst (aCons (dTup (aCons (dVar 0) (aCons (dC (.int 1)) (aNil)))) (aNil)))) (dSeq (dWhile (wc_is_expression_2 c) (wb_is_expression_3 c)) (dRet (dC (.bl true))))))
def F_is_expression (c : Cs) : List O → RF := runD 6 false (m_is_expression c)
def ce_xlaw_chain_holds_2 (c : Cs) : ME := dOp fAdd (dC (.int 1)) (dCall (fOne fInt1D) (aCons (dCmp cGt (dVar 9) (dC (.int 3))) (aNil)))
def ce_xlaw_chain_holds_4 (c : Cs) : ME := dTup (aCons (dCallR 2 (F_xlaw_take c) [] 0 (aCons (dC (.int 8)) (aNil))) (aCons (dCallR 1 (F_xlaw_words c) [] 0 (aNil)) (aCons (dOp fSub (dCallR 2 (F_xlaw_take c) [] 0 (aCons (dC (.int 7)) (aNil))) (dC (.int 3))) (aNil))))
def m_xlaw_chain_holds (c : Cs) : MS := dSeq (dSet 1 (dOp fIx (dLst (aCons (dOp fAdd (dC (.int 38)) (dCallR 2 (F_xlaw_take c) [] 0 (aCons (dC (.int 5)) (aNil)))) (aCons (dOp fAdd (dC (.int 41)) (dCallR 2 (F_xlaw_take c) [] 0 (aCons (dC (.int 160)) (aNil)))) (aCons (dC (.int 200)) (aNil))))) (dCallR 2 (F_xlaw_take c) [] 0 (aCons (dC (.int 3)) (aNil))))) (dSeq (dSet 2 (dLc [8] (dRng1 (aCons (dOp fSub (dVar 1) (dC (.int 1))) (aNil))) (aName 8) (dYes) ((ce_xlaw_chain_holds_4 c)))) (dSeq (dPar 3 4 (aCons (dCallF 1 (F_xlaw_made c) [] (aCons (dVar 2) (aNil))) (aCons (dCallF 1 (F_xlaw_made c) [] (aCons (dVar 2) (aNil))) (aNil)))) (dSeq (dSet 5 (dOp fAdd (dC (.int 1)) (dCall (fOne fSumD) (aCons (dLc [9, 10, 11] (dIt (dVar 2)) (aTup [aName 9, aName 10, aName 11]) (dYes) ((ce_xlaw_chain_holds_2 c))) (aNil))))) (dSeq (dIfS (dOrT (dCmpT cNe (dMeth 1 c.Expression "depth" (F_Expression_depth c) [] (dVar 3) aNil) (dVar 1)) (dOrT (dCmpT cNe (dMeth 1 c.Expression "count" (F_Expression_count c) [] (dVar 3) aNil) (dVar 5)) (dCmpT cNe (dMeth 1 c.Expression "used_letters" (F_Expression_used_letters c) [] (dVar 3) aNil) (dCallF 1 (F_xlaw_letters_of c) [] (aCons (dVar 2) (aNil)))))) (dRet (dC (.bl false))) (dNx)) (dSeq (dIfS (dOrT (dNotT (dTru (dCallF 2 (F_xlaw_says c) [] (aCons (dCmp (cEqA (psiE c)) (dVar 3) (dVar 4)) (aCons (dC (.bl true)) (aNil)))))) (dNotT (dTru (dCallF 2 (F_xlaw_says c) [] (aCons (dCallF 1 (F_is_expression c) [] (aCons (dVar 3) (aNil))) (aCons (dAnd (dCmp cLe (dVar 1) (dC (.int 40))) (dCmp cLe (dVar 5) (dC (.int 200)))) (aNil))))))) (dRet (dC (.bl false))) (dNx)) (dSeq (dSet 6 (dIxS 2 (dUn fNeg (dC (.int 1))))) (dSeq (dSet 7 (dCallF 1 (F_xlaw_made c) [] (aCons (dOpY fCatL (dSlS 2 (dNoP) (dPart (dUn fNeg (dC (.int 1))))) (dLst (aCons (dTup (aCons (dOp fMod (dCall (fOne fInt1D) (aCons (dOp fAdd (dOp fAdd (dIxS 6 (dC (.int 0))) (dC (.int 1))) (dCallR 2 (F_xlaw_take c) [] 0 (aCons (dC (.int 7)) (aNil)))) (aNil))) (dC (.int 8))) (aCons (dIxS 6 (dC (.int 1))) (aCons (dIxS 6 (dC (.int 2))) (aNil))))) (aNil)))) (aNil)))) (dRet (dAnd (dCallF 2 (F_xlaw_says c) [] (aCons (dCmp (cEqA (psiE c)) (dVar 3) (dVar 7)) (aCons (dC (.bl false)) (aNil)))) (dCallF 2 (F_xlaw_says c) [] (aCons (dCmp (cEqA (psiE c)) (dVar 7) (dVar 3)) (aCons (dC (.bl false)) (aNil)))))))))))))
def F_xlaw_chain_holds (c : Cs) : List O → RF := runD 12 true (m_xlaw_chain_holds c)
def ce_xlaw_wide_holds_2 (c : Cs) : ME := dOpF c.Expression (F_Expression_add c) (dIxS 6 (dOp fMul (dC (.int 2)) (dVar 8))) (dIxS 6 (dOp fAdd (dOp fMul (dC (.int 2)) (dVar 8)) (dC (.int 1))))
def wc_xlaw_wide_holds_3 (c : Cs) : MT := dCmpT cGt (dCallS (fOne fLenD) 6) (dC (.int 1))
def wb_xlaw_wide_holds_4 (c : Cs) : MS := dSeq (dSet 7 (dLc [8] (dRng1 (aCons (dOp fDiv (dCallS (fOne fLenD) 6) (dC (.int 2))) (aNil))) (aName 8) (dYes) ((ce_xlaw_wide_holds_2 c)))) (dSet 6 (dCatS 7 (dSlS 6 (dPart (dOp fMul (dC (.int 2)) (dCallS (fOne fLenD) 7))) (dNoP))))
def ce_xlaw_wide_holds_6 (c : Cs) : ME := dCallF 1 (F_xlaw_honest c) [] (aCons (dCallF 1 (F_letter_of c) [] (aCons (dOp fIx (dC (.str "abc")) (dCallR 2 (F_xlaw_take c) [] 0 (aCons (dC (.int 3)) (aNil)))) (aNil))) (aNil))
def fb_xlaw_wide_holds_7 (c : Cs) : MS := dPar 1 3 (aCons (dOpF c.Expression (F_Expression_add c) (dVar 1) (dVar 1)) (aCons (dOp fAdd (dOp fMul (dC (.int 2)) (dVar 3)) (dC (.int 1))) (aNil)))
def m_xlaw_wide_holds (c : Cs) : MS := dSeq (dPar 1 2 (aCons (dCallF 1 (F_xlaw_honest c) [] (aCons (dCallF 1 (F_letter_of c) [] (aCons (dC (.str "a")) (aNil))) (aNil))) (aCons (dCallR 2 (F_xlaw_take c) [] 0 (aCons (dC (.int 13)) (aNil))) (aNil)))) (dSeq (dSet 3 (dC (.int 1))) (dSeq (dFor (dRng1 (aCons (dVar 2) (aNil))) (aName 4) (fb_xlaw_wide_holds_7 c)) (dSeq (dIfS (dOrT (dCmpT cNe (dMeth 1 c.Expression "depth" (F_Expression_depth c) [] (dVar 1) aNil) (dOp fAdd (dVar 2) (dC (.int 1)))) (dOrT (dCmpT cNe (dMeth 1 c.Expression "count" (F_Expression_count c) [] (dVar 1) aNil) (dVar 3)) (dCmpT cNe (dMeth 1 c.Expression "used_letters" (F_Expression_used_letters c) [] (dVar 1) aNil) (dC (.str "a"))))) (dRet (dC (.bl false))) (dNx)) (dSeq (dIfS (dNotT (dTru (dCallF 2 (F_xlaw_says c) [] (aCons (dCallF 1 (F_is_expression c) [] (aCons (dVar 1) (aNil))) (aCons (dCmp cLe (dVar 3) (dC (.int 200))) (aNil)))))) (dRet (dC (.bl false))) (dNx)) (dSeq (dSet 5 (dOp fAdd (dC (.int 99)) (dCallR 2 (F_xlaw_take c) [] 0 (aCons (dC (.int 4)) (aNil))))) (dSeq (dSet 6 (dLc [8] (dRng1 (aCons (dVar 5) (aNil))) (aName 8) (dYes) ((ce_xlaw_wide_holds_6 c)))) (dSeq (dWhile (wc_xlaw_wide_holds_3 c) (wb_xlaw_wide_holds_4 c)) (dSeq (dPar 1 3 (aCons (dIxS 6 (dC (.int 0))) (aCons (dOp fSub (dOp fMul (dC (.int 2)) (dVar 5)) (dC (.int 1))) (aNil)))) (dSeq (dIfS (dCmpT cEq (dCallR 2 (F_xlaw_take c) [] 0 (aCons (dC (.int 2)) (aNil))) (dC (.int 0))) (dPar 1 3 (aCons (dMeth 1 c.Expression "reverse" (F_Expression_reverse c) [] (dVar 1) aNil) (aCons (dOp fAdd (dVar 3) (dC (.int 1))) (aNil)))) (dNx)) (dRet (dAnd (dCmp cEq (dMeth 1 c.Expression "count" (F_Expression_count c) [] (dVar 1) aNil) (dVar 3)) (dCallF 2 (F_xlaw_says c) [] (aCons (dCallF 1 (F_is_expression c) [] (aCons (dVar 1) (aNil))) (aCons (dCmp cLe (dVar 3) (dC (.int 200))) (aNil)))))))))))))))
def F_xlaw_wide_holds (c : Cs) : List O → RF := runD 9 true (m_xlaw_wide_holds c)
def fb_xlaw_digits_hold_1 (c : Cs) : MS := dIfS (dNotT (dTru (dCallF 2 (F_xlaw_says c) [] (aCons (dCallF 1 (F_is_expression c) [] (aCons (dVar 6) (aNil))) (aCons (dCmp cLt (dVar 1) (dC (.int 61))) (aNil)))))) (dRet (dC (.bl false))) (dNx)
def fb_xlaw_digits_hold_2 (c : Cs) : MS := dFor (dIt (dLst (aCons (dCallF 1 (F_xlaw_honest c) [] (aCons (dCallF 1 (F_number c) [] (aCons (dVar 5) (aNil))) (aNil))) (aCons (dMeth 1 c.Expression "star" (F_Expression_star c) [] (dCallF 1 (F_xlaw_honest c) [] (aCons (dCallF 1 (F_number c) [] (aCons (dVar 5) (aNil))) (aNil))) aNil) (aNil))))) (aName 6) (fb_xlaw_digits_hold_1 c)
def fb_xlaw_digits_hold_3 (c : Cs) : MS := dSet 2 (dOp fMul (dC (.int 10)) (dVar 2))
def m_xlaw_digits_hold (c : Cs) : MS := dSeq (dSet 1 (dOp fAdd (dC (.int 59)) (dCallR 2 (F_xlaw_take c) [] 0 (aCons (dC (.int 4)) (aNil))))) (dSeq (dSet 2 (dC (.int 1))) (dSeq (dFor (dRng1 (aCons (dOp fSub (dVar 1) (dC (.int 1))) (aNil))) (aName 3) (fb_xlaw_digits_hold_3 c)) (dSeq (dSet 4 (dOp fAdd (dOp fAdd (dVar 2) (dOp fMul (dC (.int 2)) (dCallR 2 (F_xlaw_take c) [] 0 (aCons (dC (.int 1000000)) (aNil))))) (dC (.int 1)))) (dSeq (dFor (dIt (dLst (aCons (dMake 3 c.Ratio (F_Ratio_init c) [.int 1] (aCons (dVar 4) (aNil))) (aCons (dMake 3 c.Ratio (F_Ratio_init c) [.int 1] (aCons (dUn fNeg (dVar 4)) (aNil))) (aCons (dMake 3 c.Ratio (F_Ratio_init c) [] (aCons (dC (.int 2)) (aCons (dVar 4) (aNil)))) (aCons (dMake 3 c.Ratio (F_Ratio_init c) [] (aCons (dUn fNeg (dVar 4)) (aCons (dC (.int 2)) (aNil)))) (aNil))))))) (aName 5) (fb_xlaw_digits_hold_2 c)) (dRet (dC (.bl true)))))))
def F_xlaw_digits_hold (c : Cs) : List O → RF := runD 7 true (m_xlaw_digits_hold c)
def ce_law_2 (c : Cs) : ME := dCmp cNotB (dCallF 1 (F_is_expression c) [] (aCons (dVar 3) (aNil))) (dC (.bl false))
def m_law (c : Cs) : MS := dSeq (dSet 1 (dCallF 1 (F_xlaw_state c) [] (aCons (dVar 0) (aNil)))) (dSeq (dIfS (dOrT (dNotT (dTru (dCallR 1 (F_xlaw_chain_holds c) [] 1 (aNil)))) (dOrT (dNotT (dTru (dCallR 1 (F_xlaw_wide_holds c) [] 1 (aNil)))) (dNotT (dTru (dCallR 1 (F_xlaw_digits_hold c) [] 1 (aNil)))))) (dRet (dC (.bl false))) (dNx)) (dSeq (dSet 2 (dLst (aCons (dC .non) (aCons (dC (.int 0)) (aCons (dC (.str "a")) (aCons (dTup (aCons (dC (.str "letter")) (aCons (dC (.str "a")) (aNil)))) (aCons (dMake 3 c.Ratio (F_Ratio_init c) [.int 1] (aCons (dC (.int 1)) (aNil))) (aCons (dC (.bl true)) (aCons (dLst (aCons (dCallF 1 (F_xlaw_honest c) [] (aCons (dCallF 1 (F_letter_of c) [] (aCons (dC (.str "a")) (aNil))) (aNil))) (aNil))) (aNil)))))))))) (dRet (dNot (dCall (fOne fAnyD) (aCons (dLc [3] (dIt (dVar 2)) (aName 3) (dYes) ((ce_law_2 c))) (aNil)))))))
def F_law (c : Cs) : List O → RF := runD 4 false (m_law c)
end
end K77
end

section
namespace K77
open PySem L2 L3
section
variable {K : PySem.W.Frag}
theorem rfl_cEq : Rfl K cEq := fun Hf v d1 d2 b r1 r2 e => by
  unfold cEq at e
  cases e1 : atm d1 with
  | none => rw [e1] at e; cases e
  | some x =>
    cases e2 : atm d2 with
    | none => rw [e1, e2] at e; cases e
    | some y =>
      rw [e1, e2] at e
      dsimp only at e
      have h1 := atm_rep e1 r1
      have h2 := atm_rep e2 r2
      split at e
      · cases e
        exact decide_eq_true (h1.symm.trans h2)
      · cases e
theorem rfl_cEqA {ψ : DQ} (h : Rfl K ψ) : Rfl K (cEqA ψ) := rfl_or rfl_cEq h
theorem eq_two {C : Addr} {κ : Value → Value → Option Bool} {f1 f2 : Str} {ψ1 ψ2 : DQ} {fs gs : List (Str × D)} {b : Bool} {u : Option O} (hi : isiD κ (.ins C gs) (.adr C) = some (.fz (.bl true)))
    (e : runD 2 false (dRet (dAnd (dCall (fTwo (isiD κ)) (aCons (dVar 1) (aCons (dC (.adr C)) (aNil)))) (dAnd (dCmp ψ1 (dFldS [C] f1 0) (dFldS [C] f1 1)) (dCmp ψ2 (dFldS [C] f2 0) (dFldS [C] f2 1))))) [.fz (.ins C fs), .fz (.ins C gs)] = .ok (.fz (.bl b)) u) :
    ∃ x1 y1 b1, fs.lookup f1 = some x1 ∧ gs.lookup f1 = some y1 ∧ ψ1 x1 y1 = some b1 ∧ (b1 = true → ∃ x2 y2, fs.lookup f2 = some x2 ∧ gs.lookup f2 = some y2 ∧ ψ2 x2 y2 = some b) := by
  have fl : ∀ (f : Str) (l : List (Str × D)), fldD [C] f (.ins C l) = l.lookup f := fun f l => by
    show (if C ∈ [C] then _ else _) = _
    rw [if_pos (by simp)]
  simp only [fL_cons, rFL_some, fL_nil, dSeq_ap, dIfS_ap, dSet_ap, dDrop_ap, dRet_ap, dRetN_ap, dNx_ap, dBk_ap, dCt_ap, dFor_ap, dC_ap, dVar_ap, dMov_ap, dOp_ap, dUn_ap, dOpY_ap, dCmpT_ap, dCmp_ap, dTru_ap, dTruS_ap, dAndT_ap, dOrT_ap, dNotT_ap, dIf_ap, dAnd_ap, dOr_ap, dNot_ap, aNil_ap, aCons_ap, dTup_ap, dLst_ap, dFld_ap, dFldS_ap, dIxS_ap, dCall_ap, dCallS_ap, dYes_ap, dNoP_ap, dCallF_ap, dCallR_ap, dMeth_ap, dMake_ap, dOpF_ap, dSl_ap, dSlS_ap, dPart_ap, dAsg_ap, dMt_ap, aIxS_ap, rIxA_some, rIxB_ok, dFldSet_ap, rFSet_some, ownI_z, ownI_s, dCatS_ap, dPar_ap, dM1_ap, dLc_ap, dRng1_ap, rVar_u, rMov_fz, rMov_ol, rMov_oi, rTruS_some, rAnd_t, rAnd_f, rOr_t, rOr_f, rNot_s, rFldS_some, rIxS_some, rIxS2_some, rCallS_some, rCallR_some, rCallR2_ok, rCallR3_ok, rSlS_some, rSlS2_some, rCat_some, rCat2_some, rMt_some, rMt2_some, rMt3_some, rPart_some, retF_ok, isBl_bl, asInt_int, fOne_ap, fTwo_ap, aName_ap, RE.bind_ok, RE.toS_ok, RS.then_nx, RS.then_rt, RS.then_bk, RS.then_ct, turnS_nx, turnS_ct, turnS_bk, turnS_rt, opt_some, optO_some, optT_some, frz_ol, frz_fzd, frz_oi, List.getElem?_cons_zero, List.getElem?_cons_succ, List.set_cons_zero, List.set_cons_succ, List.map_cons, List.map_nil, List.length_cons, List.length_nil, List.replicate, List.cons_append, List.nil_append, Nat.reduceAdd, Nat.reduceSub, Nat.reduceLeDiff, if_true, Bool.false_eq_true, if_false, Bool.not_true, Bool.not_false, reduceIte, reduceCtorEq, run_ap, rMake_ok, rAsg_some, rM1_some, strD_str, rLc_some, rPar_two, rRng1_one, rIt_some, dIt_ap2, atI_0, atI_1, atI_2, ixN_2_0, ixN_2_1, back0_t, back0_f, ownL_z, ownL_s, rIxSet_some, Option.map_some, wipeG, hi, fl] at e
  cases h1 : fs.lookup f1 with
  | none => simp only [fL_cons, rFL_some, fL_nil, dSeq_ap, dIfS_ap, dSet_ap, dDrop_ap, dRet_ap, dRetN_ap, dNx_ap, dBk_ap, dCt_ap, dFor_ap, dC_ap, dVar_ap, dMov_ap, dOp_ap, dUn_ap, dOpY_ap, dCmpT_ap, dCmp_ap, dTru_ap, dTruS_ap, dAndT_ap, dOrT_ap, dNotT_ap, dIf_ap, dAnd_ap, dOr_ap, dNot_ap, aNil_ap, aCons_ap, dTup_ap, dLst_ap, dFld_ap, dFldS_ap, dIxS_ap, dCall_ap, dCallS_ap, dYes_ap, dNoP_ap, dCallF_ap, dCallR_ap, dMeth_ap, dMake_ap, dOpF_ap, dSl_ap, dSlS_ap, dPart_ap, dAsg_ap, dMt_ap, aIxS_ap, rIxA_some, rIxB_ok, dFldSet_ap, rFSet_some, ownI_z, ownI_s, dCatS_ap, dPar_ap, dM1_ap, dLc_ap, dRng1_ap, rVar_u, rMov_fz, rMov_ol, rMov_oi, rTruS_some, rAnd_t, rAnd_f, rOr_t, rOr_f, rNot_s, rFldS_some, rIxS_some, rIxS2_some, rCallS_some, rCallR_some, rCallR2_ok, rCallR3_ok, rSlS_some, rSlS2_some, rCat_some, rCat2_some, rMt_some, rMt2_some, rMt3_some, rPart_some, retF_ok, isBl_bl, asInt_int, fOne_ap, fTwo_ap, aName_ap, RE.bind_ok, RE.toS_ok, RS.then_nx, RS.then_rt, RS.then_bk, RS.then_ct, turnS_nx, turnS_ct, turnS_bk, turnS_rt, opt_some, optO_some, optT_some, frz_ol, frz_fzd, frz_oi, List.getElem?_cons_zero, List.getElem?_cons_succ, List.set_cons_zero, List.set_cons_succ, List.map_cons, List.map_nil, List.length_cons, List.length_nil, List.replicate, List.cons_append, List.nil_append, Nat.reduceAdd, Nat.reduceSub, Nat.reduceLeDiff, if_true, Bool.false_eq_true, if_false, Bool.not_true, Bool.not_false, reduceIte, reduceCtorEq, run_ap, rMake_ok, rAsg_some, rM1_some, strD_str, rLc_some, rPar_two, rRng1_one, rIt_some, dIt_ap2, atI_0, atI_1, atI_2, ixN_2_0, ixN_2_1, back0_t, back0_f, ownL_z, ownL_s, rIxSet_some, Option.map_some, wipeG, h1, opt_none, RE.bind_no, RE.toS_no, fl] at e
  | some x1 =>
    cases h2 : gs.lookup f1 with
    | none => simp only [fL_cons, rFL_some, fL_nil, dSeq_ap, dIfS_ap, dSet_ap, dDrop_ap, dRet_ap, dRetN_ap, dNx_ap, dBk_ap, dCt_ap, dFor_ap, dC_ap, dVar_ap, dMov_ap, dOp_ap, dUn_ap, dOpY_ap, dCmpT_ap, dCmp_ap, dTru_ap, dTruS_ap, dAndT_ap, dOrT_ap, dNotT_ap, dIf_ap, dAnd_ap, dOr_ap, dNot_ap, aNil_ap, aCons_ap, dTup_ap, dLst_ap, dFld_ap, dFldS_ap, dIxS_ap, dCall_ap, dCallS_ap, dYes_ap, dNoP_ap, dCallF_ap, dCallR_ap, dMeth_ap, dMake_ap, dOpF_ap, dSl_ap, dSlS_ap, dPart_ap, dAsg_ap, dMt_ap, aIxS_ap, rIxA_some, rIxB_ok, dFldSet_ap, rFSet_some, ownI_z, ownI_s, dCatS_ap, dPar_ap, dM1_ap, dLc_ap, dRng1_ap, rVar_u, rMov_fz, rMov_ol, rMov_oi, rTruS_some, rAnd_t, rAnd_f, rOr_t, rOr_f, rNot_s, rFldS_some, rIxS_some, rIxS2_some, rCallS_some, rCallR_some, rCallR2_ok, rCallR3_ok, rSlS_some, rSlS2_some, rCat_some, rCat2_some, rMt_some, rMt2_some, rMt3_some, rPart_some, retF_ok, isBl_bl, asInt_int, fOne_ap, fTwo_ap, aName_ap, RE.bind_ok, RE.toS_ok, RS.then_nx, RS.then_rt, RS.then_bk, RS.then_ct, turnS_nx, turnS_ct, turnS_bk, turnS_rt, opt_some, optO_some, optT_some, frz_ol, frz_fzd, frz_oi, List.getElem?_cons_zero, List.getElem?_cons_succ, List.set_cons_zero, List.set_cons_succ, List.map_cons, List.map_nil, List.length_cons, List.length_nil, List.replicate, List.cons_append, List.nil_append, Nat.reduceAdd, Nat.reduceSub, Nat.reduceLeDiff, if_true, Bool.false_eq_true, if_false, Bool.not_true, Bool.not_false, reduceIte, reduceCtorEq, run_ap, rMake_ok, rAsg_some, rM1_some, strD_str, rLc_some, rPar_two, rRng1_one, rIt_some, dIt_ap2, atI_0, atI_1, atI_2, ixN_2_0, ixN_2_1, back0_t, back0_f, ownL_z, ownL_s, rIxSet_some, Option.map_some, wipeG, h1, h2, opt_none, RE.bind_no, RE.toS_no, fl] at e
    | some y1 =>
      cases h3 : ψ1 x1 y1 with
      | none => simp only [fL_cons, rFL_some, fL_nil, dSeq_ap, dIfS_ap, dSet_ap, dDrop_ap, dRet_ap, dRetN_ap, dNx_ap, dBk_ap, dCt_ap, dFor_ap, dC_ap, dVar_ap, dMov_ap, dOp_ap, dUn_ap, dOpY_ap, dCmpT_ap, dCmp_ap, dTru_ap, dTruS_ap, dAndT_ap, dOrT_ap, dNotT_ap, dIf_ap, dAnd_ap, dOr_ap, dNot_ap, aNil_ap, aCons_ap, dTup_ap, dLst_ap, dFld_ap, dFldS_ap, dIxS_ap, dCall_ap, dCallS_ap, dYes_ap, dNoP_ap, dCallF_ap, dCallR_ap, dMeth_ap, dMake_ap, dOpF_ap, dSl_ap, dSlS_ap, dPart_ap, dAsg_ap, dMt_ap, aIxS_ap, rIxA_some, rIxB_ok, dFldSet_ap, rFSet_some, ownI_z, ownI_s, dCatS_ap, dPar_ap, dM1_ap, dLc_ap, dRng1_ap, rVar_u, rMov_fz, rMov_ol, rMov_oi, rTruS_some, rAnd_t, rAnd_f, rOr_t, rOr_f, rNot_s, rFldS_some, rIxS_some, rIxS2_some, rCallS_some, rCallR_some, rCallR2_ok, rCallR3_ok, rSlS_some, rSlS2_some, rCat_some, rCat2_some, rMt_some, rMt2_some, rMt3_some, rPart_some, retF_ok, isBl_bl, asInt_int, fOne_ap, fTwo_ap, aName_ap, RE.bind_ok, RE.toS_ok, RS.then_nx, RS.then_rt, RS.then_bk, RS.then_ct, turnS_nx, turnS_ct, turnS_bk, turnS_rt, opt_some, optO_some, optT_some, frz_ol, frz_fzd, frz_oi, List.getElem?_cons_zero, List.getElem?_cons_succ, List.set_cons_zero, List.set_cons_succ, List.map_cons, List.map_nil, List.length_cons, List.length_nil, List.replicate, List.cons_append, List.nil_append, Nat.reduceAdd, Nat.reduceSub, Nat.reduceLeDiff, if_true, Bool.false_eq_true, if_false, Bool.not_true, Bool.not_false, reduceIte, reduceCtorEq, run_ap, rMake_ok, rAsg_some, rM1_some, strD_str, rLc_some, rPar_two, rRng1_one, rIt_some, dIt_ap2, atI_0, atI_1, atI_2, ixN_2_0, ixN_2_1, back0_t, back0_f, ownL_z, ownL_s, rIxSet_some, Option.map_some, wipeG, h1, h2, h3, opt_none, optT_none, RE.bind_no, RE.toS_no, fl] at e
      | some b1 =>
        refine ⟨x1, y1, b1, rfl, rfl, h3, fun hb => ?_⟩
        subst hb
        cases k1 : fs.lookup f2 with
        | none => simp only [fL_cons, rFL_some, fL_nil, dSeq_ap, dIfS_ap, dSet_ap, dDrop_ap, dRet_ap, dRetN_ap, dNx_ap, dBk_ap, dCt_ap, dFor_ap, dC_ap, dVar_ap, dMov_ap, dOp_ap, dUn_ap, dOpY_ap, dCmpT_ap, dCmp_ap, dTru_ap, dTruS_ap, dAndT_ap, dOrT_ap, dNotT_ap, dIf_ap, dAnd_ap, dOr_ap, dNot_ap, aNil_ap, aCons_ap, dTup_ap, dLst_ap, dFld_ap, dFldS_ap, dIxS_ap, dCall_ap, dCallS_ap, dYes_ap, dNoP_ap, dCallF_ap, dCallR_ap, dMeth_ap, dMake_ap, dOpF_ap, dSl_ap, dSlS_ap, dPart_ap, dAsg_ap, dMt_ap, aIxS_ap, rIxA_some, rIxB_ok, dFldSet_ap, rFSet_some, ownI_z, ownI_s, dCatS_ap, dPar_ap, dM1_ap, dLc_ap, dRng1_ap, rVar_u, rMov_fz, rMov_ol, rMov_oi, rTruS_some, rAnd_t, rAnd_f, rOr_t, rOr_f, rNot_s, rFldS_some, rIxS_some, rIxS2_some, rCallS_some, rCallR_some, rCallR2_ok, rCallR3_ok, rSlS_some, rSlS2_some, rCat_some, rCat2_some, rMt_some, rMt2_some, rMt3_some, rPart_some, retF_ok, isBl_bl, asInt_int, fOne_ap, fTwo_ap, aName_ap, RE.bind_ok, RE.toS_ok, RS.then_nx, RS.then_rt, RS.then_bk, RS.then_ct, turnS_nx, turnS_ct, turnS_bk, turnS_rt, opt_some, optO_some, optT_some, frz_ol, frz_fzd, frz_oi, List.getElem?_cons_zero, List.getElem?_cons_succ, List.set_cons_zero, List.set_cons_succ, List.map_cons, List.map_nil, List.length_cons, List.length_nil, List.replicate, List.cons_append, List.nil_append, Nat.reduceAdd, Nat.reduceSub, Nat.reduceLeDiff, if_true, Bool.false_eq_true, if_false, Bool.not_true, Bool.not_false, reduceIte, reduceCtorEq, run_ap, rMake_ok, rAsg_some, rM1_some, strD_str, rLc_some, rPar_two, rRng1_one, rIt_some, dIt_ap2, atI_0, atI_1, atI_2, ixN_2_0, ixN_2_1, back0_t, back0_f, ownL_z, ownL_s, rIxSet_some, Option.map_some, wipeG, h1, h2, h3, k1, opt_none, optT_none, RE.bind_no, RE.toS_no, fl] at e
        | some x2 =>
          cases k2 : gs.lookup f2 with
          | none => simp only [fL_cons, rFL_some, fL_nil, dSeq_ap, dIfS_ap, dSet_ap, dDrop_ap, dRet_ap, dRetN_ap, dNx_ap, dBk_ap, dCt_ap, dFor_ap, dC_ap, dVar_ap, dMov_ap, dOp_ap, dUn_ap, dOpY_ap, dCmpT_ap, dCmp_ap, dTru_ap, dTruS_ap, dAndT_ap, dOrT_ap, dNotT_ap, dIf_ap, dAnd_ap, dOr_ap, dNot_ap, aNil_ap, aCons_ap, dTup_ap, dLst_ap, dFld_ap, dFldS_ap, dIxS_ap, dCall_ap, dCallS_ap, dYes_ap, dNoP_ap, dCallF_ap, dCallR_ap, dMeth_ap, dMake_ap, dOpF_ap, dSl_ap, dSlS_ap, dPart_ap, dAsg_ap, dMt_ap, aIxS_ap, rIxA_some, rIxB_ok, dFldSet_ap, rFSet_some, ownI_z, ownI_s, dCatS_ap, dPar_ap, dM1_ap, dLc_ap, dRng1_ap, rVar_u, rMov_fz, rMov_ol, rMov_oi, rTruS_some, rAnd_t, rAnd_f, rOr_t, rOr_f, rNot_s, rFldS_some, rIxS_some, rIxS2_some, rCallS_some, rCallR_some, rCallR2_ok, rCallR3_ok, rSlS_some, rSlS2_some, rCat_some, rCat2_some, rMt_some, rMt2_some, rMt3_some, rPart_some, retF_ok, isBl_bl, asInt_int, fOne_ap, fTwo_ap, aName_ap, RE.bind_ok, RE.toS_ok, RS.then_nx, RS.then_rt, RS.then_bk, RS.then_ct, turnS_nx, turnS_ct, turnS_bk, turnS_rt, opt_some, optO_some, optT_some, frz_ol, frz_fzd, frz_oi, List.getElem?_cons_zero, List.getElem?_cons_succ, List.set_cons_zero, List.set_cons_succ, List.map_cons, List.map_nil, List.length_cons, List.length_nil, List.replicate, List.cons_append, List.nil_append, Nat.reduceAdd, Nat.reduceSub, Nat.reduceLeDiff, if_true, Bool.false_eq_true, if_false, Bool.not_true, Bool.not_false, reduceIte, reduceCtorEq, run_ap, rMake_ok, rAsg_some, rM1_some, strD_str, rLc_some, rPar_two, rRng1_one, rIt_some, dIt_ap2, atI_0, atI_1, atI_2, ixN_2_0, ixN_2_1, back0_t, back0_f, ownL_z, ownL_s, rIxSet_some, Option.map_some, wipeG, h1, h2, h3, k1, k2, opt_none, optT_none, RE.bind_no, RE.toS_no, fl] at e
          | some y2 =>
            cases k3 : ψ2 x2 y2 with
            | none => simp only [fL_cons, rFL_some, fL_nil, dSeq_ap, dIfS_ap, dSet_ap, dDrop_ap, dRet_ap, dRetN_ap, dNx_ap, dBk_ap, dCt_ap, dFor_ap, dC_ap, dVar_ap, dMov_ap, dOp_ap, dUn_ap, dOpY_ap, dCmpT_ap, dCmp_ap, dTru_ap, dTruS_ap, dAndT_ap, dOrT_ap, dNotT_ap, dIf_ap, dAnd_ap, dOr_ap, dNot_ap, aNil_ap, aCons_ap, dTup_ap, dLst_ap, dFld_ap, dFldS_ap, dIxS_ap, dCall_ap, dCallS_ap, dYes_ap, dNoP_ap, dCallF_ap, dCallR_ap, dMeth_ap, dMake_ap, dOpF_ap, dSl_ap, dSlS_ap, dPart_ap, dAsg_ap, dMt_ap, aIxS_ap, rIxA_some, rIxB_ok, dFldSet_ap, rFSet_some, ownI_z, ownI_s, dCatS_ap, dPar_ap, dM1_ap, dLc_ap, dRng1_ap, rVar_u, rMov_fz, rMov_ol, rMov_oi, rTruS_some, rAnd_t, rAnd_f, rOr_t, rOr_f, rNot_s, rFldS_some, rIxS_some, rIxS2_some, rCallS_some, rCallR_some, rCallR2_ok, rCallR3_ok, rSlS_some, rSlS2_some, rCat_some, rCat2_some, rMt_some, rMt2_some, rMt3_some, rPart_some, retF_ok, isBl_bl, asInt_int, fOne_ap, fTwo_ap, aName_ap, RE.bind_ok, RE.toS_ok, RS.then_nx, RS.then_rt, RS.then_bk, RS.then_ct, turnS_nx, turnS_ct, turnS_bk, turnS_rt, opt_some, optO_some, optT_some, frz_ol, frz_fzd, frz_oi, List.getElem?_cons_zero, List.getElem?_cons_succ, List.set_cons_zero, List.set_cons_succ, List.map_cons, List.map_nil, List.length_cons, List.length_nil, List.replicate, List.cons_append, List.nil_append, Nat.reduceAdd, Nat.reduceSub, Nat.reduceLeDiff, if_true, Bool.false_eq_true, if_false, Bool.not_true, Bool.not_false, reduceIte, reduceCtorEq, run_ap, rMake_ok, rAsg_some, rM1_some, strD_str, rLc_some, rPar_two, rRng1_one, rIt_some, dIt_ap2, atI_0, atI_1, atI_2, ixN_2_0, ixN_2_1, back0_t, back0_f, ownL_z, ownL_s, rIxSet_some, Option.map_some, wipeG, h1, h2, h3, k1, k2, k3, opt_none, optT_none, RE.bind_no, RE.toS_no, fl] at e
            | some b2 =>
              simp only [fL_cons, rFL_some, fL_nil, dSeq_ap, dIfS_ap, dSet_ap, dDrop_ap, dRet_ap, dRetN_ap, dNx_ap, dBk_ap, dCt_ap, dFor_ap, dC_ap, dVar_ap, dMov_ap, dOp_ap, dUn_ap, dOpY_ap, dCmpT_ap, dCmp_ap, dTru_ap, dTruS_ap, dAndT_ap, dOrT_ap, dNotT_ap, dIf_ap, dAnd_ap, dOr_ap, dNot_ap, aNil_ap, aCons_ap, dTup_ap, dLst_ap, dFld_ap, dFldS_ap, dIxS_ap, dCall_ap, dCallS_ap, dYes_ap, dNoP_ap, dCallF_ap, dCallR_ap, dMeth_ap, dMake_ap, dOpF_ap, dSl_ap, dSlS_ap, dPart_ap, dAsg_ap, dMt_ap, aIxS_ap, rIxA_some, rIxB_ok, dFldSet_ap, rFSet_some, ownI_z, ownI_s, dCatS_ap, dPar_ap, dM1_ap, dLc_ap, dRng1_ap, rVar_u, rMov_fz, rMov_ol, rMov_oi, rTruS_some, rAnd_t, rAnd_f, rOr_t, rOr_f, rNot_s, rFldS_some, rIxS_some, rIxS2_some, rCallS_some, rCallR_some, rCallR2_ok, rCallR3_ok, rSlS_some, rSlS2_some, rCat_some, rCat2_some, rMt_some, rMt2_some, rMt3_some, rPart_some, retF_ok, isBl_bl, asInt_int, fOne_ap, fTwo_ap, aName_ap, RE.bind_ok, RE.toS_ok, RS.then_nx, RS.then_rt, RS.then_bk, RS.then_ct, turnS_nx, turnS_ct, turnS_bk, turnS_rt, opt_some, optO_some, optT_some, frz_ol, frz_fzd, frz_oi, List.getElem?_cons_zero, List.getElem?_cons_succ, List.set_cons_zero, List.set_cons_succ, List.map_cons, List.map_nil, List.length_cons, List.length_nil, List.replicate, List.cons_append, List.nil_append, Nat.reduceAdd, Nat.reduceSub, Nat.reduceLeDiff, if_true, Bool.false_eq_true, if_false, Bool.not_true, Bool.not_false, reduceIte, reduceCtorEq, run_ap, rMake_ok, rAsg_some, rM1_some, strD_str, rLc_some, rPar_two, rRng1_one, rIt_some, dIt_ap2, atI_0, atI_1, atI_2, ixN_2_0, ixN_2_1, back0_t, back0_f, ownL_z, ownL_s, rIxSet_some, Option.map_some, wipeG, h1, h2, h3, k1, k2, k3, opt_none, optT_none, RE.bind_no, RE.toS_no, fl] at e
              cases e
              exact ⟨x2, y2, rfl, rfl, k3⟩
theorem rfl_two {C : Addr} {κ : Value → Value → Option Bool} {f1 f2 : Str} {ψ1 ψ2 : DQ} (hi : ∀ gs, isiD κ (.ins C gs) (.adr C) = some (.fz (.bl true))) (h1 : Rfl K ψ1) (h2 : Rfl K ψ2) :
    Rfl K (owD C (nfD κ C) (runD 2 false (dRet (dAnd (dCall (fTwo (isiD κ)) (aCons (dVar 1) (aCons (dC (.adr C)) (aNil)))) (dAnd (dCmp ψ1 (dFldS [C] f1 0) (dFldS [C] f1 1)) (dCmp ψ2 (dFldS [C] f2 0) (dFldS [C] f2 1))))))) :=
  rfl_ow fun Hf v fs gs b u r1 r2 e => by
    cases r1 with
    | ins a1 a2 a3 =>
      cases r2 with
      | ins b1 b2 b3 =>
        rw [a1] at b1
        cases b1
        obtain ⟨x1, y1, q, e1, e2, e3, e4⟩ := eq_two (hi gs) e
        have look : ∀ {f : Str} {x y : D}, fs.lookup f = some x → gs.lookup f = some y → ∃ v, RepF K Hf x v ∧ RepF K Hf y v := fun {f x y} l1 l2 => by
          obtain ⟨v1, m1, n1⟩ := RepKs.look ⟨a2, a3⟩ l1
          obtain ⟨v2, m2, n2⟩ := RepKs.look ⟨b2, b3⟩ l2
          rw [m1] at m2
          cases m2
          exact ⟨_, n1, n2⟩
        obtain ⟨v, p1, p2⟩ := look e1 e2
        have hq := h1 Hf v x1 y1 q p1 p2 e3
        obtain ⟨x2, y2, f1, f2, f3⟩ := e4 hq
        obtain ⟨w, p3, p4⟩ := look f1 f2
        exact h2 Hf w x2 y2 b p3 p4 f3
theorem rfl_Ratio (c : Cs) : Rfl K (owD c.Ratio (nfD (kit c) c.Ratio) (F_Ratio_eq c)) := rfl_two (fun gs => by simp [isiD, tyD, clD, kit]) rfl_cEq rfl_cEq
theorem rfl_Expression (c : Cs) : ∀ k, Rfl K (owD c.Expression (nfD (kit c) c.Expression) (F_Expression_eq c k))
  | 0 => rfl_ow fun Hf v fs gs b u r1 r2 e => by
    have e : RF.no = .ok (.fz (.bl b)) u := e
    cases e
  | k + 1 => rfl_two (fun gs => by simp [isiD, tyD, clD, kit]) rfl_cEq (rfl_cEqA (rfl_tup (rfl_el (rfl_or (rfl_Expression c k) (rfl_Ratio c)))))
end
end K77
end

section
namespace K77
open PySem L2 L3
variable (c : Cs)
/-! ### the state of the draws -/
theorem mulOk_small {i j : Int} (hi : i.natAbs < 2 ^ 1100000) (hj : j.natAbs < 2 ^ 1100000) : mulOk i j = true := by
  have l : ∀ x : Int, x.natAbs < 2 ^ 1100000 → x.natAbs.log2 < 1100001 := fun x h => by
    by_cases h0 : x.natAbs = 0
    · rw [h0]; simp
    · have := (Nat.log2_lt h0).mpr h; omega
  have h1 := l i hi
  have h2 := l j hj
  unfold mulOk
  exact decide_eq_true (by omega)
theorem take_ok {a b m : Int} (ha : 0 ≤ a) (hb : 0 ≤ b) (hb2 : b < 2147483647) (hm : 0 < m) (hm2 : m < 1000000000) :
    ∃ v a' b', F_xlaw_take c [.ol [.int a, .int b], .fz (.int m)] = .ok (.fz (.int v)) (some (.ol [.int a', .int b'])) ∧ 0 ≤ v ∧ v < m ∧ 0 ≤ a' ∧ 0 ≤ b' ∧ b' < 2147483647 := by
  have hd : divOk m = true := by
    have h0 : m.natAbs ≠ 0 := by omega
    have : m.natAbs.log2 < 9000 := by
      have := (Nat.log2_lt h0).mpr (show m.natAbs < 2 ^ 9000 from Nat.lt_of_lt_of_le (show m.natAbs < 2 ^ 30 by omega) (Nat.pow_le_pow_right (by omega) (by omega)))
      omega
    unfold divOk
    simp only [Bool.and_eq_true, decide_eq_true_eq]
    exact ⟨by omega, this⟩
  have hd7 : divOk 7 = true := by decide
  have hm0 : m ≠ 0 := by omega
  have hmul : mulOk b 48271 = true := mulOk_small (Nat.lt_of_lt_of_le (show b.natAbs < 2 ^ 31 by omega) (Nat.pow_le_pow_right (by omega) (by omega))) (Nat.lt_of_lt_of_le (show (48271 : Int).natAbs < 2 ^ 31 by decide) (Nat.pow_le_pow_right (by omega) (by omega)))
  by_cases h : 0 < a
  · refine ⟨a.fmod m, a.fdiv m, b, ?_, Int.fmod_nonneg_of_pos _ hm, Int.fmod_lt_of_pos _ hm, Int.fdiv_nonneg (by omega) (by omega), hb, hb2⟩
    simp only [F_xlaw_take, m_xlaw_take, fL_cons, rFL_some, fL_nil, dSeq_ap, dIfS_ap, dSet_ap, dDrop_ap, dRet_ap, dRetN_ap, dNx_ap, dBk_ap, dCt_ap, dFor_ap, dC_ap, dVar_ap, dMov_ap, dOp_ap, dUn_ap, dOpY_ap, dCmpT_ap, dCmp_ap, dTru_ap, dTruS_ap, dAndT_ap, dOrT_ap, dNotT_ap, dIf_ap, dAnd_ap, dOr_ap, dNot_ap, aNil_ap, aCons_ap, dTup_ap, dLst_ap, dFld_ap, dFldS_ap, dIxS_ap, dCall_ap, dCallS_ap, dYes_ap, dNoP_ap, dCallF_ap, dCallR_ap, dMeth_ap, dMake_ap, dOpF_ap, dSl_ap, dSlS_ap, dPart_ap, dAsg_ap, dMt_ap, aIxS_ap, rIxA_some, rIxB_ok, dFldSet_ap, rFSet_some, ownI_z, ownI_s, dCatS_ap, dPar_ap, dM1_ap, dLc_ap, dRng1_ap, rVar_u, rMov_fz, rMov_ol, rMov_oi, rTruS_some, rAnd_t, rAnd_f, rOr_t, rOr_f, rNot_s, rFldS_some, rIxS_some, rIxS2_some, rCallS_some, rCallR_some, rCallR2_ok, rCallR3_ok, rSlS_some, rSlS2_some, rCat_some, rCat2_some, rMt_some, rMt2_some, rMt3_some, rPart_some, retF_ok, isBl_bl, asInt_int, fOne_ap, fTwo_ap, aName_ap, RE.bind_ok, RE.toS_ok, RS.then_nx, RS.then_rt, RS.then_bk, RS.then_ct, turnS_nx, turnS_ct, turnS_bk, turnS_rt, opt_some, optO_some, optT_some, frz_ol, frz_fzd, frz_oi, List.getElem?_cons_zero, List.getElem?_cons_succ, List.set_cons_zero, List.set_cons_succ, List.map_cons, List.map_nil, List.length_cons, List.length_nil, List.replicate, List.cons_append, List.nil_append, Nat.reduceAdd, Nat.reduceSub, Nat.reduceLeDiff, if_true, Bool.false_eq_true, if_false, Bool.not_true, Bool.not_false, reduceIte, reduceCtorEq, run_ap, rMake_ok, rAsg_some, rM1_some, strD_str, rLc_some, rPar_two, rRng1_one, rIt_some, dIt_ap2, atI_0, atI_1, atI_2, ixN_2_0, ixN_2_1, back0_t, back0_f, ownL_z, ownL_s, rIxSet_some, Option.map_some, wipeG, fIx, cGt, h, decide_true, fInt1D, fMod, fDiv, hm0, ne_eq, not_false_eq_true, hd]
  · have e0 : (0 : Int) < 2147483647 := by decide
    have p0 : (0 : Int) < 7 := by decide
    refine ⟨((b * 48271 + 11).fmod 2147483647).fdiv 7 |>.fmod m, a, (b * 48271 + 11).fmod 2147483647, ?_, Int.fmod_nonneg_of_pos _ hm, Int.fmod_lt_of_pos _ hm, ha, Int.fmod_nonneg_of_pos _ e0, Int.fmod_lt_of_pos _ e0⟩
    have q0 : (2147483647 : Int) ≠ 0 := by decide
    simp only [F_xlaw_take, m_xlaw_take, fL_cons, rFL_some, fL_nil, dSeq_ap, dIfS_ap, dSet_ap, dDrop_ap, dRet_ap, dRetN_ap, dNx_ap, dBk_ap, dCt_ap, dFor_ap, dC_ap, dVar_ap, dMov_ap, dOp_ap, dUn_ap, dOpY_ap, dCmpT_ap, dCmp_ap, dTru_ap, dTruS_ap, dAndT_ap, dOrT_ap, dNotT_ap, dIf_ap, dAnd_ap, dOr_ap, dNot_ap, aNil_ap, aCons_ap, dTup_ap, dLst_ap, dFld_ap, dFldS_ap, dIxS_ap, dCall_ap, dCallS_ap, dYes_ap, dNoP_ap, dCallF_ap, dCallR_ap, dMeth_ap, dMake_ap, dOpF_ap, dSl_ap, dSlS_ap, dPart_ap, dAsg_ap, dMt_ap, aIxS_ap, rIxA_some, rIxB_ok, dFldSet_ap, rFSet_some, ownI_z, ownI_s, dCatS_ap, dPar_ap, dM1_ap, dLc_ap, dRng1_ap, rVar_u, rMov_fz, rMov_ol, rMov_oi, rTruS_some, rAnd_t, rAnd_f, rOr_t, rOr_f, rNot_s, rFldS_some, rIxS_some, rIxS2_some, rCallS_some, rCallR_some, rCallR2_ok, rCallR3_ok, rSlS_some, rSlS2_some, rCat_some, rCat2_some, rMt_some, rMt2_some, rMt3_some, rPart_some, retF_ok, isBl_bl, asInt_int, fOne_ap, fTwo_ap, aName_ap, RE.bind_ok, RE.toS_ok, RS.then_nx, RS.then_rt, RS.then_bk, RS.then_ct, turnS_nx, turnS_ct, turnS_bk, turnS_rt, opt_some, optO_some, optT_some, frz_ol, frz_fzd, frz_oi, List.getElem?_cons_zero, List.getElem?_cons_succ, List.set_cons_zero, List.set_cons_succ, List.map_cons, List.map_nil, List.length_cons, List.length_nil, List.replicate, List.cons_append, List.nil_append, Nat.reduceAdd, Nat.reduceSub, Nat.reduceLeDiff, if_true, Bool.false_eq_true, if_false, Bool.not_true, Bool.not_false, reduceIte, reduceCtorEq, run_ap, rMake_ok, rAsg_some, rM1_some, strD_str, rLc_some, rPar_two, rRng1_one, rIt_some, dIt_ap2, atI_0, atI_1, atI_2, ixN_2_0, ixN_2_1, back0_t, back0_f, ownL_z, ownL_s, rIxSet_some, Option.map_some, wipeG, fIx, cGt, h, decide_false, fInt1D, fMod, fDiv, fAdd, fMul, hmul, hm0, ne_eq, not_false_eq_true, hd7, q0]

/-! ### expressions as trees -/
inductive Tr where
  | num (n d : Int) | let_ (a : Str) | star (e : Tr) | rev (e : Tr) | left (w : Str) (e : Tr) | right (w : Str) (e : Tr) | sum (a b : Tr) | prod (a b : Tr) | both (a b : Tr) | shuf (a b : Tr)
def Tr.kind : Tr → Str
  | .num _ _ => "number" | .let_ _ => "letter" | .star _ => "star" | .rev _ => "reverse" | .left _ _ => "left" | .right _ _ => "right" | .sum _ _ => "sum" | .prod _ _ => "product" | .both _ _ => "both" | .shuf _ _ => "shuffle"
def sN : Str := "n"
def sD : Str := "d"
def ratFs (n d : Int) : List (Str × D) := [(sN, .int n), (sD, .int d)]
def ratD (n d : Int) : D := .ins c.Ratio (ratFs n d)
def sKind : Str := "kind"
def sParts : Str := "parts"
def exFs (k : Str) (ps : List D) : List (Str × D) := [(sKind, .str k), (sParts, .tup ps)]
def exD (k : Str) (ps : List D) : D := .ins c.Expression (exFs k ps)
def Tr.toD : Tr → D
  | .num n d => exD c "number" [ratD c n d]
  | .let_ a => exD c "letter" [.str a]
  | .star e => exD c "star" [e.toD]
  | .rev e => exD c "reverse" [e.toD]
  | .left w e => exD c "left" [.str w, e.toD]
  | .right w e => exD c "right" [.str w, e.toD]
  | .sum a b => exD c "sum" [a.toD, b.toD]
  | .prod a b => exD c "product" [a.toD, b.toD]
  | .both a b => exD c "both" [a.toD, b.toD]
  | .shuf a b => exD c "shuffle" [a.toD, b.toD]
def Tr.kids : Tr → List Tr
  | .num _ _ => [] | .let_ _ => [] | .star e => [e] | .rev e => [e] | .left _ e => [e] | .right _ e => [e] | .sum a b => [a, b] | .prod a b => [a, b] | .both a b => [a, b] | .shuf a b => [a, b]
def Tr.cnt : Tr → Nat
  | .num _ _ => 1 | .let_ _ => 1 | .star e => 1 + e.cnt | .rev e => 1 + e.cnt | .left _ e => 1 + e.cnt | .right _ e => 1 + e.cnt | .sum a b => 1 + a.cnt + b.cnt | .prod a b => 1 + a.cnt + b.cnt | .both a b => 1 + a.cnt + b.cnt | .shuf a b => 1 + a.cnt + b.cnt
def Tr.dep : Tr → Nat
  | .num _ _ => 1 | .let_ _ => 1 | .star e => 1 + e.dep | .rev e => 1 + e.dep | .left _ e => 1 + e.dep | .right _ e => 1 + e.dep | .sum a b => 1 + max a.dep b.dep | .prod a b => 1 + max a.dep b.dep | .both a b => 1 + max a.dep b.dep | .shuf a b => 1 + max a.dep b.dep
theorem Tr.toD_ex (t : Tr) : ∃ ps, t.toD c = exD c t.kind ps := by cases t <;> exact ⟨_, rfl⟩
theorem look_kind (k : Str) (ps : List D) : (exFs k ps).lookup sKind = some (.str k) := by
  unfold exFs
  rw [List.lookup_cons, show (sKind == sKind) = true by decide +kernel]
theorem look_parts (k : Str) (ps : List D) : (exFs k ps).lookup sParts = some (.tup ps) := by
  unfold exFs
  rw [List.lookup_cons, show (sParts == sKind) = false by decide +kernel, List.lookup_cons, show (sParts == sParts) = true by decide +kernel]
theorem fld_kind (k : Str) (ps : List D) : fldD [c.Expression] "kind" (exD c k ps) = some (.str k) := by
  show (if c.Expression ∈ [c.Expression] then (exFs k ps).lookup sKind else none) = _
  rw [if_pos (by simp)]; exact look_kind k ps
theorem fld_parts (k : Str) (ps : List D) : fldD [c.Expression] "parts" (exD c k ps) = some (.tup ps) := by
  show (if c.Expression ∈ [c.Expression] then (exFs k ps).lookup sParts else none) = _
  rw [if_pos (by simp)]; exact look_parts k ps
theorem cut_none {xs : List D} (n : Nat) : cutD xs none (some (n : Int)) = xs.take n := by
  unfold cutD
  rw [HT.sIx_none, HT.sIx_nat]
  simp only [List.drop_zero, Nat.sub_zero]
  rcases Nat.le_total n xs.length with h | h
  · rw [Nat.min_eq_left h]
  · rw [Nat.min_eq_right h, List.take_of_length_le (Nat.le_refl _), List.take_of_length_le h]
/-! ### __init__, and what makes expressions -/
theorem put0 (f : Str) (d : D) : putD f d [] = [(f, d)] := rfl
theorem put_ex (k : Str) (ps : D) : putD sParts ps [(sKind, .str k)] = [(sKind, .str k), (sParts, ps)] := by
  show (if sKind = sParts then _ else _) = _
  rw [if_neg (by decide +kernel)]
  rfl
theorem init_ex (k : Str) (ps : List D) : F_Expression_init c [.oi c.Expression [], .fz (.str k), .fz (.tup ps)] = .ok (.fz .non) (some (.oi c.Expression (exFs k ps))) := by
  simp only [F_Expression_init, m_Expression_init, fL_cons, rFL_some, fL_nil, dSeq_ap, dIfS_ap, dSet_ap, dDrop_ap, dRet_ap, dRetN_ap, dNx_ap, dBk_ap, dCt_ap, dFor_ap, dC_ap, dVar_ap, dMov_ap, dOp_ap, dUn_ap, dOpY_ap, dCmpT_ap, dCmp_ap, dTru_ap, dTruS_ap, dAndT_ap, dOrT_ap, dNotT_ap, dIf_ap, dAnd_ap, dOr_ap, dNot_ap, aNil_ap, aCons_ap, dTup_ap, dLst_ap, dFld_ap, dFldS_ap, dIxS_ap, dCall_ap, dCallS_ap, dYes_ap, dNoP_ap, dCallF_ap, dCallR_ap, dMeth_ap, dMake_ap, dOpF_ap, dSl_ap, dSlS_ap, dPart_ap, dAsg_ap, dMt_ap, aIxS_ap, rIxA_some, rIxB_ok, dFldSet_ap, rFSet_some, ownI_z, ownI_s, dCatS_ap, dPar_ap, dM1_ap, dLc_ap, dRng1_ap, rVar_u, rMov_fz, rMov_ol, rMov_oi, rTruS_some, rAnd_t, rAnd_f, rOr_t, rOr_f, rNot_s, rFldS_some, rIxS_some, rIxS2_some, rCallS_some, rCallR_some, rCallR2_ok, rCallR3_ok, rSlS_some, rSlS2_some, rCat_some, rCat2_some, rMt_some, rMt2_some, rMt3_some, rPart_some, retF_ok, isBl_bl, asInt_int, fOne_ap, fTwo_ap, aName_ap, RE.bind_ok, RE.toS_ok, RS.then_nx, RS.then_rt, RS.then_bk, RS.then_ct, turnS_nx, turnS_ct, turnS_bk, turnS_rt, opt_some, optO_some, optT_some, frz_ol, frz_fzd, frz_oi, List.getElem?_cons_zero, List.getElem?_cons_succ, List.set_cons_zero, List.set_cons_succ, List.map_cons, List.map_nil, List.length_cons, List.length_nil, List.replicate, List.cons_append, List.nil_append, Nat.reduceAdd, Nat.reduceSub, Nat.reduceLeDiff, if_true, Bool.false_eq_true, if_false, Bool.not_true, Bool.not_false, reduceIte, reduceCtorEq, run_ap, rMake_ok, rAsg_some, rM1_some, strD_str, rLc_some, rPar_two, rRng1_one, rIt_some, dIt_ap2, atI_0, atI_1, atI_2, ixN_2_0, ixN_2_1, back0_t, back0_f, ownL_z, ownL_s, rIxSet_some, Option.map_some, wipeG, put0, show ("kind" : Str) = sKind from rfl, show ("parts" : Str) = sParts from rfl, put_ex, List.mem_singleton, true_and, show (0 : Nat) < 1000 by omega, show (1 : Nat) < 1000 by omega]
  rfl

/-! ### isinstance -/
theorem isi_str (z : Str) : isiD (kit c) (.str z) (.ty "str") = some (.fz (.bl true)) := by simp [isiD, tyD, clD, kit, tys]
theorem isi_bool (b : Bool) : isiD (kit c) (.bl b) (.ty "bool") = some (.fz (.bl true)) := by simp [isiD, tyD, clD, kit, tys]
theorem isi_E (fs : List (Str × D)) : isiD (kit c) (.ins c.Expression fs) (.adr c.Expression) = some (.fz (.bl true)) := by simp [isiD, tyD, clD, kit]
theorem isi_Es (z : Str) : isiD (kit c) (.str z) (.adr c.Expression) = some (.fz (.bl false)) := by simp [isiD, tyD, clD, kit, tys]
theorem isi_R (fs : List (Str × D)) : isiD (kit c) (.ins c.Ratio fs) (.adr c.Ratio) = some (.fz (.bl true)) := by simp [isiD, tyD, clD, kit]
/-! ### short words -/
def SMALL : Str := "abcdefghijklmnopqrstuvwxyz"
def Short (z : Str) : Prop := 1 ≤ z.length ∧ z.length ≤ 8 ∧ ∀ ch ∈ z.cps.toList, ch ∈ SMALL.cps.toList
theorem oneC_one (n : Nat) : oneC ⟨#[n]⟩ = some n := rfl
theorem allD_bl : ∀ n : Nat, allD blD (List.replicate n (D.bl true)) = some (List.replicate n true)
  | 0 => rfl
  | n + 1 => by
    rw [List.replicate_succ, List.replicate_succ]
    unfold allD
    rw [allD_bl n]; rfl
theorem short_len {z : Str} (h : Short z) : z.length ≤ big := Nat.le_trans h.2.1 (by decide)
theorem short_ok {z : Str} (h : Short z) : F_is_short_word c [.fz (.str z)] = .ok (.fz (.bl true)) none := by
  obtain ⟨h1, h2, h3⟩ := h
  have hb : z.length ≤ big := Nat.le_trans h2 (by decide)
  have n1 : ¬ ((z.length : Nat) : Int) < 1 := by omega
  have n2 : ¬ (8 : Int) < ((z.length : Nat) : Int) := by omega
  obtain ⟨acc, g', e1, e2, e3⟩ := cL_inv (vs := [1]) (as := aName 1) (me := ce_is_short_word_2 c) (ds := signs z) (fun i acc g => (∃ x, g = [some (.fz (.str z)), x]) ∧ acc = List.replicate i (.bl true))
    (by simp only [signs, List.length_map, Array.length_toList]; exact hb) (fun i d acc g hd ⟨⟨x, hg⟩, ha⟩ => by
      subst hg ha
      simp only [signs, List.getElem?_map, Array.getElem?_toList] at hd
      cases hq : z.cps[i]? with
      | none => rw [hq] at hd; cases hd
      | some ch =>
        rw [hq] at hd
        cases hd
        have hm : ch ∈ SMALL.cps.toList := h3 ch (by rw [Array.mem_toList_iff]; exact Array.mem_of_getElem? hq)
        refine ⟨_, .fz (.bl true), [some (.fz (.str z)), some (.fz (.str ⟨#[ch]⟩))], rfl, ?_, ⟨_, rfl⟩, ?_⟩
        · simp only [ce_is_short_word_2, fL_cons, rFL_some, fL_nil, dSeq_ap, dIfS_ap, dSet_ap, dDrop_ap, dRet_ap, dRetN_ap, dNx_ap, dBk_ap, dCt_ap, dFor_ap, dC_ap, dVar_ap, dMov_ap, dOp_ap, dUn_ap, dOpY_ap, dCmpT_ap, dCmp_ap, dTru_ap, dTruS_ap, dAndT_ap, dOrT_ap, dNotT_ap, dIf_ap, dAnd_ap, dOr_ap, dNot_ap, aNil_ap, aCons_ap, dTup_ap, dLst_ap, dFld_ap, dFldS_ap, dIxS_ap, dCall_ap, dCallS_ap, dYes_ap, dNoP_ap, dCallF_ap, dCallR_ap, dMeth_ap, dMake_ap, dOpF_ap, dSl_ap, dSlS_ap, dPart_ap, dAsg_ap, dMt_ap, aIxS_ap, rIxA_some, rIxB_ok, dFldSet_ap, rFSet_some, ownI_z, ownI_s, dCatS_ap, dPar_ap, dM1_ap, dLc_ap, dRng1_ap, rVar_u, rMov_fz, rMov_ol, rMov_oi, rTruS_some, rAnd_t, rAnd_f, rOr_t, rOr_f, rNot_s, rFldS_some, rIxS_some, rIxS2_some, rCallS_some, rCallR_some, rCallR2_ok, rCallR3_ok, rSlS_some, rSlS2_some, rCat_some, rCat2_some, rMt_some, rMt2_some, rMt3_some, rPart_some, retF_ok, isBl_bl, asInt_int, fOne_ap, fTwo_ap, aName_ap, RE.bind_ok, RE.toS_ok, RS.then_nx, RS.then_rt, RS.then_bk, RS.then_ct, turnS_nx, turnS_ct, turnS_bk, turnS_rt, opt_some, optO_some, optT_some, frz_ol, frz_fzd, frz_oi, List.getElem?_cons_zero, List.getElem?_cons_succ, List.set_cons_zero, List.set_cons_succ, List.map_cons, List.map_nil, List.length_cons, List.length_nil, List.replicate, List.cons_append, List.nil_append, Nat.reduceAdd, Nat.reduceSub, Nat.reduceLeDiff, if_true, Bool.false_eq_true, if_false, Bool.not_true, Bool.not_false, reduceIte, reduceCtorEq, run_ap, rMake_ok, rAsg_some, rM1_some, strD_str, rLc_some, rPar_two, rRng1_one, rIt_some, dIt_ap2, atI_0, atI_1, atI_2, ixN_2_0, ixN_2_1, back0_t, back0_f, ownL_z, ownL_s, rIxSet_some, Option.map_some, wipeG, cIn, oneC_one, show ("abcdefghijklmnopqrstuvwxyz" : Str) = SMALL from rfl, hm, decide_true]
        · rw [frz_fzd, List.replicate_succ']) 0 [] [some (.fz (.str z)), none] (Nat.zero_le _) rfl ⟨⟨_, rfl⟩, rfl⟩
  obtain ⟨⟨x, hg⟩, ha⟩ := e3
  rw [List.drop_zero] at e1
  subst hg
  have hall : fAllD (.lst acc) = some (.fz (.bl true)) := by
    rw [ha]
    simp only [fAllD, L3.seqL, allD_bl, Option.map_some]
    simp
  simp only [F_is_short_word, m_is_short_word, fL_cons, rFL_some, fL_nil, dSeq_ap, dIfS_ap, dSet_ap, dDrop_ap, dRet_ap, dRetN_ap, dNx_ap, dBk_ap, dCt_ap, dFor_ap, dC_ap, dVar_ap, dMov_ap, dOp_ap, dUn_ap, dOpY_ap, dCmpT_ap, dCmp_ap, dTru_ap, dTruS_ap, dAndT_ap, dOrT_ap, dNotT_ap, dIf_ap, dAnd_ap, dOr_ap, dNot_ap, aNil_ap, aCons_ap, dTup_ap, dLst_ap, dFld_ap, dFldS_ap, dIxS_ap, dCall_ap, dCallS_ap, dYes_ap, dNoP_ap, dCallF_ap, dCallR_ap, dMeth_ap, dMake_ap, dOpF_ap, dSl_ap, dSlS_ap, dPart_ap, dAsg_ap, dMt_ap, aIxS_ap, rIxA_some, rIxB_ok, dFldSet_ap, rFSet_some, ownI_z, ownI_s, dCatS_ap, dPar_ap, dM1_ap, dLc_ap, dRng1_ap, rVar_u, rMov_fz, rMov_ol, rMov_oi, rTruS_some, rAnd_t, rAnd_f, rOr_t, rOr_f, rNot_s, rFldS_some, rIxS_some, rIxS2_some, rCallS_some, rCallR_some, rCallR2_ok, rCallR3_ok, rSlS_some, rSlS2_some, rCat_some, rCat2_some, rMt_some, rMt2_some, rMt3_some, rPart_some, retF_ok, isBl_bl, asInt_int, fOne_ap, fTwo_ap, aName_ap, RE.bind_ok, RE.toS_ok, RS.then_nx, RS.then_rt, RS.then_bk, RS.then_ct, turnS_nx, turnS_ct, turnS_bk, turnS_rt, opt_some, optO_some, optT_some, frz_ol, frz_fzd, frz_oi, List.getElem?_cons_zero, List.getElem?_cons_succ, List.set_cons_zero, List.set_cons_succ, List.map_cons, List.map_nil, List.length_cons, List.length_nil, List.replicate, List.cons_append, List.nil_append, Nat.reduceAdd, Nat.reduceSub, Nat.reduceLeDiff, if_true, Bool.false_eq_true, if_false, Bool.not_true, Bool.not_false, reduceIte, reduceCtorEq, run_ap, rMake_ok, rAsg_some, rM1_some, strD_str, rLc_some, rPar_two, rRng1_one, rIt_some, dIt_ap2, atI_0, atI_1, atI_2, ixN_2_0, ixN_2_1, back0_t, back0_f, ownL_z, ownL_s, rIxSet_some, Option.map_some, wipeG, isi_str, truthD, fLenD, hb, cLt, n1, cGt, n2, decide_false, itemsD, e1, hall]

/-! ### what makes expressions -/
theorem letter_ok {a : Str} (h : Short a) (h1 : a.length = 1) : F_letter_of c [.fz (.str a)] = .ok (.oi c.Expression (exFs "letter" [.str a])) none := by
  simp only [F_letter_of, m_letter_of, fL_cons, rFL_some, fL_nil, dSeq_ap, dIfS_ap, dSet_ap, dDrop_ap, dRet_ap, dRetN_ap, dNx_ap, dBk_ap, dCt_ap, dFor_ap, dC_ap, dVar_ap, dMov_ap, dOp_ap, dUn_ap, dOpY_ap, dCmpT_ap, dCmp_ap, dTru_ap, dTruS_ap, dAndT_ap, dOrT_ap, dNotT_ap, dIf_ap, dAnd_ap, dOr_ap, dNot_ap, aNil_ap, aCons_ap, dTup_ap, dLst_ap, dFld_ap, dFldS_ap, dIxS_ap, dCall_ap, dCallS_ap, dYes_ap, dNoP_ap, dCallF_ap, dCallR_ap, dMeth_ap, dMake_ap, dOpF_ap, dSl_ap, dSlS_ap, dPart_ap, dAsg_ap, dMt_ap, aIxS_ap, rIxA_some, rIxB_ok, dFldSet_ap, rFSet_some, ownI_z, ownI_s, dCatS_ap, dPar_ap, dM1_ap, dLc_ap, dRng1_ap, rVar_u, rMov_fz, rMov_ol, rMov_oi, rTruS_some, rAnd_t, rAnd_f, rOr_t, rOr_f, rNot_s, rFldS_some, rIxS_some, rIxS2_some, rCallS_some, rCallR_some, rCallR2_ok, rCallR3_ok, rSlS_some, rSlS2_some, rCat_some, rCat2_some, rMt_some, rMt2_some, rMt3_some, rPart_some, retF_ok, isBl_bl, asInt_int, fOne_ap, fTwo_ap, aName_ap, RE.bind_ok, RE.toS_ok, RS.then_nx, RS.then_rt, RS.then_bk, RS.then_ct, turnS_nx, turnS_ct, turnS_bk, turnS_rt, opt_some, optO_some, optT_some, frz_ol, frz_fzd, frz_oi, List.getElem?_cons_zero, List.getElem?_cons_succ, List.set_cons_zero, List.set_cons_succ, List.map_cons, List.map_nil, List.length_cons, List.length_nil, List.replicate, List.cons_append, List.nil_append, Nat.reduceAdd, Nat.reduceSub, Nat.reduceLeDiff, if_true, Bool.false_eq_true, if_false, Bool.not_true, Bool.not_false, reduceIte, reduceCtorEq, run_ap, rMake_ok, rAsg_some, rM1_some, strD_str, rLc_some, rPar_two, rRng1_one, rIt_some, dIt_ap2, atI_0, atI_1, atI_2, ixN_2_0, ixN_2_1, back0_t, back0_f, ownL_z, ownL_s, rIxSet_some, Option.map_some, wipeG, short_ok c h, truthD, fLenD, short_len h, h1, cNe_int, show decide (((1 : Nat) : Int) = 1) = true from rfl, init_ex, show (1 : Nat) ≤ big by decide]
theorem star_ok (d : D) : F_Expression_star c [.fz d] = .ok (.oi c.Expression (exFs "star" [d])) none := by
  simp only [F_Expression_star, m_Expression_star, fL_cons, rFL_some, fL_nil, dSeq_ap, dIfS_ap, dSet_ap, dDrop_ap, dRet_ap, dRetN_ap, dNx_ap, dBk_ap, dCt_ap, dFor_ap, dC_ap, dVar_ap, dMov_ap, dOp_ap, dUn_ap, dOpY_ap, dCmpT_ap, dCmp_ap, dTru_ap, dTruS_ap, dAndT_ap, dOrT_ap, dNotT_ap, dIf_ap, dAnd_ap, dOr_ap, dNot_ap, aNil_ap, aCons_ap, dTup_ap, dLst_ap, dFld_ap, dFldS_ap, dIxS_ap, dCall_ap, dCallS_ap, dYes_ap, dNoP_ap, dCallF_ap, dCallR_ap, dMeth_ap, dMake_ap, dOpF_ap, dSl_ap, dSlS_ap, dPart_ap, dAsg_ap, dMt_ap, aIxS_ap, rIxA_some, rIxB_ok, dFldSet_ap, rFSet_some, ownI_z, ownI_s, dCatS_ap, dPar_ap, dM1_ap, dLc_ap, dRng1_ap, rVar_u, rMov_fz, rMov_ol, rMov_oi, rTruS_some, rAnd_t, rAnd_f, rOr_t, rOr_f, rNot_s, rFldS_some, rIxS_some, rIxS2_some, rCallS_some, rCallR_some, rCallR2_ok, rCallR3_ok, rSlS_some, rSlS2_some, rCat_some, rCat2_some, rMt_some, rMt2_some, rMt3_some, rPart_some, retF_ok, isBl_bl, asInt_int, fOne_ap, fTwo_ap, aName_ap, RE.bind_ok, RE.toS_ok, RS.then_nx, RS.then_rt, RS.then_bk, RS.then_ct, turnS_nx, turnS_ct, turnS_bk, turnS_rt, opt_some, optO_some, optT_some, frz_ol, frz_fzd, frz_oi, List.getElem?_cons_zero, List.getElem?_cons_succ, List.set_cons_zero, List.set_cons_succ, List.map_cons, List.map_nil, List.length_cons, List.length_nil, List.replicate, List.cons_append, List.nil_append, Nat.reduceAdd, Nat.reduceSub, Nat.reduceLeDiff, if_true, Bool.false_eq_true, if_false, Bool.not_true, Bool.not_false, reduceIte, reduceCtorEq, run_ap, rMake_ok, rAsg_some, rM1_some, strD_str, rLc_some, rPar_two, rRng1_one, rIt_some, dIt_ap2, atI_0, atI_1, atI_2, ixN_2_0, ixN_2_1, back0_t, back0_f, ownL_z, ownL_s, rIxSet_some, Option.map_some, wipeG, init_ex, show (1 : Nat) ≤ big by decide]
theorem rev_ok (d : D) : F_Expression_reverse c [.fz d] = .ok (.oi c.Expression (exFs "reverse" [d])) none := by
  simp only [F_Expression_reverse, m_Expression_reverse, fL_cons, rFL_some, fL_nil, dSeq_ap, dIfS_ap, dSet_ap, dDrop_ap, dRet_ap, dRetN_ap, dNx_ap, dBk_ap, dCt_ap, dFor_ap, dC_ap, dVar_ap, dMov_ap, dOp_ap, dUn_ap, dOpY_ap, dCmpT_ap, dCmp_ap, dTru_ap, dTruS_ap, dAndT_ap, dOrT_ap, dNotT_ap, dIf_ap, dAnd_ap, dOr_ap, dNot_ap, aNil_ap, aCons_ap, dTup_ap, dLst_ap, dFld_ap, dFldS_ap, dIxS_ap, dCall_ap, dCallS_ap, dYes_ap, dNoP_ap, dCallF_ap, dCallR_ap, dMeth_ap, dMake_ap, dOpF_ap, dSl_ap, dSlS_ap, dPart_ap, dAsg_ap, dMt_ap, aIxS_ap, rIxA_some, rIxB_ok, dFldSet_ap, rFSet_some, ownI_z, ownI_s, dCatS_ap, dPar_ap, dM1_ap, dLc_ap, dRng1_ap, rVar_u, rMov_fz, rMov_ol, rMov_oi, rTruS_some, rAnd_t, rAnd_f, rOr_t, rOr_f, rNot_s, rFldS_some, rIxS_some, rIxS2_some, rCallS_some, rCallR_some, rCallR2_ok, rCallR3_ok, rSlS_some, rSlS2_some, rCat_some, rCat2_some, rMt_some, rMt2_some, rMt3_some, rPart_some, retF_ok, isBl_bl, asInt_int, fOne_ap, fTwo_ap, aName_ap, RE.bind_ok, RE.toS_ok, RS.then_nx, RS.then_rt, RS.then_bk, RS.then_ct, turnS_nx, turnS_ct, turnS_bk, turnS_rt, opt_some, optO_some, optT_some, frz_ol, frz_fzd, frz_oi, List.getElem?_cons_zero, List.getElem?_cons_succ, List.set_cons_zero, List.set_cons_succ, List.map_cons, List.map_nil, List.length_cons, List.length_nil, List.replicate, List.cons_append, List.nil_append, Nat.reduceAdd, Nat.reduceSub, Nat.reduceLeDiff, if_true, Bool.false_eq_true, if_false, Bool.not_true, Bool.not_false, reduceIte, reduceCtorEq, run_ap, rMake_ok, rAsg_some, rM1_some, strD_str, rLc_some, rPar_two, rRng1_one, rIt_some, dIt_ap2, atI_0, atI_1, atI_2, ixN_2_0, ixN_2_1, back0_t, back0_f, ownL_z, ownL_s, rIxSet_some, Option.map_some, wipeG, init_ex, show (1 : Nat) ≤ big by decide]
theorem left_ok (d : D) {w : Str} (h : Short w) : F_Expression_left c [.fz d, .fz (.str w)] = .ok (.oi c.Expression (exFs "left" [.str w, d])) none := by
  simp only [F_Expression_left, m_Expression_left, fL_cons, rFL_some, fL_nil, dSeq_ap, dIfS_ap, dSet_ap, dDrop_ap, dRet_ap, dRetN_ap, dNx_ap, dBk_ap, dCt_ap, dFor_ap, dC_ap, dVar_ap, dMov_ap, dOp_ap, dUn_ap, dOpY_ap, dCmpT_ap, dCmp_ap, dTru_ap, dTruS_ap, dAndT_ap, dOrT_ap, dNotT_ap, dIf_ap, dAnd_ap, dOr_ap, dNot_ap, aNil_ap, aCons_ap, dTup_ap, dLst_ap, dFld_ap, dFldS_ap, dIxS_ap, dCall_ap, dCallS_ap, dYes_ap, dNoP_ap, dCallF_ap, dCallR_ap, dMeth_ap, dMake_ap, dOpF_ap, dSl_ap, dSlS_ap, dPart_ap, dAsg_ap, dMt_ap, aIxS_ap, rIxA_some, rIxB_ok, dFldSet_ap, rFSet_some, ownI_z, ownI_s, dCatS_ap, dPar_ap, dM1_ap, dLc_ap, dRng1_ap, rVar_u, rMov_fz, rMov_ol, rMov_oi, rTruS_some, rAnd_t, rAnd_f, rOr_t, rOr_f, rNot_s, rFldS_some, rIxS_some, rIxS2_some, rCallS_some, rCallR_some, rCallR2_ok, rCallR3_ok, rSlS_some, rSlS2_some, rCat_some, rCat2_some, rMt_some, rMt2_some, rMt3_some, rPart_some, retF_ok, isBl_bl, asInt_int, fOne_ap, fTwo_ap, aName_ap, RE.bind_ok, RE.toS_ok, RS.then_nx, RS.then_rt, RS.then_bk, RS.then_ct, turnS_nx, turnS_ct, turnS_bk, turnS_rt, opt_some, optO_some, optT_some, frz_ol, frz_fzd, frz_oi, List.getElem?_cons_zero, List.getElem?_cons_succ, List.set_cons_zero, List.set_cons_succ, List.map_cons, List.map_nil, List.length_cons, List.length_nil, List.replicate, List.cons_append, List.nil_append, Nat.reduceAdd, Nat.reduceSub, Nat.reduceLeDiff, if_true, Bool.false_eq_true, if_false, Bool.not_true, Bool.not_false, reduceIte, reduceCtorEq, run_ap, rMake_ok, rAsg_some, rM1_some, strD_str, rLc_some, rPar_two, rRng1_one, rIt_some, dIt_ap2, atI_0, atI_1, atI_2, ixN_2_0, ixN_2_1, back0_t, back0_f, ownL_z, ownL_s, rIxSet_some, Option.map_some, wipeG, short_ok c h, truthD, init_ex, show (2 : Nat) ≤ big by decide]
theorem right_ok (d : D) {w : Str} (h : Short w) : F_Expression_right c [.fz d, .fz (.str w)] = .ok (.oi c.Expression (exFs "right" [.str w, d])) none := by
  simp only [F_Expression_right, m_Expression_right, fL_cons, rFL_some, fL_nil, dSeq_ap, dIfS_ap, dSet_ap, dDrop_ap, dRet_ap, dRetN_ap, dNx_ap, dBk_ap, dCt_ap, dFor_ap, dC_ap, dVar_ap, dMov_ap, dOp_ap, dUn_ap, dOpY_ap, dCmpT_ap, dCmp_ap, dTru_ap, dTruS_ap, dAndT_ap, dOrT_ap, dNotT_ap, dIf_ap, dAnd_ap, dOr_ap, dNot_ap, aNil_ap, aCons_ap, dTup_ap, dLst_ap, dFld_ap, dFldS_ap, dIxS_ap, dCall_ap, dCallS_ap, dYes_ap, dNoP_ap, dCallF_ap, dCallR_ap, dMeth_ap, dMake_ap, dOpF_ap, dSl_ap, dSlS_ap, dPart_ap, dAsg_ap, dMt_ap, aIxS_ap, rIxA_some, rIxB_ok, dFldSet_ap, rFSet_some, ownI_z, ownI_s, dCatS_ap, dPar_ap, dM1_ap, dLc_ap, dRng1_ap, rVar_u, rMov_fz, rMov_ol, rMov_oi, rTruS_some, rAnd_t, rAnd_f, rOr_t, rOr_f, rNot_s, rFldS_some, rIxS_some, rIxS2_some, rCallS_some, rCallR_some, rCallR2_ok, rCallR3_ok, rSlS_some, rSlS2_some, rCat_some, rCat2_some, rMt_some, rMt2_some, rMt3_some, rPart_some, retF_ok, isBl_bl, asInt_int, fOne_ap, fTwo_ap, aName_ap, RE.bind_ok, RE.toS_ok, RS.then_nx, RS.then_rt, RS.then_bk, RS.then_ct, turnS_nx, turnS_ct, turnS_bk, turnS_rt, opt_some, optO_some, optT_some, frz_ol, frz_fzd, frz_oi, List.getElem?_cons_zero, List.getElem?_cons_succ, List.set_cons_zero, List.set_cons_succ, List.map_cons, List.map_nil, List.length_cons, List.length_nil, List.replicate, List.cons_append, List.nil_append, Nat.reduceAdd, Nat.reduceSub, Nat.reduceLeDiff, if_true, Bool.false_eq_true, if_false, Bool.not_true, Bool.not_false, reduceIte, reduceCtorEq, run_ap, rMake_ok, rAsg_some, rM1_some, strD_str, rLc_some, rPar_two, rRng1_one, rIt_some, dIt_ap2, atI_0, atI_1, atI_2, ixN_2_0, ixN_2_1, back0_t, back0_f, ownL_z, ownL_s, rIxSet_some, Option.map_some, wipeG, short_ok c h, truthD, init_ex, show (2 : Nat) ≤ big by decide]
theorem add_ok (d e : D) : F_Expression_add c [.fz d, .fz e] = .ok (.oi c.Expression (exFs "sum" [d, e])) none := by
  simp only [F_Expression_add, m_Expression_add, fL_cons, rFL_some, fL_nil, dSeq_ap, dIfS_ap, dSet_ap, dDrop_ap, dRet_ap, dRetN_ap, dNx_ap, dBk_ap, dCt_ap, dFor_ap, dC_ap, dVar_ap, dMov_ap, dOp_ap, dUn_ap, dOpY_ap, dCmpT_ap, dCmp_ap, dTru_ap, dTruS_ap, dAndT_ap, dOrT_ap, dNotT_ap, dIf_ap, dAnd_ap, dOr_ap, dNot_ap, aNil_ap, aCons_ap, dTup_ap, dLst_ap, dFld_ap, dFldS_ap, dIxS_ap, dCall_ap, dCallS_ap, dYes_ap, dNoP_ap, dCallF_ap, dCallR_ap, dMeth_ap, dMake_ap, dOpF_ap, dSl_ap, dSlS_ap, dPart_ap, dAsg_ap, dMt_ap, aIxS_ap, rIxA_some, rIxB_ok, dFldSet_ap, rFSet_some, ownI_z, ownI_s, dCatS_ap, dPar_ap, dM1_ap, dLc_ap, dRng1_ap, rVar_u, rMov_fz, rMov_ol, rMov_oi, rTruS_some, rAnd_t, rAnd_f, rOr_t, rOr_f, rNot_s, rFldS_some, rIxS_some, rIxS2_some, rCallS_some, rCallR_some, rCallR2_ok, rCallR3_ok, rSlS_some, rSlS2_some, rCat_some, rCat2_some, rMt_some, rMt2_some, rMt3_some, rPart_some, retF_ok, isBl_bl, asInt_int, fOne_ap, fTwo_ap, aName_ap, RE.bind_ok, RE.toS_ok, RS.then_nx, RS.then_rt, RS.then_bk, RS.then_ct, turnS_nx, turnS_ct, turnS_bk, turnS_rt, opt_some, optO_some, optT_some, frz_ol, frz_fzd, frz_oi, List.getElem?_cons_zero, List.getElem?_cons_succ, List.set_cons_zero, List.set_cons_succ, List.map_cons, List.map_nil, List.length_cons, List.length_nil, List.replicate, List.cons_append, List.nil_append, Nat.reduceAdd, Nat.reduceSub, Nat.reduceLeDiff, if_true, Bool.false_eq_true, if_false, Bool.not_true, Bool.not_false, reduceIte, reduceCtorEq, run_ap, rMake_ok, rAsg_some, rM1_some, strD_str, rLc_some, rPar_two, rRng1_one, rIt_some, dIt_ap2, atI_0, atI_1, atI_2, ixN_2_0, ixN_2_1, back0_t, back0_f, ownL_z, ownL_s, rIxSet_some, Option.map_some, wipeG, init_ex, show (2 : Nat) ≤ big by decide]
theorem mul_ok (d e : D) : F_Expression_mul c [.fz d, .fz e] = .ok (.oi c.Expression (exFs "product" [d, e])) none := by
  simp only [F_Expression_mul, m_Expression_mul, fL_cons, rFL_some, fL_nil, dSeq_ap, dIfS_ap, dSet_ap, dDrop_ap, dRet_ap, dRetN_ap, dNx_ap, dBk_ap, dCt_ap, dFor_ap, dC_ap, dVar_ap, dMov_ap, dOp_ap, dUn_ap, dOpY_ap, dCmpT_ap, dCmp_ap, dTru_ap, dTruS_ap, dAndT_ap, dOrT_ap, dNotT_ap, dIf_ap, dAnd_ap, dOr_ap, dNot_ap, aNil_ap, aCons_ap, dTup_ap, dLst_ap, dFld_ap, dFldS_ap, dIxS_ap, dCall_ap, dCallS_ap, dYes_ap, dNoP_ap, dCallF_ap, dCallR_ap, dMeth_ap, dMake_ap, dOpF_ap, dSl_ap, dSlS_ap, dPart_ap, dAsg_ap, dMt_ap, aIxS_ap, rIxA_some, rIxB_ok, dFldSet_ap, rFSet_some, ownI_z, ownI_s, dCatS_ap, dPar_ap, dM1_ap, dLc_ap, dRng1_ap, rVar_u, rMov_fz, rMov_ol, rMov_oi, rTruS_some, rAnd_t, rAnd_f, rOr_t, rOr_f, rNot_s, rFldS_some, rIxS_some, rIxS2_some, rCallS_some, rCallR_some, rCallR2_ok, rCallR3_ok, rSlS_some, rSlS2_some, rCat_some, rCat2_some, rMt_some, rMt2_some, rMt3_some, rPart_some, retF_ok, isBl_bl, asInt_int, fOne_ap, fTwo_ap, aName_ap, RE.bind_ok, RE.toS_ok, RS.then_nx, RS.then_rt, RS.then_bk, RS.then_ct, turnS_nx, turnS_ct, turnS_bk, turnS_rt, opt_some, optO_some, optT_some, frz_ol, frz_fzd, frz_oi, List.getElem?_cons_zero, List.getElem?_cons_succ, List.set_cons_zero, List.set_cons_succ, List.map_cons, List.map_nil, List.length_cons, List.length_nil, List.replicate, List.cons_append, List.nil_append, Nat.reduceAdd, Nat.reduceSub, Nat.reduceLeDiff, if_true, Bool.false_eq_true, if_false, Bool.not_true, Bool.not_false, reduceIte, reduceCtorEq, run_ap, rMake_ok, rAsg_some, rM1_some, strD_str, rLc_some, rPar_two, rRng1_one, rIt_some, dIt_ap2, atI_0, atI_1, atI_2, ixN_2_0, ixN_2_1, back0_t, back0_f, ownL_z, ownL_s, rIxSet_some, Option.map_some, wipeG, init_ex, show (2 : Nat) ≤ big by decide]
theorem and_ok (d e : D) : F_Expression_and c [.fz d, .fz e] = .ok (.oi c.Expression (exFs "both" [d, e])) none := by
  simp only [F_Expression_and, m_Expression_and, fL_cons, rFL_some, fL_nil, dSeq_ap, dIfS_ap, dSet_ap, dDrop_ap, dRet_ap, dRetN_ap, dNx_ap, dBk_ap, dCt_ap, dFor_ap, dC_ap, dVar_ap, dMov_ap, dOp_ap, dUn_ap, dOpY_ap, dCmpT_ap, dCmp_ap, dTru_ap, dTruS_ap, dAndT_ap, dOrT_ap, dNotT_ap, dIf_ap, dAnd_ap, dOr_ap, dNot_ap, aNil_ap, aCons_ap, dTup_ap, dLst_ap, dFld_ap, dFldS_ap, dIxS_ap, dCall_ap, dCallS_ap, dYes_ap, dNoP_ap, dCallF_ap, dCallR_ap, dMeth_ap, dMake_ap, dOpF_ap, dSl_ap, dSlS_ap, dPart_ap, dAsg_ap, dMt_ap, aIxS_ap, rIxA_some, rIxB_ok, dFldSet_ap, rFSet_some, ownI_z, ownI_s, dCatS_ap, dPar_ap, dM1_ap, dLc_ap, dRng1_ap, rVar_u, rMov_fz, rMov_ol, rMov_oi, rTruS_some, rAnd_t, rAnd_f, rOr_t, rOr_f, rNot_s, rFldS_some, rIxS_some, rIxS2_some, rCallS_some, rCallR_some, rCallR2_ok, rCallR3_ok, rSlS_some, rSlS2_some, rCat_some, rCat2_some, rMt_some, rMt2_some, rMt3_some, rPart_some, retF_ok, isBl_bl, asInt_int, fOne_ap, fTwo_ap, aName_ap, RE.bind_ok, RE.toS_ok, RS.then_nx, RS.then_rt, RS.then_bk, RS.then_ct, turnS_nx, turnS_ct, turnS_bk, turnS_rt, opt_some, optO_some, optT_some, frz_ol, frz_fzd, frz_oi, List.getElem?_cons_zero, List.getElem?_cons_succ, List.set_cons_zero, List.set_cons_succ, List.map_cons, List.map_nil, List.length_cons, List.length_nil, List.replicate, List.cons_append, List.nil_append, Nat.reduceAdd, Nat.reduceSub, Nat.reduceLeDiff, if_true, Bool.false_eq_true, if_false, Bool.not_true, Bool.not_false, reduceIte, reduceCtorEq, run_ap, rMake_ok, rAsg_some, rM1_some, strD_str, rLc_some, rPar_two, rRng1_one, rIt_some, dIt_ap2, atI_0, atI_1, atI_2, ixN_2_0, ixN_2_1, back0_t, back0_f, ownL_z, ownL_s, rIxSet_some, Option.map_some, wipeG, init_ex, show (2 : Nat) ≤ big by decide]
theorem xor_ok (d e : D) : F_Expression_xor c [.fz d, .fz e] = .ok (.oi c.Expression (exFs "shuffle" [d, e])) none := by
  simp only [F_Expression_xor, m_Expression_xor, fL_cons, rFL_some, fL_nil, dSeq_ap, dIfS_ap, dSet_ap, dDrop_ap, dRet_ap, dRetN_ap, dNx_ap, dBk_ap, dCt_ap, dFor_ap, dC_ap, dVar_ap, dMov_ap, dOp_ap, dUn_ap, dOpY_ap, dCmpT_ap, dCmp_ap, dTru_ap, dTruS_ap, dAndT_ap, dOrT_ap, dNotT_ap, dIf_ap, dAnd_ap, dOr_ap, dNot_ap, aNil_ap, aCons_ap, dTup_ap, dLst_ap, dFld_ap, dFldS_ap, dIxS_ap, dCall_ap, dCallS_ap, dYes_ap, dNoP_ap, dCallF_ap, dCallR_ap, dMeth_ap, dMake_ap, dOpF_ap, dSl_ap, dSlS_ap, dPart_ap, dAsg_ap, dMt_ap, aIxS_ap, rIxA_some, rIxB_ok, dFldSet_ap, rFSet_some, ownI_z, ownI_s, dCatS_ap, dPar_ap, dM1_ap, dLc_ap, dRng1_ap, rVar_u, rMov_fz, rMov_ol, rMov_oi, rTruS_some, rAnd_t, rAnd_f, rOr_t, rOr_f, rNot_s, rFldS_some, rIxS_some, rIxS2_some, rCallS_some, rCallR_some, rCallR2_ok, rCallR3_ok, rSlS_some, rSlS2_some, rCat_some, rCat2_some, rMt_some, rMt2_some, rMt3_some, rPart_some, retF_ok, isBl_bl, asInt_int, fOne_ap, fTwo_ap, aName_ap, RE.bind_ok, RE.toS_ok, RS.then_nx, RS.then_rt, RS.then_bk, RS.then_ct, turnS_nx, turnS_ct, turnS_bk, turnS_rt, opt_some, optO_some, optT_some, frz_ol, frz_fzd, frz_oi, List.getElem?_cons_zero, List.getElem?_cons_succ, List.set_cons_zero, List.set_cons_succ, List.map_cons, List.map_nil, List.length_cons, List.length_nil, List.replicate, List.cons_append, List.nil_append, Nat.reduceAdd, Nat.reduceSub, Nat.reduceLeDiff, if_true, Bool.false_eq_true, if_false, Bool.not_true, Bool.not_false, reduceIte, reduceCtorEq, run_ap, rMake_ok, rAsg_some, rM1_some, strD_str, rLc_some, rPar_two, rRng1_one, rIt_some, dIt_ap2, atI_0, atI_1, atI_2, ixN_2_0, ixN_2_1, back0_t, back0_f, ownL_z, ownL_s, rIxSet_some, Option.map_some, wipeG, init_ex, show (2 : Nat) ≤ big by decide]
theorem eq1_str (fs : List (Str × D)) (z : Str) (F : List O → RF) : runD 2 false (m_Expression_eq c F) [.fz (.ins c.Expression fs), .fz (.str z)] = .ok (.fz (.bl false)) none := by
  simp only [m_Expression_eq, fL_cons, rFL_some, fL_nil, dSeq_ap, dIfS_ap, dSet_ap, dDrop_ap, dRet_ap, dRetN_ap, dNx_ap, dBk_ap, dCt_ap, dFor_ap, dC_ap, dVar_ap, dMov_ap, dOp_ap, dUn_ap, dOpY_ap, dCmpT_ap, dCmp_ap, dTru_ap, dTruS_ap, dAndT_ap, dOrT_ap, dNotT_ap, dIf_ap, dAnd_ap, dOr_ap, dNot_ap, aNil_ap, aCons_ap, dTup_ap, dLst_ap, dFld_ap, dFldS_ap, dIxS_ap, dCall_ap, dCallS_ap, dYes_ap, dNoP_ap, dCallF_ap, dCallR_ap, dMeth_ap, dMake_ap, dOpF_ap, dSl_ap, dSlS_ap, dPart_ap, dAsg_ap, dMt_ap, aIxS_ap, rIxA_some, rIxB_ok, dFldSet_ap, rFSet_some, ownI_z, ownI_s, dCatS_ap, dPar_ap, dM1_ap, dLc_ap, dRng1_ap, rVar_u, rMov_fz, rMov_ol, rMov_oi, rTruS_some, rAnd_t, rAnd_f, rOr_t, rOr_f, rNot_s, rFldS_some, rIxS_some, rIxS2_some, rCallS_some, rCallR_some, rCallR2_ok, rCallR3_ok, rSlS_some, rSlS2_some, rCat_some, rCat2_some, rMt_some, rMt2_some, rMt3_some, rPart_some, retF_ok, isBl_bl, asInt_int, fOne_ap, fTwo_ap, aName_ap, RE.bind_ok, RE.toS_ok, RS.then_nx, RS.then_rt, RS.then_bk, RS.then_ct, turnS_nx, turnS_ct, turnS_bk, turnS_rt, opt_some, optO_some, optT_some, frz_ol, frz_fzd, frz_oi, List.getElem?_cons_zero, List.getElem?_cons_succ, List.set_cons_zero, List.set_cons_succ, List.map_cons, List.map_nil, List.length_cons, List.length_nil, List.replicate, List.cons_append, List.nil_append, Nat.reduceAdd, Nat.reduceSub, Nat.reduceLeDiff, if_true, Bool.false_eq_true, if_false, Bool.not_true, Bool.not_false, reduceIte, reduceCtorEq, run_ap, rMake_ok, rAsg_some, rM1_some, strD_str, rLc_some, rPar_two, rRng1_one, rIt_some, dIt_ap2, atI_0, atI_1, atI_2, ixN_2_0, ixN_2_1, back0_t, back0_f, ownL_z, ownL_s, rIxSet_some, Option.map_some, wipeG, isi_Es]
theorem psiO_str (fs : List (Str × D)) (z : Str) : cEqA (psiO c) (.ins c.Expression fs) (.str z) = some false := by
  have h1 : cEq (.ins c.Expression fs) (.str z) = none := rfl
  have h2 : nfD (kit c) c.Expression (.str z) = true := by simp [nfD, tyE, nfV, kit, tys]
  unfold cEqA orD
  rw [h1]
  show psiO c (.ins c.Expression fs) (.str z) = some false
  unfold psiO owD
  rw [if_pos ⟨by simp [isC], h2⟩]
  have : F_Expression_eq c 1 [.fz (.ins c.Expression fs), .fz (.str z)] = .ok (.fz (.bl false)) none := eq1_str c fs z _
  rw [this]
theorem odd_E (fs : List (Str × D)) : F_xlaw_odd c 2 [.fz (.ins c.Expression fs)] = .ok (.fz (.bl false)) none := by
  have h : isiTD (kit c) (.ins c.Expression fs) (.tup [.ty "tuple", .ty "list"]) = some (.fz (.bl false)) := by
    simp [isiTD, tyD, clD, allD, kitAnyD, kit, tys]
  show runD 2 false (m_xlaw_odd c (F_xlaw_odd c 1)) _ = _
  simp only [m_xlaw_odd, fL_cons, rFL_some, fL_nil, dSeq_ap, dIfS_ap, dSet_ap, dDrop_ap, dRet_ap, dRetN_ap, dNx_ap, dBk_ap, dCt_ap, dFor_ap, dC_ap, dVar_ap, dMov_ap, dOp_ap, dUn_ap, dOpY_ap, dCmpT_ap, dCmp_ap, dTru_ap, dTruS_ap, dAndT_ap, dOrT_ap, dNotT_ap, dIf_ap, dAnd_ap, dOr_ap, dNot_ap, aNil_ap, aCons_ap, dTup_ap, dLst_ap, dFld_ap, dFldS_ap, dIxS_ap, dCall_ap, dCallS_ap, dYes_ap, dNoP_ap, dCallF_ap, dCallR_ap, dMeth_ap, dMake_ap, dOpF_ap, dSl_ap, dSlS_ap, dPart_ap, dAsg_ap, dMt_ap, aIxS_ap, rIxA_some, rIxB_ok, dFldSet_ap, rFSet_some, ownI_z, ownI_s, dCatS_ap, dPar_ap, dM1_ap, dLc_ap, dRng1_ap, rVar_u, rMov_fz, rMov_ol, rMov_oi, rTruS_some, rAnd_t, rAnd_f, rOr_t, rOr_f, rNot_s, rFldS_some, rIxS_some, rIxS2_some, rCallS_some, rCallR_some, rCallR2_ok, rCallR3_ok, rSlS_some, rSlS2_some, rCat_some, rCat2_some, rMt_some, rMt2_some, rMt3_some, rPart_some, retF_ok, isBl_bl, asInt_int, fOne_ap, fTwo_ap, aName_ap, RE.bind_ok, RE.toS_ok, RS.then_nx, RS.then_rt, RS.then_bk, RS.then_ct, turnS_nx, turnS_ct, turnS_bk, turnS_rt, opt_some, optO_some, optT_some, frz_ol, frz_fzd, frz_oi, List.getElem?_cons_zero, List.getElem?_cons_succ, List.set_cons_zero, List.set_cons_succ, List.map_cons, List.map_nil, List.length_cons, List.length_nil, List.replicate, List.cons_append, List.nil_append, Nat.reduceAdd, Nat.reduceSub, Nat.reduceLeDiff, if_true, Bool.false_eq_true, if_false, Bool.not_true, Bool.not_false, reduceIte, reduceCtorEq, run_ap, rMake_ok, rAsg_some, rM1_some, strD_str, rLc_some, rPar_two, rRng1_one, rIt_some, dIt_ap2, atI_0, atI_1, atI_2, ixN_2_0, ixN_2_1, back0_t, back0_f, ownL_z, ownL_s, rIxSet_some, Option.map_some, wipeG, psiO_str, h, show (2 : Nat) ≤ big by decide]
theorem honest_fz (fs : List (Str × D)) : F_xlaw_honest c [.fz (.ins c.Expression fs)] = .ok (.fz (.ins c.Expression fs)) none := by
  simp only [F_xlaw_honest, m_xlaw_honest, fL_cons, rFL_some, fL_nil, dSeq_ap, dIfS_ap, dSet_ap, dDrop_ap, dRet_ap, dRetN_ap, dNx_ap, dBk_ap, dCt_ap, dFor_ap, dC_ap, dVar_ap, dMov_ap, dOp_ap, dUn_ap, dOpY_ap, dCmpT_ap, dCmp_ap, dTru_ap, dTruS_ap, dAndT_ap, dOrT_ap, dNotT_ap, dIf_ap, dAnd_ap, dOr_ap, dNot_ap, aNil_ap, aCons_ap, dTup_ap, dLst_ap, dFld_ap, dFldS_ap, dIxS_ap, dCall_ap, dCallS_ap, dYes_ap, dNoP_ap, dCallF_ap, dCallR_ap, dMeth_ap, dMake_ap, dOpF_ap, dSl_ap, dSlS_ap, dPart_ap, dAsg_ap, dMt_ap, aIxS_ap, rIxA_some, rIxB_ok, dFldSet_ap, rFSet_some, ownI_z, ownI_s, dCatS_ap, dPar_ap, dM1_ap, dLc_ap, dRng1_ap, rVar_u, rMov_fz, rMov_ol, rMov_oi, rTruS_some, rAnd_t, rAnd_f, rOr_t, rOr_f, rNot_s, rFldS_some, rIxS_some, rIxS2_some, rCallS_some, rCallR_some, rCallR2_ok, rCallR3_ok, rSlS_some, rSlS2_some, rCat_some, rCat2_some, rMt_some, rMt2_some, rMt3_some, rPart_some, retF_ok, isBl_bl, asInt_int, fOne_ap, fTwo_ap, aName_ap, RE.bind_ok, RE.toS_ok, RS.then_nx, RS.then_rt, RS.then_bk, RS.then_ct, turnS_nx, turnS_ct, turnS_bk, turnS_rt, opt_some, optO_some, optT_some, frz_ol, frz_fzd, frz_oi, List.getElem?_cons_zero, List.getElem?_cons_succ, List.set_cons_zero, List.set_cons_succ, List.map_cons, List.map_nil, List.length_cons, List.length_nil, List.replicate, List.cons_append, List.nil_append, Nat.reduceAdd, Nat.reduceSub, Nat.reduceLeDiff, if_true, Bool.false_eq_true, if_false, Bool.not_true, Bool.not_false, reduceIte, reduceCtorEq, run_ap, rMake_ok, rAsg_some, rM1_some, strD_str, rLc_some, rPar_two, rRng1_one, rIt_some, dIt_ap2, atI_0, atI_1, atI_2, ixN_2_0, ixN_2_1, back0_t, back0_f, ownL_z, ownL_s, rIxSet_some, Option.map_some, wipeG, odd_E, truthD]
theorem honest_oi (fs : List (Str × D)) : F_xlaw_honest c [.oi c.Expression fs] = .ok (.fz (.ins c.Expression fs)) none := by
  simp only [F_xlaw_honest, m_xlaw_honest, fL_cons, rFL_some, fL_nil, dSeq_ap, dIfS_ap, dSet_ap, dDrop_ap, dRet_ap, dRetN_ap, dNx_ap, dBk_ap, dCt_ap, dFor_ap, dC_ap, dVar_ap, dMov_ap, dOp_ap, dUn_ap, dOpY_ap, dCmpT_ap, dCmp_ap, dTru_ap, dTruS_ap, dAndT_ap, dOrT_ap, dNotT_ap, dIf_ap, dAnd_ap, dOr_ap, dNot_ap, aNil_ap, aCons_ap, dTup_ap, dLst_ap, dFld_ap, dFldS_ap, dIxS_ap, dCall_ap, dCallS_ap, dYes_ap, dNoP_ap, dCallF_ap, dCallR_ap, dMeth_ap, dMake_ap, dOpF_ap, dSl_ap, dSlS_ap, dPart_ap, dAsg_ap, dMt_ap, aIxS_ap, rIxA_some, rIxB_ok, dFldSet_ap, rFSet_some, ownI_z, ownI_s, dCatS_ap, dPar_ap, dM1_ap, dLc_ap, dRng1_ap, rVar_u, rMov_fz, rMov_ol, rMov_oi, rTruS_some, rAnd_t, rAnd_f, rOr_t, rOr_f, rNot_s, rFldS_some, rIxS_some, rIxS2_some, rCallS_some, rCallR_some, rCallR2_ok, rCallR3_ok, rSlS_some, rSlS2_some, rCat_some, rCat2_some, rMt_some, rMt2_some, rMt3_some, rPart_some, retF_ok, isBl_bl, asInt_int, fOne_ap, fTwo_ap, aName_ap, RE.bind_ok, RE.toS_ok, RS.then_nx, RS.then_rt, RS.then_bk, RS.then_ct, turnS_nx, turnS_ct, turnS_bk, turnS_rt, opt_some, optO_some, optT_some, frz_ol, frz_fzd, frz_oi, List.getElem?_cons_zero, List.getElem?_cons_succ, List.set_cons_zero, List.set_cons_succ, List.map_cons, List.map_nil, List.length_cons, List.length_nil, List.replicate, List.cons_append, List.nil_append, Nat.reduceAdd, Nat.reduceSub, Nat.reduceLeDiff, if_true, Bool.false_eq_true, if_false, Bool.not_true, Bool.not_false, reduceIte, reduceCtorEq, run_ap, rMake_ok, rAsg_some, rM1_some, strD_str, rLc_some, rPar_two, rRng1_one, rIt_some, dIt_ap2, atI_0, atI_1, atI_2, ixN_2_0, ixN_2_1, back0_t, back0_f, ownL_z, ownL_s, rIxSet_some, Option.map_some, wipeG, odd_E, truthD]

/-! ### Ratio -/
theorem put_r (n d : Int) : putD sD (.int d) [(sN, .int n)] = ratFs n d := by
  show (if sN = sD then _ else _) = _
  rw [if_neg (by decide +kernel)]
  rfl
theorem gcd_pos {n d : Int} (hd : 0 < d) : 0 < ((Nat.gcd n.natAbs d.natAbs : Nat) : Int) := by
  have : 0 < Nat.gcd n.natAbs d.natAbs := Nat.gcd_pos_of_pos_right _ (by omega)
  omega
theorem ratio_ok {n d : Int} (hd : 0 < d) (hl : d.natAbs.log2 < 9000) : F_Ratio_init c [.oi c.Ratio [], .fz (.int n), .fz (.int d)] =
    .ok (.fz .non) (some (.oi c.Ratio (ratFs (n.fdiv ((Nat.gcd n.natAbs d.natAbs : Nat) : Int)) (d.fdiv ((Nat.gcd n.natAbs d.natAbs : Nat) : Int))))) := by
  have hg := gcd_pos (n := n) hd
  have hdv : divOk ((Nat.gcd n.natAbs d.natAbs : Nat) : Int) = true := by
    unfold divOk
    simp only [Bool.and_eq_true, decide_eq_true_eq]
    refine ⟨by omega, ?_⟩
    have h1 : Nat.gcd n.natAbs d.natAbs ≤ d.natAbs := Nat.gcd_le_right _ (by omega)
    have h2 : ((Nat.gcd n.natAbs d.natAbs : Nat) : Int).natAbs = Nat.gcd n.natAbs d.natAbs := rfl
    rw [h2]
    have h3 : d.natAbs < 2 ^ 9000 := (Nat.log2_lt (by omega)).mp hl
    exact (Nat.log2_lt (by omega)).mpr (by omega)
  have h0 : ¬ d = 0 := by omega
  simp only [F_Ratio_init, m_Ratio_init, fL_cons, rFL_some, fL_nil, dSeq_ap, dIfS_ap, dSet_ap, dDrop_ap, dRet_ap, dRetN_ap, dNx_ap, dBk_ap, dCt_ap, dFor_ap, dC_ap, dVar_ap, dMov_ap, dOp_ap, dUn_ap, dOpY_ap, dCmpT_ap, dCmp_ap, dTru_ap, dTruS_ap, dAndT_ap, dOrT_ap, dNotT_ap, dIf_ap, dAnd_ap, dOr_ap, dNot_ap, aNil_ap, aCons_ap, dTup_ap, dLst_ap, dFld_ap, dFldS_ap, dIxS_ap, dCall_ap, dCallS_ap, dYes_ap, dNoP_ap, dCallF_ap, dCallR_ap, dMeth_ap, dMake_ap, dOpF_ap, dSl_ap, dSlS_ap, dPart_ap, dAsg_ap, dMt_ap, aIxS_ap, rIxA_some, rIxB_ok, dFldSet_ap, rFSet_some, ownI_z, ownI_s, dCatS_ap, dPar_ap, dM1_ap, dLc_ap, dRng1_ap, rVar_u, rMov_fz, rMov_ol, rMov_oi, rTruS_some, rAnd_t, rAnd_f, rOr_t, rOr_f, rNot_s, rFldS_some, rIxS_some, rIxS2_some, rCallS_some, rCallR_some, rCallR2_ok, rCallR3_ok, rSlS_some, rSlS2_some, rCat_some, rCat2_some, rMt_some, rMt2_some, rMt3_some, rPart_some, retF_ok, isBl_bl, asInt_int, fOne_ap, fTwo_ap, aName_ap, RE.bind_ok, RE.toS_ok, RS.then_nx, RS.then_rt, RS.then_bk, RS.then_ct, turnS_nx, turnS_ct, turnS_bk, turnS_rt, opt_some, optO_some, optT_some, frz_ol, frz_fzd, frz_oi, List.getElem?_cons_zero, List.getElem?_cons_succ, List.set_cons_zero, List.set_cons_succ, List.map_cons, List.map_nil, List.length_cons, List.length_nil, List.replicate, List.cons_append, List.nil_append, Nat.reduceAdd, Nat.reduceSub, Nat.reduceLeDiff, if_true, Bool.false_eq_true, if_false, Bool.not_true, Bool.not_false, reduceIte, reduceCtorEq, run_ap, rMake_ok, rAsg_some, rM1_some, strD_str, rLc_some, rPar_two, rRng1_one, rIt_some, dIt_ap2, atI_0, atI_1, atI_2, ixN_2_0, ixN_2_1, back0_t, back0_f, ownL_z, ownL_s, rIxSet_some, Option.map_some, wipeG, cEq_int, h0, decide_false, cGt, hd, decide_true, fGcdD, fDiv, hdv, put0, show ("n" : Str) = sN from rfl, show ("d" : Str) = sD from rfl, put_r, List.mem_singleton, true_and, show (0 : Nat) < 1000 by omega, show (1 : Nat) < 1000 by omega]
theorem number_ok (fs : List (Str × D)) : F_number c [.fz (.ins c.Ratio fs)] = .ok (.oi c.Expression (exFs "number" [.ins c.Ratio fs])) none := by
  simp only [F_number, m_number, fL_cons, rFL_some, fL_nil, dSeq_ap, dIfS_ap, dSet_ap, dDrop_ap, dRet_ap, dRetN_ap, dNx_ap, dBk_ap, dCt_ap, dFor_ap, dC_ap, dVar_ap, dMov_ap, dOp_ap, dUn_ap, dOpY_ap, dCmpT_ap, dCmp_ap, dTru_ap, dTruS_ap, dAndT_ap, dOrT_ap, dNotT_ap, dIf_ap, dAnd_ap, dOr_ap, dNot_ap, aNil_ap, aCons_ap, dTup_ap, dLst_ap, dFld_ap, dFldS_ap, dIxS_ap, dCall_ap, dCallS_ap, dYes_ap, dNoP_ap, dCallF_ap, dCallR_ap, dMeth_ap, dMake_ap, dOpF_ap, dSl_ap, dSlS_ap, dPart_ap, dAsg_ap, dMt_ap, aIxS_ap, rIxA_some, rIxB_ok, dFldSet_ap, rFSet_some, ownI_z, ownI_s, dCatS_ap, dPar_ap, dM1_ap, dLc_ap, dRng1_ap, rVar_u, rMov_fz, rMov_ol, rMov_oi, rTruS_some, rAnd_t, rAnd_f, rOr_t, rOr_f, rNot_s, rFldS_some, rIxS_some, rIxS2_some, rCallS_some, rCallR_some, rCallR2_ok, rCallR3_ok, rSlS_some, rSlS2_some, rCat_some, rCat2_some, rMt_some, rMt2_some, rMt3_some, rPart_some, retF_ok, isBl_bl, asInt_int, fOne_ap, fTwo_ap, aName_ap, RE.bind_ok, RE.toS_ok, RS.then_nx, RS.then_rt, RS.then_bk, RS.then_ct, turnS_nx, turnS_ct, turnS_bk, turnS_rt, opt_some, optO_some, optT_some, frz_ol, frz_fzd, frz_oi, List.getElem?_cons_zero, List.getElem?_cons_succ, List.set_cons_zero, List.set_cons_succ, List.map_cons, List.map_nil, List.length_cons, List.length_nil, List.replicate, List.cons_append, List.nil_append, Nat.reduceAdd, Nat.reduceSub, Nat.reduceLeDiff, if_true, Bool.false_eq_true, if_false, Bool.not_true, Bool.not_false, reduceIte, reduceCtorEq, run_ap, rMake_ok, rAsg_some, rM1_some, strD_str, rLc_some, rPar_two, rRng1_one, rIt_some, dIt_ap2, atI_0, atI_1, atI_2, ixN_2_0, ixN_2_1, back0_t, back0_f, ownL_z, ownL_s, rIxSet_some, Option.map_some, wipeG, isi_R, truthD, init_ex, show (1 : Nat) ≤ big by decide]
theorem number_oi (fs : List (Str × D)) : F_number c [.oi c.Ratio fs] = .ok (.oi c.Expression (exFs "number" [.ins c.Ratio fs])) none := by
  simp only [F_number, m_number, fL_cons, rFL_some, fL_nil, dSeq_ap, dIfS_ap, dSet_ap, dDrop_ap, dRet_ap, dRetN_ap, dNx_ap, dBk_ap, dCt_ap, dFor_ap, dC_ap, dVar_ap, dMov_ap, dOp_ap, dUn_ap, dOpY_ap, dCmpT_ap, dCmp_ap, dTru_ap, dTruS_ap, dAndT_ap, dOrT_ap, dNotT_ap, dIf_ap, dAnd_ap, dOr_ap, dNot_ap, aNil_ap, aCons_ap, dTup_ap, dLst_ap, dFld_ap, dFldS_ap, dIxS_ap, dCall_ap, dCallS_ap, dYes_ap, dNoP_ap, dCallF_ap, dCallR_ap, dMeth_ap, dMake_ap, dOpF_ap, dSl_ap, dSlS_ap, dPart_ap, dAsg_ap, dMt_ap, aIxS_ap, rIxA_some, rIxB_ok, dFldSet_ap, rFSet_some, ownI_z, ownI_s, dCatS_ap, dPar_ap, dM1_ap, dLc_ap, dRng1_ap, rVar_u, rMov_fz, rMov_ol, rMov_oi, rTruS_some, rAnd_t, rAnd_f, rOr_t, rOr_f, rNot_s, rFldS_some, rIxS_some, rIxS2_some, rCallS_some, rCallR_some, rCallR2_ok, rCallR3_ok, rSlS_some, rSlS2_some, rCat_some, rCat2_some, rMt_some, rMt2_some, rMt3_some, rPart_some, retF_ok, isBl_bl, asInt_int, fOne_ap, fTwo_ap, aName_ap, RE.bind_ok, RE.toS_ok, RS.then_nx, RS.then_rt, RS.then_bk, RS.then_ct, turnS_nx, turnS_ct, turnS_bk, turnS_rt, opt_some, optO_some, optT_some, frz_ol, frz_fzd, frz_oi, List.getElem?_cons_zero, List.getElem?_cons_succ, List.set_cons_zero, List.set_cons_succ, List.map_cons, List.map_nil, List.length_cons, List.length_nil, List.replicate, List.cons_append, List.nil_append, Nat.reduceAdd, Nat.reduceSub, Nat.reduceLeDiff, if_true, Bool.false_eq_true, if_false, Bool.not_true, Bool.not_false, reduceIte, reduceCtorEq, run_ap, rMake_ok, rAsg_some, rM1_some, strD_str, rLc_some, rPar_two, rRng1_one, rIt_some, dIt_ap2, atI_0, atI_1, atI_2, ixN_2_0, ixN_2_1, back0_t, back0_f, ownL_z, ownL_s, rIxSet_some, Option.map_some, wipeG, isi_R, truthD, init_ex, show (1 : Nat) ≤ big by decide]
end K77
end

section
namespace K77
open PySem L2 L3
variable (c : Cs)
/-! ### steps -/
structure Step where
  pick : Int
  word : Str
  k : Int
def Step.ok (s : Step) : Prop := 0 ≤ s.pick ∧ s.pick < 8 ∧ Short s.word ∧ -3 ≤ s.k ∧ s.k ≤ 3
def Step.d (s : Step) : D := .tup [.int s.pick, .str s.word, .int s.k]
def first (w : Str) : Str := ⟨#[w.cps.toList.headD 0]⟩
def rK (k : Int) : Tr := .num (k.fdiv ((Nat.gcd k.natAbs 3 : Nat) : Int)) ((3 : Int).fdiv ((Nat.gcd k.natAbs 3 : Nat) : Int))
def stepT (e : Tr) (s : Step) : Tr :=
  if s.pick = 0 then .star e else if s.pick = 1 then .rev e else if s.pick = 2 then .left s.word e else if s.pick = 3 then .right s.word e
  else if s.pick = 4 then .sum e (.let_ (first s.word)) else if s.pick = 5 then .prod (rK s.k) e else if s.pick = 6 then .both e (.let_ (first s.word)) else .shuf (.let_ (first s.word)) e
theorem first_at {w : Str} (h : Short w) : fIx (.str w) (.int 0) = some (.str (first w)) := by
  have hl := short_len h
  show (if w.length ≤ big then (atI w.cps.toList 0).map fun ch => D.str ⟨#[ch]⟩ else none) = _
  rw [if_pos hl]
  unfold first
  cases e : w.cps.toList with
  | nil =>
    have : w.length = 0 := by
      show w.cps.size = 0
      rw [← Array.length_toList, e]; rfl
    have := h.1
    omega
  | cons a l => rw [atI_0]; rfl
theorem first_short {w : Str} (h : Short w) : Short (first w) ∧ (first w).length = 1 := by
  refine ⟨⟨?_, ?_, ?_⟩, rfl⟩
  · exact Nat.le_refl 1
  · show 1 ≤ 8; omega
  · intro ch hch
    have h2 : ch = w.cps.toList.headD 0 := by simpa [first] using hch
    cases e : w.cps.toList with
    | nil =>
      have : w.length = 0 := by
        show w.cps.size = 0
        rw [← Array.length_toList, e]; rfl
      have := h.1
      omega
    | cons a l =>
      rw [e] at h2
      rw [h2]
      exact h.2.2 _ (by rw [e]; simp)
theorem stepped_ok (e : Tr) {s : Step} (h : s.ok) : ∃ k ps, F_xlaw_stepped c [.fz (e.toD c), .fz (.int s.pick), .fz (.str s.word), .fz (.int s.k)] = .ok (.oi c.Expression (exFs k ps)) none ∧ exD c k ps = (stepT e s).toD c := by
  obtain ⟨h0, h8, hw, k1, k2⟩ := h
  obtain ⟨f1, f2⟩ := first_short hw
  obtain ⟨ps, he⟩ := e.toD_ex c
  have hi : ∀ m : Str, m ≠ sKind → m ≠ sParts → insIs c.Expression m (e.toD c) = true := fun m m1 m2 => by
    rw [he]
    have q1 : (m == sKind) = false := by simpa using m1
    have q2 : (m == sParts) = false := by simpa using m2
    simp [exD, insIs, exFs, List.lookup_cons, q1, q2]
  have hc : isC c.Expression (e.toD c) = true := by rw [he]; simp [exD, isC]
  have i1 := hi "star" (by decide +kernel) (by decide +kernel)
  have i2 := hi "reverse" (by decide +kernel) (by decide +kernel)
  have i3 := hi "left" (by decide +kernel) (by decide +kernel)
  have i4 := hi "right" (by decide +kernel) (by decide +kernel)
  have cE : ∀ fs, isC c.Expression (.ins c.Expression fs) = true := fun fs => by simp [isC]
  have pre : ∀ (x : Option O) , True := fun _ => trivial
  have hp : s.pick = 0 ∨ s.pick = 1 ∨ s.pick = 2 ∨ s.pick = 3 ∨ s.pick = 4 ∨ s.pick = 5 ∨ s.pick = 6 ∨ s.pick = 7 := by omega
  have g3 : (3 : Int).natAbs.log2 < 9000 := by decide
  rcases hp with hp | hp | hp | hp | hp | hp | hp | hp
  · refine ⟨"star", [e.toD c], ?_, ?_⟩
    · rw [hp]
      simp only [F_xlaw_stepped, m_xlaw_stepped, fL_cons, rFL_some, fL_nil, dSeq_ap, dIfS_ap, dSet_ap, dDrop_ap, dRet_ap, dRetN_ap, dNx_ap, dBk_ap, dCt_ap, dFor_ap, dC_ap, dVar_ap, dMov_ap, dOp_ap, dUn_ap, dOpY_ap, dCmpT_ap, dCmp_ap, dTru_ap, dTruS_ap, dAndT_ap, dOrT_ap, dNotT_ap, dIf_ap, dAnd_ap, dOr_ap, dNot_ap, aNil_ap, aCons_ap, dTup_ap, dLst_ap, dFld_ap, dFldS_ap, dIxS_ap, dCall_ap, dCallS_ap, dYes_ap, dNoP_ap, dCallF_ap, dCallR_ap, dMeth_ap, dMake_ap, dOpF_ap, dSl_ap, dSlS_ap, dPart_ap, dAsg_ap, dMt_ap, aIxS_ap, rIxA_some, rIxB_ok, dFldSet_ap, rFSet_some, ownI_z, ownI_s, dCatS_ap, dPar_ap, dM1_ap, dLc_ap, dRng1_ap, rVar_u, rMov_fz, rMov_ol, rMov_oi, rTruS_some, rAnd_t, rAnd_f, rOr_t, rOr_f, rNot_s, rFldS_some, rIxS_some, rIxS2_some, rCallS_some, rCallR_some, rCallR2_ok, rCallR3_ok, rSlS_some, rSlS2_some, rCat_some, rCat2_some, rMt_some, rMt2_some, rMt3_some, rPart_some, retF_ok, isBl_bl, asInt_int, fOne_ap, fTwo_ap, aName_ap, RE.bind_ok, RE.toS_ok, RS.then_nx, RS.then_rt, RS.then_bk, RS.then_ct, turnS_nx, turnS_ct, turnS_bk, turnS_rt, opt_some, optO_some, optT_some, frz_ol, frz_fzd, frz_oi, List.getElem?_cons_zero, List.getElem?_cons_succ, List.set_cons_zero, List.set_cons_succ, List.map_cons, List.map_nil, List.length_cons, List.length_nil, List.replicate, List.cons_append, List.nil_append, Nat.reduceAdd, Nat.reduceSub, Nat.reduceLeDiff, if_true, Bool.false_eq_true, if_false, Bool.not_true, Bool.not_false, reduceIte, reduceCtorEq, run_ap, rMake_ok, rAsg_some, rM1_some, strD_str, rLc_some, rPar_two, rRng1_one, rIt_some, dIt_ap2, atI_0, atI_1, atI_2, ixN_2_0, ixN_2_1, back0_t, back0_f, ownL_z, ownL_s, rIxSet_some, Option.map_some, wipeG, first_at hw, letter_ok c f1 f2, honest_oi, cEq_int, i1, i2, i3, i4, hc, cE, star_ok, rev_ok, left_ok c _ hw, right_ok c _ hw, add_ok, mul_ok, and_ok, xor_ok, ratio_ok c (show (0 : Int) < 3 by decide) g3, number_oi, true_and, and_true, and_self, Int.reduceEq, decide_true, decide_false]
      try rfl
    · simp only [stepT, hp, Int.reduceEq, if_true, if_false]
      try rfl
  · refine ⟨"reverse", [e.toD c], ?_, ?_⟩
    · rw [hp]
      simp only [F_xlaw_stepped, m_xlaw_stepped, fL_cons, rFL_some, fL_nil, dSeq_ap, dIfS_ap, dSet_ap, dDrop_ap, dRet_ap, dRetN_ap, dNx_ap, dBk_ap, dCt_ap, dFor_ap, dC_ap, dVar_ap, dMov_ap, dOp_ap, dUn_ap, dOpY_ap, dCmpT_ap, dCmp_ap, dTru_ap, dTruS_ap, dAndT_ap, dOrT_ap, dNotT_ap, dIf_ap, dAnd_ap, dOr_ap, dNot_ap, aNil_ap, aCons_ap, dTup_ap, dLst_ap, dFld_ap, dFldS_ap, dIxS_ap, dCall_ap, dCallS_ap, dYes_ap, dNoP_ap, dCallF_ap, dCallR_ap, dMeth_ap, dMake_ap, dOpF_ap, dSl_ap, dSlS_ap, dPart_ap, dAsg_ap, dMt_ap, aIxS_ap, rIxA_some, rIxB_ok, dFldSet_ap, rFSet_some, ownI_z, ownI_s, dCatS_ap, dPar_ap, dM1_ap, dLc_ap, dRng1_ap, rVar_u, rMov_fz, rMov_ol, rMov_oi, rTruS_some, rAnd_t, rAnd_f, rOr_t, rOr_f, rNot_s, rFldS_some, rIxS_some, rIxS2_some, rCallS_some, rCallR_some, rCallR2_ok, rCallR3_ok, rSlS_some, rSlS2_some, rCat_some, rCat2_some, rMt_some, rMt2_some, rMt3_some, rPart_some, retF_ok, isBl_bl, asInt_int, fOne_ap, fTwo_ap, aName_ap, RE.bind_ok, RE.toS_ok, RS.then_nx, RS.then_rt, RS.then_bk, RS.then_ct, turnS_nx, turnS_ct, turnS_bk, turnS_rt, opt_some, optO_some, optT_some, frz_ol, frz_fzd, frz_oi, List.getElem?_cons_zero, List.getElem?_cons_succ, List.set_cons_zero, List.set_cons_succ, List.map_cons, List.map_nil, List.length_cons, List.length_nil, List.replicate, List.cons_append, List.nil_append, Nat.reduceAdd, Nat.reduceSub, Nat.reduceLeDiff, if_true, Bool.false_eq_true, if_false, Bool.not_true, Bool.not_false, reduceIte, reduceCtorEq, run_ap, rMake_ok, rAsg_some, rM1_some, strD_str, rLc_some, rPar_two, rRng1_one, rIt_some, dIt_ap2, atI_0, atI_1, atI_2, ixN_2_0, ixN_2_1, back0_t, back0_f, ownL_z, ownL_s, rIxSet_some, Option.map_some, wipeG, first_at hw, letter_ok c f1 f2, honest_oi, cEq_int, i1, i2, i3, i4, hc, cE, star_ok, rev_ok, left_ok c _ hw, right_ok c _ hw, add_ok, mul_ok, and_ok, xor_ok, ratio_ok c (show (0 : Int) < 3 by decide) g3, number_oi, true_and, and_true, and_self, Int.reduceEq, decide_true, decide_false]
      try rfl
    · simp only [stepT, hp, Int.reduceEq, if_true, if_false]
      try rfl
  · refine ⟨"left", [.str s.word, e.toD c], ?_, ?_⟩
    · rw [hp]
      simp only [F_xlaw_stepped, m_xlaw_stepped, fL_cons, rFL_some, fL_nil, dSeq_ap, dIfS_ap, dSet_ap, dDrop_ap, dRet_ap, dRetN_ap, dNx_ap, dBk_ap, dCt_ap, dFor_ap, dC_ap, dVar_ap, dMov_ap, dOp_ap, dUn_ap, dOpY_ap, dCmpT_ap, dCmp_ap, dTru_ap, dTruS_ap, dAndT_ap, dOrT_ap, dNotT_ap, dIf_ap, dAnd_ap, dOr_ap, dNot_ap, aNil_ap, aCons_ap, dTup_ap, dLst_ap, dFld_ap, dFldS_ap, dIxS_ap, dCall_ap, dCallS_ap, dYes_ap, dNoP_ap, dCallF_ap, dCallR_ap, dMeth_ap, dMake_ap, dOpF_ap, dSl_ap, dSlS_ap, dPart_ap, dAsg_ap, dMt_ap, aIxS_ap, rIxA_some, rIxB_ok, dFldSet_ap, rFSet_some, ownI_z, ownI_s, dCatS_ap, dPar_ap, dM1_ap, dLc_ap, dRng1_ap, rVar_u, rMov_fz, rMov_ol, rMov_oi, rTruS_some, rAnd_t, rAnd_f, rOr_t, rOr_f, rNot_s, rFldS_some, rIxS_some, rIxS2_some, rCallS_some, rCallR_some, rCallR2_ok, rCallR3_ok, rSlS_some, rSlS2_some, rCat_some, rCat2_some, rMt_some, rMt2_some, rMt3_some, rPart_some, retF_ok, isBl_bl, asInt_int, fOne_ap, fTwo_ap, aName_ap, RE.bind_ok, RE.toS_ok, RS.then_nx, RS.then_rt, RS.then_bk, RS.then_ct, turnS_nx, turnS_ct, turnS_bk, turnS_rt, opt_some, optO_some, optT_some, frz_ol, frz_fzd, frz_oi, List.getElem?_cons_zero, List.getElem?_cons_succ, List.set_cons_zero, List.set_cons_succ, List.map_cons, List.map_nil, List.length_cons, List.length_nil, List.replicate, List.cons_append, List.nil_append, Nat.reduceAdd, Nat.reduceSub, Nat.reduceLeDiff, if_true, Bool.false_eq_true, if_false, Bool.not_true, Bool.not_false, reduceIte, reduceCtorEq, run_ap, rMake_ok, rAsg_some, rM1_some, strD_str, rLc_some, rPar_two, rRng1_one, rIt_some, dIt_ap2, atI_0, atI_1, atI_2, ixN_2_0, ixN_2_1, back0_t, back0_f, ownL_z, ownL_s, rIxSet_some, Option.map_some, wipeG, first_at hw, letter_ok c f1 f2, honest_oi, cEq_int, i1, i2, i3, i4, hc, cE, star_ok, rev_ok, left_ok c _ hw, right_ok c _ hw, add_ok, mul_ok, and_ok, xor_ok, ratio_ok c (show (0 : Int) < 3 by decide) g3, number_oi, true_and, and_true, and_self, Int.reduceEq, decide_true, decide_false]
      try rfl
    · simp only [stepT, hp, Int.reduceEq, if_true, if_false]
      try rfl
  · refine ⟨"right", [.str s.word, e.toD c], ?_, ?_⟩
    · rw [hp]
      simp only [F_xlaw_stepped, m_xlaw_stepped, fL_cons, rFL_some, fL_nil, dSeq_ap, dIfS_ap, dSet_ap, dDrop_ap, dRet_ap, dRetN_ap, dNx_ap, dBk_ap, dCt_ap, dFor_ap, dC_ap, dVar_ap, dMov_ap, dOp_ap, dUn_ap, dOpY_ap, dCmpT_ap, dCmp_ap, dTru_ap, dTruS_ap, dAndT_ap, dOrT_ap, dNotT_ap, dIf_ap, dAnd_ap, dOr_ap, dNot_ap, aNil_ap, aCons_ap, dTup_ap, dLst_ap, dFld_ap, dFldS_ap, dIxS_ap, dCall_ap, dCallS_ap, dYes_ap, dNoP_ap, dCallF_ap, dCallR_ap, dMeth_ap, dMake_ap, dOpF_ap, dSl_ap, dSlS_ap, dPart_ap, dAsg_ap, dMt_ap, aIxS_ap, rIxA_some, rIxB_ok, dFldSet_ap, rFSet_some, ownI_z, ownI_s, dCatS_ap, dPar_ap, dM1_ap, dLc_ap, dRng1_ap, rVar_u, rMov_fz, rMov_ol, rMov_oi, rTruS_some, rAnd_t, rAnd_f, rOr_t, rOr_f, rNot_s, rFldS_some, rIxS_some, rIxS2_some, rCallS_some, rCallR_some, rCallR2_ok, rCallR3_ok, rSlS_some, rSlS2_some, rCat_some, rCat2_some, rMt_some, rMt2_some, rMt3_some, rPart_some, retF_ok, isBl_bl, asInt_int, fOne_ap, fTwo_ap, aName_ap, RE.bind_ok, RE.toS_ok, RS.then_nx, RS.then_rt, RS.then_bk, RS.then_ct, turnS_nx, turnS_ct, turnS_bk, turnS_rt, opt_some, optO_some, optT_some, frz_ol, frz_fzd, frz_oi, List.getElem?_cons_zero, List.getElem?_cons_succ, List.set_cons_zero, List.set_cons_succ, List.map_cons, List.map_nil, List.length_cons, List.length_nil, List.replicate, List.cons_append, List.nil_append, Nat.reduceAdd, Nat.reduceSub, Nat.reduceLeDiff, if_true, Bool.false_eq_true, if_false, Bool.not_true, Bool.not_false, reduceIte, reduceCtorEq, run_ap, rMake_ok, rAsg_some, rM1_some, strD_str, rLc_some, rPar_two, rRng1_one, rIt_some, dIt_ap2, atI_0, atI_1, atI_2, ixN_2_0, ixN_2_1, back0_t, back0_f, ownL_z, ownL_s, rIxSet_some, Option.map_some, wipeG, first_at hw, letter_ok c f1 f2, honest_oi, cEq_int, i1, i2, i3, i4, hc, cE, star_ok, rev_ok, left_ok c _ hw, right_ok c _ hw, add_ok, mul_ok, and_ok, xor_ok, ratio_ok c (show (0 : Int) < 3 by decide) g3, number_oi, true_and, and_true, and_self, Int.reduceEq, decide_true, decide_false]
      try rfl
    · simp only [stepT, hp, Int.reduceEq, if_true, if_false]
      try rfl
  · refine ⟨"sum", [e.toD c, exD c "letter" [.str (first s.word)]], ?_, ?_⟩
    · rw [hp]
      simp only [F_xlaw_stepped, m_xlaw_stepped, fL_cons, rFL_some, fL_nil, dSeq_ap, dIfS_ap, dSet_ap, dDrop_ap, dRet_ap, dRetN_ap, dNx_ap, dBk_ap, dCt_ap, dFor_ap, dC_ap, dVar_ap, dMov_ap, dOp_ap, dUn_ap, dOpY_ap, dCmpT_ap, dCmp_ap, dTru_ap, dTruS_ap, dAndT_ap, dOrT_ap, dNotT_ap, dIf_ap, dAnd_ap, dOr_ap, dNot_ap, aNil_ap, aCons_ap, dTup_ap, dLst_ap, dFld_ap, dFldS_ap, dIxS_ap, dCall_ap, dCallS_ap, dYes_ap, dNoP_ap, dCallF_ap, dCallR_ap, dMeth_ap, dMake_ap, dOpF_ap, dSl_ap, dSlS_ap, dPart_ap, dAsg_ap, dMt_ap, aIxS_ap, rIxA_some, rIxB_ok, dFldSet_ap, rFSet_some, ownI_z, ownI_s, dCatS_ap, dPar_ap, dM1_ap, dLc_ap, dRng1_ap, rVar_u, rMov_fz, rMov_ol, rMov_oi, rTruS_some, rAnd_t, rAnd_f, rOr_t, rOr_f, rNot_s, rFldS_some, rIxS_some, rIxS2_some, rCallS_some, rCallR_some, rCallR2_ok, rCallR3_ok, rSlS_some, rSlS2_some, rCat_some, rCat2_some, rMt_some, rMt2_some, rMt3_some, rPart_some, retF_ok, isBl_bl, asInt_int, fOne_ap, fTwo_ap, aName_ap, RE.bind_ok, RE.toS_ok, RS.then_nx, RS.then_rt, RS.then_bk, RS.then_ct, turnS_nx, turnS_ct, turnS_bk, turnS_rt, opt_some, optO_some, optT_some, frz_ol, frz_fzd, frz_oi, List.getElem?_cons_zero, List.getElem?_cons_succ, List.set_cons_zero, List.set_cons_succ, List.map_cons, List.map_nil, List.length_cons, List.length_nil, List.replicate, List.cons_append, List.nil_append, Nat.reduceAdd, Nat.reduceSub, Nat.reduceLeDiff, if_true, Bool.false_eq_true, if_false, Bool.not_true, Bool.not_false, reduceIte, reduceCtorEq, run_ap, rMake_ok, rAsg_some, rM1_some, strD_str, rLc_some, rPar_two, rRng1_one, rIt_some, dIt_ap2, atI_0, atI_1, atI_2, ixN_2_0, ixN_2_1, back0_t, back0_f, ownL_z, ownL_s, rIxSet_some, Option.map_some, wipeG, first_at hw, letter_ok c f1 f2, honest_oi, cEq_int, i1, i2, i3, i4, hc, cE, star_ok, rev_ok, left_ok c _ hw, right_ok c _ hw, add_ok, mul_ok, and_ok, xor_ok, ratio_ok c (show (0 : Int) < 3 by decide) g3, number_oi, true_and, and_true, and_self, Int.reduceEq, decide_true, decide_false]
      try rfl
    · simp only [stepT, hp, Int.reduceEq, if_true, if_false]
      try rfl
  · refine ⟨"product", [(rK s.k).toD c, e.toD c], ?_, ?_⟩
    · rw [hp]
      simp only [F_xlaw_stepped, m_xlaw_stepped, fL_cons, rFL_some, fL_nil, dSeq_ap, dIfS_ap, dSet_ap, dDrop_ap, dRet_ap, dRetN_ap, dNx_ap, dBk_ap, dCt_ap, dFor_ap, dC_ap, dVar_ap, dMov_ap, dOp_ap, dUn_ap, dOpY_ap, dCmpT_ap, dCmp_ap, dTru_ap, dTruS_ap, dAndT_ap, dOrT_ap, dNotT_ap, dIf_ap, dAnd_ap, dOr_ap, dNot_ap, aNil_ap, aCons_ap, dTup_ap, dLst_ap, dFld_ap, dFldS_ap, dIxS_ap, dCall_ap, dCallS_ap, dYes_ap, dNoP_ap, dCallF_ap, dCallR_ap, dMeth_ap, dMake_ap, dOpF_ap, dSl_ap, dSlS_ap, dPart_ap, dAsg_ap, dMt_ap, aIxS_ap, rIxA_some, rIxB_ok, dFldSet_ap, rFSet_some, ownI_z, ownI_s, dCatS_ap, dPar_ap, dM1_ap, dLc_ap, dRng1_ap, rVar_u, rMov_fz, rMov_ol, rMov_oi, rTruS_some, rAnd_t, rAnd_f, rOr_t, rOr_f, rNot_s, rFldS_some, rIxS_some, rIxS2_some, rCallS_some, rCallR_some, rCallR2_ok, rCallR3_ok, rSlS_some, rSlS2_some, rCat_some, rCat2_some, rMt_some, rMt2_some, rMt3_some, rPart_some, retF_ok, isBl_bl, asInt_int, fOne_ap, fTwo_ap, aName_ap, RE.bind_ok, RE.toS_ok, RS.then_nx, RS.then_rt, RS.then_bk, RS.then_ct, turnS_nx, turnS_ct, turnS_bk, turnS_rt, opt_some, optO_some, optT_some, frz_ol, frz_fzd, frz_oi, List.getElem?_cons_zero, List.getElem?_cons_succ, List.set_cons_zero, List.set_cons_succ, List.map_cons, List.map_nil, List.length_cons, List.length_nil, List.replicate, List.cons_append, List.nil_append, Nat.reduceAdd, Nat.reduceSub, Nat.reduceLeDiff, if_true, Bool.false_eq_true, if_false, Bool.not_true, Bool.not_false, reduceIte, reduceCtorEq, run_ap, rMake_ok, rAsg_some, rM1_some, strD_str, rLc_some, rPar_two, rRng1_one, rIt_some, dIt_ap2, atI_0, atI_1, atI_2, ixN_2_0, ixN_2_1, back0_t, back0_f, ownL_z, ownL_s, rIxSet_some, Option.map_some, wipeG, first_at hw, letter_ok c f1 f2, honest_oi, cEq_int, i1, i2, i3, i4, hc, cE, star_ok, rev_ok, left_ok c _ hw, right_ok c _ hw, add_ok, mul_ok, and_ok, xor_ok, ratio_ok c (show (0 : Int) < 3 by decide) g3, number_oi, true_and, and_true, and_self, Int.reduceEq, decide_true, decide_false]
      try rfl
    · simp only [stepT, hp, Int.reduceEq, if_true, if_false]
      try rfl
  · refine ⟨"both", [e.toD c, exD c "letter" [.str (first s.word)]], ?_, ?_⟩
    · rw [hp]
      simp only [F_xlaw_stepped, m_xlaw_stepped, fL_cons, rFL_some, fL_nil, dSeq_ap, dIfS_ap, dSet_ap, dDrop_ap, dRet_ap, dRetN_ap, dNx_ap, dBk_ap, dCt_ap, dFor_ap, dC_ap, dVar_ap, dMov_ap, dOp_ap, dUn_ap, dOpY_ap, dCmpT_ap, dCmp_ap, dTru_ap, dTruS_ap, dAndT_ap, dOrT_ap, dNotT_ap, dIf_ap, dAnd_ap, dOr_ap, dNot_ap, aNil_ap, aCons_ap, dTup_ap, dLst_ap, dFld_ap, dFldS_ap, dIxS_ap, dCall_ap, dCallS_ap, dYes_ap, dNoP_ap, dCallF_ap, dCallR_ap, dMeth_ap, dMake_ap, dOpF_ap, dSl_ap, dSlS_ap, dPart_ap, dAsg_ap, dMt_ap, aIxS_ap, rIxA_some, rIxB_ok, dFldSet_ap, rFSet_some, ownI_z, ownI_s, dCatS_ap, dPar_ap, dM1_ap, dLc_ap, dRng1_ap, rVar_u, rMov_fz, rMov_ol, rMov_oi, rTruS_some, rAnd_t, rAnd_f, rOr_t, rOr_f, rNot_s, rFldS_some, rIxS_some, rIxS2_some, rCallS_some, rCallR_some, rCallR2_ok, rCallR3_ok, rSlS_some, rSlS2_some, rCat_some, rCat2_some, rMt_some, rMt2_some, rMt3_some, rPart_some, retF_ok, isBl_bl, asInt_int, fOne_ap, fTwo_ap, aName_ap, RE.bind_ok, RE.toS_ok, RS.then_nx, RS.then_rt, RS.then_bk, RS.then_ct, turnS_nx, turnS_ct, turnS_bk, turnS_rt, opt_some, optO_some, optT_some, frz_ol, frz_fzd, frz_oi, List.getElem?_cons_zero, List.getElem?_cons_succ, List.set_cons_zero, List.set_cons_succ, List.map_cons, List.map_nil, List.length_cons, List.length_nil, List.replicate, List.cons_append, List.nil_append, Nat.reduceAdd, Nat.reduceSub, Nat.reduceLeDiff, if_true, Bool.false_eq_true, if_false, Bool.not_true, Bool.not_false, reduceIte, reduceCtorEq, run_ap, rMake_ok, rAsg_some, rM1_some, strD_str, rLc_some, rPar_two, rRng1_one, rIt_some, dIt_ap2, atI_0, atI_1, atI_2, ixN_2_0, ixN_2_1, back0_t, back0_f, ownL_z, ownL_s, rIxSet_some, Option.map_some, wipeG, first_at hw, letter_ok c f1 f2, honest_oi, cEq_int, i1, i2, i3, i4, hc, cE, star_ok, rev_ok, left_ok c _ hw, right_ok c _ hw, add_ok, mul_ok, and_ok, xor_ok, ratio_ok c (show (0 : Int) < 3 by decide) g3, number_oi, true_and, and_true, and_self, Int.reduceEq, decide_true, decide_false]
      try rfl
    · simp only [stepT, hp, Int.reduceEq, if_true, if_false]
      try rfl
  · refine ⟨"shuffle", [exD c "letter" [.str (first s.word)], e.toD c], ?_, ?_⟩
    · rw [hp]
      simp only [F_xlaw_stepped, m_xlaw_stepped, fL_cons, rFL_some, fL_nil, dSeq_ap, dIfS_ap, dSet_ap, dDrop_ap, dRet_ap, dRetN_ap, dNx_ap, dBk_ap, dCt_ap, dFor_ap, dC_ap, dVar_ap, dMov_ap, dOp_ap, dUn_ap, dOpY_ap, dCmpT_ap, dCmp_ap, dTru_ap, dTruS_ap, dAndT_ap, dOrT_ap, dNotT_ap, dIf_ap, dAnd_ap, dOr_ap, dNot_ap, aNil_ap, aCons_ap, dTup_ap, dLst_ap, dFld_ap, dFldS_ap, dIxS_ap, dCall_ap, dCallS_ap, dYes_ap, dNoP_ap, dCallF_ap, dCallR_ap, dMeth_ap, dMake_ap, dOpF_ap, dSl_ap, dSlS_ap, dPart_ap, dAsg_ap, dMt_ap, aIxS_ap, rIxA_some, rIxB_ok, dFldSet_ap, rFSet_some, ownI_z, ownI_s, dCatS_ap, dPar_ap, dM1_ap, dLc_ap, dRng1_ap, rVar_u, rMov_fz, rMov_ol, rMov_oi, rTruS_some, rAnd_t, rAnd_f, rOr_t, rOr_f, rNot_s, rFldS_some, rIxS_some, rIxS2_some, rCallS_some, rCallR_some, rCallR2_ok, rCallR3_ok, rSlS_some, rSlS2_some, rCat_some, rCat2_some, rMt_some, rMt2_some, rMt3_some, rPart_some, retF_ok, isBl_bl, asInt_int, fOne_ap, fTwo_ap, aName_ap, RE.bind_ok, RE.toS_ok, RS.then_nx, RS.then_rt, RS.then_bk, RS.then_ct, turnS_nx, turnS_ct, turnS_bk, turnS_rt, opt_some, optO_some, optT_some, frz_ol, frz_fzd, frz_oi, List.getElem?_cons_zero, List.getElem?_cons_succ, List.set_cons_zero, List.set_cons_succ, List.map_cons, List.map_nil, List.length_cons, List.length_nil, List.replicate, List.cons_append, List.nil_append, Nat.reduceAdd, Nat.reduceSub, Nat.reduceLeDiff, if_true, Bool.false_eq_true, if_false, Bool.not_true, Bool.not_false, reduceIte, reduceCtorEq, run_ap, rMake_ok, rAsg_some, rM1_some, strD_str, rLc_some, rPar_two, rRng1_one, rIt_some, dIt_ap2, atI_0, atI_1, atI_2, ixN_2_0, ixN_2_1, back0_t, back0_f, ownL_z, ownL_s, rIxSet_some, Option.map_some, wipeG, first_at hw, letter_ok c f1 f2, honest_oi, cEq_int, i1, i2, i3, i4, hc, cE, star_ok, rev_ok, left_ok c _ hw, right_ok c _ hw, add_ok, mul_ok, and_ok, xor_ok, ratio_ok c (show (0 : Int) < 3 by decide) g3, number_oi, true_and, and_true, and_self, Int.reduceEq, decide_true, decide_false]
      try rfl
    · simp only [stepT, hp, Int.reduceEq, if_true, if_false]
      try rfl
end K77
end

section
namespace K77
open PySem L2 L3
variable (c : Cs)
theorem aTup_n2 {i j : Nat} {a b : D} {g : Gm} : aTup [aName i, aName j] (.tup [a, b]) g = some ((g.set i (some (.fz a))).set j (some (.fz b))) := rfl
theorem aTup_n3 {i j k : Nat} {a b d : D} {g : Gm} : aTup [aName i, aName j, aName k] (.tup [a, b, d]) g = some (((g.set i (some (.fz a))).set j (some (.fz b))).set k (some (.fz d))) := rfl
/-! ### chains -/
def OkE (o : O) (t : Tr) : Prop := o = .fz (t.toD c) ∨ ∃ k ps, o = .oi c.Expression (exFs k ps) ∧ exD c k ps = t.toD c
theorem OkE.frz {o : O} {t : Tr} (h : OkE c o t) : o.frz = t.toD c := by
  rcases h with rfl | ⟨k, ps, rfl, h⟩
  · rfl
  · exact h
def chain (ss : List Step) : Tr := ss.foldl stepT (.let_ "m")
theorem made_body (t : Tr) {s : Step} (h : s.ok) {o : O} (ho : OkE c o t) (x0 : Option O) : ∃ k ps, fb_xlaw_made_1 c [x0, some o, some (.fz (.int s.pick)), some (.fz (.str s.word)), some (.fz (.int s.k))] = .nx [x0, some (.oi c.Expression (exFs k ps)), some (.fz (.int s.pick)), some (.fz (.str s.word)), some (.fz (.int s.k))] ∧ exD c k ps = (stepT t s).toD c := by
  obtain ⟨k, ps, h1, h2⟩ := stepped_ok c t h
  refine ⟨k, ps, ?_, h2⟩
  rcases ho with rfl | ⟨k', ps', rfl, he⟩
  · simp only [fb_xlaw_made_1, fL_cons, rFL_some, fL_nil, dSeq_ap, dIfS_ap, dSet_ap, dDrop_ap, dRet_ap, dRetN_ap, dNx_ap, dBk_ap, dCt_ap, dFor_ap, dC_ap, dVar_ap, dMov_ap, dOp_ap, dUn_ap, dOpY_ap, dCmpT_ap, dCmp_ap, dTru_ap, dTruS_ap, dAndT_ap, dOrT_ap, dNotT_ap, dIf_ap, dAnd_ap, dOr_ap, dNot_ap, aNil_ap, aCons_ap, dTup_ap, dLst_ap, dFld_ap, dFldS_ap, dIxS_ap, dCall_ap, dCallS_ap, dYes_ap, dNoP_ap, dCallF_ap, dCallR_ap, dMeth_ap, dMake_ap, dOpF_ap, dSl_ap, dSlS_ap, dPart_ap, dAsg_ap, dMt_ap, aIxS_ap, rIxA_some, rIxB_ok, dFldSet_ap, rFSet_some, ownI_z, ownI_s, dCatS_ap, dPar_ap, dM1_ap, dLc_ap, dRng1_ap, rVar_u, rMov_fz, rMov_ol, rMov_oi, rTruS_some, rAnd_t, rAnd_f, rOr_t, rOr_f, rNot_s, rFldS_some, rIxS_some, rIxS2_some, rCallS_some, rCallR_some, rCallR2_ok, rCallR3_ok, rSlS_some, rSlS2_some, rCat_some, rCat2_some, rMt_some, rMt2_some, rMt3_some, rPart_some, retF_ok, isBl_bl, asInt_int, fOne_ap, fTwo_ap, aName_ap, RE.bind_ok, RE.toS_ok, RS.then_nx, RS.then_rt, RS.then_bk, RS.then_ct, turnS_nx, turnS_ct, turnS_bk, turnS_rt, opt_some, optO_some, optT_some, frz_ol, frz_fzd, frz_oi, List.getElem?_cons_zero, List.getElem?_cons_succ, List.set_cons_zero, List.set_cons_succ, List.map_cons, List.map_nil, List.length_cons, List.length_nil, List.replicate, List.cons_append, List.nil_append, Nat.reduceAdd, Nat.reduceSub, Nat.reduceLeDiff, if_true, Bool.false_eq_true, if_false, Bool.not_true, Bool.not_false, reduceIte, reduceCtorEq, run_ap, rMake_ok, rAsg_some, rM1_some, strD_str, rLc_some, rPar_two, rRng1_one, rIt_some, dIt_ap2, atI_0, atI_1, atI_2, ixN_2_0, ixN_2_1, back0_t, back0_f, ownL_z, ownL_s, rIxSet_some, Option.map_some, wipeG, h1]
  · have h1' : F_xlaw_stepped c [.fz (.ins c.Expression (exFs k' ps')), .fz (.int s.pick), .fz (.str s.word), .fz (.int s.k)] = .ok (.oi c.Expression (exFs k ps)) none := by rw [← h1, ← he]; rfl
    simp only [fb_xlaw_made_1, fL_cons, rFL_some, fL_nil, dSeq_ap, dIfS_ap, dSet_ap, dDrop_ap, dRet_ap, dRetN_ap, dNx_ap, dBk_ap, dCt_ap, dFor_ap, dC_ap, dVar_ap, dMov_ap, dOp_ap, dUn_ap, dOpY_ap, dCmpT_ap, dCmp_ap, dTru_ap, dTruS_ap, dAndT_ap, dOrT_ap, dNotT_ap, dIf_ap, dAnd_ap, dOr_ap, dNot_ap, aNil_ap, aCons_ap, dTup_ap, dLst_ap, dFld_ap, dFldS_ap, dIxS_ap, dCall_ap, dCallS_ap, dYes_ap, dNoP_ap, dCallF_ap, dCallR_ap, dMeth_ap, dMake_ap, dOpF_ap, dSl_ap, dSlS_ap, dPart_ap, dAsg_ap, dMt_ap, aIxS_ap, rIxA_some, rIxB_ok, dFldSet_ap, rFSet_some, ownI_z, ownI_s, dCatS_ap, dPar_ap, dM1_ap, dLc_ap, dRng1_ap, rVar_u, rMov_fz, rMov_ol, rMov_oi, rTruS_some, rAnd_t, rAnd_f, rOr_t, rOr_f, rNot_s, rFldS_some, rIxS_some, rIxS2_some, rCallS_some, rCallR_some, rCallR2_ok, rCallR3_ok, rSlS_some, rSlS2_some, rCat_some, rCat2_some, rMt_some, rMt2_some, rMt3_some, rPart_some, retF_ok, isBl_bl, asInt_int, fOne_ap, fTwo_ap, aName_ap, RE.bind_ok, RE.toS_ok, RS.then_nx, RS.then_rt, RS.then_bk, RS.then_ct, turnS_nx, turnS_ct, turnS_bk, turnS_rt, opt_some, optO_some, optT_some, frz_ol, frz_fzd, frz_oi, List.getElem?_cons_zero, List.getElem?_cons_succ, List.set_cons_zero, List.set_cons_succ, List.map_cons, List.map_nil, List.length_cons, List.length_nil, List.replicate, List.cons_append, List.nil_append, Nat.reduceAdd, Nat.reduceSub, Nat.reduceLeDiff, if_true, Bool.false_eq_true, if_false, Bool.not_true, Bool.not_false, reduceIte, reduceCtorEq, run_ap, rMake_ok, rAsg_some, rM1_some, strD_str, rLc_some, rPar_two, rRng1_one, rIt_some, dIt_ap2, atI_0, atI_1, atI_2, ixN_2_0, ixN_2_1, back0_t, back0_f, ownL_z, ownL_s, rIxSet_some, Option.map_some, wipeG, h1']
theorem short_m : Short "m" := ⟨by decide, by decide, by decide +kernel⟩
theorem made_ok {ss : List Step} (h : ∀ s ∈ ss, s.ok) : ∃ o, F_xlaw_made c [.fz (.lst (ss.map Step.d))] = .ok o none ∧ OkE c o (chain ss) := by
  have run := fL_inv (as := aTup [aName 2, aName 3, aName 4]) (b := fb_xlaw_made_1 c) (ds := ss.map Step.d) (fun i g => ∃ o x2 x3 x4, g = [some (.fz (.lst (ss.map Step.d))), some o, x2, x3, x4] ∧ OkE c o (chain (ss.take i)))
    (fun i d g hd ⟨o, x2, x3, x4, hg, ho⟩ => by
      subst hg
      simp only [List.getElem?_map] at hd
      cases hs : ss[i]? with
      | none => rw [hs] at hd; cases hd
      | some s =>
        rw [hs] at hd
        cases hd
        have hm : s ∈ ss := List.mem_of_getElem? hs
        obtain ⟨k, ps, e1, e2⟩ := made_body c _ (h s hm) ho (some (.fz (.lst (ss.map Step.d))))
        refine ⟨[some (.fz (.lst (ss.map Step.d))), some o, some (.fz (.int s.pick)), some (.fz (.str s.word)), some (.fz (.int s.k))], _, ?_, .inl e1, _, _, _, _, rfl, .inr ⟨k, ps, rfl, ?_⟩⟩
        · exact aTup_n3
        · rw [e2]
          have : ss.take (i + 1) = ss.take i ++ [s] := by rw [List.take_succ, hs]; rfl
          unfold chain
          rw [this, List.foldl_append]; rfl) 0 [some (.fz (.lst (ss.map Step.d))), some (.fz ((Tr.let_ "m").toD c)), none, none, none] (Nat.zero_le _) ⟨_, _, _, _, rfl, .inl rfl⟩
  obtain ⟨g', e1, o, x2, x3, x4, hg, ho⟩ := run
  subst hg
  rw [List.drop_zero] at e1
  have hl : ss.take (ss.map Step.d).length = ss := by rw [List.length_map]; exact List.take_length
  rw [hl] at ho
  have e0 : F_xlaw_honest c [.oi c.Expression (exFs "letter" [.str "m"])] = .ok (.fz ((Tr.let_ "m").toD c)) none := honest_oi c _
  rcases ho with rfl | ⟨k, ps, rfl, he⟩
  · exact ⟨_, by simp only [F_xlaw_made, m_xlaw_made, fL_cons, rFL_some, fL_nil, dSeq_ap, dIfS_ap, dSet_ap, dDrop_ap, dRet_ap, dRetN_ap, dNx_ap, dBk_ap, dCt_ap, dFor_ap, dC_ap, dVar_ap, dMov_ap, dOp_ap, dUn_ap, dOpY_ap, dCmpT_ap, dCmp_ap, dTru_ap, dTruS_ap, dAndT_ap, dOrT_ap, dNotT_ap, dIf_ap, dAnd_ap, dOr_ap, dNot_ap, aNil_ap, aCons_ap, dTup_ap, dLst_ap, dFld_ap, dFldS_ap, dIxS_ap, dCall_ap, dCallS_ap, dYes_ap, dNoP_ap, dCallF_ap, dCallR_ap, dMeth_ap, dMake_ap, dOpF_ap, dSl_ap, dSlS_ap, dPart_ap, dAsg_ap, dMt_ap, aIxS_ap, rIxA_some, rIxB_ok, dFldSet_ap, rFSet_some, ownI_z, ownI_s, dCatS_ap, dPar_ap, dM1_ap, dLc_ap, dRng1_ap, rVar_u, rMov_fz, rMov_ol, rMov_oi, rTruS_some, rAnd_t, rAnd_f, rOr_t, rOr_f, rNot_s, rFldS_some, rIxS_some, rIxS2_some, rCallS_some, rCallR_some, rCallR2_ok, rCallR3_ok, rSlS_some, rSlS2_some, rCat_some, rCat2_some, rMt_some, rMt2_some, rMt3_some, rPart_some, retF_ok, isBl_bl, asInt_int, fOne_ap, fTwo_ap, aName_ap, RE.bind_ok, RE.toS_ok, RS.then_nx, RS.then_rt, RS.then_bk, RS.then_ct, turnS_nx, turnS_ct, turnS_bk, turnS_rt, opt_some, optO_some, optT_some, frz_ol, frz_fzd, frz_oi, List.getElem?_cons_zero, List.getElem?_cons_succ, List.set_cons_zero, List.set_cons_succ, List.map_cons, List.map_nil, List.length_cons, List.length_nil, List.replicate, List.cons_append, List.nil_append, Nat.reduceAdd, Nat.reduceSub, Nat.reduceLeDiff, if_true, Bool.false_eq_true, if_false, Bool.not_true, Bool.not_false, reduceIte, reduceCtorEq, run_ap, rMake_ok, rAsg_some, rM1_some, strD_str, rLc_some, rPar_two, rRng1_one, rIt_some, dIt_ap2, atI_0, atI_1, atI_2, ixN_2_0, ixN_2_1, back0_t, back0_f, ownL_z, ownL_s, rIxSet_some, Option.map_some, wipeG, letter_ok c short_m rfl, e0, itemsD, e1], .inl rfl⟩
  · exact ⟨_, by simp only [F_xlaw_made, m_xlaw_made, fL_cons, rFL_some, fL_nil, dSeq_ap, dIfS_ap, dSet_ap, dDrop_ap, dRet_ap, dRetN_ap, dNx_ap, dBk_ap, dCt_ap, dFor_ap, dC_ap, dVar_ap, dMov_ap, dOp_ap, dUn_ap, dOpY_ap, dCmpT_ap, dCmp_ap, dTru_ap, dTruS_ap, dAndT_ap, dOrT_ap, dNotT_ap, dIf_ap, dAnd_ap, dOr_ap, dNot_ap, aNil_ap, aCons_ap, dTup_ap, dLst_ap, dFld_ap, dFldS_ap, dIxS_ap, dCall_ap, dCallS_ap, dYes_ap, dNoP_ap, dCallF_ap, dCallR_ap, dMeth_ap, dMake_ap, dOpF_ap, dSl_ap, dSlS_ap, dPart_ap, dAsg_ap, dMt_ap, aIxS_ap, rIxA_some, rIxB_ok, dFldSet_ap, rFSet_some, ownI_z, ownI_s, dCatS_ap, dPar_ap, dM1_ap, dLc_ap, dRng1_ap, rVar_u, rMov_fz, rMov_ol, rMov_oi, rTruS_some, rAnd_t, rAnd_f, rOr_t, rOr_f, rNot_s, rFldS_some, rIxS_some, rIxS2_some, rCallS_some, rCallR_some, rCallR2_ok, rCallR3_ok, rSlS_some, rSlS2_some, rCat_some, rCat2_some, rMt_some, rMt2_some, rMt3_some, rPart_some, retF_ok, isBl_bl, asInt_int, fOne_ap, fTwo_ap, aName_ap, RE.bind_ok, RE.toS_ok, RS.then_nx, RS.then_rt, RS.then_bk, RS.then_ct, turnS_nx, turnS_ct, turnS_bk, turnS_rt, opt_some, optO_some, optT_some, frz_ol, frz_fzd, frz_oi, List.getElem?_cons_zero, List.getElem?_cons_succ, List.set_cons_zero, List.set_cons_succ, List.map_cons, List.map_nil, List.length_cons, List.length_nil, List.replicate, List.cons_append, List.nil_append, Nat.reduceAdd, Nat.reduceSub, Nat.reduceLeDiff, if_true, Bool.false_eq_true, if_false, Bool.not_true, Bool.not_false, reduceIte, reduceCtorEq, run_ap, rMake_ok, rAsg_some, rM1_some, strD_str, rLc_some, rPar_two, rRng1_one, rIt_some, dIt_ap2, atI_0, atI_1, atI_2, ixN_2_0, ixN_2_1, back0_t, back0_f, ownL_z, ownL_s, rIxSet_some, Option.map_some, wipeG, letter_ok c short_m rfl, e0, itemsD, e1], .inr ⟨k, ps, rfl, he⟩⟩

/-! ### operands, DFS -/
theorem in2_leaf (t : Tr) : cIn (.str t.kind) (.tup [.str "number", .str "letter"]) = some (match t with | .num _ _ => true | .let_ _ => true | _ => false) := by cases t <;> (simp only [Tr.kind]; decide +kernel)
theorem in2_shift (t : Tr) : cIn (.str t.kind) (.tup [.str "left", .str "right"]) = some (match t with | .left _ _ => true | .right _ _ => true | _ => false) := by cases t <;> (simp only [Tr.kind]; decide +kernel)
theorem in3_mark (t : Tr) : cIn (.str t.kind) (.tup [.str "letter", .str "left", .str "right"]) = some (match t with | .let_ _ => true | .left _ _ => true | .right _ _ => true | _ => false) := by cases t <;> (simp only [Tr.kind]; decide +kernel)
theorem cut1 {a : D} {l : List D} : cutD (a :: l) (some 1) none = l := by
  unfold cutD
  rw [HT.sIx_none, show (some (1 : Int)) = some ((1 : Nat) : Int) from rfl, HT.sIx_nat]
  simp
theorem sl1 {a : D} {l : List D} : fSl (.tup (a :: l)) (some 1) none = some (.fz (.tup l)) := by
  show fSlT (.tup (a :: l)) (some 1) none = _
  unfold fSlT
  have h : ¬ (HT.sIx (a :: l).length 0 (some 1) = 0 ∧ HT.sIx (a :: l).length (a :: l).length none = (a :: l).length) := by
    rw [show (some (1 : Int)) = some ((1 : Nat) : Int) from rfl, HT.sIx_nat]
    simp only [List.length_cons]
    omega
  simp only
  rw [if_neg h, cut1]
theorem opnd_ok (t : Tr) : F_Expression_operands c [.fz (t.toD c)] = .ok (.fz (.tup (t.kids.map (Tr.toD c)))) none := by
  have h1 := in2_leaf t
  have h2 := in2_shift t
  cases t <;> simp only [Tr.kind] at h1 h2 <;> simp only [F_Expression_operands, m_Expression_operands, fL_cons, rFL_some, fL_nil, dSeq_ap, dIfS_ap, dSet_ap, dDrop_ap, dRet_ap, dRetN_ap, dNx_ap, dBk_ap, dCt_ap, dFor_ap, dC_ap, dVar_ap, dMov_ap, dOp_ap, dUn_ap, dOpY_ap, dCmpT_ap, dCmp_ap, dTru_ap, dTruS_ap, dAndT_ap, dOrT_ap, dNotT_ap, dIf_ap, dAnd_ap, dOr_ap, dNot_ap, aNil_ap, aCons_ap, dTup_ap, dLst_ap, dFld_ap, dFldS_ap, dIxS_ap, dCall_ap, dCallS_ap, dYes_ap, dNoP_ap, dCallF_ap, dCallR_ap, dMeth_ap, dMake_ap, dOpF_ap, dSl_ap, dSlS_ap, dPart_ap, dAsg_ap, dMt_ap, aIxS_ap, rIxA_some, rIxB_ok, dFldSet_ap, rFSet_some, ownI_z, ownI_s, dCatS_ap, dPar_ap, dM1_ap, dLc_ap, dRng1_ap, rVar_u, rMov_fz, rMov_ol, rMov_oi, rTruS_some, rAnd_t, rAnd_f, rOr_t, rOr_f, rNot_s, rFldS_some, rIxS_some, rIxS2_some, rCallS_some, rCallR_some, rCallR2_ok, rCallR3_ok, rSlS_some, rSlS2_some, rCat_some, rCat2_some, rMt_some, rMt2_some, rMt3_some, rPart_some, retF_ok, isBl_bl, asInt_int, fOne_ap, fTwo_ap, aName_ap, RE.bind_ok, RE.toS_ok, RS.then_nx, RS.then_rt, RS.then_bk, RS.then_ct, turnS_nx, turnS_ct, turnS_bk, turnS_rt, opt_some, optO_some, optT_some, frz_ol, frz_fzd, frz_oi, List.getElem?_cons_zero, List.getElem?_cons_succ, List.set_cons_zero, List.set_cons_succ, List.map_cons, List.map_nil, List.length_cons, List.length_nil, List.replicate, List.cons_append, List.nil_append, Nat.reduceAdd, Nat.reduceSub, Nat.reduceLeDiff, if_true, Bool.false_eq_true, if_false, Bool.not_true, Bool.not_false, reduceIte, reduceCtorEq, run_ap, rMake_ok, rAsg_some, rM1_some, strD_str, rLc_some, rPar_two, rRng1_one, rIt_some, dIt_ap2, atI_0, atI_1, atI_2, ixN_2_0, ixN_2_1, back0_t, back0_f, ownL_z, ownL_s, rIxSet_some, Option.map_some, wipeG, Tr.toD, fld_kind, fld_parts, h1, h2, Tr.kids, sl1, show (0 : Nat) ≤ big by decide, show (2 : Nat) ≤ big by decide]
end K77
end

section
namespace K77
open PySem L2 L3
variable (c : Cs)
/-! ### measures -/
def pr (l : Int) (t : Tr) : D := .tup [t.toD c, .int l]
def StM (x0 : Option O) (dp tt : Int) (st : List D) (y4 y5 y6 : Option O) : Gm := [x0, some (.fz (.int dp)), some (.fz (.int tt)), some (.ol st), y4, y5, y6]
theorem insIs_ops (t : Tr) : insIs c.Expression "operands" (t.toD c) = true := by
  obtain ⟨ps, h⟩ := t.toD_ex c
  rw [h]
  have q1 : (("operands" : Str) == sKind) = false := by decide +kernel
  have q2 : (("operands" : Str) == sParts) = false := by decide +kernel
  simp [exD, insIs, exFs, List.lookup_cons, q1, q2]
def lastY (t : Tr) (y : Option O) : Option O := match t.kids with
  | [] => y
  | [a] => some (.fz (a.toD c))
  | _ :: b :: _ => some (.fz (b.toD c))
theorem meas_body (t : Tr) (l dp tt : Int) (st : List D) (hl : st.length + 2 ≤ big) (x0 y4 y5 y6 : Option O) :
    wb_measures_3 c (StM x0 dp tt (st ++ [pr c l t]) y4 y5 y6) = .nx (StM x0 (if l > dp then l else dp) (tt + 1) (st ++ t.kids.map (pr c (l + 1))) (some (.fz (t.toD c))) (some (.fz (.int l))) (lastY c t y6)) := by
  have b0 : st.length < big := by omega
  have b1 : st.length + 1 < big := by omega
  have h := opnd_ok c t
  have hi := insIs_ops c t
  cases t <;>
    simp only [wb_measures_3, fb_measures_1, StM, fL_cons, rFL_some, fL_nil, dSeq_ap, dIfS_ap, dSet_ap, dDrop_ap, dRet_ap, dRetN_ap, dNx_ap, dBk_ap, dCt_ap, dFor_ap, dC_ap, dVar_ap, dMov_ap, dOp_ap, dUn_ap, dOpY_ap, dCmpT_ap, dCmp_ap, dTru_ap, dTruS_ap, dAndT_ap, dOrT_ap, dNotT_ap, dIf_ap, dAnd_ap, dOr_ap, dNot_ap, aNil_ap, aCons_ap, dTup_ap, dLst_ap, dFld_ap, dFldS_ap, dIxS_ap, dCall_ap, dCallS_ap, dYes_ap, dNoP_ap, dCallF_ap, dCallR_ap, dMeth_ap, dMake_ap, dOpF_ap, dSl_ap, dSlS_ap, dPart_ap, dAsg_ap, dMt_ap, aIxS_ap, rIxA_some, rIxB_ok, dFldSet_ap, rFSet_some, ownI_z, ownI_s, dCatS_ap, dPar_ap, dM1_ap, dLc_ap, dRng1_ap, rVar_u, rMov_fz, rMov_ol, rMov_oi, rTruS_some, rAnd_t, rAnd_f, rOr_t, rOr_f, rNot_s, rFldS_some, rIxS_some, rIxS2_some, rCallS_some, rCallR_some, rCallR2_ok, rCallR3_ok, rSlS_some, rSlS2_some, rCat_some, rCat2_some, rMt_some, rMt2_some, rMt3_some, rPart_some, retF_ok, isBl_bl, asInt_int, fOne_ap, fTwo_ap, aName_ap, RE.bind_ok, RE.toS_ok, RS.then_nx, RS.then_rt, RS.then_bk, RS.then_ct, turnS_nx, turnS_ct, turnS_bk, turnS_rt, opt_some, optO_some, optT_some, frz_ol, frz_fzd, frz_oi, List.getElem?_cons_zero, List.getElem?_cons_succ, List.set_cons_zero, List.set_cons_succ, List.map_cons, List.map_nil, List.length_cons, List.length_nil, List.replicate, List.cons_append, List.nil_append, Nat.reduceAdd, Nat.reduceSub, Nat.reduceLeDiff, if_true, Bool.false_eq_true, if_false, Bool.not_true, Bool.not_false, reduceIte, reduceCtorEq, run_ap, rMake_ok, rAsg_some, rM1_some, strD_str, rLc_some, rPar_two, rRng1_one, rIt_some, dIt_ap2, atI_0, atI_1, atI_2, ixN_2_0, ixN_2_1, back0_t, back0_f, ownL_z, ownL_s, rIxSet_some, Option.map_some, wipeG, mPop_app, pr, aTup_n2, fAdd, fMax2D, hi, h, itemsD, Tr.kids, lastY, mApp_one, b0, b1, List.length_append, List.append_nil, List.append_assoc, show (2 : Nat) ≤ big by decide]
theorem meas_test (x0 : Option O) (dp tt : Int) (st : List D) (d : D) (y4 y5 y6 : Option O) : wc_measures_2 c (StM x0 dp tt (st ++ [d]) y4 y5 y6) = .ok true (StM x0 dp tt (st ++ [d]) y4 y5 y6) := by
  simp only [wc_measures_2, StM, fL_cons, rFL_some, fL_nil, dSeq_ap, dIfS_ap, dSet_ap, dDrop_ap, dRet_ap, dRetN_ap, dNx_ap, dBk_ap, dCt_ap, dFor_ap, dC_ap, dVar_ap, dMov_ap, dOp_ap, dUn_ap, dOpY_ap, dCmpT_ap, dCmp_ap, dTru_ap, dTruS_ap, dAndT_ap, dOrT_ap, dNotT_ap, dIf_ap, dAnd_ap, dOr_ap, dNot_ap, aNil_ap, aCons_ap, dTup_ap, dLst_ap, dFld_ap, dFldS_ap, dIxS_ap, dCall_ap, dCallS_ap, dYes_ap, dNoP_ap, dCallF_ap, dCallR_ap, dMeth_ap, dMake_ap, dOpF_ap, dSl_ap, dSlS_ap, dPart_ap, dAsg_ap, dMt_ap, aIxS_ap, rIxA_some, rIxB_ok, dFldSet_ap, rFSet_some, ownI_z, ownI_s, dCatS_ap, dPar_ap, dM1_ap, dLc_ap, dRng1_ap, rVar_u, rMov_fz, rMov_ol, rMov_oi, rTruS_some, rAnd_t, rAnd_f, rOr_t, rOr_f, rNot_s, rFldS_some, rIxS_some, rIxS2_some, rCallS_some, rCallR_some, rCallR2_ok, rCallR3_ok, rSlS_some, rSlS2_some, rCat_some, rCat2_some, rMt_some, rMt2_some, rMt3_some, rPart_some, retF_ok, isBl_bl, asInt_int, fOne_ap, fTwo_ap, aName_ap, RE.bind_ok, RE.toS_ok, RS.then_nx, RS.then_rt, RS.then_bk, RS.then_ct, turnS_nx, turnS_ct, turnS_bk, turnS_rt, opt_some, optO_some, optT_some, frz_ol, frz_fzd, frz_oi, List.getElem?_cons_zero, List.getElem?_cons_succ, List.set_cons_zero, List.set_cons_succ, List.map_cons, List.map_nil, List.length_cons, List.length_nil, List.replicate, List.cons_append, List.nil_append, Nat.reduceAdd, Nat.reduceSub, Nat.reduceLeDiff, if_true, Bool.false_eq_true, if_false, Bool.not_true, Bool.not_false, reduceIte, reduceCtorEq, run_ap, rMake_ok, rAsg_some, rM1_some, strD_str, rLc_some, rPar_two, rRng1_one, rIt_some, dIt_ap2, atI_0, atI_1, atI_2, ixN_2_0, ixN_2_1, back0_t, back0_f, ownL_z, ownL_s, rIxSet_some, Option.map_some, wipeG, truth_app]
theorem meas_end (x0 : Option O) (dp tt : Int) (y4 y5 y6 : Option O) : wc_measures_2 c (StM x0 dp tt [] y4 y5 y6) = .ok false (StM x0 dp tt [] y4 y5 y6) := by
  simp only [wc_measures_2, StM, fL_cons, rFL_some, fL_nil, dSeq_ap, dIfS_ap, dSet_ap, dDrop_ap, dRet_ap, dRetN_ap, dNx_ap, dBk_ap, dCt_ap, dFor_ap, dC_ap, dVar_ap, dMov_ap, dOp_ap, dUn_ap, dOpY_ap, dCmpT_ap, dCmp_ap, dTru_ap, dTruS_ap, dAndT_ap, dOrT_ap, dNotT_ap, dIf_ap, dAnd_ap, dOr_ap, dNot_ap, aNil_ap, aCons_ap, dTup_ap, dLst_ap, dFld_ap, dFldS_ap, dIxS_ap, dCall_ap, dCallS_ap, dYes_ap, dNoP_ap, dCallF_ap, dCallR_ap, dMeth_ap, dMake_ap, dOpF_ap, dSl_ap, dSlS_ap, dPart_ap, dAsg_ap, dMt_ap, aIxS_ap, rIxA_some, rIxB_ok, dFldSet_ap, rFSet_some, ownI_z, ownI_s, dCatS_ap, dPar_ap, dM1_ap, dLc_ap, dRng1_ap, rVar_u, rMov_fz, rMov_ol, rMov_oi, rTruS_some, rAnd_t, rAnd_f, rOr_t, rOr_f, rNot_s, rFldS_some, rIxS_some, rIxS2_some, rCallS_some, rCallR_some, rCallR2_ok, rCallR3_ok, rSlS_some, rSlS2_some, rCat_some, rCat2_some, rMt_some, rMt2_some, rMt3_some, rPart_some, retF_ok, isBl_bl, asInt_int, fOne_ap, fTwo_ap, aName_ap, RE.bind_ok, RE.toS_ok, RS.then_nx, RS.then_rt, RS.then_bk, RS.then_ct, turnS_nx, turnS_ct, turnS_bk, turnS_rt, opt_some, optO_some, optT_some, frz_ol, frz_fzd, frz_oi, List.getElem?_cons_zero, List.getElem?_cons_succ, List.set_cons_zero, List.set_cons_succ, List.map_cons, List.map_nil, List.length_cons, List.length_nil, List.replicate, List.cons_append, List.nil_append, Nat.reduceAdd, Nat.reduceSub, Nat.reduceLeDiff, if_true, Bool.false_eq_true, if_false, Bool.not_true, Bool.not_false, reduceIte, reduceCtorEq, run_ap, rMake_ok, rAsg_some, rM1_some, strD_str, rLc_some, rPar_two, rRng1_one, rIt_some, dIt_ap2, atI_0, atI_1, atI_2, ixN_2_0, ixN_2_1, back0_t, back0_f, ownL_z, ownL_s, rIxSet_some, Option.map_some, wipeG, truthD, List.isEmpty_nil]
theorem dep_pos (t : Tr) : 1 ≤ t.dep := by cases t <;> simp only [Tr.dep] <;> omega
theorem cnt_pos (t : Tr) : 1 ≤ t.cnt := by cases t <;> simp only [Tr.cnt] <;> omega
theorem imax (a b : Int) : (if b > a then b else a) = max a b := by
  split <;> omega
/-- a tree on the stack is walked -/
theorem meas_runs (x0 : Option O) : ∀ (t : Tr) (l dp tt : Int) (st : List D) (y4 y5 y6 : Option O), st.length + t.cnt + 2 ≤ big → ∃ z4 z5 z6,
    Runs (wc_measures_2 c) (wb_measures_3 c) t.cnt (StM x0 dp tt (st ++ [pr c l t]) y4 y5 y6) (StM x0 (max dp (l + t.dep - 1)) (tt + t.cnt) st z4 z5 z6) := by
  have leaf : ∀ (t : Tr) (l dp tt : Int) (st : List D) (y4 y5 y6 : Option O), t.kids = [] → t.cnt = 1 → t.dep = 1 → st.length + t.cnt + 2 ≤ big → ∃ z4 z5 z6, Runs (wc_measures_2 c) (wb_measures_3 c) t.cnt (StM x0 dp tt (st ++ [pr c l t]) y4 y5 y6) (StM x0 (max dp (l + t.dep - 1)) (tt + t.cnt) st z4 z5 z6) := fun t l dp tt st y4 y5 y6 hk hc hd hl => by
    have h := meas_body c t l dp tt st (by omega) x0 y4 y5 y6
    rw [hk, List.map_nil, List.append_nil, imax] at h
    rw [hc, hd]
    have e : l + ((1 : Nat) : Int) - 1 = l := by omega
    rw [e]
    exact ⟨_, _, _, .one (meas_test c _ _ _ _ _ _ _ _) h⟩
  have one : ∀ (t a : Tr) (l dp tt : Int) (st : List D) (y4 y5 y6 : Option O), (∀ (l dp tt : Int) (st : List D) (y4 y5 y6 : Option O), st.length + a.cnt + 2 ≤ big → ∃ z4 z5 z6, Runs (wc_measures_2 c) (wb_measures_3 c) a.cnt (StM x0 dp tt (st ++ [pr c l a]) y4 y5 y6) (StM x0 (max dp (l + a.dep - 1)) (tt + a.cnt) st z4 z5 z6)) →
      t.kids = [a] → t.cnt = 1 + a.cnt → t.dep = 1 + a.dep → st.length + t.cnt + 2 ≤ big → ∃ z4 z5 z6, Runs (wc_measures_2 c) (wb_measures_3 c) t.cnt (StM x0 dp tt (st ++ [pr c l t]) y4 y5 y6) (StM x0 (max dp (l + t.dep - 1)) (tt + t.cnt) st z4 z5 z6) := fun t a l dp tt st y4 y5 y6 ih hk hc hd hl => by
    have h := meas_body c t l dp tt st (by omega) x0 y4 y5 y6
    rw [hk, List.map_cons, List.map_nil, imax] at h
    obtain ⟨z4, z5, z6, r⟩ := ih (l + 1) (max dp l) (tt + 1) st _ _ _ (by omega)
    refine ⟨z4, z5, z6, ?_⟩
    have r2 := (Runs.one (meas_test c _ _ _ _ _ _ _ _) h).trans r
    have p := dep_pos a
    have e1 : max (max dp l) (l + 1 + (a.dep : Int) - 1) = max dp (l + (t.dep : Int) - 1) := by rw [hd]; omega
    have e2 : tt + 1 + (a.cnt : Int) = tt + (t.cnt : Int) := by rw [hc]; omega
    rw [e1, e2, ← hc] at r2
    exact r2
  have two : ∀ (t a b : Tr) (l dp tt : Int) (st : List D) (y4 y5 y6 : Option O), (∀ (l dp tt : Int) (st : List D) (y4 y5 y6 : Option O), st.length + a.cnt + 2 ≤ big → ∃ z4 z5 z6, Runs (wc_measures_2 c) (wb_measures_3 c) a.cnt (StM x0 dp tt (st ++ [pr c l a]) y4 y5 y6) (StM x0 (max dp (l + a.dep - 1)) (tt + a.cnt) st z4 z5 z6)) →
      (∀ (l dp tt : Int) (st : List D) (y4 y5 y6 : Option O), st.length + b.cnt + 2 ≤ big → ∃ z4 z5 z6, Runs (wc_measures_2 c) (wb_measures_3 c) b.cnt (StM x0 dp tt (st ++ [pr c l b]) y4 y5 y6) (StM x0 (max dp (l + b.dep - 1)) (tt + b.cnt) st z4 z5 z6)) →
      t.kids = [a, b] → t.cnt = 1 + a.cnt + b.cnt → t.dep = 1 + max a.dep b.dep → st.length + t.cnt + 2 ≤ big → ∃ z4 z5 z6, Runs (wc_measures_2 c) (wb_measures_3 c) t.cnt (StM x0 dp tt (st ++ [pr c l t]) y4 y5 y6) (StM x0 (max dp (l + t.dep - 1)) (tt + t.cnt) st z4 z5 z6) := fun t a b l dp tt st y4 y5 y6 iha ihb hk hc hd hl => by
    have h := meas_body c t l dp tt st (by omega) x0 y4 y5 y6
    have ca := cnt_pos a
    have cb := cnt_pos b
    rw [hk, List.map_cons, List.map_cons, List.map_nil, imax, show st ++ [pr c (l + 1) a, pr c (l + 1) b] = (st ++ [pr c (l + 1) a]) ++ [pr c (l + 1) b] by simp] at h
    obtain ⟨z4, z5, z6, r⟩ := ihb (l + 1) (max dp l) (tt + 1) (st ++ [pr c (l + 1) a]) _ _ _ (by rw [List.length_append, List.length_singleton]; omega)
    obtain ⟨w4, w5, w6, r'⟩ := iha (l + 1) (max (max dp l) (l + 1 + (b.dep : Int) - 1)) (tt + 1 + (b.cnt : Int)) st z4 z5 z6 (by omega)
    refine ⟨w4, w5, w6, ?_⟩
    have r2 := ((Runs.one (meas_test c _ _ _ _ _ _ _ _) h).trans r).trans r'
    have p := dep_pos a
    have p2 := dep_pos b
    have e1 : max (max (max dp l) (l + 1 + (b.dep : Int) - 1)) (l + 1 + (a.dep : Int) - 1) = max dp (l + (t.dep : Int) - 1) := by rw [hd]; omega
    have e2 : tt + 1 + (b.cnt : Int) + (a.cnt : Int) = tt + (t.cnt : Int) := by rw [hc]; omega
    have e3 : 1 + b.cnt + a.cnt = t.cnt := by omega
    rw [e1, e2, e3] at r2
    exact r2
  intro t
  induction t with
  | num n d => intro l dp tt st y4 y5 y6 hl; exact leaf _ l dp tt st y4 y5 y6 rfl rfl rfl hl
  | let_ a => intro l dp tt st y4 y5 y6 hl; exact leaf _ l dp tt st y4 y5 y6 rfl rfl rfl hl
  | star e ih => intro l dp tt st y4 y5 y6 hl; exact one _ e l dp tt st y4 y5 y6 ih rfl rfl rfl hl
  | rev e ih => intro l dp tt st y4 y5 y6 hl; exact one _ e l dp tt st y4 y5 y6 ih rfl rfl rfl hl
  | left w e ih => intro l dp tt st y4 y5 y6 hl; exact one _ e l dp tt st y4 y5 y6 ih rfl rfl rfl hl
  | right w e ih => intro l dp tt st y4 y5 y6 hl; exact one _ e l dp tt st y4 y5 y6 ih rfl rfl rfl hl
  | sum a b iha ihb => intro l dp tt st y4 y5 y6 hl; exact two _ a b l dp tt st y4 y5 y6 iha ihb rfl rfl rfl hl
  | prod a b iha ihb => intro l dp tt st y4 y5 y6 hl; exact two _ a b l dp tt st y4 y5 y6 iha ihb rfl rfl rfl hl
  | both a b iha ihb => intro l dp tt st y4 y5 y6 hl; exact two _ a b l dp tt st y4 y5 y6 iha ihb rfl rfl rfl hl
  | shuf a b iha ihb => intro l dp tt st y4 y5 y6 hl; exact two _ a b l dp tt st y4 y5 y6 iha ihb rfl rfl rfl hl
theorem meas_ok (t : Tr) (h : t.cnt + 2 ≤ big) : F_measures c [.fz (t.toD c)] = .ok (.fz (.tup [.int t.dep, .int t.cnt])) none := by
  obtain ⟨z4, z5, z6, r⟩ := meas_runs c (some (.fz (t.toD c))) t 1 0 0 [] none none none (by simpa using h)
  have hw := r.done (meas_end c _ _ _ _ _ _)
  have p := dep_pos t
  have e1 : max (0 : Int) (1 + (t.dep : Int) - 1) = t.dep := by omega
  have e2 : (0 : Int) + (t.cnt : Int) = t.cnt := by omega
  rw [e1, e2] at hw
  have hw' : dWhile (wc_measures_2 c) (wb_measures_3 c) [some (.fz (t.toD c)), some (.fz (.int 0)), some (.fz (.int 0)), some (.ol [.tup [t.toD c, .int 1]]), none, none, none] = .nx [some (.fz (t.toD c)), some (.fz (.int t.dep)), some (.fz (.int t.cnt)), some (.ol []), z4, z5, z6] := hw
  simp only [F_measures, m_measures, fL_cons, rFL_some, fL_nil, dSeq_ap, dIfS_ap, dSet_ap, dDrop_ap, dRet_ap, dRetN_ap, dNx_ap, dBk_ap, dCt_ap, dFor_ap, dC_ap, dVar_ap, dMov_ap, dOp_ap, dUn_ap, dOpY_ap, dCmpT_ap, dCmp_ap, dTru_ap, dTruS_ap, dAndT_ap, dOrT_ap, dNotT_ap, dIf_ap, dAnd_ap, dOr_ap, dNot_ap, aNil_ap, aCons_ap, dTup_ap, dLst_ap, dFld_ap, dFldS_ap, dIxS_ap, dCall_ap, dCallS_ap, dYes_ap, dNoP_ap, dCallF_ap, dCallR_ap, dMeth_ap, dMake_ap, dOpF_ap, dSl_ap, dSlS_ap, dPart_ap, dAsg_ap, dMt_ap, aIxS_ap, rIxA_some, rIxB_ok, dFldSet_ap, rFSet_some, ownI_z, ownI_s, dCatS_ap, dPar_ap, dM1_ap, dLc_ap, dRng1_ap, rVar_u, rMov_fz, rMov_ol, rMov_oi, rTruS_some, rAnd_t, rAnd_f, rOr_t, rOr_f, rNot_s, rFldS_some, rIxS_some, rIxS2_some, rCallS_some, rCallR_some, rCallR2_ok, rCallR3_ok, rSlS_some, rSlS2_some, rCat_some, rCat2_some, rMt_some, rMt2_some, rMt3_some, rPart_some, retF_ok, isBl_bl, asInt_int, fOne_ap, fTwo_ap, aName_ap, RE.bind_ok, RE.toS_ok, RS.then_nx, RS.then_rt, RS.then_bk, RS.then_ct, turnS_nx, turnS_ct, turnS_bk, turnS_rt, opt_some, optO_some, optT_some, frz_ol, frz_fzd, frz_oi, List.getElem?_cons_zero, List.getElem?_cons_succ, List.set_cons_zero, List.set_cons_succ, List.map_cons, List.map_nil, List.length_cons, List.length_nil, List.replicate, List.cons_append, List.nil_append, Nat.reduceAdd, Nat.reduceSub, Nat.reduceLeDiff, if_true, Bool.false_eq_true, if_false, Bool.not_true, Bool.not_false, reduceIte, reduceCtorEq, run_ap, rMake_ok, rAsg_some, rM1_some, strD_str, rLc_some, rPar_two, rRng1_one, rIt_some, dIt_ap2, atI_0, atI_1, atI_2, ixN_2_0, ixN_2_1, back0_t, back0_f, ownL_z, ownL_s, rIxSet_some, Option.map_some, wipeG, hw', show (1 : Nat) ≤ big by decide, show (2 : Nat) ≤ big by decide]
theorem depth_ok (t : Tr) (h : t.cnt + 2 ≤ big) : F_Expression_depth c [.fz (t.toD c)] = .ok (.fz (.int t.dep)) none := by
  simp only [F_Expression_depth, m_Expression_depth, fL_cons, rFL_some, fL_nil, dSeq_ap, dIfS_ap, dSet_ap, dDrop_ap, dRet_ap, dRetN_ap, dNx_ap, dBk_ap, dCt_ap, dFor_ap, dC_ap, dVar_ap, dMov_ap, dOp_ap, dUn_ap, dOpY_ap, dCmpT_ap, dCmp_ap, dTru_ap, dTruS_ap, dAndT_ap, dOrT_ap, dNotT_ap, dIf_ap, dAnd_ap, dOr_ap, dNot_ap, aNil_ap, aCons_ap, dTup_ap, dLst_ap, dFld_ap, dFldS_ap, dIxS_ap, dCall_ap, dCallS_ap, dYes_ap, dNoP_ap, dCallF_ap, dCallR_ap, dMeth_ap, dMake_ap, dOpF_ap, dSl_ap, dSlS_ap, dPart_ap, dAsg_ap, dMt_ap, aIxS_ap, rIxA_some, rIxB_ok, dFldSet_ap, rFSet_some, ownI_z, ownI_s, dCatS_ap, dPar_ap, dM1_ap, dLc_ap, dRng1_ap, rVar_u, rMov_fz, rMov_ol, rMov_oi, rTruS_some, rAnd_t, rAnd_f, rOr_t, rOr_f, rNot_s, rFldS_some, rIxS_some, rIxS2_some, rCallS_some, rCallR_some, rCallR2_ok, rCallR3_ok, rSlS_some, rSlS2_some, rCat_some, rCat2_some, rMt_some, rMt2_some, rMt3_some, rPart_some, retF_ok, isBl_bl, asInt_int, fOne_ap, fTwo_ap, aName_ap, RE.bind_ok, RE.toS_ok, RS.then_nx, RS.then_rt, RS.then_bk, RS.then_ct, turnS_nx, turnS_ct, turnS_bk, turnS_rt, opt_some, optO_some, optT_some, frz_ol, frz_fzd, frz_oi, List.getElem?_cons_zero, List.getElem?_cons_succ, List.set_cons_zero, List.set_cons_succ, List.map_cons, List.map_nil, List.length_cons, List.length_nil, List.replicate, List.cons_append, List.nil_append, Nat.reduceAdd, Nat.reduceSub, Nat.reduceLeDiff, if_true, Bool.false_eq_true, if_false, Bool.not_true, Bool.not_false, reduceIte, reduceCtorEq, run_ap, rMake_ok, rAsg_some, rM1_some, strD_str, rLc_some, rPar_two, rRng1_one, rIt_some, dIt_ap2, atI_0, atI_1, atI_2, ixN_2_0, ixN_2_1, back0_t, back0_f, ownL_z, ownL_s, rIxSet_some, Option.map_some, wipeG, meas_ok c t h, fIx]
theorem count_ok (t : Tr) (h : t.cnt + 2 ≤ big) : F_Expression_count c [.fz (t.toD c)] = .ok (.fz (.int t.cnt)) none := by
  simp only [F_Expression_count, m_Expression_count, fL_cons, rFL_some, fL_nil, dSeq_ap, dIfS_ap, dSet_ap, dDrop_ap, dRet_ap, dRetN_ap, dNx_ap, dBk_ap, dCt_ap, dFor_ap, dC_ap, dVar_ap, dMov_ap, dOp_ap, dUn_ap, dOpY_ap, dCmpT_ap, dCmp_ap, dTru_ap, dTruS_ap, dAndT_ap, dOrT_ap, dNotT_ap, dIf_ap, dAnd_ap, dOr_ap, dNot_ap, aNil_ap, aCons_ap, dTup_ap, dLst_ap, dFld_ap, dFldS_ap, dIxS_ap, dCall_ap, dCallS_ap, dYes_ap, dNoP_ap, dCallF_ap, dCallR_ap, dMeth_ap, dMake_ap, dOpF_ap, dSl_ap, dSlS_ap, dPart_ap, dAsg_ap, dMt_ap, aIxS_ap, rIxA_some, rIxB_ok, dFldSet_ap, rFSet_some, ownI_z, ownI_s, dCatS_ap, dPar_ap, dM1_ap, dLc_ap, dRng1_ap, rVar_u, rMov_fz, rMov_ol, rMov_oi, rTruS_some, rAnd_t, rAnd_f, rOr_t, rOr_f, rNot_s, rFldS_some, rIxS_some, rIxS2_some, rCallS_some, rCallR_some, rCallR2_ok, rCallR3_ok, rSlS_some, rSlS2_some, rCat_some, rCat2_some, rMt_some, rMt2_some, rMt3_some, rPart_some, retF_ok, isBl_bl, asInt_int, fOne_ap, fTwo_ap, aName_ap, RE.bind_ok, RE.toS_ok, RS.then_nx, RS.then_rt, RS.then_bk, RS.then_ct, turnS_nx, turnS_ct, turnS_bk, turnS_rt, opt_some, optO_some, optT_some, frz_ol, frz_fzd, frz_oi, List.getElem?_cons_zero, List.getElem?_cons_succ, List.set_cons_zero, List.set_cons_succ, List.map_cons, List.map_nil, List.length_cons, List.length_nil, List.replicate, List.cons_append, List.nil_append, Nat.reduceAdd, Nat.reduceSub, Nat.reduceLeDiff, if_true, Bool.false_eq_true, if_false, Bool.not_true, Bool.not_false, reduceIte, reduceCtorEq, run_ap, rMake_ok, rAsg_some, rM1_some, strD_str, rLc_some, rPar_two, rRng1_one, rIt_some, dIt_ap2, atI_0, atI_1, atI_2, ixN_2_0, ixN_2_1, back0_t, back0_f, ownL_z, ownL_s, rIxSet_some, Option.map_some, wipeG, meas_ok c t h, fIx]
end K77
end

section
namespace K77
open PySem L2 L3
variable (c : Cs)
/-! ### is_expression -/
def Tr.isNum : Tr → Bool
  | .num _ _ => true
  | _ => false
def Tr.long : Tr → Bool
  | .num n d => decide ((10 : Int) ^ 60 ≤ (if n < 0 then -n else n)) || decide ((10 : Int) ^ 60 ≤ d)
  | _ => false
theorem is_num (t : Tr) : cEq (.str t.kind) (.str "number") = some t.isNum := by cases t <;> (simp only [Tr.kind, Tr.isNum]; decide +kernel)
theorem pow60 : fPow (.int 10) (.int 60) = some (.int (10 ^ 60)) := by
  unfold fPow
  simp
theorem look_n (n d : Int) : fldD [c.Ratio] "n" (ratD c n d) = some (.int n) := by
  show (if c.Ratio ∈ [c.Ratio] then (ratFs n d).lookup sN else none) = _
  rw [if_pos (by simp)]
  unfold ratFs
  rw [List.lookup_cons, show (sN == sN) = true by decide +kernel]
theorem look_d (n d : Int) : fldD [c.Ratio] "d" (ratD c n d) = some (.int d) := by
  show (if c.Ratio ∈ [c.Ratio] then (ratFs n d).lookup sD else none) = _
  rw [if_pos (by simp)]
  unfold ratFs
  rw [List.lookup_cons, show (sD == sN) = false by decide +kernel, List.lookup_cons, show (sD == sD) = true by decide +kernel]
theorem long_ok (n d : Int) : F_is_long c [.fz (ratD c n d)] = .ok (.fz (.bl (Tr.long (.num n d)))) none := by
  unfold Tr.long
  by_cases h : (10 : Int) ^ 60 ≤ (if n < 0 then -n else n)
  · simp only [F_is_long, m_is_long, fL_cons, rFL_some, fL_nil, dSeq_ap, dIfS_ap, dSet_ap, dDrop_ap, dRet_ap, dRetN_ap, dNx_ap, dBk_ap, dCt_ap, dFor_ap, dC_ap, dVar_ap, dMov_ap, dOp_ap, dUn_ap, dOpY_ap, dCmpT_ap, dCmp_ap, dTru_ap, dTruS_ap, dAndT_ap, dOrT_ap, dNotT_ap, dIf_ap, dAnd_ap, dOr_ap, dNot_ap, aNil_ap, aCons_ap, dTup_ap, dLst_ap, dFld_ap, dFldS_ap, dIxS_ap, dCall_ap, dCallS_ap, dYes_ap, dNoP_ap, dCallF_ap, dCallR_ap, dMeth_ap, dMake_ap, dOpF_ap, dSl_ap, dSlS_ap, dPart_ap, dAsg_ap, dMt_ap, aIxS_ap, rIxA_some, rIxB_ok, dFldSet_ap, rFSet_some, ownI_z, ownI_s, dCatS_ap, dPar_ap, dM1_ap, dLc_ap, dRng1_ap, rVar_u, rMov_fz, rMov_ol, rMov_oi, rTruS_some, rAnd_t, rAnd_f, rOr_t, rOr_f, rNot_s, rFldS_some, rIxS_some, rIxS2_some, rCallS_some, rCallR_some, rCallR2_ok, rCallR3_ok, rSlS_some, rSlS2_some, rCat_some, rCat2_some, rMt_some, rMt2_some, rMt3_some, rPart_some, retF_ok, isBl_bl, asInt_int, fOne_ap, fTwo_ap, aName_ap, RE.bind_ok, RE.toS_ok, RS.then_nx, RS.then_rt, RS.then_bk, RS.then_ct, turnS_nx, turnS_ct, turnS_bk, turnS_rt, opt_some, optO_some, optT_some, frz_ol, frz_fzd, frz_oi, List.getElem?_cons_zero, List.getElem?_cons_succ, List.set_cons_zero, List.set_cons_succ, List.map_cons, List.map_nil, List.length_cons, List.length_nil, List.replicate, List.cons_append, List.nil_append, Nat.reduceAdd, Nat.reduceSub, Nat.reduceLeDiff, if_true, Bool.false_eq_true, if_false, Bool.not_true, Bool.not_false, reduceIte, reduceCtorEq, run_ap, rMake_ok, rAsg_some, rM1_some, strD_str, rLc_some, rPar_two, rRng1_one, rIt_some, dIt_ap2, atI_0, atI_1, atI_2, ixN_2_0, ixN_2_1, back0_t, back0_f, ownL_z, ownL_s, rIxSet_some, Option.map_some, wipeG, look_n, look_d, fAbsD, pow60, cGe, h, decide_true, Bool.true_or]
  · simp only [F_is_long, m_is_long, fL_cons, rFL_some, fL_nil, dSeq_ap, dIfS_ap, dSet_ap, dDrop_ap, dRet_ap, dRetN_ap, dNx_ap, dBk_ap, dCt_ap, dFor_ap, dC_ap, dVar_ap, dMov_ap, dOp_ap, dUn_ap, dOpY_ap, dCmpT_ap, dCmp_ap, dTru_ap, dTruS_ap, dAndT_ap, dOrT_ap, dNotT_ap, dIf_ap, dAnd_ap, dOr_ap, dNot_ap, aNil_ap, aCons_ap, dTup_ap, dLst_ap, dFld_ap, dFldS_ap, dIxS_ap, dCall_ap, dCallS_ap, dYes_ap, dNoP_ap, dCallF_ap, dCallR_ap, dMeth_ap, dMake_ap, dOpF_ap, dSl_ap, dSlS_ap, dPart_ap, dAsg_ap, dMt_ap, aIxS_ap, rIxA_some, rIxB_ok, dFldSet_ap, rFSet_some, ownI_z, ownI_s, dCatS_ap, dPar_ap, dM1_ap, dLc_ap, dRng1_ap, rVar_u, rMov_fz, rMov_ol, rMov_oi, rTruS_some, rAnd_t, rAnd_f, rOr_t, rOr_f, rNot_s, rFldS_some, rIxS_some, rIxS2_some, rCallS_some, rCallR_some, rCallR2_ok, rCallR3_ok, rSlS_some, rSlS2_some, rCat_some, rCat2_some, rMt_some, rMt2_some, rMt3_some, rPart_some, retF_ok, isBl_bl, asInt_int, fOne_ap, fTwo_ap, aName_ap, RE.bind_ok, RE.toS_ok, RS.then_nx, RS.then_rt, RS.then_bk, RS.then_ct, turnS_nx, turnS_ct, turnS_bk, turnS_rt, opt_some, optO_some, optT_some, frz_ol, frz_fzd, frz_oi, List.getElem?_cons_zero, List.getElem?_cons_succ, List.set_cons_zero, List.set_cons_succ, List.map_cons, List.map_nil, List.length_cons, List.length_nil, List.replicate, List.cons_append, List.nil_append, Nat.reduceAdd, Nat.reduceSub, Nat.reduceLeDiff, if_true, Bool.false_eq_true, if_false, Bool.not_true, Bool.not_false, reduceIte, reduceCtorEq, run_ap, rMake_ok, rAsg_some, rM1_some, strD_str, rLc_some, rPar_two, rRng1_one, rIt_some, dIt_ap2, atI_0, atI_1, atI_2, ixN_2_0, ixN_2_1, back0_t, back0_f, ownL_z, ownL_s, rIxSet_some, Option.map_some, wipeG, look_n, look_d, fAbsD, pow60, cGe, h, decide_false, Bool.false_or]
def StI (x0 : Option O) (tt : Int) (st : List D) (y3 y4 y5 : Option O) : Gm := [x0, some (.fz (.int tt)), some (.ol st), y3, y4, y5]
def okN (t : Tr) (l tt : Int) : Prop := tt + 1 ≤ 200 ∧ l ≤ 40 ∧ t.long = false
theorem isx_body (t : Tr) (l tt : Int) (st : List D) (hl : st.length + 2 ≤ big) (x0 y3 y4 y5 : Option O) (hok : okN t l tt) :
    wb_is_expression_3 c (StI x0 tt (st ++ [pr c l t]) y3 y4 y5) = .nx (StI x0 (tt + 1) (st ++ t.kids.map (pr c (l + 1))) (some (.fz (t.toD c))) (some (.fz (.int l))) (lastY c t y5)) := by
  have b0 : st.length < big := by omega
  have b1 : st.length + 1 < big := by omega
  have h := opnd_ok c t
  have hi := insIs_ops c t
  obtain ⟨h1, h2, h3⟩ := hok
  have n1 : ¬ (200 : Int) < tt + 1 := by omega
  have n2 : ¬ (40 : Int) < l := by omega
  have hn := is_num t
  cases t with
  | num n d =>
    have hq := long_ok c n d
    rw [h3] at hq
    have hq' : F_is_long c [.fz (.ins c.Ratio (ratFs n d))] = .ok (.fz (.bl false)) none := hq
    simp only [Tr.kind, Tr.isNum] at hn
    simp only [wb_is_expression_3, fb_is_expression_1, StI, fL_cons, rFL_some, fL_nil, dSeq_ap, dIfS_ap, dSet_ap, dDrop_ap, dRet_ap, dRetN_ap, dNx_ap, dBk_ap, dCt_ap, dFor_ap, dC_ap, dVar_ap, dMov_ap, dOp_ap, dUn_ap, dOpY_ap, dCmpT_ap, dCmp_ap, dTru_ap, dTruS_ap, dAndT_ap, dOrT_ap, dNotT_ap, dIf_ap, dAnd_ap, dOr_ap, dNot_ap, aNil_ap, aCons_ap, dTup_ap, dLst_ap, dFld_ap, dFldS_ap, dIxS_ap, dCall_ap, dCallS_ap, dYes_ap, dNoP_ap, dCallF_ap, dCallR_ap, dMeth_ap, dMake_ap, dOpF_ap, dSl_ap, dSlS_ap, dPart_ap, dAsg_ap, dMt_ap, aIxS_ap, rIxA_some, rIxB_ok, dFldSet_ap, rFSet_some, ownI_z, ownI_s, dCatS_ap, dPar_ap, dM1_ap, dLc_ap, dRng1_ap, rVar_u, rMov_fz, rMov_ol, rMov_oi, rTruS_some, rAnd_t, rAnd_f, rOr_t, rOr_f, rNot_s, rFldS_some, rIxS_some, rIxS2_some, rCallS_some, rCallR_some, rCallR2_ok, rCallR3_ok, rSlS_some, rSlS2_some, rCat_some, rCat2_some, rMt_some, rMt2_some, rMt3_some, rPart_some, retF_ok, isBl_bl, asInt_int, fOne_ap, fTwo_ap, aName_ap, RE.bind_ok, RE.toS_ok, RS.then_nx, RS.then_rt, RS.then_bk, RS.then_ct, turnS_nx, turnS_ct, turnS_bk, turnS_rt, opt_some, optO_some, optT_some, frz_ol, frz_fzd, frz_oi, List.getElem?_cons_zero, List.getElem?_cons_succ, List.set_cons_zero, List.set_cons_succ, List.map_cons, List.map_nil, List.length_cons, List.length_nil, List.replicate, List.cons_append, List.nil_append, Nat.reduceAdd, Nat.reduceSub, Nat.reduceLeDiff, if_true, Bool.false_eq_true, if_false, Bool.not_true, Bool.not_false, reduceIte, reduceCtorEq, run_ap, rMake_ok, rAsg_some, rM1_some, strD_str, rLc_some, rPar_two, rRng1_one, rIt_some, dIt_ap2, atI_0, atI_1, atI_2, ixN_2_0, ixN_2_1, back0_t, back0_f, ownL_z, ownL_s, rIxSet_some, Option.map_some, wipeG, mPop_app, pr, aTup_n2, fAdd, cGt, n1, n2, decide_false, hi, h, itemsD, Tr.kids, lastY, List.append_nil, Tr.toD, fld_kind, fld_parts, hn, fIx, ratD, hq', truthD]
    simp only [Tr.toD, ratD] at h hi
    simp only [fL_cons, rFL_some, fL_nil, dSeq_ap, dIfS_ap, dSet_ap, dDrop_ap, dRet_ap, dRetN_ap, dNx_ap, dBk_ap, dCt_ap, dFor_ap, dC_ap, dVar_ap, dMov_ap, dOp_ap, dUn_ap, dOpY_ap, dCmpT_ap, dCmp_ap, dTru_ap, dTruS_ap, dAndT_ap, dOrT_ap, dNotT_ap, dIf_ap, dAnd_ap, dOr_ap, dNot_ap, aNil_ap, aCons_ap, dTup_ap, dLst_ap, dFld_ap, dFldS_ap, dIxS_ap, dCall_ap, dCallS_ap, dYes_ap, dNoP_ap, dCallF_ap, dCallR_ap, dMeth_ap, dMake_ap, dOpF_ap, dSl_ap, dSlS_ap, dPart_ap, dAsg_ap, dMt_ap, aIxS_ap, rIxA_some, rIxB_ok, dFldSet_ap, rFSet_some, ownI_z, ownI_s, dCatS_ap, dPar_ap, dM1_ap, dLc_ap, dRng1_ap, rVar_u, rMov_fz, rMov_ol, rMov_oi, rTruS_some, rAnd_t, rAnd_f, rOr_t, rOr_f, rNot_s, rFldS_some, rIxS_some, rIxS2_some, rCallS_some, rCallR_some, rCallR2_ok, rCallR3_ok, rSlS_some, rSlS2_some, rCat_some, rCat2_some, rMt_some, rMt2_some, rMt3_some, rPart_some, retF_ok, isBl_bl, asInt_int, fOne_ap, fTwo_ap, aName_ap, RE.bind_ok, RE.toS_ok, RS.then_nx, RS.then_rt, RS.then_bk, RS.then_ct, turnS_nx, turnS_ct, turnS_bk, turnS_rt, opt_some, optO_some, optT_some, frz_ol, frz_fzd, frz_oi, List.getElem?_cons_zero, List.getElem?_cons_succ, List.set_cons_zero, List.set_cons_succ, List.map_cons, List.map_nil, List.length_cons, List.length_nil, List.replicate, List.cons_append, List.nil_append, Nat.reduceAdd, Nat.reduceSub, Nat.reduceLeDiff, if_true, Bool.false_eq_true, if_false, Bool.not_true, Bool.not_false, reduceIte, reduceCtorEq, run_ap, rMake_ok, rAsg_some, rM1_some, strD_str, rLc_some, rPar_two, rRng1_one, rIt_some, dIt_ap2, atI_0, atI_1, atI_2, ixN_2_0, ixN_2_1, back0_t, back0_f, ownL_z, ownL_s, rIxSet_some, Option.map_some, wipeG, hi, h, itemsD, Tr.kids]
  | _ =>
    simp only [Tr.kind, Tr.isNum] at hn
    simp only [Tr.toD] at h hi
    simp only [wb_is_expression_3, fb_is_expression_1, StI, fL_cons, rFL_some, fL_nil, dSeq_ap, dIfS_ap, dSet_ap, dDrop_ap, dRet_ap, dRetN_ap, dNx_ap, dBk_ap, dCt_ap, dFor_ap, dC_ap, dVar_ap, dMov_ap, dOp_ap, dUn_ap, dOpY_ap, dCmpT_ap, dCmp_ap, dTru_ap, dTruS_ap, dAndT_ap, dOrT_ap, dNotT_ap, dIf_ap, dAnd_ap, dOr_ap, dNot_ap, aNil_ap, aCons_ap, dTup_ap, dLst_ap, dFld_ap, dFldS_ap, dIxS_ap, dCall_ap, dCallS_ap, dYes_ap, dNoP_ap, dCallF_ap, dCallR_ap, dMeth_ap, dMake_ap, dOpF_ap, dSl_ap, dSlS_ap, dPart_ap, dAsg_ap, dMt_ap, aIxS_ap, rIxA_some, rIxB_ok, dFldSet_ap, rFSet_some, ownI_z, ownI_s, dCatS_ap, dPar_ap, dM1_ap, dLc_ap, dRng1_ap, rVar_u, rMov_fz, rMov_ol, rMov_oi, rTruS_some, rAnd_t, rAnd_f, rOr_t, rOr_f, rNot_s, rFldS_some, rIxS_some, rIxS2_some, rCallS_some, rCallR_some, rCallR2_ok, rCallR3_ok, rSlS_some, rSlS2_some, rCat_some, rCat2_some, rMt_some, rMt2_some, rMt3_some, rPart_some, retF_ok, isBl_bl, asInt_int, fOne_ap, fTwo_ap, aName_ap, RE.bind_ok, RE.toS_ok, RS.then_nx, RS.then_rt, RS.then_bk, RS.then_ct, turnS_nx, turnS_ct, turnS_bk, turnS_rt, opt_some, optO_some, optT_some, frz_ol, frz_fzd, frz_oi, List.getElem?_cons_zero, List.getElem?_cons_succ, List.set_cons_zero, List.set_cons_succ, List.map_cons, List.map_nil, List.length_cons, List.length_nil, List.replicate, List.cons_append, List.nil_append, Nat.reduceAdd, Nat.reduceSub, Nat.reduceLeDiff, if_true, Bool.false_eq_true, if_false, Bool.not_true, Bool.not_false, reduceIte, reduceCtorEq, run_ap, rMake_ok, rAsg_some, rM1_some, strD_str, rLc_some, rPar_two, rRng1_one, rIt_some, dIt_ap2, atI_0, atI_1, atI_2, ixN_2_0, ixN_2_1, back0_t, back0_f, ownL_z, ownL_s, rIxSet_some, Option.map_some, wipeG, mPop_app, pr, aTup_n2, fAdd, cGt, n1, n2, decide_false, itemsD, Tr.kids, lastY, List.append_nil, Tr.toD, fld_kind, fld_parts, hn, hi, h, mApp_one, b0, b1, List.length_append, List.append_assoc, show (2 : Nat) ≤ big by decide]
theorem isx_no (t : Tr) (l tt : Int) (st : List D) (x0 y3 y4 y5 : Option O) (hno : ¬ okN t l tt) :
    ∃ g', wb_is_expression_3 c (StI x0 tt (st ++ [pr c l t]) y3 y4 y5) = .rt (.fz (.bl false)) g' := by
  by_cases h1 : (200 : Int) < tt + 1
  · exact ⟨_, by simp only [wb_is_expression_3, fb_is_expression_1, StI, fL_cons, rFL_some, fL_nil, dSeq_ap, dIfS_ap, dSet_ap, dDrop_ap, dRet_ap, dRetN_ap, dNx_ap, dBk_ap, dCt_ap, dFor_ap, dC_ap, dVar_ap, dMov_ap, dOp_ap, dUn_ap, dOpY_ap, dCmpT_ap, dCmp_ap, dTru_ap, dTruS_ap, dAndT_ap, dOrT_ap, dNotT_ap, dIf_ap, dAnd_ap, dOr_ap, dNot_ap, aNil_ap, aCons_ap, dTup_ap, dLst_ap, dFld_ap, dFldS_ap, dIxS_ap, dCall_ap, dCallS_ap, dYes_ap, dNoP_ap, dCallF_ap, dCallR_ap, dMeth_ap, dMake_ap, dOpF_ap, dSl_ap, dSlS_ap, dPart_ap, dAsg_ap, dMt_ap, aIxS_ap, rIxA_some, rIxB_ok, dFldSet_ap, rFSet_some, ownI_z, ownI_s, dCatS_ap, dPar_ap, dM1_ap, dLc_ap, dRng1_ap, rVar_u, rMov_fz, rMov_ol, rMov_oi, rTruS_some, rAnd_t, rAnd_f, rOr_t, rOr_f, rNot_s, rFldS_some, rIxS_some, rIxS2_some, rCallS_some, rCallR_some, rCallR2_ok, rCallR3_ok, rSlS_some, rSlS2_some, rCat_some, rCat2_some, rMt_some, rMt2_some, rMt3_some, rPart_some, retF_ok, isBl_bl, asInt_int, fOne_ap, fTwo_ap, aName_ap, RE.bind_ok, RE.toS_ok, RS.then_nx, RS.then_rt, RS.then_bk, RS.then_ct, turnS_nx, turnS_ct, turnS_bk, turnS_rt, opt_some, optO_some, optT_some, frz_ol, frz_fzd, frz_oi, List.getElem?_cons_zero, List.getElem?_cons_succ, List.set_cons_zero, List.set_cons_succ, List.map_cons, List.map_nil, List.length_cons, List.length_nil, List.replicate, List.cons_append, List.nil_append, Nat.reduceAdd, Nat.reduceSub, Nat.reduceLeDiff, if_true, Bool.false_eq_true, if_false, Bool.not_true, Bool.not_false, reduceIte, reduceCtorEq, run_ap, rMake_ok, rAsg_some, rM1_some, strD_str, rLc_some, rPar_two, rRng1_one, rIt_some, dIt_ap2, atI_0, atI_1, atI_2, ixN_2_0, ixN_2_1, back0_t, back0_f, ownL_z, ownL_s, rIxSet_some, Option.map_some, wipeG, mPop_app, pr, aTup_n2, fAdd, cGt, h1, decide_true]; rfl⟩
  · by_cases h2 : (40 : Int) < l
    · exact ⟨_, by simp only [wb_is_expression_3, fb_is_expression_1, StI, fL_cons, rFL_some, fL_nil, dSeq_ap, dIfS_ap, dSet_ap, dDrop_ap, dRet_ap, dRetN_ap, dNx_ap, dBk_ap, dCt_ap, dFor_ap, dC_ap, dVar_ap, dMov_ap, dOp_ap, dUn_ap, dOpY_ap, dCmpT_ap, dCmp_ap, dTru_ap, dTruS_ap, dAndT_ap, dOrT_ap, dNotT_ap, dIf_ap, dAnd_ap, dOr_ap, dNot_ap, aNil_ap, aCons_ap, dTup_ap, dLst_ap, dFld_ap, dFldS_ap, dIxS_ap, dCall_ap, dCallS_ap, dYes_ap, dNoP_ap, dCallF_ap, dCallR_ap, dMeth_ap, dMake_ap, dOpF_ap, dSl_ap, dSlS_ap, dPart_ap, dAsg_ap, dMt_ap, aIxS_ap, rIxA_some, rIxB_ok, dFldSet_ap, rFSet_some, ownI_z, ownI_s, dCatS_ap, dPar_ap, dM1_ap, dLc_ap, dRng1_ap, rVar_u, rMov_fz, rMov_ol, rMov_oi, rTruS_some, rAnd_t, rAnd_f, rOr_t, rOr_f, rNot_s, rFldS_some, rIxS_some, rIxS2_some, rCallS_some, rCallR_some, rCallR2_ok, rCallR3_ok, rSlS_some, rSlS2_some, rCat_some, rCat2_some, rMt_some, rMt2_some, rMt3_some, rPart_some, retF_ok, isBl_bl, asInt_int, fOne_ap, fTwo_ap, aName_ap, RE.bind_ok, RE.toS_ok, RS.then_nx, RS.then_rt, RS.then_bk, RS.then_ct, turnS_nx, turnS_ct, turnS_bk, turnS_rt, opt_some, optO_some, optT_some, frz_ol, frz_fzd, frz_oi, List.getElem?_cons_zero, List.getElem?_cons_succ, List.set_cons_zero, List.set_cons_succ, List.map_cons, List.map_nil, List.length_cons, List.length_nil, List.replicate, List.cons_append, List.nil_append, Nat.reduceAdd, Nat.reduceSub, Nat.reduceLeDiff, if_true, Bool.false_eq_true, if_false, Bool.not_true, Bool.not_false, reduceIte, reduceCtorEq, run_ap, rMake_ok, rAsg_some, rM1_some, strD_str, rLc_some, rPar_two, rRng1_one, rIt_some, dIt_ap2, atI_0, atI_1, atI_2, ixN_2_0, ixN_2_1, back0_t, back0_f, ownL_z, ownL_s, rIxSet_some, Option.map_some, wipeG, mPop_app, pr, aTup_n2, fAdd, cGt, h1, h2, decide_true, decide_false]; rfl⟩
    · cases t with
      | num n d =>
        have h3 : Tr.long (.num n d) = true := by
          cases h : Tr.long (.num n d) with
          | true => rfl
          | false => exact absurd ⟨by omega, by omega, h⟩ hno
        have hq := long_ok c n d
        rw [h3] at hq
        have hq' : F_is_long c [.fz (.ins c.Ratio (ratFs n d))] = .ok (.fz (.bl true)) none := hq
        have hn := is_num (.num n d)
        simp only [Tr.kind, Tr.isNum] at hn
        exact ⟨_, by simp only [wb_is_expression_3, fb_is_expression_1, StI, fL_cons, rFL_some, fL_nil, dSeq_ap, dIfS_ap, dSet_ap, dDrop_ap, dRet_ap, dRetN_ap, dNx_ap, dBk_ap, dCt_ap, dFor_ap, dC_ap, dVar_ap, dMov_ap, dOp_ap, dUn_ap, dOpY_ap, dCmpT_ap, dCmp_ap, dTru_ap, dTruS_ap, dAndT_ap, dOrT_ap, dNotT_ap, dIf_ap, dAnd_ap, dOr_ap, dNot_ap, aNil_ap, aCons_ap, dTup_ap, dLst_ap, dFld_ap, dFldS_ap, dIxS_ap, dCall_ap, dCallS_ap, dYes_ap, dNoP_ap, dCallF_ap, dCallR_ap, dMeth_ap, dMake_ap, dOpF_ap, dSl_ap, dSlS_ap, dPart_ap, dAsg_ap, dMt_ap, aIxS_ap, rIxA_some, rIxB_ok, dFldSet_ap, rFSet_some, ownI_z, ownI_s, dCatS_ap, dPar_ap, dM1_ap, dLc_ap, dRng1_ap, rVar_u, rMov_fz, rMov_ol, rMov_oi, rTruS_some, rAnd_t, rAnd_f, rOr_t, rOr_f, rNot_s, rFldS_some, rIxS_some, rIxS2_some, rCallS_some, rCallR_some, rCallR2_ok, rCallR3_ok, rSlS_some, rSlS2_some, rCat_some, rCat2_some, rMt_some, rMt2_some, rMt3_some, rPart_some, retF_ok, isBl_bl, asInt_int, fOne_ap, fTwo_ap, aName_ap, RE.bind_ok, RE.toS_ok, RS.then_nx, RS.then_rt, RS.then_bk, RS.then_ct, turnS_nx, turnS_ct, turnS_bk, turnS_rt, opt_some, optO_some, optT_some, frz_ol, frz_fzd, frz_oi, List.getElem?_cons_zero, List.getElem?_cons_succ, List.set_cons_zero, List.set_cons_succ, List.map_cons, List.map_nil, List.length_cons, List.length_nil, List.replicate, List.cons_append, List.nil_append, Nat.reduceAdd, Nat.reduceSub, Nat.reduceLeDiff, if_true, Bool.false_eq_true, if_false, Bool.not_true, Bool.not_false, reduceIte, reduceCtorEq, run_ap, rMake_ok, rAsg_some, rM1_some, strD_str, rLc_some, rPar_two, rRng1_one, rIt_some, dIt_ap2, atI_0, atI_1, atI_2, ixN_2_0, ixN_2_1, back0_t, back0_f, ownL_z, ownL_s, rIxSet_some, Option.map_some, wipeG, mPop_app, pr, aTup_n2, fAdd, cGt, h1, h2, decide_false, Tr.toD, fld_kind, fld_parts, hn, fIx, ratD, hq', truthD]; rfl⟩
      | _ => exact absurd ⟨by omega, by omega, rfl⟩ hno
end K77
end

section
namespace K77
open PySem L2 L3
variable (c : Cs)
def Tr.nl : Tr → Bool
  | .num n d => !(Tr.num n d).long
  | .let_ _ => true | .star e => e.nl | .rev e => e.nl | .left _ e => e.nl | .right _ e => e.nl | .sum a b => a.nl && b.nl | .prod a b => a.nl && b.nl | .both a b => a.nl && b.nl | .shuf a b => a.nl && b.nl
def Good (t : Tr) (l tt : Int) : Prop := tt + t.cnt ≤ 200 ∧ l + t.dep ≤ 41 ∧ t.nl = true
theorem isx_test (x0 : Option O) (tt : Int) (st : List D) (d : D) (y3 y4 y5 : Option O) : wc_is_expression_2 c (StI x0 tt (st ++ [d]) y3 y4 y5) = .ok true (StI x0 tt (st ++ [d]) y3 y4 y5) := by
  simp only [wc_is_expression_2, StI, fL_cons, rFL_some, fL_nil, dSeq_ap, dIfS_ap, dSet_ap, dDrop_ap, dRet_ap, dRetN_ap, dNx_ap, dBk_ap, dCt_ap, dFor_ap, dC_ap, dVar_ap, dMov_ap, dOp_ap, dUn_ap, dOpY_ap, dCmpT_ap, dCmp_ap, dTru_ap, dTruS_ap, dAndT_ap, dOrT_ap, dNotT_ap, dIf_ap, dAnd_ap, dOr_ap, dNot_ap, aNil_ap, aCons_ap, dTup_ap, dLst_ap, dFld_ap, dFldS_ap, dIxS_ap, dCall_ap, dCallS_ap, dYes_ap, dNoP_ap, dCallF_ap, dCallR_ap, dMeth_ap, dMake_ap, dOpF_ap, dSl_ap, dSlS_ap, dPart_ap, dAsg_ap, dMt_ap, aIxS_ap, rIxA_some, rIxB_ok, dFldSet_ap, rFSet_some, ownI_z, ownI_s, dCatS_ap, dPar_ap, dM1_ap, dLc_ap, dRng1_ap, rVar_u, rMov_fz, rMov_ol, rMov_oi, rTruS_some, rAnd_t, rAnd_f, rOr_t, rOr_f, rNot_s, rFldS_some, rIxS_some, rIxS2_some, rCallS_some, rCallR_some, rCallR2_ok, rCallR3_ok, rSlS_some, rSlS2_some, rCat_some, rCat2_some, rMt_some, rMt2_some, rMt3_some, rPart_some, retF_ok, isBl_bl, asInt_int, fOne_ap, fTwo_ap, aName_ap, RE.bind_ok, RE.toS_ok, RS.then_nx, RS.then_rt, RS.then_bk, RS.then_ct, turnS_nx, turnS_ct, turnS_bk, turnS_rt, opt_some, optO_some, optT_some, frz_ol, frz_fzd, frz_oi, List.getElem?_cons_zero, List.getElem?_cons_succ, List.set_cons_zero, List.set_cons_succ, List.map_cons, List.map_nil, List.length_cons, List.length_nil, List.replicate, List.cons_append, List.nil_append, Nat.reduceAdd, Nat.reduceSub, Nat.reduceLeDiff, if_true, Bool.false_eq_true, if_false, Bool.not_true, Bool.not_false, reduceIte, reduceCtorEq, run_ap, rMake_ok, rAsg_some, rM1_some, strD_str, rLc_some, rPar_two, rRng1_one, rIt_some, dIt_ap2, atI_0, atI_1, atI_2, ixN_2_0, ixN_2_1, back0_t, back0_f, ownL_z, ownL_s, rIxSet_some, Option.map_some, wipeG, truth_app]
theorem isx_end (x0 : Option O) (tt : Int) (y3 y4 y5 : Option O) : wc_is_expression_2 c (StI x0 tt [] y3 y4 y5) = .ok false (StI x0 tt [] y3 y4 y5) := by
  simp only [wc_is_expression_2, StI, fL_cons, rFL_some, fL_nil, dSeq_ap, dIfS_ap, dSet_ap, dDrop_ap, dRet_ap, dRetN_ap, dNx_ap, dBk_ap, dCt_ap, dFor_ap, dC_ap, dVar_ap, dMov_ap, dOp_ap, dUn_ap, dOpY_ap, dCmpT_ap, dCmp_ap, dTru_ap, dTruS_ap, dAndT_ap, dOrT_ap, dNotT_ap, dIf_ap, dAnd_ap, dOr_ap, dNot_ap, aNil_ap, aCons_ap, dTup_ap, dLst_ap, dFld_ap, dFldS_ap, dIxS_ap, dCall_ap, dCallS_ap, dYes_ap, dNoP_ap, dCallF_ap, dCallR_ap, dMeth_ap, dMake_ap, dOpF_ap, dSl_ap, dSlS_ap, dPart_ap, dAsg_ap, dMt_ap, aIxS_ap, rIxA_some, rIxB_ok, dFldSet_ap, rFSet_some, ownI_z, ownI_s, dCatS_ap, dPar_ap, dM1_ap, dLc_ap, dRng1_ap, rVar_u, rMov_fz, rMov_ol, rMov_oi, rTruS_some, rAnd_t, rAnd_f, rOr_t, rOr_f, rNot_s, rFldS_some, rIxS_some, rIxS2_some, rCallS_some, rCallR_some, rCallR2_ok, rCallR3_ok, rSlS_some, rSlS2_some, rCat_some, rCat2_some, rMt_some, rMt2_some, rMt3_some, rPart_some, retF_ok, isBl_bl, asInt_int, fOne_ap, fTwo_ap, aName_ap, RE.bind_ok, RE.toS_ok, RS.then_nx, RS.then_rt, RS.then_bk, RS.then_ct, turnS_nx, turnS_ct, turnS_bk, turnS_rt, opt_some, optO_some, optT_some, frz_ol, frz_fzd, frz_oi, List.getElem?_cons_zero, List.getElem?_cons_succ, List.set_cons_zero, List.set_cons_succ, List.map_cons, List.map_nil, List.length_cons, List.length_nil, List.replicate, List.cons_append, List.nil_append, Nat.reduceAdd, Nat.reduceSub, Nat.reduceLeDiff, if_true, Bool.false_eq_true, if_false, Bool.not_true, Bool.not_false, reduceIte, reduceCtorEq, run_ap, rMake_ok, rAsg_some, rM1_some, strD_str, rLc_some, rPar_two, rRng1_one, rIt_some, dIt_ap2, atI_0, atI_1, atI_2, ixN_2_0, ixN_2_1, back0_t, back0_f, ownL_z, ownL_s, rIxSet_some, Option.map_some, wipeG, truthD, List.isEmpty_nil]
def Yes (x0 : Option O) (t : Tr) : Prop := ∀ (l tt : Int) (st : List D) (y3 y4 y5 : Option O), st.length + t.cnt + 2 ≤ big → Good t l tt → ∃ z3 z4 z5,
    Runs (wc_is_expression_2 c) (wb_is_expression_3 c) t.cnt (StI x0 tt (st ++ [pr c l t]) y3 y4 y5) (StI x0 (tt + t.cnt) st z3 z4 z5)
def Stops (g : Gm) : Prop := ∃ n g1 g', Runs (wc_is_expression_2 c) (wb_is_expression_3 c) n g g1 ∧ wc_is_expression_2 c g1 = .ok true g1 ∧ wb_is_expression_3 c g1 = .rt (.fz (.bl false)) g'
def Nope (x0 : Option O) (t : Tr) : Prop := ∀ (l tt : Int) (st : List D) (y3 y4 y5 : Option O), st.length + t.cnt + 2 ≤ big → ¬ Good t l tt → Stops c (StI x0 tt (st ++ [pr c l t]) y3 y4 y5)
theorem Stops.after {n : Nat} {g g1 : Gm} (r : Runs (wc_is_expression_2 c) (wb_is_expression_3 c) n g g1) (h : Stops c g1) : Stops c g := by
  obtain ⟨m, g2, g', r2, h1, h2⟩ := h
  exact ⟨_, g2, g', r.trans r2, h1, h2⟩
theorem stops_no (t : Tr) (l tt : Int) (st : List D) (x0 y3 y4 y5 : Option O) (hno : ¬ okN t l tt) : Stops c (StI x0 tt (st ++ [pr c l t]) y3 y4 y5) := by
  obtain ⟨g', h⟩ := isx_no c t l tt st x0 y3 y4 y5 hno
  exact ⟨0, _, g', .refl, isx_test c _ _ _ _ _ _ _, h⟩
theorem walk_leaf (x0 : Option O) (t : Tr) (hk : t.kids = []) (hc : t.cnt = 1) (hd : t.dep = 1) (hn : t.nl = !t.long) : Yes c x0 t ∧ Nope c x0 t := by
  have key : ∀ l tt, Good t l tt ↔ okN t l tt := fun l tt => by
    unfold Good okN
    rw [hc, hd, hn]
    constructor
    · rintro ⟨h1, h2, h3⟩
      exact ⟨by omega, by omega, by simpa using h3⟩
    · rintro ⟨h1, h2, h3⟩
      exact ⟨by omega, by omega, by rw [h3]; rfl⟩
  refine ⟨fun l tt st y3 y4 y5 hl g => ?_, fun l tt st y3 y4 y5 hl g => stops_no c t l tt st x0 y3 y4 y5 fun h => g ((key l tt).mpr h)⟩
  have h := isx_body c t l tt st (by omega) x0 y3 y4 y5 ((key l tt).mp g)
  rw [hk, List.map_nil, List.append_nil] at h
  rw [hc]
  exact ⟨_, _, _, .one (isx_test c _ _ _ _ _ _ _) h⟩
theorem walk_one (x0 : Option O) (t a : Tr) (ih : Yes c x0 a ∧ Nope c x0 a) (hk : t.kids = [a]) (hc : t.cnt = 1 + a.cnt) (hd : t.dep = 1 + a.dep) (hn : t.nl = a.nl) (hl0 : t.long = false) : Yes c x0 t ∧ Nope c x0 t := by
  have ca := cnt_pos a
  have da := dep_pos a
  have fwd : ∀ l tt, Good t l tt → okN t l tt ∧ Good a (l + 1) (tt + 1) := fun l tt ⟨h1, h2, h3⟩ => by
    rw [hc] at h1; rw [hd] at h2; rw [hn] at h3
    exact ⟨⟨by omega, by omega, hl0⟩, by omega, by omega, h3⟩
  have bwd : ∀ l tt, okN t l tt → Good a (l + 1) (tt + 1) → Good t l tt := fun l tt h ⟨h1, h2, h3⟩ => by
    refine ⟨by rw [hc]; omega, by rw [hd]; omega, by rw [hn]; exact h3⟩
  refine ⟨fun l tt st y3 y4 y5 hl g => ?_, fun l tt st y3 y4 y5 hl g => ?_⟩
  · obtain ⟨g1, g2⟩ := fwd l tt g
    have h := isx_body c t l tt st (by omega) x0 y3 y4 y5 g1
    rw [hk, List.map_cons, List.map_nil] at h
    obtain ⟨z3, z4, z5, r⟩ := ih.1 (l + 1) (tt + 1) st _ _ _ (by omega) g2
    have r2 := (Runs.one (isx_test c _ _ _ _ _ _ _) h).trans r
    have e2 : tt + 1 + (a.cnt : Int) = tt + (t.cnt : Int) := by rw [hc]; omega
    rw [e2, ← hc] at r2
    exact ⟨_, _, _, r2⟩
  · by_cases ho : okN t l tt
    · have h := isx_body c t l tt st (by omega) x0 y3 y4 y5 ho
      rw [hk, List.map_cons, List.map_nil] at h
      exact Stops.after c (Runs.one (isx_test c _ _ _ _ _ _ _) h) (ih.2 (l + 1) (tt + 1) st _ _ _ (by omega) fun q => g (bwd l tt ho q))
    · exact stops_no c t l tt st x0 y3 y4 y5 ho
theorem walk_two (x0 : Option O) (t a b : Tr) (iha : Yes c x0 a ∧ Nope c x0 a) (ihb : Yes c x0 b ∧ Nope c x0 b) (hk : t.kids = [a, b]) (hc : t.cnt = 1 + a.cnt + b.cnt) (hd : t.dep = 1 + max a.dep b.dep) (hn : t.nl = (a.nl && b.nl)) (hl0 : t.long = false) : Yes c x0 t ∧ Nope c x0 t := by
  have ca := cnt_pos a
  have da := dep_pos a
  have cb := cnt_pos b
  have db := dep_pos b
  have fwd : ∀ l tt, Good t l tt → okN t l tt ∧ Good b (l + 1) (tt + 1) ∧ Good a (l + 1) (tt + 1 + b.cnt) := fun l tt ⟨h1, h2, h3⟩ => by
    rw [hc] at h1; rw [hd] at h2; rw [hn, Bool.and_eq_true] at h3
    exact ⟨⟨by omega, by omega, hl0⟩, ⟨by omega, by omega, h3.2⟩, by omega, by omega, h3.1⟩
  have bwd : ∀ l tt, okN t l tt → Good b (l + 1) (tt + 1) → Good a (l + 1) (tt + 1 + b.cnt) → Good t l tt := fun l tt h ⟨h1, h2, h3⟩ ⟨k1, k2, k3⟩ => by
    refine ⟨by rw [hc]; omega, by rw [hd]; omega, by rw [hn, h3, k3]; rfl⟩
  refine ⟨fun l tt st y3 y4 y5 hl g => ?_, fun l tt st y3 y4 y5 hl g => ?_⟩
  · obtain ⟨g1, g2, g3⟩ := fwd l tt g
    have h := isx_body c t l tt st (by omega) x0 y3 y4 y5 g1
    rw [hk, List.map_cons, List.map_cons, List.map_nil, show st ++ [pr c (l + 1) a, pr c (l + 1) b] = (st ++ [pr c (l + 1) a]) ++ [pr c (l + 1) b] by simp] at h
    obtain ⟨z3, z4, z5, r⟩ := ihb.1 (l + 1) (tt + 1) (st ++ [pr c (l + 1) a]) _ _ _ (by rw [List.length_append, List.length_singleton]; omega) g2
    obtain ⟨w3, w4, w5, r'⟩ := iha.1 (l + 1) (tt + 1 + b.cnt) st z3 z4 z5 (by omega) g3
    have r2 := ((Runs.one (isx_test c _ _ _ _ _ _ _) h).trans r).trans r'
    have e2 : tt + 1 + (b.cnt : Int) + (a.cnt : Int) = tt + (t.cnt : Int) := by rw [hc]; omega
    have e3 : 1 + b.cnt + a.cnt = t.cnt := by omega
    rw [e2, e3] at r2
    exact ⟨_, _, _, r2⟩
  · by_cases ho : okN t l tt
    · have h := isx_body c t l tt st (by omega) x0 y3 y4 y5 ho
      rw [hk, List.map_cons, List.map_cons, List.map_nil, show st ++ [pr c (l + 1) a, pr c (l + 1) b] = (st ++ [pr c (l + 1) a]) ++ [pr c (l + 1) b] by simp] at h
      refine Stops.after c (Runs.one (isx_test c _ _ _ _ _ _ _) h) ?_
      by_cases hb : Good b (l + 1) (tt + 1)
      · obtain ⟨z3, z4, z5, r⟩ := ihb.1 (l + 1) (tt + 1) (st ++ [pr c (l + 1) a]) (some (.fz (t.toD c))) (some (.fz (.int l))) (lastY c t y5) (by rw [List.length_append, List.length_singleton]; omega) hb
        exact Stops.after c r (iha.2 (l + 1) (tt + 1 + b.cnt) st z3 z4 z5 (by omega) fun q => g (bwd l tt ho hb q))
      · exact ihb.2 (l + 1) (tt + 1) (st ++ [pr c (l + 1) a]) _ _ _ (by rw [List.length_append, List.length_singleton]; omega) hb
    · exact stops_no c t l tt st x0 y3 y4 y5 ho
theorem isx_walk (x0 : Option O) (t : Tr) : Yes c x0 t ∧ Nope c x0 t := by
  induction t with
  | num n d => exact walk_leaf c x0 _ rfl rfl rfl rfl
  | let_ a => exact walk_leaf c x0 _ rfl rfl rfl rfl
  | star e ih => exact walk_one c x0 _ e ih rfl rfl rfl rfl rfl
  | rev e ih => exact walk_one c x0 _ e ih rfl rfl rfl rfl rfl
  | left w e ih => exact walk_one c x0 _ e ih rfl rfl rfl rfl rfl
  | right w e ih => exact walk_one c x0 _ e ih rfl rfl rfl rfl rfl
  | sum a b iha ihb => exact walk_two c x0 _ a b iha ihb rfl rfl rfl rfl rfl
  | prod a b iha ihb => exact walk_two c x0 _ a b iha ihb rfl rfl rfl rfl rfl
  | both a b iha ihb => exact walk_two c x0 _ a b iha ihb rfl rfl rfl rfl rfl
  | shuf a b iha ihb => exact walk_two c x0 _ a b iha ihb rfl rfl rfl rfl rfl
def Tr.fits (t : Tr) : Bool := decide (t.cnt ≤ 200) && decide (t.dep ≤ 40) && t.nl
theorem isE (t : Tr) : isiD (kit c) (t.toD c) (.adr c.Expression) = some (.fz (.bl true)) := by
  obtain ⟨ps, h⟩ := t.toD_ex c
  rw [h]; exact isi_E c _
theorem isx_ok (t : Tr) (h : t.cnt + 2 ≤ big) : F_is_expression c [.fz (t.toD c)] = .ok (.fz (.bl t.fits)) none := by
  obtain ⟨hy, hn⟩ := isx_walk c (some (.fz (t.toD c))) t
  by_cases hg : Good t 1 0
  · obtain ⟨z3, z4, z5, r⟩ := hy 1 0 [] none none none (by simpa using h) hg
    have hw := r.done (isx_end c _ _ _ _ _)
    have hw' : dWhile (wc_is_expression_2 c) (wb_is_expression_3 c) [some (.fz (t.toD c)), some (.fz (.int 0)), some (.ol [.tup [t.toD c, .int 1]]), none, none, none] = .nx [some (.fz (t.toD c)), some (.fz (.int (0 + (t.cnt : Int)))), some (.ol []), z3, z4, z5] := hw
    have hf : t.fits = true := by
      obtain ⟨h1, h2, h3⟩ := hg
      unfold Tr.fits
      rw [h3, decide_eq_true (by omega), decide_eq_true (by omega)]; rfl
    rw [hf]
    simp only [F_is_expression, m_is_expression, fL_cons, rFL_some, fL_nil, dSeq_ap, dIfS_ap, dSet_ap, dDrop_ap, dRet_ap, dRetN_ap, dNx_ap, dBk_ap, dCt_ap, dFor_ap, dC_ap, dVar_ap, dMov_ap, dOp_ap, dUn_ap, dOpY_ap, dCmpT_ap, dCmp_ap, dTru_ap, dTruS_ap, dAndT_ap, dOrT_ap, dNotT_ap, dIf_ap, dAnd_ap, dOr_ap, dNot_ap, aNil_ap, aCons_ap, dTup_ap, dLst_ap, dFld_ap, dFldS_ap, dIxS_ap, dCall_ap, dCallS_ap, dYes_ap, dNoP_ap, dCallF_ap, dCallR_ap, dMeth_ap, dMake_ap, dOpF_ap, dSl_ap, dSlS_ap, dPart_ap, dAsg_ap, dMt_ap, aIxS_ap, rIxA_some, rIxB_ok, dFldSet_ap, rFSet_some, ownI_z, ownI_s, dCatS_ap, dPar_ap, dM1_ap, dLc_ap, dRng1_ap, rVar_u, rMov_fz, rMov_ol, rMov_oi, rTruS_some, rAnd_t, rAnd_f, rOr_t, rOr_f, rNot_s, rFldS_some, rIxS_some, rIxS2_some, rCallS_some, rCallR_some, rCallR2_ok, rCallR3_ok, rSlS_some, rSlS2_some, rCat_some, rCat2_some, rMt_some, rMt2_some, rMt3_some, rPart_some, retF_ok, isBl_bl, asInt_int, fOne_ap, fTwo_ap, aName_ap, RE.bind_ok, RE.toS_ok, RS.then_nx, RS.then_rt, RS.then_bk, RS.then_ct, turnS_nx, turnS_ct, turnS_bk, turnS_rt, opt_some, optO_some, optT_some, frz_ol, frz_fzd, frz_oi, List.getElem?_cons_zero, List.getElem?_cons_succ, List.set_cons_zero, List.set_cons_succ, List.map_cons, List.map_nil, List.length_cons, List.length_nil, List.replicate, List.cons_append, List.nil_append, Nat.reduceAdd, Nat.reduceSub, Nat.reduceLeDiff, if_true, Bool.false_eq_true, if_false, Bool.not_true, Bool.not_false, reduceIte, reduceCtorEq, run_ap, rMake_ok, rAsg_some, rM1_some, strD_str, rLc_some, rPar_two, rRng1_one, rIt_some, dIt_ap2, atI_0, atI_1, atI_2, ixN_2_0, ixN_2_1, back0_t, back0_f, ownL_z, ownL_s, rIxSet_some, Option.map_some, wipeG, isE, truthD, hw', show (1 : Nat) ≤ big by decide, show (2 : Nat) ≤ big by decide]
  · obtain ⟨n, g1, g', r, h1, h2⟩ := hn 1 0 [] none none none (by simpa using h) hg
    have hw := r.ret h1 h2
    have hw' : dWhile (wc_is_expression_2 c) (wb_is_expression_3 c) [some (.fz (t.toD c)), some (.fz (.int 0)), some (.ol [.tup [t.toD c, .int 1]]), none, none, none] = .rt (.fz (.bl false)) g' := hw
    have hf : t.fits = false := by
      cases q : t.fits with
      | false => rfl
      | true =>
        unfold Tr.fits at q
        simp only [Bool.and_eq_true, decide_eq_true_eq] at q
        exact absurd ⟨by omega, by omega, q.2⟩ hg
    rw [hf]
    simp only [F_is_expression, m_is_expression, fL_cons, rFL_some, fL_nil, dSeq_ap, dIfS_ap, dSet_ap, dDrop_ap, dRet_ap, dRetN_ap, dNx_ap, dBk_ap, dCt_ap, dFor_ap, dC_ap, dVar_ap, dMov_ap, dOp_ap, dUn_ap, dOpY_ap, dCmpT_ap, dCmp_ap, dTru_ap, dTruS_ap, dAndT_ap, dOrT_ap, dNotT_ap, dIf_ap, dAnd_ap, dOr_ap, dNot_ap, aNil_ap, aCons_ap, dTup_ap, dLst_ap, dFld_ap, dFldS_ap, dIxS_ap, dCall_ap, dCallS_ap, dYes_ap, dNoP_ap, dCallF_ap, dCallR_ap, dMeth_ap, dMake_ap, dOpF_ap, dSl_ap, dSlS_ap, dPart_ap, dAsg_ap, dMt_ap, aIxS_ap, rIxA_some, rIxB_ok, dFldSet_ap, rFSet_some, ownI_z, ownI_s, dCatS_ap, dPar_ap, dM1_ap, dLc_ap, dRng1_ap, rVar_u, rMov_fz, rMov_ol, rMov_oi, rTruS_some, rAnd_t, rAnd_f, rOr_t, rOr_f, rNot_s, rFldS_some, rIxS_some, rIxS2_some, rCallS_some, rCallR_some, rCallR2_ok, rCallR3_ok, rSlS_some, rSlS2_some, rCat_some, rCat2_some, rMt_some, rMt2_some, rMt3_some, rPart_some, retF_ok, isBl_bl, asInt_int, fOne_ap, fTwo_ap, aName_ap, RE.bind_ok, RE.toS_ok, RS.then_nx, RS.then_rt, RS.then_bk, RS.then_ct, turnS_nx, turnS_ct, turnS_bk, turnS_rt, opt_some, optO_some, optT_some, frz_ol, frz_fzd, frz_oi, List.getElem?_cons_zero, List.getElem?_cons_succ, List.set_cons_zero, List.set_cons_succ, List.map_cons, List.map_nil, List.length_cons, List.length_nil, List.replicate, List.cons_append, List.nil_append, Nat.reduceAdd, Nat.reduceSub, Nat.reduceLeDiff, if_true, Bool.false_eq_true, if_false, Bool.not_true, Bool.not_false, reduceIte, reduceCtorEq, run_ap, rMake_ok, rAsg_some, rM1_some, strD_str, rLc_some, rPar_two, rRng1_one, rIt_some, dIt_ap2, atI_0, atI_1, atI_2, ixN_2_0, ixN_2_1, back0_t, back0_f, ownL_z, ownL_s, rIxSet_some, Option.map_some, wipeG, isE, truthD, hw', show (1 : Nat) ≤ big by decide, show (2 : Nat) ≤ big by decide]
end K77
end

section
namespace K77
open PySem L2 L3
variable (c : Cs)
/-! ### equality -/
theorem eq_kinds {k1 k2 : Str} (h : k1 ≠ k2) (ps1 ps2 : List D) (F : List O → RF) : runD 2 false (m_Expression_eq c F) [.fz (exD c k1 ps1), .fz (exD c k2 ps2)] = .ok (.fz (.bl false)) none := by
  have hi : isiD (kit c) (exD c k2 ps2) (.adr c.Expression) = some (.fz (.bl true)) := isi_E c _
  simp only [m_Expression_eq, fL_cons, rFL_some, fL_nil, dSeq_ap, dIfS_ap, dSet_ap, dDrop_ap, dRet_ap, dRetN_ap, dNx_ap, dBk_ap, dCt_ap, dFor_ap, dC_ap, dVar_ap, dMov_ap, dOp_ap, dUn_ap, dOpY_ap, dCmpT_ap, dCmp_ap, dTru_ap, dTruS_ap, dAndT_ap, dOrT_ap, dNotT_ap, dIf_ap, dAnd_ap, dOr_ap, dNot_ap, aNil_ap, aCons_ap, dTup_ap, dLst_ap, dFld_ap, dFldS_ap, dIxS_ap, dCall_ap, dCallS_ap, dYes_ap, dNoP_ap, dCallF_ap, dCallR_ap, dMeth_ap, dMake_ap, dOpF_ap, dSl_ap, dSlS_ap, dPart_ap, dAsg_ap, dMt_ap, aIxS_ap, rIxA_some, rIxB_ok, dFldSet_ap, rFSet_some, ownI_z, ownI_s, dCatS_ap, dPar_ap, dM1_ap, dLc_ap, dRng1_ap, rVar_u, rMov_fz, rMov_ol, rMov_oi, rTruS_some, rAnd_t, rAnd_f, rOr_t, rOr_f, rNot_s, rFldS_some, rIxS_some, rIxS2_some, rCallS_some, rCallR_some, rCallR2_ok, rCallR3_ok, rSlS_some, rSlS2_some, rCat_some, rCat2_some, rMt_some, rMt2_some, rMt3_some, rPart_some, retF_ok, isBl_bl, asInt_int, fOne_ap, fTwo_ap, aName_ap, RE.bind_ok, RE.toS_ok, RS.then_nx, RS.then_rt, RS.then_bk, RS.then_ct, turnS_nx, turnS_ct, turnS_bk, turnS_rt, opt_some, optO_some, optT_some, frz_ol, frz_fzd, frz_oi, List.getElem?_cons_zero, List.getElem?_cons_succ, List.set_cons_zero, List.set_cons_succ, List.map_cons, List.map_nil, List.length_cons, List.length_nil, List.replicate, List.cons_append, List.nil_append, Nat.reduceAdd, Nat.reduceSub, Nat.reduceLeDiff, if_true, Bool.false_eq_true, if_false, Bool.not_true, Bool.not_false, reduceIte, reduceCtorEq, run_ap, rMake_ok, rAsg_some, rM1_some, strD_str, rLc_some, rPar_two, rRng1_one, rIt_some, dIt_ap2, atI_0, atI_1, atI_2, ixN_2_0, ixN_2_1, back0_t, back0_f, ownL_z, ownL_s, rIxSet_some, Option.map_some, wipeG, hi, fld_kind, cEq_str, h, decide_false]
theorem eq_parts {k1 : Str} {ps1 ps2 : List D} {F : List O → RF} {b : Bool} (h : cEqA (psiP c F) (.tup ps1) (.tup ps2) = some b) : runD 2 false (m_Expression_eq c F) [.fz (exD c k1 ps1), .fz (exD c k1 ps2)] = .ok (.fz (.bl b)) none := by
  have hi : isiD (kit c) (exD c k1 ps2) (.adr c.Expression) = some (.fz (.bl true)) := isi_E c _
  simp only [m_Expression_eq, fL_cons, rFL_some, fL_nil, dSeq_ap, dIfS_ap, dSet_ap, dDrop_ap, dRet_ap, dRetN_ap, dNx_ap, dBk_ap, dCt_ap, dFor_ap, dC_ap, dVar_ap, dMov_ap, dOp_ap, dUn_ap, dOpY_ap, dCmpT_ap, dCmp_ap, dTru_ap, dTruS_ap, dAndT_ap, dOrT_ap, dNotT_ap, dIf_ap, dAnd_ap, dOr_ap, dNot_ap, aNil_ap, aCons_ap, dTup_ap, dLst_ap, dFld_ap, dFldS_ap, dIxS_ap, dCall_ap, dCallS_ap, dYes_ap, dNoP_ap, dCallF_ap, dCallR_ap, dMeth_ap, dMake_ap, dOpF_ap, dSl_ap, dSlS_ap, dPart_ap, dAsg_ap, dMt_ap, aIxS_ap, rIxA_some, rIxB_ok, dFldSet_ap, rFSet_some, ownI_z, ownI_s, dCatS_ap, dPar_ap, dM1_ap, dLc_ap, dRng1_ap, rVar_u, rMov_fz, rMov_ol, rMov_oi, rTruS_some, rAnd_t, rAnd_f, rOr_t, rOr_f, rNot_s, rFldS_some, rIxS_some, rIxS2_some, rCallS_some, rCallR_some, rCallR2_ok, rCallR3_ok, rSlS_some, rSlS2_some, rCat_some, rCat2_some, rMt_some, rMt2_some, rMt3_some, rPart_some, retF_ok, isBl_bl, asInt_int, fOne_ap, fTwo_ap, aName_ap, RE.bind_ok, RE.toS_ok, RS.then_nx, RS.then_rt, RS.then_bk, RS.then_ct, turnS_nx, turnS_ct, turnS_bk, turnS_rt, opt_some, optO_some, optT_some, frz_ol, frz_fzd, frz_oi, List.getElem?_cons_zero, List.getElem?_cons_succ, List.set_cons_zero, List.set_cons_succ, List.map_cons, List.map_nil, List.length_cons, List.length_nil, List.replicate, List.cons_append, List.nil_append, Nat.reduceAdd, Nat.reduceSub, Nat.reduceLeDiff, if_true, Bool.false_eq_true, if_false, Bool.not_true, Bool.not_false, reduceIte, reduceCtorEq, run_ap, rMake_ok, rAsg_some, rM1_some, strD_str, rLc_some, rPar_two, rRng1_one, rIt_some, dIt_ap2, atI_0, atI_1, atI_2, ixN_2_0, ixN_2_1, back0_t, back0_f, ownL_z, ownL_s, rIxSet_some, Option.map_some, wipeG, hi, fld_kind, fld_parts, cEq_str, decide_true, h]
theorem nf_E (fs : List (Str × D)) : nfD (kit c) c.Expression (.ins c.Expression fs) = true := by simp [nfD, tyE, nfV]
theorem nf_R (fs : List (Str × D)) : nfD (kit c) c.Ratio (.ins c.Ratio fs) = true := by simp [nfD, tyE, nfV]
theorem rat_self (n d : Int) : F_Ratio_eq c [.fz (ratD c n d), .fz (ratD c n d)] = .ok (.fz (.bl true)) none := by
  have hi : isiD (kit c) (ratD c n d) (.adr c.Ratio) = some (.fz (.bl true)) := isi_R c _
  simp only [F_Ratio_eq, m_Ratio_eq, fL_cons, rFL_some, fL_nil, dSeq_ap, dIfS_ap, dSet_ap, dDrop_ap, dRet_ap, dRetN_ap, dNx_ap, dBk_ap, dCt_ap, dFor_ap, dC_ap, dVar_ap, dMov_ap, dOp_ap, dUn_ap, dOpY_ap, dCmpT_ap, dCmp_ap, dTru_ap, dTruS_ap, dAndT_ap, dOrT_ap, dNotT_ap, dIf_ap, dAnd_ap, dOr_ap, dNot_ap, aNil_ap, aCons_ap, dTup_ap, dLst_ap, dFld_ap, dFldS_ap, dIxS_ap, dCall_ap, dCallS_ap, dYes_ap, dNoP_ap, dCallF_ap, dCallR_ap, dMeth_ap, dMake_ap, dOpF_ap, dSl_ap, dSlS_ap, dPart_ap, dAsg_ap, dMt_ap, aIxS_ap, rIxA_some, rIxB_ok, dFldSet_ap, rFSet_some, ownI_z, ownI_s, dCatS_ap, dPar_ap, dM1_ap, dLc_ap, dRng1_ap, rVar_u, rMov_fz, rMov_ol, rMov_oi, rTruS_some, rAnd_t, rAnd_f, rOr_t, rOr_f, rNot_s, rFldS_some, rIxS_some, rIxS2_some, rCallS_some, rCallR_some, rCallR2_ok, rCallR3_ok, rSlS_some, rSlS2_some, rCat_some, rCat2_some, rMt_some, rMt2_some, rMt3_some, rPart_some, retF_ok, isBl_bl, asInt_int, fOne_ap, fTwo_ap, aName_ap, RE.bind_ok, RE.toS_ok, RS.then_nx, RS.then_rt, RS.then_bk, RS.then_ct, turnS_nx, turnS_ct, turnS_bk, turnS_rt, opt_some, optO_some, optT_some, frz_ol, frz_fzd, frz_oi, List.getElem?_cons_zero, List.getElem?_cons_succ, List.set_cons_zero, List.set_cons_succ, List.map_cons, List.map_nil, List.length_cons, List.length_nil, List.replicate, List.cons_append, List.nil_append, Nat.reduceAdd, Nat.reduceSub, Nat.reduceLeDiff, if_true, Bool.false_eq_true, if_false, Bool.not_true, Bool.not_false, reduceIte, reduceCtorEq, run_ap, rMake_ok, rAsg_some, rM1_some, strD_str, rLc_some, rPar_two, rRng1_one, rIt_some, dIt_ap2, atI_0, atI_1, atI_2, ixN_2_0, ixN_2_1, back0_t, back0_f, ownL_z, ownL_s, rIxSet_some, Option.map_some, wipeG, hi, look_n, look_d, cEq_int, decide_true]
theorem eqs_tup {F : List O → RF} {ps1 ps2 : List D} {b : Bool} (h : eqs (elD (orD (owD c.Expression (nfD (kit c) c.Expression) F) (owD c.Ratio (nfD (kit c) c.Ratio) (F_Ratio_eq c)))) ps1 ps2 = some b) : cEqA (psiP c F) (.tup ps1) (.tup ps2) = some b := h
theorem el_str (ψ : DQ) (w : Str) : elD ψ (.str w) (.str w) = some true := by
  unfold elD
  simp only [flatD]
  rw [eqV_refl (d := .str w) rfl]
theorem el_E {F : List O → RF} {ψ : DQ} (t : Tr) (h : F [.fz (t.toD c), .fz (t.toD c)] = .ok (.fz (.bl true)) none) : elD (orD (owD c.Expression (nfD (kit c) c.Expression) F) ψ) (t.toD c) (t.toD c) = some true := by
  obtain ⟨ps, he⟩ := t.toD_ex c
  rw [he] at h ⊢
  show orD (owD c.Expression (nfD (kit c) c.Expression) F) ψ (exD c t.kind ps) (exD c t.kind ps) = some true
  unfold orD owD
  rw [if_pos ⟨by simp [exD, isC], nf_E c _⟩, h]
theorem el_R {F : List O → RF} (hne : c.Ratio ≠ c.Expression) (n d : Int) : elD (orD (owD c.Expression (nfD (kit c) c.Expression) F) (owD c.Ratio (nfD (kit c) c.Ratio) (F_Ratio_eq c))) (ratD c n d) (ratD c n d) = some true := by
  show orD _ _ (ratD c n d) (ratD c n d) = some true
  unfold orD owD
  rw [if_neg (by simp [ratD, isC, hne]), if_pos ⟨by simp [ratD, isC], nf_R c _⟩, rat_self]
theorem eq_self (hne : c.Ratio ≠ c.Expression) : ∀ (t : Tr) (k : Nat), t.dep ≤ k → F_Expression_eq c k [.fz (t.toD c), .fz (t.toD c)] = .ok (.fz (.bl true)) none := by
  intro t
  have un : ∀ (k : Nat) (s : Str) (ps : List D), (∀ k', k = k' + 1 → eqs (elD (orD (owD c.Expression (nfD (kit c) c.Expression) (F_Expression_eq c k')) (owD c.Ratio (nfD (kit c) c.Ratio) (F_Ratio_eq c)))) ps ps = some true) → 1 ≤ k → F_Expression_eq c k [.fz (exD c s ps), .fz (exD c s ps)] = .ok (.fz (.bl true)) none := fun k s ps h hk => by
    obtain ⟨k', rfl⟩ : ∃ k', k = k' + 1 := ⟨k - 1, by omega⟩
    exact eq_parts c (eqs_tup c (h k' rfl))
  have cons2 : ∀ {ψ : DQ} {a : D} {l : List D}, ψ a a = some true → eqs ψ l l = some true → eqs ψ (a :: l) (a :: l) = some true := fun {ψ a l} h1 h2 => by
    unfold eqs; rw [h1]; exact h2
  have nil2 : ∀ {ψ : DQ}, eqs ψ [] [] = some true := fun {ψ} => rfl
  induction t with
  | num n d => intro k hk; exact un k _ _ (fun k' e => cons2 (el_R c hne n d) nil2) hk
  | let_ a => intro k hk; exact un k _ _ (fun k' e => cons2 (el_str _ a) nil2) hk
  | star e ih => intro k hk; simp only [Tr.dep] at hk; exact un k _ _ (fun k' q => cons2 (el_E c e (ih k' (by omega))) nil2) (by omega)
  | rev e ih => intro k hk; simp only [Tr.dep] at hk; exact un k _ _ (fun k' q => cons2 (el_E c e (ih k' (by omega))) nil2) (by omega)
  | left w e ih => intro k hk; simp only [Tr.dep] at hk; exact un k _ _ (fun k' q => cons2 (el_str _ w) (cons2 (el_E c e (ih k' (by omega))) nil2)) (by omega)
  | right w e ih => intro k hk; simp only [Tr.dep] at hk; exact un k _ _ (fun k' q => cons2 (el_str _ w) (cons2 (el_E c e (ih k' (by omega))) nil2)) (by omega)
  | sum a b iha ihb => intro k hk; simp only [Tr.dep] at hk; exact un k _ _ (fun k' q => cons2 (el_E c a (iha k' (by omega))) (cons2 (el_E c b (ihb k' (by omega))) nil2)) (by omega)
  | prod a b iha ihb => intro k hk; simp only [Tr.dep] at hk; exact un k _ _ (fun k' q => cons2 (el_E c a (iha k' (by omega))) (cons2 (el_E c b (ihb k' (by omega))) nil2)) (by omega)
  | both a b iha ihb => intro k hk; simp only [Tr.dep] at hk; exact un k _ _ (fun k' q => cons2 (el_E c a (iha k' (by omega))) (cons2 (el_E c b (ihb k' (by omega))) nil2)) (by omega)
  | shuf a b iha ihb => intro k hk; simp only [Tr.dep] at hk; exact un k _ _ (fun k' q => cons2 (el_E c a (iha k' (by omega))) (cons2 (el_E c b (ihb k' (by omega))) nil2)) (by omega)
theorem cEqA_of {ψ : DQ} {t t' : Tr} {b : Bool} (h : ψ (t.toD c) (t'.toD c) = some b) : cEqA ψ (t.toD c) (t'.toD c) = some b := by
  obtain ⟨ps, he⟩ := t.toD_ex c
  unfold cEqA orD
  rw [show cEq (t.toD c) (t'.toD c) = none by rw [he]; rfl]
  exact h
theorem psiE_of {t t' : Tr} {b : Bool} (h : F_Expression_eq c 202 [.fz (t.toD c), .fz (t'.toD c)] = .ok (.fz (.bl b)) none) : cEqA (psiE c) (t.toD c) (t'.toD c) = some b := by
  apply cEqA_of
  obtain ⟨ps, he⟩ := t.toD_ex c
  obtain ⟨ps', he'⟩ := t'.toD_ex c
  unfold psiE owD
  rw [if_pos ⟨by rw [he]; simp [exD, isC], by rw [he']; exact nf_E c _⟩, h]
theorem psiE_self (hne : c.Ratio ≠ c.Expression) {t : Tr} (h : t.dep ≤ 202) : cEqA (psiE c) (t.toD c) (t.toD c) = some true := psiE_of c (eq_self c hne t 202 h)
theorem psiE_kind {t t' : Tr} (h : t.kind ≠ t'.kind) : cEqA (psiE c) (t.toD c) (t'.toD c) = some false := by
  apply psiE_of
  obtain ⟨ps, he⟩ := t.toD_ex c
  obtain ⟨ps', he'⟩ := t'.toD_ex c
  rw [he, he']
  exact eq_kinds c h _ _ _
theorem says_ok (a b : Bool) : F_xlaw_says c [.fz (.bl a), .fz (.bl b)] = .ok (.fz (.bl (decide (a = b)))) none := by
  simp only [F_xlaw_says, m_xlaw_says, fL_cons, rFL_some, fL_nil, dSeq_ap, dIfS_ap, dSet_ap, dDrop_ap, dRet_ap, dRetN_ap, dNx_ap, dBk_ap, dCt_ap, dFor_ap, dC_ap, dVar_ap, dMov_ap, dOp_ap, dUn_ap, dOpY_ap, dCmpT_ap, dCmp_ap, dTru_ap, dTruS_ap, dAndT_ap, dOrT_ap, dNotT_ap, dIf_ap, dAnd_ap, dOr_ap, dNot_ap, aNil_ap, aCons_ap, dTup_ap, dLst_ap, dFld_ap, dFldS_ap, dIxS_ap, dCall_ap, dCallS_ap, dYes_ap, dNoP_ap, dCallF_ap, dCallR_ap, dMeth_ap, dMake_ap, dOpF_ap, dSl_ap, dSlS_ap, dPart_ap, dAsg_ap, dMt_ap, aIxS_ap, rIxA_some, rIxB_ok, dFldSet_ap, rFSet_some, ownI_z, ownI_s, dCatS_ap, dPar_ap, dM1_ap, dLc_ap, dRng1_ap, rVar_u, rMov_fz, rMov_ol, rMov_oi, rTruS_some, rAnd_t, rAnd_f, rOr_t, rOr_f, rNot_s, rFldS_some, rIxS_some, rIxS2_some, rCallS_some, rCallR_some, rCallR2_ok, rCallR3_ok, rSlS_some, rSlS2_some, rCat_some, rCat2_some, rMt_some, rMt2_some, rMt3_some, rPart_some, retF_ok, isBl_bl, asInt_int, fOne_ap, fTwo_ap, aName_ap, RE.bind_ok, RE.toS_ok, RS.then_nx, RS.then_rt, RS.then_bk, RS.then_ct, turnS_nx, turnS_ct, turnS_bk, turnS_rt, opt_some, optO_some, optT_some, frz_ol, frz_fzd, frz_oi, List.getElem?_cons_zero, List.getElem?_cons_succ, List.set_cons_zero, List.set_cons_succ, List.map_cons, List.map_nil, List.length_cons, List.length_nil, List.replicate, List.cons_append, List.nil_append, Nat.reduceAdd, Nat.reduceSub, Nat.reduceLeDiff, if_true, Bool.false_eq_true, if_false, Bool.not_true, Bool.not_false, reduceIte, reduceCtorEq, run_ap, rMake_ok, rAsg_some, rM1_some, strD_str, rLc_some, rPar_two, rRng1_one, rIt_some, dIt_ap2, atI_0, atI_1, atI_2, ixN_2_0, ixN_2_1, back0_t, back0_f, ownL_z, ownL_s, rIxSet_some, Option.map_some, wipeG, isi_bool, cEq_bl]
end K77
end

section
namespace K77
open PySem L2 L3
variable (c : Cs)
/-! ### used_letters -/
theorem cL_filt {vs : List Nat} {as : AG} {mt : MT} {me : ME} (P : Gm → Prop) (p : D → Bool) : ∀ (ds acc : List D) (g : Gm), (∀ d ∈ ds, ∀ g, P g → ∃ g1 g2, as d (wipeG g vs) = some g1 ∧ mt g1 = .ok (p d) g2 ∧ (p d = false → P g2) ∧ (p d = true → ∃ o g3, me g2 = .ok o g3 ∧ o.frz = d ∧ P g3)) →
    P g → acc.length + ds.length ≤ big → ∃ g', cL vs as mt me ds acc g = some (acc ++ ds.filter p, g') ∧ P g'
  | [], acc, g, _, h, _ => ⟨g, by simp [cL], h⟩
  | d :: ds, acc, g, step, h, hl => by
    obtain ⟨g1, g2, h1, h2, h3, h4⟩ := step d (by simp) g h
    have hl' : acc.length + ds.length + 1 ≤ big := by simpa [Nat.add_assoc] using hl
    unfold cL
    rw [h1]
    simp only [h2]
    cases hp : p d with
    | false =>
      simp only [Bool.false_eq_true, if_false]
      obtain ⟨g', e1, e2⟩ := cL_filt P p ds acc g2 (fun d' hd => step d' (by simp [hd])) (h3 hp) (by omega)
      exact ⟨g', by rw [e1, List.filter_cons_of_neg (by simp [hp])], e2⟩
    | true =>
      obtain ⟨o, g3, k1, k2, k3⟩ := h4 hp
      simp only [if_true, k1]
      rw [if_pos (by omega), k2]
      obtain ⟨g', e1, e2⟩ := cL_filt P p ds (acc ++ [d]) g3 (fun d' hd => step d' (by simp [hd])) k3 (by simp; omega)
      exact ⟨g', by rw [e1, List.filter_cons_of_pos hp]; simp, e2⟩
def Tr.mk : Tr → List Str
  | .num _ _ => [] | .let_ a => [a] | .star e => e.mk | .rev e => e.mk | .left w e => w :: e.mk | .right w e => w :: e.mk
  | .sum a b => b.mk ++ a.mk | .prod a b => b.mk ++ a.mk | .both a b => b.mk ++ a.mk | .shuf a b => b.mk ++ a.mk
def Tr.mark : Tr → List Str
  | .let_ a => [a] | .left w _ => [w] | .right w _ => [w] | _ => []
def StU (x0 : Option O) (ms : List D) (st : List D) (y3 y4 y5 : Option O) : Gm := [x0, some (.ol ms), some (.ol st), y3, y4, y5]
theorem mExt_one {xs zs : List D} (h : xs.length + zs.length ≤ big) : mExt xs [.lst zs] = some (.non, xs ++ zs) := by
  show (if xs.length + zs.length ≤ big then some (D.non, xs ++ zs) else none) = _
  rw [if_pos h]
theorem fIx_0 {a : D} {l : List D} : fIx (.tup (a :: l)) (.int 0) = some a := atI_0
theorem use_body (t : Tr) (ms st : List D) (hl : st.length + 3 ≤ big) (hm : ms.length < big) (x0 y3 y4 y5 : Option O) :
    wb_Expression_used_letters_4 c (StU x0 ms (st ++ [t.toD c]) y3 y4 y5) = .nx (StU x0 (ms ++ t.mark.map D.str) (st ++ t.kids.map (Tr.toD c)) (some (.fz (t.toD c))) y4 y5) := by
  have h := opnd_ok c t
  have hi := insIs_ops c t
  have hk := in3_mark t
  have b0 : st.length ≤ big := by omega
  have b1 : st.length + 1 ≤ big := by omega
  have b2 : st.length + 2 ≤ big := by omega
  have hx : ∀ {zs : List D}, zs.length ≤ 2 → mExt st [.lst zs] = some (.non, st ++ zs) := fun {zs} hz => mExt_one (by omega)
  cases t <;> simp only [Tr.kind] at hk <;> simp only [Tr.toD, Tr.kids] at h hi <;>
    simp only [wb_Expression_used_letters_4, StU, fL_cons, rFL_some, fL_nil, dSeq_ap, dIfS_ap, dSet_ap, dDrop_ap, dRet_ap, dRetN_ap, dNx_ap, dBk_ap, dCt_ap, dFor_ap, dC_ap, dVar_ap, dMov_ap, dOp_ap, dUn_ap, dOpY_ap, dCmpT_ap, dCmp_ap, dTru_ap, dTruS_ap, dAndT_ap, dOrT_ap, dNotT_ap, dIf_ap, dAnd_ap, dOr_ap, dNot_ap, aNil_ap, aCons_ap, dTup_ap, dLst_ap, dFld_ap, dFldS_ap, dIxS_ap, dCall_ap, dCallS_ap, dYes_ap, dNoP_ap, dCallF_ap, dCallR_ap, dMeth_ap, dMake_ap, dOpF_ap, dSl_ap, dSlS_ap, dPart_ap, dAsg_ap, dMt_ap, aIxS_ap, rIxA_some, rIxB_ok, dFldSet_ap, rFSet_some, ownI_z, ownI_s, dCatS_ap, dPar_ap, dM1_ap, dLc_ap, dRng1_ap, rVar_u, rMov_fz, rMov_ol, rMov_oi, rTruS_some, rAnd_t, rAnd_f, rOr_t, rOr_f, rNot_s, rFldS_some, rIxS_some, rIxS2_some, rCallS_some, rCallR_some, rCallR2_ok, rCallR3_ok, rSlS_some, rSlS2_some, rCat_some, rCat2_some, rMt_some, rMt2_some, rMt3_some, rPart_some, retF_ok, isBl_bl, asInt_int, fOne_ap, fTwo_ap, aName_ap, RE.bind_ok, RE.toS_ok, RS.then_nx, RS.then_rt, RS.then_bk, RS.then_ct, turnS_nx, turnS_ct, turnS_bk, turnS_rt, opt_some, optO_some, optT_some, frz_ol, frz_fzd, frz_oi, List.getElem?_cons_zero, List.getElem?_cons_succ, List.set_cons_zero, List.set_cons_succ, List.map_cons, List.map_nil, List.length_cons, List.length_nil, List.replicate, List.cons_append, List.nil_append, Nat.reduceAdd, Nat.reduceSub, Nat.reduceLeDiff, if_true, Bool.false_eq_true, if_false, Bool.not_true, Bool.not_false, reduceIte, reduceCtorEq, run_ap, rMake_ok, rAsg_some, rM1_some, strD_str, rLc_some, rPar_two, rRng1_one, rIt_some, dIt_ap2, atI_0, atI_1, atI_2, ixN_2_0, ixN_2_1, back0_t, back0_f, ownL_z, ownL_s, rIxSet_some, Option.map_some, wipeG, mPop_app, Tr.toD, fld_kind, fld_parts, hk, fIx_0, mApp_one hm, hi, h, fListD, mExt_one, hx, List.length_nil, List.length_cons, Tr.kids, Tr.mark, List.append_nil, b0, b1, b2, Nat.add_zero, show (3 : Nat) ≤ big by decide, show (0 : Nat) ≤ 2 by decide, show (1 : Nat) ≤ 2 by decide, show (2 : Nat) ≤ 2 by decide, Nat.zero_le, Nat.le_refl]

theorem use_test (x0 : Option O) (ms st : List D) (d : D) (y3 y4 y5 : Option O) : wc_Expression_used_letters_3 c (StU x0 ms (st ++ [d]) y3 y4 y5) = .ok true (StU x0 ms (st ++ [d]) y3 y4 y5) := by
  simp only [wc_Expression_used_letters_3, StU, fL_cons, rFL_some, fL_nil, dSeq_ap, dIfS_ap, dSet_ap, dDrop_ap, dRet_ap, dRetN_ap, dNx_ap, dBk_ap, dCt_ap, dFor_ap, dC_ap, dVar_ap, dMov_ap, dOp_ap, dUn_ap, dOpY_ap, dCmpT_ap, dCmp_ap, dTru_ap, dTruS_ap, dAndT_ap, dOrT_ap, dNotT_ap, dIf_ap, dAnd_ap, dOr_ap, dNot_ap, aNil_ap, aCons_ap, dTup_ap, dLst_ap, dFld_ap, dFldS_ap, dIxS_ap, dCall_ap, dCallS_ap, dYes_ap, dNoP_ap, dCallF_ap, dCallR_ap, dMeth_ap, dMake_ap, dOpF_ap, dSl_ap, dSlS_ap, dPart_ap, dAsg_ap, dMt_ap, aIxS_ap, rIxA_some, rIxB_ok, dFldSet_ap, rFSet_some, ownI_z, ownI_s, dCatS_ap, dPar_ap, dM1_ap, dLc_ap, dRng1_ap, rVar_u, rMov_fz, rMov_ol, rMov_oi, rTruS_some, rAnd_t, rAnd_f, rOr_t, rOr_f, rNot_s, rFldS_some, rIxS_some, rIxS2_some, rCallS_some, rCallR_some, rCallR2_ok, rCallR3_ok, rSlS_some, rSlS2_some, rCat_some, rCat2_some, rMt_some, rMt2_some, rMt3_some, rPart_some, retF_ok, isBl_bl, asInt_int, fOne_ap, fTwo_ap, aName_ap, RE.bind_ok, RE.toS_ok, RS.then_nx, RS.then_rt, RS.then_bk, RS.then_ct, turnS_nx, turnS_ct, turnS_bk, turnS_rt, opt_some, optO_some, optT_some, frz_ol, frz_fzd, frz_oi, List.getElem?_cons_zero, List.getElem?_cons_succ, List.set_cons_zero, List.set_cons_succ, List.map_cons, List.map_nil, List.length_cons, List.length_nil, List.replicate, List.cons_append, List.nil_append, Nat.reduceAdd, Nat.reduceSub, Nat.reduceLeDiff, if_true, Bool.false_eq_true, if_false, Bool.not_true, Bool.not_false, reduceIte, reduceCtorEq, run_ap, rMake_ok, rAsg_some, rM1_some, strD_str, rLc_some, rPar_two, rRng1_one, rIt_some, dIt_ap2, atI_0, atI_1, atI_2, ixN_2_0, ixN_2_1, back0_t, back0_f, ownL_z, ownL_s, rIxSet_some, Option.map_some, wipeG, truth_app]
theorem use_end (x0 : Option O) (ms : List D) (y3 y4 y5 : Option O) : wc_Expression_used_letters_3 c (StU x0 ms [] y3 y4 y5) = .ok false (StU x0 ms [] y3 y4 y5) := by
  simp only [wc_Expression_used_letters_3, StU, fL_cons, rFL_some, fL_nil, dSeq_ap, dIfS_ap, dSet_ap, dDrop_ap, dRet_ap, dRetN_ap, dNx_ap, dBk_ap, dCt_ap, dFor_ap, dC_ap, dVar_ap, dMov_ap, dOp_ap, dUn_ap, dOpY_ap, dCmpT_ap, dCmp_ap, dTru_ap, dTruS_ap, dAndT_ap, dOrT_ap, dNotT_ap, dIf_ap, dAnd_ap, dOr_ap, dNot_ap, aNil_ap, aCons_ap, dTup_ap, dLst_ap, dFld_ap, dFldS_ap, dIxS_ap, dCall_ap, dCallS_ap, dYes_ap, dNoP_ap, dCallF_ap, dCallR_ap, dMeth_ap, dMake_ap, dOpF_ap, dSl_ap, dSlS_ap, dPart_ap, dAsg_ap, dMt_ap, aIxS_ap, rIxA_some, rIxB_ok, dFldSet_ap, rFSet_some, ownI_z, ownI_s, dCatS_ap, dPar_ap, dM1_ap, dLc_ap, dRng1_ap, rVar_u, rMov_fz, rMov_ol, rMov_oi, rTruS_some, rAnd_t, rAnd_f, rOr_t, rOr_f, rNot_s, rFldS_some, rIxS_some, rIxS2_some, rCallS_some, rCallR_some, rCallR2_ok, rCallR3_ok, rSlS_some, rSlS2_some, rCat_some, rCat2_some, rMt_some, rMt2_some, rMt3_some, rPart_some, retF_ok, isBl_bl, asInt_int, fOne_ap, fTwo_ap, aName_ap, RE.bind_ok, RE.toS_ok, RS.then_nx, RS.then_rt, RS.then_bk, RS.then_ct, turnS_nx, turnS_ct, turnS_bk, turnS_rt, opt_some, optO_some, optT_some, frz_ol, frz_fzd, frz_oi, List.getElem?_cons_zero, List.getElem?_cons_succ, List.set_cons_zero, List.set_cons_succ, List.map_cons, List.map_nil, List.length_cons, List.length_nil, List.replicate, List.cons_append, List.nil_append, Nat.reduceAdd, Nat.reduceSub, Nat.reduceLeDiff, if_true, Bool.false_eq_true, if_false, Bool.not_true, Bool.not_false, reduceIte, reduceCtorEq, run_ap, rMake_ok, rAsg_some, rM1_some, strD_str, rLc_some, rPar_two, rRng1_one, rIt_some, dIt_ap2, atI_0, atI_1, atI_2, ixN_2_0, ixN_2_1, back0_t, back0_f, ownL_z, ownL_s, rIxSet_some, Option.map_some, wipeG, truthD, List.isEmpty_nil]
theorem mk_le (t : Tr) : t.mk.length ≤ t.cnt := by
  induction t <;> simp only [Tr.mk, Tr.cnt, List.length_nil, List.length_cons, List.length_append] <;> omega
def UR (x0 : Option O) (t : Tr) : Prop := ∀ (ms st : List D) (y3 y4 y5 : Option O), st.length + t.cnt + 3 ≤ big → ms.length + t.cnt + 1 ≤ big → ∃ z3,
    Runs (wc_Expression_used_letters_3 c) (wb_Expression_used_letters_4 c) t.cnt (StU x0 ms (st ++ [t.toD c]) y3 y4 y5) (StU x0 (ms ++ t.mk.map D.str) st z3 y4 y5)
theorem use_leaf (x0 : Option O) (t : Tr) (hk : t.kids = []) (hc : t.cnt = 1) (hm : t.mk = t.mark) : UR c x0 t := fun ms st y3 y4 y5 h1 h2 => by
  have h := use_body c t ms st (by omega) (by omega) x0 y3 y4 y5
  rw [hk, List.map_nil, List.append_nil, ← hm] at h
  rw [hc]
  exact ⟨_, .one (use_test c _ _ _ _ _ _ _) h⟩
theorem use_one (x0 : Option O) (t a : Tr) (ih : UR c x0 a) (hk : t.kids = [a]) (hc : t.cnt = 1 + a.cnt) (hm : t.mk = t.mark ++ a.mk) (hl : t.mark.length ≤ 1) : UR c x0 t := fun ms st y3 y4 y5 h1 h2 => by
  have h := use_body c t ms st (by omega) (by omega) x0 y3 y4 y5
  rw [hk, List.map_cons, List.map_nil] at h
  obtain ⟨z3, r⟩ := ih (ms ++ t.mark.map D.str) st _ _ _ (by omega) (by rw [List.length_append, List.length_map]; omega)
  have r2 := (Runs.one (use_test c _ _ _ _ _ _ _) h).trans r
  rw [List.append_assoc, ← List.map_append, ← hm, ← hc] at r2
  exact ⟨_, r2⟩
theorem use_two (x0 : Option O) (t a b : Tr) (iha : UR c x0 a) (ihb : UR c x0 b) (hk : t.kids = [a, b]) (hc : t.cnt = 1 + a.cnt + b.cnt) (hm : t.mk = b.mk ++ a.mk) (hl : t.mark = []) : UR c x0 t := fun ms st y3 y4 y5 h1 h2 => by
  have ca := cnt_pos a
  have cb := cnt_pos b
  have h := use_body c t ms st (by omega) (by omega) x0 y3 y4 y5
  rw [hk, hl, List.map_nil, List.append_nil, List.map_cons, List.map_cons, List.map_nil, show st ++ [a.toD c, b.toD c] = (st ++ [a.toD c]) ++ [b.toD c] by simp] at h
  obtain ⟨z3, r⟩ := ihb ms (st ++ [a.toD c]) _ _ _ (by rw [List.length_append, List.length_singleton]; omega) (by omega)
  have mb := mk_le b
  obtain ⟨w3, r'⟩ := iha (ms ++ b.mk.map D.str) st z3 y4 y5 (by omega) (by rw [List.length_append, List.length_map]; omega)
  have r2 := ((Runs.one (use_test c _ _ _ _ _ _ _) h).trans r).trans r'
  have e3 : 1 + b.cnt + a.cnt = t.cnt := by omega
  rw [List.append_assoc, ← List.map_append, ← hm, e3] at r2
  exact ⟨_, r2⟩
theorem use_runs (x0 : Option O) (t : Tr) : UR c x0 t := by
  induction t with
  | num n d => exact use_leaf c x0 _ rfl rfl rfl
  | let_ a => exact use_leaf c x0 _ rfl rfl rfl
  | star e ih => exact use_one c x0 _ e ih rfl rfl rfl (Nat.zero_le _)
  | rev e ih => exact use_one c x0 _ e ih rfl rfl rfl (Nat.zero_le _)
  | left w e ih => exact use_one c x0 _ e ih rfl rfl rfl (Nat.le_refl _)
  | right w e ih => exact use_one c x0 _ e ih rfl rfl rfl (Nat.le_refl _)
  | sum a b iha ihb => exact use_two c x0 _ a b iha ihb rfl rfl rfl rfl
  | prod a b iha ihb => exact use_two c x0 _ a b iha ihb rfl rfl rfl rfl
  | both a b iha ihb => exact use_two c x0 _ a b iha ihb rfl rfl rfl rfl
  | shuf a b iha ihb => exact use_two c x0 _ a b iha ihb rfl rfl rfl rfl
/-- the letters that a text has, as the comprehension gives them -/
def usedD (z : Str) : List D := (signs SMALL).filter fun d => match d with
  | .str s => match oneC s with
    | some ch => decide (ch ∈ z.cps.toList)
    | none => false
  | _ => false
def usedJ (z : Str) : Option O := fJoin "" (.lst (usedD z))
theorem usedD_congr {z z' : Str} (h : ∀ ch, ch ∈ z.cps.toList ↔ ch ∈ z'.cps.toList) : usedD z = usedD z' := by
  unfold usedD
  congr 1
  funext d
  cases d <;> simp only
  split
  · rw [decide_eq_decide]; exact h _
  · rfl
theorem use_ok (t : Tr) (h : t.cnt + 3 ≤ big) (hz : (t.mk.map (·.length)).sum ≤ big) {r : O} (hr : usedJ (Txt.join "" t.mk) = some r) : F_Expression_used_letters c [.fz (t.toD c)] = .ok r none := by
  obtain ⟨z3, rr⟩ := use_runs c (some (.fz (t.toD c))) t [] [] none none none (by simpa using h) (by simp; omega)
  have hw := rr.done (use_end c _ _ _ _ _)
  have hw' : dWhile (wc_Expression_used_letters_3 c) (wb_Expression_used_letters_4 c) [some (.fz (t.toD c)), some (.ol []), some (.ol [t.toD c]), none, none, none] = .nx [some (.fz (t.toD c)), some (.ol ([] ++ t.mk.map D.str)), some (.ol []), z3, none, none] := hw
  rw [List.nil_append] at hw'
  have hj : fJoin "" (.lst (t.mk.map D.str)) = some (.fz (.str (Txt.join "" t.mk))) := by
    unfold fJoin
    have e : ∀ ys : List Str, allD strD (ys.map D.str) = some ys := fun ys => by
      induction ys with
      | nil => rfl
      | cons y ys ih => rw [List.map_cons]; unfold allD; rw [ih]; rfl
    simp only [L3.seqD, e]
    rw [if_pos (by show _ + _ * 0 ≤ big; omega)]
  obtain ⟨g', e1, x, e2⟩ := cL_filt (vs := [5]) (as := aName 5) (mt := ct_Expression_used_letters_1 c) (me := ce_Expression_used_letters_2 c) (fun g => ∃ x, g = [some (.fz (t.toD c)), some (.fz (.lst (t.mk.map D.str))), some (.ol []), z3, some (.fz (.str (Txt.join "" t.mk))), x])
    (fun d => match d with
      | .str s => match oneC s with
        | some ch => decide (ch ∈ (Txt.join "" t.mk).cps.toList)
        | none => false
      | _ => false) (signs SMALL) [] [some (.fz (t.toD c)), some (.fz (.lst (t.mk.map D.str))), some (.ol []), z3, some (.fz (.str (Txt.join "" t.mk))), none] (fun d hd g ⟨x, hg⟩ => by
      subst hg
      unfold signs at hd
      obtain ⟨ch, _, rfl⟩ := List.mem_map.mp hd
      refine ⟨[some (.fz (t.toD c)), some (.fz (.lst (t.mk.map D.str))), some (.ol []), z3, some (.fz (.str (Txt.join "" t.mk))), some (.fz (.str ⟨#[ch]⟩))], [some (.fz (t.toD c)), some (.fz (.lst (t.mk.map D.str))), some (.ol []), z3, some (.fz (.str (Txt.join "" t.mk))), some (.fz (.str ⟨#[ch]⟩))], rfl, ?_, fun _ => ⟨_, rfl⟩, fun _ => ⟨.fz (.str ⟨#[ch]⟩), [some (.fz (t.toD c)), some (.fz (.lst (t.mk.map D.str))), some (.ol []), z3, some (.fz (.str (Txt.join "" t.mk))), some (.fz (.str ⟨#[ch]⟩))], ?_, rfl, ⟨_, rfl⟩⟩⟩
      · simp only [ct_Expression_used_letters_1, fL_cons, rFL_some, fL_nil, dSeq_ap, dIfS_ap, dSet_ap, dDrop_ap, dRet_ap, dRetN_ap, dNx_ap, dBk_ap, dCt_ap, dFor_ap, dC_ap, dVar_ap, dMov_ap, dOp_ap, dUn_ap, dOpY_ap, dCmpT_ap, dCmp_ap, dTru_ap, dTruS_ap, dAndT_ap, dOrT_ap, dNotT_ap, dIf_ap, dAnd_ap, dOr_ap, dNot_ap, aNil_ap, aCons_ap, dTup_ap, dLst_ap, dFld_ap, dFldS_ap, dIxS_ap, dCall_ap, dCallS_ap, dYes_ap, dNoP_ap, dCallF_ap, dCallR_ap, dMeth_ap, dMake_ap, dOpF_ap, dSl_ap, dSlS_ap, dPart_ap, dAsg_ap, dMt_ap, aIxS_ap, rIxA_some, rIxB_ok, dFldSet_ap, rFSet_some, ownI_z, ownI_s, dCatS_ap, dPar_ap, dM1_ap, dLc_ap, dRng1_ap, rVar_u, rMov_fz, rMov_ol, rMov_oi, rTruS_some, rAnd_t, rAnd_f, rOr_t, rOr_f, rNot_s, rFldS_some, rIxS_some, rIxS2_some, rCallS_some, rCallR_some, rCallR2_ok, rCallR3_ok, rSlS_some, rSlS2_some, rCat_some, rCat2_some, rMt_some, rMt2_some, rMt3_some, rPart_some, retF_ok, isBl_bl, asInt_int, fOne_ap, fTwo_ap, aName_ap, RE.bind_ok, RE.toS_ok, RS.then_nx, RS.then_rt, RS.then_bk, RS.then_ct, turnS_nx, turnS_ct, turnS_bk, turnS_rt, opt_some, optO_some, optT_some, frz_ol, frz_fzd, frz_oi, List.getElem?_cons_zero, List.getElem?_cons_succ, List.set_cons_zero, List.set_cons_succ, List.map_cons, List.map_nil, List.length_cons, List.length_nil, List.replicate, List.cons_append, List.nil_append, Nat.reduceAdd, Nat.reduceSub, Nat.reduceLeDiff, if_true, Bool.false_eq_true, if_false, Bool.not_true, Bool.not_false, reduceIte, reduceCtorEq, run_ap, rMake_ok, rAsg_some, rM1_some, strD_str, rLc_some, rPar_two, rRng1_one, rIt_some, dIt_ap2, atI_0, atI_1, atI_2, ixN_2_0, ixN_2_1, back0_t, back0_f, ownL_z, ownL_s, rIxSet_some, Option.map_some, wipeG, cIn, oneC_one]
      · simp only [ce_Expression_used_letters_2, fL_cons, rFL_some, fL_nil, dSeq_ap, dIfS_ap, dSet_ap, dDrop_ap, dRet_ap, dRetN_ap, dNx_ap, dBk_ap, dCt_ap, dFor_ap, dC_ap, dVar_ap, dMov_ap, dOp_ap, dUn_ap, dOpY_ap, dCmpT_ap, dCmp_ap, dTru_ap, dTruS_ap, dAndT_ap, dOrT_ap, dNotT_ap, dIf_ap, dAnd_ap, dOr_ap, dNot_ap, aNil_ap, aCons_ap, dTup_ap, dLst_ap, dFld_ap, dFldS_ap, dIxS_ap, dCall_ap, dCallS_ap, dYes_ap, dNoP_ap, dCallF_ap, dCallR_ap, dMeth_ap, dMake_ap, dOpF_ap, dSl_ap, dSlS_ap, dPart_ap, dAsg_ap, dMt_ap, aIxS_ap, rIxA_some, rIxB_ok, dFldSet_ap, rFSet_some, ownI_z, ownI_s, dCatS_ap, dPar_ap, dM1_ap, dLc_ap, dRng1_ap, rVar_u, rMov_fz, rMov_ol, rMov_oi, rTruS_some, rAnd_t, rAnd_f, rOr_t, rOr_f, rNot_s, rFldS_some, rIxS_some, rIxS2_some, rCallS_some, rCallR_some, rCallR2_ok, rCallR3_ok, rSlS_some, rSlS2_some, rCat_some, rCat2_some, rMt_some, rMt2_some, rMt3_some, rPart_some, retF_ok, isBl_bl, asInt_int, fOne_ap, fTwo_ap, aName_ap, RE.bind_ok, RE.toS_ok, RS.then_nx, RS.then_rt, RS.then_bk, RS.then_ct, turnS_nx, turnS_ct, turnS_bk, turnS_rt, opt_some, optO_some, optT_some, frz_ol, frz_fzd, frz_oi, List.getElem?_cons_zero, List.getElem?_cons_succ, List.set_cons_zero, List.set_cons_succ, List.map_cons, List.map_nil, List.length_cons, List.length_nil, List.replicate, List.cons_append, List.nil_append, Nat.reduceAdd, Nat.reduceSub, Nat.reduceLeDiff, if_true, Bool.false_eq_true, if_false, Bool.not_true, Bool.not_false, reduceIte, reduceCtorEq, run_ap, rMake_ok, rAsg_some, rM1_some, strD_str, rLc_some, rPar_two, rRng1_one, rIt_some, dIt_ap2, atI_0, atI_1, atI_2, ixN_2_0, ixN_2_1, back0_t, back0_f, ownL_z, ownL_s, rIxSet_some, Option.map_some, wipeG]) ⟨_, rfl⟩ (by decide +kernel)
  subst e2
  have hr' : fJoin "" (.lst (usedD (Txt.join "" t.mk))) = some r := hr
  simp only [F_Expression_used_letters, m_Expression_used_letters, fL_cons, rFL_some, fL_nil, dSeq_ap, dIfS_ap, dSet_ap, dDrop_ap, dRet_ap, dRetN_ap, dNx_ap, dBk_ap, dCt_ap, dFor_ap, dC_ap, dVar_ap, dMov_ap, dOp_ap, dUn_ap, dOpY_ap, dCmpT_ap, dCmp_ap, dTru_ap, dTruS_ap, dAndT_ap, dOrT_ap, dNotT_ap, dIf_ap, dAnd_ap, dOr_ap, dNot_ap, aNil_ap, aCons_ap, dTup_ap, dLst_ap, dFld_ap, dFldS_ap, dIxS_ap, dCall_ap, dCallS_ap, dYes_ap, dNoP_ap, dCallF_ap, dCallR_ap, dMeth_ap, dMake_ap, dOpF_ap, dSl_ap, dSlS_ap, dPart_ap, dAsg_ap, dMt_ap, aIxS_ap, rIxA_some, rIxB_ok, dFldSet_ap, rFSet_some, ownI_z, ownI_s, dCatS_ap, dPar_ap, dM1_ap, dLc_ap, dRng1_ap, rVar_u, rMov_fz, rMov_ol, rMov_oi, rTruS_some, rAnd_t, rAnd_f, rOr_t, rOr_f, rNot_s, rFldS_some, rIxS_some, rIxS2_some, rCallS_some, rCallR_some, rCallR2_ok, rCallR3_ok, rSlS_some, rSlS2_some, rCat_some, rCat2_some, rMt_some, rMt2_some, rMt3_some, rPart_some, retF_ok, isBl_bl, asInt_int, fOne_ap, fTwo_ap, aName_ap, RE.bind_ok, RE.toS_ok, RS.then_nx, RS.then_rt, RS.then_bk, RS.then_ct, turnS_nx, turnS_ct, turnS_bk, turnS_rt, opt_some, optO_some, optT_some, frz_ol, frz_fzd, frz_oi, List.getElem?_cons_zero, List.getElem?_cons_succ, List.set_cons_zero, List.set_cons_succ, List.map_cons, List.map_nil, List.length_cons, List.length_nil, List.replicate, List.cons_append, List.nil_append, Nat.reduceAdd, Nat.reduceSub, Nat.reduceLeDiff, if_true, Bool.false_eq_true, if_false, Bool.not_true, Bool.not_false, reduceIte, reduceCtorEq, run_ap, rMake_ok, rAsg_some, rM1_some, strD_str, rLc_some, rPar_two, rRng1_one, rIt_some, dIt_ap2, atI_0, atI_1, atI_2, ixN_2_0, ixN_2_1, back0_t, back0_f, ownL_z, ownL_s, rIxSet_some, Option.map_some, wipeG, hw', hj, itemsD, show (0 : Nat) ≤ big by decide, show (1 : Nat) ≤ big by decide, show signs "abcdefghijklmnopqrstuvwxyz" = signs SMALL from rfl, e1, show ([] ++ (signs SMALL).filter fun d => match d with
      | .str s => match oneC s with
        | some ch => decide (ch ∈ (Txt.join "" t.mk).cps.toList)
        | none => false
      | _ => false) = usedD (Txt.join "" t.mk) from rfl, hr']
end K77
end

section
namespace K77
open PySem L2 L3
variable (c : Cs)
theorem cGt_int (i j : Int) : cGt (.int i) (.int j) = some (decide (j < i)) := rfl
theorem cLt_int (i j : Int) : cLt (.int i) (.int j) = some (decide (i < j)) := rfl
theorem cLe_int (i j : Int) : cLe (.int i) (.int j) = some (decide (i ≤ j)) := rfl
theorem cGe_int (i j : Int) : cGe (.int i) (.int j) = some (decide (j ≤ i)) := rfl
/-! ### the letters of a chain -/
def addF (z : Str) (s : Step) : Str := if s.pick = 2 ∨ s.pick = 3 then z ++ s.word else if s.pick = 4 ∨ s.pick > 5 then z ++ first s.word else z
def foundS (ss : List Step) : Str := ss.foldl addF "m"
theorem allStr : ∀ ys : List Str, allD strD (ys.map D.str) = some ys
  | [] => rfl
  | y :: ys => by rw [List.map_cons]; unfold allD; rw [allStr ys]; rfl
theorem sum1 : ∀ l : List Nat, ((l.map fun ch => (⟨#[ch]⟩ : Str)).map (·.length)).sum = l.length
  | [] => rfl
  | a :: l => by
    have h := sum1 l
    simp only [List.map_cons, List.sum_cons, List.length_cons] at h ⊢
    rw [h]
    show 1 + _ = _
    omega
theorem usedJ_some (z : Str) : ∃ s : Str, usedJ z = some (.fz (.str s)) := by
  have e : ∃ l : List Nat, usedD z = (l.map fun ch => (⟨#[ch]⟩ : Str)).map D.str ∧ l.length ≤ 26 := by
    unfold usedD signs
    rw [List.filter_map]
    exact ⟨_, by rw [List.map_map]; rfl, Nat.le_trans (List.length_filter_le _ _) (by decide +kernel)⟩
  obtain ⟨l, e1, e2⟩ := e
  refine ⟨Txt.join "" (l.map fun ch => (⟨#[ch]⟩ : Str)), ?_⟩
  unfold usedJ fJoin
  simp only [L3.seqD, e1, allStr]
  rw [if_pos]
  rw [sum1]
  have b : 26 ≤ big := by decide
  show l.length + _ * 0 ≤ big
  omega
theorem toList_app (x y : Str) : (x ++ y).cps.toList = x.cps.toList ++ y.cps.toList := TL.tl_append x y
theorem mem_joinL (ch : Nat) : ∀ l : List (List Nat), ch ∈ TL.joinL [] l ↔ ∃ x ∈ l, ch ∈ x
  | [] => by simp [TL.joinL]
  | [p] => by simp [TL.joinL]
  | p :: q :: r => by
    have h := mem_joinL ch (q :: r)
    show ch ∈ p ++ ([] ++ TL.joinL [] (q :: r)) ↔ _
    rw [List.nil_append, List.mem_append, h]
    constructor
    · rintro (h | ⟨x, hx, h⟩)
      · exact ⟨p, by simp, h⟩
      · exact ⟨x, List.mem_cons_of_mem _ hx, h⟩
    · rintro ⟨x, hx, h⟩
      rcases List.mem_cons.mp hx with rfl | hx
      · exact .inl h
      · exact .inr ⟨x, hx, h⟩
theorem mem_join (ch : Nat) (ys : List Str) : ch ∈ (Txt.join "" ys).cps.toList ↔ ∃ y ∈ ys, ch ∈ y.cps.toList := by
  rw [TL.join_eq]
  have h : (Str.join "" ys).cps.toList = TL.joinL [] (ys.map TL.tl) := TL.tl_join "" ys
  rw [h, mem_joinL]
  constructor
  · rintro ⟨x, hx, h⟩
    obtain ⟨y, hy, rfl⟩ := List.mem_map.mp hx
    exact ⟨y, hy, h⟩
  · rintro ⟨y, hy, h⟩
    exact ⟨_, List.mem_map_of_mem hy, h⟩
theorem step_mk (t : Tr) (s : Step) (hs : s.ok) (z : Str) (ch : Nat) (h : ch ∈ z.cps.toList ↔ ∃ y ∈ t.mk, ch ∈ y.cps.toList) :
    ch ∈ (addF z s).cps.toList ↔ ∃ y ∈ (stepT t s).mk, ch ∈ y.cps.toList := by
  have hp : s.pick = 0 ∨ s.pick = 1 ∨ s.pick = 2 ∨ s.pick = 3 ∨ s.pick = 4 ∨ s.pick = 5 ∨ s.pick = 6 ∨ s.pick = 7 := by have := hs.1; have := hs.2.1; omega
  rcases hp with hp | hp | hp | hp | hp | hp | hp | hp <;>
    simp only [addF, stepT, hp, Int.reduceEq, if_true, if_false, or_false, false_or, or_true, true_or, Int.reduceGT, gt_iff_lt, Int.reduceLT, or_self, rK, Tr.mk, toList_app, List.mem_append, List.mem_cons, List.not_mem_nil, List.nil_append, h, or_and_right, exists_or, exists_eq_left, false_and, exists_false] <;>
    (try exact or_comm)
theorem found_mk : ∀ (ss : List Step) (t : Tr) (z : Str), (∀ s ∈ ss, s.ok) → (∀ ch, ch ∈ z.cps.toList ↔ ∃ y ∈ t.mk, ch ∈ y.cps.toList) → ∀ ch, ch ∈ (ss.foldl addF z).cps.toList ↔ ∃ y ∈ (ss.foldl stepT t).mk, ch ∈ y.cps.toList
  | [], t, z, _, h, ch => h ch
  | s :: ss, t, z, hs, h, ch => found_mk ss (stepT t s) (addF z s) (fun s' h' => hs s' (List.mem_cons_of_mem _ h')) (fun ch => step_mk t s (hs s (by simp)) z ch (h ch)) ch
theorem found_used {ss : List Step} (h : ∀ s ∈ ss, s.ok) : usedJ (Txt.join "" (chain ss).mk) = usedJ (foundS ss) := by
  unfold usedJ
  rw [usedD_congr]
  intro ch
  rw [mem_join]
  exact (found_mk ss (.let_ "m") "m" h (fun ch => by simp [Tr.mk]) ch).symm
theorem addF_len {z : Str} {s : Step} (h : s.ok) : (addF z s).length ≤ z.length + 8 := by
  have l (a b : Str) : (a ++ b).length = a.length + b.length := by
    show (a.cps ++ b.cps).size = _
    rw [Array.size_append]; rfl
  have h8 := h.2.2.1.2.1
  have h1 : (first s.word).length = 1 := rfl
  unfold addF
  split
  · rw [l]; omega
  · split
    · rw [l]; omega
    · omega
theorem str_len (a b : Str) : (a ++ b).length = a.length + b.length := by
  show (a.cps ++ b.cps).size = _
  rw [Array.size_append]; rfl
theorem found_body {s : Step} (h : s.ok) {z : Str} (hz : z.length + 8 ≤ big) (x0 x4 x5 : Option O) :
    fb_xlaw_letters_of_3 c [x0, some (.fz (.str z)), some (.fz (.int s.pick)), some (.fz (.str s.word)), x4, x5] = .nx [x0, some (.fz (.str (addF z s))), some (.fz (.int s.pick)), some (.fz (.str s.word)), x4, x5] := by
  have h8 := h.2.2.1.2.1
  have h1 : (first s.word).length = 1 := rfl
  have a1 : fAddS (.str z) (.str s.word) = some (.str (z ++ s.word)) := by
    show (if _ then _ else _) = _
    rw [if_pos (by omega)]
  have a2 : fAddS (.str z) (.str (first s.word)) = some (.str (z ++ first s.word)) := by
    show (if _ then _ else _) = _
    rw [if_pos (by omega)]
  have hp : s.pick = 0 ∨ s.pick = 1 ∨ s.pick = 2 ∨ s.pick = 3 ∨ s.pick = 4 ∨ s.pick = 5 ∨ s.pick = 6 ∨ s.pick = 7 := by have := h.1; have := h.2.1; omega
  rcases hp with hp | hp | hp | hp | hp | hp | hp | hp <;>
    simp only [fb_xlaw_letters_of_3, fL_cons, rFL_some, fL_nil, dSeq_ap, dIfS_ap, dSet_ap, dDrop_ap, dRet_ap, dRetN_ap, dNx_ap, dBk_ap, dCt_ap, dFor_ap, dC_ap, dVar_ap, dMov_ap, dOp_ap, dUn_ap, dOpY_ap, dCmpT_ap, dCmp_ap, dTru_ap, dTruS_ap, dAndT_ap, dOrT_ap, dNotT_ap, dIf_ap, dAnd_ap, dOr_ap, dNot_ap, aNil_ap, aCons_ap, dTup_ap, dLst_ap, dFld_ap, dFldS_ap, dIxS_ap, dCall_ap, dCallS_ap, dYes_ap, dNoP_ap, dCallF_ap, dCallR_ap, dMeth_ap, dMake_ap, dOpF_ap, dSl_ap, dSlS_ap, dPart_ap, dAsg_ap, dMt_ap, aIxS_ap, rIxA_some, rIxB_ok, dFldSet_ap, rFSet_some, ownI_z, ownI_s, dCatS_ap, dPar_ap, dM1_ap, dLc_ap, dRng1_ap, rVar_u, rMov_fz, rMov_ol, rMov_oi, rTruS_some, rAnd_t, rAnd_f, rOr_t, rOr_f, rNot_s, rFldS_some, rIxS_some, rIxS2_some, rCallS_some, rCallR_some, rCallR2_ok, rCallR3_ok, rSlS_some, rSlS2_some, rCat_some, rCat2_some, rMt_some, rMt2_some, rMt3_some, rPart_some, retF_ok, isBl_bl, asInt_int, fOne_ap, fTwo_ap, aName_ap, RE.bind_ok, RE.toS_ok, RS.then_nx, RS.then_rt, RS.then_bk, RS.then_ct, turnS_nx, turnS_ct, turnS_bk, turnS_rt, opt_some, optO_some, optT_some, frz_ol, frz_fzd, frz_oi, List.getElem?_cons_zero, List.getElem?_cons_succ, List.set_cons_zero, List.set_cons_succ, List.map_cons, List.map_nil, List.length_cons, List.length_nil, List.replicate, List.cons_append, List.nil_append, Nat.reduceAdd, Nat.reduceSub, Nat.reduceLeDiff, if_true, Bool.false_eq_true, if_false, Bool.not_true, Bool.not_false, reduceIte, reduceCtorEq, run_ap, rMake_ok, rAsg_some, rM1_some, strD_str, rLc_some, rPar_two, rRng1_one, rIt_some, dIt_ap2, atI_0, atI_1, atI_2, ixN_2_0, ixN_2_1, back0_t, back0_f, ownL_z, ownL_s, rIxSet_some, Option.map_some, wipeG, hp, addF, a1, a2, first_at h.2.2.1, cEq_int, cGt_int, Int.reduceEq, decide_true, decide_false, or_false, false_or, or_true, true_or, or_self, Int.reduceGT, gt_iff_lt, Int.reduceLT]
theorem found_loop {ss : List Step} (h : ∀ s ∈ ss, s.ok) (hl : ss.length ≤ 1000) (x0 : Option O) : ∃ y2 y3 y4, fL (aTup [aName 2, aName 3, aName 4]) (fb_xlaw_letters_of_3 c) (ss.map Step.d) [x0, some (.fz (.str "m")), none, none, none, none] = .nx [x0, some (.fz (.str (foundS ss))), y2, y3, y4, none] := by
  obtain ⟨g', e1, x2, x3, x4, hg, _⟩ := fL_inv (as := aTup [aName 2, aName 3, aName 4]) (b := fb_xlaw_letters_of_3 c) (ds := ss.map Step.d) (fun i g => ∃ x2 x3 x4, g = [x0, some (.fz (.str (foundS (ss.take i)))), x2, x3, x4, none] ∧ (foundS (ss.take i)).length ≤ 1 + 8 * i)
    (fun i d g hd ⟨x2, x3, x4, hg, hn⟩ => by
      subst hg
      simp only [List.getElem?_map] at hd
      cases hs : ss[i]? with
      | none => rw [hs] at hd; cases hd
      | some s =>
        rw [hs] at hd
        cases hd
        have hm : s ∈ ss := List.mem_of_getElem? hs
        have hi : i < ss.length := (List.getElem?_eq_some_iff.mp hs).1
        have b : 10000 ≤ big := by decide
        have e : foundS (ss.take (i + 1)) = addF (foundS (ss.take i)) s := by
          unfold foundS
          have : ss.take (i + 1) = ss.take i ++ [s] := by rw [List.take_succ, hs]; rfl
          rw [this, List.foldl_append]; rfl
        refine ⟨_, _, aTup_n3, .inl (found_body c (h s hm) (by omega) x0 _ none), _, _, _, by rw [e], ?_⟩
        rw [e]
        have := addF_len (z := foundS (ss.take i)) (h s hm)
        omega) 0 [x0, some (.fz (.str "m")), none, none, none, none] (Nat.zero_le _) ⟨_, _, _, rfl, by show 1 ≤ 1; omega⟩
  rw [List.drop_zero] at e1
  have hl : ss.take (ss.map Step.d).length = ss := by rw [List.length_map]; exact List.take_length
  rw [hl] at hg
  exact ⟨_, _, _, by rw [e1, hg]⟩
theorem letters_ok {ss : List Step} (h : ∀ s ∈ ss, s.ok) (hl : ss.length ≤ 1000) {r : O} (hr : usedJ (foundS ss) = some r) : F_xlaw_letters_of c [.fz (.lst (ss.map Step.d))] = .ok r none := by
  obtain ⟨y2, y3, y4, rr⟩ := found_loop c h hl (some (.fz (.lst (ss.map Step.d))))
  obtain ⟨g', e1, x, e2⟩ := cL_filt (vs := [5]) (as := aName 5) (mt := ct_xlaw_letters_of_1 c) (me := ce_xlaw_letters_of_2 c) (fun g => ∃ x, g = [some (.fz (.lst (ss.map Step.d))), some (.fz (.str (foundS ss))), y2, y3, y4, x])
    (fun d => match d with
      | .str s => match oneC s with
        | some ch => decide (ch ∈ (foundS ss).cps.toList)
        | none => false
      | _ => false) (signs SMALL) [] [some (.fz (.lst (ss.map Step.d))), some (.fz (.str (foundS ss))), y2, y3, y4, none] (fun d hd g ⟨x, hg⟩ => by
      subst hg
      unfold signs at hd
      obtain ⟨ch, _, rfl⟩ := List.mem_map.mp hd
      refine ⟨[some (.fz (.lst (ss.map Step.d))), some (.fz (.str (foundS ss))), y2, y3, y4, some (.fz (.str ⟨#[ch]⟩))], [some (.fz (.lst (ss.map Step.d))), some (.fz (.str (foundS ss))), y2, y3, y4, some (.fz (.str ⟨#[ch]⟩))], rfl, ?_, fun _ => ⟨_, rfl⟩, fun _ => ⟨.fz (.str ⟨#[ch]⟩), [some (.fz (.lst (ss.map Step.d))), some (.fz (.str (foundS ss))), y2, y3, y4, some (.fz (.str ⟨#[ch]⟩))], ?_, rfl, ⟨_, rfl⟩⟩⟩
      · simp only [ct_xlaw_letters_of_1, fL_cons, rFL_some, fL_nil, dSeq_ap, dIfS_ap, dSet_ap, dDrop_ap, dRet_ap, dRetN_ap, dNx_ap, dBk_ap, dCt_ap, dFor_ap, dC_ap, dVar_ap, dMov_ap, dOp_ap, dUn_ap, dOpY_ap, dCmpT_ap, dCmp_ap, dTru_ap, dTruS_ap, dAndT_ap, dOrT_ap, dNotT_ap, dIf_ap, dAnd_ap, dOr_ap, dNot_ap, aNil_ap, aCons_ap, dTup_ap, dLst_ap, dFld_ap, dFldS_ap, dIxS_ap, dCall_ap, dCallS_ap, dYes_ap, dNoP_ap, dCallF_ap, dCallR_ap, dMeth_ap, dMake_ap, dOpF_ap, dSl_ap, dSlS_ap, dPart_ap, dAsg_ap, dMt_ap, aIxS_ap, rIxA_some, rIxB_ok, dFldSet_ap, rFSet_some, ownI_z, ownI_s, dCatS_ap, dPar_ap, dM1_ap, dLc_ap, dRng1_ap, rVar_u, rMov_fz, rMov_ol, rMov_oi, rTruS_some, rAnd_t, rAnd_f, rOr_t, rOr_f, rNot_s, rFldS_some, rIxS_some, rIxS2_some, rCallS_some, rCallR_some, rCallR2_ok, rCallR3_ok, rSlS_some, rSlS2_some, rCat_some, rCat2_some, rMt_some, rMt2_some, rMt3_some, rPart_some, retF_ok, isBl_bl, asInt_int, fOne_ap, fTwo_ap, aName_ap, RE.bind_ok, RE.toS_ok, RS.then_nx, RS.then_rt, RS.then_bk, RS.then_ct, turnS_nx, turnS_ct, turnS_bk, turnS_rt, opt_some, optO_some, optT_some, frz_ol, frz_fzd, frz_oi, List.getElem?_cons_zero, List.getElem?_cons_succ, List.set_cons_zero, List.set_cons_succ, List.map_cons, List.map_nil, List.length_cons, List.length_nil, List.replicate, List.cons_append, List.nil_append, Nat.reduceAdd, Nat.reduceSub, Nat.reduceLeDiff, if_true, Bool.false_eq_true, if_false, Bool.not_true, Bool.not_false, reduceIte, reduceCtorEq, run_ap, rMake_ok, rAsg_some, rM1_some, strD_str, rLc_some, rPar_two, rRng1_one, rIt_some, dIt_ap2, atI_0, atI_1, atI_2, ixN_2_0, ixN_2_1, back0_t, back0_f, ownL_z, ownL_s, rIxSet_some, Option.map_some, wipeG, cIn, oneC_one]
      · simp only [ce_xlaw_letters_of_2, fL_cons, rFL_some, fL_nil, dSeq_ap, dIfS_ap, dSet_ap, dDrop_ap, dRet_ap, dRetN_ap, dNx_ap, dBk_ap, dCt_ap, dFor_ap, dC_ap, dVar_ap, dMov_ap, dOp_ap, dUn_ap, dOpY_ap, dCmpT_ap, dCmp_ap, dTru_ap, dTruS_ap, dAndT_ap, dOrT_ap, dNotT_ap, dIf_ap, dAnd_ap, dOr_ap, dNot_ap, aNil_ap, aCons_ap, dTup_ap, dLst_ap, dFld_ap, dFldS_ap, dIxS_ap, dCall_ap, dCallS_ap, dYes_ap, dNoP_ap, dCallF_ap, dCallR_ap, dMeth_ap, dMake_ap, dOpF_ap, dSl_ap, dSlS_ap, dPart_ap, dAsg_ap, dMt_ap, aIxS_ap, rIxA_some, rIxB_ok, dFldSet_ap, rFSet_some, ownI_z, ownI_s, dCatS_ap, dPar_ap, dM1_ap, dLc_ap, dRng1_ap, rVar_u, rMov_fz, rMov_ol, rMov_oi, rTruS_some, rAnd_t, rAnd_f, rOr_t, rOr_f, rNot_s, rFldS_some, rIxS_some, rIxS2_some, rCallS_some, rCallR_some, rCallR2_ok, rCallR3_ok, rSlS_some, rSlS2_some, rCat_some, rCat2_some, rMt_some, rMt2_some, rMt3_some, rPart_some, retF_ok, isBl_bl, asInt_int, fOne_ap, fTwo_ap, aName_ap, RE.bind_ok, RE.toS_ok, RS.then_nx, RS.then_rt, RS.then_bk, RS.then_ct, turnS_nx, turnS_ct, turnS_bk, turnS_rt, opt_some, optO_some, optT_some, frz_ol, frz_fzd, frz_oi, List.getElem?_cons_zero, List.getElem?_cons_succ, List.set_cons_zero, List.set_cons_succ, List.map_cons, List.map_nil, List.length_cons, List.length_nil, List.replicate, List.cons_append, List.nil_append, Nat.reduceAdd, Nat.reduceSub, Nat.reduceLeDiff, if_true, Bool.false_eq_true, if_false, Bool.not_true, Bool.not_false, reduceIte, reduceCtorEq, run_ap, rMake_ok, rAsg_some, rM1_some, strD_str, rLc_some, rPar_two, rRng1_one, rIt_some, dIt_ap2, atI_0, atI_1, atI_2, ixN_2_0, ixN_2_1, back0_t, back0_f, ownL_z, ownL_s, rIxSet_some, Option.map_some, wipeG]) ⟨_, rfl⟩ (by decide +kernel)
  subst e2
  have hr' : fJoin "" (.lst (usedD (foundS ss))) = some r := hr
  simp only [F_xlaw_letters_of, m_xlaw_letters_of, fL_cons, rFL_some, fL_nil, dSeq_ap, dIfS_ap, dSet_ap, dDrop_ap, dRet_ap, dRetN_ap, dNx_ap, dBk_ap, dCt_ap, dFor_ap, dC_ap, dVar_ap, dMov_ap, dOp_ap, dUn_ap, dOpY_ap, dCmpT_ap, dCmp_ap, dTru_ap, dTruS_ap, dAndT_ap, dOrT_ap, dNotT_ap, dIf_ap, dAnd_ap, dOr_ap, dNot_ap, aNil_ap, aCons_ap, dTup_ap, dLst_ap, dFld_ap, dFldS_ap, dIxS_ap, dCall_ap, dCallS_ap, dYes_ap, dNoP_ap, dCallF_ap, dCallR_ap, dMeth_ap, dMake_ap, dOpF_ap, dSl_ap, dSlS_ap, dPart_ap, dAsg_ap, dMt_ap, aIxS_ap, rIxA_some, rIxB_ok, dFldSet_ap, rFSet_some, ownI_z, ownI_s, dCatS_ap, dPar_ap, dM1_ap, dLc_ap, dRng1_ap, rVar_u, rMov_fz, rMov_ol, rMov_oi, rTruS_some, rAnd_t, rAnd_f, rOr_t, rOr_f, rNot_s, rFldS_some, rIxS_some, rIxS2_some, rCallS_some, rCallR_some, rCallR2_ok, rCallR3_ok, rSlS_some, rSlS2_some, rCat_some, rCat2_some, rMt_some, rMt2_some, rMt3_some, rPart_some, retF_ok, isBl_bl, asInt_int, fOne_ap, fTwo_ap, aName_ap, RE.bind_ok, RE.toS_ok, RS.then_nx, RS.then_rt, RS.then_bk, RS.then_ct, turnS_nx, turnS_ct, turnS_bk, turnS_rt, opt_some, optO_some, optT_some, frz_ol, frz_fzd, frz_oi, List.getElem?_cons_zero, List.getElem?_cons_succ, List.set_cons_zero, List.set_cons_succ, List.map_cons, List.map_nil, List.length_cons, List.length_nil, List.replicate, List.cons_append, List.nil_append, Nat.reduceAdd, Nat.reduceSub, Nat.reduceLeDiff, if_true, Bool.false_eq_true, if_false, Bool.not_true, Bool.not_false, reduceIte, reduceCtorEq, run_ap, rMake_ok, rAsg_some, rM1_some, strD_str, rLc_some, rPar_two, rRng1_one, rIt_some, dIt_ap2, atI_0, atI_1, atI_2, ixN_2_0, ixN_2_1, back0_t, back0_f, ownL_z, ownL_s, rIxSet_some, Option.map_some, wipeG, itemsD, rr, show (0 : Nat) ≤ big by decide, show (1 : Nat) ≤ big by decide, show signs "abcdefghijklmnopqrstuvwxyz" = signs SMALL from rfl, e1, show ([] ++ (signs SMALL).filter fun d => match d with
      | .str s => match oneC s with
        | some ch => decide (ch ∈ (foundS ss).cps.toList)
        | none => false
      | _ => false) = usedD (foundS ss) from rfl, hr']
end K77
end

section
namespace K77
open PySem L2 L3
variable (c : Cs)
/-! ### the seed and the words -/
def Seed (s : O) : Prop := ∃ a b : Int, s = .ol [.int a, .int b] ∧ 0 ≤ a ∧ 0 ≤ b ∧ b < 2147483647
theorem take_seed {s : O} (h : Seed s) (m : Int) (hm : 0 < m) (hm2 : m < 1000000000) : ∃ v s', F_xlaw_take c [s, .fz (.int m)] = .ok (.fz (.int v)) (some s') ∧ 0 ≤ v ∧ v < m ∧ Seed s' := by
  obtain ⟨a, b, rfl, h1, h2, h3⟩ := h
  obtain ⟨v, a', b', e, k1, k2, k3, k4, k5⟩ := take_ok c h1 h2 h3 hm hm2
  exact ⟨v, _, e, k1, k2, a', b', rfl, k3, k4, k5⟩
theorem joinL_len : ∀ l : List (List Nat), (TL.joinL [] l).length = (l.map List.length).sum
  | [] => rfl
  | [p] => by simp [TL.joinL]
  | p :: q :: r => by
    have h := joinL_len (q :: r)
    show (p ++ ([] ++ TL.joinL [] (q :: r))).length = _
    rw [List.nil_append, List.length_append, h]; rfl
theorem join_len (ys : List Str) : (Txt.join "" ys).length = (ys.map (·.length)).sum := by
  rw [TL.join_eq]
  have h : (Str.join "" ys).cps.toList = TL.joinL [] (ys.map TL.tl) := TL.tl_join "" ys
  show (Str.join "" ys).cps.size = _
  rw [← Array.length_toList, h, joinL_len, List.map_map]
  congr 1
def chrs (l : List Nat) : List Str := l.map fun ch => (⟨#[ch]⟩ : Str)
theorem abcxyz_at {v : Int} (h0 : 0 ≤ v) (h6 : v < 6) : ∃ ch, fIx (.str "abcxyz") (.int v) = some (.str ⟨#[ch]⟩) ∧ ch ∈ SMALL.cps.toList := by
  have hv : v = 0 ∨ v = 1 ∨ v = 2 ∨ v = 3 ∨ v = 4 ∨ v = 5 := by omega
  have go : ∀ j : Nat, ∀ ch, (("abcxyz" : Str).cps.toList)[j]? = some ch → j < 6 → v = (j : Int) → fIx (.str "abcxyz") (.int v) = some (.str ⟨#[ch]⟩) := fun j ch hj hl hv => by
    subst hv
    show (if ("abcxyz" : Str).length ≤ big then (atI ("abcxyz" : Str).cps.toList (j : Int)).map fun ch => D.str ⟨#[ch]⟩ else none) = _
    rw [if_pos (by decide +kernel)]
    have : atI ("abcxyz" : Str).cps.toList (j : Int) = some ch := atI_nat hj
    rw [this]; rfl
  rcases hv with h | h | h | h | h | h
  · exact ⟨97, go 0 97 (by decide +kernel) (by decide) h, by decide +kernel⟩
  · exact ⟨98, go 1 98 (by decide +kernel) (by decide) h, by decide +kernel⟩
  · exact ⟨99, go 2 99 (by decide +kernel) (by decide) h, by decide +kernel⟩
  · exact ⟨120, go 3 120 (by decide +kernel) (by decide) h, by decide +kernel⟩
  · exact ⟨121, go 4 121 (by decide +kernel) (by decide) h, by decide +kernel⟩
  · exact ⟨122, go 5 122 (by decide +kernel) (by decide) h, by decide +kernel⟩
theorem join_short {l : List Nat} (h1 : 1 ≤ l.length) (h8 : l.length ≤ 8) (h : ∀ ch ∈ l, ch ∈ SMALL.cps.toList) : fJoin "" (.lst ((chrs l).map D.str)) = some (.fz (.str (Txt.join "" (chrs l)))) ∧ Short (Txt.join "" (chrs l)) := by
  have b : 8 ≤ big := by decide
  refine ⟨?_, ?_, ?_, ?_⟩
  · unfold fJoin
    simp only [L3.seqD, allStr]
    rw [if_pos]
    have := sum1 l
    show ((chrs l).map (·.length)).sum + _ * 0 ≤ big
    unfold chrs
    omega
  · rw [join_len]; unfold chrs; rw [sum1]; exact h1
  · rw [join_len]; unfold chrs; rw [sum1]; exact h8
  · intro ch hch
    rw [mem_join] at hch
    obtain ⟨y, hy, hc⟩ := hch
    obtain ⟨a, ha, rfl⟩ := List.mem_map.mp hy
    have : ch = a := by simpa using hc
    rw [this]; exact h a ha
theorem rngD_len : ∀ (n : Nat) (i : Int), (rngD i n).length = n
  | 0, _ => rfl
  | n + 1, i => by simp [rngD]
theorem words_ok {s : O} (h : Seed s) : ∃ w s', F_xlaw_words c [s] = .ok (.fz (.str w)) (some s') ∧ Short w ∧ Seed s' := by
  obtain ⟨v, s1, e1, v0, v8, h1⟩ := take_seed c h 8 (by decide) (by decide)
  have hlen : (rngD 0 (1 + v).toNat).length = (1 + v).toNat := rngD_len _ _
  have hbig : 8 ≤ big := by decide
  obtain ⟨acc, g', e2, _, l, s2, x1, rfl, hl, rfl, hs2, hch⟩ := cL_inv (vs := [1]) (as := aName 1) (me := ce_xlaw_words_2 c) (ds := rngD 0 (1 + v).toNat)
    (fun i acc g => ∃ l s2 x1, g = [some s2, x1] ∧ l.length = i ∧ acc = (chrs l).map D.str ∧ Seed s2 ∧ ∀ ch ∈ l, ch ∈ SMALL.cps.toList) (by omega)
    (fun i d acc g hd ⟨l, s2, x1, hg, hl, ha, hs, hc⟩ => by
      subst hg ha
      obtain ⟨v', s3, e3, k0, k6, hs3⟩ := take_seed c hs 6 (by decide) (by decide)
      obtain ⟨ch, e4, hm⟩ := abcxyz_at k0 k6
      refine ⟨[some s2, some (.fz d)], .fz (.str ⟨#[ch]⟩), [some s3, some (.fz d)], rfl, ?_, l ++ [ch], s3, _, rfl, by rw [List.length_append, hl]; rfl, by simp [chrs, O.frz], hs3, ?_⟩
      · simp only [ce_xlaw_words_2, fL_cons, rFL_some, fL_nil, dSeq_ap, dIfS_ap, dSet_ap, dDrop_ap, dRet_ap, dRetN_ap, dNx_ap, dBk_ap, dCt_ap, dFor_ap, dC_ap, dVar_ap, dMov_ap, dOp_ap, dUn_ap, dOpY_ap, dCmpT_ap, dCmp_ap, dTru_ap, dTruS_ap, dAndT_ap, dOrT_ap, dNotT_ap, dIf_ap, dAnd_ap, dOr_ap, dNot_ap, aNil_ap, aCons_ap, dTup_ap, dLst_ap, dFld_ap, dFldS_ap, dIxS_ap, dCall_ap, dCallS_ap, dYes_ap, dNoP_ap, dCallF_ap, dCallR_ap, dMeth_ap, dMake_ap, dOpF_ap, dSl_ap, dSlS_ap, dPart_ap, dAsg_ap, dMt_ap, aIxS_ap, rIxA_some, rIxB_ok, dFldSet_ap, rFSet_some, ownI_z, ownI_s, dCatS_ap, dPar_ap, dM1_ap, dLc_ap, dRng1_ap, rVar_u, rMov_fz, rMov_ol, rMov_oi, rTruS_some, rAnd_t, rAnd_f, rOr_t, rOr_f, rNot_s, rFldS_some, rIxS_some, rIxS2_some, rCallS_some, rCallR_some, rCallR2_ok, rCallR3_ok, rSlS_some, rSlS2_some, rCat_some, rCat2_some, rMt_some, rMt2_some, rMt3_some, rPart_some, retF_ok, isBl_bl, asInt_int, fOne_ap, fTwo_ap, aName_ap, RE.bind_ok, RE.toS_ok, RS.then_nx, RS.then_rt, RS.then_bk, RS.then_ct, turnS_nx, turnS_ct, turnS_bk, turnS_rt, opt_some, optO_some, optT_some, frz_ol, frz_fzd, frz_oi, List.getElem?_cons_zero, List.getElem?_cons_succ, List.set_cons_zero, List.set_cons_succ, List.map_cons, List.map_nil, List.length_cons, List.length_nil, List.replicate, List.cons_append, List.nil_append, Nat.reduceAdd, Nat.reduceSub, Nat.reduceLeDiff, if_true, Bool.false_eq_true, if_false, Bool.not_true, Bool.not_false, reduceIte, reduceCtorEq, run_ap, rMake_ok, rAsg_some, rM1_some, strD_str, rLc_some, rPar_two, rRng1_one, rIt_some, dIt_ap2, atI_0, atI_1, atI_2, ixN_2_0, ixN_2_1, back0_t, back0_f, ownL_z, ownL_s, rIxSet_some, Option.map_some, wipeG, e3, e4]
      · intro ch' h'
        rcases List.mem_append.mp h' with h' | h'
        · exact hc _ h'
        · rw [List.mem_singleton.mp h']; exact hm) 0 [] [some s1, none] (Nat.zero_le _) rfl ⟨[], s1, none, rfl, rfl, rfl, h1, by simp⟩
  rw [List.drop_zero] at e2
  rw [hlen] at hl
  obtain ⟨j1, j2⟩ := join_short (l := l) (by omega) (by omega) hch
  have r62 : R62 (1 + v) = true := by
    unfold R62
    simp only [Bool.and_eq_true, decide_eq_true_eq]
    omega
  refine ⟨_, s2, ?_, j2, hs2⟩
  simp only [F_xlaw_words, m_xlaw_words, fL_cons, rFL_some, fL_nil, dSeq_ap, dIfS_ap, dSet_ap, dDrop_ap, dRet_ap, dRetN_ap, dNx_ap, dBk_ap, dCt_ap, dFor_ap, dC_ap, dVar_ap, dMov_ap, dOp_ap, dUn_ap, dOpY_ap, dCmpT_ap, dCmp_ap, dTru_ap, dTruS_ap, dAndT_ap, dOrT_ap, dNotT_ap, dIf_ap, dAnd_ap, dOr_ap, dNot_ap, aNil_ap, aCons_ap, dTup_ap, dLst_ap, dFld_ap, dFldS_ap, dIxS_ap, dCall_ap, dCallS_ap, dYes_ap, dNoP_ap, dCallF_ap, dCallR_ap, dMeth_ap, dMake_ap, dOpF_ap, dSl_ap, dSlS_ap, dPart_ap, dAsg_ap, dMt_ap, aIxS_ap, rIxA_some, rIxB_ok, dFldSet_ap, rFSet_some, ownI_z, ownI_s, dCatS_ap, dPar_ap, dM1_ap, dLc_ap, dRng1_ap, rVar_u, rMov_fz, rMov_ol, rMov_oi, rTruS_some, rAnd_t, rAnd_f, rOr_t, rOr_f, rNot_s, rFldS_some, rIxS_some, rIxS2_some, rCallS_some, rCallR_some, rCallR2_ok, rCallR3_ok, rSlS_some, rSlS2_some, rCat_some, rCat2_some, rMt_some, rMt2_some, rMt3_some, rPart_some, retF_ok, isBl_bl, asInt_int, fOne_ap, fTwo_ap, aName_ap, RE.bind_ok, RE.toS_ok, RS.then_nx, RS.then_rt, RS.then_bk, RS.then_ct, turnS_nx, turnS_ct, turnS_bk, turnS_rt, opt_some, optO_some, optT_some, frz_ol, frz_fzd, frz_oi, List.getElem?_cons_zero, List.getElem?_cons_succ, List.set_cons_zero, List.set_cons_succ, List.map_cons, List.map_nil, List.length_cons, List.length_nil, List.replicate, List.cons_append, List.nil_append, Nat.reduceAdd, Nat.reduceSub, Nat.reduceLeDiff, if_true, Bool.false_eq_true, if_false, Bool.not_true, Bool.not_false, reduceIte, reduceCtorEq, run_ap, rMake_ok, rAsg_some, rM1_some, strD_str, rLc_some, rPar_two, rRng1_one, rIt_some, dIt_ap2, atI_0, atI_1, atI_2, ixN_2_0, ixN_2_1, back0_t, back0_f, ownL_z, ownL_s, rIxSet_some, Option.map_some, wipeG, e1, fAdd, r62, e2, j1, show (1 : Nat) ≤ 1 by decide]
end K77
end

section
namespace K77
open PySem L2 L3
variable (c : Cs)
/-! ### the state that the draws begin with -/
theorem pow20 (e : Nat) : 2 ^ (e + 20) = 2 ^ e * 1048576 := by rw [Nat.pow_add]
theorem grow_nat {a y E : Nat} (ha : a < E) (hy : y < E) : a * 1000003 + y < E * 1048576 := by omega
theorem state_body {a b z : Int} (ha : 0 ≤ a) (hb : 0 ≤ b) (hb2 : b < 2147483647) (ha2 : a.natAbs < 2 ^ 1100000) (x0 : Option O) :
    fb_xlaw_state_1 c [x0, some (.fz (.int a)), some (.fz (.int b)), some (.fz (.int z))] = .nx [x0, some (.fz (.int (a * 1000003 + (if z < 0 then -z else z)))), some (.fz (.int ((b * 48271 + z).fmod 2147483647))), some (.fz (.int z))] := by
  have m1 : mulOk a 1000003 = true := mulOk_small ha2 (Nat.lt_of_lt_of_le (show (1000003 : Int).natAbs < 2 ^ 31 by decide) (Nat.pow_le_pow_right (by omega) (by omega)))
  have m2 : mulOk b 48271 = true := mulOk_small (Nat.lt_of_lt_of_le (show b.natAbs < 2 ^ 31 by omega) (Nat.pow_le_pow_right (by omega) (by omega))) (Nat.lt_of_lt_of_le (show (48271 : Int).natAbs < 2 ^ 31 by decide) (Nat.pow_le_pow_right (by omega) (by omega)))
  have q0 : (2147483647 : Int) ≠ 0 := by decide
  have d0 : divOk 2147483647 = true := by decide
  simp only [fb_xlaw_state_1, fL_cons, rFL_some, fL_nil, dSeq_ap, dIfS_ap, dSet_ap, dDrop_ap, dRet_ap, dRetN_ap, dNx_ap, dBk_ap, dCt_ap, dFor_ap, dC_ap, dVar_ap, dMov_ap, dOp_ap, dUn_ap, dOpY_ap, dCmpT_ap, dCmp_ap, dTru_ap, dTruS_ap, dAndT_ap, dOrT_ap, dNotT_ap, dIf_ap, dAnd_ap, dOr_ap, dNot_ap, aNil_ap, aCons_ap, dTup_ap, dLst_ap, dFld_ap, dFldS_ap, dIxS_ap, dCall_ap, dCallS_ap, dYes_ap, dNoP_ap, dCallF_ap, dCallR_ap, dMeth_ap, dMake_ap, dOpF_ap, dSl_ap, dSlS_ap, dPart_ap, dAsg_ap, dMt_ap, aIxS_ap, rIxA_some, rIxB_ok, dFldSet_ap, rFSet_some, ownI_z, ownI_s, dCatS_ap, dPar_ap, dM1_ap, dLc_ap, dRng1_ap, rVar_u, rMov_fz, rMov_ol, rMov_oi, rTruS_some, rAnd_t, rAnd_f, rOr_t, rOr_f, rNot_s, rFldS_some, rIxS_some, rIxS2_some, rCallS_some, rCallR_some, rCallR2_ok, rCallR3_ok, rSlS_some, rSlS2_some, rCat_some, rCat2_some, rMt_some, rMt2_some, rMt3_some, rPart_some, retF_ok, isBl_bl, asInt_int, fOne_ap, fTwo_ap, aName_ap, RE.bind_ok, RE.toS_ok, RS.then_nx, RS.then_rt, RS.then_bk, RS.then_ct, turnS_nx, turnS_ct, turnS_bk, turnS_rt, opt_some, optO_some, optT_some, frz_ol, frz_fzd, frz_oi, List.getElem?_cons_zero, List.getElem?_cons_succ, List.set_cons_zero, List.set_cons_succ, List.map_cons, List.map_nil, List.length_cons, List.length_nil, List.replicate, List.cons_append, List.nil_append, Nat.reduceAdd, Nat.reduceSub, Nat.reduceLeDiff, if_true, Bool.false_eq_true, if_false, Bool.not_true, Bool.not_false, reduceIte, reduceCtorEq, run_ap, rMake_ok, rAsg_some, rM1_some, strD_str, rLc_some, rPar_two, rRng1_one, rIt_some, dIt_ap2, atI_0, atI_1, atI_2, ixN_2_0, ixN_2_1, back0_t, back0_f, ownL_z, ownL_s, rIxSet_some, Option.map_some, wipeG, fAdd, fMul, fMod, m1, m2, fAbsD, fInt1D, d0, if_pos q0]
theorem state_ok {ns : List Int} (h : ns.length ≤ 63) (hb : ∀ z ∈ ns, Builtin.Int.intBits z ≤ 1048576) : ∃ s, F_xlaw_state c [.fz (.sq (ns.map D.int))] = .ok s none ∧ Seed s := by
  obtain ⟨g', e1, a, b, x3, hg, h1, h2, h3, h4⟩ := fL_inv (as := aName 3) (b := fb_xlaw_state_1 c) (ds := ns.map D.int) (fun i g => ∃ a b x3, g = [some (.fz (.sq (ns.map D.int))), some (.fz (.int a)), some (.fz (.int b)), x3] ∧ 0 ≤ a ∧ 0 ≤ b ∧ b < 2147483647 ∧ a.natAbs < 2 ^ (1048577 + 20 * i))
    (fun i d g hd ⟨a, b, x3, hg, h1, h2, h3, h4⟩ => by
      subst hg
      simp only [List.getElem?_map] at hd
      cases hs : ns[i]? with
      | none => rw [hs] at hd; cases hd
      | some z =>
        rw [hs] at hd
        cases hd
        have hm : z ∈ ns := List.mem_of_getElem? hs
        have hi : i < ns.length := (List.getElem?_eq_some_iff.mp hs).1
        have hz : z.natAbs < 2 ^ 1048576 := PySem.intBits_le_iff.mp (hb z hm)
        have hz2 : z.natAbs < 2 ^ (1048577 + 20 * i) := Nat.lt_of_lt_of_le hz (Nat.pow_le_pow_right (by omega) (by omega))
        have ha2 : a.natAbs < 2 ^ 1100000 := Nat.lt_of_lt_of_le h4 (Nat.pow_le_pow_right (by omega) (by omega))
        refine ⟨_, _, rfl, .inl (state_body c h1 h2 h3 ha2 _), _, _, _, rfl, ?_, ?_, ?_, ?_⟩
        · split <;> omega
        · exact Int.fmod_nonneg_of_pos _ (by decide)
        · exact Int.fmod_lt_of_pos _ (by decide)
        · have e : 1048577 + 20 * (i + 1) = 1048577 + 20 * i + 20 := by omega
          rw [e, pow20]
          generalize 2 ^ (1048577 + 20 * i) = E at h4 hz2 ⊢
          have := grow_nat h4 hz2
          split <;> omega) 0 [some (.fz (.sq (ns.map D.int))), some (.fz (.int 0)), some (.fz (.int 1)), none] (Nat.zero_le _) ⟨0, 1, none, rfl, by decide, by decide, by decide, Nat.pow_pos (by decide)⟩
  subst hg
  rw [List.drop_zero] at e1
  have hsl : fSl (.sq (ns.map D.int)) none (some 63) = some (.ol (ns.map D.int)) := by
    show some (O.ol (cutD _ none (some 63))) = _
    have : cutD (ns.map D.int) none (some 63) = ns.map D.int := by
      unfold cutD
      rw [HT.sIx_none, show (some (63 : Int)) = some ((63 : Nat) : Int) from rfl, HT.sIx_nat, List.drop_zero, Nat.sub_zero]
      apply List.take_of_length_le
      rw [List.length_map]; omega
    rw [this]
  refine ⟨.ol [.int a, .int b], ?_, a, b, rfl, h1, h2, h3⟩
  simp only [F_xlaw_state, m_xlaw_state, fL_cons, rFL_some, fL_nil, dSeq_ap, dIfS_ap, dSet_ap, dDrop_ap, dRet_ap, dRetN_ap, dNx_ap, dBk_ap, dCt_ap, dFor_ap, dC_ap, dVar_ap, dMov_ap, dOp_ap, dUn_ap, dOpY_ap, dCmpT_ap, dCmp_ap, dTru_ap, dTruS_ap, dAndT_ap, dOrT_ap, dNotT_ap, dIf_ap, dAnd_ap, dOr_ap, dNot_ap, aNil_ap, aCons_ap, dTup_ap, dLst_ap, dFld_ap, dFldS_ap, dIxS_ap, dCall_ap, dCallS_ap, dYes_ap, dNoP_ap, dCallF_ap, dCallR_ap, dMeth_ap, dMake_ap, dOpF_ap, dSl_ap, dSlS_ap, dPart_ap, dAsg_ap, dMt_ap, aIxS_ap, rIxA_some, rIxB_ok, dFldSet_ap, rFSet_some, ownI_z, ownI_s, dCatS_ap, dPar_ap, dM1_ap, dLc_ap, dRng1_ap, rVar_u, rMov_fz, rMov_ol, rMov_oi, rTruS_some, rAnd_t, rAnd_f, rOr_t, rOr_f, rNot_s, rFldS_some, rIxS_some, rIxS2_some, rCallS_some, rCallR_some, rCallR2_ok, rCallR3_ok, rSlS_some, rSlS2_some, rCat_some, rCat2_some, rMt_some, rMt2_some, rMt3_some, rPart_some, retF_ok, isBl_bl, asInt_int, fOne_ap, fTwo_ap, aName_ap, RE.bind_ok, RE.toS_ok, RS.then_nx, RS.then_rt, RS.then_bk, RS.then_ct, turnS_nx, turnS_ct, turnS_bk, turnS_rt, opt_some, optO_some, optT_some, frz_ol, frz_fzd, frz_oi, List.getElem?_cons_zero, List.getElem?_cons_succ, List.set_cons_zero, List.set_cons_succ, List.map_cons, List.map_nil, List.length_cons, List.length_nil, List.replicate, List.cons_append, List.nil_append, Nat.reduceAdd, Nat.reduceSub, Nat.reduceLeDiff, if_true, Bool.false_eq_true, if_false, Bool.not_true, Bool.not_false, reduceIte, reduceCtorEq, run_ap, rMake_ok, rAsg_some, rM1_some, strD_str, rLc_some, rPar_two, rRng1_one, rIt_some, dIt_ap2, atI_0, atI_1, atI_2, ixN_2_0, ixN_2_1, back0_t, back0_f, ownL_z, ownL_s, rIxSet_some, Option.map_some, wipeG, hsl, itemsD, e1, show (2 : Nat) ≤ big by decide]
end K77
end

section
namespace K77
open PySem L2 L3
variable (c : Cs)
/-! ### the measures of a chain -/
def wt (s : Step) : Nat := if s.pick > 3 then 2 else 1
theorem picks {s : Step} (h : s.ok) : s.pick = 0 ∨ s.pick = 1 ∨ s.pick = 2 ∨ s.pick = 3 ∨ s.pick = 4 ∨ s.pick = 5 ∨ s.pick = 6 ∨ s.pick = 7 := by have := h.1; have := h.2.1; omega
theorem step_cnt (t : Tr) {s : Step} (h : s.ok) : (stepT t s).cnt = t.cnt + wt s := by
  rcases picks h with hp | hp | hp | hp | hp | hp | hp | hp <;> simp only [stepT, wt, hp, Int.reduceEq, if_true, if_false, rK, Tr.cnt, Int.reduceGT, gt_iff_lt, Int.reduceLT] <;> omega
theorem step_dep (t : Tr) {s : Step} (h : s.ok) : (stepT t s).dep = t.dep + 1 := by
  have := dep_pos t
  rcases picks h with hp | hp | hp | hp | hp | hp | hp | hp <;> simp only [stepT, wt, hp, Int.reduceEq, if_true, if_false, rK, Tr.dep, Int.reduceGT, gt_iff_lt, Int.reduceLT] <;> omega
theorem rK_nl {k : Int} (h1 : -3 ≤ k) (h2 : k ≤ 3) : (rK k).nl = true := by
  have hk : k = -3 ∨ k = -2 ∨ k = -1 ∨ k = 0 ∨ k = 1 ∨ k = 2 ∨ k = 3 := by omega
  rcases hk with rfl | rfl | rfl | rfl | rfl | rfl | rfl <;> decide +kernel
theorem step_nl (t : Tr) {s : Step} (h : s.ok) (ht : t.nl = true) : (stepT t s).nl = true := by
  have hk := rK_nl h.2.2.2.1 h.2.2.2.2
  unfold rK at hk
  rcases picks h with hp | hp | hp | hp | hp | hp | hp | hp <;> simp only [stepT, wt, hp, Int.reduceEq, if_true, if_false, rK, Int.reduceGT, gt_iff_lt, Int.reduceLT] <;> (unfold Tr.nl) <;> (try rw [ht]) <;> (try rw [hk]) <;> rfl
theorem chain_meas : ∀ (ss : List Step) (t : Tr), (∀ s ∈ ss, s.ok) → (ss.foldl stepT t).cnt = t.cnt + (ss.map wt).sum ∧ (ss.foldl stepT t).dep = t.dep + ss.length ∧ (t.nl = true → (ss.foldl stepT t).nl = true)
  | [], t, _ => ⟨rfl, rfl, id⟩
  | s :: ss, t, h => by
    have hs := h s (by simp)
    obtain ⟨h1, h2, h3⟩ := chain_meas ss (stepT t s) (fun s' h' => h s' (List.mem_cons_of_mem _ h'))
    refine ⟨?_, ?_, fun hn => h3 (step_nl t hs hn)⟩
    · show (ss.foldl stepT (stepT t s)).cnt = _
      rw [h1, step_cnt t hs, List.map_cons, List.sum_cons]; omega
    · show (ss.foldl stepT (stepT t s)).dep = _
      rw [h2, step_dep t hs, List.length_cons]; omega
theorem wt_sum (ss : List Step) : (ss.map wt).sum ≤ 2 * ss.length ∧ ss.length ≤ (ss.map wt).sum := by
  induction ss with
  | nil => exact ⟨Nat.le_refl _, Nat.le_refl _⟩
  | cons s ss ih =>
    rw [List.map_cons, List.sum_cons, List.length_cons]
    have : wt s = 1 ∨ wt s = 2 := by unfold wt; split <;> simp
    omega
theorem step_kind (t t' : Tr) {s s' : Step} (h : s.ok) (h' : s'.ok) (hne : s.pick ≠ s'.pick) : (stepT t s).kind ≠ (stepT t' s').kind := by
  have k : ∀ (t : Tr) {s : Step}, s.ok → (stepT t s).kind = (["star", "reverse", "left", "right", "sum", "product", "both", "shuffle"] : List Str).getD s.pick.toNat "" := fun t s h => by
    rcases picks h with hp | hp | hp | hp | hp | hp | hp | hp <;> simp only [stepT, hp, Int.reduceEq, if_true, if_false] <;> rfl
  rw [k t h, k t' h']
  have d : ∀ i j : Fin 8, i ≠ j → (["star", "reverse", "left", "right", "sum", "product", "both", "shuffle"] : List Str).getD i "" ≠ (["star", "reverse", "left", "right", "sum", "product", "both", "shuffle"] : List Str).getD j "" := by decide +kernel
  have a := h.1; have b := h.2.1; have a' := h'.1; have b' := h'.2.1
  exact d ⟨s.pick.toNat, by omega⟩ ⟨s'.pick.toNat, by omega⟩ (fun e => hne (by have := congrArg Fin.val e; simp only at this; omega))
theorem chain_snoc (ss : List Step) (s : Step) : chain (ss ++ [s]) = stepT (chain ss) s := by
  unfold chain
  rw [List.foldl_append]; rfl
theorem mk_len (t : Tr) (h : ∀ y ∈ t.mk, y.length ≤ 8) : (t.mk.map (·.length)).sum ≤ 8 * t.cnt := by
  have g : ∀ l : List Str, (∀ y ∈ l, y.length ≤ 8) → (l.map (·.length)).sum ≤ 8 * l.length := fun l => by
    induction l with
    | nil => intro _; exact Nat.le_refl _
    | cons a l ih =>
      intro h
      have h1 := h a (by simp)
      have h2 := ih (fun y hy => h y (List.mem_cons_of_mem _ hy))
      rw [List.map_cons, List.sum_cons, List.length_cons]; omega
  have := g t.mk h
  have := mk_le t
  omega
theorem step_mk8 (t : Tr) {s : Step} (h : s.ok) (ht : ∀ y ∈ t.mk, y.length ≤ 8) : ∀ y ∈ (stepT t s).mk, y.length ≤ 8 := by
  have h8 := h.2.2.1.2.1
  have h1 : (first s.word).length = 1 := rfl
  have sub : ∀ y ∈ (stepT t s).mk, y ∈ t.mk ∨ y = s.word ∨ y = first s.word := by
    intro y hy
    rcases picks h with hp | hp | hp | hp | hp | hp | hp | hp <;> simp only [stepT, hp, Int.reduceEq, if_true, if_false, rK, Tr.mk] at hy <;> (try simp at hy) <;>
      first | exact .inl hy | (rcases hy with hy | hy <;> first | exact .inl hy | exact .inr (.inl hy) | exact .inr (.inr hy))
  intro y hy
  rcases sub y hy with hy | rfl | rfl
  · exact ht y hy
  · exact h8
  · omega
theorem chain_mk8 : ∀ (ss : List Step) (t : Tr), (∀ s ∈ ss, s.ok) → (∀ y ∈ t.mk, y.length ≤ 8) → ∀ y ∈ (ss.foldl stepT t).mk, y.length ≤ 8
  | [], t, _, h => h
  | s :: ss, t, hs, h => chain_mk8 ss (stepT t s) (fun s' h' => hs s' (List.mem_cons_of_mem _ h')) (step_mk8 t (hs s (by simp)) h)
end K77
end

section
namespace K77
open PySem L2 L3
variable (c : Cs)
/-! ### chain_holds -/
theorem insE (t : Tr) {m : Str} (h1 : (m == sKind) = false) (h2 : (m == sParts) = false) : insIs c.Expression m (t.toD c) = true := by
  obtain ⟨ps, h⟩ := t.toD_ex c
  rw [h]
  simp [exD, insIs, exFs, List.lookup_cons, h1, h2]
theorem deep_at {v5 v160 v3 : Int} (h5 : 0 ≤ v5) (h5' : v5 < 5) (h160 : 0 ≤ v160) (h160' : v160 < 160) (h3 : 0 ≤ v3) (h3' : v3 < 3) : ∃ d : Nat, fIx (.lst [.int (38 + v5), .int (41 + v160), .int 200]) (.int v3) = some (.int d) ∧ 38 ≤ d ∧ d ≤ 200 := by
  have hv : v3 = 0 ∨ v3 = 1 ∨ v3 = 2 := by omega
  rcases hv with rfl | rfl | rfl
  · exact ⟨(38 + v5).toNat, by rw [Int.toNat_of_nonneg (by omega)]; exact atI_0, by omega, by omega⟩
  · exact ⟨(41 + v160).toNat, by rw [Int.toNat_of_nonneg (by omega)]; exact atI_1, by omega, by omega⟩
  · exact ⟨200, atI_2, by omega, by omega⟩
def G12 (s : O) (deep : Option O) (steps : Option O) (x8 : Option O) : Gm := [some s, deep, steps, none, none, none, none, none, x8, none, none, none]
theorem steps_ok {s : O} (h : Seed s) (x1 : Option O) (n : Nat) (hn : n ≤ 1000) : ∃ (ss : List Step) (s' : O) (x8 : Option O), cL [8] (aName 8) dYes (ce_xlaw_chain_holds_4 c) (rngD 0 n) [] (G12 s x1 none none) = some (ss.map Step.d, G12 s' x1 none x8) ∧ ss.length = n ∧ (∀ p ∈ ss, p.ok) ∧ Seed s' := by
  have b : 1000 ≤ big := by decide
  have hlen : (rngD 0 n).length = n := rngD_len _ _
  obtain ⟨acc, g', e, _, ss, s', x8, rfl, hl, rfl, hs', hok⟩ := cL_inv (vs := [8]) (as := aName 8) (me := ce_xlaw_chain_holds_4 c) (ds := rngD 0 n)
    (fun i acc g => ∃ ss s' x8, g = G12 s' x1 none x8 ∧ ss.length = i ∧ acc = ss.map Step.d ∧ Seed s' ∧ ∀ p ∈ ss, p.ok) (by omega)
    (fun i d acc g hd ⟨ss, s', x8, hg, hl, ha, hs, hok⟩ => by
      subst hg ha
      obtain ⟨v, s1, e1, v0, v8, h1⟩ := take_seed c hs 8 (by decide) (by decide)
      obtain ⟨w, s2, e2, hw, h2⟩ := words_ok c h1
      obtain ⟨k, s3, e3, k0, k7, h3⟩ := take_seed c h2 7 (by decide) (by decide)
      refine ⟨G12 s' x1 none (some (.fz d)), .fz (Step.d ⟨v, w, k - 3⟩), G12 s3 x1 none (some (.fz d)), rfl, ?_, ss ++ [⟨v, w, k - 3⟩], s3, _, rfl, by rw [List.length_append, hl]; rfl, by simp [O.frz], h3, ?_⟩
      · simp only [ce_xlaw_chain_holds_4, G12, fL_cons, rFL_some, fL_nil, dSeq_ap, dIfS_ap, dSet_ap, dDrop_ap, dRet_ap, dRetN_ap, dNx_ap, dBk_ap, dCt_ap, dFor_ap, dC_ap, dVar_ap, dMov_ap, dOp_ap, dUn_ap, dOpY_ap, dCmpT_ap, dCmp_ap, dTru_ap, dTruS_ap, dAndT_ap, dOrT_ap, dNotT_ap, dIf_ap, dAnd_ap, dOr_ap, dNot_ap, aNil_ap, aCons_ap, dTup_ap, dLst_ap, dFld_ap, dFldS_ap, dIxS_ap, dCall_ap, dCallS_ap, dYes_ap, dNoP_ap, dCallF_ap, dCallR_ap, dMeth_ap, dMake_ap, dOpF_ap, dSl_ap, dSlS_ap, dPart_ap, dAsg_ap, dMt_ap, aIxS_ap, rIxA_some, rIxB_ok, dFldSet_ap, rFSet_some, ownI_z, ownI_s, dCatS_ap, dPar_ap, dM1_ap, dLc_ap, dRng1_ap, rVar_u, rMov_fz, rMov_ol, rMov_oi, rTruS_some, rAnd_t, rAnd_f, rOr_t, rOr_f, rNot_s, rFldS_some, rIxS_some, rIxS2_some, rCallS_some, rCallR_some, rCallR2_ok, rCallR3_ok, rSlS_some, rSlS2_some, rCat_some, rCat2_some, rMt_some, rMt2_some, rMt3_some, rPart_some, retF_ok, isBl_bl, asInt_int, fOne_ap, fTwo_ap, aName_ap, RE.bind_ok, RE.toS_ok, RS.then_nx, RS.then_rt, RS.then_bk, RS.then_ct, turnS_nx, turnS_ct, turnS_bk, turnS_rt, opt_some, optO_some, optT_some, frz_ol, frz_fzd, frz_oi, List.getElem?_cons_zero, List.getElem?_cons_succ, List.set_cons_zero, List.set_cons_succ, List.map_cons, List.map_nil, List.length_cons, List.length_nil, List.replicate, List.cons_append, List.nil_append, Nat.reduceAdd, Nat.reduceSub, Nat.reduceLeDiff, if_true, Bool.false_eq_true, if_false, Bool.not_true, Bool.not_false, reduceIte, reduceCtorEq, run_ap, rMake_ok, rAsg_some, rM1_some, strD_str, rLc_some, rPar_two, rRng1_one, rIt_some, dIt_ap2, atI_0, atI_1, atI_2, ixN_2_0, ixN_2_1, back0_t, back0_f, ownL_z, ownL_s, rIxSet_some, Option.map_some, wipeG, e1, e2, e3, fSub, Step.d, show (3 : Nat) ≤ big by decide]
      · intro p hp
        rcases List.mem_append.mp hp with hp | hp
        · exact hok p hp
        · rw [List.mem_singleton.mp hp]
          exact ⟨v0, v8, hw, by show -3 ≤ k - 3; omega, by show k - 3 ≤ 3; omega⟩) 0 [] (G12 s x1 none none) (Nat.zero_le _) rfl ⟨[], s, none, rfl, rfl, rfl, h, by simp⟩
  rw [List.drop_zero] at e
  rw [hlen] at hl
  exact ⟨ss, s', x8, e, hl, hok, hs'⟩
theorem allInt : ∀ ys : List Int, allD intD (ys.map D.int) = some ys
  | [] => rfl
  | y :: ys => by rw [List.map_cons]; unfold allD; rw [allInt ys]; rfl
def wtI (s : Step) : Int := 1 + (if decide (3 < s.pick) = true then 1 else 0)
theorem sum_wt : ∀ ss : List Step, (ss.map wtI).sum = ((ss.map wt).sum : Nat)
  | [] => rfl
  | s :: ss => by
    rw [List.map_cons, List.map_cons, List.sum_cons, List.sum_cons, sum_wt ss]
    unfold wtI wt
    by_cases h : 3 < s.pick <;> simp [h] <;> omega
theorem total_ok {ss : List Step} (hl : ss.length ≤ 1000) (x0 x1 x2 x3 x4 x5 x6 x7 x8 : Option O) : ∃ y9 y10 y11, cL [9, 10, 11] (aTup [aName 9, aName 10, aName 11]) dYes (ce_xlaw_chain_holds_2 c) (ss.map Step.d) [] [x0, x1, x2, x3, x4, x5, x6, x7, x8, none, none, none] = some ((ss.map wtI).map D.int, [x0, x1, x2, x3, x4, x5, x6, x7, x8, y9, y10, y11]) := by
  have b : 1000 ≤ big := by decide
  have hlen : (ss.map Step.d).length = ss.length := List.length_map _
  obtain ⟨acc, g', e, _, y9, y10, y11, rfl, rfl⟩ := cL_inv (vs := [9, 10, 11]) (as := aTup [aName 9, aName 10, aName 11]) (me := ce_xlaw_chain_holds_2 c) (ds := ss.map Step.d)
    (fun i acc g => ∃ y9 y10 y11, g = [x0, x1, x2, x3, x4, x5, x6, x7, x8, y9, y10, y11] ∧ acc = ((ss.take i).map wtI).map D.int) (by omega)
    (fun i d acc g hd ⟨y9, y10, y11, hg, ha⟩ => by
      subst hg ha
      simp only [List.getElem?_map] at hd
      cases hs : ss[i]? with
      | none => rw [hs] at hd; cases hd
      | some s =>
        rw [hs] at hd
        cases hd
        have ht : ss.take (i + 1) = ss.take i ++ [s] := by rw [List.take_succ, hs]; rfl
        refine ⟨[x0, x1, x2, x3, x4, x5, x6, x7, x8, some (.fz (.int s.pick)), some (.fz (.str s.word)), some (.fz (.int s.k))], .fz (.int (wtI s)), [x0, x1, x2, x3, x4, x5, x6, x7, x8, some (.fz (.int s.pick)), some (.fz (.str s.word)), some (.fz (.int s.k))], aTup_n3, ?_, _, _, _, rfl, by rw [ht]; simp [O.frz]⟩
        simp only [ce_xlaw_chain_holds_2, fL_cons, rFL_some, fL_nil, dSeq_ap, dIfS_ap, dSet_ap, dDrop_ap, dRet_ap, dRetN_ap, dNx_ap, dBk_ap, dCt_ap, dFor_ap, dC_ap, dVar_ap, dMov_ap, dOp_ap, dUn_ap, dOpY_ap, dCmpT_ap, dCmp_ap, dTru_ap, dTruS_ap, dAndT_ap, dOrT_ap, dNotT_ap, dIf_ap, dAnd_ap, dOr_ap, dNot_ap, aNil_ap, aCons_ap, dTup_ap, dLst_ap, dFld_ap, dFldS_ap, dIxS_ap, dCall_ap, dCallS_ap, dYes_ap, dNoP_ap, dCallF_ap, dCallR_ap, dMeth_ap, dMake_ap, dOpF_ap, dSl_ap, dSlS_ap, dPart_ap, dAsg_ap, dMt_ap, aIxS_ap, rIxA_some, rIxB_ok, dFldSet_ap, rFSet_some, ownI_z, ownI_s, dCatS_ap, dPar_ap, dM1_ap, dLc_ap, dRng1_ap, rVar_u, rMov_fz, rMov_ol, rMov_oi, rTruS_some, rAnd_t, rAnd_f, rOr_t, rOr_f, rNot_s, rFldS_some, rIxS_some, rIxS2_some, rCallS_some, rCallR_some, rCallR2_ok, rCallR3_ok, rSlS_some, rSlS2_some, rCat_some, rCat2_some, rMt_some, rMt2_some, rMt3_some, rPart_some, retF_ok, isBl_bl, asInt_int, fOne_ap, fTwo_ap, aName_ap, RE.bind_ok, RE.toS_ok, RS.then_nx, RS.then_rt, RS.then_bk, RS.then_ct, turnS_nx, turnS_ct, turnS_bk, turnS_rt, opt_some, optO_some, optT_some, frz_ol, frz_fzd, frz_oi, List.getElem?_cons_zero, List.getElem?_cons_succ, List.set_cons_zero, List.set_cons_succ, List.map_cons, List.map_nil, List.length_cons, List.length_nil, List.replicate, List.cons_append, List.nil_append, Nat.reduceAdd, Nat.reduceSub, Nat.reduceLeDiff, if_true, Bool.false_eq_true, if_false, Bool.not_true, Bool.not_false, reduceIte, reduceCtorEq, run_ap, rMake_ok, rAsg_some, rM1_some, strD_str, rLc_some, rPar_two, rRng1_one, rIt_some, dIt_ap2, atI_0, atI_1, atI_2, ixN_2_0, ixN_2_1, back0_t, back0_f, ownL_z, ownL_s, rIxSet_some, Option.map_some, wipeG, cGt_int, fInt1D, fAdd, wtI]) 0 [] [x0, x1, x2, x3, x4, x5, x6, x7, x8, none, none, none] (Nat.zero_le _) rfl ⟨_, _, _, rfl, rfl⟩
  rw [List.drop_zero] at e
  have ht : ss.take (ss.map Step.d).length = ss := by rw [hlen]; exact List.take_length
  rw [ht] at e
  exact ⟨_, _, _, e⟩
end K77
end

section
namespace K77
open PySem L2 L3
variable (c : Cs)
/-! ### chain_holds: the whole -/
theorem last_at {xs : List D} {d : D} : fIx (.lst (xs ++ [d])) (.int (-1)) = some d := by
  show atI (xs ++ [d]) (-1) = some d
  have h : ((-1 : Int) + ((xs ++ [d]).length : Nat)).toNat = xs.length := by rw [List.length_append, List.length_singleton]; omega
  have h2 : -(((xs ++ [d]).length : Nat) : Int) ≤ -1 := by rw [List.length_append, List.length_singleton]; omega
  unfold atI ixN
  rw [if_neg (by decide), if_pos h2, h]
  simp
theorem init_sl {xs : List D} {d : D} : fSl (.lst (xs ++ [d])) none (some (-1)) = some (.ol xs) := by
  show some (O.ol (cutD (xs ++ [d]) none (some (-1)))) = _
  have h : HT.sIx (xs ++ [d]).length (xs ++ [d]).length (some (-1)) = xs.length := by
    unfold HT.sIx
    simp only
    rw [if_pos (by decide), List.length_append, List.length_singleton]; omega
  unfold cutD
  rw [HT.sIx_none, h]
  simp
theorem cat_sl {xs ys : List D} (h : xs.length + ys.length ≤ big) : fCatL (.lst xs) (.lst ys) = some (.ol (xs ++ ys)) := by
  show (if _ then _ else _) = _
  rw [if_pos h]
theorem made_some {ss : List Step} (h : ∀ s ∈ ss, s.ok) : ∃ o, F_xlaw_made c [.fz (.lst (ss.map Step.d))] = .ok o none ∧ OkE c o (chain ss) := made_ok c h
theorem sumD_ints (ys : List Int) : fSumD (.lst (ys.map D.int)) = some (.fz (.int ys.sum)) := by
  unfold fSumD
  simp only [L3.seqL, allInt, Option.map_some]
theorem chain_used {ss : List Step} (h : ∀ s ∈ ss, s.ok) (hl : ss.length ≤ 1000) : ∃ z : Str, F_Expression_used_letters c [.fz ((chain ss).toD c)] = .ok (.fz (.str z)) none ∧ F_xlaw_letters_of c [.fz (.lst (ss.map Step.d))] = .ok (.fz (.str z)) none := by
  obtain ⟨z, hz⟩ := usedJ_some (foundS ss)
  obtain ⟨m1, _, _⟩ := chain_meas ss (.let_ "m") h
  have w := wt_sum ss
  have b : 100000 ≤ big := by decide
  have hc : (chain ss).cnt ≤ 2001 := by unfold chain; rw [m1]; show 1 + _ ≤ 2001; omega
  have h8 := chain_mk8 ss (.let_ "m") h (fun y hy => by rw [List.mem_singleton.mp hy]; decide)
  have hs := mk_len (chain ss) h8
  exact ⟨z, use_ok c _ (by omega) (by omega) (by rw [found_used h]; exact hz), letters_ok c h hl hz⟩
theorem pick_new {p v : Int} (h0 : 0 ≤ p) (h8 : p < 8) (v0 : 0 ≤ v) (v7 : v < 7) : 0 ≤ (p + 1 + v).fmod 8 ∧ (p + 1 + v).fmod 8 < 8 ∧ p ≠ (p + 1 + v).fmod 8 := by
  rw [Int.fmod_eq_emod_of_nonneg _ (by decide)]
  omega
theorem dep_all {v5 v160 v3 : Int} (h5 : 0 ≤ v5) (h5' : v5 < 5) (h160 : 0 ≤ v160) (h160' : v160 < 160) (h3 : 0 ≤ v3) (h3' : v3 < 3) : ∃ n : Nat, fIx (.lst [.int (38 + v5), .int (41 + v160), .int 200]) (.int v3) = some (.int (n + 2 : Nat)) ∧ 36 ≤ n ∧ n ≤ 198 := by
  obtain ⟨d, h, h1, h2⟩ := deep_at h5 h5' h160 h160' h3 h3'
  exact ⟨d - 2, by rw [h, show d - 2 + 2 = d by omega], by omega, by omega⟩
def alt (p : Step) (v : Int) : Step := ⟨(p.pick + 1 + v).fmod 8, p.word, p.k⟩
theorem made_ol (xs : List D) : F_xlaw_made c [.ol xs] = F_xlaw_made c [.fz (.lst xs)] := by
  have e0 : F_xlaw_honest c [.oi c.Expression (exFs "letter" [.str "m"])] = .ok (.fz ((Tr.let_ "m").toD c)) none := honest_oi c _
  simp only [F_xlaw_made, m_xlaw_made, fL_cons, rFL_some, fL_nil, dSeq_ap, dIfS_ap, dSet_ap, dDrop_ap, dRet_ap, dRetN_ap, dNx_ap, dBk_ap, dCt_ap, dFor_ap, dC_ap, dVar_ap, dMov_ap, dOp_ap, dUn_ap, dOpY_ap, dCmpT_ap, dCmp_ap, dTru_ap, dTruS_ap, dAndT_ap, dOrT_ap, dNotT_ap, dIf_ap, dAnd_ap, dOr_ap, dNot_ap, aNil_ap, aCons_ap, dTup_ap, dLst_ap, dFld_ap, dFldS_ap, dIxS_ap, dCall_ap, dCallS_ap, dYes_ap, dNoP_ap, dCallF_ap, dCallR_ap, dMeth_ap, dMake_ap, dOpF_ap, dSl_ap, dSlS_ap, dPart_ap, dAsg_ap, dMt_ap, aIxS_ap, rIxA_some, rIxB_ok, dFldSet_ap, rFSet_some, ownI_z, ownI_s, dCatS_ap, dPar_ap, dM1_ap, dLc_ap, dRng1_ap, rVar_u, rMov_fz, rMov_ol, rMov_oi, rTruS_some, rAnd_t, rAnd_f, rOr_t, rOr_f, rNot_s, rFldS_some, rIxS_some, rIxS2_some, rCallS_some, rCallR_some, rCallR2_ok, rCallR3_ok, rSlS_some, rSlS2_some, rCat_some, rCat2_some, rMt_some, rMt2_some, rMt3_some, rPart_some, retF_ok, isBl_bl, asInt_int, fOne_ap, fTwo_ap, aName_ap, RE.bind_ok, RE.toS_ok, RS.then_nx, RS.then_rt, RS.then_bk, RS.then_ct, turnS_nx, turnS_ct, turnS_bk, turnS_rt, opt_some, optO_some, optT_some, frz_ol, frz_fzd, frz_oi, List.getElem?_cons_zero, List.getElem?_cons_succ, List.set_cons_zero, List.set_cons_succ, List.map_cons, List.map_nil, List.length_cons, List.length_nil, List.replicate, List.cons_append, List.nil_append, Nat.reduceAdd, Nat.reduceSub, Nat.reduceLeDiff, if_true, Bool.false_eq_true, if_false, Bool.not_true, Bool.not_false, reduceIte, reduceCtorEq, run_ap, rMake_ok, rAsg_some, rM1_some, strD_str, rLc_some, rPar_two, rRng1_one, rIt_some, dIt_ap2, atI_0, atI_1, atI_2, ixN_2_0, ixN_2_1, back0_t, back0_f, ownL_z, ownL_s, rIxSet_some, Option.map_some, wipeG, letter_ok c short_m rfl, e0, itemsD]
theorem chain_ok (hne : c.Ratio ≠ c.Expression) {s : O} (h : Seed s) : ∃ s', F_xlaw_chain_holds c [s] = .ok (.fz (.bl true)) (some s') ∧ Seed s' := by
  obtain ⟨v5, s1, e1, a1, b1, h1⟩ := take_seed c h 5 (by decide) (by decide)
  obtain ⟨v160, s2, e2, a2, b2, h2⟩ := take_seed c h1 160 (by decide) (by decide)
  obtain ⟨v3, s3, e3, a3, b3, h3⟩ := take_seed c h2 3 (by decide) (by decide)
  obtain ⟨n, e4, hn1, hn2⟩ := dep_all a1 b1 a2 b2 a3 b3
  obtain ⟨ss, s4, x8, e5, hl, hok, h4⟩ := steps_ok c h3 (some (.fz (.int (n + 2 : Nat)))) (n + 1) (by omega)
  have hss : ∃ s0 p, ss = s0 ++ [p] := by
    rcases List.eq_nil_or_concat ss with rfl | ⟨l, a, e⟩
    · simp at hl
    · exact ⟨l, a, by simpa using e⟩
  obtain ⟨s0, p, rfl⟩ := hss
  have hl0 : s0.length = n := by rw [List.length_append, List.length_singleton] at hl; omega
  have hp : p.ok := hok p (by simp)
  obtain ⟨v7, s5, e6, a7, b7, h5⟩ := take_seed c h4 7 (by decide) (by decide)
  obtain ⟨q0, q8, qne⟩ := pick_new hp.1 hp.2.1 a7 b7
  have hp' : Step.ok (alt p v7) := ⟨q0, q8, hp.2.2⟩
  have hok' : ∀ q ∈ s0 ++ [alt p v7], Step.ok q := fun q hq => by
    rcases List.mem_append.mp hq with hq | hq
    · exact hok q (by simp [hq])
    · rw [List.mem_singleton.mp hq]; exact hp'
  obtain ⟨o, m1, o1⟩ := made_ok c hok
  obtain ⟨o', m2, o2⟩ := made_ok c hok'
  rw [← made_ol] at m2
  obtain ⟨z, u1, u2⟩ := chain_used c hok (by omega)
  obtain ⟨c1, c2, c3⟩ := chain_meas (s0 ++ [p]) (.let_ "m") hok
  have c3 := c3 rfl
  have wl := wt_sum (s0 ++ [p])
  have dd : (chain (s0 ++ [p])).dep = n + 2 := by unfold chain; rw [c2, hl]; show 1 + (n + 1) = _; omega
  have bb : 100000 ≤ big := by decide
  have cc : (chain (s0 ++ [p])).cnt = 1 + ((s0 ++ [p]).map wt).sum := c1
  have cb : (chain (s0 ++ [p])).cnt + 2 ≤ big := by rw [cc]; omega
  have d1 := depth_ok c (chain (s0 ++ [p])) cb
  have d2 := count_ok c (chain (s0 ++ [p])) cb
  have d3 := isx_ok c (chain (s0 ++ [p])) cb
  rw [dd] at d1
  have tot := sum_wt (s0 ++ [p])
  have ct : (1 : Int) + ((s0 ++ [p]).map wtI).sum = ((chain (s0 ++ [p])).cnt : Nat) := by rw [tot, cc]; omega
  have fit : (chain (s0 ++ [p])).fits = (decide (((n + 2 : Nat) : Int) ≤ 40) && decide ((((chain (s0 ++ [p])).cnt : Nat) : Int) ≤ 200)) := by
    unfold Tr.fits
    rw [show (chain (s0 ++ [p])).nl = true from c3, dd, Bool.and_true, Bool.and_comm]
    congr 1
    · rw [decide_eq_decide]; omega
    · rw [decide_eq_decide]; omega
  have es := psiE_self c hne (t := chain (s0 ++ [p])) (by rw [dd]; omega)
  have kn : (chain (s0 ++ [p])).kind ≠ (chain (s0 ++ [alt p v7])).kind := by
    rw [chain_snoc, chain_snoc]
    exact step_kind _ _ hp hp' qne
  have en1 := psiE_kind c kn
  have en2 := psiE_kind c (Ne.symm kn)
  have r62 : R62 (((n + 2 : Nat) : Int) - 1) = true := by
    unfold R62
    simp only [Bool.and_eq_true, decide_eq_true_eq]
    omega
  have tn : (((n + 2 : Nat) : Int) - 1).toNat = n + 1 := by omega
  have e5' : ∀ G, G = G12 s3 (some (.fz (.int (n + 2 : Nat)))) none none → cL [8] (aName 8) dYes (ce_xlaw_chain_holds_4 c) (rngD 0 (n + 1)) [] G = some ((s0 ++ [p]).map Step.d, G12 s4 (some (.fz (.int (n + 2 : Nat)))) none x8) := fun G hG => by rw [hG]; exact e5
  have e5'' := e5' [some s3, some (.fz (.int (n + 2 : Nat))), none, none, none, none, none, none, none, none, none, none] rfl
  have mapA : (s0 ++ [p]).map Step.d = s0.map Step.d ++ [p.d] := by simp
  have mapB : s0.map Step.d ++ [D.tup [.int ((p.pick + 1 + v7).fmod 8), .str p.word, .int p.k]] = (s0 ++ [alt p v7]).map Step.d := by simp [Step.d, alt]
  have i1 := insE c (chain (s0 ++ [p])) (m := "depth") (by decide +kernel) (by decide +kernel)
  have i2 := insE c (chain (s0 ++ [p])) (m := "count") (by decide +kernel) (by decide +kernel)
  have i3 := insE c (chain (s0 ++ [p])) (m := "used_letters") (by decide +kernel) (by decide +kernel)
  have hc0 : (s0.map Step.d).length + 1 ≤ big := by rw [List.length_map]; omega
  have lastD : fIx (.lst ((s0 ++ [p]).map Step.d)) (.int (-1)) = some p.d := by rw [mapA]; exact last_at
  have initD : fSl (.lst ((s0 ++ [p]).map Step.d)) none (some (-1)) = some (.ol (s0.map Step.d)) := by rw [mapA]; exact init_sl
  have catD : fCatL (.lst (s0.map Step.d)) (.lst [D.tup [.int ((p.pick + 1 + v7).fmod 8), .str p.word, .int p.k]]) = some (.ol ((s0 ++ [alt p v7]).map Step.d)) := by
    rw [cat_sl (by rw [List.length_singleton]; exact hc0), mapB]
  have p0 : fIx p.d (.int 0) = some (.int p.pick) := atI_0
  have p1 : fIx p.d (.int 1) = some (.str p.word) := atI_1
  have p2 : fIx p.d (.int 2) = some (.int p.k) := atI_2
  have q8' : (8 : Int) ≠ 0 := by decide
  have d8 : divOk 8 = true := by decide
  have tl : ∀ x0 x1 x2 x3 x4 x5 x6 x7 x8, _ := total_ok c (ss := s0 ++ [p]) (by omega)
  have fin : ∀ t t' : D, t = (chain (s0 ++ [p])).toD c → t' = (chain (s0 ++ [alt p v7])).toD c → True := fun _ _ _ _ => trivial
  obtain ⟨y9, y10, y11, et⟩ := tl (some s4) (some (.fz (.int (n + 2 : Nat)))) (some (.fz (.lst ((s0 ++ [p]).map Step.d)))) (some o) (some o) none none none none
  refine ⟨s5, ?_, h5⟩
  rcases o1 with rfl | ⟨k1, ps1, rfl, he1⟩
  · rcases o2 with rfl | ⟨k2, ps2, rfl, he2⟩
    · by_cases h40 : ((n + 2 : Nat) : Int) ≤ 40 <;> simp only [F_xlaw_chain_holds, m_xlaw_chain_holds, fL_cons, rFL_some, fL_nil, dSeq_ap, dIfS_ap, dSet_ap, dDrop_ap, dRet_ap, dRetN_ap, dNx_ap, dBk_ap, dCt_ap, dFor_ap, dC_ap, dVar_ap, dMov_ap, dOp_ap, dUn_ap, dOpY_ap, dCmpT_ap, dCmp_ap, dTru_ap, dTruS_ap, dAndT_ap, dOrT_ap, dNotT_ap, dIf_ap, dAnd_ap, dOr_ap, dNot_ap, aNil_ap, aCons_ap, dTup_ap, dLst_ap, dFld_ap, dFldS_ap, dIxS_ap, dCall_ap, dCallS_ap, dYes_ap, dNoP_ap, dCallF_ap, dCallR_ap, dMeth_ap, dMake_ap, dOpF_ap, dSl_ap, dSlS_ap, dPart_ap, dAsg_ap, dMt_ap, aIxS_ap, rIxA_some, rIxB_ok, dFldSet_ap, rFSet_some, ownI_z, ownI_s, dCatS_ap, dPar_ap, dM1_ap, dLc_ap, dRng1_ap, rVar_u, rMov_fz, rMov_ol, rMov_oi, rTruS_some, rAnd_t, rAnd_f, rOr_t, rOr_f, rNot_s, rFldS_some, rIxS_some, rIxS2_some, rCallS_some, rCallR_some, rCallR2_ok, rCallR3_ok, rSlS_some, rSlS2_some, rCat_some, rCat2_some, rMt_some, rMt2_some, rMt3_some, rPart_some, retF_ok, isBl_bl, asInt_int, fOne_ap, fTwo_ap, aName_ap, RE.bind_ok, RE.toS_ok, RS.then_nx, RS.then_rt, RS.then_bk, RS.then_ct, turnS_nx, turnS_ct, turnS_bk, turnS_rt, opt_some, optO_some, optT_some, frz_ol, frz_fzd, frz_oi, List.getElem?_cons_zero, List.getElem?_cons_succ, List.set_cons_zero, List.set_cons_succ, List.map_cons, List.map_nil, List.length_cons, List.length_nil, List.replicate, List.cons_append, List.nil_append, Nat.reduceAdd, Nat.reduceSub, Nat.reduceLeDiff, if_true, Bool.false_eq_true, if_false, Bool.not_true, Bool.not_false, reduceIte, reduceCtorEq, run_ap, rMake_ok, rAsg_some, rM1_some, strD_str, rLc_some, rPar_two, rRng1_one, rIt_some, dIt_ap2, atI_0, atI_1, atI_2, ixN_2_0, ixN_2_1, back0_t, back0_f, ownL_z, ownL_s, rIxSet_some, Option.map_some, wipeG, e1, e2, e3, fAdd, fSub, e4, r62, tn, e5'', G12, m1, itemsD, et, sumD_ints, ct, i1, i2, i3, d1, d2, d3, u1, u2, cNe_int, cNe_str, decide_true, es, says_ok, truthD, cLe_int, fit, h40, decide_false, Bool.true_and, Bool.false_and, fNeg, lastD, initD, p0, p1, p2, e6, fInt1D, fMod, q8', d8, catD, m2, en1, en2, show (1 : Nat) ≤ 1 by decide, show (3 : Nat) ≤ big by decide, show (1 : Nat) ≤ big by decide, ne_eq, not_false_eq_true, and_self, if_pos]
    · have he2' : D.ins c.Expression (exFs k2 ps2) = (chain (s0 ++ [alt p v7])).toD c := he2
      by_cases h40 : ((n + 2 : Nat) : Int) ≤ 40 <;> simp only [F_xlaw_chain_holds, m_xlaw_chain_holds, fL_cons, rFL_some, fL_nil, dSeq_ap, dIfS_ap, dSet_ap, dDrop_ap, dRet_ap, dRetN_ap, dNx_ap, dBk_ap, dCt_ap, dFor_ap, dC_ap, dVar_ap, dMov_ap, dOp_ap, dUn_ap, dOpY_ap, dCmpT_ap, dCmp_ap, dTru_ap, dTruS_ap, dAndT_ap, dOrT_ap, dNotT_ap, dIf_ap, dAnd_ap, dOr_ap, dNot_ap, aNil_ap, aCons_ap, dTup_ap, dLst_ap, dFld_ap, dFldS_ap, dIxS_ap, dCall_ap, dCallS_ap, dYes_ap, dNoP_ap, dCallF_ap, dCallR_ap, dMeth_ap, dMake_ap, dOpF_ap, dSl_ap, dSlS_ap, dPart_ap, dAsg_ap, dMt_ap, aIxS_ap, rIxA_some, rIxB_ok, dFldSet_ap, rFSet_some, ownI_z, ownI_s, dCatS_ap, dPar_ap, dM1_ap, dLc_ap, dRng1_ap, rVar_u, rMov_fz, rMov_ol, rMov_oi, rTruS_some, rAnd_t, rAnd_f, rOr_t, rOr_f, rNot_s, rFldS_some, rIxS_some, rIxS2_some, rCallS_some, rCallR_some, rCallR2_ok, rCallR3_ok, rSlS_some, rSlS2_some, rCat_some, rCat2_some, rMt_some, rMt2_some, rMt3_some, rPart_some, retF_ok, isBl_bl, asInt_int, fOne_ap, fTwo_ap, aName_ap, RE.bind_ok, RE.toS_ok, RS.then_nx, RS.then_rt, RS.then_bk, RS.then_ct, turnS_nx, turnS_ct, turnS_bk, turnS_rt, opt_some, optO_some, optT_some, frz_ol, frz_fzd, frz_oi, List.getElem?_cons_zero, List.getElem?_cons_succ, List.set_cons_zero, List.set_cons_succ, List.map_cons, List.map_nil, List.length_cons, List.length_nil, List.replicate, List.cons_append, List.nil_append, Nat.reduceAdd, Nat.reduceSub, Nat.reduceLeDiff, if_true, Bool.false_eq_true, if_false, Bool.not_true, Bool.not_false, reduceIte, reduceCtorEq, run_ap, rMake_ok, rAsg_some, rM1_some, strD_str, rLc_some, rPar_two, rRng1_one, rIt_some, dIt_ap2, atI_0, atI_1, atI_2, ixN_2_0, ixN_2_1, back0_t, back0_f, ownL_z, ownL_s, rIxSet_some, Option.map_some, wipeG, e1, e2, e3, fAdd, fSub, e4, r62, tn, e5'', G12, m1, itemsD, et, sumD_ints, ct, i1, i2, i3, d1, d2, d3, u1, u2, cNe_int, cNe_str, decide_true, es, says_ok, truthD, cLe_int, fit, h40, decide_false, Bool.true_and, Bool.false_and, fNeg, lastD, initD, p0, p1, p2, e6, fInt1D, fMod, q8', d8, catD, m2, en1, en2, show (1 : Nat) ≤ 1 by decide, show (3 : Nat) ≤ big by decide, show (1 : Nat) ≤ big by decide, ne_eq, not_false_eq_true, and_self, if_pos, he2']
  · have he1' : D.ins c.Expression (exFs k1 ps1) = (chain (s0 ++ [p])).toD c := he1
    rcases o2 with rfl | ⟨k2, ps2, rfl, he2⟩
    · by_cases h40 : ((n + 2 : Nat) : Int) ≤ 40 <;> simp only [F_xlaw_chain_holds, m_xlaw_chain_holds, fL_cons, rFL_some, fL_nil, dSeq_ap, dIfS_ap, dSet_ap, dDrop_ap, dRet_ap, dRetN_ap, dNx_ap, dBk_ap, dCt_ap, dFor_ap, dC_ap, dVar_ap, dMov_ap, dOp_ap, dUn_ap, dOpY_ap, dCmpT_ap, dCmp_ap, dTru_ap, dTruS_ap, dAndT_ap, dOrT_ap, dNotT_ap, dIf_ap, dAnd_ap, dOr_ap, dNot_ap, aNil_ap, aCons_ap, dTup_ap, dLst_ap, dFld_ap, dFldS_ap, dIxS_ap, dCall_ap, dCallS_ap, dYes_ap, dNoP_ap, dCallF_ap, dCallR_ap, dMeth_ap, dMake_ap, dOpF_ap, dSl_ap, dSlS_ap, dPart_ap, dAsg_ap, dMt_ap, aIxS_ap, rIxA_some, rIxB_ok, dFldSet_ap, rFSet_some, ownI_z, ownI_s, dCatS_ap, dPar_ap, dM1_ap, dLc_ap, dRng1_ap, rVar_u, rMov_fz, rMov_ol, rMov_oi, rTruS_some, rAnd_t, rAnd_f, rOr_t, rOr_f, rNot_s, rFldS_some, rIxS_some, rIxS2_some, rCallS_some, rCallR_some, rCallR2_ok, rCallR3_ok, rSlS_some, rSlS2_some, rCat_some, rCat2_some, rMt_some, rMt2_some, rMt3_some, rPart_some, retF_ok, isBl_bl, asInt_int, fOne_ap, fTwo_ap, aName_ap, RE.bind_ok, RE.toS_ok, RS.then_nx, RS.then_rt, RS.then_bk, RS.then_ct, turnS_nx, turnS_ct, turnS_bk, turnS_rt, opt_some, optO_some, optT_some, frz_ol, frz_fzd, frz_oi, List.getElem?_cons_zero, List.getElem?_cons_succ, List.set_cons_zero, List.set_cons_succ, List.map_cons, List.map_nil, List.length_cons, List.length_nil, List.replicate, List.cons_append, List.nil_append, Nat.reduceAdd, Nat.reduceSub, Nat.reduceLeDiff, if_true, Bool.false_eq_true, if_false, Bool.not_true, Bool.not_false, reduceIte, reduceCtorEq, run_ap, rMake_ok, rAsg_some, rM1_some, strD_str, rLc_some, rPar_two, rRng1_one, rIt_some, dIt_ap2, atI_0, atI_1, atI_2, ixN_2_0, ixN_2_1, back0_t, back0_f, ownL_z, ownL_s, rIxSet_some, Option.map_some, wipeG, e1, e2, e3, fAdd, fSub, e4, r62, tn, e5'', G12, m1, itemsD, et, sumD_ints, ct, i1, i2, i3, d1, d2, d3, u1, u2, cNe_int, cNe_str, decide_true, es, says_ok, truthD, cLe_int, fit, h40, decide_false, Bool.true_and, Bool.false_and, fNeg, lastD, initD, p0, p1, p2, e6, fInt1D, fMod, q8', d8, catD, m2, en1, en2, show (1 : Nat) ≤ 1 by decide, show (3 : Nat) ≤ big by decide, show (1 : Nat) ≤ big by decide, ne_eq, not_false_eq_true, and_self, if_pos, he1']
    · have he2' : D.ins c.Expression (exFs k2 ps2) = (chain (s0 ++ [alt p v7])).toD c := he2
      by_cases h40 : ((n + 2 : Nat) : Int) ≤ 40 <;> simp only [F_xlaw_chain_holds, m_xlaw_chain_holds, fL_cons, rFL_some, fL_nil, dSeq_ap, dIfS_ap, dSet_ap, dDrop_ap, dRet_ap, dRetN_ap, dNx_ap, dBk_ap, dCt_ap, dFor_ap, dC_ap, dVar_ap, dMov_ap, dOp_ap, dUn_ap, dOpY_ap, dCmpT_ap, dCmp_ap, dTru_ap, dTruS_ap, dAndT_ap, dOrT_ap, dNotT_ap, dIf_ap, dAnd_ap, dOr_ap, dNot_ap, aNil_ap, aCons_ap, dTup_ap, dLst_ap, dFld_ap, dFldS_ap, dIxS_ap, dCall_ap, dCallS_ap, dYes_ap, dNoP_ap, dCallF_ap, dCallR_ap, dMeth_ap, dMake_ap, dOpF_ap, dSl_ap, dSlS_ap, dPart_ap, dAsg_ap, dMt_ap, aIxS_ap, rIxA_some, rIxB_ok, dFldSet_ap, rFSet_some, ownI_z, ownI_s, dCatS_ap, dPar_ap, dM1_ap, dLc_ap, dRng1_ap, rVar_u, rMov_fz, rMov_ol, rMov_oi, rTruS_some, rAnd_t, rAnd_f, rOr_t, rOr_f, rNot_s, rFldS_some, rIxS_some, rIxS2_some, rCallS_some, rCallR_some, rCallR2_ok, rCallR3_ok, rSlS_some, rSlS2_some, rCat_some, rCat2_some, rMt_some, rMt2_some, rMt3_some, rPart_some, retF_ok, isBl_bl, asInt_int, fOne_ap, fTwo_ap, aName_ap, RE.bind_ok, RE.toS_ok, RS.then_nx, RS.then_rt, RS.then_bk, RS.then_ct, turnS_nx, turnS_ct, turnS_bk, turnS_rt, opt_some, optO_some, optT_some, frz_ol, frz_fzd, frz_oi, List.getElem?_cons_zero, List.getElem?_cons_succ, List.set_cons_zero, List.set_cons_succ, List.map_cons, List.map_nil, List.length_cons, List.length_nil, List.replicate, List.cons_append, List.nil_append, Nat.reduceAdd, Nat.reduceSub, Nat.reduceLeDiff, if_true, Bool.false_eq_true, if_false, Bool.not_true, Bool.not_false, reduceIte, reduceCtorEq, run_ap, rMake_ok, rAsg_some, rM1_some, strD_str, rLc_some, rPar_two, rRng1_one, rIt_some, dIt_ap2, atI_0, atI_1, atI_2, ixN_2_0, ixN_2_1, back0_t, back0_f, ownL_z, ownL_s, rIxSet_some, Option.map_some, wipeG, e1, e2, e3, fAdd, fSub, e4, r62, tn, e5'', G12, m1, itemsD, et, sumD_ints, ct, i1, i2, i3, d1, d2, d3, u1, u2, cNe_int, cNe_str, decide_true, es, says_ok, truthD, cLe_int, fit, h40, decide_false, Bool.true_and, Bool.false_and, fNeg, lastD, initD, p0, p1, p2, e6, fInt1D, fMod, q8', d8, catD, m2, en1, en2, show (1 : Nat) ≤ 1 by decide, show (3 : Nat) ≤ big by decide, show (1 : Nat) ≤ big by decide, ne_eq, not_false_eq_true, and_self, if_pos, he1', he2']
end K77
end

section
namespace K77
open PySem L2 L3
variable (c : Cs)
theorem mul31 {i j : Int} (hi : i.natAbs < 2147483648) (hj : j.natAbs < 2147483648) : mulOk i j = true := by
  have l : ∀ x : Int, x.natAbs < 2147483648 → x.natAbs.log2 < 40 := fun x h => by
    by_cases h0 : x.natAbs = 0
    · rw [h0]; decide
    · exact (Nat.log2_lt h0).mpr (Nat.lt_of_lt_of_le h (by decide))
  have h1 := l i hi
  have h2 := l j hj
  unfold mulOk
  exact decide_eq_true (by omega)
/-! ### doubling -/
def dbl : Nat → Tr
  | 0 => .let_ "a"
  | n + 1 => .sum (dbl n) (dbl n)
theorem dbl_cnt : ∀ n, (dbl n).cnt + 1 = 2 ^ (n + 1)
  | 0 => rfl
  | n + 1 => by
    have h := dbl_cnt n
    simp only [dbl, Tr.cnt]
    rw [Nat.pow_succ]; omega
theorem dbl_dep : ∀ n, (dbl n).dep = n + 1
  | 0 => rfl
  | n + 1 => by
    have h := dbl_dep n
    simp only [dbl, Tr.dep]
    omega
theorem dbl_nl : ∀ n, (dbl n).nl = true
  | 0 => rfl
  | n + 1 => by simp only [dbl, Tr.nl, dbl_nl n, Bool.and_self]
theorem dbl_mk : ∀ n, ∀ y ∈ (dbl n).mk, y = "a"
  | 0, y, h => by simpa [dbl, Tr.mk] using h
  | n + 1, y, h => by
    simp only [dbl, Tr.mk, List.mem_append] at h
    rcases h with h | h <;> exact dbl_mk n y h
theorem dbl_mk1 : ∀ n, ("a" : Str) ∈ (dbl n).mk
  | 0 => by simp [dbl, Tr.mk]
  | n + 1 => by
    simp only [dbl, Tr.mk, List.mem_append]
    exact .inl (dbl_mk1 n)
theorem used_a : usedJ "a" = some (.fz (.str "a")) := by rfl
theorem dbl_used (n : Nat) (hn : n ≤ 12) : F_Expression_used_letters c [.fz ((dbl n).toD c)] = .ok (.fz (.str "a")) none := by
  have h1 := dbl_cnt n
  have h2 : 2 ^ (n + 1) ≤ 2 ^ 13 := Nat.pow_le_pow_right (by decide) (by omega)
  have h3 : 2 ^ 13 = 8192 := by decide
  have b : 100000 ≤ big := by decide
  have h8 := mk_len (dbl n) (fun y hy => by rw [dbl_mk n y hy]; decide)
  refine use_ok c _ (by omega) (by omega) ?_
  rw [← used_a]
  unfold usedJ
  rw [usedD_congr]
  intro ch
  rw [mem_join]
  constructor
  · rintro ⟨y, hy, h⟩
    rw [dbl_mk n y hy] at h; exact h
  · intro h
    exact ⟨"a", dbl_mk1 n, h⟩
theorem isC_tr (t : Tr) : isC c.Expression (t.toD c) = true := by
  obtain ⟨ps, h⟩ := t.toD_ex c
  rw [h]; simp [exD, isC]
theorem exD_sum (a b : Tr) : D.ins c.Expression (exFs "sum" [a.toD c, b.toD c]) = (Tr.sum a b).toD c := rfl
theorem exD_rev (a : Tr) : D.ins c.Expression (exFs "reverse" [a.toD c]) = (Tr.rev a).toD c := rfl
theorem dbl_body (i : Nat) (hi : i ≤ 12) {o : O} (ho : OkE c o (dbl i)) (s x2 x4 x5 x6 x7 x8 : Option O) :
    fb_xlaw_wide_holds_7 c [s, some o, x2, some (.fz (.int (((2 : Nat) ^ (i + 1) : Nat) - 1))), x4, x5, x6, x7, x8] = .nx [s, some (.oi c.Expression (exFs "sum" [(dbl i).toD c, (dbl i).toD c])), x2, some (.fz (.int (((2 : Nat) ^ (i + 2) : Nat) - 1))), x4, x5, x6, x7, x8] := by
  have hp : (2 : Nat) ^ (i + 1) ≤ 2 ^ 13 := Nat.pow_le_pow_right (by decide) (by omega)
  have h3 : 2 ^ 13 = 8192 := by decide
  have hm : mulOk 2 (((2 : Nat) ^ (i + 1) : Nat) - 1) = true := mul31 (by decide) (by generalize (2 : Nat) ^ (i + 1) = E at *; omega)
  have e2 : (2 : Int) * (((2 : Nat) ^ (i + 1) : Nat) - 1) + 1 = (((2 : Nat) ^ (i + 2) : Nat) : Int) - 1 := by
    rw [Nat.pow_succ 2 (i + 1)]
    generalize (2 : Nat) ^ (i + 1) = E at *; omega
  rcases ho with rfl | ⟨k1, ps1, rfl, he⟩
  · simp only [fb_xlaw_wide_holds_7, fL_cons, rFL_some, fL_nil, dSeq_ap, dIfS_ap, dSet_ap, dDrop_ap, dRet_ap, dRetN_ap, dNx_ap, dBk_ap, dCt_ap, dFor_ap, dC_ap, dVar_ap, dMov_ap, dOp_ap, dUn_ap, dOpY_ap, dCmpT_ap, dCmp_ap, dTru_ap, dTruS_ap, dAndT_ap, dOrT_ap, dNotT_ap, dIf_ap, dAnd_ap, dOr_ap, dNot_ap, aNil_ap, aCons_ap, dTup_ap, dLst_ap, dFld_ap, dFldS_ap, dIxS_ap, dCall_ap, dCallS_ap, dYes_ap, dNoP_ap, dCallF_ap, dCallR_ap, dMeth_ap, dMake_ap, dOpF_ap, dSl_ap, dSlS_ap, dPart_ap, dAsg_ap, dMt_ap, aIxS_ap, rIxA_some, rIxB_ok, dFldSet_ap, rFSet_some, ownI_z, ownI_s, dCatS_ap, dPar_ap, dM1_ap, dLc_ap, dRng1_ap, rVar_u, rMov_fz, rMov_ol, rMov_oi, rTruS_some, rAnd_t, rAnd_f, rOr_t, rOr_f, rNot_s, rFldS_some, rIxS_some, rIxS2_some, rCallS_some, rCallR_some, rCallR2_ok, rCallR3_ok, rSlS_some, rSlS2_some, rCat_some, rCat2_some, rMt_some, rMt2_some, rMt3_some, rPart_some, retF_ok, isBl_bl, asInt_int, fOne_ap, fTwo_ap, aName_ap, RE.bind_ok, RE.toS_ok, RS.then_nx, RS.then_rt, RS.then_bk, RS.then_ct, turnS_nx, turnS_ct, turnS_bk, turnS_rt, opt_some, optO_some, optT_some, frz_ol, frz_fzd, frz_oi, List.getElem?_cons_zero, List.getElem?_cons_succ, List.set_cons_zero, List.set_cons_succ, List.map_cons, List.map_nil, List.length_cons, List.length_nil, List.replicate, List.cons_append, List.nil_append, Nat.reduceAdd, Nat.reduceSub, Nat.reduceLeDiff, if_true, Bool.false_eq_true, if_false, Bool.not_true, Bool.not_false, reduceIte, reduceCtorEq, run_ap, rMake_ok, rAsg_some, rM1_some, strD_str, rLc_some, rPar_two, rRng1_one, rIt_some, dIt_ap2, atI_0, atI_1, atI_2, ixN_2_0, ixN_2_1, back0_t, back0_f, ownL_z, ownL_s, rIxSet_some, Option.map_some, wipeG, isC_tr, add_ok, and_self, fAdd, fMul, hm, e2]
  · have he' : D.ins c.Expression (exFs k1 ps1) = (dbl i).toD c := he
    simp only [fb_xlaw_wide_holds_7, fL_cons, rFL_some, fL_nil, dSeq_ap, dIfS_ap, dSet_ap, dDrop_ap, dRet_ap, dRetN_ap, dNx_ap, dBk_ap, dCt_ap, dFor_ap, dC_ap, dVar_ap, dMov_ap, dOp_ap, dUn_ap, dOpY_ap, dCmpT_ap, dCmp_ap, dTru_ap, dTruS_ap, dAndT_ap, dOrT_ap, dNotT_ap, dIf_ap, dAnd_ap, dOr_ap, dNot_ap, aNil_ap, aCons_ap, dTup_ap, dLst_ap, dFld_ap, dFldS_ap, dIxS_ap, dCall_ap, dCallS_ap, dYes_ap, dNoP_ap, dCallF_ap, dCallR_ap, dMeth_ap, dMake_ap, dOpF_ap, dSl_ap, dSlS_ap, dPart_ap, dAsg_ap, dMt_ap, aIxS_ap, rIxA_some, rIxB_ok, dFldSet_ap, rFSet_some, ownI_z, ownI_s, dCatS_ap, dPar_ap, dM1_ap, dLc_ap, dRng1_ap, rVar_u, rMov_fz, rMov_ol, rMov_oi, rTruS_some, rAnd_t, rAnd_f, rOr_t, rOr_f, rNot_s, rFldS_some, rIxS_some, rIxS2_some, rCallS_some, rCallR_some, rCallR2_ok, rCallR3_ok, rSlS_some, rSlS2_some, rCat_some, rCat2_some, rMt_some, rMt2_some, rMt3_some, rPart_some, retF_ok, isBl_bl, asInt_int, fOne_ap, fTwo_ap, aName_ap, RE.bind_ok, RE.toS_ok, RS.then_nx, RS.then_rt, RS.then_bk, RS.then_ct, turnS_nx, turnS_ct, turnS_bk, turnS_rt, opt_some, optO_some, optT_some, frz_ol, frz_fzd, frz_oi, List.getElem?_cons_zero, List.getElem?_cons_succ, List.set_cons_zero, List.set_cons_succ, List.map_cons, List.map_nil, List.length_cons, List.length_nil, List.replicate, List.cons_append, List.nil_append, Nat.reduceAdd, Nat.reduceSub, Nat.reduceLeDiff, if_true, Bool.false_eq_true, if_false, Bool.not_true, Bool.not_false, reduceIte, reduceCtorEq, run_ap, rMake_ok, rAsg_some, rM1_some, strD_str, rLc_some, rPar_two, rRng1_one, rIt_some, dIt_ap2, atI_0, atI_1, atI_2, ixN_2_0, ixN_2_1, back0_t, back0_f, ownL_z, ownL_s, rIxSet_some, Option.map_some, wipeG, he', isC_tr, add_ok, and_self, fAdd, fMul, hm, e2]
theorem rngD_at {n i : Nat} {d : D} (h : (rngD 0 n)[i]? = some d) : i < n := by
  have := (List.getElem?_eq_some_iff.mp h).1
  rwa [rngD_len] at this
theorem dbl_loop (n : Nat) (hn : n ≤ 12) (s x2 : Option O) : ∃ o x4, OkE c o (dbl n) ∧ fL (aName 4) (fb_xlaw_wide_holds_7 c) (rngD 0 n) [s, some (.fz ((Tr.let_ "a").toD c)), x2, some (.fz (.int 1)), none, none, none, none, none] = .nx [s, some o, x2, some (.fz (.int (((2 : Nat) ^ (n + 1) : Nat) - 1))), x4, none, none, none, none] := by
  obtain ⟨g', e, o, x4, hg, ho⟩ := fL_inv (as := aName 4) (b := fb_xlaw_wide_holds_7 c) (ds := rngD 0 n) (fun i g => ∃ o x4, g = [s, some o, x2, some (.fz (.int (((2 : Nat) ^ (i + 1) : Nat) - 1))), x4, none, none, none, none] ∧ OkE c o (dbl i))
    (fun i d g hd ⟨o, x4, hg, ho⟩ => by
      subst hg
      have hi := rngD_at hd
      exact ⟨_, _, rfl, .inl (dbl_body c i (by omega) ho s x2 _ none none none none), _, _, rfl, .inr ⟨_, _, rfl, rfl⟩⟩)
    0 [s, some (.fz ((Tr.let_ "a").toD c)), x2, some (.fz (.int 1)), none, none, none, none, none] (Nat.zero_le _) ⟨_, _, rfl, .inl rfl⟩
  rw [rngD_len] at hg ho
  rw [List.drop_zero] at e
  exact ⟨o, x4, ho, by rw [e, hg]⟩
/-! ### sums as deep as they must be -/
def Flat (d : Nat) (ts : List Tr) : Prop := ∀ t ∈ ts, t.dep ≤ d ∧ t.nl = true
def wts (ts : List Tr) : Nat := (ts.map fun t => t.cnt + 1).sum
theorem abc_at {v : Int} (h0 : 0 ≤ v) (h6 : v < 3) : ∃ ch, fIx (.str "abc") (.int v) = some (.str ⟨#[ch]⟩) ∧ ch ∈ SMALL.cps.toList := by
  have hv : v = 0 ∨ v = 1 ∨ v = 2 := by omega
  have go : ∀ j : Nat, ∀ ch, (("abc" : Str).cps.toList)[j]? = some ch → j < 3 → v = (j : Int) → fIx (.str "abc") (.int v) = some (.str ⟨#[ch]⟩) := fun j ch hj hl hv => by
    subst hv
    show (if ("abc" : Str).length ≤ big then (atI ("abc" : Str).cps.toList (j : Int)).map fun ch => D.str ⟨#[ch]⟩ else none) = _
    rw [if_pos (by decide +kernel)]
    have : atI ("abc" : Str).cps.toList (j : Int) = some ch := atI_nat hj
    rw [this]; rfl
  rcases hv with h | h | h
  · exact ⟨97, go 0 97 (by decide +kernel) (by decide) h, by decide +kernel⟩
  · exact ⟨98, go 1 98 (by decide +kernel) (by decide) h, by decide +kernel⟩
  · exact ⟨99, go 2 99 (by decide +kernel) (by decide) h, by decide +kernel⟩
theorem one_short {ch : Nat} (h : ch ∈ SMALL.cps.toList) : Short ⟨#[ch]⟩ := ⟨Nat.le_refl 1, by show 1 ≤ 8; omega, fun x hx => by
  have : x = ch := by simpa using hx
  rw [this]; exact h⟩
theorem wts_app (a b : List Tr) : wts (a ++ b) = wts a + wts b := by unfold wts; rw [List.map_append, List.sum_append]
theorem letters_lc {s : O} (h : Seed s) (n : Nat) (hn : n ≤ 1000) (x1 x2 x3 x4 x5 : Option O) : ∃ ts s' x8, cL [8] (aName 8) dYes (ce_xlaw_wide_holds_6 c) (rngD 0 n) [] [some s, x1, x2, x3, x4, x5, none, none, none] = some (ts.map (Tr.toD c), [some s', x1, x2, x3, x4, x5, none, none, x8]) ∧ ts.length = n ∧ Flat 1 ts ∧ wts ts = 2 * n ∧ Seed s' := by
  have b : 1000 ≤ big := by decide
  have hlen : (rngD 0 n).length = n := rngD_len _ _
  obtain ⟨acc, g', e, _, ts, s', x8, rfl, hl, rfl, hs', hok, hw⟩ := cL_inv (vs := [8]) (as := aName 8) (me := ce_xlaw_wide_holds_6 c) (ds := rngD 0 n)
    (fun i acc g => ∃ ts s' x8, g = [some s', x1, x2, x3, x4, x5, none, none, x8] ∧ ts.length = i ∧ acc = ts.map (Tr.toD c) ∧ Seed s' ∧ Flat 1 ts ∧ wts ts = 2 * i) (by omega)
    (fun i d acc g hd ⟨ts, s', x8, hg, hl, ha, hs, hok, hw⟩ => by
      subst hg ha
      obtain ⟨v, s1, e1, v0, v8, h1⟩ := take_seed c hs 3 (by decide) (by decide)
      obtain ⟨ch, e4, hm⟩ := abc_at v0 v8
      have hh : F_xlaw_honest c [.oi c.Expression (exFs "letter" [.str ⟨#[ch]⟩])] = .ok (.fz ((Tr.let_ ⟨#[ch]⟩).toD c)) none := honest_oi c _
      refine ⟨[some s', x1, x2, x3, x4, x5, none, none, some (.fz d)], .fz ((Tr.let_ ⟨#[ch]⟩).toD c), [some s1, x1, x2, x3, x4, x5, none, none, some (.fz d)], rfl, ?_, ts ++ [.let_ ⟨#[ch]⟩], s1, _, rfl, by rw [List.length_append, hl]; rfl, by simp [O.frz], h1, ?_, by rw [wts_app, hw]; show 2 * i + 2 = _; omega⟩
      · simp only [ce_xlaw_wide_holds_6, fL_cons, rFL_some, fL_nil, dSeq_ap, dIfS_ap, dSet_ap, dDrop_ap, dRet_ap, dRetN_ap, dNx_ap, dBk_ap, dCt_ap, dFor_ap, dC_ap, dVar_ap, dMov_ap, dOp_ap, dUn_ap, dOpY_ap, dCmpT_ap, dCmp_ap, dTru_ap, dTruS_ap, dAndT_ap, dOrT_ap, dNotT_ap, dIf_ap, dAnd_ap, dOr_ap, dNot_ap, aNil_ap, aCons_ap, dTup_ap, dLst_ap, dFld_ap, dFldS_ap, dIxS_ap, dCall_ap, dCallS_ap, dYes_ap, dNoP_ap, dCallF_ap, dCallR_ap, dMeth_ap, dMake_ap, dOpF_ap, dSl_ap, dSlS_ap, dPart_ap, dAsg_ap, dMt_ap, aIxS_ap, rIxA_some, rIxB_ok, dFldSet_ap, rFSet_some, ownI_z, ownI_s, dCatS_ap, dPar_ap, dM1_ap, dLc_ap, dRng1_ap, rVar_u, rMov_fz, rMov_ol, rMov_oi, rTruS_some, rAnd_t, rAnd_f, rOr_t, rOr_f, rNot_s, rFldS_some, rIxS_some, rIxS2_some, rCallS_some, rCallR_some, rCallR2_ok, rCallR3_ok, rSlS_some, rSlS2_some, rCat_some, rCat2_some, rMt_some, rMt2_some, rMt3_some, rPart_some, retF_ok, isBl_bl, asInt_int, fOne_ap, fTwo_ap, aName_ap, RE.bind_ok, RE.toS_ok, RS.then_nx, RS.then_rt, RS.then_bk, RS.then_ct, turnS_nx, turnS_ct, turnS_bk, turnS_rt, opt_some, optO_some, optT_some, frz_ol, frz_fzd, frz_oi, List.getElem?_cons_zero, List.getElem?_cons_succ, List.set_cons_zero, List.set_cons_succ, List.map_cons, List.map_nil, List.length_cons, List.length_nil, List.replicate, List.cons_append, List.nil_append, Nat.reduceAdd, Nat.reduceSub, Nat.reduceLeDiff, if_true, Bool.false_eq_true, if_false, Bool.not_true, Bool.not_false, reduceIte, reduceCtorEq, run_ap, rMake_ok, rAsg_some, rM1_some, strD_str, rLc_some, rPar_two, rRng1_one, rIt_some, dIt_ap2, atI_0, atI_1, atI_2, ixN_2_0, ixN_2_1, back0_t, back0_f, ownL_z, ownL_s, rIxSet_some, Option.map_some, wipeG, e1, e4, letter_ok c (one_short hm) rfl, hh]
      · intro t ht
        rcases List.mem_append.mp ht with ht | ht
        · exact hok t ht
        · rw [List.mem_singleton.mp ht]; exact ⟨Nat.le_refl 1, rfl⟩) 0 [] [some s, x1, x2, x3, x4, x5, none, none, none] (Nat.zero_le _) rfl ⟨[], s, none, rfl, rfl, rfl, h, fun _ h => by simp at h, rfl⟩
  rw [List.drop_zero] at e
  rw [hlen] at hl hw
  exact ⟨ts, s', x8, e, hl, hok, hw, hs'⟩
def StW (x0 x1 x2 x3 x4 x5 : Option O) (ts : List Tr) (x7 x8 : Option O) : Gm := [x0, x1, x2, x3, x4, x5, some (.ol (ts.map (Tr.toD c))), x7, x8]
theorem pairs_lc (x0 x1 x2 x3 x4 x5 x7 : Option O) {ts : List Tr} {d : Nat} (hl : ts.length ≤ 1000) (hf : Flat d ts) : ∃ us x8, cL [8] (aName 8) dYes (ce_xlaw_wide_holds_2 c) (rngD 0 (ts.length / 2)) [] (StW c x0 x1 x2 x3 x4 x5 ts x7 none) = some (us.map (Tr.toD c), StW c x0 x1 x2 x3 x4 x5 ts x7 x8) ∧ us.length = ts.length / 2 ∧ Flat (d + 1) us ∧ wts us = wts (ts.take (2 * (ts.length / 2))) := by
  have b : 1000 ≤ big := by decide
  have hlen : (rngD 0 (ts.length / 2)).length = ts.length / 2 := rngD_len _ _
  obtain ⟨acc, g', e, _, us, x8, rfl, hl, rfl, hok, hw⟩ := cL_inv (vs := [8]) (as := aName 8) (me := ce_xlaw_wide_holds_2 c) (ds := rngD 0 (ts.length / 2))
    (fun i acc g => ∃ us x8, g = StW c x0 x1 x2 x3 x4 x5 ts x7 x8 ∧ us.length = i ∧ acc = us.map (Tr.toD c) ∧ Flat (d + 1) us ∧ wts us = wts (ts.take (2 * i))) (by omega)
    (fun i dd acc g hd ⟨us, x8, hg, hul, ha, hok, hw⟩ => by
      subst hg ha
      have hi := rngD_at hd
      have hdd : dd = .int i := by
        have h := hd
        unfold rngD at h
        rw [List.getElem?_map, List.getElem?_range hi] at h
        cases h
        simp
      subst hdd
      have l1 : 2 * i < ts.length := by omega
      have l2 : 2 * i + 1 < ts.length := by omega
      have ga : ts[2 * i]? = some ts[2 * i] := by simp [l1]
      have gb : ts[2 * i + 1]? = some ts[2 * i + 1] := by simp [l2]
      generalize ts[2 * i] = ta at ga
      generalize ts[2 * i + 1] = tb at gb
      have i1 : fIx (.lst (ts.map (Tr.toD c))) (.int (2 * (i : Int))) = some (ta.toD c) := by
        show atI _ _ = _
        rw [show (2 * (i : Int)) = ((2 * i : Nat) : Int) by omega]
        exact atI_nat (by rw [List.getElem?_map, ga]; rfl)
      have i2 : fIx (.lst (ts.map (Tr.toD c))) (.int (2 * (i : Int) + 1)) = some (tb.toD c) := by
        show atI _ _ = _
        rw [show (2 * (i : Int) + 1) = ((2 * i + 1 : Nat) : Int) by omega]
        exact atI_nat (by rw [List.getElem?_map, gb]; rfl)
      have hm : mulOk 2 (i : Int) = true := mul31 (by decide) (by omega)
      have fa := hf ta (List.mem_of_getElem? ga)
      have fb := hf tb (List.mem_of_getElem? gb)
      refine ⟨StW c x0 x1 x2 x3 x4 x5 ts x7 (some (.fz (.int i))), .oi c.Expression (exFs "sum" [ta.toD c, tb.toD c]), StW c x0 x1 x2 x3 x4 x5 ts x7 (some (.fz (.int i))), rfl, ?_, us ++ [.sum ta tb], _, rfl, by rw [List.length_append, hul]; rfl, by rw [List.map_append]; rfl, ?_, ?_⟩
      · simp only [ce_xlaw_wide_holds_2, StW, fL_cons, rFL_some, fL_nil, dSeq_ap, dIfS_ap, dSet_ap, dDrop_ap, dRet_ap, dRetN_ap, dNx_ap, dBk_ap, dCt_ap, dFor_ap, dC_ap, dVar_ap, dMov_ap, dOp_ap, dUn_ap, dOpY_ap, dCmpT_ap, dCmp_ap, dTru_ap, dTruS_ap, dAndT_ap, dOrT_ap, dNotT_ap, dIf_ap, dAnd_ap, dOr_ap, dNot_ap, aNil_ap, aCons_ap, dTup_ap, dLst_ap, dFld_ap, dFldS_ap, dIxS_ap, dCall_ap, dCallS_ap, dYes_ap, dNoP_ap, dCallF_ap, dCallR_ap, dMeth_ap, dMake_ap, dOpF_ap, dSl_ap, dSlS_ap, dPart_ap, dAsg_ap, dMt_ap, aIxS_ap, rIxA_some, rIxB_ok, dFldSet_ap, rFSet_some, ownI_z, ownI_s, dCatS_ap, dPar_ap, dM1_ap, dLc_ap, dRng1_ap, rVar_u, rMov_fz, rMov_ol, rMov_oi, rTruS_some, rAnd_t, rAnd_f, rOr_t, rOr_f, rNot_s, rFldS_some, rIxS_some, rIxS2_some, rCallS_some, rCallR_some, rCallR2_ok, rCallR3_ok, rSlS_some, rSlS2_some, rCat_some, rCat2_some, rMt_some, rMt2_some, rMt3_some, rPart_some, retF_ok, isBl_bl, asInt_int, fOne_ap, fTwo_ap, aName_ap, RE.bind_ok, RE.toS_ok, RS.then_nx, RS.then_rt, RS.then_bk, RS.then_ct, turnS_nx, turnS_ct, turnS_bk, turnS_rt, opt_some, optO_some, optT_some, frz_ol, frz_fzd, frz_oi, List.getElem?_cons_zero, List.getElem?_cons_succ, List.set_cons_zero, List.set_cons_succ, List.map_cons, List.map_nil, List.length_cons, List.length_nil, List.replicate, List.cons_append, List.nil_append, Nat.reduceAdd, Nat.reduceSub, Nat.reduceLeDiff, if_true, Bool.false_eq_true, if_false, Bool.not_true, Bool.not_false, reduceIte, reduceCtorEq, run_ap, rMake_ok, rAsg_some, rM1_some, strD_str, rLc_some, rPar_two, rRng1_one, rIt_some, dIt_ap2, atI_0, atI_1, atI_2, ixN_2_0, ixN_2_1, back0_t, back0_f, ownL_z, ownL_s, rIxSet_some, Option.map_some, wipeG, fMul, hm, fAdd, i1, i2, isC_tr, add_ok, and_self]
      · intro t ht
        rcases List.mem_append.mp ht with ht | ht
        · exact hok t ht
        · rw [List.mem_singleton.mp ht]
          refine ⟨?_, ?_⟩
          · show 1 + max ta.dep tb.dep ≤ d + 1
            have := fa.1; have := fb.1; omega
          · show (ta.nl && tb.nl) = true
            rw [fa.2, fb.2]; rfl
      · have ht : ts.take (2 * (i + 1)) = ts.take (2 * i) ++ [ta, tb] := by
          rw [show 2 * (i + 1) = 2 * i + 1 + 1 by omega, List.take_succ, List.take_succ, ga, gb]; simp
        rw [ht, wts_app, wts_app, hw]
        congr 1
        show (1 + ta.cnt + tb.cnt + 1) + 0 = (ta.cnt + 1) + ((tb.cnt + 1) + 0)
        omega) 0 [] (StW c x0 x1 x2 x3 x4 x5 ts x7 none) (Nat.zero_le _) rfl ⟨[], none, rfl, rfl, rfl, fun _ h => by simp at h, by simp [wts]⟩
  rw [List.drop_zero] at e
  rw [hlen] at hl hw
  exact ⟨us, x8, e, hl, hok, hw⟩
theorem cut_from {xs : List D} {n : Nat} (h : n ≤ xs.length) : fSl (.lst xs) (some (n : Int)) none = some (.ol (xs.drop n)) := by
  show some (O.ol (cutD xs (some (n : Int)) none)) = _
  have : cutD xs (some (n : Int)) none = xs.drop n := by
    unfold cutD
    rw [HT.sIx_none, HT.sIx_nat, Nat.min_eq_left h]
    apply List.take_of_length_le
    rw [List.length_drop]; omega
  rw [this]
theorem half_i (n : Nat) : ((n : Int)).fdiv 2 = ((n / 2 : Nat) : Int) := by
    rw [Int.fdiv_eq_ediv_of_nonneg _ (by decide)]; omega
theorem div_two (n : Nat) : fDiv (.int (n : Int)) (.int 2) = some (.int ((n / 2 : Nat) : Int)) := by
  have d2 : divOk 2 = true := by decide
  show (if divOk 2 = true then some (D.int ((n : Int).fdiv 2)) else none) = _
  rw [if_pos d2, half_i]
theorem s0a (x0 x1 x2 x3 x4 x5 x7 : Option O) (ds : List D) (n : Nat) (hn : ds.length = n) (hb : n ≤ 1000) : (aCons (dOp fDiv (dCallS (fOne fLenD) 6) (dC (.int 2))) (aNil)) [x0, x1, x2, x3, x4, x5, some (.ol ds), x7, none] = .ok [.fz (.int ((n / 2 : Nat) : Int))] [x0, x1, x2, x3, x4, x5, some (.ol ds), x7, none] := by
  simp only [fL_cons, rFL_some, fL_nil, dSeq_ap, dIfS_ap, dSet_ap, dDrop_ap, dRet_ap, dRetN_ap, dNx_ap, dBk_ap, dCt_ap, dFor_ap, dC_ap, dVar_ap, dMov_ap, dOp_ap, dUn_ap, dOpY_ap, dCmpT_ap, dCmp_ap, dTru_ap, dTruS_ap, dAndT_ap, dOrT_ap, dNotT_ap, dIf_ap, dAnd_ap, dOr_ap, dNot_ap, aNil_ap, aCons_ap, dTup_ap, dLst_ap, dFld_ap, dFldS_ap, dIxS_ap, dCall_ap, dCallS_ap, dYes_ap, dNoP_ap, dCallF_ap, dCallR_ap, dMeth_ap, dMake_ap, dOpF_ap, dSl_ap, dSlS_ap, dPart_ap, dAsg_ap, dMt_ap, aIxS_ap, rIxA_some, rIxB_ok, dFldSet_ap, rFSet_some, ownI_z, ownI_s, dCatS_ap, dPar_ap, dM1_ap, dLc_ap, dRng1_ap, rVar_u, rMov_fz, rMov_ol, rMov_oi, rTruS_some, rAnd_t, rAnd_f, rOr_t, rOr_f, rNot_s, rFldS_some, rIxS_some, rIxS2_some, rCallS_some, rCallR_some, rCallR2_ok, rCallR3_ok, rSlS_some, rSlS2_some, rCat_some, rCat2_some, rMt_some, rMt2_some, rMt3_some, rPart_some, retF_ok, isBl_bl, asInt_int, fOne_ap, fTwo_ap, aName_ap, RE.bind_ok, RE.toS_ok, RS.then_nx, RS.then_rt, RS.then_bk, RS.then_ct, turnS_nx, turnS_ct, turnS_bk, turnS_rt, opt_some, optO_some, optT_some, frz_ol, frz_fzd, frz_oi, List.getElem?_cons_zero, List.getElem?_cons_succ, List.set_cons_zero, List.set_cons_succ, List.map_cons, List.map_nil, List.length_cons, List.length_nil, List.replicate, List.cons_append, List.nil_append, Nat.reduceAdd, Nat.reduceSub, Nat.reduceLeDiff, if_true, Bool.false_eq_true, if_false, Bool.not_true, Bool.not_false, reduceIte, reduceCtorEq, run_ap, rMake_ok, rAsg_some, rM1_some, strD_str, rLc_some, rPar_two, rRng1_one, rIt_some, dIt_ap2, atI_0, atI_1, atI_2, ixN_2_0, ixN_2_1, back0_t, back0_f, ownL_z, ownL_s, rIxSet_some, Option.map_some, wipeG, fLenD, hn, div_two]
theorem r62h {n : Nat} (hb : n ≤ 1000) : R62 ((n / 2 : Nat) : Int) = true := by
    unfold R62
    simp only [Bool.and_eq_true, decide_eq_true_eq]
    omega
theorem s0b {ma : MA} {g g' : Gm} {n : Nat} (h : ma g = .ok [.fz (.int ((n / 2 : Nat) : Int))] g') (hb : n ≤ 1000) : dRng1 ma g = .ok (rngD 0 (n / 2)) g' := by
  rw [dRng1_ap, h, RE.bind_ok, rRng1_one, if_pos (r62h hb), Int.toNat_natCast]
theorem half_body (x0 x1 x2 x3 x4 x5 x7 : Option O) {ts : List Tr} {d : Nat} (hl : ts.length ≤ 1000) (hf : Flat d ts) : ∃ vs y7, wb_xlaw_wide_holds_4 c (StW c x0 x1 x2 x3 x4 x5 ts x7 none) = .nx (StW c x0 x1 x2 x3 x4 x5 vs y7 none) ∧ vs.length = (ts.length + 1) / 2 ∧ Flat (d + 1) vs ∧ wts vs = wts ts := by
  obtain ⟨us, z8, e, h1, h2, h3⟩ := pairs_lc c x0 x1 x2 x3 x4 x5 x7 hl hf
  have b : 10000 ≤ big := by decide
  have hml : ((ts.map (Tr.toD c)).length) = ts.length := List.length_map _
  have hul : ((us.map (Tr.toD c)).length) = ts.length / 2 := by rw [List.length_map, h1]
  have hd : ((ts.length : Int)).fdiv 2 = ((ts.length / 2 : Nat) : Int) := by
    rw [Int.fdiv_eq_ediv_of_nonneg _ (by decide)]; omega
  have d2 : divOk 2 = true := by decide
  have r62 : R62 ((ts.length / 2 : Nat) : Int) = true := by
    unfold R62
    simp only [Bool.and_eq_true, decide_eq_true_eq]
    omega
  have hm : mulOk 2 ((ts.length / 2 : Nat) : Int) = true := mul31 (by decide) (by omega)
  have hc : fSl (.lst (ts.map (Tr.toD c))) (some (2 * ((ts.length / 2 : Nat) : Int))) none = some (.ol ((ts.drop (2 * (ts.length / 2))).map (Tr.toD c))) := by
    rw [show 2 * ((ts.length / 2 : Nat) : Int) = ((2 * (ts.length / 2) : Nat) : Int) by omega, cut_from (by rw [hml]; omega), List.map_drop]
  have hcat : fCatL (.lst (us.map (Tr.toD c))) (.lst ((ts.drop (2 * (ts.length / 2))).map (Tr.toD c))) = some (.ol ((us ++ ts.drop (2 * (ts.length / 2))).map (Tr.toD c))) := by
    rw [cat_sl (by rw [List.length_map, List.length_map, List.length_drop, h1]; omega), List.map_append]
  have e' : ∀ G, G = StW c x0 x1 x2 x3 x4 x5 ts x7 none → cL [8] (aName 8) dYes (ce_xlaw_wide_holds_2 c) (rngD 0 (ts.length / 2)) [] G = some (us.map (Tr.toD c), StW c x0 x1 x2 x3 x4 x5 ts x7 z8) := fun G hG => by rw [hG]; exact e
  have hb1 : ts.length ≤ big := by omega
  have hb2 : ts.length / 2 ≤ big := by omega
  refine ⟨us ++ ts.drop (2 * (ts.length / 2)), some (.ol (us.map (Tr.toD c))), ?_, ?_, ?_, ?_⟩
  · have e2 := e' [x0, x1, x2, x3, x4, x5, some (.ol (ts.map (Tr.toD c))), x7, none] rfl
    have s1 : dLc [8] (dRng1 (aCons (dOp fDiv (dCallS (fOne fLenD) 6) (dC (.int 2))) (aNil))) (aName 8) dYes (ce_xlaw_wide_holds_2 c) [x0, x1, x2, x3, x4, x5, some (.ol (ts.map (Tr.toD c))), x7, none] = .ok (.ol (us.map (Tr.toD c))) [x0, x1, x2, x3, x4, x5, some (.ol (ts.map (Tr.toD c))), x7, none] := by
      rw [dLc_ap, s0b (s0a x0 x1 x2 x3 x4 x5 x7 _ _ hml hl) hl, RE.bind_ok, e2]
      rfl
    have s2 : dCatS 7 (dSlS 6 (dPart (dOp fMul (dC (.int 2)) (dCallS (fOne fLenD) 7))) dNoP) [x0, x1, x2, x3, x4, x5, some (.ol (ts.map (Tr.toD c))), some (.ol (us.map (Tr.toD c))), none] = .ok (.ol ((us ++ ts.drop (2 * (ts.length / 2))).map (Tr.toD c))) [x0, x1, x2, x3, x4, x5, some (.ol (ts.map (Tr.toD c))), some (.ol (us.map (Tr.toD c))), none] := by
      simp only [fL_cons, rFL_some, fL_nil, dSeq_ap, dIfS_ap, dSet_ap, dDrop_ap, dRet_ap, dRetN_ap, dNx_ap, dBk_ap, dCt_ap, dFor_ap, dC_ap, dVar_ap, dMov_ap, dOp_ap, dUn_ap, dOpY_ap, dCmpT_ap, dCmp_ap, dTru_ap, dTruS_ap, dAndT_ap, dOrT_ap, dNotT_ap, dIf_ap, dAnd_ap, dOr_ap, dNot_ap, aNil_ap, aCons_ap, dTup_ap, dLst_ap, dFld_ap, dFldS_ap, dIxS_ap, dCall_ap, dCallS_ap, dYes_ap, dNoP_ap, dCallF_ap, dCallR_ap, dMeth_ap, dMake_ap, dOpF_ap, dSl_ap, dSlS_ap, dPart_ap, dAsg_ap, dMt_ap, aIxS_ap, rIxA_some, rIxB_ok, dFldSet_ap, rFSet_some, ownI_z, ownI_s, dCatS_ap, dPar_ap, dM1_ap, dLc_ap, dRng1_ap, rVar_u, rMov_fz, rMov_ol, rMov_oi, rTruS_some, rAnd_t, rAnd_f, rOr_t, rOr_f, rNot_s, rFldS_some, rIxS_some, rIxS2_some, rCallS_some, rCallR_some, rCallR2_ok, rCallR3_ok, rSlS_some, rSlS2_some, rCat_some, rCat2_some, rMt_some, rMt2_some, rMt3_some, rPart_some, retF_ok, isBl_bl, asInt_int, fOne_ap, fTwo_ap, aName_ap, RE.bind_ok, RE.toS_ok, RS.then_nx, RS.then_rt, RS.then_bk, RS.then_ct, turnS_nx, turnS_ct, turnS_bk, turnS_rt, opt_some, optO_some, optT_some, frz_ol, frz_fzd, frz_oi, List.getElem?_cons_zero, List.getElem?_cons_succ, List.set_cons_zero, List.set_cons_succ, List.map_cons, List.map_nil, List.length_cons, List.length_nil, List.replicate, List.cons_append, List.nil_append, Nat.reduceAdd, Nat.reduceSub, Nat.reduceLeDiff, if_true, Bool.false_eq_true, if_false, Bool.not_true, Bool.not_false, reduceIte, reduceCtorEq, run_ap, rMake_ok, rAsg_some, rM1_some, strD_str, rLc_some, rPar_two, rRng1_one, rIt_some, dIt_ap2, atI_0, atI_1, atI_2, ixN_2_0, ixN_2_1, back0_t, back0_f, ownL_z, ownL_s, rIxSet_some, Option.map_some, wipeG, fLenD, hul, hb2, fMul, hm, hc, hcat]
    unfold wb_xlaw_wide_holds_4 StW
    rw [dSeq_ap, dSet_ap, s1, RE.toS_ok, RS.then_nx, dSet_ap]
    show RE.toS (dCatS 7 _ [x0, x1, x2, x3, x4, x5, some (.ol (ts.map (Tr.toD c))), some (.ol (us.map (Tr.toD c))), none]) _ = _
    rw [s2]
    rfl
  · rw [List.length_append, List.length_drop, h1]; omega
  · intro t ht
    rcases List.mem_append.mp ht with ht | ht
    · exact h2 t ht
    · have := hf t (List.mem_of_mem_drop ht)
      exact ⟨by omega, this.2⟩
  · rw [wts_app, h3, ← wts_app, List.take_append_drop]
theorem half_runs (x0 x1 x2 x3 x4 x5 : Option O) : ∀ (m : Nat) (ts : List Tr) (d : Nat) (x7 : Option O), ts.length ≤ 2 ^ m → ts.length ≤ 1000 → ts ≠ [] → Flat d ts → ∃ n t y7, Runs (wc_xlaw_wide_holds_3 c) (wb_xlaw_wide_holds_4 c) n (StW c x0 x1 x2 x3 x4 x5 ts x7 none) (StW c x0 x1 x2 x3 x4 x5 [t] y7 none) ∧ t.dep ≤ d + m ∧ t.nl = true ∧ t.cnt + 1 = wts ts := by
  have b : 10000 ≤ big := by decide
  have base : ∀ (ts : List Tr) (d m : Nat) (x7 : Option O), ts.length = 1 → Flat d ts → ∃ n t y7, Runs (wc_xlaw_wide_holds_3 c) (wb_xlaw_wide_holds_4 c) n (StW c x0 x1 x2 x3 x4 x5 ts x7 none) (StW c x0 x1 x2 x3 x4 x5 [t] y7 none) ∧ t.dep ≤ d + m ∧ t.nl = true ∧ t.cnt + 1 = wts ts := fun ts d m x7 h1 hf => by
    obtain ⟨t, rfl⟩ := List.length_eq_one_iff.mp h1
    have := hf t (by simp)
    exact ⟨0, t, x7, .refl, by omega, this.2, by simp [wts]⟩
  intro m
  induction m with
  | zero =>
    intro ts d x7 h1 h2 h3 hf
    have : ts.length ≠ 0 := fun h => h3 (List.length_eq_zero_iff.mp h)
    exact base ts d 0 x7 (by simp at h1; omega) hf
  | succ m ih =>
    intro ts d x7 h1 h2 h3 hf
    have h0 : ts.length ≠ 0 := fun h => h3 (List.length_eq_zero_iff.mp h)
    by_cases hone : ts.length = 1
    · exact base ts d (m + 1) x7 hone hf
    · obtain ⟨vs, y7, e, k1, k2, k3⟩ := half_body c x0 x1 x2 x3 x4 x5 x7 h2 hf
      have hp : 2 ^ (m + 1) = 2 ^ m * 2 := Nat.pow_succ ..
      obtain ⟨n, t, z7, r, r1, r2, r3⟩ := ih vs (d + 1) y7 (by omega) (by omega) (fun h => by rw [h] at k1; simp at k1; omega) k2
      have htest : wc_xlaw_wide_holds_3 c (StW c x0 x1 x2 x3 x4 x5 ts x7 none) = .ok true (StW c x0 x1 x2 x3 x4 x5 ts x7 none) := by
        have hml : ((ts.map (Tr.toD c)).length) = ts.length := List.length_map _
        have hb1 : ts.length ≤ big := by omega
        have hg : (1 : Int) < ((ts.length : Nat) : Int) := by omega
        simp only [wc_xlaw_wide_holds_3, StW, fL_cons, rFL_some, fL_nil, dSeq_ap, dIfS_ap, dSet_ap, dDrop_ap, dRet_ap, dRetN_ap, dNx_ap, dBk_ap, dCt_ap, dFor_ap, dC_ap, dVar_ap, dMov_ap, dOp_ap, dUn_ap, dOpY_ap, dCmpT_ap, dCmp_ap, dTru_ap, dTruS_ap, dAndT_ap, dOrT_ap, dNotT_ap, dIf_ap, dAnd_ap, dOr_ap, dNot_ap, aNil_ap, aCons_ap, dTup_ap, dLst_ap, dFld_ap, dFldS_ap, dIxS_ap, dCall_ap, dCallS_ap, dYes_ap, dNoP_ap, dCallF_ap, dCallR_ap, dMeth_ap, dMake_ap, dOpF_ap, dSl_ap, dSlS_ap, dPart_ap, dAsg_ap, dMt_ap, aIxS_ap, rIxA_some, rIxB_ok, dFldSet_ap, rFSet_some, ownI_z, ownI_s, dCatS_ap, dPar_ap, dM1_ap, dLc_ap, dRng1_ap, rVar_u, rMov_fz, rMov_ol, rMov_oi, rTruS_some, rAnd_t, rAnd_f, rOr_t, rOr_f, rNot_s, rFldS_some, rIxS_some, rIxS2_some, rCallS_some, rCallR_some, rCallR2_ok, rCallR3_ok, rSlS_some, rSlS2_some, rCat_some, rCat2_some, rMt_some, rMt2_some, rMt3_some, rPart_some, retF_ok, isBl_bl, asInt_int, fOne_ap, fTwo_ap, aName_ap, RE.bind_ok, RE.toS_ok, RS.then_nx, RS.then_rt, RS.then_bk, RS.then_ct, turnS_nx, turnS_ct, turnS_bk, turnS_rt, opt_some, optO_some, optT_some, frz_ol, frz_fzd, frz_oi, List.getElem?_cons_zero, List.getElem?_cons_succ, List.set_cons_zero, List.set_cons_succ, List.map_cons, List.map_nil, List.length_cons, List.length_nil, List.replicate, List.cons_append, List.nil_append, Nat.reduceAdd, Nat.reduceSub, Nat.reduceLeDiff, if_true, Bool.false_eq_true, if_false, Bool.not_true, Bool.not_false, reduceIte, reduceCtorEq, run_ap, rMake_ok, rAsg_some, rM1_some, strD_str, rLc_some, rPar_two, rRng1_one, rIt_some, dIt_ap2, atI_0, atI_1, atI_2, ixN_2_0, ixN_2_1, back0_t, back0_f, ownL_z, ownL_s, rIxSet_some, Option.map_some, wipeG, fLenD, hml, cGt_int, hg, decide_true]
      exact ⟨_, t, z7, (Runs.one htest e).trans r, by omega, r2, by rw [r3, k3]⟩
end K77
end

section
namespace K77
open PySem L2 L3
variable (c : Cs)
theorem short_a : Short "a" := ⟨by decide, by decide, by decide +kernel⟩
theorem dbl_fits (n : Nat) (hn : n ≤ 12) : (dbl n).fits = decide ((((2 : Nat) ^ (n + 1) : Nat) : Int) - 1 ≤ 200) := by
  have h := dbl_cnt n
  unfold Tr.fits
  rw [dbl_nl, dbl_dep, decide_eq_true (show n + 1 ≤ 40 by omega), Bool.and_true, Bool.and_true, decide_eq_decide]
  generalize (2 : Nat) ^ (n + 1) = E at *; omega
theorem at0 {a : D} {l : List D} : fIx (.lst (a :: l)) (.int 0) = some a := atI_0
theorem wide_end (x0 x1 x2 x3 x4 x5 x7 x8 : Option O) (t : Tr) : wc_xlaw_wide_holds_3 c (StW c x0 x1 x2 x3 x4 x5 [t] x7 x8) = .ok false (StW c x0 x1 x2 x3 x4 x5 [t] x7 x8) := by
  have b1 : (1 : Nat) ≤ big := by decide
  simp only [wc_xlaw_wide_holds_3, StW, fL_cons, rFL_some, fL_nil, dSeq_ap, dIfS_ap, dSet_ap, dDrop_ap, dRet_ap, dRetN_ap, dNx_ap, dBk_ap, dCt_ap, dFor_ap, dC_ap, dVar_ap, dMov_ap, dOp_ap, dUn_ap, dOpY_ap, dCmpT_ap, dCmp_ap, dTru_ap, dTruS_ap, dAndT_ap, dOrT_ap, dNotT_ap, dIf_ap, dAnd_ap, dOr_ap, dNot_ap, aNil_ap, aCons_ap, dTup_ap, dLst_ap, dFld_ap, dFldS_ap, dIxS_ap, dCall_ap, dCallS_ap, dYes_ap, dNoP_ap, dCallF_ap, dCallR_ap, dMeth_ap, dMake_ap, dOpF_ap, dSl_ap, dSlS_ap, dPart_ap, dAsg_ap, dMt_ap, aIxS_ap, rIxA_some, rIxB_ok, dFldSet_ap, rFSet_some, ownI_z, ownI_s, dCatS_ap, dPar_ap, dM1_ap, dLc_ap, dRng1_ap, rVar_u, rMov_fz, rMov_ol, rMov_oi, rTruS_some, rAnd_t, rAnd_f, rOr_t, rOr_f, rNot_s, rFldS_some, rIxS_some, rIxS2_some, rCallS_some, rCallR_some, rCallR2_ok, rCallR3_ok, rSlS_some, rSlS2_some, rCat_some, rCat2_some, rMt_some, rMt2_some, rMt3_some, rPart_some, retF_ok, isBl_bl, asInt_int, fOne_ap, fTwo_ap, aName_ap, RE.bind_ok, RE.toS_ok, RS.then_nx, RS.then_rt, RS.then_bk, RS.then_ct, turnS_nx, turnS_ct, turnS_bk, turnS_rt, opt_some, optO_some, optT_some, frz_ol, frz_fzd, frz_oi, List.getElem?_cons_zero, List.getElem?_cons_succ, List.set_cons_zero, List.set_cons_succ, List.map_cons, List.map_nil, List.length_cons, List.length_nil, List.replicate, List.cons_append, List.nil_append, Nat.reduceAdd, Nat.reduceSub, Nat.reduceLeDiff, if_true, Bool.false_eq_true, if_false, Bool.not_true, Bool.not_false, reduceIte, reduceCtorEq, run_ap, rMake_ok, rAsg_some, rM1_some, strD_str, rLc_some, rPar_two, rRng1_one, rIt_some, dIt_ap2, atI_0, atI_1, atI_2, ixN_2_0, ixN_2_1, back0_t, back0_f, ownL_z, ownL_s, rIxSet_some, Option.map_some, wipeG, fLenD, b1, cGt_int, show ¬ (1 : Int) < ((1 : Nat) : Int) by decide, decide_false]
theorem rRng1_nat {g : Gm} {n : Nat} (h : n ≤ 1000) : rRng1 g [.fz (.int (n : Int))] = .ok (rngD 0 n) g := by
  have r : R62 (n : Int) = true := by
    unfold R62
    simp only [Bool.and_eq_true, decide_eq_true_eq]
    omega
  rw [rRng1_one, if_pos r, Int.toNat_natCast]
noncomputable def wi1 (c : Cs) : MS := dPar 1 2 (aCons (dCallF 1 (F_xlaw_honest c) [] (aCons (dCallF 1 (F_letter_of c) [] (aCons (dC (.str "a")) (aNil))) (aNil))) (aCons (dCallR 2 (F_xlaw_take c) [] 0 (aCons (dC (.int 13)) (aNil))) (aNil)))
noncomputable def wi2 (c : Cs) : MS := dSet 3 (dC (.int 1))
noncomputable def wi3 (c : Cs) : MS := dFor (dRng1 (aCons (dVar 2) (aNil))) (aName 4) (fb_xlaw_wide_holds_7 c)
noncomputable def wi4 (c : Cs) : MS := dIfS (dOrT (dCmpT cNe (dMeth 1 c.Expression "depth" (F_Expression_depth c) [] (dVar 1) aNil) (dOp fAdd (dVar 2) (dC (.int 1)))) (dOrT (dCmpT cNe (dMeth 1 c.Expression "count" (F_Expression_count c) [] (dVar 1) aNil) (dVar 3)) (dCmpT cNe (dMeth 1 c.Expression "used_letters" (F_Expression_used_letters c) [] (dVar 1) aNil) (dC (.str "a"))))) (dRet (dC (.bl false))) (dNx)
noncomputable def wi5 (c : Cs) : MS := dIfS (dNotT (dTru (dCallF 2 (F_xlaw_says c) [] (aCons (dCallF 1 (F_is_expression c) [] (aCons (dVar 1) (aNil))) (aCons (dCmp cLe (dVar 3) (dC (.int 200))) (aNil)))))) (dRet (dC (.bl false))) (dNx)
noncomputable def wi6 (c : Cs) : MS := dSet 5 (dOp fAdd (dC (.int 99)) (dCallR 2 (F_xlaw_take c) [] 0 (aCons (dC (.int 4)) (aNil))))
noncomputable def wi7 (c : Cs) : MS := dSet 6 (dLc [8] (dRng1 (aCons (dVar 5) (aNil))) (aName 8) (dYes) ((ce_xlaw_wide_holds_6 c)))
noncomputable def wi8 (c : Cs) : MS := dWhile (wc_xlaw_wide_holds_3 c) (wb_xlaw_wide_holds_4 c)
noncomputable def wi9 (c : Cs) : MS := dPar 1 3 (aCons (dIxS 6 (dC (.int 0))) (aCons (dOp fSub (dOp fMul (dC (.int 2)) (dVar 5)) (dC (.int 1))) (aNil)))
noncomputable def wi10 (c : Cs) : MS := dIfS (dCmpT cEq (dCallR 2 (F_xlaw_take c) [] 0 (aCons (dC (.int 2)) (aNil))) (dC (.int 0))) (dPar 1 3 (aCons (dMeth 1 c.Expression "reverse" (F_Expression_reverse c) [] (dVar 1) aNil) (aCons (dOp fAdd (dVar 3) (dC (.int 1))) (aNil)))) (dNx)
noncomputable def wi11 (c : Cs) : MS := dRet (dAnd (dCmp cEq (dMeth 1 c.Expression "count" (F_Expression_count c) [] (dVar 1) aNil) (dVar 3)) (dCallF 2 (F_xlaw_says c) [] (aCons (dCallF 1 (F_is_expression c) [] (aCons (dVar 1) (aNil))) (aCons (dCmp cLe (dVar 3) (dC (.int 200))) (aNil)))))
theorem wi_eq (c : Cs) : m_xlaw_wide_holds c = dSeq (wi1 c) (dSeq (wi2 c) (dSeq (wi3 c) (dSeq (wi4 c) (dSeq (wi5 c) (dSeq (wi6 c) (dSeq (wi7 c) (dSeq (wi8 c) (dSeq (wi9 c) (dSeq (wi10 c) (wi11 c)))))))))) := rfl
theorem wide_ok {s : O} (h : Seed s) : ∃ s', F_xlaw_wide_holds c [s] = .ok (.fz (.bl true)) (some s') ∧ Seed s' := by
  obtain ⟨v, s1, e1, a1, b1, h1⟩ := take_seed c h 13 (by decide) (by decide)
  obtain ⟨n, rfl⟩ : ∃ n : Nat, v = n := ⟨v.toNat, by omega⟩
  have hn : n ≤ 12 := by omega
  obtain ⟨v4, s2, e2, a2, b2, h2⟩ := take_seed c h1 4 (by decide) (by decide)
  obtain ⟨many, hm⟩ : ∃ m : Nat, 99 + v4 = m := ⟨(99 + v4).toNat, by omega⟩
  obtain ⟨o, x4, ho, el⟩ := dbl_loop c n hn (some s1) (some (.fz (.int n)))
  obtain ⟨ts, s3, x8, e3, hl, hf, hw, h3⟩ := letters_lc c h2 many (by omega) (some (.fz ((dbl n).toD c))) (some (.fz (.int n))) (some (.fz (.int (((2 : Nat) ^ (n + 1) : Nat) - 1)))) x4 (some (.fz (.int many)))
  obtain ⟨N, t, y7, rr, r1, r2, r3⟩ := half_runs c (some s3) (some (.fz ((dbl n).toD c))) (some (.fz (.int n))) (some (.fz (.int (((2 : Nat) ^ (n + 1) : Nat) - 1)))) x4 (some (.fz (.int many))) 7 ts 1 none (by omega) (by omega) (fun h => by rw [h] at hl; simp at hl; omega) hf
  obtain ⟨v2, s4, e4, a4, b4, h4⟩ := take_seed c h3 2 (by decide) (by decide)
  have hw' := rr.done (wide_end c _ _ _ _ _ _ _ _ _)
  have hw2 : ∀ G, G = StW c (some s3) (some (.fz ((dbl n).toD c))) (some (.fz (.int n))) (some (.fz (.int (((2 : Nat) ^ (n + 1) : Nat) - 1)))) x4 (some (.fz (.int many))) ts none none → dWhile (wc_xlaw_wide_holds_3 c) (wb_xlaw_wide_holds_4 c) G = .nx (StW c (some s3) (some (.fz ((dbl n).toD c))) (some (.fz (.int n))) (some (.fz (.int (((2 : Nat) ^ (n + 1) : Nat) - 1)))) x4 (some (.fz (.int many))) [t] y7 none) := fun G hG => by rw [hG]; exact hw'
  have hw3 := hw2 [some s3, some (.fz ((dbl n).toD c)), some (.fz (.int n)), some (.fz (.int (((2 : Nat) ^ (n + 1) : Nat) - 1))), x4, some (.fz (.int many)), some (.ol (ts.map (Tr.toD c))), none, none] rfl
  have bb : 100000 ≤ big := by decide
  have hE := dbl_cnt n
  have hp : (2 : Nat) ^ (n + 1) ≤ 2 ^ 13 := Nat.pow_le_pow_right (by decide) (by omega)
  have hp3 : 2 ^ 13 = 8192 := by decide
  have d1 := depth_ok c (dbl n) (by omega)
  have d2 := count_ok c (dbl n) (by omega)
  have d3 := isx_ok c (dbl n) (by omega)
  have d4 := dbl_used c n hn
  rw [dbl_dep] at d1
  have ec : (((dbl n).cnt : Nat) : Int) = (((2 : Nat) ^ (n + 1) : Nat) : Int) - 1 := by omega
  rw [ec] at d2
  rw [dbl_fits n hn] at d3
  have en : ((n + 1 : Nat) : Int) = (n : Int) + 1 := by omega
  rw [en] at d1
  have i1 := insE c (dbl n) (m := "depth") (by decide +kernel) (by decide +kernel)
  have i2 := insE c (dbl n) (m := "count") (by decide +kernel) (by decide +kernel)
  have i3 := insE c (dbl n) (m := "used_letters") (by decide +kernel) (by decide +kernel)
  have j1 := insE c t (m := "reverse") (by decide +kernel) (by decide +kernel)
  have j2 := insE c t (m := "count") (by decide +kernel) (by decide +kernel)
  have j3 := insE c (.rev t) (m := "count") (by decide +kernel) (by decide +kernel)
  have tc : t.cnt + 1 = 2 * many := by rw [r3, hw]
  have c1 := count_ok c t (by omega)
  have c2 := isx_ok c t (by omega)
  have c3 := count_ok c (.rev t) (by show 1 + t.cnt + 2 ≤ big; omega)
  have c4 := isx_ok c (.rev t) (by show 1 + t.cnt + 2 ≤ big; omega)
  have f1 : t.fits = decide ((2 * (many : Int) - 1) ≤ 200) := by
    unfold Tr.fits
    rw [r2, decide_eq_true (show t.dep ≤ 40 by omega), Bool.and_true, Bool.and_true, decide_eq_decide]
    omega
  have f2 : (Tr.rev t).fits = decide ((2 * (many : Int) - 1 + 1) ≤ 200) := by
    unfold Tr.fits
    rw [show (Tr.rev t).nl = true from r2, decide_eq_true (show (Tr.rev t).dep ≤ 40 by show 1 + t.dep ≤ 40; omega), Bool.and_true, Bool.and_true, decide_eq_decide]
    show 1 + t.cnt ≤ 200 ↔ _
    omega
  have g1 : ((t.cnt : Nat) : Int) = 2 * (many : Int) - 1 := by omega
  have g2 : (((Tr.rev t).cnt : Nat) : Int) = 2 * (many : Int) - 1 + 1 := by
    show ((1 + t.cnt : Nat) : Int) = _; omega
  rw [g1] at c1
  rw [g2] at c3
  rw [f1] at c2
  rw [f2] at c4
  have q1 : n ≤ 1000 := by omega
  have q2 : many ≤ 1000 := by omega
  have mm : mulOk 2 (many : Int) = true := mul31 (by decide) (by omega)
  have ea : F_xlaw_honest c [.oi c.Expression (exFs "letter" [.str "a"])] = .ok (.fz ((Tr.let_ "a").toD c)) none := honest_oi c _
  generalize hE2 : (((2 : Nat) ^ (n + 1) : Nat) : Int) - 1 = tt at *
  have t1 : wi1 c [some s, none, none, none, none, none, none, none, none] = .nx [some s1, some (.fz ((Tr.let_ "a").toD c)), some (.fz (.int n)), none, none, none, none, none, none] := by
    simp only [wi1, fL_cons, rFL_some, fL_nil, dSeq_ap, dIfS_ap, dSet_ap, dDrop_ap, dRet_ap, dRetN_ap, dNx_ap, dBk_ap, dCt_ap, dFor_ap, dC_ap, dVar_ap, dMov_ap, dOp_ap, dUn_ap, dOpY_ap, dCmpT_ap, dCmp_ap, dTru_ap, dTruS_ap, dAndT_ap, dOrT_ap, dNotT_ap, dIf_ap, dAnd_ap, dOr_ap, dNot_ap, aNil_ap, aCons_ap, dTup_ap, dLst_ap, dFld_ap, dFldS_ap, dIxS_ap, dCall_ap, dCallS_ap, dYes_ap, dNoP_ap, dCallF_ap, dCallR_ap, dMeth_ap, dMake_ap, dOpF_ap, dSl_ap, dSlS_ap, dPart_ap, dAsg_ap, dMt_ap, aIxS_ap, rIxA_some, rIxB_ok, dFldSet_ap, rFSet_some, ownI_z, ownI_s, dCatS_ap, dPar_ap, dM1_ap, dLc_ap, dRng1_ap, rVar_u, rMov_fz, rMov_ol, rMov_oi, rTruS_some, rAnd_t, rAnd_f, rOr_t, rOr_f, rNot_s, rFldS_some, rIxS_some, rIxS2_some, rCallS_some, rCallR_some, rCallR2_ok, rCallR3_ok, rSlS_some, rSlS2_some, rCat_some, rCat2_some, rMt_some, rMt2_some, rMt3_some, rPart_some, retF_ok, isBl_bl, asInt_int, fOne_ap, fTwo_ap, aName_ap, RE.bind_ok, RE.toS_ok, RS.then_nx, RS.then_rt, RS.then_bk, RS.then_ct, turnS_nx, turnS_ct, turnS_bk, turnS_rt, opt_some, optO_some, optT_some, frz_ol, frz_fzd, frz_oi, List.getElem?_cons_zero, List.getElem?_cons_succ, List.set_cons_zero, List.set_cons_succ, List.map_cons, List.map_nil, List.length_cons, List.length_nil, List.replicate, List.cons_append, List.nil_append, Nat.reduceAdd, Nat.reduceSub, Nat.reduceLeDiff, if_true, Bool.false_eq_true, if_false, Bool.not_true, Bool.not_false, reduceIte, reduceCtorEq, run_ap, rMake_ok, rAsg_some, rM1_some, strD_str, rLc_some, rPar_two, rRng1_one, rIt_some, dIt_ap2, atI_0, atI_1, atI_2, ixN_2_0, ixN_2_1, back0_t, back0_f, ownL_z, ownL_s, rIxSet_some, Option.map_some, wipeG, letter_ok c short_a rfl, ea, e1]
  have t2 : wi2 c [some s1, some (.fz ((Tr.let_ "a").toD c)), some (.fz (.int n)), none, none, none, none, none, none] = .nx [some s1, some (.fz ((Tr.let_ "a").toD c)), some (.fz (.int n)), some (.fz (.int 1)), none, none, none, none, none] := by
    simp only [wi2, fL_cons, rFL_some, fL_nil, dSeq_ap, dIfS_ap, dSet_ap, dDrop_ap, dRet_ap, dRetN_ap, dNx_ap, dBk_ap, dCt_ap, dFor_ap, dC_ap, dVar_ap, dMov_ap, dOp_ap, dUn_ap, dOpY_ap, dCmpT_ap, dCmp_ap, dTru_ap, dTruS_ap, dAndT_ap, dOrT_ap, dNotT_ap, dIf_ap, dAnd_ap, dOr_ap, dNot_ap, aNil_ap, aCons_ap, dTup_ap, dLst_ap, dFld_ap, dFldS_ap, dIxS_ap, dCall_ap, dCallS_ap, dYes_ap, dNoP_ap, dCallF_ap, dCallR_ap, dMeth_ap, dMake_ap, dOpF_ap, dSl_ap, dSlS_ap, dPart_ap, dAsg_ap, dMt_ap, aIxS_ap, rIxA_some, rIxB_ok, dFldSet_ap, rFSet_some, ownI_z, ownI_s, dCatS_ap, dPar_ap, dM1_ap, dLc_ap, dRng1_ap, rVar_u, rMov_fz, rMov_ol, rMov_oi, rTruS_some, rAnd_t, rAnd_f, rOr_t, rOr_f, rNot_s, rFldS_some, rIxS_some, rIxS2_some, rCallS_some, rCallR_some, rCallR2_ok, rCallR3_ok, rSlS_some, rSlS2_some, rCat_some, rCat2_some, rMt_some, rMt2_some, rMt3_some, rPart_some, retF_ok, isBl_bl, asInt_int, fOne_ap, fTwo_ap, aName_ap, RE.bind_ok, RE.toS_ok, RS.then_nx, RS.then_rt, RS.then_bk, RS.then_ct, turnS_nx, turnS_ct, turnS_bk, turnS_rt, opt_some, optO_some, optT_some, frz_ol, frz_fzd, frz_oi, List.getElem?_cons_zero, List.getElem?_cons_succ, List.set_cons_zero, List.set_cons_succ, List.map_cons, List.map_nil, List.length_cons, List.length_nil, List.replicate, List.cons_append, List.nil_append, Nat.reduceAdd, Nat.reduceSub, Nat.reduceLeDiff, if_true, Bool.false_eq_true, if_false, Bool.not_true, Bool.not_false, reduceIte, reduceCtorEq, run_ap, rMake_ok, rAsg_some, rM1_some, strD_str, rLc_some, rPar_two, rRng1_one, rIt_some, dIt_ap2, atI_0, atI_1, atI_2, ixN_2_0, ixN_2_1, back0_t, back0_f, ownL_z, ownL_s, rIxSet_some, Option.map_some, wipeG]
  have t3 : wi3 c [some s1, some (.fz ((Tr.let_ "a").toD c)), some (.fz (.int n)), some (.fz (.int 1)), none, none, none, none, none] = .nx [some s1, some o, some (.fz (.int n)), some (.fz (.int tt)), x4, none, none, none, none] := by
    simp only [wi3, fL_cons, rFL_some, fL_nil, dSeq_ap, dIfS_ap, dSet_ap, dDrop_ap, dRet_ap, dRetN_ap, dNx_ap, dBk_ap, dCt_ap, dFor_ap, dC_ap, dVar_ap, dMov_ap, dOp_ap, dUn_ap, dOpY_ap, dCmpT_ap, dCmp_ap, dTru_ap, dTruS_ap, dAndT_ap, dOrT_ap, dNotT_ap, dIf_ap, dAnd_ap, dOr_ap, dNot_ap, aNil_ap, aCons_ap, dTup_ap, dLst_ap, dFld_ap, dFldS_ap, dIxS_ap, dCall_ap, dCallS_ap, dYes_ap, dNoP_ap, dCallF_ap, dCallR_ap, dMeth_ap, dMake_ap, dOpF_ap, dSl_ap, dSlS_ap, dPart_ap, dAsg_ap, dMt_ap, aIxS_ap, rIxA_some, rIxB_ok, dFldSet_ap, rFSet_some, ownI_z, ownI_s, dCatS_ap, dPar_ap, dM1_ap, dLc_ap, dRng1_ap, rVar_u, rMov_fz, rMov_ol, rMov_oi, rTruS_some, rAnd_t, rAnd_f, rOr_t, rOr_f, rNot_s, rFldS_some, rIxS_some, rIxS2_some, rCallS_some, rCallR_some, rCallR2_ok, rCallR3_ok, rSlS_some, rSlS2_some, rCat_some, rCat2_some, rMt_some, rMt2_some, rMt3_some, rPart_some, retF_ok, isBl_bl, asInt_int, fOne_ap, fTwo_ap, aName_ap, RE.bind_ok, RE.toS_ok, RS.then_nx, RS.then_rt, RS.then_bk, RS.then_ct, turnS_nx, turnS_ct, turnS_bk, turnS_rt, opt_some, optO_some, optT_some, frz_ol, frz_fzd, frz_oi, List.getElem?_cons_zero, List.getElem?_cons_succ, List.set_cons_zero, List.set_cons_succ, List.map_cons, List.map_nil, List.length_cons, List.length_nil, List.replicate, List.cons_append, List.nil_append, Nat.reduceAdd, Nat.reduceSub, Nat.reduceLeDiff, if_true, Bool.false_eq_true, if_false, Bool.not_true, Bool.not_false, reduceIte, reduceCtorEq, run_ap, rMake_ok, rAsg_some, rM1_some, strD_str, rLc_some, rPar_two, rIt_some, dIt_ap2, atI_0, atI_1, atI_2, ixN_2_0, ixN_2_1, back0_t, back0_f, ownL_z, ownL_s, rIxSet_some, Option.map_some, wipeG, rRng1_nat q1]
    exact el
  have t4 : wi4 c [some s1, some o, some (.fz (.int n)), some (.fz (.int tt)), x4, none, none, none, none] = .nx [some s1, some (.fz ((dbl n).toD c)), some (.fz (.int n)), some (.fz (.int tt)), x4, none, none, none, none] := by
    rcases ho with rfl | ⟨k1, ps1, rfl, he⟩
    · simp only [wi4, fL_cons, rFL_some, fL_nil, dSeq_ap, dIfS_ap, dSet_ap, dDrop_ap, dRet_ap, dRetN_ap, dNx_ap, dBk_ap, dCt_ap, dFor_ap, dC_ap, dVar_ap, dMov_ap, dOp_ap, dUn_ap, dOpY_ap, dCmpT_ap, dCmp_ap, dTru_ap, dTruS_ap, dAndT_ap, dOrT_ap, dNotT_ap, dIf_ap, dAnd_ap, dOr_ap, dNot_ap, aNil_ap, aCons_ap, dTup_ap, dLst_ap, dFld_ap, dFldS_ap, dIxS_ap, dCall_ap, dCallS_ap, dYes_ap, dNoP_ap, dCallF_ap, dCallR_ap, dMeth_ap, dMake_ap, dOpF_ap, dSl_ap, dSlS_ap, dPart_ap, dAsg_ap, dMt_ap, aIxS_ap, rIxA_some, rIxB_ok, dFldSet_ap, rFSet_some, ownI_z, ownI_s, dCatS_ap, dPar_ap, dM1_ap, dLc_ap, dRng1_ap, rVar_u, rMov_fz, rMov_ol, rMov_oi, rTruS_some, rAnd_t, rAnd_f, rOr_t, rOr_f, rNot_s, rFldS_some, rIxS_some, rIxS2_some, rCallS_some, rCallR_some, rCallR2_ok, rCallR3_ok, rSlS_some, rSlS2_some, rCat_some, rCat2_some, rMt_some, rMt2_some, rMt3_some, rPart_some, retF_ok, isBl_bl, asInt_int, fOne_ap, fTwo_ap, aName_ap, RE.bind_ok, RE.toS_ok, RS.then_nx, RS.then_rt, RS.then_bk, RS.then_ct, turnS_nx, turnS_ct, turnS_bk, turnS_rt, opt_some, optO_some, optT_some, frz_ol, frz_fzd, frz_oi, List.getElem?_cons_zero, List.getElem?_cons_succ, List.set_cons_zero, List.set_cons_succ, List.map_cons, List.map_nil, List.length_cons, List.length_nil, List.replicate, List.cons_append, List.nil_append, Nat.reduceAdd, Nat.reduceSub, Nat.reduceLeDiff, if_true, Bool.false_eq_true, if_false, Bool.not_true, Bool.not_false, reduceIte, reduceCtorEq, run_ap, rMake_ok, rAsg_some, rM1_some, strD_str, rLc_some, rPar_two, rRng1_one, rIt_some, dIt_ap2, atI_0, atI_1, atI_2, ixN_2_0, ixN_2_1, back0_t, back0_f, ownL_z, ownL_s, rIxSet_some, Option.map_some, wipeG, i1, i2, i3, d1, d2, d4, fAdd, cNe_int, cNe_str, decide_true]
    · have he' : D.ins c.Expression (exFs k1 ps1) = (dbl n).toD c := he
      simp only [wi4, fL_cons, rFL_some, fL_nil, dSeq_ap, dIfS_ap, dSet_ap, dDrop_ap, dRet_ap, dRetN_ap, dNx_ap, dBk_ap, dCt_ap, dFor_ap, dC_ap, dVar_ap, dMov_ap, dOp_ap, dUn_ap, dOpY_ap, dCmpT_ap, dCmp_ap, dTru_ap, dTruS_ap, dAndT_ap, dOrT_ap, dNotT_ap, dIf_ap, dAnd_ap, dOr_ap, dNot_ap, aNil_ap, aCons_ap, dTup_ap, dLst_ap, dFld_ap, dFldS_ap, dIxS_ap, dCall_ap, dCallS_ap, dYes_ap, dNoP_ap, dCallF_ap, dCallR_ap, dMeth_ap, dMake_ap, dOpF_ap, dSl_ap, dSlS_ap, dPart_ap, dAsg_ap, dMt_ap, aIxS_ap, rIxA_some, rIxB_ok, dFldSet_ap, rFSet_some, ownI_z, ownI_s, dCatS_ap, dPar_ap, dM1_ap, dLc_ap, dRng1_ap, rVar_u, rMov_fz, rMov_ol, rMov_oi, rTruS_some, rAnd_t, rAnd_f, rOr_t, rOr_f, rNot_s, rFldS_some, rIxS_some, rIxS2_some, rCallS_some, rCallR_some, rCallR2_ok, rCallR3_ok, rSlS_some, rSlS2_some, rCat_some, rCat2_some, rMt_some, rMt2_some, rMt3_some, rPart_some, retF_ok, isBl_bl, asInt_int, fOne_ap, fTwo_ap, aName_ap, RE.bind_ok, RE.toS_ok, RS.then_nx, RS.then_rt, RS.then_bk, RS.then_ct, turnS_nx, turnS_ct, turnS_bk, turnS_rt, opt_some, optO_some, optT_some, frz_ol, frz_fzd, frz_oi, List.getElem?_cons_zero, List.getElem?_cons_succ, List.set_cons_zero, List.set_cons_succ, List.map_cons, List.map_nil, List.length_cons, List.length_nil, List.replicate, List.cons_append, List.nil_append, Nat.reduceAdd, Nat.reduceSub, Nat.reduceLeDiff, if_true, Bool.false_eq_true, if_false, Bool.not_true, Bool.not_false, reduceIte, reduceCtorEq, run_ap, rMake_ok, rAsg_some, rM1_some, strD_str, rLc_some, rPar_two, rRng1_one, rIt_some, dIt_ap2, atI_0, atI_1, atI_2, ixN_2_0, ixN_2_1, back0_t, back0_f, ownL_z, ownL_s, rIxSet_some, Option.map_some, wipeG, he', i1, i2, i3, d1, d2, d4, fAdd, cNe_int, cNe_str, decide_true]
  have t5 : wi5 c [some s1, some (.fz ((dbl n).toD c)), some (.fz (.int n)), some (.fz (.int tt)), x4, none, none, none, none] = .nx [some s1, some (.fz ((dbl n).toD c)), some (.fz (.int n)), some (.fz (.int tt)), x4, none, none, none, none] := by
    simp only [wi5, fL_cons, rFL_some, fL_nil, dSeq_ap, dIfS_ap, dSet_ap, dDrop_ap, dRet_ap, dRetN_ap, dNx_ap, dBk_ap, dCt_ap, dFor_ap, dC_ap, dVar_ap, dMov_ap, dOp_ap, dUn_ap, dOpY_ap, dCmpT_ap, dCmp_ap, dTru_ap, dTruS_ap, dAndT_ap, dOrT_ap, dNotT_ap, dIf_ap, dAnd_ap, dOr_ap, dNot_ap, aNil_ap, aCons_ap, dTup_ap, dLst_ap, dFld_ap, dFldS_ap, dIxS_ap, dCall_ap, dCallS_ap, dYes_ap, dNoP_ap, dCallF_ap, dCallR_ap, dMeth_ap, dMake_ap, dOpF_ap, dSl_ap, dSlS_ap, dPart_ap, dAsg_ap, dMt_ap, aIxS_ap, rIxA_some, rIxB_ok, dFldSet_ap, rFSet_some, ownI_z, ownI_s, dCatS_ap, dPar_ap, dM1_ap, dLc_ap, dRng1_ap, rVar_u, rMov_fz, rMov_ol, rMov_oi, rTruS_some, rAnd_t, rAnd_f, rOr_t, rOr_f, rNot_s, rFldS_some, rIxS_some, rIxS2_some, rCallS_some, rCallR_some, rCallR2_ok, rCallR3_ok, rSlS_some, rSlS2_some, rCat_some, rCat2_some, rMt_some, rMt2_some, rMt3_some, rPart_some, retF_ok, isBl_bl, asInt_int, fOne_ap, fTwo_ap, aName_ap, RE.bind_ok, RE.toS_ok, RS.then_nx, RS.then_rt, RS.then_bk, RS.then_ct, turnS_nx, turnS_ct, turnS_bk, turnS_rt, opt_some, optO_some, optT_some, frz_ol, frz_fzd, frz_oi, List.getElem?_cons_zero, List.getElem?_cons_succ, List.set_cons_zero, List.set_cons_succ, List.map_cons, List.map_nil, List.length_cons, List.length_nil, List.replicate, List.cons_append, List.nil_append, Nat.reduceAdd, Nat.reduceSub, Nat.reduceLeDiff, if_true, Bool.false_eq_true, if_false, Bool.not_true, Bool.not_false, reduceIte, reduceCtorEq, run_ap, rMake_ok, rAsg_some, rM1_some, strD_str, rLc_some, rPar_two, rRng1_one, rIt_some, dIt_ap2, atI_0, atI_1, atI_2, ixN_2_0, ixN_2_1, back0_t, back0_f, ownL_z, ownL_s, rIxSet_some, Option.map_some, wipeG, d3, cLe_int, says_ok, decide_true, truthD]
  have t6 : wi6 c [some s1, some (.fz ((dbl n).toD c)), some (.fz (.int n)), some (.fz (.int tt)), x4, none, none, none, none] = .nx [some s2, some (.fz ((dbl n).toD c)), some (.fz (.int n)), some (.fz (.int tt)), x4, some (.fz (.int many)), none, none, none] := by
    simp only [wi6, fL_cons, rFL_some, fL_nil, dSeq_ap, dIfS_ap, dSet_ap, dDrop_ap, dRet_ap, dRetN_ap, dNx_ap, dBk_ap, dCt_ap, dFor_ap, dC_ap, dVar_ap, dMov_ap, dOp_ap, dUn_ap, dOpY_ap, dCmpT_ap, dCmp_ap, dTru_ap, dTruS_ap, dAndT_ap, dOrT_ap, dNotT_ap, dIf_ap, dAnd_ap, dOr_ap, dNot_ap, aNil_ap, aCons_ap, dTup_ap, dLst_ap, dFld_ap, dFldS_ap, dIxS_ap, dCall_ap, dCallS_ap, dYes_ap, dNoP_ap, dCallF_ap, dCallR_ap, dMeth_ap, dMake_ap, dOpF_ap, dSl_ap, dSlS_ap, dPart_ap, dAsg_ap, dMt_ap, aIxS_ap, rIxA_some, rIxB_ok, dFldSet_ap, rFSet_some, ownI_z, ownI_s, dCatS_ap, dPar_ap, dM1_ap, dLc_ap, dRng1_ap, rVar_u, rMov_fz, rMov_ol, rMov_oi, rTruS_some, rAnd_t, rAnd_f, rOr_t, rOr_f, rNot_s, rFldS_some, rIxS_some, rIxS2_some, rCallS_some, rCallR_some, rCallR2_ok, rCallR3_ok, rSlS_some, rSlS2_some, rCat_some, rCat2_some, rMt_some, rMt2_some, rMt3_some, rPart_some, retF_ok, isBl_bl, asInt_int, fOne_ap, fTwo_ap, aName_ap, RE.bind_ok, RE.toS_ok, RS.then_nx, RS.then_rt, RS.then_bk, RS.then_ct, turnS_nx, turnS_ct, turnS_bk, turnS_rt, opt_some, optO_some, optT_some, frz_ol, frz_fzd, frz_oi, List.getElem?_cons_zero, List.getElem?_cons_succ, List.set_cons_zero, List.set_cons_succ, List.map_cons, List.map_nil, List.length_cons, List.length_nil, List.replicate, List.cons_append, List.nil_append, Nat.reduceAdd, Nat.reduceSub, Nat.reduceLeDiff, if_true, Bool.false_eq_true, if_false, Bool.not_true, Bool.not_false, reduceIte, reduceCtorEq, run_ap, rMake_ok, rAsg_some, rM1_some, strD_str, rLc_some, rPar_two, rRng1_one, rIt_some, dIt_ap2, atI_0, atI_1, atI_2, ixN_2_0, ixN_2_1, back0_t, back0_f, ownL_z, ownL_s, rIxSet_some, Option.map_some, wipeG, e2, fAdd, hm]
  have t7 : wi7 c [some s2, some (.fz ((dbl n).toD c)), some (.fz (.int n)), some (.fz (.int tt)), x4, some (.fz (.int many)), none, none, none] = .nx [some s3, some (.fz ((dbl n).toD c)), some (.fz (.int n)), some (.fz (.int tt)), x4, some (.fz (.int many)), some (.ol (ts.map (Tr.toD c))), none, none] := by
    simp only [wi7, fL_cons, rFL_some, fL_nil, dSeq_ap, dIfS_ap, dSet_ap, dDrop_ap, dRet_ap, dRetN_ap, dNx_ap, dBk_ap, dCt_ap, dFor_ap, dC_ap, dVar_ap, dMov_ap, dOp_ap, dUn_ap, dOpY_ap, dCmpT_ap, dCmp_ap, dTru_ap, dTruS_ap, dAndT_ap, dOrT_ap, dNotT_ap, dIf_ap, dAnd_ap, dOr_ap, dNot_ap, aNil_ap, aCons_ap, dTup_ap, dLst_ap, dFld_ap, dFldS_ap, dIxS_ap, dCall_ap, dCallS_ap, dYes_ap, dNoP_ap, dCallF_ap, dCallR_ap, dMeth_ap, dMake_ap, dOpF_ap, dSl_ap, dSlS_ap, dPart_ap, dAsg_ap, dMt_ap, aIxS_ap, rIxA_some, rIxB_ok, dFldSet_ap, rFSet_some, ownI_z, ownI_s, dCatS_ap, dPar_ap, dM1_ap, dLc_ap, dRng1_ap, rVar_u, rMov_fz, rMov_ol, rMov_oi, rTruS_some, rAnd_t, rAnd_f, rOr_t, rOr_f, rNot_s, rFldS_some, rIxS_some, rIxS2_some, rCallS_some, rCallR_some, rCallR2_ok, rCallR3_ok, rSlS_some, rSlS2_some, rCat_some, rCat2_some, rMt_some, rMt2_some, rMt3_some, rPart_some, retF_ok, isBl_bl, asInt_int, fOne_ap, fTwo_ap, aName_ap, RE.bind_ok, RE.toS_ok, RS.then_nx, RS.then_rt, RS.then_bk, RS.then_ct, turnS_nx, turnS_ct, turnS_bk, turnS_rt, opt_some, optO_some, optT_some, frz_ol, frz_fzd, frz_oi, List.getElem?_cons_zero, List.getElem?_cons_succ, List.set_cons_zero, List.set_cons_succ, List.map_cons, List.map_nil, List.length_cons, List.length_nil, List.replicate, List.cons_append, List.nil_append, Nat.reduceAdd, Nat.reduceSub, Nat.reduceLeDiff, if_true, Bool.false_eq_true, if_false, Bool.not_true, Bool.not_false, reduceIte, reduceCtorEq, run_ap, rMake_ok, rAsg_some, rM1_some, strD_str, rLc_some, rPar_two, rIt_some, dIt_ap2, atI_0, atI_1, atI_2, ixN_2_0, ixN_2_1, back0_t, back0_f, ownL_z, ownL_s, rIxSet_some, Option.map_some, wipeG, rRng1_nat q2, e3]
  have t8 : wi8 c [some s3, some (.fz ((dbl n).toD c)), some (.fz (.int n)), some (.fz (.int tt)), x4, some (.fz (.int many)), some (.ol (ts.map (Tr.toD c))), none, none] = .nx [some s3, some (.fz ((dbl n).toD c)), some (.fz (.int n)), some (.fz (.int tt)), x4, some (.fz (.int many)), some (.ol [t.toD c]), y7, none] := hw'
  have t9 : wi9 c [some s3, some (.fz ((dbl n).toD c)), some (.fz (.int n)), some (.fz (.int tt)), x4, some (.fz (.int many)), some (.ol [t.toD c]), y7, none] = .nx [some s3, some (.fz (t.toD c)), some (.fz (.int n)), some (.fz (.int (2 * many - 1))), x4, some (.fz (.int many)), some (.ol [t.toD c]), y7, none] := by
    simp only [wi9, fL_cons, rFL_some, fL_nil, dSeq_ap, dIfS_ap, dSet_ap, dDrop_ap, dRet_ap, dRetN_ap, dNx_ap, dBk_ap, dCt_ap, dFor_ap, dC_ap, dVar_ap, dMov_ap, dOp_ap, dUn_ap, dOpY_ap, dCmpT_ap, dCmp_ap, dTru_ap, dTruS_ap, dAndT_ap, dOrT_ap, dNotT_ap, dIf_ap, dAnd_ap, dOr_ap, dNot_ap, aNil_ap, aCons_ap, dTup_ap, dLst_ap, dFld_ap, dFldS_ap, dIxS_ap, dCall_ap, dCallS_ap, dYes_ap, dNoP_ap, dCallF_ap, dCallR_ap, dMeth_ap, dMake_ap, dOpF_ap, dSl_ap, dSlS_ap, dPart_ap, dAsg_ap, dMt_ap, aIxS_ap, rIxA_some, rIxB_ok, dFldSet_ap, rFSet_some, ownI_z, ownI_s, dCatS_ap, dPar_ap, dM1_ap, dLc_ap, dRng1_ap, rVar_u, rMov_fz, rMov_ol, rMov_oi, rTruS_some, rAnd_t, rAnd_f, rOr_t, rOr_f, rNot_s, rFldS_some, rIxS_some, rIxS2_some, rCallS_some, rCallR_some, rCallR2_ok, rCallR3_ok, rSlS_some, rSlS2_some, rCat_some, rCat2_some, rMt_some, rMt2_some, rMt3_some, rPart_some, retF_ok, isBl_bl, asInt_int, fOne_ap, fTwo_ap, aName_ap, RE.bind_ok, RE.toS_ok, RS.then_nx, RS.then_rt, RS.then_bk, RS.then_ct, turnS_nx, turnS_ct, turnS_bk, turnS_rt, opt_some, optO_some, optT_some, frz_ol, frz_fzd, frz_oi, List.getElem?_cons_zero, List.getElem?_cons_succ, List.set_cons_zero, List.set_cons_succ, List.map_cons, List.map_nil, List.length_cons, List.length_nil, List.replicate, List.cons_append, List.nil_append, Nat.reduceAdd, Nat.reduceSub, Nat.reduceLeDiff, if_true, Bool.false_eq_true, if_false, Bool.not_true, Bool.not_false, reduceIte, reduceCtorEq, run_ap, rMake_ok, rAsg_some, rM1_some, strD_str, rLc_some, rPar_two, rRng1_one, rIt_some, dIt_ap2, atI_0, atI_1, atI_2, ixN_2_0, ixN_2_1, back0_t, back0_f, ownL_z, ownL_s, rIxSet_some, Option.map_some, wipeG, at0, fMul, mm, fSub]
  refine ⟨s4, ?_, h4⟩
  show (match m_xlaw_wide_holds c [some s, none, none, none, none, none, none, none, none] with
    | .nx g => RF.ok (.fz .non) (back0 true g) | .rt o g => .ok o (back0 true g) | .ex c fs g => .ex c fs (back0 true g) | _ => .no) = _
  rw [wi_eq, dSeq_ap, t1, RS.then_nx, dSeq_ap, t2, RS.then_nx, dSeq_ap, t3, RS.then_nx, dSeq_ap, t4, RS.then_nx, dSeq_ap, t5, RS.then_nx, dSeq_ap, t6, RS.then_nx, dSeq_ap, t7, RS.then_nx, dSeq_ap, t8, RS.then_nx, dSeq_ap, t9, RS.then_nx, dSeq_ap]
  by_cases h0 : v2 = 0
  · have t10 : wi10 c [some s3, some (.fz (t.toD c)), some (.fz (.int n)), some (.fz (.int (2 * many - 1))), x4, some (.fz (.int many)), some (.ol [t.toD c]), y7, none] = .nx [some s4, some (.oi c.Expression (exFs "reverse" [t.toD c])), some (.fz (.int n)), some (.fz (.int (2 * many - 1 + 1))), x4, some (.fz (.int many)), some (.ol [t.toD c]), y7, none] := by
      simp only [wi10, fL_cons, rFL_some, fL_nil, dSeq_ap, dIfS_ap, dSet_ap, dDrop_ap, dRet_ap, dRetN_ap, dNx_ap, dBk_ap, dCt_ap, dFor_ap, dC_ap, dVar_ap, dMov_ap, dOp_ap, dUn_ap, dOpY_ap, dCmpT_ap, dCmp_ap, dTru_ap, dTruS_ap, dAndT_ap, dOrT_ap, dNotT_ap, dIf_ap, dAnd_ap, dOr_ap, dNot_ap, aNil_ap, aCons_ap, dTup_ap, dLst_ap, dFld_ap, dFldS_ap, dIxS_ap, dCall_ap, dCallS_ap, dYes_ap, dNoP_ap, dCallF_ap, dCallR_ap, dMeth_ap, dMake_ap, dOpF_ap, dSl_ap, dSlS_ap, dPart_ap, dAsg_ap, dMt_ap, aIxS_ap, rIxA_some, rIxB_ok, dFldSet_ap, rFSet_some, ownI_z, ownI_s, dCatS_ap, dPar_ap, dM1_ap, dLc_ap, dRng1_ap, rVar_u, rMov_fz, rMov_ol, rMov_oi, rTruS_some, rAnd_t, rAnd_f, rOr_t, rOr_f, rNot_s, rFldS_some, rIxS_some, rIxS2_some, rCallS_some, rCallR_some, rCallR2_ok, rCallR3_ok, rSlS_some, rSlS2_some, rCat_some, rCat2_some, rMt_some, rMt2_some, rMt3_some, rPart_some, retF_ok, isBl_bl, asInt_int, fOne_ap, fTwo_ap, aName_ap, RE.bind_ok, RE.toS_ok, RS.then_nx, RS.then_rt, RS.then_bk, RS.then_ct, turnS_nx, turnS_ct, turnS_bk, turnS_rt, opt_some, optO_some, optT_some, frz_ol, frz_fzd, frz_oi, List.getElem?_cons_zero, List.getElem?_cons_succ, List.set_cons_zero, List.set_cons_succ, List.map_cons, List.map_nil, List.length_cons, List.length_nil, List.replicate, List.cons_append, List.nil_append, Nat.reduceAdd, Nat.reduceSub, Nat.reduceLeDiff, if_true, Bool.false_eq_true, if_false, Bool.not_true, Bool.not_false, reduceIte, reduceCtorEq, run_ap, rMake_ok, rAsg_some, rM1_some, strD_str, rLc_some, rPar_two, rRng1_one, rIt_some, dIt_ap2, atI_0, atI_1, atI_2, ixN_2_0, ixN_2_1, back0_t, back0_f, ownL_z, ownL_s, rIxSet_some, Option.map_some, wipeG, e4, cEq_int, h0, decide_true, j1, rev_ok, fAdd]
    have t11 : wi11 c [some s4, some (.oi c.Expression (exFs "reverse" [t.toD c])), some (.fz (.int n)), some (.fz (.int (2 * many - 1 + 1))), x4, some (.fz (.int many)), some (.ol [t.toD c]), y7, none] = .rt (.fz (.bl true)) [some s4, some (.fz ((Tr.rev t).toD c)), some (.fz (.int n)), some (.fz (.int (2 * many - 1 + 1))), x4, some (.fz (.int many)), some (.ol [t.toD c]), y7, none] := by
      simp only [wi11, fL_cons, rFL_some, fL_nil, dSeq_ap, dIfS_ap, dSet_ap, dDrop_ap, dRet_ap, dRetN_ap, dNx_ap, dBk_ap, dCt_ap, dFor_ap, dC_ap, dVar_ap, dMov_ap, dOp_ap, dUn_ap, dOpY_ap, dCmpT_ap, dCmp_ap, dTru_ap, dTruS_ap, dAndT_ap, dOrT_ap, dNotT_ap, dIf_ap, dAnd_ap, dOr_ap, dNot_ap, aNil_ap, aCons_ap, dTup_ap, dLst_ap, dFld_ap, dFldS_ap, dIxS_ap, dCall_ap, dCallS_ap, dYes_ap, dNoP_ap, dCallF_ap, dCallR_ap, dMeth_ap, dMake_ap, dOpF_ap, dSl_ap, dSlS_ap, dPart_ap, dAsg_ap, dMt_ap, aIxS_ap, rIxA_some, rIxB_ok, dFldSet_ap, rFSet_some, ownI_z, ownI_s, dCatS_ap, dPar_ap, dM1_ap, dLc_ap, dRng1_ap, rVar_u, rMov_fz, rMov_ol, rMov_oi, rTruS_some, rAnd_t, rAnd_f, rOr_t, rOr_f, rNot_s, rFldS_some, rIxS_some, rIxS2_some, rCallS_some, rCallR_some, rCallR2_ok, rCallR3_ok, rSlS_some, rSlS2_some, rCat_some, rCat2_some, rMt_some, rMt2_some, rMt3_some, rPart_some, retF_ok, isBl_bl, asInt_int, fOne_ap, fTwo_ap, aName_ap, RE.bind_ok, RE.toS_ok, RS.then_nx, RS.then_rt, RS.then_bk, RS.then_ct, turnS_nx, turnS_ct, turnS_bk, turnS_rt, opt_some, optO_some, optT_some, frz_ol, frz_fzd, frz_oi, List.getElem?_cons_zero, List.getElem?_cons_succ, List.set_cons_zero, List.set_cons_succ, List.map_cons, List.map_nil, List.length_cons, List.length_nil, List.replicate, List.cons_append, List.nil_append, Nat.reduceAdd, Nat.reduceSub, Nat.reduceLeDiff, if_true, Bool.false_eq_true, if_false, Bool.not_true, Bool.not_false, reduceIte, reduceCtorEq, run_ap, rMake_ok, rAsg_some, rM1_some, strD_str, rLc_some, rPar_two, rRng1_one, rIt_some, dIt_ap2, atI_0, atI_1, atI_2, ixN_2_0, ixN_2_1, back0_t, back0_f, ownL_z, ownL_s, rIxSet_some, Option.map_some, wipeG, exD_rev, j3, c3, c4, cEq_int, cLe_int, decide_true, says_ok]
    rw [t10, RS.then_nx, t11]
    rfl
  · have t10 : wi10 c [some s3, some (.fz (t.toD c)), some (.fz (.int n)), some (.fz (.int (2 * many - 1))), x4, some (.fz (.int many)), some (.ol [t.toD c]), y7, none] = .nx [some s4, some (.fz (t.toD c)), some (.fz (.int n)), some (.fz (.int (2 * many - 1))), x4, some (.fz (.int many)), some (.ol [t.toD c]), y7, none] := by
      simp only [wi10, fL_cons, rFL_some, fL_nil, dSeq_ap, dIfS_ap, dSet_ap, dDrop_ap, dRet_ap, dRetN_ap, dNx_ap, dBk_ap, dCt_ap, dFor_ap, dC_ap, dVar_ap, dMov_ap, dOp_ap, dUn_ap, dOpY_ap, dCmpT_ap, dCmp_ap, dTru_ap, dTruS_ap, dAndT_ap, dOrT_ap, dNotT_ap, dIf_ap, dAnd_ap, dOr_ap, dNot_ap, aNil_ap, aCons_ap, dTup_ap, dLst_ap, dFld_ap, dFldS_ap, dIxS_ap, dCall_ap, dCallS_ap, dYes_ap, dNoP_ap, dCallF_ap, dCallR_ap, dMeth_ap, dMake_ap, dOpF_ap, dSl_ap, dSlS_ap, dPart_ap, dAsg_ap, dMt_ap, aIxS_ap, rIxA_some, rIxB_ok, dFldSet_ap, rFSet_some, ownI_z, ownI_s, dCatS_ap, dPar_ap, dM1_ap, dLc_ap, dRng1_ap, rVar_u, rMov_fz, rMov_ol, rMov_oi, rTruS_some, rAnd_t, rAnd_f, rOr_t, rOr_f, rNot_s, rFldS_some, rIxS_some, rIxS2_some, rCallS_some, rCallR_some, rCallR2_ok, rCallR3_ok, rSlS_some, rSlS2_some, rCat_some, rCat2_some, rMt_some, rMt2_some, rMt3_some, rPart_some, retF_ok, isBl_bl, asInt_int, fOne_ap, fTwo_ap, aName_ap, RE.bind_ok, RE.toS_ok, RS.then_nx, RS.then_rt, RS.then_bk, RS.then_ct, turnS_nx, turnS_ct, turnS_bk, turnS_rt, opt_some, optO_some, optT_some, frz_ol, frz_fzd, frz_oi, List.getElem?_cons_zero, List.getElem?_cons_succ, List.set_cons_zero, List.set_cons_succ, List.map_cons, List.map_nil, List.length_cons, List.length_nil, List.replicate, List.cons_append, List.nil_append, Nat.reduceAdd, Nat.reduceSub, Nat.reduceLeDiff, if_true, Bool.false_eq_true, if_false, Bool.not_true, Bool.not_false, reduceIte, reduceCtorEq, run_ap, rMake_ok, rAsg_some, rM1_some, strD_str, rLc_some, rPar_two, rRng1_one, rIt_some, dIt_ap2, atI_0, atI_1, atI_2, ixN_2_0, ixN_2_1, back0_t, back0_f, ownL_z, ownL_s, rIxSet_some, Option.map_some, wipeG, e4, cEq_int, h0, decide_false]
    have t11 : wi11 c [some s4, some (.fz (t.toD c)), some (.fz (.int n)), some (.fz (.int (2 * many - 1))), x4, some (.fz (.int many)), some (.ol [t.toD c]), y7, none] = .rt (.fz (.bl true)) [some s4, some (.fz (t.toD c)), some (.fz (.int n)), some (.fz (.int (2 * many - 1))), x4, some (.fz (.int many)), some (.ol [t.toD c]), y7, none] := by
      simp only [wi11, fL_cons, rFL_some, fL_nil, dSeq_ap, dIfS_ap, dSet_ap, dDrop_ap, dRet_ap, dRetN_ap, dNx_ap, dBk_ap, dCt_ap, dFor_ap, dC_ap, dVar_ap, dMov_ap, dOp_ap, dUn_ap, dOpY_ap, dCmpT_ap, dCmp_ap, dTru_ap, dTruS_ap, dAndT_ap, dOrT_ap, dNotT_ap, dIf_ap, dAnd_ap, dOr_ap, dNot_ap, aNil_ap, aCons_ap, dTup_ap, dLst_ap, dFld_ap, dFldS_ap, dIxS_ap, dCall_ap, dCallS_ap, dYes_ap, dNoP_ap, dCallF_ap, dCallR_ap, dMeth_ap, dMake_ap, dOpF_ap, dSl_ap, dSlS_ap, dPart_ap, dAsg_ap, dMt_ap, aIxS_ap, rIxA_some, rIxB_ok, dFldSet_ap, rFSet_some, ownI_z, ownI_s, dCatS_ap, dPar_ap, dM1_ap, dLc_ap, dRng1_ap, rVar_u, rMov_fz, rMov_ol, rMov_oi, rTruS_some, rAnd_t, rAnd_f, rOr_t, rOr_f, rNot_s, rFldS_some, rIxS_some, rIxS2_some, rCallS_some, rCallR_some, rCallR2_ok, rCallR3_ok, rSlS_some, rSlS2_some, rCat_some, rCat2_some, rMt_some, rMt2_some, rMt3_some, rPart_some, retF_ok, isBl_bl, asInt_int, fOne_ap, fTwo_ap, aName_ap, RE.bind_ok, RE.toS_ok, RS.then_nx, RS.then_rt, RS.then_bk, RS.then_ct, turnS_nx, turnS_ct, turnS_bk, turnS_rt, opt_some, optO_some, optT_some, frz_ol, frz_fzd, frz_oi, List.getElem?_cons_zero, List.getElem?_cons_succ, List.set_cons_zero, List.set_cons_succ, List.map_cons, List.map_nil, List.length_cons, List.length_nil, List.replicate, List.cons_append, List.nil_append, Nat.reduceAdd, Nat.reduceSub, Nat.reduceLeDiff, if_true, Bool.false_eq_true, if_false, Bool.not_true, Bool.not_false, reduceIte, reduceCtorEq, run_ap, rMake_ok, rAsg_some, rM1_some, strD_str, rLc_some, rPar_two, rRng1_one, rIt_some, dIt_ap2, atI_0, atI_1, atI_2, ixN_2_0, ixN_2_1, back0_t, back0_f, ownL_z, ownL_s, rIxSet_some, Option.map_some, wipeG, j2, c1, c2, cEq_int, cLe_int, decide_true, says_ok]
    rw [t10, RS.then_nx, t11]
    rfl
end K77
end

section
namespace K77
open PySem L2 L3
variable (c : Cs)
/-! ### numbers of 59 to 62 digits -/
theorem ten_mul {i : Nat} (hi : i ≤ 100) : mulOk 10 (10 ^ i : Nat) = true := by
  refine mulOk_small (Nat.lt_of_lt_of_le (show (10 : Int).natAbs < 2 ^ 31 by decide) (Nat.pow_le_pow_right (by omega) (by omega))) ?_
  have h1 : (10 : Nat) ^ i ≤ 10 ^ 100 := Nat.pow_le_pow_right (by decide) hi
  have h2 : (10 : Nat) ^ 100 < 2 ^ 400 := by decide
  exact Nat.lt_of_lt_of_le (show (((10 ^ i : Nat) : Int)).natAbs < 2 ^ 400 by show 10 ^ i < 2 ^ 400; omega) (Nat.pow_le_pow_right (by omega) (by omega))
theorem low_loop (n : Nat) (hn : n ≤ 100) (x0 x1 : Option O) : ∃ x3, fL (aName 3) (fb_xlaw_digits_hold_3 c) (rngD 0 n) [x0, x1, some (.fz (.int 1)), none, none, none, none] = .nx [x0, x1, some (.fz (.int (10 ^ n : Nat))), x3, none, none, none] := by
  obtain ⟨g', e, x3, hg⟩ := fL_inv (as := aName 3) (b := fb_xlaw_digits_hold_3 c) (ds := rngD 0 n) (fun i g => ∃ x3, g = [x0, x1, some (.fz (.int (10 ^ i : Nat))), x3, none, none, none])
    (fun i d g hd ⟨x3, hg⟩ => by
      subst hg
      have hi := rngD_at hd
      have hm := ten_mul (i := i) (by omega)
      have e : (10 : Int) * ((10 ^ i : Nat) : Int) = ((10 ^ (i + 1) : Nat) : Int) := by
        rw [Nat.pow_succ]; omega
      refine ⟨_, [x0, x1, some (.fz (.int (10 ^ (i + 1) : Nat))), some (.fz d), none, none, none], rfl, .inl ?_, _, rfl⟩
      simp only [fb_xlaw_digits_hold_3, fL_cons, rFL_some, fL_nil, dSeq_ap, dIfS_ap, dSet_ap, dDrop_ap, dRet_ap, dRetN_ap, dNx_ap, dBk_ap, dCt_ap, dFor_ap, dC_ap, dVar_ap, dMov_ap, dOp_ap, dUn_ap, dOpY_ap, dCmpT_ap, dCmp_ap, dTru_ap, dTruS_ap, dAndT_ap, dOrT_ap, dNotT_ap, dIf_ap, dAnd_ap, dOr_ap, dNot_ap, aNil_ap, aCons_ap, dTup_ap, dLst_ap, dFld_ap, dFldS_ap, dIxS_ap, dCall_ap, dCallS_ap, dYes_ap, dNoP_ap, dCallF_ap, dCallR_ap, dMeth_ap, dMake_ap, dOpF_ap, dSl_ap, dSlS_ap, dPart_ap, dAsg_ap, dMt_ap, aIxS_ap, rIxA_some, rIxB_ok, dFldSet_ap, rFSet_some, ownI_z, ownI_s, dCatS_ap, dPar_ap, dM1_ap, dLc_ap, dRng1_ap, rVar_u, rMov_fz, rMov_ol, rMov_oi, rTruS_some, rAnd_t, rAnd_f, rOr_t, rOr_f, rNot_s, rFldS_some, rIxS_some, rIxS2_some, rCallS_some, rCallR_some, rCallR2_ok, rCallR3_ok, rSlS_some, rSlS2_some, rCat_some, rCat2_some, rMt_some, rMt2_some, rMt3_some, rPart_some, retF_ok, isBl_bl, asInt_int, fOne_ap, fTwo_ap, aName_ap, RE.bind_ok, RE.toS_ok, RS.then_nx, RS.then_rt, RS.then_bk, RS.then_ct, turnS_nx, turnS_ct, turnS_bk, turnS_rt, opt_some, optO_some, optT_some, frz_ol, frz_fzd, frz_oi, List.getElem?_cons_zero, List.getElem?_cons_succ, List.set_cons_zero, List.set_cons_succ, List.map_cons, List.map_nil, List.length_cons, List.length_nil, List.replicate, List.cons_append, List.nil_append, Nat.reduceAdd, Nat.reduceSub, Nat.reduceLeDiff, if_true, Bool.false_eq_true, if_false, Bool.not_true, Bool.not_false, reduceIte, reduceCtorEq, run_ap, rMake_ok, rAsg_some, rM1_some, strD_str, rLc_some, rPar_two, rRng1_one, rIt_some, dIt_ap2, atI_0, atI_1, atI_2, ixN_2_0, ixN_2_1, back0_t, back0_f, ownL_z, ownL_s, rIxSet_some, Option.map_some, wipeG, fMul, hm, e])
    0 [x0, x1, some (.fz (.int 1)), none, none, none, none] (Nat.zero_le _) ⟨_, rfl⟩
  rw [rngD_len] at hg
  rw [List.drop_zero] at e
  exact ⟨x3, by rw [e, hg]⟩
/-- the number in lowest terms -/
theorem ratio_low {n d : Int} (hd : 0 < d) (hl : d.natAbs.log2 < 9000) (hg : Nat.gcd n.natAbs d.natAbs = 1) : F_Ratio_init c [.oi c.Ratio [], .fz (.int n), .fz (.int d)] = .ok (.fz .non) (some (.oi c.Ratio (ratFs n d))) := by
  rw [ratio_ok c hd hl, hg]
  rw [show n.fdiv ((1 : Nat) : Int) = n from Int.fdiv_one n, show d.fdiv ((1 : Nat) : Int) = d from Int.fdiv_one d]
theorem num_oi (n d : Int) : F_number c [.fz (ratD c n d)] = .ok (.oi c.Expression (exFs "number" [ratD c n d])) none := number_ok c _
theorem hon_num (n d : Int) : F_xlaw_honest c [.oi c.Expression (exFs "number" [ratD c n d])] = .ok (.fz ((Tr.num n d).toD c)) none := honest_oi c _
theorem exD_star (a : Tr) : D.ins c.Expression (exFs "star" [a.toD c]) = (Tr.star a).toD c := rfl
theorem num_fits (n d : Int) : (Tr.num n d).fits = !(Tr.num n d).long := by
  unfold Tr.fits
  show (decide (1 ≤ 200) && decide (1 ≤ 40) && !(Tr.num n d).long) = _
  simp
theorem star_fits (n d : Int) : (Tr.star (.num n d)).fits = !(Tr.num n d).long := by
  unfold Tr.fits
  show (decide (1 + 1 ≤ 200) && decide (1 + 1 ≤ 40) && !(Tr.num n d).long) = _
  simp
theorem dig1 (size : Int) (t : Tr) (hc : t.cnt ≤ 2) (ht : t.fits = decide (size < 61)) (x0 x2 x3 x4 x5 : Option O) :
    fb_xlaw_digits_hold_1 c [x0, some (.fz (.int size)), x2, x3, x4, x5, some (.fz (t.toD c))] = .nx [x0, some (.fz (.int size)), x2, x3, x4, x5, some (.fz (t.toD c))] := by
  have b : 1000 ≤ big := by decide
  have h := isx_ok c t (by omega)
  rw [ht] at h
  simp only [fb_xlaw_digits_hold_1, fL_cons, rFL_some, fL_nil, dSeq_ap, dIfS_ap, dSet_ap, dDrop_ap, dRet_ap, dRetN_ap, dNx_ap, dBk_ap, dCt_ap, dFor_ap, dC_ap, dVar_ap, dMov_ap, dOp_ap, dUn_ap, dOpY_ap, dCmpT_ap, dCmp_ap, dTru_ap, dTruS_ap, dAndT_ap, dOrT_ap, dNotT_ap, dIf_ap, dAnd_ap, dOr_ap, dNot_ap, aNil_ap, aCons_ap, dTup_ap, dLst_ap, dFld_ap, dFldS_ap, dIxS_ap, dCall_ap, dCallS_ap, dYes_ap, dNoP_ap, dCallF_ap, dCallR_ap, dMeth_ap, dMake_ap, dOpF_ap, dSl_ap, dSlS_ap, dPart_ap, dAsg_ap, dMt_ap, aIxS_ap, rIxA_some, rIxB_ok, dFldSet_ap, rFSet_some, ownI_z, ownI_s, dCatS_ap, dPar_ap, dM1_ap, dLc_ap, dRng1_ap, rVar_u, rMov_fz, rMov_ol, rMov_oi, rTruS_some, rAnd_t, rAnd_f, rOr_t, rOr_f, rNot_s, rFldS_some, rIxS_some, rIxS2_some, rCallS_some, rCallR_some, rCallR2_ok, rCallR3_ok, rSlS_some, rSlS2_some, rCat_some, rCat2_some, rMt_some, rMt2_some, rMt3_some, rPart_some, retF_ok, isBl_bl, asInt_int, fOne_ap, fTwo_ap, aName_ap, RE.bind_ok, RE.toS_ok, RS.then_nx, RS.then_rt, RS.then_bk, RS.then_ct, turnS_nx, turnS_ct, turnS_bk, turnS_rt, opt_some, optO_some, optT_some, frz_ol, frz_fzd, frz_oi, List.getElem?_cons_zero, List.getElem?_cons_succ, List.set_cons_zero, List.set_cons_succ, List.map_cons, List.map_nil, List.length_cons, List.length_nil, List.replicate, List.cons_append, List.nil_append, Nat.reduceAdd, Nat.reduceSub, Nat.reduceLeDiff, if_true, Bool.false_eq_true, if_false, Bool.not_true, Bool.not_false, reduceIte, reduceCtorEq, run_ap, rMake_ok, rAsg_some, rM1_some, strD_str, rLc_some, rPar_two, rRng1_one, rIt_some, dIt_ap2, atI_0, atI_1, atI_2, ixN_2_0, ixN_2_1, back0_t, back0_f, ownL_z, ownL_s, rIxSet_some, Option.map_some, wipeG, h, cLt_int, says_ok, decide_true, truthD]
theorem dig2 (size n d : Int) (ht : (Tr.num n d).long = !decide (size < 61)) (x0 x2 x3 x4 x6 : Option O) :
    fb_xlaw_digits_hold_2 c [x0, some (.fz (.int size)), x2, x3, x4, some (.fz (ratD c n d)), x6] = .nx [x0, some (.fz (.int size)), x2, x3, x4, some (.fz (ratD c n d)), some (.fz ((Tr.star (.num n d)).toD c))] := by
  have q1 : (Tr.num n d).fits = decide (size < 61) := by rw [num_fits, ht, Bool.not_not]
  have q2 : (Tr.star (.num n d)).fits = decide (size < 61) := by rw [star_fits, ht, Bool.not_not]
  have i1 := insE c (.num n d) (m := "star") (by decide +kernel) (by decide +kernel)
  have r1 := fun x0 x2 x3 x4 x5 => dig1 c size (.num n d) (by show 1 ≤ 2; omega) q1 x0 x2 x3 x4 x5
  have r2 := fun x0 x2 x3 x4 x5 => dig1 c size (.star (.num n d)) (by show 1 + 1 ≤ 2; omega) q2 x0 x2 x3 x4 x5
  simp only [fb_xlaw_digits_hold_2, fL_cons, rFL_some, fL_nil, dSeq_ap, dIfS_ap, dSet_ap, dDrop_ap, dRet_ap, dRetN_ap, dNx_ap, dBk_ap, dCt_ap, dFor_ap, dC_ap, dVar_ap, dMov_ap, dOp_ap, dUn_ap, dOpY_ap, dCmpT_ap, dCmp_ap, dTru_ap, dTruS_ap, dAndT_ap, dOrT_ap, dNotT_ap, dIf_ap, dAnd_ap, dOr_ap, dNot_ap, aNil_ap, aCons_ap, dTup_ap, dLst_ap, dFld_ap, dFldS_ap, dIxS_ap, dCall_ap, dCallS_ap, dYes_ap, dNoP_ap, dCallF_ap, dCallR_ap, dMeth_ap, dMake_ap, dOpF_ap, dSl_ap, dSlS_ap, dPart_ap, dAsg_ap, dMt_ap, aIxS_ap, rIxA_some, rIxB_ok, dFldSet_ap, rFSet_some, ownI_z, ownI_s, dCatS_ap, dPar_ap, dM1_ap, dLc_ap, dRng1_ap, rVar_u, rMov_fz, rMov_ol, rMov_oi, rTruS_some, rAnd_t, rAnd_f, rOr_t, rOr_f, rNot_s, rFldS_some, rIxS_some, rIxS2_some, rCallS_some, rCallR_some, rCallR2_ok, rCallR3_ok, rSlS_some, rSlS2_some, rCat_some, rCat2_some, rMt_some, rMt2_some, rMt3_some, rPart_some, retF_ok, isBl_bl, asInt_int, fOne_ap, fTwo_ap, aName_ap, RE.bind_ok, RE.toS_ok, RS.then_nx, RS.then_rt, RS.then_bk, RS.then_ct, turnS_nx, turnS_ct, turnS_bk, turnS_rt, opt_some, optO_some, optT_some, frz_ol, frz_fzd, frz_oi, List.getElem?_cons_zero, List.getElem?_cons_succ, List.set_cons_zero, List.set_cons_succ, List.map_cons, List.map_nil, List.length_cons, List.length_nil, List.replicate, List.cons_append, List.nil_append, Nat.reduceAdd, Nat.reduceSub, Nat.reduceLeDiff, if_true, Bool.false_eq_true, if_false, Bool.not_true, Bool.not_false, reduceIte, reduceCtorEq, run_ap, rMake_ok, rAsg_some, rM1_some, strD_str, rLc_some, rPar_two, rRng1_one, rIt_some, dIt_ap2, atI_0, atI_1, atI_2, ixN_2_0, ixN_2_1, back0_t, back0_f, ownL_z, ownL_s, rIxSet_some, Option.map_some, wipeG, num_oi, hon_num, i1, star_ok, exD_star, show (2 : Nat) ≤ big by decide, itemsD, r1, r2]
theorem long_eq {n m : Int} {size : Int} (h : (Tr.num n m).long = true ↔ ¬ size < 61) : (Tr.num n m).long = !decide (size < 61) := by
  cases e : (Tr.num n m).long with
  | true =>
    have := h.mp e
    rw [decide_eq_false this]; rfl
  | false =>
    have : size < 61 := Classical.byContradiction fun q => by rw [h.mpr q] at e; cases e
    rw [decide_eq_true this]; rfl
theorem gcd_two {n : Nat} (h : n % 2 = 1) : Nat.gcd n 2 = 1 := by
  rw [Nat.gcd_comm, Nat.gcd_rec, h]
  rfl
theorem digits_ok {s : O} (h : Seed s) : ∃ s', F_xlaw_digits_hold c [s] = .ok (.fz (.bl true)) (some s') ∧ Seed s' := by
  obtain ⟨v, s1, e1, a1, b1, h1⟩ := take_seed c h 4 (by decide) (by decide)
  obtain ⟨k, hk⟩ : ∃ k : Nat, 59 + v = ((k + 59 : Nat) : Int) := ⟨v.toNat, by omega⟩
  have hk3 : k ≤ 3 := by omega
  obtain ⟨u, s2, e2, a2, b2, h2⟩ := take_seed c h1 1000000 (by decide) (by decide)
  obtain ⟨w, rfl⟩ : ∃ w : Nat, u = w := ⟨u.toNat, by omega⟩
  obtain ⟨x3, el⟩ := low_loop c (k + 58) (by omega) (some s1) (some (.fz (.int (k + 59 : Nat))))
  -- the number
  obtain ⟨n, hn⟩ : ∃ n : Nat, n = 10 ^ (k + 58) + 2 * w + 1 := ⟨_, rfl⟩
  have hnI : ((10 ^ (k + 58) : Nat) : Int) + 2 * (w : Int) + 1 = (n : Int) := by omega
  have big1 : k ≤ 1 → n < 10 ^ 60 := fun q => by
    have h1 : (10 : Nat) ^ (k + 58) ≤ 10 ^ 59 := Nat.pow_le_pow_right (by decide) (by omega)
    have h2 : (10 : Nat) ^ 59 + 2 * 1000000 + 1 < 10 ^ 60 := by decide
    omega
  have big2 : ¬ k ≤ 1 → 10 ^ 60 ≤ n := fun q => by
    have h1 : (10 : Nat) ^ 60 ≤ 10 ^ (k + 58) := Nat.pow_le_pow_right (by decide) (by omega)
    omega
  have big3 : n < 2 ^ 300 := by
    have h1 : (10 : Nat) ^ (k + 58) ≤ 10 ^ 61 := Nat.pow_le_pow_right (by decide) (by omega)
    have h2 : (10 : Nat) ^ 61 + 2 * 1000000 + 1 < 2 ^ 300 := by decide
    omega
  have odd : n % 2 = 1 := by
    have : (10 : Nat) ^ (k + 58) % 2 = 0 := by rw [Nat.pow_succ]; omega
    omega
  have pos : 0 < n := by omega
  have lg : (n : Int).natAbs.log2 < 9000 := by
    have : n.log2 < 300 := (Nat.log2_lt (by omega)).mpr big3
    show n.log2 < 9000; omega
  have l1 : (1 : Int).natAbs.log2 < 9000 := by decide
  have l2 : (2 : Int).natAbs.log2 < 9000 := by decide
  have R1 := ratio_low c (n := n) (d := 1) (by decide) l1 (Nat.gcd_one_right _)
  have R2 := ratio_low c (n := -n) (d := 1) (by decide) l1 (Nat.gcd_one_right _)
  have R3 := ratio_low c (n := 2) (d := n) (by omega) lg (by rw [Nat.gcd_comm]; exact gcd_two odd)
  have R4 := ratio_low c (n := -n) (d := 2) (by decide) l2 (by rw [Int.natAbs_neg]; exact gcd_two odd)
  have ten : (10 : Int) ^ 60 = ((10 ^ 60 : Nat) : Int) := by norm_cast
  have t2 : ¬ (10 ^ 60 : Nat) ≤ 2 := by decide
  have t1 : ¬ (10 ^ 60 : Nat) ≤ 1 := by decide
  have sz : ¬ ((k + 59 : Nat) : Int) < 61 ↔ ¬ k ≤ 1 := by omega
  have big4 : (10 ^ 60 ≤ n) ↔ ¬ k ≤ 1 := ⟨fun q r => by have := big1 r; omega, big2⟩
  generalize 10 ^ 60 = T at big4 ten t1 t2
  have L : ∀ a b : Int, (Tr.num a b).long = true ↔ ((10 : Int) ^ 60 ≤ (if a < 0 then -a else a) ∨ (10 : Int) ^ 60 ≤ b) := fun a b => by
    unfold Tr.long
    rw [Bool.or_eq_true, decide_eq_true_iff, decide_eq_true_iff]
  have L1 : (Tr.num n 1).long = !decide (((k + 59 : Nat) : Int) < 61) := long_eq (by
    rw [L, ten, sz, ← big4, if_neg (by omega)]; omega)
  have L2 : (Tr.num (-n) 1).long = !decide (((k + 59 : Nat) : Int) < 61) := long_eq (by
    rw [L, ten, sz, ← big4, if_pos (by omega)]; omega)
  have L3 : (Tr.num 2 n).long = !decide (((k + 59 : Nat) : Int) < 61) := long_eq (by
    rw [L, ten, sz, ← big4, if_neg (by omega)]; omega)
  have L4 : (Tr.num (-n) 2).long = !decide (((k + 59 : Nat) : Int) < 61) := long_eq (by
    rw [L, ten, sz, ← big4, if_pos (by omega)]; omega)
  have B1 := fun x0 x2 x3 x4 x6 => dig2 c _ _ _ L1 x0 x2 x3 x4 x6
  have B2 := fun x0 x2 x3 x4 x6 => dig2 c _ _ _ L2 x0 x2 x3 x4 x6
  have B3 := fun x0 x2 x3 x4 x6 => dig2 c _ _ _ L3 x0 x2 x3 x4 x6
  have B4 := fun x0 x2 x3 x4 x6 => dig2 c _ _ _ L4 x0 x2 x3 x4 x6
  have r62 : R62 (((k + 59 : Nat) : Int) - 1) = true := by
    unfold R62
    simp only [Bool.and_eq_true, decide_eq_true_eq]
    omega
  have tn : (((k + 59 : Nat) : Int) - 1).toNat = k + 58 := by omega
  have mm : mulOk 2 (w : Int) = true := mul31 (by decide) (by omega)
  have rD : ∀ a b : Int, D.ins c.Ratio (ratFs a b) = ratD c a b := fun _ _ => rfl
  refine ⟨s2, ?_, h2⟩
  simp only [F_xlaw_digits_hold, m_xlaw_digits_hold, fL_cons, rFL_some, fL_nil, dSeq_ap, dIfS_ap, dSet_ap, dDrop_ap, dRet_ap, dRetN_ap, dNx_ap, dBk_ap, dCt_ap, dFor_ap, dC_ap, dVar_ap, dMov_ap, dOp_ap, dUn_ap, dOpY_ap, dCmpT_ap, dCmp_ap, dTru_ap, dTruS_ap, dAndT_ap, dOrT_ap, dNotT_ap, dIf_ap, dAnd_ap, dOr_ap, dNot_ap, aNil_ap, aCons_ap, dTup_ap, dLst_ap, dFld_ap, dFldS_ap, dIxS_ap, dCall_ap, dCallS_ap, dYes_ap, dNoP_ap, dCallF_ap, dCallR_ap, dMeth_ap, dMake_ap, dOpF_ap, dSl_ap, dSlS_ap, dPart_ap, dAsg_ap, dMt_ap, aIxS_ap, rIxA_some, rIxB_ok, dFldSet_ap, rFSet_some, ownI_z, ownI_s, dCatS_ap, dPar_ap, dM1_ap, dLc_ap, dRng1_ap, rVar_u, rMov_fz, rMov_ol, rMov_oi, rTruS_some, rAnd_t, rAnd_f, rOr_t, rOr_f, rNot_s, rFldS_some, rIxS_some, rIxS2_some, rCallS_some, rCallR_some, rCallR2_ok, rCallR3_ok, rSlS_some, rSlS2_some, rCat_some, rCat2_some, rMt_some, rMt2_some, rMt3_some, rPart_some, retF_ok, isBl_bl, asInt_int, fOne_ap, fTwo_ap, aName_ap, RE.bind_ok, RE.toS_ok, RS.then_nx, RS.then_rt, RS.then_bk, RS.then_ct, turnS_nx, turnS_ct, turnS_bk, turnS_rt, opt_some, optO_some, optT_some, frz_ol, frz_fzd, frz_oi, List.getElem?_cons_zero, List.getElem?_cons_succ, List.set_cons_zero, List.set_cons_succ, List.map_cons, List.map_nil, List.length_cons, List.length_nil, List.replicate, List.cons_append, List.nil_append, Nat.reduceAdd, Nat.reduceSub, Nat.reduceLeDiff, if_true, Bool.false_eq_true, if_false, Bool.not_true, Bool.not_false, reduceIte, reduceCtorEq, run_ap, rMake_ok, rAsg_some, rM1_some, strD_str, rLc_some, rPar_two, rRng1_one, rIt_some, dIt_ap2, atI_0, atI_1, atI_2, ixN_2_0, ixN_2_1, back0_t, back0_f, ownL_z, ownL_s, rIxSet_some, Option.map_some, wipeG, e1, fAdd, hk, fSub, r62, tn, el, e2, fMul, mm, hnI, R1, R2, R3, R4, fNeg, rD, itemsD, B1, B2, B3, B4, show (4 : Nat) ≤ big by decide]
/-! ### the law -/
theorem isi_no (d : D) (h : d = .non ∨ (∃ i, d = .int i) ∨ (∃ z, d = .str z) ∨ (∃ b, d = .bl b) ∨ (∃ xs, d = .tup xs) ∨ (∃ xs, d = .lst xs)) : isiD (kit c) d (.adr c.Expression) = some (.fz (.bl false)) := by
  rcases h with rfl | ⟨i, rfl⟩ | ⟨z, rfl⟩ | ⟨b, rfl⟩ | ⟨xs, rfl⟩ | ⟨xs, rfl⟩ <;> simp [isiD, tyD, clD, kit, tys]
theorem isi_noR (hne : c.Ratio ≠ c.Expression) (fs : List (Str × D)) : isiD (kit c) (.ins c.Ratio fs) (.adr c.Expression) = some (.fz (.bl false)) := by
  simp [isiD, tyD, clD, kit, hne]
theorem isx_no_of {d : D} (h : isiD (kit c) d (.adr c.Expression) = some (.fz (.bl false))) : F_is_expression c [.fz d] = .ok (.fz (.bl false)) none := by
  simp only [F_is_expression, m_is_expression, fL_cons, rFL_some, fL_nil, dSeq_ap, dIfS_ap, dSet_ap, dDrop_ap, dRet_ap, dRetN_ap, dNx_ap, dBk_ap, dCt_ap, dFor_ap, dC_ap, dVar_ap, dMov_ap, dOp_ap, dUn_ap, dOpY_ap, dCmpT_ap, dCmp_ap, dTru_ap, dTruS_ap, dAndT_ap, dOrT_ap, dNotT_ap, dIf_ap, dAnd_ap, dOr_ap, dNot_ap, aNil_ap, aCons_ap, dTup_ap, dLst_ap, dFld_ap, dFldS_ap, dIxS_ap, dCall_ap, dCallS_ap, dYes_ap, dNoP_ap, dCallF_ap, dCallR_ap, dMeth_ap, dMake_ap, dOpF_ap, dSl_ap, dSlS_ap, dPart_ap, dAsg_ap, dMt_ap, aIxS_ap, rIxA_some, rIxB_ok, dFldSet_ap, rFSet_some, ownI_z, ownI_s, dCatS_ap, dPar_ap, dM1_ap, dLc_ap, dRng1_ap, rVar_u, rMov_fz, rMov_ol, rMov_oi, rTruS_some, rAnd_t, rAnd_f, rOr_t, rOr_f, rNot_s, rFldS_some, rIxS_some, rIxS2_some, rCallS_some, rCallR_some, rCallR2_ok, rCallR3_ok, rSlS_some, rSlS2_some, rCat_some, rCat2_some, rMt_some, rMt2_some, rMt3_some, rPart_some, retF_ok, isBl_bl, asInt_int, fOne_ap, fTwo_ap, aName_ap, RE.bind_ok, RE.toS_ok, RS.then_nx, RS.then_rt, RS.then_bk, RS.then_ct, turnS_nx, turnS_ct, turnS_bk, turnS_rt, opt_some, optO_some, optT_some, frz_ol, frz_fzd, frz_oi, List.getElem?_cons_zero, List.getElem?_cons_succ, List.set_cons_zero, List.set_cons_succ, List.map_cons, List.map_nil, List.length_cons, List.length_nil, List.replicate, List.cons_append, List.nil_append, Nat.reduceAdd, Nat.reduceSub, Nat.reduceLeDiff, if_true, Bool.false_eq_true, if_false, Bool.not_true, Bool.not_false, reduceIte, reduceCtorEq, run_ap, rMake_ok, rAsg_some, rM1_some, strD_str, rLc_some, rPar_two, rRng1_one, rIt_some, dIt_ap2, atI_0, atI_1, atI_2, ixN_2_0, ixN_2_1, back0_t, back0_f, ownL_z, ownL_s, rIxSet_some, Option.map_some, wipeG, h, truthD]
theorem notB (a b : Bool) : cNotB (.bl a) (.bl b) = some (!decide (a = b)) := rfl
theorem ratio_1 : F_Ratio_init c [.oi c.Ratio [], .fz (.int 1), .fz (.int 1)] = .ok (.fz .non) (some (.oi c.Ratio (ratFs 1 1))) :=
  ratio_low c (by decide) (by decide) (by decide)
theorem law_ok (hne : c.Ratio ≠ c.Expression) (ns : List Int) (h : ns.length ≤ 63) (hb : ∀ z ∈ ns, Builtin.Int.intBits z ≤ 1048576) : ∃ u, F_law c [.fz (.sq (ns.map D.int))] = .ok (.fz (.bl true)) u := by
  obtain ⟨s0, e0, h0⟩ := state_ok c h hb
  obtain ⟨s1, e1, h1⟩ := chain_ok c hne h0
  obtain ⟨s2, e2, h2⟩ := wide_ok c h1
  obtain ⟨s3, e3, h3⟩ := digits_ok c h2
  have n0 := isx_no_of c (isi_no c .non (.inl rfl))
  have n1 := fun i => isx_no_of c (isi_no c (.int i) (.inr (.inl ⟨_, rfl⟩)))
  have n2 := fun z => isx_no_of c (isi_no c (.str z) (.inr (.inr (.inl ⟨_, rfl⟩))))
  have n3 := fun b => isx_no_of c (isi_no c (.bl b) (.inr (.inr (.inr (.inl ⟨_, rfl⟩)))))
  have n4 := fun xs => isx_no_of c (isi_no c (.tup xs) (.inr (.inr (.inr (.inr (.inl ⟨_, rfl⟩))))))
  have n5 := fun xs => isx_no_of c (isi_no c (.lst xs) (.inr (.inr (.inr (.inr (.inr ⟨_, rfl⟩))))))
  have n6 := fun fs => isx_no_of c (isi_noR c hne fs)
  have ea : F_xlaw_honest c [.oi c.Expression (exFs "letter" [.str "a"])] = .ok (.fz ((Tr.let_ "a").toD c)) none := honest_oi c _
  have any : fAnyD (.lst [.bl false, .bl false, .bl false, .bl false, .bl false, .bl false, .bl false]) = some (.fz (.bl false)) := rfl
  refine ⟨none, ?_⟩
  simp only [F_law, m_law, fL_cons, rFL_some, fL_nil, dSeq_ap, dIfS_ap, dSet_ap, dDrop_ap, dRet_ap, dRetN_ap, dNx_ap, dBk_ap, dCt_ap, dFor_ap, dC_ap, dVar_ap, dMov_ap, dOp_ap, dUn_ap, dOpY_ap, dCmpT_ap, dCmp_ap, dTru_ap, dTruS_ap, dAndT_ap, dOrT_ap, dNotT_ap, dIf_ap, dAnd_ap, dOr_ap, dNot_ap, aNil_ap, aCons_ap, dTup_ap, dLst_ap, dFld_ap, dFldS_ap, dIxS_ap, dCall_ap, dCallS_ap, dYes_ap, dNoP_ap, dCallF_ap, dCallR_ap, dMeth_ap, dMake_ap, dOpF_ap, dSl_ap, dSlS_ap, dPart_ap, dAsg_ap, dMt_ap, aIxS_ap, rIxA_some, rIxB_ok, dFldSet_ap, rFSet_some, ownI_z, ownI_s, dCatS_ap, dPar_ap, dM1_ap, dLc_ap, dRng1_ap, rVar_u, rMov_fz, rMov_ol, rMov_oi, rTruS_some, rAnd_t, rAnd_f, rOr_t, rOr_f, rNot_s, rFldS_some, rIxS_some, rIxS2_some, rCallS_some, rCallR_some, rCallR2_ok, rCallR3_ok, rSlS_some, rSlS2_some, rCat_some, rCat2_some, rMt_some, rMt2_some, rMt3_some, rPart_some, retF_ok, isBl_bl, asInt_int, fOne_ap, fTwo_ap, aName_ap, RE.bind_ok, RE.toS_ok, RS.then_nx, RS.then_rt, RS.then_bk, RS.then_ct, turnS_nx, turnS_ct, turnS_bk, turnS_rt, opt_some, optO_some, optT_some, frz_ol, frz_fzd, frz_oi, List.getElem?_cons_zero, List.getElem?_cons_succ, List.set_cons_zero, List.set_cons_succ, List.map_cons, List.map_nil, List.length_cons, List.length_nil, List.replicate, List.cons_append, List.nil_append, Nat.reduceAdd, Nat.reduceSub, Nat.reduceLeDiff, if_true, Bool.false_eq_true, if_false, Bool.not_true, Bool.not_false, reduceIte, reduceCtorEq, run_ap, rMake_ok, rAsg_some, rM1_some, strD_str, rLc_some, rPar_two, rRng1_one, rIt_some, dIt_ap2, atI_0, atI_1, atI_2, ixN_2_0, ixN_2_1, back0_t, back0_f, ownL_z, ownL_s, rIxSet_some, Option.map_some, wipeG, e0, e1, e2, e3, truthD, letter_ok c short_a rfl, ea, ratio_1, itemsD, cL, wipeG, ce_law_2, n0, n1, n2, n3, n4, n5, n6, notB, decide_true, any, show (0 : Nat) < big by decide, show (1 : Nat) < big by decide, show (2 : Nat) < big by decide, show (3 : Nat) < big by decide, show (4 : Nat) < big by decide, show (5 : Nat) < big by decide, show (6 : Nat) < big by decide, show (1 : Nat) ≤ big by decide, show (2 : Nat) ≤ big by decide, show (7 : Nat) ≤ big by decide]
end K77
end

section
namespace K77
open PySem L2 L3
/-! ### the defs keep their promises (printed by gen.py) -/
def top (i : Nat) : Stmt := PySem.Challenge.pw_seriesroads_k77_deep_expressions.main.body.getD i (.Pass ⟨0, 0, 0, 0⟩)
def csOf (K : PySem.W.Frag) : Cs := ⟨He.ga K "Ratio", He.ga K "Expression"⟩
abbrev s_xlaw_state : Stmt := (top 23)
abbrev N_xlaw_state : List Str := ["script", "seed", "total", "cell"]
theorem sc_xlaw_state : FnScope ["script", "seed", "total", "cell"] ["script"] (defScope s_xlaw_state) := C8.fnScope_by (by decide +kernel)
abbrev s_Ratio_init : Stmt := (inClass (top 9) 0)
abbrev N_Ratio_init : List Str := ["self", "n", "d", "common"]
theorem sc_Ratio_init : FnScope ["self", "n", "d", "common"] ["self", "n", "d"] (defScope s_Ratio_init) := C8.fnScope_by (by decide +kernel)
abbrev s_Ratio_eq : Stmt := (inClass (top 9) 5)
abbrev N_Ratio_eq : List Str := ["self", "other"]
theorem sc_Ratio_eq : FnScope ["self", "other"] ["self", "other"] (defScope s_Ratio_eq) := C8.fnScope_by (by decide +kernel)
abbrev s_Expression_eq : Stmt := (inClass (top 16) 1)
abbrev N_Expression_eq : List Str := ["self", "other"]
theorem sc_Expression_eq : FnScope ["self", "other"] ["self", "other"] (defScope s_Expression_eq) := C8.fnScope_by (by decide +kernel)
abbrev s_xlaw_odd : Stmt := (top 24)
abbrev N_xlaw_odd : List Str := ["value", "item"]
theorem sc_xlaw_odd : FnScope ["value", "item"] ["value"] (defScope s_xlaw_odd) := C8.fnScope_by (by decide +kernel)
abbrev s_xlaw_honest : Stmt := (top 25)
abbrev N_xlaw_honest : List Str := ["value"]
theorem sc_xlaw_honest : FnScope ["value"] ["value"] (defScope s_xlaw_honest) := C8.fnScope_by (by decide +kernel)
abbrev s_Expression_init : Stmt := (inClass (top 16) 0)
abbrev N_Expression_init : List Str := ["self", "kind", "parts"]
theorem sc_Expression_init : FnScope ["self", "kind", "parts"] ["self", "kind", "parts"] (defScope s_Expression_init) := C8.fnScope_by (by decide +kernel)
abbrev s_is_short_word : Stmt := (top 15)
abbrev N_is_short_word : List Str := ["value", "mark"]
theorem sc_is_short_word : FnScope ["value", "mark"] ["value"] (defScope s_is_short_word) := C8.fnScope_by (by decide +kernel)
abbrev s_letter_of : Stmt := (top 19)
abbrev N_letter_of : List Str := ["a"]
theorem sc_letter_of : FnScope ["a"] ["a"] (defScope s_letter_of) := C8.fnScope_by (by decide +kernel)
abbrev s_Expression_star : Stmt := (inClass (top 16) 6)
abbrev N_Expression_star : List Str := ["self"]
theorem sc_Expression_star : FnScope ["self"] ["self"] (defScope s_Expression_star) := C8.fnScope_by (by decide +kernel)
abbrev s_Expression_reverse : Stmt := (inClass (top 16) 7)
abbrev N_Expression_reverse : List Str := ["self"]
theorem sc_Expression_reverse : FnScope ["self"] ["self"] (defScope s_Expression_reverse) := C8.fnScope_by (by decide +kernel)
abbrev s_Expression_left : Stmt := (inClass (top 16) 8)
abbrev N_Expression_left : List Str := ["self", "u"]
theorem sc_Expression_left : FnScope ["self", "u"] ["self", "u"] (defScope s_Expression_left) := C8.fnScope_by (by decide +kernel)
abbrev s_Expression_right : Stmt := (inClass (top 16) 9)
abbrev N_Expression_right : List Str := ["self", "u"]
theorem sc_Expression_right : FnScope ["self", "u"] ["self", "u"] (defScope s_Expression_right) := C8.fnScope_by (by decide +kernel)
abbrev s_number : Stmt := (top 18)
abbrev N_number : List Str := ["q"]
theorem sc_number : FnScope ["q"] ["q"] (defScope s_number) := C8.fnScope_by (by decide +kernel)
abbrev s_Expression_add : Stmt := (inClass (top 16) 2)
abbrev N_Expression_add : List Str := ["self", "other"]
theorem sc_Expression_add : FnScope ["self", "other"] ["self", "other"] (defScope s_Expression_add) := C8.fnScope_by (by decide +kernel)
abbrev s_Expression_mul : Stmt := (inClass (top 16) 3)
abbrev N_Expression_mul : List Str := ["self", "other"]
theorem sc_Expression_mul : FnScope ["self", "other"] ["self", "other"] (defScope s_Expression_mul) := C8.fnScope_by (by decide +kernel)
abbrev s_Expression_and : Stmt := (inClass (top 16) 4)
abbrev N_Expression_and : List Str := ["self", "other"]
theorem sc_Expression_and : FnScope ["self", "other"] ["self", "other"] (defScope s_Expression_and) := C8.fnScope_by (by decide +kernel)
abbrev s_Expression_xor : Stmt := (inClass (top 16) 5)
abbrev N_Expression_xor : List Str := ["self", "other"]
theorem sc_Expression_xor : FnScope ["self", "other"] ["self", "other"] (defScope s_Expression_xor) := C8.fnScope_by (by decide +kernel)
abbrev s_xlaw_stepped : Stmt := (top 28)
abbrev N_xlaw_stepped : List Str := ["e", "pick", "word", "k", "other"]
theorem sc_xlaw_stepped : FnScope ["e", "pick", "word", "k", "other"] ["e", "pick", "word", "k"] (defScope s_xlaw_stepped) := C8.fnScope_by (by decide +kernel)
abbrev s_xlaw_made : Stmt := (top 29)
abbrev N_xlaw_made : List Str := ["steps", "e", "pick", "word", "k"]
theorem sc_xlaw_made : FnScope ["steps", "e", "pick", "word", "k"] ["steps"] (defScope s_xlaw_made) := C8.fnScope_by (by decide +kernel)
abbrev s_xlaw_take : Stmt := (top 26)
abbrev N_xlaw_take : List Str := ["state", "m", "value"]
theorem sc_xlaw_take : FnScope ["state", "m", "value"] ["state", "m"] (defScope s_xlaw_take) := C8.fnScope_by (by decide +kernel)
abbrev s_xlaw_says : Stmt := (top 31)
abbrev N_xlaw_says : List Str := ["told", "due"]
theorem sc_xlaw_says : FnScope ["told", "due"] ["told", "due"] (defScope s_xlaw_says) := C8.fnScope_by (by decide +kernel)
abbrev s_xlaw_words : Stmt := (top 27)
abbrev N_xlaw_words : List Str := ["state", "k"]
theorem sc_xlaw_words : FnScope ["state", "k"] ["state"] (defScope s_xlaw_words) := C8.fnScope_by (by decide +kernel)
abbrev s_Expression_operands : Stmt := (inClass (top 16) 10)
abbrev N_Expression_operands : List Str := ["self"]
theorem sc_Expression_operands : FnScope ["self"] ["self"] (defScope s_Expression_operands) := C8.fnScope_by (by decide +kernel)
abbrev s_measures : Stmt := (top 17)
abbrev N_measures : List Str := ["e", "deepest", "total", "waiting", "node", "level", "operand"]
theorem sc_measures : FnScope ["e", "deepest", "total", "waiting", "node", "level", "operand"] ["e"] (defScope s_measures) := C8.fnScope_by (by decide +kernel)
abbrev s_Expression_depth : Stmt := (inClass (top 16) 11)
abbrev N_Expression_depth : List Str := ["self"]
theorem sc_Expression_depth : FnScope ["self"] ["self"] (defScope s_Expression_depth) := C8.fnScope_by (by decide +kernel)
abbrev s_Expression_count : Stmt := (inClass (top 16) 12)
abbrev N_Expression_count : List Str := ["self"]
theorem sc_Expression_count : FnScope ["self"] ["self"] (defScope s_Expression_count) := C8.fnScope_by (by decide +kernel)
abbrev s_Expression_used_letters : Stmt := (inClass (top 16) 13)
abbrev N_Expression_used_letters : List Str := ["self", "marks", "waiting", "e", "text", "mark"]
theorem sc_Expression_used_letters : FnScope ["self", "marks", "waiting", "e", "text", "mark"] ["self"] (defScope s_Expression_used_letters) := C8.fnScope_by (by decide +kernel)
abbrev s_xlaw_letters_of : Stmt := (top 30)
abbrev N_xlaw_letters_of : List Str := ["steps", "found", "pick", "word", "k", "mark"]
theorem sc_xlaw_letters_of : FnScope ["steps", "found", "pick", "word", "k", "mark"] ["steps"] (defScope s_xlaw_letters_of) := C8.fnScope_by (by decide +kernel)
abbrev s_is_long : Stmt := (top 20)
abbrev N_is_long : List Str := ["q"]
theorem sc_is_long : FnScope ["q"] ["q"] (defScope s_is_long) := C8.fnScope_by (by decide +kernel)
abbrev s_is_expression : Stmt := (top 21)
abbrev N_is_expression : List Str := ["value", "total", "waiting", "node", "level", "operand"]
theorem sc_is_expression : FnScope ["value", "total", "waiting", "node", "level", "operand"] ["value"] (defScope s_is_expression) := C8.fnScope_by (by decide +kernel)
abbrev s_xlaw_chain_holds : Stmt := (top 32)
abbrev N_xlaw_chain_holds : List Str := ["state", "deep", "steps", "e", "again", "total", "last", "other", "turn", "pick", "word", "k"]
theorem sc_xlaw_chain_holds : FnScope ["state", "deep", "steps", "e", "again", "total", "last", "other", "turn", "pick", "word", "k"] ["state"] (defScope s_xlaw_chain_holds) := C8.fnScope_by (by decide +kernel)
abbrev s_xlaw_wide_holds : Stmt := (top 33)
abbrev N_xlaw_wide_holds : List Str := ["state", "e", "twice", "total", "turn", "many", "parts", "paired", "k"]
theorem sc_xlaw_wide_holds : FnScope ["state", "e", "twice", "total", "turn", "many", "parts", "paired", "k"] ["state"] (defScope s_xlaw_wide_holds) := C8.fnScope_by (by decide +kernel)
abbrev s_xlaw_digits_hold : Stmt := (top 34)
abbrev N_xlaw_digits_hold : List Str := ["state", "size", "low", "turn", "n", "q", "e"]
theorem sc_xlaw_digits_hold : FnScope ["state", "size", "low", "turn", "n", "q", "e"] ["state"] (defScope s_xlaw_digits_hold) := C8.fnScope_by (by decide +kernel)
abbrev s_law : Stmt := (top 35)
abbrev N_law : List Str := ["script", "state", "bads", "value"]
theorem sc_law : FnScope ["script", "state", "bads", "value"] ["script"] (defScope s_law) := C8.fnScope_by (by decide +kernel)
structure Fc (K : PySem.W.Frag) (mg : Str → Option Value) where
  fd_xlaw_state : FuncData
  D_xlaw_state : FunD K "_law_state" "_law_state" (defArgs s_xlaw_state) (defBody s_xlaw_state) (defScope s_xlaw_state) [] [] (He.ga K "_law_state") fd_xlaw_state
  g_xlaw_state : mg "_law_state" = some (.ref (He.ga K "_law_state"))
  fd_Ratio_init : FuncData
  D_Ratio_init : FunD K "__init__" "Ratio.__init__" (defArgs s_Ratio_init) (defBody s_Ratio_init) (defScope s_Ratio_init) [.int 1] [] (He.ma K (He.ga K "Ratio") "__init__") fd_Ratio_init
  fd_Ratio_eq : FuncData
  D_Ratio_eq : FunD K "__eq__" "Ratio.__eq__" (defArgs s_Ratio_eq) (defBody s_Ratio_eq) (defScope s_Ratio_eq) [] [] (He.ma K (He.ga K "Ratio") "__eq__") fd_Ratio_eq
  fd_Expression_eq : FuncData
  D_Expression_eq : FunD K "__eq__" "Expression.__eq__" (defArgs s_Expression_eq) (defBody s_Expression_eq) (defScope s_Expression_eq) [] [] (He.ma K (He.ga K "Expression") "__eq__") fd_Expression_eq
  fd_xlaw_odd : FuncData
  D_xlaw_odd : FunD K "_law_odd" "_law_odd" (defArgs s_xlaw_odd) (defBody s_xlaw_odd) (defScope s_xlaw_odd) [] [] (He.ga K "_law_odd") fd_xlaw_odd
  g_xlaw_odd : mg "_law_odd" = some (.ref (He.ga K "_law_odd"))
  fd_xlaw_honest : FuncData
  D_xlaw_honest : FunD K "_law_honest" "_law_honest" (defArgs s_xlaw_honest) (defBody s_xlaw_honest) (defScope s_xlaw_honest) [] [] (He.ga K "_law_honest") fd_xlaw_honest
  g_xlaw_honest : mg "_law_honest" = some (.ref (He.ga K "_law_honest"))
  fd_Expression_init : FuncData
  D_Expression_init : FunD K "__init__" "Expression.__init__" (defArgs s_Expression_init) (defBody s_Expression_init) (defScope s_Expression_init) [] [] (He.ma K (He.ga K "Expression") "__init__") fd_Expression_init
  fd_is_short_word : FuncData
  D_is_short_word : FunD K "is_short_word" "is_short_word" (defArgs s_is_short_word) (defBody s_is_short_word) (defScope s_is_short_word) [] [] (He.ga K "is_short_word") fd_is_short_word
  g_is_short_word : mg "is_short_word" = some (.ref (He.ga K "is_short_word"))
  fd_letter_of : FuncData
  D_letter_of : FunD K "letter_of" "letter_of" (defArgs s_letter_of) (defBody s_letter_of) (defScope s_letter_of) [] [] (He.ga K "letter_of") fd_letter_of
  g_letter_of : mg "letter_of" = some (.ref (He.ga K "letter_of"))
  fd_Expression_star : FuncData
  D_Expression_star : FunD K "star" "Expression.star" (defArgs s_Expression_star) (defBody s_Expression_star) (defScope s_Expression_star) [] [] (He.ma K (He.ga K "Expression") "star") fd_Expression_star
  fd_Expression_reverse : FuncData
  D_Expression_reverse : FunD K "reverse" "Expression.reverse" (defArgs s_Expression_reverse) (defBody s_Expression_reverse) (defScope s_Expression_reverse) [] [] (He.ma K (He.ga K "Expression") "reverse") fd_Expression_reverse
  fd_Expression_left : FuncData
  D_Expression_left : FunD K "left" "Expression.left" (defArgs s_Expression_left) (defBody s_Expression_left) (defScope s_Expression_left) [] [] (He.ma K (He.ga K "Expression") "left") fd_Expression_left
  fd_Expression_right : FuncData
  D_Expression_right : FunD K "right" "Expression.right" (defArgs s_Expression_right) (defBody s_Expression_right) (defScope s_Expression_right) [] [] (He.ma K (He.ga K "Expression") "right") fd_Expression_right
  fd_number : FuncData
  D_number : FunD K "number" "number" (defArgs s_number) (defBody s_number) (defScope s_number) [] [] (He.ga K "number") fd_number
  g_number : mg "number" = some (.ref (He.ga K "number"))
  fd_Expression_add : FuncData
  D_Expression_add : FunD K "__add__" "Expression.__add__" (defArgs s_Expression_add) (defBody s_Expression_add) (defScope s_Expression_add) [] [] (He.ma K (He.ga K "Expression") "__add__") fd_Expression_add
  fd_Expression_mul : FuncData
  D_Expression_mul : FunD K "__mul__" "Expression.__mul__" (defArgs s_Expression_mul) (defBody s_Expression_mul) (defScope s_Expression_mul) [] [] (He.ma K (He.ga K "Expression") "__mul__") fd_Expression_mul
  fd_Expression_and : FuncData
  D_Expression_and : FunD K "__and__" "Expression.__and__" (defArgs s_Expression_and) (defBody s_Expression_and) (defScope s_Expression_and) [] [] (He.ma K (He.ga K "Expression") "__and__") fd_Expression_and
  fd_Expression_xor : FuncData
  D_Expression_xor : FunD K "__xor__" "Expression.__xor__" (defArgs s_Expression_xor) (defBody s_Expression_xor) (defScope s_Expression_xor) [] [] (He.ma K (He.ga K "Expression") "__xor__") fd_Expression_xor
  fd_xlaw_stepped : FuncData
  D_xlaw_stepped : FunD K "_law_stepped" "_law_stepped" (defArgs s_xlaw_stepped) (defBody s_xlaw_stepped) (defScope s_xlaw_stepped) [] [] (He.ga K "_law_stepped") fd_xlaw_stepped
  g_xlaw_stepped : mg "_law_stepped" = some (.ref (He.ga K "_law_stepped"))
  fd_xlaw_made : FuncData
  D_xlaw_made : FunD K "_law_made" "_law_made" (defArgs s_xlaw_made) (defBody s_xlaw_made) (defScope s_xlaw_made) [] [] (He.ga K "_law_made") fd_xlaw_made
  g_xlaw_made : mg "_law_made" = some (.ref (He.ga K "_law_made"))
  fd_xlaw_take : FuncData
  D_xlaw_take : FunD K "_law_take" "_law_take" (defArgs s_xlaw_take) (defBody s_xlaw_take) (defScope s_xlaw_take) [] [] (He.ga K "_law_take") fd_xlaw_take
  g_xlaw_take : mg "_law_take" = some (.ref (He.ga K "_law_take"))
  fd_xlaw_says : FuncData
  D_xlaw_says : FunD K "_law_says" "_law_says" (defArgs s_xlaw_says) (defBody s_xlaw_says) (defScope s_xlaw_says) [] [] (He.ga K "_law_says") fd_xlaw_says
  g_xlaw_says : mg "_law_says" = some (.ref (He.ga K "_law_says"))
  fd_xlaw_words : FuncData
  D_xlaw_words : FunD K "_law_words" "_law_words" (defArgs s_xlaw_words) (defBody s_xlaw_words) (defScope s_xlaw_words) [] [] (He.ga K "_law_words") fd_xlaw_words
  g_xlaw_words : mg "_law_words" = some (.ref (He.ga K "_law_words"))
  fd_Expression_operands : FuncData
  D_Expression_operands : FunD K "operands" "Expression.operands" (defArgs s_Expression_operands) (defBody s_Expression_operands) (defScope s_Expression_operands) [] [] (He.ma K (He.ga K "Expression") "operands") fd_Expression_operands
  fd_measures : FuncData
  D_measures : FunD K "measures" "measures" (defArgs s_measures) (defBody s_measures) (defScope s_measures) [] [] (He.ga K "measures") fd_measures
  g_measures : mg "measures" = some (.ref (He.ga K "measures"))
  fd_Expression_depth : FuncData
  D_Expression_depth : FunD K "depth" "Expression.depth" (defArgs s_Expression_depth) (defBody s_Expression_depth) (defScope s_Expression_depth) [] [] (He.ma K (He.ga K "Expression") "depth") fd_Expression_depth
  fd_Expression_count : FuncData
  D_Expression_count : FunD K "count" "Expression.count" (defArgs s_Expression_count) (defBody s_Expression_count) (defScope s_Expression_count) [] [] (He.ma K (He.ga K "Expression") "count") fd_Expression_count
  fd_Expression_used_letters : FuncData
  D_Expression_used_letters : FunD K "used_letters" "Expression.used_letters" (defArgs s_Expression_used_letters) (defBody s_Expression_used_letters) (defScope s_Expression_used_letters) [] [] (He.ma K (He.ga K "Expression") "used_letters") fd_Expression_used_letters
  fd_xlaw_letters_of : FuncData
  D_xlaw_letters_of : FunD K "_law_letters_of" "_law_letters_of" (defArgs s_xlaw_letters_of) (defBody s_xlaw_letters_of) (defScope s_xlaw_letters_of) [] [] (He.ga K "_law_letters_of") fd_xlaw_letters_of
  g_xlaw_letters_of : mg "_law_letters_of" = some (.ref (He.ga K "_law_letters_of"))
  fd_is_long : FuncData
  D_is_long : FunD K "is_long" "is_long" (defArgs s_is_long) (defBody s_is_long) (defScope s_is_long) [] [] (He.ga K "is_long") fd_is_long
  g_is_long : mg "is_long" = some (.ref (He.ga K "is_long"))
  fd_is_expression : FuncData
  D_is_expression : FunD K "is_expression" "is_expression" (defArgs s_is_expression) (defBody s_is_expression) (defScope s_is_expression) [] [] (He.ga K "is_expression") fd_is_expression
  g_is_expression : mg "is_expression" = some (.ref (He.ga K "is_expression"))
  fd_xlaw_chain_holds : FuncData
  D_xlaw_chain_holds : FunD K "_law_chain_holds" "_law_chain_holds" (defArgs s_xlaw_chain_holds) (defBody s_xlaw_chain_holds) (defScope s_xlaw_chain_holds) [] [] (He.ga K "_law_chain_holds") fd_xlaw_chain_holds
  g_xlaw_chain_holds : mg "_law_chain_holds" = some (.ref (He.ga K "_law_chain_holds"))
  fd_xlaw_wide_holds : FuncData
  D_xlaw_wide_holds : FunD K "_law_wide_holds" "_law_wide_holds" (defArgs s_xlaw_wide_holds) (defBody s_xlaw_wide_holds) (defScope s_xlaw_wide_holds) [] [] (He.ga K "_law_wide_holds") fd_xlaw_wide_holds
  g_xlaw_wide_holds : mg "_law_wide_holds" = some (.ref (He.ga K "_law_wide_holds"))
  fd_xlaw_digits_hold : FuncData
  D_xlaw_digits_hold : FunD K "_law_digits_hold" "_law_digits_hold" (defArgs s_xlaw_digits_hold) (defBody s_xlaw_digits_hold) (defScope s_xlaw_digits_hold) [] [] (He.ga K "_law_digits_hold") fd_xlaw_digits_hold
  g_xlaw_digits_hold : mg "_law_digits_hold" = some (.ref (He.ga K "_law_digits_hold"))
  fd_law : FuncData
  D_law : FunD K "law" "law" (defArgs s_law) (defBody s_law) (defScope s_law) [] [] (He.ga K "law") fd_law
  n_abs : mg "abs" = none
  n_all : mg "all" = none
  n_any : mg "any" = none
  n_bool : mg "bool" = none
  n_int : mg "int" = none
  n_isinstance : mg "isinstance" = none
  n_len : mg "len" = none
  n_list : mg "list" = none
  n_max : mg "max" = none
  n_range : mg "range" = none
  n_str : mg "str" = none
  n_sum : mg "sum" = none
  n_tuple : mg "tuple" = none
  i_MOST_COUNT : ∃ t, mg "MOST_COUNT" = some (.int 200 t)
  i_MOST_DEPTH : ∃ t, mg "MOST_DEPTH" = some (.int 40 t)
  i_MOST_WORD : ∃ t, mg "MOST_WORD" = some (.int 8 t)
  s_SMALL : ∃ t, mg "SMALL" = some (.str "abcdefghijklmnopqrstuvwxyz" t)
  g_Expression : mg "Expression" = some (.ref (He.ga K "Expression"))
  g_Ratio : mg "Ratio" = some (.ref (He.ga K "Ratio"))
  b_gcd : mg "gcd" = some (.builtin "math.gcd")
  cl_Ratio : Cls K (He.ga K "Ratio")
  cl_Expression : Cls K (He.ga K "Expression")
  me_Expression_add : Meth K (He.ga K "Expression") "__add__" (He.ma K (He.ga K "Expression") "__add__")
  me_Expression_and : Meth K (He.ga K "Expression") "__and__" (He.ma K (He.ga K "Expression") "__and__")
  me_Expression_eq : Meth K (He.ga K "Expression") "__eq__" (He.ma K (He.ga K "Expression") "__eq__")
  me_Expression_mul : Meth K (He.ga K "Expression") "__mul__" (He.ma K (He.ga K "Expression") "__mul__")
  me_Expression_xor : Meth K (He.ga K "Expression") "__xor__" (He.ma K (He.ga K "Expression") "__xor__")
  me_Expression_count : Meth K (He.ga K "Expression") "count" (He.ma K (He.ga K "Expression") "count")
  me_Expression_depth : Meth K (He.ga K "Expression") "depth" (He.ma K (He.ga K "Expression") "depth")
  me_Expression_left : Meth K (He.ga K "Expression") "left" (He.ma K (He.ga K "Expression") "left")
  me_Expression_operands : Meth K (He.ga K "Expression") "operands" (He.ma K (He.ga K "Expression") "operands")
  me_Expression_reverse : Meth K (He.ga K "Expression") "reverse" (He.ma K (He.ga K "Expression") "reverse")
  me_Expression_right : Meth K (He.ga K "Expression") "right" (He.ma K (He.ga K "Expression") "right")
  me_Expression_star : Meth K (He.ga K "Expression") "star" (He.ma K (He.ga K "Expression") "star")
  me_Expression_used_letters : Meth K (He.ga K "Expression") "used_letters" (He.ma K (He.ga K "Expression") "used_letters")
  me_Ratio_eq : Meth K (He.ga K "Ratio") "__eq__" (He.ma K (He.ga K "Ratio") "__eq__")
  mk_Expression : Mk K (He.ga K "Expression") (He.ma K (He.ga K "Expression") "__init__")
  mk_Ratio : Mk K (He.ga K "Ratio") (He.ma K (He.ga K "Ratio") "__init__")
  sf_Expression : PySem.W.selfFirst K (He.ga K "Expression") = true
  fld_d : ∀ C ∈ [(csOf K).Ratio], Cls K C ∧ NoAttr K C "d"
  fld_n : ∀ C ∈ [(csOf K).Ratio], Cls K C ∧ NoAttr K C "n"
  fld_parts : ∀ C ∈ [(csOf K).Expression], Cls K C ∧ NoAttr K C "parts"
  fld_kind : ∀ C ∈ [(csOf K).Expression], Cls K C ∧ NoAttr K C "kind"
  kit : Kit K (kit (csOf K))
  ne : (csOf K).Ratio ≠ (csOf K).Expression
section
variable {P : Program} {w : World} {K : PySem.W.Frag} {mg : Str → Option Value} {base : Heap}
theorem b_xlaw_state (T : Fc K mg) : Binds K T.fd_xlaw_state ["script"] [] := T.D_xlaw_state.bindsN fun _ _ _ _ _ _ us hl => match us, hl with | [_], _ => rfl
theorem b_Ratio_eq (T : Fc K mg) : Binds K T.fd_Ratio_eq ["self", "other"] [] := T.D_Ratio_eq.bindsN fun _ _ _ _ _ _ us hl => match us, hl with | [_, _], _ => rfl
theorem b_Expression_eq (T : Fc K mg) : Binds K T.fd_Expression_eq ["self", "other"] [] := T.D_Expression_eq.bindsN fun _ _ _ _ _ _ us hl => match us, hl with | [_, _], _ => rfl
theorem b_xlaw_odd (T : Fc K mg) : Binds K T.fd_xlaw_odd ["value"] [] := T.D_xlaw_odd.bindsN fun _ _ _ _ _ _ us hl => match us, hl with | [_], _ => rfl
theorem b_xlaw_honest (T : Fc K mg) : Binds K T.fd_xlaw_honest ["value"] [] := T.D_xlaw_honest.bindsN fun _ _ _ _ _ _ us hl => match us, hl with | [_], _ => rfl
theorem b_Expression_init (T : Fc K mg) : Binds K T.fd_Expression_init ["self", "kind", "parts"] [] := T.D_Expression_init.bindsN fun _ _ _ _ _ _ us hl => match us, hl with | [_, _, _], _ => rfl
theorem b_is_short_word (T : Fc K mg) : Binds K T.fd_is_short_word ["value"] [] := T.D_is_short_word.bindsN fun _ _ _ _ _ _ us hl => match us, hl with | [_], _ => rfl
theorem b_letter_of (T : Fc K mg) : Binds K T.fd_letter_of ["a"] [] := T.D_letter_of.bindsN fun _ _ _ _ _ _ us hl => match us, hl with | [_], _ => rfl
theorem b_Expression_star (T : Fc K mg) : Binds K T.fd_Expression_star ["self"] [] := T.D_Expression_star.bindsN fun _ _ _ _ _ _ us hl => match us, hl with | [_], _ => rfl
theorem b_Expression_reverse (T : Fc K mg) : Binds K T.fd_Expression_reverse ["self"] [] := T.D_Expression_reverse.bindsN fun _ _ _ _ _ _ us hl => match us, hl with | [_], _ => rfl
theorem b_Expression_left (T : Fc K mg) : Binds K T.fd_Expression_left ["self", "u"] [] := T.D_Expression_left.bindsN fun _ _ _ _ _ _ us hl => match us, hl with | [_, _], _ => rfl
theorem b_Expression_right (T : Fc K mg) : Binds K T.fd_Expression_right ["self", "u"] [] := T.D_Expression_right.bindsN fun _ _ _ _ _ _ us hl => match us, hl with | [_, _], _ => rfl
theorem b_number (T : Fc K mg) : Binds K T.fd_number ["q"] [] := T.D_number.bindsN fun _ _ _ _ _ _ us hl => match us, hl with | [_], _ => rfl
theorem b_Expression_add (T : Fc K mg) : Binds K T.fd_Expression_add ["self", "other"] [] := T.D_Expression_add.bindsN fun _ _ _ _ _ _ us hl => match us, hl with | [_, _], _ => rfl
theorem b_Expression_mul (T : Fc K mg) : Binds K T.fd_Expression_mul ["self", "other"] [] := T.D_Expression_mul.bindsN fun _ _ _ _ _ _ us hl => match us, hl with | [_, _], _ => rfl
theorem b_Expression_and (T : Fc K mg) : Binds K T.fd_Expression_and ["self", "other"] [] := T.D_Expression_and.bindsN fun _ _ _ _ _ _ us hl => match us, hl with | [_, _], _ => rfl
theorem b_Expression_xor (T : Fc K mg) : Binds K T.fd_Expression_xor ["self", "other"] [] := T.D_Expression_xor.bindsN fun _ _ _ _ _ _ us hl => match us, hl with | [_, _], _ => rfl
theorem b_xlaw_stepped (T : Fc K mg) : Binds K T.fd_xlaw_stepped ["e", "pick", "word", "k"] [] := T.D_xlaw_stepped.bindsN fun _ _ _ _ _ _ us hl => match us, hl with | [_, _, _, _], _ => rfl
theorem b_xlaw_made (T : Fc K mg) : Binds K T.fd_xlaw_made ["steps"] [] := T.D_xlaw_made.bindsN fun _ _ _ _ _ _ us hl => match us, hl with | [_], _ => rfl
theorem b_xlaw_take (T : Fc K mg) : Binds K T.fd_xlaw_take ["state", "m"] [] := T.D_xlaw_take.bindsN fun _ _ _ _ _ _ us hl => match us, hl with | [_, _], _ => rfl
theorem b_xlaw_says (T : Fc K mg) : Binds K T.fd_xlaw_says ["told", "due"] [] := T.D_xlaw_says.bindsN fun _ _ _ _ _ _ us hl => match us, hl with | [_, _], _ => rfl
theorem b_xlaw_words (T : Fc K mg) : Binds K T.fd_xlaw_words ["state"] [] := T.D_xlaw_words.bindsN fun _ _ _ _ _ _ us hl => match us, hl with | [_], _ => rfl
theorem b_Expression_operands (T : Fc K mg) : Binds K T.fd_Expression_operands ["self"] [] := T.D_Expression_operands.bindsN fun _ _ _ _ _ _ us hl => match us, hl with | [_], _ => rfl
theorem b_measures (T : Fc K mg) : Binds K T.fd_measures ["e"] [] := T.D_measures.bindsN fun _ _ _ _ _ _ us hl => match us, hl with | [_], _ => rfl
theorem b_Expression_depth (T : Fc K mg) : Binds K T.fd_Expression_depth ["self"] [] := T.D_Expression_depth.bindsN fun _ _ _ _ _ _ us hl => match us, hl with | [_], _ => rfl
theorem b_Expression_count (T : Fc K mg) : Binds K T.fd_Expression_count ["self"] [] := T.D_Expression_count.bindsN fun _ _ _ _ _ _ us hl => match us, hl with | [_], _ => rfl
theorem b_Expression_used_letters (T : Fc K mg) : Binds K T.fd_Expression_used_letters ["self"] [] := T.D_Expression_used_letters.bindsN fun _ _ _ _ _ _ us hl => match us, hl with | [_], _ => rfl
theorem b_xlaw_letters_of (T : Fc K mg) : Binds K T.fd_xlaw_letters_of ["steps"] [] := T.D_xlaw_letters_of.bindsN fun _ _ _ _ _ _ us hl => match us, hl with | [_], _ => rfl
theorem b_is_long (T : Fc K mg) : Binds K T.fd_is_long ["q"] [] := T.D_is_long.bindsN fun _ _ _ _ _ _ us hl => match us, hl with | [_], _ => rfl
theorem b_is_expression (T : Fc K mg) : Binds K T.fd_is_expression ["value"] [] := T.D_is_expression.bindsN fun _ _ _ _ _ _ us hl => match us, hl with | [_], _ => rfl
theorem b_xlaw_chain_holds (T : Fc K mg) : Binds K T.fd_xlaw_chain_holds ["state"] [] := T.D_xlaw_chain_holds.bindsN fun _ _ _ _ _ _ us hl => match us, hl with | [_], _ => rfl
theorem b_xlaw_wide_holds (T : Fc K mg) : Binds K T.fd_xlaw_wide_holds ["state"] [] := T.D_xlaw_wide_holds.bindsN fun _ _ _ _ _ _ us hl => match us, hl with | [_], _ => rfl
theorem b_xlaw_digits_hold (T : Fc K mg) : Binds K T.fd_xlaw_digits_hold ["state"] [] := T.D_xlaw_digits_hold.bindsN fun _ _ _ _ _ _ us hl => match us, hl with | [_], _ => rfl
theorem b_law (T : Fc K mg) : Binds K T.fd_law ["script"] [] := T.D_law.bindsN fun _ _ _ _ _ _ us hl => match us, hl with | [_], _ => rfl
theorem b_Ratio_init_2 (T : Fc K mg) : ∃ ds, Vals (([.int 1] : List V).drop 0) ds ∧ Binds K T.fd_Ratio_init ["self", "n", "d"] ds := T.D_Ratio_init.binds1 2 0 (by simp) (by rfl) fun _ _ _ _ _ _ _ us its hu hi => match us, hu, its, hi with | [_, _], _, [_], _ => ⟨_, rfl, rfl⟩
theorem b_Ratio_init_3 (T : Fc K mg) : ∃ ds, Vals (([.int 1] : List V).drop 1) ds ∧ Binds K T.fd_Ratio_init ["self", "n", "d"] ds := T.D_Ratio_init.binds1 3 1 (by simp) (by rfl) fun _ _ _ _ _ _ _ us its hu hi => match us, hu, its, hi with | [_, _, _], _, [_], _ => ⟨_, rfl, rfl⟩
set_option maxHeartbeats 40000000 in
theorem ok_xlaw_state (T : Fc K mg) : FnOk P w K mg base CX0 1 (He.ga K "_law_state") T.fd_xlaw_state ["script"] (spL K 1 false (F_xlaw_state (csOf K))) := by
  exact okL0 (k := 0) T.D_xlaw_state sc_xlaw_state rfl fun cdv A outer s H XE E hr hp => by
    have hp : ∀ p ∈ E.pin, p.1 ∈ (if false = true then [0] else [] : List Nat) := hp
    exact (show LB _ E _ _ (m_xlaw_state (csOf K)) from lb_cons (ls_set (off_of hp (by decide)) sc_xlaw_state.nd rfl (loc_of rfl) (le_int)) (lb_cons (ls_set (off_of hp (by decide)) sc_xlaw_state.nd rfl (loc_of rfl) (le_int)) (lb_cons (ls_for (mb := (fb_xlaw_state_1 (csOf K))) PassesOwn.never rfl (li_it (le_slS rfl (vis_of rfl) (lo_none) (lo_some (le_int)))) (lg_name (off_of hp (by decide)) sc_xlaw_state.nd rfl (loc_of rfl)) (lb_cons (ls_set (off_of hp (by decide)) sc_xlaw_state.nd rfl (loc_of rfl) (le_op op_add p_add (le_op op_mulX p_mul (le_var rfl (vis_of rfl)) (le_int)) (le_callBS call_abs c_abs rfl T.n_abs (by decide +kernel) rfl (vis_of rfl)))) (lb_one (ls_set (off_of hp (by decide)) sc_xlaw_state.nd rfl (loc_of rfl) (le_op op_modN p_mod (le_callT call_int1 c_int rfl T.n_int (by decide +kernel) (la_cons (le_op op_add p_add (le_op op_mulX p_mul (le_var rfl (vis_of rfl)) (le_int)) (le_var rfl (vis_of rfl))) (la_nil))) (le_int)))))) (lb_one (ls_ret (le_lst (la_cons (le_var rfl (vis_of rfl)) (la_cons (le_var rfl (vis_of rfl)) (la_nil)))))))))
set_option maxHeartbeats 40000000 in
theorem ok_Ratio_init (T : Fc K mg) : FnOk P w K mg base CX0 1 (He.ma K (He.ga K "Ratio") "__init__") T.fd_Ratio_init ["self", "n", "d"] (spL K 3 true (F_Ratio_init (csOf K))) := by
  exact okL0 (k := 0) T.D_Ratio_init sc_Ratio_init rfl fun cdv A outer s H XE E hr hp => by
    have hp : ∀ p ∈ E.pin, p.1 ∈ (if true = true then [0] else [] : List Nat) := hp
    exact (show LB _ E _ _ (m_Ratio_init (csOf K)) from lb_cons (ls_if (lt_cmp op_eq b_eq (le_var rfl (vis_of rfl)) (le_int) (nomark _)) (lb_one (ls_never)) (lb_nil)) (lb_cons (ls_set (off_of hp (by decide)) sc_Ratio_init.nd rfl (loc_of rfl) (le_if (lt_cmp op_gt b_gt (le_var rfl (vis_of rfl)) (le_int) (nomark _)) (le_callM cr_gcd c_gcd rfl T.b_gcd (la_cons (le_var rfl (vis_of rfl)) (la_cons (le_var rfl (vis_of rfl)) (la_nil)))) (le_un un_neg p_neg (le_callM cr_gcd c_gcd rfl T.b_gcd (la_cons (le_var rfl (vis_of rfl)) (la_cons (le_var rfl (vis_of rfl)) (la_nil))))))) (lb_cons (ls_fldSet T.fld_n rfl (vis_of rfl) (le_op op_divX p_div (le_var rfl (vis_of rfl)) (le_var rfl (vis_of rfl)))) (lb_one (ls_fldSet T.fld_d rfl (vis_of rfl) (le_op op_divX p_div (le_var rfl (vis_of rfl)) (le_var rfl (vis_of rfl))))))))
set_option maxHeartbeats 40000000 in
theorem ok_Ratio_eq (T : Fc K mg) : FnOk P w K mg base CX0 1 (He.ma K (He.ga K "Ratio") "__eq__") T.fd_Ratio_eq ["self", "other"] (spL K 2 false (F_Ratio_eq (csOf K))) := by
  exact okL0 (k := 0) T.D_Ratio_eq sc_Ratio_eq rfl fun cdv A outer s H XE E hr hp => by
    have hp : ∀ p ∈ E.pin, p.1 ∈ (if false = true then [0] else [] : List Nat) := hp
    exact (show LB _ E _ _ (m_Ratio_eq (csOf K)) from lb_one (ls_ret (le_and (le_callB call_isi (c_isi T.kit) rfl T.n_isinstance (by decide +kernel) (la_cons (le_var rfl (vis_of rfl)) (la_cons (le_gref rfl T.g_Ratio) (la_nil)))) (le_and (le_cmp op_eq b_eq (le_fldS T.fld_n rfl (vis_of rfl)) (le_fldS T.fld_n rfl (vis_of rfl)) (nomark _)) (le_one (le_cmp op_eq b_eq (le_fldS T.fld_d rfl (vis_of rfl)) (le_fldS T.fld_d rfl (vis_of rfl)) (nomark _)))))))
theorem eqP (T : Fc K mg) {k : Nat} {F : List O → RF} {X : Cx} (hP : X.prog = P) (hw : X.w = w) (hK : X.K = K) (hmg : X.mg = mg) (hb : X.base = base)
    (ih : FnOk P w K mg base CX0 (k + 1) (He.ma K (He.ga K "Expression") "__eq__") T.fd_Expression_eq ["self", "other"] (spL K 2 false F)) (hF : F_Expression_eq (csOf K) k = F) (hr : RoomX (k + 1) X.A) :
    OpR X (compareOp .Eq) (fun x y H Q => rEq x y H Q ∨ rEqX X.K (psiP (csOf K) F) x y H Q) := by
  subst hP hw hK hmg hb
  have h1 : EqS X (k + 1) 0 (owD (csOf X.K).Expression (nfD (kit (csOf X.K)) (csOf X.K).Expression) F) := eqS_ow (XE := fun _ _ _ => False) T.kit ih T.me_Expression_eq.at_ T.me_Expression_eq.fn (b_Expression_eq T) pass0
  have h2 : EqS X (k + 1) 0 (owD (csOf X.K).Ratio (nfD (kit (csOf X.K)) (csOf X.K).Ratio) (F_Ratio_eq (csOf X.K))) := (eqS_ow (XE := fun _ _ _ => False) T.kit (ok_Ratio_eq T) T.me_Ratio_eq.at_ T.me_Ratio_eq.fn (b_Ratio_eq T) pass0).mono (by omega) (Nat.le_refl _)
  have h3 := eqB_el (eqS_or h1 h2) (rfl_or (by rw [← hF]; exact rfl_Expression _ k) (rfl_Ratio _)) (rfd_or rfd_ow rfd_ow)
  exact op_eqA (eqS_tup h3) ((subX_of hr).mono (Nat.le_refl _) (by omega))

set_option maxHeartbeats 40000000 in
theorem ok_Expression_eq (T : Fc K mg) : ∀ k, FnOk P w K mg base CX0 (k + 1) (He.ma K (He.ga K "Expression") "__eq__") T.fd_Expression_eq ["self", "other"] (spL K 2 false (F_Expression_eq (csOf K) k))
  | 0 => ok_no
  | k + 1 => by
    have ih := ok_Expression_eq T k
    generalize hF : F_Expression_eq (csOf K) k = F at ih
    have e : F_Expression_eq (csOf K) (k + 1) = runD 2 false (m_Expression_eq (csOf K) F) := by rw [← hF]; rfl
    rw [e, Nat.add_right_comm]
    exact okL0 T.D_Expression_eq sc_Expression_eq rfl fun cdv A outer s H XE E hr hp => by
      have hp : ∀ p ∈ E.pin, p.1 ∈ (if false = true then [0] else [] : List Nat) := hp
      exact (show LB _ E _ _ (m_Expression_eq (csOf K) F) from lb_one (ls_ret (le_and (le_callB call_isi (c_isi T.kit) rfl T.n_isinstance (by decide +kernel) (la_cons (le_var rfl (vis_of rfl)) (la_cons (le_gref rfl T.g_Expression) (la_nil)))) (le_and (le_cmp op_eq b_eq (le_fldS T.fld_kind rfl (vis_of rfl)) (le_fldS T.fld_kind rfl (vis_of rfl)) (nomark _)) (le_one (le_cmpG (eqP T rfl rfl rfl rfl rfl ih hF hr) g_eqA (le_fldS T.fld_parts rfl (vis_of rfl)) (le_fldS T.fld_parts rfl (vis_of rfl)) (nomark _)))))))
theorem eqE (T : Fc K mg) {k : Nat} {X : Cx} (hP : X.prog = P) (hw : X.w = w) (hK : X.K = K) (hmg : X.mg = mg) (hb : X.base = base) (hr : RoomX k X.A) (hk : 203 ≤ k) :
    OpR X (compareOp .Eq) (fun x y H Q => rEq x y H Q ∨ rEqX X.K (psiE (csOf K)) x y H Q) := by
  subst hP hw hK hmg hb
  have h1 : EqS X 203 0 (psiE (csOf X.K)) := eqS_ow (XE := fun _ _ _ => False) T.kit (ok_Expression_eq T 202) T.me_Expression_eq.at_ T.me_Expression_eq.fn (b_Expression_eq T) pass0
  exact op_eqA h1 ((subX_of hr).mono hk (by omega))
theorem eqO (T : Fc K mg) {k : Nat} {X : Cx} (hP : X.prog = P) (hw : X.w = w) (hK : X.K = K) (hmg : X.mg = mg) (hb : X.base = base) (hr : RoomX k X.A) (hk : 2 ≤ k) :
    OpR X (compareOp .Eq) (fun x y H Q => rEq x y H Q ∨ rEqX X.K (psiO (csOf K)) x y H Q) := by
  subst hP hw hK hmg hb
  have h1 : EqS X 2 0 (psiO (csOf X.K)) := eqS_ow (XE := fun _ _ _ => False) T.kit (ok_Expression_eq T 1) T.me_Expression_eq.at_ T.me_Expression_eq.fn (b_Expression_eq T) pass0
  exact op_eqA h1 ((subX_of hr).mono hk (by omega))

set_option maxHeartbeats 40000000 in
theorem ok_xlaw_odd (T : Fc K mg) : ∀ k, FnOk P w K mg base CX0 (k + 3) (He.ga K "_law_odd") T.fd_xlaw_odd ["value"] (spL K 1 false (F_xlaw_odd (csOf K) k))
  | 0 => ok_no
  | k + 1 => by
    have ih := ok_xlaw_odd T k
    generalize hF : F_xlaw_odd (csOf K) k = F at ih
    have e : F_xlaw_odd (csOf K) (k + 1) = runD 2 false (m_xlaw_odd (csOf K) F) := by rw [← hF]; rfl
    rw [e, Nat.add_right_comm]
    exact okL0 T.D_xlaw_odd sc_xlaw_odd rfl fun cdv A outer s H XE E hr hp => by
      have hp : ∀ p ∈ E.pin, p.1 ∈ (if false = true then [0] else [] : List Nat) := hp
      exact (show LB _ E _ _ (m_xlaw_odd (csOf K) F) from lb_cons (ls_if (lt_cmpG (eqO T rfl rfl rfl rfl rfl hr (by omega)) g_eqA (le_var rfl (vis_of rfl)) (le_str) (nomark _)) (lb_one (ls_ret (le_bl))) (lb_nil)) (lb_one (ls_ret (le_and (le_callB call_isiT (c_isiT T.kit) rfl T.n_isinstance (by decide +kernel) (la_cons (le_var rfl (vis_of rfl)) (la_cons (le_tup (la_cons (le_bty rfl T.n_tuple (by decide +kernel)) (la_cons (le_bty rfl T.n_list (by decide +kernel)) (la_nil)))) (la_nil)))) (le_one (le_cmp op_gt b_gt (le_callB call_len c_len rfl T.n_len (by decide +kernel) (la_cons (le_lc (mt := (ct_xlaw_odd_1 (csOf K) F)) (me := (ce_xlaw_odd_2 (csOf K) F)) [("item", 1)] rfl sc_xlaw_odd.nd (li_it (le_var rfl (vis_of rfl))) (blkOk_by (N := N_xlaw_odd) (sc := defScope s_xlaw_odd) (by decide +kernel)) (fun _ _ _ _ _ => lg_name (off_of hp (by decide)) sc_xlaw_odd.nd rfl (loc_of rfl)) (fun _ _ _ _ _ => lts_one (lt_tru (le_call ih (hr.r.mono (by omega)) rfl T.g_xlaw_odd T.D_xlaw_odd.kp (b_xlaw_odd T) .nil dfl_nil pat0 (la_cons (le_var rfl (vis_of rfl)) (la_nil))))) (fun _ _ _ _ _ => le_var rfl (vis_of rfl)) (by decide) (off_all (fun i hi => off_of hp hi) (by decide))) (la_nil))) (le_int) (nomark _)))))))
set_option maxHeartbeats 40000000 in
theorem ok_xlaw_honest (T : Fc K mg) : FnOk P w K mg base CX0 6 (He.ga K "_law_honest") T.fd_xlaw_honest ["value"] (spL K 1 false (F_xlaw_honest (csOf K))) := by
  exact okL0 (k := 5) T.D_xlaw_honest sc_xlaw_honest rfl fun cdv A outer s H XE E hr hp => by
    have hp : ∀ p ∈ E.pin, p.1 ∈ (if false = true then [0] else [] : List Nat) := hp
    exact (show LB _ E _ _ (m_xlaw_honest (csOf K)) from lb_one (ls_ret (le_if (lt_tru (le_call (ok_xlaw_odd T 2) (hr.r.mono (by decide)) rfl T.g_xlaw_odd T.D_xlaw_odd.kp (b_xlaw_odd T) .nil dfl_nil pat0 (la_cons (le_var rfl (vis_of rfl)) (la_nil)))) (le_str) (le_mov rfl (vis_of rfl)))))
set_option maxHeartbeats 40000000 in
theorem ok_Expression_init (T : Fc K mg) : FnOk P w K mg base CX0 1 (He.ma K (He.ga K "Expression") "__init__") T.fd_Expression_init ["self", "kind", "parts"] (spL K 3 true (F_Expression_init (csOf K))) := by
  exact okL0 (k := 0) T.D_Expression_init sc_Expression_init rfl fun cdv A outer s H XE E hr hp => by
    have hp : ∀ p ∈ E.pin, p.1 ∈ (if true = true then [0] else [] : List Nat) := hp
    exact (show LB _ E _ _ (m_Expression_init (csOf K)) from lb_cons (ls_fldSet T.fld_kind rfl (vis_of rfl) (le_var rfl (vis_of rfl))) (lb_one (ls_fldSet T.fld_parts rfl (vis_of rfl) (le_var rfl (vis_of rfl)))))
set_option maxHeartbeats 40000000 in
theorem ok_is_short_word (T : Fc K mg) : FnOk P w K mg base CX0 1 (He.ga K "is_short_word") T.fd_is_short_word ["value"] (spL K 1 false (F_is_short_word (csOf K))) := by
  exact okL0 (k := 0) T.D_is_short_word sc_is_short_word rfl fun cdv A outer s H XE E hr hp => by
    have hp : ∀ p ∈ E.pin, p.1 ∈ (if false = true then [0] else [] : List Nat) := hp
    exact (show LB _ E _ _ (m_is_short_word (csOf K)) from lb_cons (ls_if (lt_w (lw_or (lt_not (lt_tru (le_callB call_isi (c_isi T.kit) rfl T.n_isinstance (by decide +kernel) (la_cons (le_var rfl (vis_of rfl)) (la_cons (le_bty rfl T.n_str (by decide +kernel)) (la_nil)))))) (lw_or (lt_cmp op_lt b_lt (le_callBS call_len c_len rfl T.n_len (by decide +kernel) rfl (vis_of rfl)) (le_int) (nomark _)) (lw_or1 (lt_cmp op_gt b_gt (le_callBS call_len c_len rfl T.n_len (by decide +kernel) rfl (vis_of rfl)) (le_gint rfl T.i_MOST_WORD) (nomark _)))))) (lb_one (ls_ret (le_bl))) (lb_nil)) (lb_one (ls_ret (le_callB (cr_all rfl) c_all rfl T.n_all (by decide +kernel) (la_cons (le_lc (mt := dYes) (me := (ce_is_short_word_2 (csOf K))) [("mark", 1)] rfl sc_is_short_word.nd (li_it (le_var rfl (vis_of rfl))) (blkOk_by (N := N_is_short_word) (sc := defScope s_is_short_word) (by decide +kernel)) (fun _ _ _ _ _ => lg_name (off_of hp (by decide)) sc_is_short_word.nd rfl (loc_of rfl)) (fun _ _ _ _ _ => lts_nil) (fun _ _ _ _ _ => le_cmp op_inA b_in (le_var rfl (vis_of rfl)) (le_gstr rfl T.s_SMALL) rfl) (by decide) (off_all (fun i hi => off_of hp hi) (by decide))) (la_nil))))))
set_option maxHeartbeats 40000000 in
theorem ok_letter_of (T : Fc K mg) : FnOk P w K mg base CX0 3 (He.ga K "letter_of") T.fd_letter_of ["a"] (spL K 1 false (F_letter_of (csOf K))) := by
  exact okL0 (k := 2) T.D_letter_of sc_letter_of rfl fun cdv A outer s H XE E hr hp => by
    have hp : ∀ p ∈ E.pin, p.1 ∈ (if false = true then [0] else [] : List Nat) := hp
    exact (show LB _ E _ _ (m_letter_of (csOf K)) from lb_cons (ls_if (lt_w (lw_or (lt_not (lt_tru (le_call (ok_is_short_word T) (hr.r.mono (by decide)) rfl T.g_is_short_word T.D_is_short_word.kp (b_is_short_word T) .nil dfl_nil pat0 (la_cons (le_var rfl (vis_of rfl)) (la_nil))))) (lw_or1 (lt_cmp op_ne b_ne (le_callBS call_len c_len rfl T.n_len (by decide +kernel) rfl (vis_of rfl)) (le_int) (nomark _))))) (lb_one (ls_never)) (lb_nil)) (lb_one (ls_ret (le_make T.mk_Expression (ok_Expression_init T) (hr.r.mono (by decide)) rfl T.g_Expression (b_Expression_init T) .nil dfl_nil pat0 (la_cons (le_str) (la_cons (le_tup (la_cons (le_var rfl (vis_of rfl)) (la_nil))) (la_nil)))))))
set_option maxHeartbeats 40000000 in
theorem ok_Expression_star (T : Fc K mg) : FnOk P w K mg base CX0 3 (He.ma K (He.ga K "Expression") "star") T.fd_Expression_star ["self"] (spL K 1 false (F_Expression_star (csOf K))) := by
  exact okL0 (k := 2) T.D_Expression_star sc_Expression_star rfl fun cdv A outer s H XE E hr hp => by
    have hp : ∀ p ∈ E.pin, p.1 ∈ (if false = true then [0] else [] : List Nat) := hp
    exact (show LB _ E _ _ (m_Expression_star (csOf K)) from lb_one (ls_ret (le_make T.mk_Expression (ok_Expression_init T) (hr.r.mono (by decide)) rfl T.g_Expression (b_Expression_init T) .nil dfl_nil pat0 (la_cons (le_str) (la_cons (le_tup (la_cons (le_var rfl (vis_of rfl)) (la_nil))) (la_nil))))))
set_option maxHeartbeats 40000000 in
theorem ok_Expression_reverse (T : Fc K mg) : FnOk P w K mg base CX0 3 (He.ma K (He.ga K "Expression") "reverse") T.fd_Expression_reverse ["self"] (spL K 1 false (F_Expression_reverse (csOf K))) := by
  exact okL0 (k := 2) T.D_Expression_reverse sc_Expression_reverse rfl fun cdv A outer s H XE E hr hp => by
    have hp : ∀ p ∈ E.pin, p.1 ∈ (if false = true then [0] else [] : List Nat) := hp
    exact (show LB _ E _ _ (m_Expression_reverse (csOf K)) from lb_one (ls_ret (le_make T.mk_Expression (ok_Expression_init T) (hr.r.mono (by decide)) rfl T.g_Expression (b_Expression_init T) .nil dfl_nil pat0 (la_cons (le_str) (la_cons (le_tup (la_cons (le_var rfl (vis_of rfl)) (la_nil))) (la_nil))))))
set_option maxHeartbeats 40000000 in
theorem ok_Expression_left (T : Fc K mg) : FnOk P w K mg base CX0 3 (He.ma K (He.ga K "Expression") "left") T.fd_Expression_left ["self", "u"] (spL K 2 false (F_Expression_left (csOf K))) := by
  exact okL0 (k := 2) T.D_Expression_left sc_Expression_left rfl fun cdv A outer s H XE E hr hp => by
    have hp : ∀ p ∈ E.pin, p.1 ∈ (if false = true then [0] else [] : List Nat) := hp
    exact (show LB _ E _ _ (m_Expression_left (csOf K)) from lb_cons (ls_if (lt_not (lt_tru (le_call (ok_is_short_word T) (hr.r.mono (by decide)) rfl T.g_is_short_word T.D_is_short_word.kp (b_is_short_word T) .nil dfl_nil pat0 (la_cons (le_var rfl (vis_of rfl)) (la_nil))))) (lb_one (ls_never)) (lb_nil)) (lb_one (ls_ret (le_make T.mk_Expression (ok_Expression_init T) (hr.r.mono (by decide)) rfl T.g_Expression (b_Expression_init T) .nil dfl_nil pat0 (la_cons (le_str) (la_cons (le_tup (la_cons (le_var rfl (vis_of rfl)) (la_cons (le_var rfl (vis_of rfl)) (la_nil)))) (la_nil)))))))
set_option maxHeartbeats 40000000 in
theorem ok_Expression_right (T : Fc K mg) : FnOk P w K mg base CX0 3 (He.ma K (He.ga K "Expression") "right") T.fd_Expression_right ["self", "u"] (spL K 2 false (F_Expression_right (csOf K))) := by
  exact okL0 (k := 2) T.D_Expression_right sc_Expression_right rfl fun cdv A outer s H XE E hr hp => by
    have hp : ∀ p ∈ E.pin, p.1 ∈ (if false = true then [0] else [] : List Nat) := hp
    exact (show LB _ E _ _ (m_Expression_right (csOf K)) from lb_cons (ls_if (lt_not (lt_tru (le_call (ok_is_short_word T) (hr.r.mono (by decide)) rfl T.g_is_short_word T.D_is_short_word.kp (b_is_short_word T) .nil dfl_nil pat0 (la_cons (le_var rfl (vis_of rfl)) (la_nil))))) (lb_one (ls_never)) (lb_nil)) (lb_one (ls_ret (le_make T.mk_Expression (ok_Expression_init T) (hr.r.mono (by decide)) rfl T.g_Expression (b_Expression_init T) .nil dfl_nil pat0 (la_cons (le_str) (la_cons (le_tup (la_cons (le_var rfl (vis_of rfl)) (la_cons (le_var rfl (vis_of rfl)) (la_nil)))) (la_nil)))))))
set_option maxHeartbeats 40000000 in
theorem ok_number (T : Fc K mg) : FnOk P w K mg base CX0 3 (He.ga K "number") T.fd_number ["q"] (spL K 1 false (F_number (csOf K))) := by
  obtain ⟨ds_Ratio_init_2, hv_Ratio_init_2, hb_Ratio_init_2⟩ := b_Ratio_init_2 T
  exact okL0 (k := 2) T.D_number sc_number rfl fun cdv A outer s H XE E hr hp => by
    have hp : ∀ p ∈ E.pin, p.1 ∈ (if false = true then [0] else [] : List Nat) := hp
    exact (show LB _ E _ _ (m_number (csOf K)) from lb_cons (ls_if (lt_tru (le_callB call_isi (c_isi T.kit) rfl T.n_isinstance (by decide +kernel) (la_cons (le_var rfl (vis_of rfl)) (la_cons (le_gref rfl T.g_Ratio) (la_nil))))) (lb_one (ls_ret (le_make T.mk_Expression (ok_Expression_init T) (hr.r.mono (by decide)) rfl T.g_Expression (b_Expression_init T) .nil dfl_nil pat0 (la_cons (le_str) (la_cons (le_tup (la_cons (le_var rfl (vis_of rfl)) (la_nil))) (la_nil)))))) (lb_nil)) (lb_one (ls_ret (le_make T.mk_Expression (ok_Expression_init T) (hr.r.mono (by decide)) rfl T.g_Expression (b_Expression_init T) .nil dfl_nil pat0 (la_cons (le_str) (la_cons (le_tup (la_cons (le_make T.mk_Ratio (ok_Ratio_init T) (hr.r.mono (by decide)) rfl T.g_Ratio hb_Ratio_init_2 hv_Ratio_init_2 (fun _ => (.cons .int .nil)) pat0 (la_cons (le_var rfl (vis_of rfl)) (la_nil))) (la_nil))) (la_nil)))))))
set_option maxHeartbeats 40000000 in
theorem ok_Expression_add (T : Fc K mg) : FnOk P w K mg base CX0 3 (He.ma K (He.ga K "Expression") "__add__") T.fd_Expression_add ["self", "other"] (spL K 2 false (F_Expression_add (csOf K))) := by
  exact okL0 (k := 2) T.D_Expression_add sc_Expression_add rfl fun cdv A outer s H XE E hr hp => by
    have hp : ∀ p ∈ E.pin, p.1 ∈ (if false = true then [0] else [] : List Nat) := hp
    exact (show LB _ E _ _ (m_Expression_add (csOf K)) from lb_one (ls_ret (le_make T.mk_Expression (ok_Expression_init T) (hr.r.mono (by decide)) rfl T.g_Expression (b_Expression_init T) .nil dfl_nil pat0 (la_cons (le_str) (la_cons (le_tup (la_cons (le_var rfl (vis_of rfl)) (la_cons (le_var rfl (vis_of rfl)) (la_nil)))) (la_nil))))))
set_option maxHeartbeats 40000000 in
theorem ok_Expression_mul (T : Fc K mg) : FnOk P w K mg base CX0 3 (He.ma K (He.ga K "Expression") "__mul__") T.fd_Expression_mul ["self", "other"] (spL K 2 false (F_Expression_mul (csOf K))) := by
  exact okL0 (k := 2) T.D_Expression_mul sc_Expression_mul rfl fun cdv A outer s H XE E hr hp => by
    have hp : ∀ p ∈ E.pin, p.1 ∈ (if false = true then [0] else [] : List Nat) := hp
    exact (show LB _ E _ _ (m_Expression_mul (csOf K)) from lb_one (ls_ret (le_make T.mk_Expression (ok_Expression_init T) (hr.r.mono (by decide)) rfl T.g_Expression (b_Expression_init T) .nil dfl_nil pat0 (la_cons (le_str) (la_cons (le_tup (la_cons (le_var rfl (vis_of rfl)) (la_cons (le_var rfl (vis_of rfl)) (la_nil)))) (la_nil))))))
set_option maxHeartbeats 40000000 in
theorem ok_Expression_and (T : Fc K mg) : FnOk P w K mg base CX0 3 (He.ma K (He.ga K "Expression") "__and__") T.fd_Expression_and ["self", "other"] (spL K 2 false (F_Expression_and (csOf K))) := by
  exact okL0 (k := 2) T.D_Expression_and sc_Expression_and rfl fun cdv A outer s H XE E hr hp => by
    have hp : ∀ p ∈ E.pin, p.1 ∈ (if false = true then [0] else [] : List Nat) := hp
    exact (show LB _ E _ _ (m_Expression_and (csOf K)) from lb_one (ls_ret (le_make T.mk_Expression (ok_Expression_init T) (hr.r.mono (by decide)) rfl T.g_Expression (b_Expression_init T) .nil dfl_nil pat0 (la_cons (le_str) (la_cons (le_tup (la_cons (le_var rfl (vis_of rfl)) (la_cons (le_var rfl (vis_of rfl)) (la_nil)))) (la_nil))))))
set_option maxHeartbeats 40000000 in
theorem ok_Expression_xor (T : Fc K mg) : FnOk P w K mg base CX0 3 (He.ma K (He.ga K "Expression") "__xor__") T.fd_Expression_xor ["self", "other"] (spL K 2 false (F_Expression_xor (csOf K))) := by
  exact okL0 (k := 2) T.D_Expression_xor sc_Expression_xor rfl fun cdv A outer s H XE E hr hp => by
    have hp : ∀ p ∈ E.pin, p.1 ∈ (if false = true then [0] else [] : List Nat) := hp
    exact (show LB _ E _ _ (m_Expression_xor (csOf K)) from lb_one (ls_ret (le_make T.mk_Expression (ok_Expression_init T) (hr.r.mono (by decide)) rfl T.g_Expression (b_Expression_init T) .nil dfl_nil pat0 (la_cons (le_str) (la_cons (le_tup (la_cons (le_var rfl (vis_of rfl)) (la_cons (le_var rfl (vis_of rfl)) (la_nil)))) (la_nil))))))
set_option maxHeartbeats 40000000 in
theorem ok_xlaw_stepped (T : Fc K mg) : FnOk P w K mg base CX0 7 (He.ga K "_law_stepped") T.fd_xlaw_stepped ["e", "pick", "word", "k"] (spL K 4 false (F_xlaw_stepped (csOf K))) := by
  obtain ⟨ds_Ratio_init_3, hv_Ratio_init_3, hb_Ratio_init_3⟩ := b_Ratio_init_3 T
  exact okL0 (k := 6) T.D_xlaw_stepped sc_xlaw_stepped rfl fun cdv A outer s H XE E hr hp => by
    have hp : ∀ p ∈ E.pin, p.1 ∈ (if false = true then [0] else [] : List Nat) := hp
    exact (show LB _ E _ _ (m_xlaw_stepped (csOf K)) from lb_cons (ls_set (off_of hp (by decide)) sc_xlaw_stepped.nd rfl (loc_of rfl) (le_call (ok_xlaw_honest T) (hr.r.mono (by decide)) rfl T.g_xlaw_honest T.D_xlaw_honest.kp (b_xlaw_honest T) .nil dfl_nil pat0 (la_cons (le_call (ok_letter_of T) (hr.r.mono (by decide)) rfl T.g_letter_of T.D_letter_of.kp (b_letter_of T) .nil dfl_nil pat0 (la_cons (le_ixS rfl (vis_of rfl) (le_int) (fun _ _ => rfl)) (la_nil))) (la_nil)))) (lb_cons (ls_if (lt_cmp op_eq b_eq (le_var rfl (vis_of rfl)) (le_int) (nomark _)) (lb_one (ls_ret (le_meth0 T.cl_Expression T.me_Expression_star (ok_Expression_star T) (hr.r.mono (by decide)) (b_Expression_star T) .nil dfl_nil pat0 (le_var rfl (vis_of rfl))))) (lb_nil)) (lb_cons (ls_if (lt_cmp op_eq b_eq (le_var rfl (vis_of rfl)) (le_int) (nomark _)) (lb_one (ls_ret (le_meth0 T.cl_Expression T.me_Expression_reverse (ok_Expression_reverse T) (hr.r.mono (by decide)) (b_Expression_reverse T) .nil dfl_nil pat0 (le_var rfl (vis_of rfl))))) (lb_nil)) (lb_cons (ls_if (lt_cmp op_eq b_eq (le_var rfl (vis_of rfl)) (le_int) (nomark _)) (lb_one (ls_ret (le_meth T.cl_Expression T.me_Expression_left (ok_Expression_left T) (hr.r.mono (by decide)) (b_Expression_left T) .nil dfl_nil pat0 (le_var rfl (vis_of rfl)) (la_cons (le_var rfl (vis_of rfl)) (la_nil))))) (lb_nil)) (lb_cons (ls_if (lt_cmp op_eq b_eq (le_var rfl (vis_of rfl)) (le_int) (nomark _)) (lb_one (ls_ret (le_meth T.cl_Expression T.me_Expression_right (ok_Expression_right T) (hr.r.mono (by decide)) (b_Expression_right T) .nil dfl_nil pat0 (le_var rfl (vis_of rfl)) (la_cons (le_var rfl (vis_of rfl)) (la_nil))))) (lb_nil)) (lb_cons (ls_if (lt_cmp op_eq b_eq (le_var rfl (vis_of rfl)) (le_int) (nomark _)) (lb_one (ls_ret (le_opF (id := "__add__") (ok_Expression_add T) (hr.r.mono (by decide)) (b_Expression_add T) pat0 T.sf_Expression (by decide +kernel) T.me_Expression_add.at_ T.me_Expression_add.fn (le_var rfl (vis_of rfl)) (le_var rfl (vis_of rfl))))) (lb_nil)) (lb_cons (ls_if (lt_cmp op_eq b_eq (le_var rfl (vis_of rfl)) (le_int) (nomark _)) (lb_one (ls_ret (le_opF (id := "__mul__") (ok_Expression_mul T) (hr.r.mono (by decide)) (b_Expression_mul T) pat0 T.sf_Expression (by decide +kernel) T.me_Expression_mul.at_ T.me_Expression_mul.fn (le_call (ok_xlaw_honest T) (hr.r.mono (by decide)) rfl T.g_xlaw_honest T.D_xlaw_honest.kp (b_xlaw_honest T) .nil dfl_nil pat0 (la_cons (le_call (ok_number T) (hr.r.mono (by decide)) rfl T.g_number T.D_number.kp (b_number T) .nil dfl_nil pat0 (la_cons (le_make T.mk_Ratio (ok_Ratio_init T) (hr.r.mono (by decide)) rfl T.g_Ratio hb_Ratio_init_3 hv_Ratio_init_3 (fun _ => .nil) pat0 (la_cons (le_var rfl (vis_of rfl)) (la_cons (le_int) (la_nil)))) (la_nil))) (la_nil))) (le_var rfl (vis_of rfl))))) (lb_nil)) (lb_cons (ls_if (lt_cmp op_eq b_eq (le_var rfl (vis_of rfl)) (le_int) (nomark _)) (lb_one (ls_ret (le_opF (id := "__and__") (ok_Expression_and T) (hr.r.mono (by decide)) (b_Expression_and T) pat0 T.sf_Expression (by decide +kernel) T.me_Expression_and.at_ T.me_Expression_and.fn (le_var rfl (vis_of rfl)) (le_var rfl (vis_of rfl))))) (lb_nil)) (lb_one (ls_ret (le_opF (id := "__xor__") (ok_Expression_xor T) (hr.r.mono (by decide)) (b_Expression_xor T) pat0 T.sf_Expression (by decide +kernel) T.me_Expression_xor.at_ T.me_Expression_xor.fn (le_var rfl (vis_of rfl)) (le_var rfl (vis_of rfl)))))))))))))
set_option maxHeartbeats 40000000 in
theorem ok_xlaw_made (T : Fc K mg) : FnOk P w K mg base CX0 8 (He.ga K "_law_made") T.fd_xlaw_made ["steps"] (spL K 1 false (F_xlaw_made (csOf K))) := by
  exact okL0 (k := 7) T.D_xlaw_made sc_xlaw_made rfl fun cdv A outer s H XE E hr hp => by
    have hp : ∀ p ∈ E.pin, p.1 ∈ (if false = true then [0] else [] : List Nat) := hp
    exact (show LB _ E _ _ (m_xlaw_made (csOf K)) from lb_cons (ls_set (off_of hp (by decide)) sc_xlaw_made.nd rfl (loc_of rfl) (le_call (ok_xlaw_honest T) (hr.r.mono (by decide)) rfl T.g_xlaw_honest T.D_xlaw_honest.kp (b_xlaw_honest T) .nil dfl_nil pat0 (la_cons (le_call (ok_letter_of T) (hr.r.mono (by decide)) rfl T.g_letter_of T.D_letter_of.kp (b_letter_of T) .nil dfl_nil pat0 (la_cons (le_str) (la_nil))) (la_nil)))) (lb_cons (ls_for (mb := (fb_xlaw_made_1 (csOf K))) PassesOwn.never rfl (li_it (le_var rfl (vis_of rfl))) (lg_tup rfl (lgs_cons (lg_name (off_of hp (by decide)) sc_xlaw_made.nd rfl (loc_of rfl)) (lgs_cons (lg_name (off_of hp (by decide)) sc_xlaw_made.nd rfl (loc_of rfl)) (lgs_cons (lg_name (off_of hp (by decide)) sc_xlaw_made.nd rfl (loc_of rfl)) (lgs_nil))))) (lb_one (ls_set (off_of hp (by decide)) sc_xlaw_made.nd rfl (loc_of rfl) (le_call (ok_xlaw_stepped T) (hr.r.mono (by decide)) rfl T.g_xlaw_stepped T.D_xlaw_stepped.kp (b_xlaw_stepped T) .nil dfl_nil pat0 (la_cons (le_var rfl (vis_of rfl)) (la_cons (le_var rfl (vis_of rfl)) (la_cons (le_var rfl (vis_of rfl)) (la_cons (le_var rfl (vis_of rfl)) (la_nil))))))))) (lb_one (ls_ret (le_mov rfl (vis_of rfl))))))
set_option maxHeartbeats 40000000 in
theorem ok_xlaw_take (T : Fc K mg) : FnOk P w K mg base CX0 1 (He.ga K "_law_take") T.fd_xlaw_take ["state", "m"] (spL K 2 true (F_xlaw_take (csOf K))) := by
  exact okL0 (k := 0) T.D_xlaw_take sc_xlaw_take rfl fun cdv A outer s H XE E hr hp => by
    have hp : ∀ p ∈ E.pin, p.1 ∈ (if true = true then [0] else [] : List Nat) := hp
    exact (show LB _ E _ _ (m_xlaw_take (csOf K)) from lb_cons (ls_if (lt_cmp op_gt b_gt (le_ixS rfl (vis_of rfl) (le_int) (fun _ _ => rfl)) (le_int) (nomark _)) (lb_cons (ls_set (off_of hp (by decide)) sc_xlaw_take.nd rfl (loc_of rfl) (le_op op_modN p_mod (le_callT call_int1 c_int rfl T.n_int (by decide +kernel) (la_cons (le_ixS rfl (vis_of rfl) (le_int) (fun _ _ => rfl)) (la_nil))) (le_var rfl (vis_of rfl)))) (lb_cons (ls_setIx (le_op op_divX p_div (le_ixS rfl (vis_of rfl) (le_int) (fun _ _ => rfl)) (le_var rfl (vis_of rfl))) rfl (vis_of rfl) (le_int)) (lb_one (ls_ret (le_mov rfl (vis_of rfl)))))) (lb_nil)) (lb_cons (ls_setIx (le_op op_modN p_mod (le_callT call_int1 c_int rfl T.n_int (by decide +kernel) (la_cons (le_op op_add p_add (le_op op_mulX p_mul (le_ixS rfl (vis_of rfl) (le_int) (fun _ _ => rfl)) (le_int)) (le_int)) (la_nil))) (le_int)) rfl (vis_of rfl) (le_int)) (lb_one (ls_ret (le_op op_modN p_mod (le_callT call_int1 c_int rfl T.n_int (by decide +kernel) (la_cons (le_op op_divX p_div (le_ixS rfl (vis_of rfl) (le_int) (fun _ _ => rfl)) (le_int)) (la_nil))) (le_var rfl (vis_of rfl)))))))
set_option maxHeartbeats 40000000 in
theorem ok_xlaw_says (T : Fc K mg) : FnOk P w K mg base CX0 1 (He.ga K "_law_says") T.fd_xlaw_says ["told", "due"] (spL K 2 false (F_xlaw_says (csOf K))) := by
  exact okL0 (k := 0) T.D_xlaw_says sc_xlaw_says rfl fun cdv A outer s H XE E hr hp => by
    have hp : ∀ p ∈ E.pin, p.1 ∈ (if false = true then [0] else [] : List Nat) := hp
    exact (show LB _ E _ _ (m_xlaw_says (csOf K)) from lb_one (ls_ret (le_and (le_callB call_isi (c_isi T.kit) rfl T.n_isinstance (by decide +kernel) (la_cons (le_var rfl (vis_of rfl)) (la_cons (le_bty rfl T.n_bool (by decide +kernel)) (la_nil)))) (le_one (le_cmp op_eq b_eq (le_var rfl (vis_of rfl)) (le_var rfl (vis_of rfl)) (nomark _))))))
set_option maxHeartbeats 40000000 in
theorem ok_xlaw_words (T : Fc K mg) : FnOk P w K mg base CX0 2 (He.ga K "_law_words") T.fd_xlaw_words ["state"] (spL K 1 true (F_xlaw_words (csOf K))) := by
  exact okL0 (k := 1) T.D_xlaw_words sc_xlaw_words rfl fun cdv A outer s H XE E hr hp => by
    have hp : ∀ p ∈ E.pin, p.1 ∈ (if true = true then [0] else [] : List Nat) := hp
    exact (show LB _ E _ _ (m_xlaw_words (csOf K)) from lb_one (ls_ret (le_join (le_str) (le_lc (mt := dYes) (me := (ce_xlaw_words_2 (csOf K))) [("k", 1)] rfl sc_xlaw_words.nd (li_rng1 rfl T.n_range (la_cons (le_op op_add p_add (le_int) (le_callR (ok_xlaw_take T) (hr.r.mono (by decide)) rfl T.g_xlaw_take T.D_xlaw_take.kp (b_xlaw_take T) .nil dfl_nil pat0 rfl (vis_of rfl) (la_cons (le_int) (la_nil)))) (la_nil))) (blkOk_by (N := N_xlaw_words) (sc := defScope s_xlaw_words) (by decide +kernel)) (fun _ _ _ _ _ => lg_name (off_of hp (by decide)) sc_xlaw_words.nd rfl (loc_of rfl)) (fun _ _ _ _ _ => lts_nil) (fun _ _ _ _ _ => le_ix ix_seq p_ix (le_str) (le_callR (ok_xlaw_take T) (hr.r.mono (by decide)) rfl T.g_xlaw_take T.D_xlaw_take.kp (b_xlaw_take T) .nil dfl_nil pat0 rfl (vis_of rfl) (la_cons (le_int) (la_nil))) (fun _ _ => rfl)) (by decide) (off_all (fun i hi => off_of hp hi) (by decide))))))
set_option maxHeartbeats 40000000 in
theorem ok_Expression_operands (T : Fc K mg) : FnOk P w K mg base CX0 1 (He.ma K (He.ga K "Expression") "operands") T.fd_Expression_operands ["self"] (spL K 1 false (F_Expression_operands (csOf K))) := by
  exact okL0 (k := 0) T.D_Expression_operands sc_Expression_operands rfl fun cdv A outer s H XE E hr hp => by
    have hp : ∀ p ∈ E.pin, p.1 ∈ (if false = true then [0] else [] : List Nat) := hp
    exact (show LB _ E _ _ (m_Expression_operands (csOf K)) from lb_cons (ls_if (lt_cmp op_inA b_in (le_fldS T.fld_kind rfl (vis_of rfl)) (le_tup (la_cons (le_str) (la_cons (le_str) (la_nil)))) rfl) (lb_one (ls_ret (le_tup (la_nil)))) (lb_nil)) (lb_cons (ls_if (lt_cmp op_inA b_in (le_fldS T.fld_kind rfl (vis_of rfl)) (le_tup (la_cons (le_str) (la_cons (le_str) (la_nil)))) rfl) (lb_one (ls_ret (le_sl (le_fldS T.fld_parts rfl (vis_of rfl)) (lo_some (le_int)) (lo_none)))) (lb_nil)) (lb_one (ls_ret (le_fldS T.fld_parts rfl (vis_of rfl))))))
set_option maxHeartbeats 40000000 in
theorem ok_measures (T : Fc K mg) : FnOk P w K mg base CX0 2 (He.ga K "measures") T.fd_measures ["e"] (spL K 1 false (F_measures (csOf K))) := by
  exact okL0 (k := 1) T.D_measures sc_measures rfl fun cdv A outer s H XE E hr hp => by
    have hp : ∀ p ∈ E.pin, p.1 ∈ (if false = true then [0] else [] : List Nat) := hp
    exact (show LB _ E _ _ (m_measures (csOf K)) from lb_cons (ls_set (off_of hp (by decide)) sc_measures.nd rfl (loc_of rfl) (le_int)) (lb_cons (ls_set (off_of hp (by decide)) sc_measures.nd rfl (loc_of rfl) (le_int)) (lb_cons (ls_set (off_of hp (by decide)) sc_measures.nd rfl (loc_of rfl) (le_lst (la_cons (le_tup (la_cons (le_var rfl (vis_of rfl)) (la_cons (le_int) (la_nil)))) (la_nil)))) (lb_cons (ls_while (mc := (wc_measures_2 (csOf K))) (mb := (wb_measures_3 (csOf K))) PassesOwn.never (lt_truS rfl (vis_of rfl)) (lb_cons (ls_asg (le_mt0 PySem.F.slot_list_pop PySem.F.type_list_pop mt_pop m_pop rfl (vis_of rfl)) (lg_tup rfl (lgs_cons (lg_name (off_of hp (by decide)) sc_measures.nd rfl (loc_of rfl)) (lgs_cons (lg_name (off_of hp (by decide)) sc_measures.nd rfl (loc_of rfl)) (lgs_nil))))) (lb_cons (ls_set (off_of hp (by decide)) sc_measures.nd rfl (loc_of rfl) (le_op op_add p_add (le_var rfl (vis_of rfl)) (le_int))) (lb_cons (ls_set (off_of hp (by decide)) sc_measures.nd rfl (loc_of rfl) (le_callB (call_max2 rfl) c_max2 rfl T.n_max (by decide +kernel) (la_cons (le_var rfl (vis_of rfl)) (la_cons (le_var rfl (vis_of rfl)) (la_nil))))) (lb_one (ls_for (mb := (fb_measures_1 (csOf K))) PassesOwn.never rfl (li_it (le_meth0 T.cl_Expression T.me_Expression_operands (ok_Expression_operands T) (hr.r.mono (by decide)) (b_Expression_operands T) .nil dfl_nil pat0 (le_var rfl (vis_of rfl)))) (lg_name (off_of hp (by decide)) sc_measures.nd rfl (loc_of rfl)) (lb_one (ls_expr (le_mt PySem.F.slot_list_append PySem.F.type_list_append mt_append m_app rfl (vis_of rfl) (la_cons (le_tup (la_cons (le_var rfl (vis_of rfl)) (la_cons (le_op op_add p_add (le_var rfl (vis_of rfl)) (le_int)) (la_nil)))) (la_nil))))))))))) (lb_one (ls_ret (le_tup (la_cons (le_var rfl (vis_of rfl)) (la_cons (le_var rfl (vis_of rfl)) (la_nil))))))))))
set_option maxHeartbeats 40000000 in
theorem ok_Expression_depth (T : Fc K mg) : FnOk P w K mg base CX0 3 (He.ma K (He.ga K "Expression") "depth") T.fd_Expression_depth ["self"] (spL K 1 false (F_Expression_depth (csOf K))) := by
  exact okL0 (k := 2) T.D_Expression_depth sc_Expression_depth rfl fun cdv A outer s H XE E hr hp => by
    have hp : ∀ p ∈ E.pin, p.1 ∈ (if false = true then [0] else [] : List Nat) := hp
    exact (show LB _ E _ _ (m_Expression_depth (csOf K)) from lb_one (ls_ret (le_ix ix_seq p_ix (le_call (ok_measures T) (hr.r.mono (by decide)) rfl T.g_measures T.D_measures.kp (b_measures T) .nil dfl_nil pat0 (la_cons (le_var rfl (vis_of rfl)) (la_nil))) (le_int) (fun _ _ => rfl))))
set_option maxHeartbeats 40000000 in
theorem ok_Expression_count (T : Fc K mg) : FnOk P w K mg base CX0 3 (He.ma K (He.ga K "Expression") "count") T.fd_Expression_count ["self"] (spL K 1 false (F_Expression_count (csOf K))) := by
  exact okL0 (k := 2) T.D_Expression_count sc_Expression_count rfl fun cdv A outer s H XE E hr hp => by
    have hp : ∀ p ∈ E.pin, p.1 ∈ (if false = true then [0] else [] : List Nat) := hp
    exact (show LB _ E _ _ (m_Expression_count (csOf K)) from lb_one (ls_ret (le_ix ix_seq p_ix (le_call (ok_measures T) (hr.r.mono (by decide)) rfl T.g_measures T.D_measures.kp (b_measures T) .nil dfl_nil pat0 (la_cons (le_var rfl (vis_of rfl)) (la_nil))) (le_int) (fun _ _ => rfl))))
set_option maxHeartbeats 40000000 in
theorem ok_Expression_used_letters (T : Fc K mg) : FnOk P w K mg base CX0 2 (He.ma K (He.ga K "Expression") "used_letters") T.fd_Expression_used_letters ["self"] (spL K 1 false (F_Expression_used_letters (csOf K))) := by
  exact okL0 (k := 1) T.D_Expression_used_letters sc_Expression_used_letters rfl fun cdv A outer s H XE E hr hp => by
    have hp : ∀ p ∈ E.pin, p.1 ∈ (if false = true then [0] else [] : List Nat) := hp
    exact (show LB _ E _ _ (m_Expression_used_letters (csOf K)) from lb_cons (ls_set (off_of hp (by decide)) sc_Expression_used_letters.nd rfl (loc_of rfl) (le_lst (la_nil))) (lb_cons (ls_set (off_of hp (by decide)) sc_Expression_used_letters.nd rfl (loc_of rfl) (le_lst (la_cons (le_var rfl (vis_of rfl)) (la_nil)))) (lb_cons (ls_while (mc := (wc_Expression_used_letters_3 (csOf K))) (mb := (wb_Expression_used_letters_4 (csOf K))) PassesOwn.never (lt_truS rfl (vis_of rfl)) (lb_cons (ls_set (off_of hp (by decide)) sc_Expression_used_letters.nd rfl (loc_of rfl) (le_mt0 PySem.F.slot_list_pop PySem.F.type_list_pop mt_pop m_pop rfl (vis_of rfl))) (lb_cons (ls_if (lt_cmp op_inA b_in (le_fldS T.fld_kind rfl (vis_of rfl)) (le_tup (la_cons (le_str) (la_cons (le_str) (la_cons (le_str) (la_nil))))) rfl) (lb_one (ls_expr (le_mt PySem.F.slot_list_append PySem.F.type_list_append mt_append m_app rfl (vis_of rfl) (la_cons (le_ix ix_seq p_ix (le_fldS T.fld_parts rfl (vis_of rfl)) (le_int) (fun _ _ => rfl)) (la_nil))))) (lb_nil)) (lb_one (ls_expr (le_mt PySem.F.slot_list_extend PySem.F.type_list_extend mt_extend m_ext rfl (vis_of rfl) (la_cons (le_callT call_list_of c_list rfl T.n_list (by decide +kernel) (la_cons (le_meth0 T.cl_Expression T.me_Expression_operands (ok_Expression_operands T) (hr.r.mono (by decide)) (b_Expression_operands T) .nil dfl_nil pat0 (le_var rfl (vis_of rfl))) (la_nil))) (la_nil)))))))) (lb_cons (ls_set (off_of hp (by decide)) sc_Expression_used_letters.nd rfl (loc_of rfl) (le_join (le_str) (le_var rfl (vis_of rfl)))) (lb_one (ls_ret (le_join (le_str) (le_lc (mt := (ct_Expression_used_letters_1 (csOf K))) (me := (ce_Expression_used_letters_2 (csOf K))) [("mark", 5)] rfl sc_Expression_used_letters.nd (li_it (le_gstr rfl T.s_SMALL)) (blkOk_by (N := N_Expression_used_letters) (sc := defScope s_Expression_used_letters) (by decide +kernel)) (fun _ _ _ _ _ => lg_name (off_of hp (by decide)) sc_Expression_used_letters.nd rfl (loc_of rfl)) (fun _ _ _ _ _ => lts_one (lt_cmp op_inA b_in (le_var rfl (vis_of rfl)) (le_var rfl (vis_of rfl)) rfl)) (fun _ _ _ _ _ => le_var rfl (vis_of rfl)) (by decide) (off_all (fun i hi => off_of hp hi) (by decide))))))))))
set_option maxHeartbeats 40000000 in
theorem ok_xlaw_letters_of (T : Fc K mg) : FnOk P w K mg base CX0 1 (He.ga K "_law_letters_of") T.fd_xlaw_letters_of ["steps"] (spL K 1 false (F_xlaw_letters_of (csOf K))) := by
  exact okL0 (k := 0) T.D_xlaw_letters_of sc_xlaw_letters_of rfl fun cdv A outer s H XE E hr hp => by
    have hp : ∀ p ∈ E.pin, p.1 ∈ (if false = true then [0] else [] : List Nat) := hp
    exact (show LB _ E _ _ (m_xlaw_letters_of (csOf K)) from lb_cons (ls_set (off_of hp (by decide)) sc_xlaw_letters_of.nd rfl (loc_of rfl) (le_str)) (lb_cons (ls_for (mb := (fb_xlaw_letters_of_3 (csOf K))) PassesOwn.never rfl (li_it (le_var rfl (vis_of rfl))) (lg_tup rfl (lgs_cons (lg_name (off_of hp (by decide)) sc_xlaw_letters_of.nd rfl (loc_of rfl)) (lgs_cons (lg_name (off_of hp (by decide)) sc_xlaw_letters_of.nd rfl (loc_of rfl)) (lgs_cons (lg_name (off_of hp (by decide)) sc_xlaw_letters_of.nd rfl (loc_of rfl)) (lgs_nil))))) (lb_cons (ls_if (lt_w (lw_or (lt_cmp op_eq b_eq (le_var rfl (vis_of rfl)) (le_int) (nomark _)) (lw_or1 (lt_cmp op_eq b_eq (le_var rfl (vis_of rfl)) (le_int) (nomark _))))) (lb_one (ls_set (off_of hp (by decide)) sc_xlaw_letters_of.nd rfl (loc_of rfl) (le_op op_add_str p_addS (le_var rfl (vis_of rfl)) (le_var rfl (vis_of rfl))))) (lb_nil)) (lb_one (ls_if (lt_w (lw_or (lt_cmp op_eq b_eq (le_var rfl (vis_of rfl)) (le_int) (nomark _)) (lw_or1 (lt_cmp op_gt b_gt (le_var rfl (vis_of rfl)) (le_int) (nomark _))))) (lb_one (ls_set (off_of hp (by decide)) sc_xlaw_letters_of.nd rfl (loc_of rfl) (le_op op_add_str p_addS (le_var rfl (vis_of rfl)) (le_ixS rfl (vis_of rfl) (le_int) (fun _ _ => rfl))))) (lb_nil))))) (lb_one (ls_ret (le_join (le_str) (le_lc (mt := (ct_xlaw_letters_of_1 (csOf K))) (me := (ce_xlaw_letters_of_2 (csOf K))) [("mark", 5)] rfl sc_xlaw_letters_of.nd (li_it (le_str)) (blkOk_by (N := N_xlaw_letters_of) (sc := defScope s_xlaw_letters_of) (by decide +kernel)) (fun _ _ _ _ _ => lg_name (off_of hp (by decide)) sc_xlaw_letters_of.nd rfl (loc_of rfl)) (fun _ _ _ _ _ => lts_one (lt_cmp op_inA b_in (le_var rfl (vis_of rfl)) (le_var rfl (vis_of rfl)) rfl)) (fun _ _ _ _ _ => le_var rfl (vis_of rfl)) (by decide) (off_all (fun i hi => off_of hp hi) (by decide))))))))
set_option maxHeartbeats 40000000 in
theorem ok_is_long (T : Fc K mg) : FnOk P w K mg base CX0 1 (He.ga K "is_long") T.fd_is_long ["q"] (spL K 1 false (F_is_long (csOf K))) := by
  exact okL0 (k := 0) T.D_is_long sc_is_long rfl fun cdv A outer s H XE E hr hp => by
    have hp : ∀ p ∈ E.pin, p.1 ∈ (if false = true then [0] else [] : List Nat) := hp
    exact (show LB _ E _ _ (m_is_long (csOf K)) from lb_one (ls_ret (le_or (le_cmp op_ge b_ge (le_callB call_abs c_abs rfl T.n_abs (by decide +kernel) (la_cons (le_fldS T.fld_n rfl (vis_of rfl)) (la_nil))) (le_op op_pow p_pow (le_int) (le_int)) (nomark _)) (le_one (le_cmp op_ge b_ge (le_fldS T.fld_d rfl (vis_of rfl)) (le_op op_pow p_pow (le_int) (le_int)) (nomark _))))))
set_option maxHeartbeats 40000000 in
theorem ok_is_expression (T : Fc K mg) : FnOk P w K mg base CX0 2 (He.ga K "is_expression") T.fd_is_expression ["value"] (spL K 1 false (F_is_expression (csOf K))) := by
  exact okL0 (k := 1) T.D_is_expression sc_is_expression rfl fun cdv A outer s H XE E hr hp => by
    have hp : ∀ p ∈ E.pin, p.1 ∈ (if false = true then [0] else [] : List Nat) := hp
    exact (show LB _ E _ _ (m_is_expression (csOf K)) from lb_cons (ls_if (lt_not (lt_tru (le_callB call_isi (c_isi T.kit) rfl T.n_isinstance (by decide +kernel) (la_cons (le_var rfl (vis_of rfl)) (la_cons (le_gref rfl T.g_Expression) (la_nil)))))) (lb_one (ls_ret (le_bl))) (lb_nil)) (lb_cons (ls_set (off_of hp (by decide)) sc_is_expression.nd rfl (loc_of rfl) (le_int)) (lb_cons (ls_set (off_of hp (by decide)) sc_is_expression.nd rfl (loc_of rfl) (le_lst (la_cons (le_tup (la_cons (le_var rfl (vis_of rfl)) (la_cons (le_int) (la_nil)))) (la_nil)))) (lb_cons (ls_while (mc := (wc_is_expression_2 (csOf K))) (mb := (wb_is_expression_3 (csOf K))) PassesOwn.never (lt_truS rfl (vis_of rfl)) (lb_cons (ls_asg (le_mt0 PySem.F.slot_list_pop PySem.F.type_list_pop mt_pop m_pop rfl (vis_of rfl)) (lg_tup rfl (lgs_cons (lg_name (off_of hp (by decide)) sc_is_expression.nd rfl (loc_of rfl)) (lgs_cons (lg_name (off_of hp (by decide)) sc_is_expression.nd rfl (loc_of rfl)) (lgs_nil))))) (lb_cons (ls_set (off_of hp (by decide)) sc_is_expression.nd rfl (loc_of rfl) (le_op op_add p_add (le_var rfl (vis_of rfl)) (le_int))) (lb_cons (ls_if (lt_w (lw_or (lt_cmp op_gt b_gt (le_var rfl (vis_of rfl)) (le_gint rfl T.i_MOST_COUNT) (nomark _)) (lw_or1 (lt_cmp op_gt b_gt (le_var rfl (vis_of rfl)) (le_gint rfl T.i_MOST_DEPTH) (nomark _))))) (lb_one (ls_ret (le_bl))) (lb_nil)) (lb_cons (ls_if (lt_w (lw_and (lt_cmp op_eq b_eq (le_fldS T.fld_kind rfl (vis_of rfl)) (le_str) (nomark _)) (lw_and1 (lt_tru (le_call (ok_is_long T) (hr.r.mono (by decide)) rfl T.g_is_long T.D_is_long.kp (b_is_long T) .nil dfl_nil pat0 (la_cons (le_ix ix_seq p_ix (le_fldS T.fld_parts rfl (vis_of rfl)) (le_int) (fun _ _ => rfl)) (la_nil))))))) (lb_one (ls_ret (le_bl))) (lb_nil)) (lb_one (ls_for (mb := (fb_is_expression_1 (csOf K))) PassesOwn.never rfl (li_it (le_meth0 T.cl_Expression T.me_Expression_operands (ok_Expression_operands T) (hr.r.mono (by decide)) (b_Expression_operands T) .nil dfl_nil pat0 (le_var rfl (vis_of rfl)))) (lg_name (off_of hp (by decide)) sc_is_expression.nd rfl (loc_of rfl)) (lb_one (ls_expr (le_mt PySem.F.slot_list_append PySem.F.type_list_append mt_append m_app rfl (vis_of rfl) (la_cons (le_tup (la_cons (le_var rfl (vis_of rfl)) (la_cons (le_op op_add p_add (le_var rfl (vis_of rfl)) (le_int)) (la_nil)))) (la_nil)))))))))))) (lb_one (ls_ret (le_bl)))))))
set_option maxHeartbeats 40000000 in
theorem ok_xlaw_chain_holds (T : Fc K mg) : FnOk P w K mg base CX0 205 (He.ga K "_law_chain_holds") T.fd_xlaw_chain_holds ["state"] (spL K 1 true (F_xlaw_chain_holds (csOf K))) := by
  exact okL0 (k := 204) T.D_xlaw_chain_holds sc_xlaw_chain_holds rfl fun cdv A outer s H XE E hr hp => by
    have hp : ∀ p ∈ E.pin, p.1 ∈ (if true = true then [0] else [] : List Nat) := hp
    exact (show LB _ E _ _ (m_xlaw_chain_holds (csOf K)) from lb_cons (ls_set (off_of hp (by decide)) sc_xlaw_chain_holds.nd rfl (loc_of rfl) (le_ix ix_seq p_ix (le_lst (la_cons (le_op op_add p_add (le_int) (le_callR (ok_xlaw_take T) (hr.r.mono (by decide)) rfl T.g_xlaw_take T.D_xlaw_take.kp (b_xlaw_take T) .nil dfl_nil pat0 rfl (vis_of rfl) (la_cons (le_int) (la_nil)))) (la_cons (le_op op_add p_add (le_int) (le_callR (ok_xlaw_take T) (hr.r.mono (by decide)) rfl T.g_xlaw_take T.D_xlaw_take.kp (b_xlaw_take T) .nil dfl_nil pat0 rfl (vis_of rfl) (la_cons (le_int) (la_nil)))) (la_cons (le_int) (la_nil))))) (le_callR (ok_xlaw_take T) (hr.r.mono (by decide)) rfl T.g_xlaw_take T.D_xlaw_take.kp (b_xlaw_take T) .nil dfl_nil pat0 rfl (vis_of rfl) (la_cons (le_int) (la_nil))) (fun _ _ => rfl))) (lb_cons (ls_setLc (mt := dYes) (me := (ce_xlaw_chain_holds_4 (csOf K))) [("turn", 8)] (off_of hp (by decide)) rfl sc_xlaw_chain_holds.nd rfl rfl (sw_true rfl rfl rfl (by decide +kernel)) (li_rng1 rfl T.n_range (la_cons (le_op op_sub p_sub (le_var rfl (vis_of rfl)) (le_int)) (la_nil))) (blkOk_by (N := N_xlaw_chain_holds) (sc := defScope s_xlaw_chain_holds) (by decide +kernel)) (fun _ _ _ _ _ => lg_name (off_of hp (by decide)) sc_xlaw_chain_holds.nd rfl (loc_of rfl)) (fun _ _ _ _ _ => lts_nil) (fun _ _ _ _ _ => le_tup (la_cons (le_callR (ok_xlaw_take T) (hr.r.mono (by decide)) rfl T.g_xlaw_take T.D_xlaw_take.kp (b_xlaw_take T) .nil dfl_nil pat0 rfl (vis_of rfl) (la_cons (le_int) (la_nil))) (la_cons (le_callR (ok_xlaw_words T) (hr.r.mono (by decide)) rfl T.g_xlaw_words T.D_xlaw_words.kp (b_xlaw_words T) .nil dfl_nil pat0 rfl (vis_of rfl) (la_nil)) (la_cons (le_op op_sub p_sub (le_callR (ok_xlaw_take T) (hr.r.mono (by decide)) rfl T.g_xlaw_take T.D_xlaw_take.kp (b_xlaw_take T) .nil dfl_nil pat0 rfl (vis_of rfl) (la_cons (le_int) (la_nil))) (le_int)) (la_nil))))) (by decide) (off_all (fun i hi => off_of hp hi) (by decide))) (lb_cons (ls_par (off_of hp (by decide)) (off_of hp (by decide)) rfl sc_xlaw_chain_holds.nd rfl rfl (by decide) rfl rfl (la_cons (le_call (ok_xlaw_made T) (hr.r.mono (by decide)) rfl T.g_xlaw_made T.D_xlaw_made.kp (b_xlaw_made T) .nil dfl_nil pat0 (la_cons (le_var rfl (vis_of rfl)) (la_nil))) (la_cons (le_call (ok_xlaw_made T) (hr.r.mono (by decide)) rfl T.g_xlaw_made T.D_xlaw_made.kp (b_xlaw_made T) .nil dfl_nil pat0 (la_cons (le_var rfl (vis_of rfl)) (la_nil))) (la_nil))) rfl) (lb_cons (ls_set (off_of hp (by decide)) sc_xlaw_chain_holds.nd rfl (loc_of rfl) (le_op op_add p_add (le_int) (le_callB (cr_sum rfl) c_sum rfl T.n_sum (by decide +kernel) (la_cons (le_lc (mt := dYes) (me := (ce_xlaw_chain_holds_2 (csOf K))) [("pick", 9), ("word", 10), ("k", 11)] rfl sc_xlaw_chain_holds.nd (li_it (le_var rfl (vis_of rfl))) (blkOk_by (N := N_xlaw_chain_holds) (sc := defScope s_xlaw_chain_holds) (by decide +kernel)) (fun _ _ _ _ _ => lg_tup rfl (lgs_cons (lg_name (off_of hp (by decide)) sc_xlaw_chain_holds.nd rfl (loc_of rfl)) (lgs_cons (lg_name (off_of hp (by decide)) sc_xlaw_chain_holds.nd rfl (loc_of rfl)) (lgs_cons (lg_name (off_of hp (by decide)) sc_xlaw_chain_holds.nd rfl (loc_of rfl)) (lgs_nil))))) (fun _ _ _ _ _ => lts_nil) (fun _ _ _ _ _ => le_op op_add p_add (le_int) (le_callT call_int1 c_int rfl T.n_int (by decide +kernel) (la_cons (le_cmp op_gt b_gt (le_var rfl (vis_of rfl)) (le_int) (nomark _)) (la_nil)))) (by decide) (off_all (fun i hi => off_of hp hi) (by decide))) (la_nil))))) (lb_cons (ls_if (lt_w (lw_or (lt_cmp op_ne b_ne (le_meth0 T.cl_Expression T.me_Expression_depth (ok_Expression_depth T) (hr.r.mono (by decide)) (b_Expression_depth T) .nil dfl_nil pat0 (le_var rfl (vis_of rfl))) (le_var rfl (vis_of rfl)) (nomark _)) (lw_or (lt_cmp op_ne b_ne (le_meth0 T.cl_Expression T.me_Expression_count (ok_Expression_count T) (hr.r.mono (by decide)) (b_Expression_count T) .nil dfl_nil pat0 (le_var rfl (vis_of rfl))) (le_var rfl (vis_of rfl)) (nomark _)) (lw_or1 (lt_cmp op_ne b_ne (le_meth0 T.cl_Expression T.me_Expression_used_letters (ok_Expression_used_letters T) (hr.r.mono (by decide)) (b_Expression_used_letters T) .nil dfl_nil pat0 (le_var rfl (vis_of rfl))) (le_call (ok_xlaw_letters_of T) (hr.r.mono (by decide)) rfl T.g_xlaw_letters_of T.D_xlaw_letters_of.kp (b_xlaw_letters_of T) .nil dfl_nil pat0 (la_cons (le_var rfl (vis_of rfl)) (la_nil))) (nomark _)))))) (lb_one (ls_ret (le_bl))) (lb_nil)) (lb_cons (ls_if (lt_w (lw_or (lt_not (lt_tru (le_call (ok_xlaw_says T) (hr.r.mono (by decide)) rfl T.g_xlaw_says T.D_xlaw_says.kp (b_xlaw_says T) .nil dfl_nil pat0 (la_cons (le_cmpG (eqE T rfl rfl rfl rfl rfl hr (by decide)) g_eqA (le_var rfl (vis_of rfl)) (le_var rfl (vis_of rfl)) (nomark _)) (la_cons (le_bl) (la_nil)))))) (lw_or1 (lt_not (lt_tru (le_call (ok_xlaw_says T) (hr.r.mono (by decide)) rfl T.g_xlaw_says T.D_xlaw_says.kp (b_xlaw_says T) .nil dfl_nil pat0 (la_cons (le_call (ok_is_expression T) (hr.r.mono (by decide)) rfl T.g_is_expression T.D_is_expression.kp (b_is_expression T) .nil dfl_nil pat0 (la_cons (le_var rfl (vis_of rfl)) (la_nil))) (la_cons (le_and (le_cmp op_le b_le (le_var rfl (vis_of rfl)) (le_int) (nomark _)) (le_one (le_cmp op_le b_le (le_var rfl (vis_of rfl)) (le_int) (nomark _)))) (la_nil))))))))) (lb_one (ls_ret (le_bl))) (lb_nil)) (lb_cons (ls_set (off_of hp (by decide)) sc_xlaw_chain_holds.nd rfl (loc_of rfl) (le_ixS rfl (vis_of rfl) (le_un un_neg p_neg (le_int)) (fun _ _ => rfl))) (lb_cons (ls_set (off_of hp (by decide)) sc_xlaw_chain_holds.nd rfl (loc_of rfl) (le_call (ok_xlaw_made T) (hr.r.mono (by decide)) rfl T.g_xlaw_made T.D_xlaw_made.kp (b_xlaw_made T) .nil dfl_nil pat0 (la_cons (le_opY op_cat y_catL (le_slS rfl (vis_of rfl) (lo_none) (lo_some (le_un un_neg p_neg (le_int)))) (le_lst (la_cons (le_tup (la_cons (le_op op_modN p_mod (le_callT call_int1 c_int rfl T.n_int (by decide +kernel) (la_cons (le_op op_add p_add (le_op op_add p_add (le_ixS rfl (vis_of rfl) (le_int) (fun _ _ => rfl)) (le_int)) (le_callR (ok_xlaw_take T) (hr.r.mono (by decide)) rfl T.g_xlaw_take T.D_xlaw_take.kp (b_xlaw_take T) .nil dfl_nil pat0 rfl (vis_of rfl) (la_cons (le_int) (la_nil)))) (la_nil))) (le_int)) (la_cons (le_ixS rfl (vis_of rfl) (le_int) (fun _ _ => rfl)) (la_cons (le_ixS rfl (vis_of rfl) (le_int) (fun _ _ => rfl)) (la_nil))))) (la_nil)))) (la_nil)))) (lb_one (ls_ret (le_and (le_call (ok_xlaw_says T) (hr.r.mono (by decide)) rfl T.g_xlaw_says T.D_xlaw_says.kp (b_xlaw_says T) .nil dfl_nil pat0 (la_cons (le_cmpG (eqE T rfl rfl rfl rfl rfl hr (by decide)) g_eqA (le_var rfl (vis_of rfl)) (le_var rfl (vis_of rfl)) (nomark _)) (la_cons (le_bl) (la_nil)))) (le_one (le_call (ok_xlaw_says T) (hr.r.mono (by decide)) rfl T.g_xlaw_says T.D_xlaw_says.kp (b_xlaw_says T) .nil dfl_nil pat0 (la_cons (le_cmpG (eqE T rfl rfl rfl rfl rfl hr (by decide)) g_eqA (le_var rfl (vis_of rfl)) (le_var rfl (vis_of rfl)) (nomark _)) (la_cons (le_bl) (la_nil))))))))))))))))
set_option maxHeartbeats 40000000 in
theorem ok_xlaw_wide_holds (T : Fc K mg) : FnOk P w K mg base CX0 7 (He.ga K "_law_wide_holds") T.fd_xlaw_wide_holds ["state"] (spL K 1 true (F_xlaw_wide_holds (csOf K))) := by
  exact okL0 (k := 6) T.D_xlaw_wide_holds sc_xlaw_wide_holds rfl fun cdv A outer s H XE E hr hp => by
    have hp : ∀ p ∈ E.pin, p.1 ∈ (if true = true then [0] else [] : List Nat) := hp
    exact (show LB _ E _ _ (m_xlaw_wide_holds (csOf K)) from lb_cons (ls_par (off_of hp (by decide)) (off_of hp (by decide)) rfl sc_xlaw_wide_holds.nd rfl rfl (by decide) rfl rfl (la_cons (le_call (ok_xlaw_honest T) (hr.r.mono (by decide)) rfl T.g_xlaw_honest T.D_xlaw_honest.kp (b_xlaw_honest T) .nil dfl_nil pat0 (la_cons (le_call (ok_letter_of T) (hr.r.mono (by decide)) rfl T.g_letter_of T.D_letter_of.kp (b_letter_of T) .nil dfl_nil pat0 (la_cons (le_str) (la_nil))) (la_nil))) (la_cons (le_callR (ok_xlaw_take T) (hr.r.mono (by decide)) rfl T.g_xlaw_take T.D_xlaw_take.kp (b_xlaw_take T) .nil dfl_nil pat0 rfl (vis_of rfl) (la_cons (le_int) (la_nil))) (la_nil))) rfl) (lb_cons (ls_set (off_of hp (by decide)) sc_xlaw_wide_holds.nd rfl (loc_of rfl) (le_int)) (lb_cons (ls_for (mb := (fb_xlaw_wide_holds_7 (csOf K))) PassesOwn.never rfl (li_rng1 rfl T.n_range (la_cons (le_var rfl (vis_of rfl)) (la_nil))) (lg_name (off_of hp (by decide)) sc_xlaw_wide_holds.nd rfl (loc_of rfl)) (lb_one (ls_par (off_of hp (by decide)) (off_of hp (by decide)) rfl sc_xlaw_wide_holds.nd rfl rfl (by decide) rfl rfl (la_cons (le_opF (id := "__add__") (ok_Expression_add T) (hr.r.mono (by decide)) (b_Expression_add T) pat0 T.sf_Expression (by decide +kernel) T.me_Expression_add.at_ T.me_Expression_add.fn (le_var rfl (vis_of rfl)) (le_var rfl (vis_of rfl))) (la_cons (le_op op_add p_add (le_op op_mulX p_mul (le_int) (le_var rfl (vis_of rfl))) (le_int)) (la_nil))) rfl))) (lb_cons (ls_if (lt_w (lw_or (lt_cmp op_ne b_ne (le_meth0 T.cl_Expression T.me_Expression_depth (ok_Expression_depth T) (hr.r.mono (by decide)) (b_Expression_depth T) .nil dfl_nil pat0 (le_var rfl (vis_of rfl))) (le_op op_add p_add (le_var rfl (vis_of rfl)) (le_int)) (nomark _)) (lw_or (lt_cmp op_ne b_ne (le_meth0 T.cl_Expression T.me_Expression_count (ok_Expression_count T) (hr.r.mono (by decide)) (b_Expression_count T) .nil dfl_nil pat0 (le_var rfl (vis_of rfl))) (le_var rfl (vis_of rfl)) (nomark _)) (lw_or1 (lt_cmp op_ne b_ne (le_meth0 T.cl_Expression T.me_Expression_used_letters (ok_Expression_used_letters T) (hr.r.mono (by decide)) (b_Expression_used_letters T) .nil dfl_nil pat0 (le_var rfl (vis_of rfl))) (le_str) (nomark _)))))) (lb_one (ls_ret (le_bl))) (lb_nil)) (lb_cons (ls_if (lt_not (lt_tru (le_call (ok_xlaw_says T) (hr.r.mono (by decide)) rfl T.g_xlaw_says T.D_xlaw_says.kp (b_xlaw_says T) .nil dfl_nil pat0 (la_cons (le_call (ok_is_expression T) (hr.r.mono (by decide)) rfl T.g_is_expression T.D_is_expression.kp (b_is_expression T) .nil dfl_nil pat0 (la_cons (le_var rfl (vis_of rfl)) (la_nil))) (la_cons (le_cmp op_le b_le (le_var rfl (vis_of rfl)) (le_int) (nomark _)) (la_nil)))))) (lb_one (ls_ret (le_bl))) (lb_nil)) (lb_cons (ls_set (off_of hp (by decide)) sc_xlaw_wide_holds.nd rfl (loc_of rfl) (le_op op_add p_add (le_int) (le_callR (ok_xlaw_take T) (hr.r.mono (by decide)) rfl T.g_xlaw_take T.D_xlaw_take.kp (b_xlaw_take T) .nil dfl_nil pat0 rfl (vis_of rfl) (la_cons (le_int) (la_nil))))) (lb_cons (ls_set (off_of hp (by decide)) sc_xlaw_wide_holds.nd rfl (loc_of rfl) (le_lc (mt := dYes) (me := (ce_xlaw_wide_holds_6 (csOf K))) [("k", 8)] rfl sc_xlaw_wide_holds.nd (li_rng1 rfl T.n_range (la_cons (le_var rfl (vis_of rfl)) (la_nil))) (blkOk_by (N := N_xlaw_wide_holds) (sc := defScope s_xlaw_wide_holds) (by decide +kernel)) (fun _ _ _ _ _ => lg_name (off_of hp (by decide)) sc_xlaw_wide_holds.nd rfl (loc_of rfl)) (fun _ _ _ _ _ => lts_nil) (fun _ _ _ _ _ => le_call (ok_xlaw_honest T) (hr.r.mono (by decide)) rfl T.g_xlaw_honest T.D_xlaw_honest.kp (b_xlaw_honest T) .nil dfl_nil pat0 (la_cons (le_call (ok_letter_of T) (hr.r.mono (by decide)) rfl T.g_letter_of T.D_letter_of.kp (b_letter_of T) .nil dfl_nil pat0 (la_cons (le_ix ix_seq p_ix (le_str) (le_callR (ok_xlaw_take T) (hr.r.mono (by decide)) rfl T.g_xlaw_take T.D_xlaw_take.kp (b_xlaw_take T) .nil dfl_nil pat0 rfl (vis_of rfl) (la_cons (le_int) (la_nil))) (fun _ _ => rfl)) (la_nil))) (la_nil))) (by decide) (off_all (fun i hi => off_of hp hi) (by decide)))) (lb_cons (ls_while (mc := (wc_xlaw_wide_holds_3 (csOf K))) (mb := (wb_xlaw_wide_holds_4 (csOf K))) PassesOwn.never (lt_cmp op_gt b_gt (le_callBS call_len c_len rfl T.n_len (by decide +kernel) rfl (vis_of rfl)) (le_int) (nomark _)) (lb_cons (ls_setLc (mt := dYes) (me := (ce_xlaw_wide_holds_2 (csOf K))) [("k", 8)] (off_of hp (by decide)) rfl sc_xlaw_wide_holds.nd rfl rfl (sw_true rfl rfl rfl (by decide +kernel)) (li_rng1 rfl T.n_range (la_cons (le_op op_divX p_div (le_callBS call_len c_len rfl T.n_len (by decide +kernel) rfl (vis_of rfl)) (le_int)) (la_nil))) (blkOk_by (N := N_xlaw_wide_holds) (sc := defScope s_xlaw_wide_holds) (by decide +kernel)) (fun _ _ _ _ _ => lg_name (off_of hp (by decide)) sc_xlaw_wide_holds.nd rfl (loc_of rfl)) (fun _ _ _ _ _ => lts_nil) (fun _ _ _ _ _ => le_opF (id := "__add__") (ok_Expression_add T) (hr.r.mono (by decide)) (b_Expression_add T) pat0 T.sf_Expression (by decide +kernel) T.me_Expression_add.at_ T.me_Expression_add.fn (le_ixS rfl (vis_of rfl) (le_op op_mulX p_mul (le_int) (le_var rfl (vis_of rfl))) (fun _ _ => rfl)) (le_ixS rfl (vis_of rfl) (le_op op_add p_add (le_op op_mulX p_mul (le_int) (le_var rfl (vis_of rfl))) (le_int)) (fun _ _ => rfl))) (by decide) (off_all (fun i hi => off_of hp hi) (by decide))) (lb_one (ls_set (off_of hp (by decide)) sc_xlaw_wide_holds.nd rfl (loc_of rfl) (le_catS rfl (vis_of rfl) (le_slS rfl (vis_of rfl) (lo_some (le_op op_mulX p_mul (le_int) (le_callBS call_len c_len rfl T.n_len (by decide +kernel) rfl (vis_of rfl)))) (lo_none))))))) (lb_cons (ls_par (off_of hp (by decide)) (off_of hp (by decide)) rfl sc_xlaw_wide_holds.nd rfl rfl (by decide) rfl rfl (la_cons (le_ixS rfl (vis_of rfl) (le_int) (fun _ _ => rfl)) (la_cons (le_op op_sub p_sub (le_op op_mulX p_mul (le_int) (le_var rfl (vis_of rfl))) (le_int)) (la_nil))) rfl) (lb_cons (ls_if (lt_cmp op_eq b_eq (le_callR (ok_xlaw_take T) (hr.r.mono (by decide)) rfl T.g_xlaw_take T.D_xlaw_take.kp (b_xlaw_take T) .nil dfl_nil pat0 rfl (vis_of rfl) (la_cons (le_int) (la_nil))) (le_int) (nomark _)) (lb_one (ls_par (off_of hp (by decide)) (off_of hp (by decide)) rfl sc_xlaw_wide_holds.nd rfl rfl (by decide) rfl rfl (la_cons (le_meth0 T.cl_Expression T.me_Expression_reverse (ok_Expression_reverse T) (hr.r.mono (by decide)) (b_Expression_reverse T) .nil dfl_nil pat0 (le_var rfl (vis_of rfl))) (la_cons (le_op op_add p_add (le_var rfl (vis_of rfl)) (le_int)) (la_nil))) rfl)) (lb_nil)) (lb_one (ls_ret (le_and (le_cmp op_eq b_eq (le_meth0 T.cl_Expression T.me_Expression_count (ok_Expression_count T) (hr.r.mono (by decide)) (b_Expression_count T) .nil dfl_nil pat0 (le_var rfl (vis_of rfl))) (le_var rfl (vis_of rfl)) (nomark _)) (le_one (le_call (ok_xlaw_says T) (hr.r.mono (by decide)) rfl T.g_xlaw_says T.D_xlaw_says.kp (b_xlaw_says T) .nil dfl_nil pat0 (la_cons (le_call (ok_is_expression T) (hr.r.mono (by decide)) rfl T.g_is_expression T.D_is_expression.kp (b_is_expression T) .nil dfl_nil pat0 (la_cons (le_var rfl (vis_of rfl)) (la_nil))) (la_cons (le_cmp op_le b_le (le_var rfl (vis_of rfl)) (le_int) (nomark _)) (la_nil))))))))))))))))))
set_option maxHeartbeats 40000000 in
theorem ok_xlaw_digits_hold (T : Fc K mg) : FnOk P w K mg base CX0 7 (He.ga K "_law_digits_hold") T.fd_xlaw_digits_hold ["state"] (spL K 1 true (F_xlaw_digits_hold (csOf K))) := by
  obtain ⟨ds_Ratio_init_2, hv_Ratio_init_2, hb_Ratio_init_2⟩ := b_Ratio_init_2 T
  obtain ⟨ds_Ratio_init_3, hv_Ratio_init_3, hb_Ratio_init_3⟩ := b_Ratio_init_3 T
  exact okL0 (k := 6) T.D_xlaw_digits_hold sc_xlaw_digits_hold rfl fun cdv A outer s H XE E hr hp => by
    have hp : ∀ p ∈ E.pin, p.1 ∈ (if true = true then [0] else [] : List Nat) := hp
    exact (show LB _ E _ _ (m_xlaw_digits_hold (csOf K)) from lb_cons (ls_set (off_of hp (by decide)) sc_xlaw_digits_hold.nd rfl (loc_of rfl) (le_op op_add p_add (le_int) (le_callR (ok_xlaw_take T) (hr.r.mono (by decide)) rfl T.g_xlaw_take T.D_xlaw_take.kp (b_xlaw_take T) .nil dfl_nil pat0 rfl (vis_of rfl) (la_cons (le_int) (la_nil))))) (lb_cons (ls_set (off_of hp (by decide)) sc_xlaw_digits_hold.nd rfl (loc_of rfl) (le_int)) (lb_cons (ls_for (mb := (fb_xlaw_digits_hold_3 (csOf K))) PassesOwn.never rfl (li_rng1 rfl T.n_range (la_cons (le_op op_sub p_sub (le_var rfl (vis_of rfl)) (le_int)) (la_nil))) (lg_name (off_of hp (by decide)) sc_xlaw_digits_hold.nd rfl (loc_of rfl)) (lb_one (ls_set (off_of hp (by decide)) sc_xlaw_digits_hold.nd rfl (loc_of rfl) (le_op op_mulX p_mul (le_int) (le_var rfl (vis_of rfl)))))) (lb_cons (ls_set (off_of hp (by decide)) sc_xlaw_digits_hold.nd rfl (loc_of rfl) (le_op op_add p_add (le_op op_add p_add (le_var rfl (vis_of rfl)) (le_op op_mulX p_mul (le_int) (le_callR (ok_xlaw_take T) (hr.r.mono (by decide)) rfl T.g_xlaw_take T.D_xlaw_take.kp (b_xlaw_take T) .nil dfl_nil pat0 rfl (vis_of rfl) (la_cons (le_int) (la_nil))))) (le_int))) (lb_cons (ls_for (mb := (fb_xlaw_digits_hold_2 (csOf K))) PassesOwn.never rfl (li_it (le_lst (la_cons (le_make T.mk_Ratio (ok_Ratio_init T) (hr.r.mono (by decide)) rfl T.g_Ratio hb_Ratio_init_2 hv_Ratio_init_2 (fun _ => (.cons .int .nil)) pat0 (la_cons (le_var rfl (vis_of rfl)) (la_nil))) (la_cons (le_make T.mk_Ratio (ok_Ratio_init T) (hr.r.mono (by decide)) rfl T.g_Ratio hb_Ratio_init_2 hv_Ratio_init_2 (fun _ => (.cons .int .nil)) pat0 (la_cons (le_un un_neg p_neg (le_var rfl (vis_of rfl))) (la_nil))) (la_cons (le_make T.mk_Ratio (ok_Ratio_init T) (hr.r.mono (by decide)) rfl T.g_Ratio hb_Ratio_init_3 hv_Ratio_init_3 (fun _ => .nil) pat0 (la_cons (le_int) (la_cons (le_var rfl (vis_of rfl)) (la_nil)))) (la_cons (le_make T.mk_Ratio (ok_Ratio_init T) (hr.r.mono (by decide)) rfl T.g_Ratio hb_Ratio_init_3 hv_Ratio_init_3 (fun _ => .nil) pat0 (la_cons (le_un un_neg p_neg (le_var rfl (vis_of rfl))) (la_cons (le_int) (la_nil)))) (la_nil))))))) (lg_name (off_of hp (by decide)) sc_xlaw_digits_hold.nd rfl (loc_of rfl)) (lb_one (ls_for (mb := (fb_xlaw_digits_hold_1 (csOf K))) PassesOwn.never rfl (li_it (le_lst (la_cons (le_call (ok_xlaw_honest T) (hr.r.mono (by decide)) rfl T.g_xlaw_honest T.D_xlaw_honest.kp (b_xlaw_honest T) .nil dfl_nil pat0 (la_cons (le_call (ok_number T) (hr.r.mono (by decide)) rfl T.g_number T.D_number.kp (b_number T) .nil dfl_nil pat0 (la_cons (le_var rfl (vis_of rfl)) (la_nil))) (la_nil))) (la_cons (le_meth0 T.cl_Expression T.me_Expression_star (ok_Expression_star T) (hr.r.mono (by decide)) (b_Expression_star T) .nil dfl_nil pat0 (le_call (ok_xlaw_honest T) (hr.r.mono (by decide)) rfl T.g_xlaw_honest T.D_xlaw_honest.kp (b_xlaw_honest T) .nil dfl_nil pat0 (la_cons (le_call (ok_number T) (hr.r.mono (by decide)) rfl T.g_number T.D_number.kp (b_number T) .nil dfl_nil pat0 (la_cons (le_var rfl (vis_of rfl)) (la_nil))) (la_nil)))) (la_nil))))) (lg_name (off_of hp (by decide)) sc_xlaw_digits_hold.nd rfl (loc_of rfl)) (lb_one (ls_if (lt_not (lt_tru (le_call (ok_xlaw_says T) (hr.r.mono (by decide)) rfl T.g_xlaw_says T.D_xlaw_says.kp (b_xlaw_says T) .nil dfl_nil pat0 (la_cons (le_call (ok_is_expression T) (hr.r.mono (by decide)) rfl T.g_is_expression T.D_is_expression.kp (b_is_expression T) .nil dfl_nil pat0 (la_cons (le_var rfl (vis_of rfl)) (la_nil))) (la_cons (le_cmp op_lt b_lt (le_var rfl (vis_of rfl)) (le_int) (nomark _)) (la_nil)))))) (lb_one (ls_ret (le_bl))) (lb_nil)))))) (lb_one (ls_ret (le_bl))))))))
set_option maxHeartbeats 40000000 in
theorem ok_law (T : Fc K mg) : FnOk P w K mg base CX0 206 (He.ga K "law") T.fd_law ["script"] (spL K 1 false (F_law (csOf K))) := by
  obtain ⟨ds_Ratio_init_2, hv_Ratio_init_2, hb_Ratio_init_2⟩ := b_Ratio_init_2 T
  exact okL0 (k := 205) T.D_law sc_law rfl fun cdv A outer s H XE E hr hp => by
    have hp : ∀ p ∈ E.pin, p.1 ∈ (if false = true then [0] else [] : List Nat) := hp
    exact (show LB _ E _ _ (m_law (csOf K)) from lb_cons (ls_set (off_of hp (by decide)) sc_law.nd rfl (loc_of rfl) (le_call (ok_xlaw_state T) (hr.r.mono (by decide)) rfl T.g_xlaw_state T.D_xlaw_state.kp (b_xlaw_state T) .nil dfl_nil pat0 (la_cons (le_var rfl (vis_of rfl)) (la_nil)))) (lb_cons (ls_if (lt_w (lw_or (lt_not (lt_tru (le_callR (ok_xlaw_chain_holds T) (hr.r.mono (by decide)) rfl T.g_xlaw_chain_holds T.D_xlaw_chain_holds.kp (b_xlaw_chain_holds T) .nil dfl_nil pat0 rfl (vis_of rfl) (la_nil)))) (lw_or (lt_not (lt_tru (le_callR (ok_xlaw_wide_holds T) (hr.r.mono (by decide)) rfl T.g_xlaw_wide_holds T.D_xlaw_wide_holds.kp (b_xlaw_wide_holds T) .nil dfl_nil pat0 rfl (vis_of rfl) (la_nil)))) (lw_or1 (lt_not (lt_tru (le_callR (ok_xlaw_digits_hold T) (hr.r.mono (by decide)) rfl T.g_xlaw_digits_hold T.D_xlaw_digits_hold.kp (b_xlaw_digits_hold T) .nil dfl_nil pat0 rfl (vis_of rfl) (la_nil)))))))) (lb_one (ls_ret (le_bl))) (lb_nil)) (lb_cons (ls_set (off_of hp (by decide)) sc_law.nd rfl (loc_of rfl) (le_lst (la_cons (le_non) (la_cons (le_int) (la_cons (le_str) (la_cons (le_tup (la_cons (le_str) (la_cons (le_str) (la_nil)))) (la_cons (le_make T.mk_Ratio (ok_Ratio_init T) (hr.r.mono (by decide)) rfl T.g_Ratio hb_Ratio_init_2 hv_Ratio_init_2 (fun _ => (.cons .int .nil)) pat0 (la_cons (le_int) (la_nil))) (la_cons (le_bl) (la_cons (le_lst (la_cons (le_call (ok_xlaw_honest T) (hr.r.mono (by decide)) rfl T.g_xlaw_honest T.D_xlaw_honest.kp (b_xlaw_honest T) .nil dfl_nil pat0 (la_cons (le_call (ok_letter_of T) (hr.r.mono (by decide)) rfl T.g_letter_of T.D_letter_of.kp (b_letter_of T) .nil dfl_nil pat0 (la_cons (le_str) (la_nil))) (la_nil))) (la_nil))) (la_nil)))))))))) (lb_one (ls_ret (le_not (le_callB (cr_any rfl) c_any rfl T.n_any (by decide +kernel) (la_cons (le_lc (mt := dYes) (me := (ce_law_2 (csOf K))) [("value", 3)] rfl sc_law.nd (li_it (le_var rfl (vis_of rfl))) (blkOk_by (N := N_law) (sc := defScope s_law) (by decide +kernel)) (fun _ _ _ _ _ => lg_name (off_of hp (by decide)) sc_law.nd rfl (loc_of rfl)) (fun _ _ _ _ _ => lts_nil) (fun _ _ _ _ _ => le_cmp op_notBl b_notB (le_call (ok_is_expression T) (hr.r.mono (by decide)) rfl T.g_is_expression T.D_is_expression.kp (b_is_expression T) .nil dfl_nil pat0 (la_cons (le_var rfl (vis_of rfl)) (la_nil))) (le_bl) (nomark _)) (by decide) (off_all (fun i hi => off_of hp hi) (by decide))) (la_nil)))))))))
end
end K77
end

section
namespace K77
open PySem L2 L3
def kitTs (c : Cs) : List Value := [.ref c.Ratio, .ref c.Expression] ++ tys.map .type
theorem kit_in {c : Cs} {t u : Value} {b : Bool} (h : kit c t u = some b) : t ∈ kitTs c ∧ u ∈ kitTs c := by
  unfold kit at h
  unfold kitTs
  split at h
  · split at h
    · rename_i hc
      obtain ⟨h1, h2⟩ := hc
      refine ⟨?_, ?_⟩
      · rcases h1 with rfl | rfl <;> simp
      · rcases h2 with rfl | rfl <;> simp
    · cases h
  · split at h
    · rename_i hc
      obtain ⟨h1, h2⟩ := hc
      refine ⟨?_, by simp [h2]⟩
      rcases h1 with rfl | rfl <;> simp
    · cases h
  · split at h
    · rename_i hc
      obtain ⟨h1, h2⟩ := hc
      refine ⟨by simp [h2], ?_⟩
      rcases h1 with rfl | rfl <;> simp
    · cases h
  · split at h
    · rename_i hc
      exact ⟨by simp [hc.1], by simp [hc.2]⟩
    · cases h
  · cases h
theorem kit_cls {c : Cs} {C : Addr} {u : Value} {b : Bool} (h : kit c (.ref C) u = some b) : C = c.Ratio ∨ C = c.Expression := by
  unfold kit at h
  split at h
  · rename_i e; cases e; split at h
    · rename_i hc; exact hc.1
    · cases h
  · rename_i e; cases e; split at h
    · rename_i hc; exact hc.1
    · cases h
  · rename_i e; cases e
  · rename_i e; cases e
  · cases h
def ex (K : PySem.W.Frag) : Bool := PySem.W.selfFirst K (He.ga K "Expression") && (He.eqO (PySem.W.nsIn K mainGlobals "gcd") (some (some (.builtin "math.gcd"))) && (isCB K (He.ga K "Ratio") && (isCB K (He.ga K "Expression") &&
  (kitB2 K (kit (csOf K)) (kitTs (csOf K)) && decide ((csOf K).Ratio ≠ (csOf K).Expression)))))
/-! ### the head's data (printed by gen.py) -/
def dd_xlaw_state : He.DefD := ⟨("_law_state", none), "_law_state", "_law_state", defArgs s_xlaw_state, defBody s_xlaw_state, defScope s_xlaw_state, [], []⟩
def dd_Ratio_init : He.DefD := ⟨("Ratio", some "__init__"), "__init__", "Ratio.__init__", defArgs s_Ratio_init, defBody s_Ratio_init, defScope s_Ratio_init, [.int 1], []⟩
def dd_Ratio_eq : He.DefD := ⟨("Ratio", some "__eq__"), "__eq__", "Ratio.__eq__", defArgs s_Ratio_eq, defBody s_Ratio_eq, defScope s_Ratio_eq, [], []⟩
def dd_Expression_eq : He.DefD := ⟨("Expression", some "__eq__"), "__eq__", "Expression.__eq__", defArgs s_Expression_eq, defBody s_Expression_eq, defScope s_Expression_eq, [], []⟩
def dd_xlaw_odd : He.DefD := ⟨("_law_odd", none), "_law_odd", "_law_odd", defArgs s_xlaw_odd, defBody s_xlaw_odd, defScope s_xlaw_odd, [], []⟩
def dd_xlaw_honest : He.DefD := ⟨("_law_honest", none), "_law_honest", "_law_honest", defArgs s_xlaw_honest, defBody s_xlaw_honest, defScope s_xlaw_honest, [], []⟩
def dd_Expression_init : He.DefD := ⟨("Expression", some "__init__"), "__init__", "Expression.__init__", defArgs s_Expression_init, defBody s_Expression_init, defScope s_Expression_init, [], []⟩
def dd_is_short_word : He.DefD := ⟨("is_short_word", none), "is_short_word", "is_short_word", defArgs s_is_short_word, defBody s_is_short_word, defScope s_is_short_word, [], []⟩
def dd_letter_of : He.DefD := ⟨("letter_of", none), "letter_of", "letter_of", defArgs s_letter_of, defBody s_letter_of, defScope s_letter_of, [], []⟩
def dd_Expression_star : He.DefD := ⟨("Expression", some "star"), "star", "Expression.star", defArgs s_Expression_star, defBody s_Expression_star, defScope s_Expression_star, [], []⟩
def dd_Expression_reverse : He.DefD := ⟨("Expression", some "reverse"), "reverse", "Expression.reverse", defArgs s_Expression_reverse, defBody s_Expression_reverse, defScope s_Expression_reverse, [], []⟩
def dd_Expression_left : He.DefD := ⟨("Expression", some "left"), "left", "Expression.left", defArgs s_Expression_left, defBody s_Expression_left, defScope s_Expression_left, [], []⟩
def dd_Expression_right : He.DefD := ⟨("Expression", some "right"), "right", "Expression.right", defArgs s_Expression_right, defBody s_Expression_right, defScope s_Expression_right, [], []⟩
def dd_number : He.DefD := ⟨("number", none), "number", "number", defArgs s_number, defBody s_number, defScope s_number, [], []⟩
def dd_Expression_add : He.DefD := ⟨("Expression", some "__add__"), "__add__", "Expression.__add__", defArgs s_Expression_add, defBody s_Expression_add, defScope s_Expression_add, [], []⟩
def dd_Expression_mul : He.DefD := ⟨("Expression", some "__mul__"), "__mul__", "Expression.__mul__", defArgs s_Expression_mul, defBody s_Expression_mul, defScope s_Expression_mul, [], []⟩
def dd_Expression_and : He.DefD := ⟨("Expression", some "__and__"), "__and__", "Expression.__and__", defArgs s_Expression_and, defBody s_Expression_and, defScope s_Expression_and, [], []⟩
def dd_Expression_xor : He.DefD := ⟨("Expression", some "__xor__"), "__xor__", "Expression.__xor__", defArgs s_Expression_xor, defBody s_Expression_xor, defScope s_Expression_xor, [], []⟩
def dd_xlaw_stepped : He.DefD := ⟨("_law_stepped", none), "_law_stepped", "_law_stepped", defArgs s_xlaw_stepped, defBody s_xlaw_stepped, defScope s_xlaw_stepped, [], []⟩
def dd_xlaw_made : He.DefD := ⟨("_law_made", none), "_law_made", "_law_made", defArgs s_xlaw_made, defBody s_xlaw_made, defScope s_xlaw_made, [], []⟩
def dd_xlaw_take : He.DefD := ⟨("_law_take", none), "_law_take", "_law_take", defArgs s_xlaw_take, defBody s_xlaw_take, defScope s_xlaw_take, [], []⟩
def dd_xlaw_says : He.DefD := ⟨("_law_says", none), "_law_says", "_law_says", defArgs s_xlaw_says, defBody s_xlaw_says, defScope s_xlaw_says, [], []⟩
def dd_xlaw_words : He.DefD := ⟨("_law_words", none), "_law_words", "_law_words", defArgs s_xlaw_words, defBody s_xlaw_words, defScope s_xlaw_words, [], []⟩
def dd_Expression_operands : He.DefD := ⟨("Expression", some "operands"), "operands", "Expression.operands", defArgs s_Expression_operands, defBody s_Expression_operands, defScope s_Expression_operands, [], []⟩
def dd_measures : He.DefD := ⟨("measures", none), "measures", "measures", defArgs s_measures, defBody s_measures, defScope s_measures, [], []⟩
def dd_Expression_depth : He.DefD := ⟨("Expression", some "depth"), "depth", "Expression.depth", defArgs s_Expression_depth, defBody s_Expression_depth, defScope s_Expression_depth, [], []⟩
def dd_Expression_count : He.DefD := ⟨("Expression", some "count"), "count", "Expression.count", defArgs s_Expression_count, defBody s_Expression_count, defScope s_Expression_count, [], []⟩
def dd_Expression_used_letters : He.DefD := ⟨("Expression", some "used_letters"), "used_letters", "Expression.used_letters", defArgs s_Expression_used_letters, defBody s_Expression_used_letters, defScope s_Expression_used_letters, [], []⟩
def dd_xlaw_letters_of : He.DefD := ⟨("_law_letters_of", none), "_law_letters_of", "_law_letters_of", defArgs s_xlaw_letters_of, defBody s_xlaw_letters_of, defScope s_xlaw_letters_of, [], []⟩
def dd_is_long : He.DefD := ⟨("is_long", none), "is_long", "is_long", defArgs s_is_long, defBody s_is_long, defScope s_is_long, [], []⟩
def dd_is_expression : He.DefD := ⟨("is_expression", none), "is_expression", "is_expression", defArgs s_is_expression, defBody s_is_expression, defScope s_is_expression, [], []⟩
def dd_xlaw_chain_holds : He.DefD := ⟨("_law_chain_holds", none), "_law_chain_holds", "_law_chain_holds", defArgs s_xlaw_chain_holds, defBody s_xlaw_chain_holds, defScope s_xlaw_chain_holds, [], []⟩
def dd_xlaw_wide_holds : He.DefD := ⟨("_law_wide_holds", none), "_law_wide_holds", "_law_wide_holds", defArgs s_xlaw_wide_holds, defBody s_xlaw_wide_holds, defScope s_xlaw_wide_holds, [], []⟩
def dd_xlaw_digits_hold : He.DefD := ⟨("_law_digits_hold", none), "_law_digits_hold", "_law_digits_hold", defArgs s_xlaw_digits_hold, defBody s_xlaw_digits_hold, defScope s_xlaw_digits_hold, [], []⟩
def dd_law : He.DefD := ⟨("law", none), "law", "law", defArgs s_law, defBody s_law, defScope s_law, [], []⟩
def fn : List He.DefD := [dd_xlaw_state, dd_Ratio_init, dd_Ratio_eq, dd_Expression_eq, dd_xlaw_odd, dd_xlaw_honest, dd_Expression_init, dd_is_short_word, dd_letter_of, dd_Expression_star, dd_Expression_reverse, dd_Expression_left, dd_Expression_right, dd_number, dd_Expression_add, dd_Expression_mul, dd_Expression_and, dd_Expression_xor, dd_xlaw_stepped, dd_xlaw_made, dd_xlaw_take, dd_xlaw_says, dd_xlaw_words, dd_Expression_operands, dd_measures, dd_Expression_depth, dd_Expression_count, dd_Expression_used_letters, dd_xlaw_letters_of, dd_is_long, dd_is_expression, dd_xlaw_chain_holds, dd_xlaw_wide_holds, dd_xlaw_digits_hold, dd_law]
def fa : List He.Fa := [.glo "law", .glo "_law_state", .glo "_law_odd", .glo "_law_honest", .glo "is_short_word", .glo "letter_of", .glo "number", .glo "_law_stepped", .glo "_law_made", .glo "_law_take", .glo "_law_says", .glo "_law_words", .glo "measures", .glo "_law_letters_of", .glo "is_long", .glo "is_expression", .glo "_law_chain_holds", .glo "_law_wide_holds", .glo "_law_digits_hold", .free "abs", .free "all", .free "any", .free "bool", .free "int", .free "isinstance", .free "len", .free "list", .free "max", .free "range", .free "str", .free "sum", .free "tuple", .int "MOST_COUNT" 200, .int "MOST_DEPTH" 40, .int "MOST_WORD" 8, .str "SMALL" "abcdefghijklmnopqrstuvwxyz", .glo "Expression", .glo "Ratio", .cls "Ratio", .cls "Expression", .meth "Expression" "__add__", .meth "Expression" "__and__", .meth "Expression" "__eq__", .meth "Expression" "__mul__", .meth "Expression" "__xor__", .meth "Expression" "count", .meth "Expression" "depth", .meth "Expression" "left", .meth "Expression" "operands", .meth "Expression" "reverse", .meth "Expression" "right", .meth "Expression" "star", .meth "Expression" "used_letters", .meth "Ratio" "__eq__", .mkr "Expression", .mkr "Ratio", .noat "Expression" "kind", .noat "Expression" "parts", .noat "Ratio" "d", .noat "Ratio" "n"]
theorem fc {K : PySem.W.Frag} {h : Heap} {mg : Str → Option Value} (X : K.In h) (G : h.Ns mainGlobals mg) (c : He.SaysD fa fn K) (e : ex K = true) : ∃ T : Fc K mg, True := by
  obtain ⟨fd_xlaw_state, D_xlaw_state⟩ := c.def_ 0 (d := dd_xlaw_state) rfl
  obtain ⟨fd_Ratio_init, D_Ratio_init⟩ := c.def_ 1 (d := dd_Ratio_init) rfl
  obtain ⟨fd_Ratio_eq, D_Ratio_eq⟩ := c.def_ 2 (d := dd_Ratio_eq) rfl
  obtain ⟨fd_Expression_eq, D_Expression_eq⟩ := c.def_ 3 (d := dd_Expression_eq) rfl
  obtain ⟨fd_xlaw_odd, D_xlaw_odd⟩ := c.def_ 4 (d := dd_xlaw_odd) rfl
  obtain ⟨fd_xlaw_honest, D_xlaw_honest⟩ := c.def_ 5 (d := dd_xlaw_honest) rfl
  obtain ⟨fd_Expression_init, D_Expression_init⟩ := c.def_ 6 (d := dd_Expression_init) rfl
  obtain ⟨fd_is_short_word, D_is_short_word⟩ := c.def_ 7 (d := dd_is_short_word) rfl
  obtain ⟨fd_letter_of, D_letter_of⟩ := c.def_ 8 (d := dd_letter_of) rfl
  obtain ⟨fd_Expression_star, D_Expression_star⟩ := c.def_ 9 (d := dd_Expression_star) rfl
  obtain ⟨fd_Expression_reverse, D_Expression_reverse⟩ := c.def_ 10 (d := dd_Expression_reverse) rfl
  obtain ⟨fd_Expression_left, D_Expression_left⟩ := c.def_ 11 (d := dd_Expression_left) rfl
  obtain ⟨fd_Expression_right, D_Expression_right⟩ := c.def_ 12 (d := dd_Expression_right) rfl
  obtain ⟨fd_number, D_number⟩ := c.def_ 13 (d := dd_number) rfl
  obtain ⟨fd_Expression_add, D_Expression_add⟩ := c.def_ 14 (d := dd_Expression_add) rfl
  obtain ⟨fd_Expression_mul, D_Expression_mul⟩ := c.def_ 15 (d := dd_Expression_mul) rfl
  obtain ⟨fd_Expression_and, D_Expression_and⟩ := c.def_ 16 (d := dd_Expression_and) rfl
  obtain ⟨fd_Expression_xor, D_Expression_xor⟩ := c.def_ 17 (d := dd_Expression_xor) rfl
  obtain ⟨fd_xlaw_stepped, D_xlaw_stepped⟩ := c.def_ 18 (d := dd_xlaw_stepped) rfl
  obtain ⟨fd_xlaw_made, D_xlaw_made⟩ := c.def_ 19 (d := dd_xlaw_made) rfl
  obtain ⟨fd_xlaw_take, D_xlaw_take⟩ := c.def_ 20 (d := dd_xlaw_take) rfl
  obtain ⟨fd_xlaw_says, D_xlaw_says⟩ := c.def_ 21 (d := dd_xlaw_says) rfl
  obtain ⟨fd_xlaw_words, D_xlaw_words⟩ := c.def_ 22 (d := dd_xlaw_words) rfl
  obtain ⟨fd_Expression_operands, D_Expression_operands⟩ := c.def_ 23 (d := dd_Expression_operands) rfl
  obtain ⟨fd_measures, D_measures⟩ := c.def_ 24 (d := dd_measures) rfl
  obtain ⟨fd_Expression_depth, D_Expression_depth⟩ := c.def_ 25 (d := dd_Expression_depth) rfl
  obtain ⟨fd_Expression_count, D_Expression_count⟩ := c.def_ 26 (d := dd_Expression_count) rfl
  obtain ⟨fd_Expression_used_letters, D_Expression_used_letters⟩ := c.def_ 27 (d := dd_Expression_used_letters) rfl
  obtain ⟨fd_xlaw_letters_of, D_xlaw_letters_of⟩ := c.def_ 28 (d := dd_xlaw_letters_of) rfl
  obtain ⟨fd_is_long, D_is_long⟩ := c.def_ 29 (d := dd_is_long) rfl
  obtain ⟨fd_is_expression, D_is_expression⟩ := c.def_ 30 (d := dd_is_expression) rfl
  obtain ⟨fd_xlaw_chain_holds, D_xlaw_chain_holds⟩ := c.def_ 31 (d := dd_xlaw_chain_holds) rfl
  obtain ⟨fd_xlaw_wide_holds, D_xlaw_wide_holds⟩ := c.def_ 32 (d := dd_xlaw_wide_holds) rfl
  obtain ⟨fd_xlaw_digits_hold, D_xlaw_digits_hold⟩ := c.def_ 33 (d := dd_xlaw_digits_hold) rfl
  obtain ⟨fd_law, D_law⟩ := c.def_ 34 (d := dd_law) rfl
  have g_law0 := He.glo_ok X G (c.fact 0 (f := .glo "law") rfl)
  have g_xlaw_state := He.glo_ok X G (c.fact 1 (f := .glo "_law_state") rfl)
  have g_xlaw_odd := He.glo_ok X G (c.fact 2 (f := .glo "_law_odd") rfl)
  have g_xlaw_honest := He.glo_ok X G (c.fact 3 (f := .glo "_law_honest") rfl)
  have g_is_short_word := He.glo_ok X G (c.fact 4 (f := .glo "is_short_word") rfl)
  have g_letter_of := He.glo_ok X G (c.fact 5 (f := .glo "letter_of") rfl)
  have g_number := He.glo_ok X G (c.fact 6 (f := .glo "number") rfl)
  have g_xlaw_stepped := He.glo_ok X G (c.fact 7 (f := .glo "_law_stepped") rfl)
  have g_xlaw_made := He.glo_ok X G (c.fact 8 (f := .glo "_law_made") rfl)
  have g_xlaw_take := He.glo_ok X G (c.fact 9 (f := .glo "_law_take") rfl)
  have g_xlaw_says := He.glo_ok X G (c.fact 10 (f := .glo "_law_says") rfl)
  have g_xlaw_words := He.glo_ok X G (c.fact 11 (f := .glo "_law_words") rfl)
  have g_measures := He.glo_ok X G (c.fact 12 (f := .glo "measures") rfl)
  have g_xlaw_letters_of := He.glo_ok X G (c.fact 13 (f := .glo "_law_letters_of") rfl)
  have g_is_long := He.glo_ok X G (c.fact 14 (f := .glo "is_long") rfl)
  have g_is_expression := He.glo_ok X G (c.fact 15 (f := .glo "is_expression") rfl)
  have g_xlaw_chain_holds := He.glo_ok X G (c.fact 16 (f := .glo "_law_chain_holds") rfl)
  have g_xlaw_wide_holds := He.glo_ok X G (c.fact 17 (f := .glo "_law_wide_holds") rfl)
  have g_xlaw_digits_hold := He.glo_ok X G (c.fact 18 (f := .glo "_law_digits_hold") rfl)
  have n_abs := He.free_ok X G (c.fact 19 (f := .free "abs") rfl)
  have n_all := He.free_ok X G (c.fact 20 (f := .free "all") rfl)
  have n_any := He.free_ok X G (c.fact 21 (f := .free "any") rfl)
  have n_bool := He.free_ok X G (c.fact 22 (f := .free "bool") rfl)
  have n_int := He.free_ok X G (c.fact 23 (f := .free "int") rfl)
  have n_isinstance := He.free_ok X G (c.fact 24 (f := .free "isinstance") rfl)
  have n_len := He.free_ok X G (c.fact 25 (f := .free "len") rfl)
  have n_list := He.free_ok X G (c.fact 26 (f := .free "list") rfl)
  have n_max := He.free_ok X G (c.fact 27 (f := .free "max") rfl)
  have n_range := He.free_ok X G (c.fact 28 (f := .free "range") rfl)
  have n_str := He.free_ok X G (c.fact 29 (f := .free "str") rfl)
  have n_sum := He.free_ok X G (c.fact 30 (f := .free "sum") rfl)
  have n_tuple := He.free_ok X G (c.fact 31 (f := .free "tuple") rfl)
  have i_MOST_COUNT := He.int_ok X G (c.fact 32 (f := .int "MOST_COUNT" 200) rfl)
  have i_MOST_DEPTH := He.int_ok X G (c.fact 33 (f := .int "MOST_DEPTH" 40) rfl)
  have i_MOST_WORD := He.int_ok X G (c.fact 34 (f := .int "MOST_WORD" 8) rfl)
  have s_SMALL := He.str_ok X G (c.fact 35 (f := .str "SMALL" "abcdefghijklmnopqrstuvwxyz") rfl)
  have g_Expression := He.glo_ok X G (c.fact 36 (f := .glo "Expression") rfl)
  have g_Ratio := He.glo_ok X G (c.fact 37 (f := .glo "Ratio") rfl)
  have cl_Ratio := He.cls_ok (c.fact 38 (f := .cls "Ratio") rfl)
  have cl_Expression := He.cls_ok (c.fact 39 (f := .cls "Expression") rfl)
  have me_Expression_add := He.meth_ok (c.fact 40 (f := .meth "Expression" "__add__") rfl)
  have me_Expression_and := He.meth_ok (c.fact 41 (f := .meth "Expression" "__and__") rfl)
  have me_Expression_eq := He.meth_ok (c.fact 42 (f := .meth "Expression" "__eq__") rfl)
  have me_Expression_mul := He.meth_ok (c.fact 43 (f := .meth "Expression" "__mul__") rfl)
  have me_Expression_xor := He.meth_ok (c.fact 44 (f := .meth "Expression" "__xor__") rfl)
  have me_Expression_count := He.meth_ok (c.fact 45 (f := .meth "Expression" "count") rfl)
  have me_Expression_depth := He.meth_ok (c.fact 46 (f := .meth "Expression" "depth") rfl)
  have me_Expression_left := He.meth_ok (c.fact 47 (f := .meth "Expression" "left") rfl)
  have me_Expression_operands := He.meth_ok (c.fact 48 (f := .meth "Expression" "operands") rfl)
  have me_Expression_reverse := He.meth_ok (c.fact 49 (f := .meth "Expression" "reverse") rfl)
  have me_Expression_right := He.meth_ok (c.fact 50 (f := .meth "Expression" "right") rfl)
  have me_Expression_star := He.meth_ok (c.fact 51 (f := .meth "Expression" "star") rfl)
  have me_Expression_used_letters := He.meth_ok (c.fact 52 (f := .meth "Expression" "used_letters") rfl)
  have me_Ratio_eq := He.meth_ok (c.fact 53 (f := .meth "Ratio" "__eq__") rfl)
  have mk_Expression := He.mkr_ok (c.fact 54 (f := .mkr "Expression") rfl)
  have mk_Ratio := He.mkr_ok (c.fact 55 (f := .mkr "Ratio") rfl)
  have na_Expression_kind := He.noat_ok (c.fact 56 (f := .noat "Expression" "kind") rfl)
  have na_Expression_parts := He.noat_ok (c.fact 57 (f := .noat "Expression" "parts") rfl)
  have na_Ratio_d := He.noat_ok (c.fact 58 (f := .noat "Ratio" "d") rfl)
  have na_Ratio_n := He.noat_ok (c.fact 59 (f := .noat "Ratio" "n") rfl)
  unfold ex at e
  simp only [Bool.and_eq_true, decide_eq_true_eq] at e
  obtain ⟨sf_Expression, e1, i1, i2, k1, ne⟩ := e
  have b_gcd : mg "gcd" = some (.builtin "math.gcd") := PySem.W.mg_of X G (He.eqO_ok e1)
  have kit_ok : Kit K (kit (csOf K)) := ⟨fun t u b q => kitB2_ok k1 (fun _ _ _ q => kit_in q) q, fun C u b q => by
    rcases kit_cls q with rfl | rfl
    · exact isCB_ok cl_Ratio i1
    · exact isCB_ok cl_Expression i2⟩
  exact ⟨{
    fd_xlaw_state := fd_xlaw_state,
    D_xlaw_state := D_xlaw_state,
    g_xlaw_state := g_xlaw_state,
    fd_Ratio_init := fd_Ratio_init,
    D_Ratio_init := D_Ratio_init,
    fd_Ratio_eq := fd_Ratio_eq,
    D_Ratio_eq := D_Ratio_eq,
    fd_Expression_eq := fd_Expression_eq,
    D_Expression_eq := D_Expression_eq,
    fd_xlaw_odd := fd_xlaw_odd,
    D_xlaw_odd := D_xlaw_odd,
    g_xlaw_odd := g_xlaw_odd,
    fd_xlaw_honest := fd_xlaw_honest,
    D_xlaw_honest := D_xlaw_honest,
    g_xlaw_honest := g_xlaw_honest,
    fd_Expression_init := fd_Expression_init,
    D_Expression_init := D_Expression_init,
    fd_is_short_word := fd_is_short_word,
    D_is_short_word := D_is_short_word,
    g_is_short_word := g_is_short_word,
    fd_letter_of := fd_letter_of,
    D_letter_of := D_letter_of,
    g_letter_of := g_letter_of,
    fd_Expression_star := fd_Expression_star,
    D_Expression_star := D_Expression_star,
    fd_Expression_reverse := fd_Expression_reverse,
    D_Expression_reverse := D_Expression_reverse,
    fd_Expression_left := fd_Expression_left,
    D_Expression_left := D_Expression_left,
    fd_Expression_right := fd_Expression_right,
    D_Expression_right := D_Expression_right,
    fd_number := fd_number,
    D_number := D_number,
    g_number := g_number,
    fd_Expression_add := fd_Expression_add,
    D_Expression_add := D_Expression_add,
    fd_Expression_mul := fd_Expression_mul,
    D_Expression_mul := D_Expression_mul,
    fd_Expression_and := fd_Expression_and,
    D_Expression_and := D_Expression_and,
    fd_Expression_xor := fd_Expression_xor,
    D_Expression_xor := D_Expression_xor,
    fd_xlaw_stepped := fd_xlaw_stepped,
    D_xlaw_stepped := D_xlaw_stepped,
    g_xlaw_stepped := g_xlaw_stepped,
    fd_xlaw_made := fd_xlaw_made,
    D_xlaw_made := D_xlaw_made,
    g_xlaw_made := g_xlaw_made,
    fd_xlaw_take := fd_xlaw_take,
    D_xlaw_take := D_xlaw_take,
    g_xlaw_take := g_xlaw_take,
    fd_xlaw_says := fd_xlaw_says,
    D_xlaw_says := D_xlaw_says,
    g_xlaw_says := g_xlaw_says,
    fd_xlaw_words := fd_xlaw_words,
    D_xlaw_words := D_xlaw_words,
    g_xlaw_words := g_xlaw_words,
    fd_Expression_operands := fd_Expression_operands,
    D_Expression_operands := D_Expression_operands,
    fd_measures := fd_measures,
    D_measures := D_measures,
    g_measures := g_measures,
    fd_Expression_depth := fd_Expression_depth,
    D_Expression_depth := D_Expression_depth,
    fd_Expression_count := fd_Expression_count,
    D_Expression_count := D_Expression_count,
    fd_Expression_used_letters := fd_Expression_used_letters,
    D_Expression_used_letters := D_Expression_used_letters,
    fd_xlaw_letters_of := fd_xlaw_letters_of,
    D_xlaw_letters_of := D_xlaw_letters_of,
    g_xlaw_letters_of := g_xlaw_letters_of,
    fd_is_long := fd_is_long,
    D_is_long := D_is_long,
    g_is_long := g_is_long,
    fd_is_expression := fd_is_expression,
    D_is_expression := D_is_expression,
    g_is_expression := g_is_expression,
    fd_xlaw_chain_holds := fd_xlaw_chain_holds,
    D_xlaw_chain_holds := D_xlaw_chain_holds,
    g_xlaw_chain_holds := g_xlaw_chain_holds,
    fd_xlaw_wide_holds := fd_xlaw_wide_holds,
    D_xlaw_wide_holds := D_xlaw_wide_holds,
    g_xlaw_wide_holds := g_xlaw_wide_holds,
    fd_xlaw_digits_hold := fd_xlaw_digits_hold,
    D_xlaw_digits_hold := D_xlaw_digits_hold,
    g_xlaw_digits_hold := g_xlaw_digits_hold,
    fd_law := fd_law,
    D_law := D_law,
    n_abs := n_abs,
    n_all := n_all,
    n_any := n_any,
    n_bool := n_bool,
    n_int := n_int,
    n_isinstance := n_isinstance,
    n_len := n_len,
    n_list := n_list,
    n_max := n_max,
    n_range := n_range,
    n_str := n_str,
    n_sum := n_sum,
    n_tuple := n_tuple,
    i_MOST_COUNT := i_MOST_COUNT,
    i_MOST_DEPTH := i_MOST_DEPTH,
    i_MOST_WORD := i_MOST_WORD,
    s_SMALL := s_SMALL,
    g_Expression := g_Expression,
    g_Ratio := g_Ratio,
    b_gcd := b_gcd,
    cl_Ratio := cl_Ratio,
    cl_Expression := cl_Expression,
    me_Expression_add := me_Expression_add,
    me_Expression_and := me_Expression_and,
    me_Expression_eq := me_Expression_eq,
    me_Expression_mul := me_Expression_mul,
    me_Expression_xor := me_Expression_xor,
    me_Expression_count := me_Expression_count,
    me_Expression_depth := me_Expression_depth,
    me_Expression_left := me_Expression_left,
    me_Expression_operands := me_Expression_operands,
    me_Expression_reverse := me_Expression_reverse,
    me_Expression_right := me_Expression_right,
    me_Expression_star := me_Expression_star,
    me_Expression_used_letters := me_Expression_used_letters,
    me_Ratio_eq := me_Ratio_eq,
    mk_Expression := mk_Expression,
    mk_Ratio := mk_Ratio,
    sf_Expression := sf_Expression,
    fld_d := by
      intro C hC
      simp only [List.mem_cons, List.mem_singleton, List.not_mem_nil, or_false] at hC
      rcases hC with rfl <;> first | exact ⟨cl_Ratio, na_Ratio_d⟩,
    fld_n := by
      intro C hC
      simp only [List.mem_cons, List.mem_singleton, List.not_mem_nil, or_false] at hC
      rcases hC with rfl <;> first | exact ⟨cl_Ratio, na_Ratio_n⟩,
    fld_parts := by
      intro C hC
      simp only [List.mem_cons, List.mem_singleton, List.not_mem_nil, or_false] at hC
      rcases hC with rfl <;> first | exact ⟨cl_Expression, na_Expression_parts⟩,
    fld_kind := by
      intro C hC
      simp only [List.mem_cons, List.mem_singleton, List.not_mem_nil, or_false] at hC
      rcases hC with rfl <;> first | exact ⟨cl_Expression, na_Expression_kind⟩,
    kit := kit_ok,
    ne := ne }, trivial⟩
end K77
end

section
namespace K77
open PySem L2 L3

abbrev R : PySem.W.OpenRow := PySem.W.OpenLaw.row PySem.Challenge.rw_seriesroads_k77_deep_expressions
abbrev hk : PySem.W.Hook := hookE2 5 fa fn ex
def ob (s : PySem.W.SharedT) : AlE := obsE2 5 fa fn ex (HandSHeadRun.getT s)
theorem ob_eq (s : PySem.W.SharedT) : ob s = hk.obs s.abs := obsE2_eq (HandSHeadRun.getT_eq s)
def loose : List Str := ["_wall", "Fault", "ZeroDivisor", "Malformed", "PIECE", "written_integer", "Ratio", "SMALL", "MOST_DEPTH", "MOST_COUNT", "MOST_WORD", "is_short_word", "Expression", "measures", "number", "letter_of", "is_long", "is_expression", "_law_state", "_law_odd", "_law_honest", "_law_take", "_law_words", "_law_stepped", "_law_made", "_law_letters_of", "_law_says", "_law_chain_holds", "_law_wide_holds", "_law_digits_hold"]
set_option maxHeartbeats 0 in
theorem run (w : World) : HandSHeadRun.RunEqI R (PySem.W.view R.prog [0, 35]) hk ob 20000 loose w := by
  unfold HandSHeadRun.RunEqI
  kernel_rfl
end K77
end

namespace K77
open PySem L2 L3
open PySem.Spec PyProof.Rows in
theorem facts {P : Program} {w : World} {K : PySem.W.Frag} {h : Heap} {mg : Str → Option Value} {f : Addr} (X : K.In h) (G : h.Ns mainGlobals mg) (hfa : mg ("law" : Str) = some (.ref f)) (c : He.SaysD fa fn K) (e : ex K = true) :
    ∃ fd : FuncData, (∀ (s : Shared) (v : Value), BindsTo s fd ⟨[v], []⟩ [("script", v)]) ∧ (csOf K).Ratio ≠ (csOf K).Expression ∧ ∀ base : Heap, K.In base → base.Ns mainGlobals mg → FnOk P w K mg base CX0 206 f fd ["script"] (spL K 1 false (F_law (csOf K))) := by
  obtain ⟨T, _⟩ := fc X G c e
  have hl : mg ("law" : Str) = some (.ref (He.ga K "law")) := He.glo_ok X G (c.fact 0 (f := .glo "law") rfl)
  have e2 := hfa.symm.trans hl
  cases e2
  have b := FunD.bindsA (ps := ["script"]) T.D_law fun _ _ _ _ _ _ us hl => match us, hl with | [_], _ => rfl
  exact ⟨T.fd_law, fun s v => b s [v] rfl, T.ne, fun base _ _ => ok_law T⟩
end K77
open PySem PySem.W PySem.Calls PyProof.Rows
theorem PySem.Challenge.cw_seriesroads_k77_deep_expressions_holds : PySem.Challenge.rw_seriesroads_k77_deep_expressions.Holds := by
  w_on; o_law
  refine HandSHeadRun.head_imp (r := OpenLaw.row PySem.Challenge.rw_seriesroads_k77_deep_expressions) (q := view (OpenLaw.row PySem.Challenge.rw_seriesroads_k77_deep_expressions).prog [0, 35]) (H := K77.hk) (ob := K77.ob) (M := 20000) (loose := K77.loose) (d := HandSHeadRun.topDef (OpenLaw.row PySem.Challenge.rw_seriesroads_k77_deep_expressions).prog 35) (kwd := []) K77.ob_eq
    K77.run (by kernel_rfl) (by kernel_rfl) (by kernel_rfl) (by rfl) (by first | assumption | decide +kernel) (by decide +kernel) ⟨rfl, rfl, rfl, rfl, rfl, by decide +kernel⟩ ?hw ?hc
  case hw => w_witness2
  case hc =>
    refine L3.walk_ofEB (l := PySem.Challenge.rw_seriesroads_k77_deep_expressions) (n := 63) (k := 206) (x := "script") (CX := L2.CX0) rfl (by decide) (by kernel_rfl) ⟨rfl, by decide, by decide⟩ ?F (fun _ _ _ _ z => z)
    intro w mg fa h Y G hmg0
    obtain ⟨K, KX, c, e⟩ := Y
    have hmg : mg ("law" : PySem.Str) = some (.ref fa) := by
      have e : (HandSHeadRun.topDef (OpenLaw.row PySem.Challenge.rw_seriesroads_k77_deep_expressions).prog 35).name = ("law" : PySem.Str) := by kernel_rfl
      rw [← e]
      exact hmg0
    obtain ⟨fd, hb, hne, hF⟩ := K77.facts (P := (PySem.Challenge.rw_seriesroads_k77_deep_expressions).prog) (w := w) KX G hmg c e
    refine ⟨K, fd, L3.spL K 1 false (K77.F_law (K77.csOf K)), KX, hb, fun H a ns hl hbits _ hS => ?_, hF⟩
    obtain ⟨u, hu⟩ := K77.law_ok (K77.csOf K) hne ns hl hbits
    exact L3.law_sp hS hu
