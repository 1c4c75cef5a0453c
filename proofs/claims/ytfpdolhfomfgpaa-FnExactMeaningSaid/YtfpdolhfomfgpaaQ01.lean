/-
  Values at a distance from memory, states of a call, and contracts of functions over them. No condition.
-/
import Derived.Calls
import Derived.Tactics
import Derived.Sort.Walk0
namespace Go.Av

/-- What a value is, memory read through: a frozen slice is the list of its elements (each the list of its cells), a frozen pointer the cells that it leads to. -/
inductive V where
  | int (k : IntKind) (n : Int)
  | bool (b : Bool)
  | str (s : List UInt8)
  | x (v : Value)
  | agg (cs : List V)
  | fsl (s : Nat) (es : List (List V))
  | nils
  | fptr (cs : List V)
  | iface (t : TypeId) (v : V)
  | func (fn : Fn) (cap : List V)
  | tup (vs : List V)
instance : Inhabited V := ⟨.bool false⟩

abbrev Fz := Nat → Option (Array Value)

/-- A value that one cell may hold. -/
def oneC : Value → Bool
  | .agg _ | .tuple _ => false
  | _ => true
/-- Values, each of one cell. -/
def oneAll (vs : List Value) : Prop := ∀ v ∈ vs, oneC v = true

mutual
def Rep (F : Fz) : V → Value → Prop
  | .int k n, y => y = .int k n
  | .bool b, y => y = .bool b
  | .str s, y => y = .string ⟨s.toArray⟩
  | .x v, y => y = v
  | .agg cs, y => ∃ ys, y = .agg ys ∧ RepL F cs ys.toList
  | .fsl s es, y => ∃ a cap, y = .slice a es.length cap ∧ es.length ≤ min cap 9223372036854775807 ∧ (es = [] ∨ ∃ b o arr, a = some ⟨b, o, none⟩ ∧ F b = some arr ∧ RepR F s arr es o)
  | .nils, y => y = .slice none 0 0
  | .fptr cs, y => ∃ b o arr, y = .pointer (some ⟨b, o, none⟩) ∧ F b = some arr ∧ RepC F arr cs o
  | .iface t v, y => ∃ u, y = .iface t u ∧ Rep F v u
  | .func fn cap, y => ∃ us, y = .func fn #[] us ∧ RepL F cap us.toList
  | .tup vs, y => ∃ us, y = .tuple us ∧ RepL F vs us.toList
def RepL (F : Fz) : List V → List Value → Prop
  | [], ys => ys = []
  | c :: cs, ys => ∃ y r, ys = y :: r ∧ Rep F c y ∧ RepL F cs r
def RepC (F : Fz) (arr : Array Value) : List V → Nat → Prop
  | [], _ => True
  | c :: cs, o => (∃ y, arr[o]? = some y ∧ oneC y = true ∧ Rep F c y) ∧ RepC F arr cs (o + 1)
def RepR (F : Fz) (s : Nat) (arr : Array Value) : List (List V) → Nat → Prop
  | [], _ => True
  | e :: es, o => e.length = s ∧ RepC F arr e o ∧ RepR F s arr es (o + s)
end

def Fz.le (F F' : Fz) : Prop := ∀ b arr, F b = some arr → F' b = some arr
theorem Fz.le_refl (F : Fz) : F.le F := fun _ _ h => h
theorem Fz.le_trans {F F' F'' : Fz} (h : F.le F') (h' : F'.le F'') : F.le F'' := fun b a e => h' b a (h b a e)

mutual
theorem Rep.mono {F F' : Fz} (h : F.le F') : ∀ (v : V) (y : Value), Rep F v y → Rep F' v y
  | .int k n, y => by simp [Rep]
  | .bool b, y => by simp [Rep]
  | .str s, y => by simp [Rep]
  | .x v, y => by simp [Rep]
  | .agg cs, y => by simp only [Rep]; rintro ⟨ys, e, r⟩; exact ⟨ys, e, RepL.mono h _ _ r⟩
  | .fsl s es, y => by
    simp only [Rep]
    rintro ⟨a, cap, e, hc, r⟩
    refine ⟨a, cap, e, hc, r.imp id ?_⟩
    rintro ⟨b, o, arr, ha, hb, r⟩
    exact ⟨b, o, arr, ha, h _ _ hb, RepR.mono h _ _ _ _ r⟩
  | .nils, y => by simp [Rep]
  | .fptr cs, y => by
    simp only [Rep]
    rintro ⟨b, o, arr, e, hb, r⟩
    exact ⟨b, o, arr, e, h _ _ hb, RepC.mono h _ _ _ r⟩
  | .iface t v, y => by simp only [Rep]; rintro ⟨u, e, r⟩; exact ⟨u, e, Rep.mono h _ _ r⟩
  | .func fn cap, y => by simp only [Rep]; rintro ⟨us, e, r⟩; exact ⟨us, e, RepL.mono h _ _ r⟩
  | .tup vs, y => by simp only [Rep]; rintro ⟨us, e, r⟩; exact ⟨us, e, RepL.mono h _ _ r⟩
theorem RepL.mono {F F' : Fz} (h : F.le F') : ∀ (cs : List V) (ys : List Value), RepL F cs ys → RepL F' cs ys
  | [], ys => by simp [RepL]
  | c :: cs, ys => by simp only [RepL]; rintro ⟨y, r, e, hc, hr⟩; exact ⟨y, r, e, Rep.mono h _ _ hc, RepL.mono h _ _ hr⟩
theorem RepC.mono {F F' : Fz} (h : F.le F') : ∀ (arr : Array Value) (cs : List V) (o : Nat), RepC F arr cs o → RepC F' arr cs o
  | arr, [], o => by simp [RepC]
  | arr, c :: cs, o => by simp only [RepC]; rintro ⟨⟨y, e, ho, hc⟩, hr⟩; exact ⟨⟨y, e, ho, Rep.mono h _ _ hc⟩, RepC.mono h _ _ _ hr⟩
theorem RepR.mono {F F' : Fz} (h : F.le F') : ∀ (s : Nat) (arr : Array Value) (es : List (List V)) (o : Nat), RepR F s arr es o → RepR F' s arr es o
  | s, arr, [], o => by simp [RepR]
  | s, arr, e :: es, o => by simp only [RepR]; rintro ⟨hl, hc, hr⟩; exact ⟨hl, RepC.mono h _ _ _ hc, RepR.mono h _ _ _ _ hr⟩
end

/-- A value in a call's frame: a frozen one, or a reference to one of the objects by its number; 'any' is not known. -/
inductive LV where
  | g (v : V)
  | loc (k off : Nat)
  | elt (k i off : Nat)
  | rw (k : Nat)
  | lsl (k lo hi : Nat)
  | mp (k : Nat)
  | agg (cs : List LV)
  | iface (t : TypeId) (v : LV)
  | func (fn : Fn) (cap : List LV)
  | tup (vs : List LV)
  | any
instance : Inhabited LV := ⟨.any⟩

/-- Where an object lies: its block, the offset of its first cell, the cells of an element, how many elements it has and how many fit; 'none': a nil row. -/
structure Pl where
  at_ : Option (Nat × Nat)
  s : Nat := 1
  len : Nat := 0
  cap : Nat := 0
  pin : Bool := false

mutual
def LRep (F : Fz) (σ : List Pl) : LV → Value → Prop
  | .g v, y => Rep F v y
  | .loc k off, y => ∃ p b o, σ[k]? = some p ∧ p.at_ = some (b, o) ∧ y = .pointer (some ⟨b, o + off, none⟩)
  | .elt k i off, y => ∃ p b o, σ[k]? = some p ∧ p.at_ = some (b, o) ∧ y = .pointer (some ⟨b, o + i * p.s + off, none⟩)
  | .rw k, y => ∃ p a, σ[k]? = some p ∧ y = .slice a p.len p.cap ∧ ((p.at_ = none ∧ p.cap = 0) ∨ ∃ b o, p.at_ = some (b, o) ∧ a = some ⟨b, o, none⟩)
  | .lsl k lo hi, y => ∃ p a, σ[k]? = some p ∧ y = .slice a (hi - lo) (p.cap - lo) ∧ lo ≤ hi ∧ hi ≤ p.len ∧ (p.cap = lo ∨ ∃ b o, p.at_ = some (b, o) ∧ a = some ⟨b, o + lo * p.s, none⟩)
  | .mp k, y => ∃ p b o, σ[k]? = some p ∧ p.at_ = some (b, o) ∧ y = .map (some b)
  | .agg cs, y => ∃ ys, y = .agg ys ∧ LRepL F σ cs ys.toList
  | .iface t v, y => ∃ u, y = .iface t u ∧ LRep F σ v u
  | .func fn cap, y => ∃ us, y = .func fn #[] us ∧ LRepL F σ cap us.toList
  | .tup vs, y => ∃ us, y = .tuple us ∧ LRepL F σ vs us.toList
  | .any, _ => True
def LRepL (F : Fz) (σ : List Pl) : List LV → List Value → Prop
  | [], ys => ys = []
  | c :: cs, ys => ∃ y r, ys = y :: r ∧ LRep F σ c y ∧ LRepL F σ cs r
end

/-- The objects: a box of cells; a row that may grow; the same frozen; a map; one of which nothing is known any more. -/
inductive Obj where
  | cells (cs : List LV)
  | row (pn : Bool) (s : Nat) (es : List (List V))
  | fcells (cs : List V)
  | frow (s : Nat) (es : List (List V))
  | map (es : List (V × V))
  | mit (km since : Nat) (seen : List Nat)
  | dead
instance : Inhabited Obj := ⟨.dead⟩
end Go.Av

namespace Go.Av
set_option linter.unusedVariables false
set_option linter.unusedSimpArgs false

mutual
theorem LRep.mono {F F' : Fz} {σ σ' : List Pl} (h : F.le F') (hσ : ∀ (k : Nat) (p : Pl), σ[k]? = some p → σ'[k]? = some p) : ∀ (v : LV) (y : Value), LRep F σ v y → LRep F' σ' v y
  | .g v, y => by simp only [LRep]; exact Rep.mono h _ _
  | .loc k off, y => by simp only [LRep]; rintro ⟨p, b, o, e, r⟩; exact ⟨p, b, o, hσ _ _ e, r⟩
  | .elt k i off, y => by simp only [LRep]; rintro ⟨p, b, o, e, r⟩; exact ⟨p, b, o, hσ _ _ e, r⟩
  | .rw k, y => by simp only [LRep]; rintro ⟨p, a, e, r⟩; exact ⟨p, a, hσ _ _ e, r⟩
  | .lsl k lo hi, y => by simp only [LRep]; rintro ⟨p, a, e, r⟩; exact ⟨p, a, hσ _ _ e, r⟩
  | .mp k, y => by simp only [LRep]; rintro ⟨p, b, o, e, r⟩; exact ⟨p, b, o, hσ _ _ e, r⟩
  | .agg cs, y => by simp only [LRep]; rintro ⟨ys, e, r⟩; exact ⟨ys, e, LRepL.mono h hσ _ _ r⟩
  | .iface t v, y => by simp only [LRep]; rintro ⟨u, e, r⟩; exact ⟨u, e, LRep.mono h hσ _ _ r⟩
  | .func fn cap, y => by simp only [LRep]; rintro ⟨us, e, r⟩; exact ⟨us, e, LRepL.mono h hσ _ _ r⟩
  | .tup vs, y => by simp only [LRep]; rintro ⟨us, e, r⟩; exact ⟨us, e, LRepL.mono h hσ _ _ r⟩
  | .any, y => by simp [LRep]
theorem LRepL.mono {F F' : Fz} {σ σ' : List Pl} (h : F.le F') (hσ : ∀ (k : Nat) (p : Pl), σ[k]? = some p → σ'[k]? = some p) : ∀ (cs : List LV) (ys : List Value), LRepL F σ cs ys → LRepL F' σ' cs ys
  | [], ys => by simp [LRepL]
  | c :: cs, ys => by simp only [LRepL]; rintro ⟨y, r, e, hc, hr⟩; exact ⟨y, r, e, LRep.mono h hσ _ _ hc, LRepL.mono h hσ _ _ hr⟩
end

/-- No cell of the block is frozen by a string's bytes. -/
def Free (arr : Array Value) (z : Nat × Nat) : Prop := ∀ i, i < arr.size → ¬ (z.1 ≤ i ∧ i < z.2)

/-- The entries of a map in the order of their making; none was ever taken out. -/
def RepM (F : Fz) : List (V × V) → List MapEntry → Nat → Prop
  | [], es, _ => es = []
  | x :: xs, es, n => ∃ e r, es = e :: r ∧ e.born = n ∧ Rep F x.1 e.key ∧ Rep F x.2 e.val ∧ RepM F xs r (n + 1)
theorem RepM.mono {F F' : Fz} (h : F.le F') : ∀ {xs : List (V × V)} {es : List MapEntry} {n : Nat}, RepM F xs es n → RepM F' xs es n
  | [], es, n, r => r
  | x :: xs, es, n, ⟨e, r, h1, h2, h3, h4, h5⟩ => ⟨e, r, h1, h2, Rep.mono h _ _ h3, Rep.mono h _ _ h4, RepM.mono h h5⟩

def ObjOk (F : Fz) (σ : List Pl) (w : World) : Obj → Pl → Prop
  | .cells cs, p => ∃ b arr e z, p.at_ = some (b, 0) ∧ F b = none ∧ w.heap[b]? = some (.cells arr e z) ∧ Free arr z ∧ oneAll arr.toList ∧ LRepL F σ cs arr.toList
  | .row _ s es, p => p.s = s ∧ es.length = p.len ∧ p.len ≤ min p.cap 9223372036854775807 ∧ ((p.at_ = none ∧ p.cap = 0) ∨
      ∃ b o arr e z, p.at_ = some (b, o) ∧ F b = none ∧ w.heap[b]? = some (.cells arr e z) ∧ Free arr z ∧ o + p.cap * s ≤ arr.size ∧ RepR F s arr es o)
  | .fcells cs, p => ∃ b o arr, p.at_ = some (b, o) ∧ F b = some arr ∧ RepC F arr cs o
  | .frow s es, p => p.s = s ∧ es.length = p.len ∧ p.len ≤ min p.cap 9223372036854775807 ∧ ((p.at_ = none ∧ p.cap = 0) ∨ ∃ b o arr, p.at_ = some (b, o) ∧ F b = some arr ∧ RepR F s arr es o)
  | .map es, p => ∃ b ents, p.at_ = some (b, 0) ∧ F b = none ∧ w.heap[b]? = some (.map ents es.length) ∧ RepM F es ents.toList 0
  | .mit km since seen, p => ∃ b m pm ents, p.at_ = some (b, 0) ∧ F b = none ∧ w.heap[b]? = some (.mapIter (some m) since ents since) ∧ ents.toList = seen ∧ σ[km]? = some pm ∧ pm.at_ = some (m, 0) ∧ pm.pin = true
  | .dead, _ => True

/-- Owned, to be written. -/
def Obj.live : Obj → Bool
  | .cells _ | .row _ _ _ | .map _ | .mit _ _ _ => true
  | _ => false

abbrev Gl := List (Nat × List V)

/-- Whose place never turns: boxes, maps, rows that are marked so. -/
def pinOk : Obj → Pl → Prop
  | .cells _, p => p.pin = true
  | .row b _ _, p => p.pin = b
  | .map _, p => p.pin = true
  | .mit _ _ _, p => p.pin = true
  | _, _ => True

structure St (G : Gl) (F : Fz) (σ : List Pl) (O : List Obj) (w : World) : Prop where
  fz : ∀ b arr, F b = some arr → ∃ e z, w.heap[b]? = some (.cells arr e z)
  gl : ∀ x ∈ G, ∃ arr, F x.1 = some arr ∧ RepC F arr x.2 0
  len : O.length = σ.length
  obj : ∀ (k : Nat) (o : Obj) (p : Pl), O[k]? = some o → σ[k]? = some p → ObjOk F σ w o p
  inside : ∀ p ∈ σ, ∀ b o, p.at_ = some (b, o) → b < w.heap.size
  apart : ∀ (i j : Nat) (p q : Pl) (oi oj : Obj) (b c d e : Nat), i ≠ j → O[i]? = some oi → O[j]? = some oj → oi.live = true → oj.live = true → σ[i]? = some p → σ[j]? = some q → p.at_ = some (b, c) → q.at_ = some (d, e) → b ≠ d
  pin : ∀ (k : Nat) (o : Obj) (p : Pl), O[k]? = some o → σ[k]? = some p → pinOk o p

/-- The blocks that a call over these objects may write: the objects' own and new ones. -/
def May (σ : List Pl) (w : World) (b : Nat) : Prop := w.heap.size ≤ b ∨ ∃ p ∈ σ, ∃ o, p.at_ = some (b, o)

structure Step (F : Fz) (σ : List Pl) (w : World) (F' : Fz) (σ' : List Pl) (w' : World) : Prop where
  le : F.le F'
  frame : ∀ b, ¬ May σ w b → w'.heap[b]? = w.heap[b]?
  fnew : ∀ b, F b = none → F' b ≠ none → May σ w b
  pnew : ∀ p ∈ σ', ∀ b o, p.at_ = some (b, o) → May σ w b
  size : w.heap.size ≤ w'.heap.size
  os : w'.os = w.os
  tape : w'.tape = w.tape
  output : w'.output = w.output
  pins : ∀ (k : Nat) (p : Pl), σ[k]? = some p → p.pin = true → σ'[k]? = some p
  len : σ.length ≤ σ'.length

theorem May.back {F F' : Fz} {σ σ' : List Pl} {w w' : World} (h : Step F σ w F' σ' w') {b : Nat} (hb : May σ' w' b) : May σ w b := by
  rcases hb with hb | ⟨p, hp, o, ho⟩
  · exact .inl (Nat.le_trans h.size hb)
  · exact h.pnew p hp b o ho

theorem Step.refl (F : Fz) (σ : List Pl) (w : World) : Step F σ w F σ w :=
  ⟨Fz.le_refl F, fun _ _ => rfl, fun b h h' => absurd h h', fun p hp b o ho => .inr ⟨p, hp, o, ho⟩, Nat.le_refl _, rfl, rfl, rfl, fun _ _ h _ => h, Nat.le_refl _⟩

theorem Step.trans {F F' F'' : Fz} {σ σ' σ'' : List Pl} {w w' w'' : World} (h : Step F σ w F' σ' w') (k : Step F' σ' w' F'' σ'' w'') : Step F σ w F'' σ'' w'' where
  le := Fz.le_trans h.le k.le
  frame b hb := (k.frame b fun h' => hb (h'.back h)).trans (h.frame b hb)
  fnew b h1 h2 := by
    by_cases e : F' b = none
    · exact (k.fnew b e h2).back h
    · exact h.fnew b h1 e
  pnew p hp b o ho := (k.pnew p hp b o ho).back h
  size := Nat.le_trans h.size k.size
  os := k.os.trans h.os
  tape := k.tape.trans h.tape
  output := k.output.trans h.output
  pins i p h1 h2 := k.pins i p (h.pins i p h1 h2) h2
  len := Nat.le_trans h.len k.len

/-- A draw: the world's count alone. -/
theorem Step.drawn (F : Fz) (σ : List Pl) (w : World) (n : Nat) : Step F σ w F σ { w with drawn := n } :=
  ⟨Fz.le_refl F, fun _ _ => rfl, fun b h h' => absurd h h', fun p hp b o ho => .inr ⟨p, hp, o, ho⟩, Nat.le_refl _, rfl, rfl, rfl, fun _ _ h _ => h, Nat.le_refl _⟩
theorem ObjOk.of_heap {F : Fz} {σ : List Pl} {w w' : World} (h : w'.heap = w.heap) : ∀ (o : Obj) (p : Pl), ObjOk F σ w o p → ObjOk F σ w' o p
  | .cells cs, p => by simp only [ObjOk, h]; exact id
  | .row _ s es, p => by simp only [ObjOk, h]; exact id
  | .fcells cs, p => id
  | .frow s es, p => id
  | .map es, p => by simp only [ObjOk, h]; exact id
  | .mit _ _ _, p => by simp only [ObjOk, h]; exact id
  | .dead, _ => fun _ => trivial
theorem St.of_heap {G : Gl} {F : Fz} {σ : List Pl} {O : List Obj} {w w' : World} (h : w'.heap = w.heap) (s : St G F σ O w) : St G F σ O w' :=
  ⟨fun b arr e => by rw [h]; exact s.fz b arr e, s.gl, s.len, fun k o p ho hp => ObjOk.of_heap h o p (s.obj k o p ho hp), fun p hp b o ho => by rw [h]; exact s.inside p hp b o ho, s.apart, s.pin⟩

/-- What a call comes to, over states: it returns; K tells of the result and of the objects. -/
def ACalls (P : Program) (G : Gl) (f : FuncId) (args : List LV) (E : List Obj) (K : LV → List Obj → Prop) : Prop :=
  ∀ (F : Fz) (σ : List Pl) (w : World) (vals : Array Value), St G F σ E w → LRepL F σ args vals.toList →
    Calls P f vals w fun e w' => ∃ v r E' F' σ', e = .returned v ∧ K r E' ∧ LRep F' σ' r v ∧ St G F' σ' E' w' ∧ Step F σ w F' σ' w'

theorem ACalls.mono {P : Program} {G : Gl} {f : FuncId} {args : List LV} {E : List Obj} {K K' : LV → List Obj → Prop} (h : ACalls P G f args E K) (hk : ∀ r E', K r E' → K' r E') : ACalls P G f args E K' :=
  fun F σ w vals hs ha => (h F σ w vals hs ha).mono fun _ _ ⟨v, r, E', F', σ', he, hK, rest⟩ => ⟨v, r, E', F', σ', he, hk _ _ hK, rest⟩

/-- Code over states. -/
def AW (P : Program) (G : Gl) (c : Code) (fr : List LV) (O : List Obj) (Q : Exit → List LV → List Obj → Prop) : Prop :=
  ∀ (F : Fz) (σ : List Pl) (a : Act) (w : World), St G F σ O w → LRepL F σ fr a.tmps.toList → a.defers = [] →
    c.wp P (fun e a' w' => ∃ fr' O' F' σ', Q e fr' O' ∧ LRepL F' σ' fr' a'.tmps.toList ∧ a'.defers = [] ∧ St G F' σ' O' w' ∧ Step F σ w F' σ' w') a w

section
variable {P : Program} {G : Gl} {fr : List LV} {O : List Obj} {Q Q' : Exit → List LV → List Obj → Prop}

theorem AW.mono {c : Code} (h : AW P G c fr O Q) (hq : ∀ e fr O, Q e fr O → Q' e fr O) : AW P G c fr O Q' :=
  fun F σ a w hs hf hd => wp_mono (h F σ a w hs hf hd) fun _ _ _ ⟨fr', O', F', σ', q, rest⟩ => ⟨fr', O', F', σ', hq _ _ _ q, rest⟩

theorem AW.skip (h : Q .normal fr O) : AW P G .skip fr O Q :=
  fun F σ _ w hs hf hd => wp_skip ⟨fr, O, F, σ, h, hf, hd, hs, .refl F σ w⟩
theorem AW.exit {id : Nat} (h : Q (.exit id) fr O) : AW P G (.exit id) fr O Q :=
  fun F σ _ w hs hf hd => wp_exit ⟨fr, O, F, σ, h, hf, hd, hs, .refl F σ w⟩
theorem AW.ret (h : Q .ret fr O) : AW P G .ret fr O Q :=
  fun F σ _ w hs hf hd => wp_ret ⟨fr, O, F, σ, h, hf, hd, hs, .refl F σ w⟩

/-- The post of a first part: on its normal end goes the second part. -/
def thenQ (next : List LV → List Obj → Prop) (Q : Exit → List LV → List Obj → Prop) : Exit → List LV → List Obj → Prop
  | .normal, fr, O => next fr O
  | e, fr, O => Q e fr O

theorem AW.seq {x y : Code} (h : AW P G x fr O (thenQ (fun fr O => AW P G y fr O Q) Q)) : AW P G (.seq x y) fr O Q := by
  intro F σ a w hs hf hd
  refine wp_seq (wp_mono (h F σ a w hs hf hd) ?_)
  rintro e a' w' ⟨fr', O', F', σ', q, hf', hd', hs', st⟩
  cases e with
  | normal =>
    refine wp_mono (q F' σ' a' w' hs' hf' hd') ?_
    rintro e a₂ w₂ ⟨fr₂, O₂, F₂, σ₂, q₂, hf₂, hd₂, hs₂, st₂⟩
    exact ⟨fr₂, O₂, F₂, σ₂, q₂, hf₂, hd₂, hs₂, st.trans st₂⟩
  | _ => exact ⟨fr', O', F', σ', q, hf', hd', hs', st⟩

theorem LRepL.get {F : Fz} {σ : List Pl} : ∀ {cs : List LV} {ys : List Value}, LRepL F σ cs ys → ∀ {t : Nat} {x : LV}, cs[t]? = some x → ∃ y, ys[t]? = some y ∧ LRep F σ x y
  | [], ys, h, t, x, e => by simp at e
  | c :: cs, ys, h, 0, x, e => by
    obtain ⟨y, r, rfl, hc, hr⟩ := h
    obtain rfl : c = x := by simpa using e
    exact ⟨y, rfl, hc⟩
  | c :: cs, ys, h, t + 1, x, e => by
    obtain ⟨y, r, rfl, hc, hr⟩ := h
    exact LRepL.get hr (by simpa using e)
theorem LRepL.length {F : Fz} {σ : List Pl} : ∀ {cs : List LV} {ys : List Value}, LRepL F σ cs ys → ys.length = cs.length
  | [], ys, h => by simp only [LRepL] at h; simp [h]
  | c :: cs, ys, h => by obtain ⟨y, r, rfl, hc, hr⟩ := h; simp [LRepL.length hr]
theorem LRepL.set {F : Fz} {σ : List Pl} : ∀ {cs : List LV} {ys : List Value}, LRepL F σ cs ys → ∀ {t : Nat} {x : LV} {y : Value}, LRep F σ x y → LRepL F σ (cs.set t x) (ys.set t y)
  | [], ys, h, t, x, y, e => by simp only [LRepL] at h; subst h; simp [LRepL]
  | c :: cs, ys, h, 0, x, y, e => by
    obtain ⟨y', r, rfl, hc, hr⟩ := h
    exact ⟨y, r, rfl, e, hr⟩
  | c :: cs, ys, h, t + 1, x, y, e => by
    obtain ⟨y', r, rfl, hc, hr⟩ := h
    exact ⟨y', r.set t y, rfl, hc, LRepL.set hr e⟩

theorem AW.cond {t : Nat} {x y : Code} {b : Bool} (hc : fr[t]? = some (.g (.bool b))) (h1 : b = true → AW P G x fr O Q) (h2 : b = false → AW P G y fr O Q) : AW P G (.cond (.tmp t) x y) fr O Q := by
  intro F σ a w hs hf hd
  obtain ⟨v, hv, hr⟩ := hf.get hc
  simp only [LRep, Rep] at hr
  have he : a.eval (.tmp t) = .bool b := by
    simp only [Act.eval, Array.getD_eq_getD_getElem?]
    rw [← Array.getElem?_toList, hv, hr]; rfl
  refine wp_cond he ?_
  cases b
  · exact h2 rfl F σ a w hs hf hd
  · exact h1 rfl F σ a w hs hf hd

def inBlockQ (id : Nat) (Q : Exit → List LV → List Obj → Prop) : Exit → List LV → List Obj → Prop
  | .exit id', fr, O => if id' = id then Q .normal fr O else Q (.exit id') fr O
  | e, fr, O => Q e fr O

theorem AW.block {id : Nat} {c : Code} (h : AW P G c fr O (inBlockQ id Q)) : AW P G (.block id c) fr O Q := by
  intro F σ a w hs hf hd
  refine wp_block (wp_mono (h F σ a w hs hf hd) ?_)
  rintro e a' w' ⟨fr', O', F', σ', q, rest⟩
  cases e with
  | exit id' =>
    simp only [inBlockQ] at q
    simp only [Exit.inBlock]
    split
    · rename_i e; rw [if_pos e] at q; exact ⟨fr', O', F', σ', q, rest⟩
    · rename_i e; rw [if_neg e] at q; exact ⟨fr', O', F', σ', q, rest⟩
  | _ => exact ⟨fr', O', F', σ', q, rest⟩

/-- A loop whose relation is numbered: every round lowers the number. -/
theorem wp_loopN {c : Code} {R : Exit → Act → World → Prop} {a : Act} {w : World} (I : Nat → Act → World → Prop) (n : Nat) (h₀ : I n a w)
    (round : ∀ n a w, I n a w → c.wp P (Exit.then (fun a' w' => ∃ m, m < n ∧ I m a' w') R) a w) : (Code.loop c).wp P R a w := by
  intro b k cs
  have key : ∀ n a w, I n a w → ∃ e a' w', R e a' w' ∧ Arrives P (lone (b.at a (.code c :: .inLoop c :: k)) cs w) b k cs e a' w' := by
    intro n
    induction n using Nat.strongRecOn with
    | _ n ih =>
      intro a w hI
      obtain ⟨e, a₁, w₁, hq, harr⟩ := round n a w hI b (.inLoop c :: k) cs
      cases e with
      | normal =>
        obtain ⟨m, hlt, hI₁⟩ := hq
        obtain ⟨e₂, a₂, w₂, hq₂, harr₂⟩ := ih m hlt a₁ w₁ hI₁
        exact ⟨e₂, a₂, w₂, hq₂, .of_steps (Steps.trans harr (.one step_inLoop)) harr₂⟩
      | exit id => exact ⟨_, a₁, w₁, hq, .pass (x := .inLoop c) rfl (fun _ _ => .inl (by simp)) harr⟩
      | goto l => exact ⟨_, a₁, w₁, hq, .pass (x := .inLoop c) rfl (fun _ _ => .inl (by simp)) harr⟩
      | ret => exact ⟨_, a₁, w₁, hq, .pass (x := .inLoop c) rfl (fun _ _ => .inl (by simp)) harr⟩
      | panic ch => exact ⟨_, a₁, w₁, hq, .pass (x := .inLoop c) rfl (fun _ _ => .inl (by simp)) harr⟩
      | outgrown => exact ⟨_, a₁, w₁, hq, .pass (x := .inLoop c) rfl (fun _ _ => .inl (by simp)) harr⟩
  obtain ⟨e, a', w', hq, harr⟩ := key _ a w h₀
  exact ⟨e, a', w', hq, .of_steps (.one step_loop) harr⟩

end
end Go.Av

namespace Go.Av
set_option linter.unusedVariables false

inductive Od where
  | t (n : Nat)
  | c (v : V)

def get : List LV → Nat → LV
  | [], _ => .any
  | x :: _, 0 => x
  | _ :: l, n + 1 => get l n
def st : List LV → Nat → LV → List LV
  | [], _, _ => []
  | _ :: l, 0, v => v :: l
  | x :: l, n + 1, v => x :: st l n v
def ev (fr : List LV) : Od → LV
  | .t n => get fr n
  | .c v => .g v
def og : List Obj → Nat → Obj
  | [], _ => .dead
  | x :: _, 0 => x
  | _ :: l, n + 1 => og l n
def os : List Obj → Nat → Obj → List Obj
  | [], _, _ => []
  | _ :: l, 0, v => v :: l
  | x :: l, n + 1, v => x :: os l n v
def dr {α : Type} : Nat → List α → List α
  | 0, l => l
  | n + 1, [] => []
  | n + 1, _ :: l => dr n l
def tk {α : Type} : Nat → List α → List α
  | 0, _ => []
  | n + 1, [] => []
  | n + 1, x :: l => x :: tk n l
/-- At least so long. -/
def lg {α : Type} : Nat → List α → Prop
  | 0, _ => True
  | _ + 1, [] => False
  | n + 1, _ :: l => lg n l
def hd {α : Type} (d : α) : List α → α
  | [] => d
  | x :: _ => x

/-- The number is one of the kind's. -/
def inR (k : IntKind) (n : Int) : Prop := k.min ≤ n ∧ n ≤ k.max

def bitv (op : BinOp) (k : IntKind) (x y : Int) : Int :=
  let a := BitVec.ofInt k.bits x
  let b := BitVec.ofInt k.bits y
  match op with
  | .and => k.wrap (a &&& b).toNat
  | .or => k.wrap (a ||| b).toNat
  | .xor => k.wrap (a ^^^ b).toNat
  | .andNot => k.wrap (a &&& ~~~b).toNat
  | _ => 0

/-- A value under its condition. -/
structure R where
  ok : Prop
  v : LV

def no : R := ⟨False, .any⟩
def tru (b : Bool) : LV := .g (.bool b)

def intB (op : BinOp) (wr : Bool) (k j : IntKind) (a b : Int) : R :=
  match op with
  | .shl => ⟨0 ≤ b, .g (.int k (k.wrap (a * 2 ^ (min b.toNat k.bits))))⟩
  | .shr => ⟨0 ≤ b, .g (.int k (a.fdiv (2 ^ (min b.toNat k.bits))))⟩
  | .add => match wr with
    | true => ⟨k = j, .g (.int k (k.wrap (a + b)))⟩
    | false => ⟨k = j ∧ inR k (a + b), .g (.int k (a + b))⟩
  | .sub => match wr with
    | true => ⟨k = j, .g (.int k (k.wrap (a - b)))⟩
    | false => ⟨k = j ∧ inR k (a - b), .g (.int k (a - b))⟩
  | .mul => match wr with
    | true => ⟨k = j, .g (.int k (k.wrap (a * b)))⟩
    | false => ⟨k = j ∧ inR k (a * b), .g (.int k (a * b))⟩
  | .quo => ⟨k = j ∧ b ≠ 0, .g (.int k (k.wrap (a.tdiv b)))⟩
  | .rem => ⟨k = j ∧ b ≠ 0, .g (.int k (a.tmod b))⟩
  | .and | .or | .xor | .andNot => ⟨k = j, .g (.int k (bitv op k a b))⟩
  | .eql => ⟨k = j, tru (decide (a = b))⟩
  | .neq => ⟨k = j, tru (!decide (a = b))⟩
  | .lss => ⟨k = j, tru (decide (a < b))⟩
  | .leq => ⟨k = j, tru (decide (a ≤ b))⟩
  | .gtr => ⟨k = j, tru (decide (b < a))⟩
  | .geq => ⟨k = j, tru (decide (b ≤ a))⟩
def strB (op : BinOp) (a b : List UInt8) : R :=
  match op with
  | .add => ⟨((a.length + b.length : Nat) : Int) ≤ 9223372036854775807, .g (.str (a ++ b))⟩
  | .eql => ⟨True, tru (decide (a = b))⟩
  | .neq => ⟨True, tru (!decide (a = b))⟩
  | .lss => ⟨True, tru (decide (a < b))⟩
  | .leq => ⟨True, tru (!decide (b < a))⟩
  | .gtr => ⟨True, tru (decide (b < a))⟩
  | .geq => ⟨True, tru (!decide (a < b))⟩
  | _ => no
def binV (op : BinOp) (wr : Bool) : LV → LV → R
  | .g (.int k a), .g (.int j b) => intB op wr k j a b
  | .g (.str a), .g (.str b) => strB op a b
  | _, _ => no
def beqV (neg : Bool) : LV → LV → R
  | .g (.bool a), .g (.bool b) => ⟨True, tru ((a == b) != neg)⟩
  | _, _ => no
def notV : LV → R
  | .g (.bool b) => ⟨True, tru (!b)⟩
  | _ => no
def negV (wr : Bool) : LV → R
  | .g (.int k n) => match wr with
    | true => ⟨True, .g (.int k (k.wrap (0 - n)))⟩
    | false => ⟨inR k (0 - n), .g (.int k (0 - n))⟩
  | _ => no
def isTrue : LV → Bool
  | .g (.bool b) => b
  | _ => false
def isBool : LV → Prop
  | .g (.bool _) => True
  | _ => False
def pickB (c : Bool) (x y : LV) : LV :=
  match x with
  | .g (.bool a) => match y with
    | .g (.bool b) => tru (match c with | true => a | false => b)
    | _ => match c with | true => x | false => y
  | _ => match c with | true => x | false => y
def pickV : LV → LV → LV → R
  | .g (.bool c), x, y => ⟨True, pickB c x y⟩
  | _, _, _ => no
def convV (k : IntKind) (wr : Bool) : LV → R
  | .g (.int _ n) => match wr with
    | true => ⟨True, .g (.int k (k.wrap n))⟩
    | false => ⟨inR k n, .g (.int k n)⟩
  | _ => no
inductive NK where
  | iface | ptr | map | func
/-- Is a value of an interface, pointer, map or function type nil? -/
def isnilV : NK → LV → Option Bool
  | .iface, .g (.x .nilIface) => some true
  | .iface, .g (.iface _ _) => some false
  | .iface, .iface _ _ => some false
  | .ptr, .g (.x (.pointer none)) => some true
  | .ptr, .g (.fptr _) => some false
  | .ptr, .loc _ _ => some false
  | .ptr, .elt _ _ _ => some false
  | .map, .g (.x (.map none)) => some true
  | .map, .mp _ => some false
  | .func, .g (.x .nilFunc) => some true
  | .func, .g (.func _ _) => some false
  | .func, .func _ _ => some false
  | _, _ => none
def nilV (c : NK) (neg : Bool) (x : LV) : R :=
  match isnilV c x with
  | some b => ⟨True, tru (b != neg)⟩
  | none => no
def mkifV (t : TypeId) : LV → R
  | .g v => ⟨True, .g (.iface t v)⟩
  | .loc k o => ⟨True, .iface t (.loc k o)⟩
  | .elt k i o => ⟨True, .iface t (.elt k i o)⟩
  | .agg cs => ⟨True, .iface t (.agg cs)⟩
  | .func f c => ⟨True, .iface t (.func f c)⟩
  | _ => no
def okTup (ok : Bool) (x : LV) (b : Bool) : LV :=
  match ok with
  | true => .tup [x, tru b]
  | false => x
def tasV (t : TypeId) (ok : Bool) (zero : V) : LV → R
  | .g (.iface u v) => match Nat.beq u t with
    | true => ⟨True, okTup ok (.g v) true⟩
    | false => ⟨ok = true, okTup ok (.g zero) false⟩
  | .iface u v => match Nat.beq u t with
    | true => ⟨True, okTup ok v true⟩
    | false => ⟨ok = true, okTup ok (.g zero) false⟩
  | .g (.x .nilIface) => ⟨ok = true, okTup ok (.g zero) false⟩
  | _ => no
def extV (i : Nat) : LV → R
  | .tup vs => ⟨lg (i + 1) vs, get vs i⟩
  | .g (.tup vs) => ⟨lg (i + 1) vs, get (vs.map .g) i⟩
  | _ => no
def ldC (n : Option Nat) (cs : List V) : R :=
  match n with
  | none => ⟨lg 1 cs, .g (hd default cs)⟩
  | some 0 => no
  | some (n + 1) => ⟨lg (n + 1) cs, .g (.agg (tk (n + 1) cs))⟩
def ldL (n : Option Nat) (cs : List LV) : R :=
  match n with
  | none => ⟨lg 1 cs, hd .any cs⟩
  | some 0 => no
  | some (n + 1) => ⟨lg (n + 1) cs, .agg (tk (n + 1) cs)⟩
def ldO (n : Option Nat) (off : Nat) : Obj → R
  | .cells cs => ldL n (dr off cs)
  | .fcells cs => ldC n (dr off cs)
  | _ => no
def ldE (n : Option Nat) (i off : Nat) : Obj → R
  | .row _ _ es => ⟨i < es.length ∧ (ldC n (dr off (es.getD i []))).ok, (ldC n (dr off (es.getD i []))).v⟩
  | .frow _ es => ⟨i < es.length ∧ (ldC n (dr off (es.getD i []))).ok, (ldC n (dr off (es.getD i []))).v⟩
  | _ => no
def loadV (O : List Obj) (n : Option Nat) : LV → R
  | .g (.fptr cs) => ldC n cs
  | .loc k off => ldO n off (og O k)
  | .elt k i off => ldE n i off (og O k)
  | _ => no
def faV (off : Nat) : LV → R
  | .g (.fptr cs) => ⟨lg off cs, .g (.fptr (dr off cs))⟩
  | .loc k o => ⟨True, .loc k (o + off)⟩
  | .elt k i o => ⟨True, .elt k i (o + off)⟩
  | _ => no
def fldV (off : Nat) (n : Option Nat) : LV → R
  | .g (.agg cs) => ldC n (dr off cs)
  | .agg cs => ldL n (dr off cs)
  | _ => no
def rowLen : Obj → Option Nat
  | .row _ _ es => some es.length
  | .frow _ es => some es.length
  | _ => none
def rowS : Obj → Nat
  | .row _ s _ => s
  | .frow s _ => s
  | _ => 0
def iaV (O : List Obj) (s : Nat) : LV → LV → R
  | .g (.fsl s' es), .g (.int _ i) => ⟨s' = s ∧ 0 ≤ i ∧ i < es.length, .g (.fptr (es.getD i.toNat []))⟩
  | .rw k, .g (.int _ i) => match rowLen (og O k) with
    | some n => ⟨rowS (og O k) = s ∧ 0 ≤ i ∧ i < n, .elt k i.toNat 0⟩
    | none => no
  | .lsl k lo hi, .g (.int _ i) => match rowLen (og O k) with
    | some n => ⟨rowS (og O k) = s ∧ 0 ≤ i ∧ i < ((hi - lo : Nat) : Int), .elt k (lo + i.toNat) 0⟩
    | none => no
  | _, _ => no
def iarrV (len s : Nat) : LV → LV → R
  | .g (.fptr cs), .g (.int _ i) => ⟨(0 ≤ i ∧ i < len) ∧ lg (len * s) cs, .g (.fptr (dr (i.toNat * s) cs))⟩
  | .loc k o, .g (.int _ i) => ⟨0 ≤ i ∧ i < len, .loc k (o + i.toNat * s)⟩
  | _, _ => no
def idxV (len s : Nat) (n : Option Nat) : LV → LV → R
  | .g (.agg cs), .g (.int _ i) => ⟨(0 ≤ i ∧ i < len) ∧ (ldC n (dr (i.toNat * s) cs)).ok, (ldC n (dr (i.toNat * s) cs)).v⟩
  | .agg cs, .g (.int _ i) => ⟨(0 ≤ i ∧ i < len) ∧ (ldL n (dr (i.toNat * s) cs)).ok, (ldL n (dr (i.toNat * s) cs)).v⟩
  | _, _ => no
def istrV : LV → LV → R
  | .g (.str b), .g (.int _ i) => ⟨0 ≤ i ∧ i < b.length, .g (.int .u8 ((b.getD i.toNat 0).toNat : Int))⟩
  | _, _ => no
def slenV : LV → R
  | .g (.str b) => ⟨True, .g (.int .i64 b.length)⟩
  | _ => no
def lenV (O : List Obj) : LV → R
  | .g (.fsl _ es) => ⟨True, .g (.int .i64 es.length)⟩
  | .g .nils => ⟨True, .g (.int .i64 0)⟩
  | .rw k => match rowLen (og O k) with
    | some n => ⟨True, .g (.int .i64 n)⟩
    | none => no
  | .lsl k lo hi => ⟨True, .g (.int .i64 ((hi - lo : Nat) : Int))⟩
  | _ => no
/-- Values of one cell. -/
def oneV : V → Bool
  | .int _ _ => true
  | .bool _ => true
  | .str _ => true
  | .x v => oneC v
  | .agg _ => false
  | .fsl _ _ => true
  | .nils => true
  | .fptr _ => true
  | .iface _ _ => true
  | .func _ _ => true
  | .tup _ => false
def oneL : LV → Bool
  | .g v => oneV v
  | .loc _ _ => true
  | .elt _ _ _ => true
  | .rw _ => true
  | .lsl _ _ _ => true
  | .mp _ => true
  | .iface _ _ => true
  | .func _ _ => true
  | .agg _ => false
  | .tup _ => false
  | .any => false
def allOneV : List V → Bool
  | [] => true
  | c :: cs => match oneV c with
    | true => allOneV cs
    | false => false
def allOne : List LV → Bool
  | [] => true
  | c :: cs => match oneL c with
    | true => allOne cs
    | false => false
/-- The cells that a value takes up in a variable. -/
def cellsV : LV → Option (List LV)
  | .g (.agg cs) => match allOneV cs with
    | true => some (cs.map .g)
    | false => none
  | .g (.x v) => match oneC v with
    | true => some [.g (.x v)]
    | false => none
  | .g (.tup _) => none
  | .g (.int k n) => some [.g (.int k n)]
  | .g (.bool b) => some [.g (.bool b)]
  | .g (.str b) => some [.g (.str b)]
  | .g (.fsl s es) => some [.g (.fsl s es)]
  | .g .nils => some [.g .nils]
  | .g (.fptr cs) => some [.g (.fptr cs)]
  | .g (.iface t v) => some [.g (.iface t v)]
  | .g (.func f c) => some [.g (.func f c)]
  | .loc k o => some [.loc k o]
  | .elt k i o => some [.elt k i o]
  | .rw k => some [.rw k]
  | .lsl k l h => some [.lsl k l h]
  | .mp k => some [.mp k]
  | .iface t v => some [.iface t v]
  | .func f c => some [.func f c]
  | .agg cs => match allOne cs with
    | true => some cs
    | false => none
  | .tup _ => none
  | .any => none
def fillL {α : Type} : List α → Nat → List α → List α
  | cs, _, [] => cs
  | [], _, _ => []
  | _ :: cs, 0, y :: ys => y :: fillL cs 0 ys
  | c :: cs, n + 1, ys => c :: fillL cs n ys
def buildV (fr : List LV) (cs : List LV) : List (Nat × Nat × Od) → R
  | [] => ⟨True, .agg cs⟩
  | (off, n, x) :: r => match cellsV (ev fr x) with
    | some ys => ⟨(ys.length = n ∧ lg (off + n) cs) ∧ (buildV fr (fillL cs off ys) r).ok, (buildV fr (fillL cs off ys) r).v⟩
    | none => no
def nilckV (x : LV) : R :=
  match isnilV .ptr x with
  | some false => ⟨True, x⟩
  | _ => no
def bd (n : Int) : Option LV → LV
  | some v => v
  | none => .g (.int .i64 n)
def sslcV : LV → Option LV → Option LV → R
  | .g (.str b), lo, hi => match bd 0 lo, bd b.length hi with
    | .g (.int _ l), .g (.int _ h) => ⟨0 ≤ l ∧ l ≤ h ∧ h ≤ b.length, .g (.str ((b.take h.toNat).drop l.toNat))⟩
    | _, _ => no
  | _, _, _ => no
def slcV (O : List Obj) (s : Nat) : LV → Option LV → Option LV → R
  | .g (.fsl s' es), lo, hi => match bd 0 lo, bd es.length hi with
    | .g (.int _ l), .g (.int _ h) => ⟨s' = s ∧ 0 ≤ l ∧ l ≤ h ∧ h ≤ es.length, .g (.fsl s ((es.take h.toNat).drop l.toNat))⟩
    | _, _ => no
  | .rw k, lo, hi => match rowLen (og O k) with
    | some n => match bd 0 lo, bd n hi with
      | .g (.int _ l), .g (.int _ h) => ⟨rowS (og O k) = s ∧ 0 ≤ l ∧ l ≤ h ∧ h ≤ n, .lsl k l.toNat h.toNat⟩
      | _, _ => no
    | none => no
  | .lsl k a b, lo, hi => match rowLen (og O k) with
    | some n => match bd 0 lo, bd ((b - a : Nat) : Int) hi with
      | .g (.int _ l), .g (.int _ h) => ⟨rowS (og O k) = s ∧ 0 ≤ l ∧ l ≤ h ∧ h ≤ ((b - a : Nat) : Int), .lsl k (a + l.toNat) (a + h.toNat)⟩
      | _, _ => no
    | none => no
  | _, _, _ => no

/-- The quiet instructions. -/
inductive I where
  | mov (x : Od)
  | pick (c a b : Od)
  | bin (op : BinOp) (wr : Bool) (x y : Od)
  | beq (neg : Bool) (x y : Od)
  | isnil (c : NK) (neg : Bool) (x : Od)
  | not (x : Od)
  | neg (wr : Bool) (x : Od)
  | conv (k : IntKind) (wr : Bool) (x : Od)
  | mkif (t : TypeId) (x : Od)
  | tas (t : TypeId) (ok : Bool) (zero : V) (x : Od)
  | ext (i : Nat) (x : Od)
  | load (n : Option Nat) (x : Od)
  | fa (off : Nat) (x : Od)
  | fld (off : Nat) (n : Option Nat) (x : Od)
  | ia (s : Nat) (x i : Od)
  | iarr (len s : Nat) (x i : Od)
  | idx (len s : Nat) (n : Option Nat) (x i : Od)
  | istr (x i : Od)
  | slen (x : Od)
  | len (x : Od)
  | build (zero : List V) (ps : List (Nat × Nat × Od))
  | nilck (x : Od)
  | slc (s : Nat) (x : Od) (lo hi : Option Od)
  | sslc (x : Od) (lo hi : Option Od)

def q (i : I) (fr : List LV) (O : List Obj) : R :=
  match i with
  | .mov x => ⟨True, ev fr x⟩
  | .pick c a b => pickV (ev fr c) (ev fr a) (ev fr b)
  | .bin op wr x y => binV op wr (ev fr x) (ev fr y)
  | .beq neg x y => beqV neg (ev fr x) (ev fr y)
  | .isnil c neg x => nilV c neg (ev fr x)
  | .not x => notV (ev fr x)
  | .neg wr x => negV wr (ev fr x)
  | .conv k wr x => convV k wr (ev fr x)
  | .mkif t x => mkifV t (ev fr x)
  | .tas t ok zero x => tasV t ok zero (ev fr x)
  | .ext i x => extV i (ev fr x)
  | .load n x => loadV O n (ev fr x)
  | .fa off x => faV off (ev fr x)
  | .fld off n x => fldV off n (ev fr x)
  | .ia s x i => iaV O s (ev fr x) (ev fr i)
  | .iarr len s x i => iarrV len s (ev fr x) (ev fr i)
  | .idx len s n x i => idxV len s n (ev fr x) (ev fr i)
  | .istr x i => istrV (ev fr x) (ev fr i)
  | .slen x => slenV (ev fr x)
  | .len x => lenV O (ev fr x)
  | .build zero ps => buildV fr (zero.map .g) ps
  | .nilck x => nilckV (ev fr x)
  | .sslc x lo hi => sslcV (ev fr x) (lo.map (ev fr)) (hi.map (ev fr))
  | .slc s x lo hi => slcV O s (ev fr x) (lo.map (ev fr)) (hi.map (ev fr))
end Go.Av

namespace Go.Av
set_option linter.unusedVariables false
set_option linter.unusedSimpArgs false

def ofC : Value → V
  | .int k n => .int k n
  | .bool b => .bool b
  | .string s => .str s.data.toList
  | .slice none 0 0 => .nils
  | v => .x v
def ofV : Value → V
  | .agg cs => .agg (cs.toList.map ofC)
  | v => ofC v
theorem rep_ofC (F : Fz) (v : Value) : Rep F (ofC v) v := by
  unfold ofC
  split <;> simp [Rep]
theorem repL_ofC (F : Fz) : ∀ l : List Value, RepL F (l.map ofC) l
  | [] => by simp [RepL]
  | v :: l => ⟨v, l, rfl, rep_ofC F v, repL_ofC F l⟩
theorem rep_ofV (F : Fz) (v : Value) : Rep F (ofV v) v := by
  unfold ofV
  split
  · exact ⟨_, rfl, repL_ofC F _⟩
  · exact rep_ofC F _

def compOd (G : Gl) : Operand → Option Od
  | .tmp t => some (.t t)
  | .const v => some (.c (ofV v))
  | .global g => (G.find? (fun x => Nat.beq x.1 g)).map (fun x => .c (.fptr x.2))
  | .func f => some (.c (.func (.func f) []))

theorem get_eq : ∀ (l : List LV) (n : Nat), get l n = l.getD n .any
  | [], n => by simp [get]
  | x :: l, 0 => by simp [get]
  | x :: l, n + 1 => by simp [get, get_eq l n]
theorem st_eq : ∀ (l : List LV) (n : Nat) (v : LV), st l n v = l.set n v
  | [], n, v => by simp [st]
  | x :: l, 0, v => by simp [st]
  | x :: l, n + 1, v => by simp [st, st_eq l n]
theorem og_eq : ∀ (l : List Obj) (n : Nat), og l n = l.getD n .dead
  | [], n => by simp [og]
  | x :: l, 0 => by simp [og]
  | x :: l, n + 1 => by simp [og, og_eq l n]
theorem os_eq : ∀ (l : List Obj) (n : Nat) (v : Obj), os l n v = l.set n v
  | [], n, v => by simp [os]
  | x :: l, 0, v => by simp [os]
  | x :: l, n + 1, v => by simp [os, os_eq l n]
theorem dr_eq {α : Type} : ∀ (n : Nat) (l : List α), dr n l = l.drop n
  | 0, l => by simp [dr]
  | n + 1, [] => by simp [dr]
  | n + 1, x :: l => by simp [dr, dr_eq n l]
theorem tk_eq {α : Type} : ∀ (n : Nat) (l : List α), tk n l = l.take n
  | 0, l => by simp [tk]
  | n + 1, [] => by simp [tk]
  | n + 1, x :: l => by simp [tk, tk_eq n l]

theorem lg_iff {α : Type} : ∀ {n : Nat} {l : List α}, lg n l ↔ n ≤ l.length
  | 0, l => by simp [lg]
  | n + 1, [] => by simp [lg]
  | n + 1, x :: l => by simp [lg, lg_iff (n := n) (l := l)]

section
variable {P : Program} {G : Gl} {F : Fz} {σ : List Pl} {O : List Obj} {w : World} {fr : List LV} {a : Act}

theorem ev_sound (hs : St G F σ O w) (hf : LRepL F σ fr a.tmps.toList) {x : Operand} {x' : Od} (hc : compOd G x = some x') : LRep F σ (ev fr x') (a.eval x) := by
  cases x with
  | tmp t =>
    simp only [compOd, Option.some.injEq] at hc; subst hc
    simp only [ev, get_eq, Act.eval, List.getD_eq_getElem?_getD, Array.getD_eq_getD_getElem?]
    cases h : fr[t]? with
    | none => simp [LRep]
    | some v =>
      obtain ⟨y, hy, hr⟩ := hf.get h
      rw [← Array.getElem?_toList, hy]; exact hr
  | const v =>
    simp only [compOd, Option.some.injEq] at hc; subst hc
    exact rep_ofV F v
  | global g =>
    simp only [compOd, Option.map_eq_some_iff] at hc
    obtain ⟨p, hp, rfl⟩ := hc
    have h1 := List.mem_of_find?_eq_some hp
    have h2 := List.find?_some hp
    obtain rfl : p.1 = g := Nat.eq_of_beq_eq_true h2
    obtain ⟨arr, ha, hr⟩ := hs.gl p h1
    exact ⟨_, 0, arr, rfl, ha, hr⟩
  | func f =>
    simp only [compOd, Option.some.injEq] at hc; subst hc
    exact ⟨#[], rfl, by simp [RepL]⟩

/-- What an instruction's soundness says. -/
def Gives (P : Program) (F : Fz) (σ : List Pl) (w : World) (a : Act) (o : Oper) (v : LV) : Prop :=
  ∃ y, (execOp a.eval o).run P w = .ok (.value y) w ∧ LRep F σ v y

theorem mov_sound (hs : St G F σ O w) (hf : LRepL F σ fr a.tmps.toList) {o : Oper} {x : Operand} {x' : Od} (hc : compOd G x = some x') (ho : o.op = .move x ∨ o.op = .assign x) : Gives P F σ w a o (ev fr x') := by
  refine ⟨a.eval x, ?_, ev_sound hs hf hc⟩
  rcases ho with ho | ho <;> simp [execOp, ho, pure, Sem.run]

theorem rep_bool {v : LV} {y : Value} {b : Bool} (h : LRep F σ v y) (e : v = .g (.bool b)) : y = .bool b := by
  subst e; simpa [LRep, Rep] using h

theorem pickB_sound {c : Bool} {x y : LV} {u v : Value} (hx : LRep F σ x u) (hy : LRep F σ y v) : LRep F σ (pickB c x y) (if c then u else v) := by
  unfold pickB
  split
  · split
    · simp only [LRep, Rep] at hx hy; subst hx hy; cases c <;> simp [tru, LRep, Rep]
    · cases c <;> simpa
  · cases c <;> simpa

theorem pick_sound (hs : St G F σ O w) (hf : LRepL F σ fr a.tmps.toList) {o : Oper} {c x y : Operand} {c' x' y' : Od} (hc : compOd G c = some c') (hx : compOd G x = some x') (hy : compOd G y = some y')
    (ho : o.op = .pick c x y) (hok : (pickV (ev fr c') (ev fr x') (ev fr y')).ok) : Gives P F σ w a o (pickV (ev fr c') (ev fr x') (ev fr y')).v := by
  have h1 := ev_sound hs hf hc
  generalize ev fr c' = cv at *
  unfold pickV at *
  split at hok
  · rename_i b
    simp only [LRep, Rep] at h1
    refine ⟨if b then a.eval x else a.eval y, ?_, pickB_sound (ev_sound hs hf hx) (ev_sound hs hf hy)⟩
    cases b <;> simp [execOp, ho, h1, pure, bind, Sem.run, Sem.bind, asBool]
  · exact hok.elim

theorem run_und {t : TypeId} {d : TypeDesc} (h : P.underlying t = some d) (w : World) : (underlying t).run P w = .ok d w := by
  simp [underlying, program, bind, Sem.bind, Sem.run, h, pure]

theorem run_bind {α β : Type} (s : Sem α) (f : α → Sem β) (w : World) : (s.bind f).run P w = match s.run P w with | .ok x w' => (f x).run P w' | .halt h w' => .halt h w' := by
  induction s generalizing w with
  | pure x => simp [Sem.bind, Sem.run]
  | load m x k ih =>
    simp only [Sem.bind, Sem.run]
    cases w.cell? x with
    | some v => exact ih _ _
    | none => simp only; cases w.farLoad P x (m == .atomic) with | ok r => exact ih _ _ | error h => rfl
  | store m x v k ih =>
    cases v <;> simp only [Sem.bind, Sem.run] <;> (first | rfl | (split <;> (first | (split <;> first | rfl | exact ih _) | (split <;> first | rfl | exact ih _))))
  | new o k ih => simp only [Sem.bind, Sem.run]; exact ih _ _
  | shape r k ih => simp only [Sem.bind, Sem.run]; exact ih _ _
  | freeze x n k ih => simp only [Sem.bind, Sem.run]; exact ih _
  | frozen x k ih => simp only [Sem.bind, Sem.run]; exact ih _ _
  | getObj r k ih =>
    simp only [Sem.bind, Sem.run]
    cases w.heap[r]? with
    | none => rfl
    | some o => cases o <;> first | rfl | exact ih _ _
  | setObj r o k ih =>
    simp only [Sem.bind, Sem.run]
    cases w.heap[r]? with
    | none => rfl
    | some o => cases o <;> first | rfl | exact ih _
  | choose q k ih => simp only [Sem.bind, Sem.run]; split <;> exact ih _ _
  | sys c k ih => simp only [Sem.bind, Sem.run]; exact ih _ _
  | program k ih => simp only [Sem.bind, Sem.run]; exact ih _ _
  | mark m k ih => simp only [Sem.bind, Sem.run]; exact ih _
  | halt h => simp [Sem.bind, Sem.run]

theorem wrap_in {k : IntKind} {n : Int} (h : inR k n) : k.wrap n = n := by
  obtain ⟨h1, h2⟩ := h
  cases k <;> simp [IntKind.min, IntKind.max, IntKind.signed, IntKind.bits] at h1 h2 <;> simp [IntKind.wrap, IntKind.signed, IntKind.bits] <;> omega

theorem eqGuard_lit {op : BinOp} {t : TypeId} {x y : Operand} {u v : Value} (hu : ∀ cs, u ≠ .agg cs) (hn : u ≠ .nilIface) (w : World) : (eqGuard op t x y u v).run P w = .ok () w := by
  cases u <;> first | (exact absurd rfl (hu _)) | (exact absurd rfl hn) | (cases op <;> simp [eqGuard, pure, Sem.run])

theorem beq_dec (x y : Int) : (x == y) = decide (x = y) := by rw [Bool.eq_iff_iff]; simp
theorem beq_decL (x y : List UInt8) : (x == y) = decide (x = y) := by rw [Bool.eq_iff_iff]; simp
theorem intB_run {op : BinOp} {wr : Bool} {k j : IntKind} {x y : Int} {t : TypeId} (hok : (intB op wr k j x y).ok) (w : World) :
    ∃ v, (binOp op t (.int k x) (.int j y)).run P w = .ok v w ∧ (intB op wr k j x y).v = .g (ofC v) := by
  unfold intB at *
  cases op <;> simp only at hok ⊢
  case add =>
    cases wr <;> simp only at hok ⊢
    · obtain ⟨rfl, h⟩ := hok; exact ⟨.int k (x + y), by simp [binOp, Op.intArith, pure, Sem.run, wrap_in h], rfl⟩
    · obtain rfl := hok; exact ⟨.int k (k.wrap (x + y)), by simp [binOp, Op.intArith, pure, Sem.run], rfl⟩
  case sub =>
    cases wr <;> simp only at hok ⊢
    · obtain ⟨rfl, h⟩ := hok; exact ⟨.int k (x - y), by simp [binOp, Op.intArith, pure, Sem.run, wrap_in h], rfl⟩
    · obtain rfl := hok; exact ⟨.int k (k.wrap (x - y)), by simp [binOp, Op.intArith, pure, Sem.run], rfl⟩
  case mul =>
    cases wr <;> simp only at hok ⊢
    · obtain ⟨rfl, h⟩ := hok; exact ⟨.int k (x * y), by simp [binOp, Op.intArith, pure, Sem.run, wrap_in h], rfl⟩
    · obtain rfl := hok; exact ⟨.int k (k.wrap (x * y)), by simp [binOp, Op.intArith, pure, Sem.run], rfl⟩
  case quo => obtain ⟨rfl, h⟩ := hok; exact ⟨.int k (k.wrap (x.tdiv y)), by simp [binOp, Op.intDiv, pure, Sem.run, h], rfl⟩
  case rem => obtain ⟨rfl, h⟩ := hok; exact ⟨.int k (x.tmod y), by simp [binOp, Op.intDiv, pure, Sem.run, h], rfl⟩
  case and => obtain rfl := hok; exact ⟨.int k (bitv .and k x y), by simp [binOp, Op.intBits, pure, Sem.run, bitv], rfl⟩
  case or => obtain rfl := hok; exact ⟨.int k (bitv .or k x y), by simp [binOp, Op.intBits, pure, Sem.run, bitv], rfl⟩
  case xor => obtain rfl := hok; exact ⟨.int k (bitv .xor k x y), by simp [binOp, Op.intBits, pure, Sem.run, bitv], rfl⟩
  case andNot => obtain rfl := hok; exact ⟨.int k (bitv .andNot k x y), by simp [binOp, Op.intBits, pure, Sem.run, bitv], rfl⟩
  case shl => exact ⟨.int k (k.wrap (x * 2 ^ (min y.toNat k.bits))), by simp [binOp, Op.shift, pure, Sem.run, Int.not_lt.2 hok], rfl⟩
  case shr => exact ⟨.int k (x.fdiv (2 ^ (min y.toNat k.bits))), by simp [binOp, Op.shift, pure, Sem.run, Int.not_lt.2 hok], rfl⟩
  case eql => obtain rfl := hok; exact ⟨.bool (decide (x = y)), by simp [binOp, Op.intCmp, pure, Sem.run, beq_dec], rfl⟩
  case neq => obtain rfl := hok; exact ⟨.bool (!decide (x = y)), by simp [binOp, Op.intCmp, pure, Sem.run, beq_dec, bne], rfl⟩
  case lss => obtain rfl := hok; exact ⟨.bool (decide (x < y)), by simp [binOp, Op.intCmp, pure, Sem.run], rfl⟩
  case leq => obtain rfl := hok; exact ⟨.bool (decide (x ≤ y)), by simp [binOp, Op.intCmp, pure, Sem.run], rfl⟩
  case gtr => obtain rfl := hok; exact ⟨.bool (decide (y < x)), by simp [binOp, Op.intCmp, pure, Sem.run], rfl⟩
  case geq => obtain rfl := hok; exact ⟨.bool (decide (y ≤ x)), by simp [binOp, Op.intCmp, pure, Sem.run], rfl⟩
theorem intB_sound {op : BinOp} {wr : Bool} {k j : IntKind} {x y : Int} {t : TypeId} (hok : (intB op wr k j x y).ok) (w : World) :
    ∃ v, (binOp op t (.int k x) (.int j y)).run P w = .ok v w ∧ LRep F σ (intB op wr k j x y).v v := by
  obtain ⟨v, h, e⟩ := intB_run (P := P) (t := t) hok w
  exact ⟨v, h, by rw [e]; exact rep_ofC F v⟩

theorem str_ba (s : List UInt8) : (⟨s.toArray⟩ : ByteArray).toList = s := by rw [Lib.toList_data]
theorem list_tri (x y : List UInt8) : (decide (x < y) || x == y) = !decide (y < x) := by
  rw [Bool.eq_iff_iff]
  simp only [Bool.or_eq_true, decide_eq_true_eq, beq_iff_eq, Bool.not_eq_true', decide_eq_false_iff_not]
  constructor
  · rintro (h | rfl)
    · exact List.lt_asymm h
    · exact List.lt_irrefl _
  · intro h
    rcases List.le_iff_lt_or_eq.1 (List.not_lt.1 h) with h | h
    · exact .inl h
    · exact .inr h
theorem strB_run {op : BinOp} {x y : List UInt8} {t : TypeId} (hok : (strB op x y).ok) (w : World) :
    ∃ v, (binOp op t (.string ⟨x.toArray⟩) (.string ⟨y.toArray⟩)).run P w = .ok v w ∧ (strB op x y).v = .g (ofC v) := by
  unfold strB at *
  cases op <;> simp only at hok ⊢
  case add =>
    have : ¬ (((⟨x.toArray⟩ : ByteArray).size + (⟨y.toArray⟩ : ByteArray).size : Nat) : Int) > IntKind.i64.max := by
      simp only [ByteArray.size, List.size_toArray, IntKind.max, IntKind.signed, IntKind.bits, if_true]; omega
    refine ⟨.string (⟨x.toArray⟩ ++ ⟨y.toArray⟩), ?_, ?_⟩
    · simp only [binOp, Op.stringOp]
      rw [if_neg this]; simp only [pure, Sem.run]
    · simp [ofC]
  case eql => exact ⟨.bool (decide (x = y)), by simp only [binOp, Op.stringOp, str_ba, pure, Sem.run, beq_decL], rfl⟩
  case neq => exact ⟨.bool (!decide (x = y)), by simp only [binOp, Op.stringOp, str_ba, pure, Sem.run, beq_decL], rfl⟩
  case lss => exact ⟨.bool (decide (x < y)), by simp only [binOp, Op.stringOp, str_ba, Go.Proofs.bytesLess_eq, pure, Sem.run], rfl⟩
  case leq => exact ⟨.bool (!decide (y < x)), by simp only [binOp, Op.stringOp, str_ba, Go.Proofs.bytesLess_eq, list_tri, pure, Sem.run], rfl⟩
  case gtr => exact ⟨.bool (decide (y < x)), by simp only [binOp, Op.stringOp, str_ba, Go.Proofs.bytesLess_eq, list_tri, Bool.not_not, pure, Sem.run], rfl⟩
  case geq => exact ⟨.bool (!decide (x < y)), by simp only [binOp, Op.stringOp, str_ba, Go.Proofs.bytesLess_eq, pure, Sem.run], rfl⟩
  all_goals exact (hok : False).elim
theorem strB_sound {op : BinOp} {x y : List UInt8} {t : TypeId} (hok : (strB op x y).ok) (w : World) :
    ∃ v, (binOp op t (.string ⟨x.toArray⟩) (.string ⟨y.toArray⟩)).run P w = .ok v w ∧ LRep F σ (strB op x y).v v := by
  obtain ⟨v, h, e⟩ := strB_run (P := P) (t := t) hok w
  exact ⟨v, h, by rw [e]; exact rep_ofC F v⟩

theorem bin_run {o : Oper} {op : BinOp} {t t' : TypeId} {x y : Operand} {v : Value} (ho : o.op = .binOp op t x y t') (hg : (eqGuard op t x y (a.eval x) (a.eval y)).run P w = .ok () w)
    (hr : (binOp op t (a.eval x) (a.eval y)).run P w = .ok v w) : (execOp a.eval o).run P w = .ok (.value v) w := by
  simp only [execOp, ho, bind, run_bind, hg, hr, pure, Sem.run]

theorem bin_sound (hs : St G F σ O w) (hf : LRepL F σ fr a.tmps.toList) {o : Oper} {op : BinOp} {t t' : TypeId} {x y : Operand} {x' y' : Od} {wr : Bool} (hx : compOd G x = some x') (hy : compOd G y = some y')
    (ho : o.op = .binOp op t x y t') (hok : (binV op wr (ev fr x') (ev fr y')).ok) : Gives P F σ w a o (binV op wr (ev fr x') (ev fr y')).v := by
  have h1 := ev_sound hs hf hx
  have h2 := ev_sound hs hf hy
  generalize ev fr x' = xv at *
  generalize ev fr y' = yv at *
  unfold binV at *
  split at hok
  · simp only [LRep, Rep] at h1 h2
    obtain ⟨v, hv, hr⟩ := intB_sound (P := P) (F := F) (σ := σ) (t := t) hok w
    exact ⟨v, bin_run ho (eqGuard_lit (by simp [h1]) (by simp [h1]) w) (by rw [h1, h2]; exact hv), hr⟩
  · simp only [LRep, Rep] at h1 h2
    obtain ⟨v, hv, hr⟩ := strB_sound (P := P) (F := F) (σ := σ) (t := t) hok w
    exact ⟨v, bin_run ho (eqGuard_lit (by simp [h1]) (by simp [h1]) w) (by rw [h1, h2]; exact hv), hr⟩
  · exact hok.elim

theorem equalIn_bool {t : TypeId} (ht : P.underlying t = some .bool) (d : Nat) (p r : Bool) (w : World) : (Op.equalIn (d + 1) t (.bool p) (.bool r)).run P w = .ok (p == r) w := by
  simp only [Op.equalIn, bind, run_bind, run_und ht, pure, Sem.run]

theorem beq_sound (hs : St G F σ O w) (hf : LRepL F σ fr a.tmps.toList) {o : Oper} {op : BinOp} {t t' : TypeId} {x y : Operand} {x' y' : Od} (hx : compOd G x = some x') (hy : compOd G y = some y')
    (ht : P.underlying t = some .bool) (hop : op = .eql ∨ op = .neq) (ho : o.op = .binOp op t x y t') (hok : (beqV (op == .neq) (ev fr x') (ev fr y')).ok) : Gives P F σ w a o (beqV (op == .neq) (ev fr x') (ev fr y')).v := by
  have h1 := ev_sound hs hf hx
  have h2 := ev_sound hs hf hy
  generalize ev fr x' = xv at *
  generalize ev fr y' = yv at *
  unfold beqV at *
  split at hok
  · rename_i p q
    simp only [LRep, Rep] at h1 h2
    have he : (Op.equal t (.bool p) (.bool q)).run P w = .ok (p == q) w := equalIn_bool ht 9999 p q w
    rcases hop with rfl | rfl
    · refine ⟨.bool (p == q), bin_run ho (eqGuard_lit (by simp [h1]) (by simp [h1]) w) ?_, ?_⟩
      · rw [h1, h2]; simp only [binOp, bind, run_bind, he, pure, Sem.run]
      · show Value.bool _ = Value.bool _; cases p <;> cases q <;> rfl
    · refine ⟨.bool (!(p == q)), bin_run ho (eqGuard_lit (by simp [h1]) (by simp [h1]) w) ?_, ?_⟩
      · rw [h1, h2]; simp only [binOp, bind, run_bind, he, pure, Sem.run]
      · show Value.bool _ = Value.bool _; cases p <;> cases q <;> rfl
  · exact hok.elim

theorem not_sound (hs : St G F σ O w) (hf : LRepL F σ fr a.tmps.toList) {o : Oper} {t : TypeId} {x : Operand} {x' : Od} (hx : compOd G x = some x')
    (ho : o.op = .unOp .not t x) (hok : (notV (ev fr x')).ok) : Gives P F σ w a o (notV (ev fr x')).v := by
  have h1 := ev_sound hs hf hx
  generalize ev fr x' = xv at *
  unfold notV at *
  split at hok
  · simp only [LRep, Rep] at h1
    rename_i b
    exact ⟨.bool (!b), by simp [execOp, ho, h1, Op.unary, pure, bind, Sem.run, Sem.bind], rfl⟩
  · exact hok.elim

theorem neg_sound (hs : St G F σ O w) (hf : LRepL F σ fr a.tmps.toList) {o : Oper} {t : TypeId} {x : Operand} {x' : Od} {wr : Bool} (hx : compOd G x = some x')
    (ho : o.op = .unOp .neg t x) (hok : (negV wr (ev fr x')).ok) : Gives P F σ w a o (negV wr (ev fr x')).v := by
  have h1 := ev_sound hs hf hx
  generalize ev fr x' = xv at *
  unfold negV at *
  split at hok
  · rename_i k n
    simp only [LRep, Rep] at h1
    cases wr <;> simp only at hok ⊢
    · exact ⟨.int k (0 - n), by simp only [execOp, ho, h1, Op.unary, Op.intArith, wrap_in hok, pure, bind, Sem.run, Sem.bind], rfl⟩
    · exact ⟨.int k (k.wrap (0 - n)), by simp only [execOp, ho, h1, Op.unary, Op.intArith, pure, bind, Sem.run, Sem.bind], rfl⟩
  · exact hok.elim

theorem conv_sound (hs : St G F σ O w) (hf : LRepL F σ fr a.tmps.toList) {o : Oper} {t u : TypeId} {x : Operand} {x' : Od} {k j : IntKind} {wr : Bool} (hx : compOd G x = some x') (ht : P.underlying t = some (.int j)) (hu : P.underlying u = some (.int k))
    (ho : o.op = .convert t u x) (hok : (convV k wr (ev fr x')).ok) : Gives P F σ w a o (convV k wr (ev fr x')).v := by
  have h1 := ev_sound hs hf hx
  generalize ev fr x' = xv at *
  unfold convV at *
  split at hok
  · rename_i k' n
    simp only [LRep, Rep] at h1
    cases wr <;> simp only at hok ⊢
    · exact ⟨.int k n, by simp only [execOp, ho, h1, convert, Conv.intToInt, wrap_in hok, pure, bind, Sem.run, run_bind, run_und ht, run_und hu], rfl⟩
    · exact ⟨.int k (k.wrap n), by simp only [execOp, ho, h1, convert, Conv.intToInt, pure, bind, Sem.run, run_bind, run_und ht, run_und hu], rfl⟩
  · exact hok.elim

theorem mkif_sound (hs : St G F σ O w) (hf : LRepL F σ fr a.tmps.toList) {o : Oper} {t : TypeId} {x : Operand} {x' : Od} (hx : compOd G x = some x') (ht : ∀ d, P.underlying t = some d → ∀ ms, d ≠ .interface ms) (ht' : (P.underlying t).isSome)
    (ho : o.op = .makeInterface t x) (hok : (mkifV t (ev fr x')).ok) : Gives P F σ w a o (mkifV t (ev fr x')).v := by
  have h1 := ev_sound hs hf hx
  generalize ev fr x' = xv at *
  obtain ⟨d, hd⟩ := Option.isSome_iff_exists.1 ht'
  have hr : (execOp a.eval o).run P w = .ok (.value (.iface t (a.eval x))) w := by
    have hn := ht d hd
    simp only [execOp, ho, Instr.makeInterface, bind, run_bind, run_und hd]
    cases d <;> first | (exact absurd rfl (hn _)) | simp only [pure, Sem.run]
  refine ⟨_, hr, ?_⟩
  cases xv with
  | g v => exact ⟨_, rfl, h1⟩
  | loc k o => exact ⟨_, rfl, h1⟩
  | elt k i o => exact ⟨_, rfl, h1⟩
  | agg cs => exact ⟨_, rfl, h1⟩
  | func f c => exact ⟨_, rfl, h1⟩
  | _ => exact (hok : False).elim

theorem tas_sound (hs : St G F σ O w) (hf : LRepL F σ fr a.tmps.toList) {o : Oper} {t u : TypeId} {x : Operand} {x' : Od} {d : TypeDesc} {z : Value} {c : Bool} (hx : compOd G x = some x') (ht : P.underlying t = some d) (hd : ∀ ms, d ≠ .interface ms)
    (hz : (P.info? t).map (·.zero) = some (some z))
    (ho : o.op = .typeAssert x u t c) (hok : (tasV t c (ofV z) (ev fr x')).ok) : Gives P F σ w a o (tasV t c (ofV z) (ev fr x')).v := by
  have h1 := ev_sound hs hf hx
  generalize ev fr x' = xv at *
  obtain ⟨inf, hi, hz'⟩ : ∃ inf, P.info? t = some inf ∧ inf.zero = some z := by
    cases h : P.info? t with
    | none => simp [h] at hz
    | some inf => exact ⟨inf, rfl, by simpa [h] using hz⟩
  have hzr : ∀ w, (zeroValue t).run P w = .ok z w := by
    intro w; simp only [zeroValue, typeInfo, program, bind, run_bind, Sem.run, hi, pure, hz']
  have yes : ∀ v, (Instr.typeAssert (.iface t v) u t c).run P w = .ok (if c then .tuple #[v, .bool true] else v) w := by
    intro v
    cases d <;> first | (exact absurd rfl (hd _)) | simp only [Instr.typeAssert, bind, run_bind, run_und ht, pure, Sem.run, if_true]
  have nay : ∀ t' v, t' ≠ t → c = true → (Instr.typeAssert (.iface t' v) u t c).run P w = .ok (.tuple #[z, .bool false]) w := by
    intro t' v hn hc
    subst hc
    cases d <;> first | (exact absurd rfl (hd _)) | simp only [Instr.typeAssert, bind, run_bind, run_und ht, pure, Sem.run, if_neg hn, if_true, hzr]
  have nil : c = true → (Instr.typeAssert .nilIface u t c).run P w = .ok (.tuple #[z, .bool false]) w := by
    intro hc
    subst hc
    cases d <;> first | (exact absurd rfl (hd _)) | simp only [Instr.typeAssert, bind, run_bind, run_und ht, pure, Sem.run, if_true, hzr]
  have go : ∀ v, (Instr.typeAssert (a.eval x) u t c).run P w = .ok v w → (execOp a.eval o).run P w = .ok (.value v) w := by
    intro v hv; simp only [execOp, ho, bind, run_bind, hv, pure, Sem.run]
  have tup : ∀ (r : LV) (y : Value) (b : Bool), LRep F σ r y → LRep F σ (.tup [r, tru b]) (.tuple #[y, .bool b]) := by
    intro r y b hr; exact ⟨#[y, .bool b], rfl, y, [.bool b], rfl, hr, .bool b, [], rfl, rfl, rfl⟩
  unfold tasV at *
  split at hok
  · rename_i t' v
    obtain ⟨y, hy, hr⟩ := h1
    split at hok
    · rename_i e
      obtain rfl : t' = t := Nat.eq_of_beq_eq_true e
      simp only [e]
      refine ⟨_, go _ (by rw [hy]; exact yes y), ?_⟩
      cases c
      · exact hr
      · exact tup _ _ _ hr
    · rename_i e
      simp only [e]
      simp only at hok
      have hn : t' ≠ t := fun h => by rw [h, Nat.beq_refl] at e; cases e
      refine ⟨_, go _ (by rw [hy]; exact nay t' y hn hok), ?_⟩
      rw [hok]
      exact tup _ _ _ (rep_ofV F z)
  · rename_i t' v
    obtain ⟨y, hy, hr⟩ := h1
    split at hok
    · rename_i e
      obtain rfl : t' = t := Nat.eq_of_beq_eq_true e
      simp only [e]
      refine ⟨_, go _ (by rw [hy]; exact yes y), ?_⟩
      cases c
      · exact hr
      · exact tup _ _ _ hr
    · rename_i e
      simp only [e]
      simp only at hok
      have hn : t' ≠ t := fun h => by rw [h, Nat.beq_refl] at e; cases e
      refine ⟨_, go _ (by rw [hy]; exact nay t' y hn hok), ?_⟩
      rw [hok]
      exact tup _ _ _ (rep_ofV F z)
  · simp only [LRep, Rep] at h1
    simp only at hok
    refine ⟨_, go _ (by rw [h1]; exact nil hok), ?_⟩
    rw [hok]
    exact tup _ _ _ (rep_ofV F z)
  · exact hok.elim

theorem LRepL_map_g : ∀ {cs : List V} {ys : List Value}, RepL F cs ys → LRepL F σ (cs.map .g) ys
  | [], ys, h => h
  | c :: cs, ys, h => by obtain ⟨y, r, rfl, hc, hr⟩ := h; exact ⟨y, r, rfl, hc, LRepL_map_g hr⟩

theorem ext_sound (hs : St G F σ O w) (hf : LRepL F σ fr a.tmps.toList) {o : Oper} {i : Nat} {x : Operand} {x' : Od} (hx : compOd G x = some x')
    (ho : o.op = .extract x i) (hok : (extV i (ev fr x')).ok) : Gives P F σ w a o (extV i (ev fr x')).v := by
  have h1 := ev_sound hs hf hx
  generalize ev fr x' = xv at *
  have main : ∀ vs : List LV, i < vs.length → (∃ us, a.eval x = .tuple us ∧ LRepL F σ vs us.toList) → Gives P F σ w a o (get vs i) := by
    rintro vs hlt ⟨us, hu, hr⟩
    obtain ⟨y, hy, hr'⟩ := hr.get (List.getElem?_eq_getElem hlt)
    refine ⟨y, ?_, ?_⟩
    · rw [Array.getElem?_toList] at hy
      simp only [execOp, ho, hu, Instr.extract, hy, bind, run_bind, pure, Sem.run]
    · rw [get_eq, List.getD_eq_getElem?_getD, List.getElem?_eq_getElem hlt]; exact hr'
  unfold extV at *
  split at hok
  · exact main _ (by have := lg_iff.1 hok; omega) h1
  · obtain ⟨us, hu, hr⟩ := h1
    refine main (List.map LV.g _) (by have := lg_iff.1 hok; simp; omega) ⟨us, hu, LRepL_map_g hr⟩
  · exact hok.elim
end
end Go.Av

namespace Go.Av
set_option linter.unusedVariables false
set_option linter.unusedSimpArgs false

section
variable {P : Program} {G : Gl} {F : Fz} {σ : List Pl} {O : List Obj} {w : World} {fr : List LV} {a : Act}

theorem cell_at {b o : Nat} {arr : Array Value} {e : TypeId} {z : Nat × Nat} (h : w.heap[b]? = some (.cells arr e z)) : w.cell? ⟨b, o, none⟩ = arr[o]? := by
  simp [World.cell?, h]
theorem add_at (b o n : Nat) : (⟨b, o, none⟩ : Addr).add n = ⟨b, o + n, none⟩ := by
  unfold Addr.add
  split
  · rename_i h; subst h; simp
  · rfl
theorem run_load {b o : Nat} {arr : Array Value} {e : TypeId} {z : Nat × Nat} (h : w.heap[b]? = some (.cells arr e z)) {v : Value} (hv : arr[o]? = some v) : (load ⟨b, o, none⟩).run P w = .ok v w := by
  simp [load, Sem.run, cell_at h, hv]
theorem run_loadCellsFrom {b o : Nat} {arr : Array Value} {e : TypeId} {z : Nat × Nat} (h : w.heap[b]? = some (.cells arr e z)) :
    ∀ (n i : Nat) (acc : Array Value), o + i + n ≤ arr.size → (loadCellsFrom ⟨b, o, none⟩ i n acc).run P w = .ok (acc ++ arr.extract (o + i) (o + i + n)) w
  | 0, i, acc, hn => by simp [loadCellsFrom, pure, Sem.run]; omega
  | n + 1, i, acc, hn => by
    have hv : arr[o + i]? = some arr[o + i] := Array.getElem?_eq_getElem (by omega)
    simp only [loadCellsFrom, bind, run_bind, add_at, run_load h hv]
    rw [run_loadCellsFrom h n (i + 1) _ (by omega)]
    congr 1
    apply Array.ext'
    simp only [Array.toList_append, Array.toList_push, Array.toList_extract, List.append_assoc]
    congr 1
    simp only [List.extract_eq_take_drop]
    have : o + i + (n + 1) - (o + i) = n + 1 := by omega
    rw [this, show o + (i + 1) + n - (o + (i + 1)) = n from by omega]
    have hl : arr.toList.drop (o + i) = arr[o + i] :: arr.toList.drop (o + (i + 1)) := by
      rw [List.drop_eq_getElem_cons (by simpa using (by omega : o + i < arr.size))]; simp; rfl
    rw [hl, List.take_succ_cons]; rfl
theorem run_loadCells {b o n : Nat} {arr : Array Value} {e : TypeId} {z : Nat × Nat} (h : w.heap[b]? = some (.cells arr e z)) (hn : o + n ≤ arr.size) : (loadCells ⟨b, o, none⟩ n).run P w = .ok (arr.extract o (o + n)) w := by
  rw [loadCells, run_loadCellsFrom h n 0 #[] (by omega)]; simp

theorem RepC.get {arr : Array Value} : ∀ {cs : List V} {o : Nat}, RepC F arr cs o → ∀ {i : Nat} {c : V}, cs[i]? = some c → ∃ y, arr[o + i]? = some y ∧ oneC y = true ∧ Rep F c y
  | [], o, h, i, c, e => by simp at e
  | c' :: cs, o, h, 0, c, e => by
    obtain ⟨⟨y, hy, h1, hr⟩, _⟩ := h
    obtain rfl : c' = c := by simpa using e
    exact ⟨y, hy, h1, hr⟩
  | c' :: cs, o, h, i + 1, c, e => by
    obtain ⟨_, hr⟩ := h
    have := RepC.get hr (i := i) (c := c) (by simpa using e)
    rwa [show o + 1 + i = o + (i + 1) from by omega] at this
theorem RepC.fits {arr : Array Value} : ∀ {cs : List V} {o : Nat}, RepC F arr cs o → cs ≠ [] → o + cs.length ≤ arr.size
  | [], o, h, hn => by simp at hn
  | [c], o, h, _ => by
    obtain ⟨⟨y, hy, _⟩, _⟩ := h
    have := (Array.getElem?_eq_some_iff.1 hy).1
    simp; omega
  | c :: c' :: cs, o, h, _ => by
    obtain ⟨_, hr⟩ := h
    have := RepC.fits hr (by simp)
    simp only [List.length_cons] at *; omega
theorem RepC.drop {arr : Array Value} : ∀ {n : Nat} {cs : List V} {o : Nat}, RepC F arr cs o → RepC F arr (cs.drop n) (o + n)
  | 0, cs, o, h => by simpa using h
  | n + 1, [], o, h => by simp [RepC]
  | n + 1, c :: cs, o, h => by
    have := RepC.drop (n := n) h.2
    rwa [show o + 1 + n = o + (n + 1) from by omega] at this
theorem RepC.toL {arr : Array Value} : ∀ {cs : List V} {o : Nat}, RepC F arr cs o → RepL F cs ((arr.toList.drop o).take cs.length)
  | [], o, h => by simp [RepL]
  | c :: cs, o, h => by
    obtain ⟨⟨y, hy, _, hr⟩, hc⟩ := h
    have hlt := (Array.getElem?_eq_some_iff.1 hy).1
    have hl : arr.toList.drop o = y :: arr.toList.drop (o + 1) := by
      rw [List.drop_eq_getElem_cons (by simpa using hlt)]
      congr 1
      have := (Array.getElem?_eq_some_iff.1 hy).2
      simpa using this
    refine ⟨y, _, ?_, hr, RepC.toL hc⟩
    rw [hl, List.length_cons, List.take_succ_cons]
theorem RepC.take {arr : Array Value} : ∀ {n : Nat} {cs : List V} {o : Nat}, RepC F arr cs o → RepC F arr (cs.take n) o
  | 0, cs, o, h => by simp [RepC]
  | n + 1, [], o, h => by simp [RepC]
  | n + 1, c :: cs, o, h => ⟨h.1, RepC.take h.2⟩
theorem RepR.get {arr : Array Value} {s : Nat} : ∀ {es : List (List V)} {o : Nat}, RepR F s arr es o → ∀ {i : Nat} {e : List V}, es[i]? = some e → e.length = s ∧ RepC F arr e (o + i * s)
  | [], o, h, i, e, he => by simp at he
  | e' :: es, o, h, 0, e, he => by
    obtain ⟨hl, hc, _⟩ := h
    obtain rfl : e' = e := by simpa using he
    exact ⟨hl, by simpa using hc⟩
  | e' :: es, o, h, i + 1, e, he => by
    obtain ⟨_, _, hr⟩ := h
    have := RepR.get hr (i := i) (e := e) (by simpa using he)
    rwa [show o + s + i * s = o + (i + 1) * s from by rw [Nat.add_mul]; omega] at this

theorem LRepL.drop : ∀ {n : Nat} {cs : List LV} {ys : List Value}, LRepL F σ cs ys → LRepL F σ (cs.drop n) (ys.drop n)
  | 0, cs, ys, h => by simpa using h
  | n + 1, [], ys, h => by simp only [LRepL] at h; simp [h, LRepL]
  | n + 1, c :: cs, ys, h => by obtain ⟨y, r, rfl, _, hr⟩ := h; simpa using LRepL.drop (n := n) hr
theorem LRepL.take : ∀ {n : Nat} {cs : List LV} {ys : List Value}, LRepL F σ cs ys → LRepL F σ (cs.take n) (ys.take n)
  | 0, cs, ys, h => by simp [LRepL]
  | n + 1, [], ys, h => by simp only [LRepL] at h; simp [h, LRepL]
  | n + 1, c :: cs, ys, h => by obtain ⟨y, r, rfl, hc, hr⟩ := h; exact ⟨y, _, rfl, hc, LRepL.take hr⟩

/-- How many cells a type's value takes up, and whether it is an aggregate: 'none': one cell. -/
def loadN (P : Program) (t : TypeId) : Option (Option Nat) :=
  match P.underlying t, P.info? t with
  | some (.struct _), some i | some (.array _ _), some i => some (some i.size)
  | some _, some _ => some none
  | _, _ => none

theorem run_loadVar {t : TypeId} {n : Option Nat} (hn : loadN P t = some n) {b o : Nat} {arr : Array Value} {e : TypeId} {z : Nat × Nat} (h : w.heap[b]? = some (.cells arr e z)) :
    (∀ v, n = none → arr[o]? = some v → (loadVar t ⟨b, o, none⟩).run P w = .ok v w) ∧ (∀ k, n = some k → o + k ≤ arr.size → (loadVar t ⟨b, o, none⟩).run P w = .ok (.agg (arr.extract o (o + k))) w) := by
  unfold loadN at hn
  have hagg : ∀ d, P.underlying t = some d → (isAgg t).run P w = .ok (match d with | .struct _ | .array _ _ => true | _ => false) w := by
    intro d hd
    simp only [isAgg, bind, run_bind, run_und hd]
    cases d <;> simp [pure, Sem.run]
  have hsz : ∀ i, P.info? t = some i → (sizeOf t).run P w = .ok i.size w := by
    intro i hi; simp only [sizeOf, typeInfo, program, bind, run_bind, Sem.run, hi, pure]
  split at hn
  · rename_i fs i hd hi
    obtain rfl := Option.some.inj hn
    refine ⟨fun v hv => (by cases hv), fun k hk hle => ?_⟩
    obtain rfl := Option.some.inj hk
    simp only [loadVar, bind, run_bind, hagg _ hd, hsz _ hi, if_true, run_loadCells h hle, pure, Sem.run]
  · rename_i m el i hd hi
    obtain rfl := Option.some.inj hn
    refine ⟨fun v hv => (by cases hv), fun k hk hle => ?_⟩
    obtain rfl := Option.some.inj hk
    simp only [loadVar, bind, run_bind, hagg _ hd, hsz _ hi, if_true, run_loadCells h hle, pure, Sem.run]
  · rename_i d i hn1 hn2 hd hi
    obtain rfl := Option.some.inj hn
    refine ⟨fun v _ hv => ?_, fun k hk => (by cases hk)⟩
    have : (match d with | .struct _ | .array _ _ => true | _ => false) = false := by
      cases d <;> first | rfl | (exact (hn1 _ rfl).elim) | (exact (hn2 _ _ rfl).elim)
    simp only [loadVar, bind, run_bind, hagg _ hd, this, Bool.false_eq_true, if_false, run_load h hv]
  · cases hn

/-- Cells that lie in a block, meant by frozen values. -/
theorem load_C {o : Oper} {t : TypeId} {x : Operand} {n : Option Nat} (hn : loadN P t = some n) (ho : o.op = .load t x) {b off : Nat} (hx : a.eval x = .pointer (some ⟨b, off, none⟩))
    {arr : Array Value} {e : TypeId} {z : Nat × Nat} (hb : w.heap[b]? = some (.cells arr e z)) {cs : List V} (hc : RepC F arr cs off) (hok : (ldC n cs).ok) : Gives P F σ w a o (ldC n cs).v := by
  obtain ⟨h1, h2⟩ := run_loadVar (P := P) (w := w) (o := off) hn hb
  have go : ∀ v, (loadVar t ⟨b, off, none⟩).run P w = .ok v w → (execOp a.eval o).run P w = .ok (.value v) w := by
    intro v hv; simp only [execOp, ho, Instr.loadAt, hx, Instr.sureAddr, bind, run_bind, pure, Sem.run, hv]
  cases n with
  | none =>
    cases cs with
    | nil => exact (hok : False).elim
    | cons c cs =>
      obtain ⟨⟨y, hy, _, hr⟩, _⟩ := hc
      exact ⟨y, go _ (h1 y rfl hy), by simpa [ldC, hd, LRep] using hr⟩
  | some n =>
    cases n with
    | zero => exact (hok : False).elim
    | succ n =>
      have hok' : n + 1 ≤ cs.length := lg_iff.1 hok
      have hle' : off + (n + 1) ≤ arr.size := by
        have := hc.fits (by intro h; subst h; simp at hok')
        omega
      refine ⟨_, go _ (h2 (n + 1) rfl hle'), ?_⟩
      simp only [ldC, LRep, Rep, tk_eq]
      refine ⟨_, rfl, ?_⟩
      have := (hc.take (n := n + 1)).toL
      rw [List.length_take, Nat.min_eq_left hok'] at this
      rw [Array.toList_extract, List.extract_eq_take_drop, show off + (n + 1) - off = n + 1 from by omega]
      exact this

theorem load_L {o : Oper} {t : TypeId} {x : Operand} {n : Option Nat} (hn : loadN P t = some n) (ho : o.op = .load t x) {b off : Nat} (hx : a.eval x = .pointer (some ⟨b, off, none⟩))
    {arr : Array Value} {e : TypeId} {z : Nat × Nat} (hb : w.heap[b]? = some (.cells arr e z)) {cs : List LV} (hc : LRepL F σ cs arr.toList) (hok : (ldL n (dr off cs)).ok) : Gives P F σ w a o (ldL n (dr off cs)).v := by
  obtain ⟨h1, h2⟩ := run_loadVar (P := P) (w := w) (o := off) hn hb
  have go : ∀ v, (loadVar t ⟨b, off, none⟩).run P w = .ok v w → (execOp a.eval o).run P w = .ok (.value v) w := by
    intro v hv; simp only [execOp, ho, Instr.loadAt, hx, Instr.sureAddr, bind, run_bind, pure, Sem.run, hv]
  rw [dr_eq] at *
  have hd' := hc.drop (n := off)
  have hlen := hc.length
  cases n with
  | none =>
    cases hcs : cs.drop off with
    | nil => rw [hcs] at hok; exact (hok : False).elim
    | cons c r =>
      rw [hcs] at hd'
      obtain ⟨y, r', hy, hr, _⟩ := hd'
      have hy' : arr[off]? = some y := by
        rw [← Array.getElem?_toList, show off = off + 0 from rfl, ← List.getElem?_drop, hy]; rfl
      exact ⟨y, go _ (h1 y rfl hy'), by simpa [ldL, hd] using hr⟩
  | some n =>
    cases n with
    | zero => exact (hok : False).elim
    | succ n =>
      have hok' : n + 1 ≤ (cs.drop off).length := lg_iff.1 hok
      have hn0 : off + (n + 1) ≤ arr.size := by simp only [List.length_drop, Array.length_toList] at hok' hlen; omega
      refine ⟨_, go _ (h2 (n + 1) rfl hn0), ?_⟩
      simp only [ldL, LRep, tk_eq]
      refine ⟨_, rfl, ?_⟩
      have := hd'.take (n := n + 1)
      rwa [Array.toList_extract, List.extract_eq_take_drop, show off + (n + 1) - off = n + 1 from by omega]

theorem load_sound (hs : St G F σ O w) (hf : LRepL F σ fr a.tmps.toList) {o : Oper} {t : TypeId} {x : Operand} {x' : Od} {n : Option Nat} (hx : compOd G x = some x') (hn : loadN P t = some n)
    (ho : o.op = .load t x) (hok : (loadV O n (ev fr x')).ok) : Gives P F σ w a o (loadV O n (ev fr x')).v := by
  have h1 := ev_sound hs hf hx
  generalize ev fr x' = xv at *
  have place : ∀ k p, σ[k]? = some p → ∃ ob, O[k]? = some ob ∧ og O k = ob ∧ ObjOk F σ w ob p := by
    intro k p hp
    have hk : k < O.length := by rw [hs.len]; exact (List.getElem?_eq_some_iff.1 hp).1
    exact ⟨O[k], List.getElem?_eq_getElem hk, by rw [og_eq, List.getD_eq_getElem?_getD, List.getElem?_eq_getElem hk]; rfl, hs.obj k _ p (List.getElem?_eq_getElem hk) hp⟩
  unfold loadV at *
  split at hok
  · obtain ⟨b, off, arr, hy, hF, hc⟩ := h1
    obtain ⟨e, z, hb⟩ := hs.fz b arr hF
    exact load_C hn ho hy hb hc hok
  · rename_i k off
    obtain ⟨p, b, o', hp, hat, hy⟩ := h1
    obtain ⟨ob, hO, hog, hob⟩ := place k p hp
    rw [hog] at hok ⊢
    cases ob with
    | cells cs =>
      obtain ⟨b', arr, e, z, hat', _, hb, _, _, hc⟩ := hob
      rw [hat] at hat'; obtain ⟨rfl, rfl⟩ := Prod.mk.inj (Option.some.inj hat')
      rw [Nat.zero_add] at hy
      exact load_L hn ho hy hb hc hok
    | fcells cs =>
      obtain ⟨b', o'', arr, hat', hF, hc⟩ := hob
      rw [hat] at hat'; obtain ⟨rfl, rfl⟩ := Prod.mk.inj (Option.some.inj hat')
      obtain ⟨e, z, hb⟩ := hs.fz _ arr hF
      simp only [ldO, dr_eq] at hok ⊢
      exact load_C hn ho hy hb hc.drop hok
    | _ => exact (hok : False).elim
  · rename_i k i off
    obtain ⟨p, b, o', hp, hat, hy⟩ := h1
    obtain ⟨ob, hO, hog, hob⟩ := place k p hp
    rw [hog] at hok ⊢
    cases ob with
    | row pn s es =>
      obtain ⟨hps, hlen, hcap, hrow⟩ := hob
      obtain ⟨hlt, hok⟩ := hok
      rcases hrow with ⟨hno, _⟩ | ⟨b', o'', arr, e, z, hat', _, hb, _, _, hr⟩
      · rw [hat] at hno; cases hno
      · rw [hat] at hat'; obtain ⟨rfl, rfl⟩ := Prod.mk.inj (Option.some.inj hat')
        obtain ⟨_, hc⟩ := hr.get (i := i) (List.getElem?_eq_getElem hlt)
        have hg : es.getD i [] = es[i] := by rw [List.getD_eq_getElem?_getD, List.getElem?_eq_getElem hlt]; rfl
        simp only [ldE, hg, dr_eq] at hok ⊢
        rw [hps] at hy
        exact load_C hn ho hy hb hc.drop hok
    | frow s es =>
      obtain ⟨hps, hlen, hcap, hrow⟩ := hob
      obtain ⟨hlt, hok⟩ := hok
      rcases hrow with ⟨hno, _⟩ | ⟨b', o'', arr, hat', hF, hr⟩
      · rw [hat] at hno; cases hno
      · rw [hat] at hat'; obtain ⟨rfl, rfl⟩ := Prod.mk.inj (Option.some.inj hat')
        obtain ⟨e, z, hb⟩ := hs.fz _ arr hF
        obtain ⟨_, hc⟩ := hr.get (i := i) (List.getElem?_eq_getElem hlt)
        have hg : es.getD i [] = es[i] := by rw [List.getD_eq_getElem?_getD, List.getElem?_eq_getElem hlt]; rfl
        simp only [ldE, hg, dr_eq] at hok ⊢
        rw [hps] at hy
        exact load_C hn ho hy hb hc.drop hok
    | _ => exact (hok : False).elim
  · exact hok.elim

theorem pointer_of {v : Value} {a' : Addr} (h : v = .pointer (some a')) (w : World) : (Instr.sureAddr v).run P w = .ok a' w := by
  subst h; simp [Instr.sureAddr, pure, Sem.run]

theorem run_info {t : TypeId} {i : TypeInfo} (h : P.info? t = some i) (w : World) : (typeInfo t).run P w = .ok i w := by
  simp only [typeInfo, program, bind, run_bind, Sem.run, h, pure]
theorem run_size {t : TypeId} {i : TypeInfo} (h : P.info? t = some i) (w : World) : (sizeOf t).run P w = .ok i.size w := by
  simp only [sizeOf, bind, run_bind, run_info h, pure, Sem.run]

theorem fa_sound (hs : St G F σ O w) (hf : LRepL F σ fr a.tmps.toList) {o : Oper} {t : TypeId} {x : Operand} {x' : Od} {fs : Array Field} {j : Nat} {f : Field} {i : TypeInfo} (hx : compOd G x = some x')
    (ht : P.underlying t = some (.struct fs)) (hj : fs[j]? = some f) (hi : P.info? f.type = some i) (hi0 : i.size ≠ 0)
    (ho : o.op = .fieldAddr t x j) (hok : (faV f.offset (ev fr x')).ok) : Gives P F σ w a o (faV f.offset (ev fr x')).v := by
  have h1 := ev_sound hs hf hx
  generalize ev fr x' = xv at *
  have go : ∀ b off, a.eval x = .pointer (some ⟨b, off, none⟩) → (execOp a.eval o).run P w = .ok (.value (.pointer (some ⟨b, off + f.offset, none⟩))) w := by
    intro b off h
    simp only [execOp, ho, Instr.fieldAt, bind, run_bind, run_und ht, hj, pointer_of h, fieldPlace, run_size hi, if_neg hi0, add_at, pure, Sem.run]
  unfold faV at *
  split at hok
  · rename_i cs
    obtain ⟨b, off, arr, hy, hF, hc⟩ := h1
    refine ⟨_, go b off hy, b, off + f.offset, arr, rfl, hF, ?_⟩
    rw [dr_eq]; exact hc.drop
  · obtain ⟨p, b, o', hp, hat, hy⟩ := h1
    refine ⟨_, go b _ hy, p, b, o', hp, hat, ?_⟩
    rw [Nat.add_assoc]
  · obtain ⟨p, b, o', hp, hat, hy⟩ := h1
    refine ⟨_, go b _ hy, p, b, o', hp, hat, ?_⟩
    rw [Nat.add_assoc]
  · exact hok.elim

/-- A part of an aggregate's cells. -/
theorem part_L {t : TypeId} {n : Option Nat} (hn : loadN P t = some n) {cs : List LV} {arr : Array Value} {off : Nat} (hc : LRepL F σ cs arr.toList) (hok : (ldL n (dr off cs)).ok) :
    ∃ y, (part t arr off).run P w = .ok y w ∧ LRep F σ (ldL n (dr off cs)).v y := by
  unfold loadN at hn
  have hagg : ∀ d, P.underlying t = some d → (isAgg t).run P w = .ok (match d with | .struct _ | .array _ _ => true | _ => false) w := by
    intro d hd
    simp only [isAgg, bind, run_bind, run_und hd]
    cases d <;> simp [pure, Sem.run]
  rw [dr_eq] at *
  have hd' := hc.drop (n := off)
  have many : ∀ k, n = some k → ∀ i, P.info? t = some i → i.size = k → ∃ y, y = .agg (arr.extract off (off + k)) ∧ LRep F σ (ldL n (cs.drop off)).v y := by
    rintro k rfl i hi rfl
    cases hk : i.size with
    | zero => rw [hk] at hok; exact (hok : False).elim
    | succ m =>
      rw [hk] at hok
      refine ⟨_, rfl, ?_⟩
      simp only [ldL, LRep, tk_eq]
      refine ⟨_, rfl, ?_⟩
      have := hd'.take (n := m + 1)
      rwa [Array.toList_extract, List.extract_eq_take_drop, show off + (m + 1) - off = m + 1 from by omega]
  split at hn
  · rename_i fs i hd hi
    obtain rfl := Option.some.inj hn
    obtain ⟨y, rfl, hr⟩ := many _ rfl i hi rfl
    exact ⟨_, by simp only [part, bind, run_bind, hagg _ hd, run_size hi, if_true, pure, Sem.run], hr⟩
  · rename_i m el i hd hi
    obtain rfl := Option.some.inj hn
    obtain ⟨y, rfl, hr⟩ := many _ rfl i hi rfl
    exact ⟨_, by simp only [part, bind, run_bind, hagg _ hd, run_size hi, if_true, pure, Sem.run], hr⟩
  · rename_i d i hn1 hn2 hd hi
    obtain rfl := Option.some.inj hn
    have : (match d with | .struct _ | .array _ _ => true | _ => false) = false := by
      cases d <;> first | rfl | (exact (hn1 _ rfl).elim) | (exact (hn2 _ _ rfl).elim)
    cases hcs : cs.drop off with
    | nil => rw [hcs] at hok; exact (hok : False).elim
    | cons c r =>
      rw [hcs] at hd'
      obtain ⟨y, r', hy, hr, _⟩ := hd'
      have hy' : arr[off]? = some y := by
        rw [← Array.getElem?_toList, show off = off + 0 from rfl, ← List.getElem?_drop, hy]; rfl
      exact ⟨y, by simp only [part, bind, run_bind, hagg _ hd, this, Bool.false_eq_true, if_false, hy', pure, Sem.run], by simpa [ldL, Av.hd] using hr⟩
  · cases hn

theorem LRepL_g_inv : ∀ {cs : List V} {ys : List Value}, LRepL F σ (cs.map .g) ys → RepL F cs ys
  | [], ys, h => h
  | c :: cs, ys, h => by obtain ⟨y, r, rfl, hc, hr⟩ := h; exact ⟨y, r, rfl, hc, LRepL_g_inv hr⟩
theorem map_dr {α β : Type} (f : α → β) : ∀ (n : Nat) (l : List α), (dr n l).map f = dr n (l.map f)
  | 0, l => rfl
  | n + 1, [] => rfl
  | n + 1, x :: l => map_dr f n l
theorem map_tk {α β : Type} (f : α → β) : ∀ (n : Nat) (l : List α), (tk n l).map f = tk n (l.map f)
  | 0, l => rfl
  | n + 1, [] => rfl
  | n + 1, x :: l => by simp [tk, map_tk f n l]
theorem lg_map {α β : Type} (f : α → β) {n : Nat} {l : List α} : lg n (l.map f) ↔ lg n l := by rw [lg_iff, lg_iff, List.length_map]
theorem part_C {t : TypeId} {n : Option Nat} (hn : loadN P t = some n) {cs : List V} {arr : Array Value} {off : Nat} (hc : RepL F cs arr.toList) (hok : (ldC n (dr off cs)).ok) :
    ∃ y, (part t arr off).run P w = .ok y w ∧ LRep F σ (ldC n (dr off cs)).v y := by
  have hok' : (ldL n (dr off (cs.map LV.g))).ok := by
    rw [← map_dr]
    match n, hok with
    | none, hok => exact (lg_map _).2 hok
    | some (n + 1), hok => exact (lg_map _).2 hok
  obtain ⟨y, hy, hr⟩ := part_L (P := P) (w := w) (σ := σ) hn (LRepL_map_g hc) hok'
  refine ⟨y, hy, ?_⟩
  rw [← map_dr] at hr
  match n, hok, hr with
  | none, hok, hr =>
    cases h : dr off cs with
    | nil => rw [h] at hok; exact (hok : False).elim
    | cons c r => rw [h] at hr; exact hr
  | some (n + 1), hok, hr =>
    obtain ⟨ys, rfl, hl⟩ := hr
    rw [← map_tk] at hl
    exact ⟨ys, rfl, LRepL_g_inv hl⟩

theorem fld_sound (hs : St G F σ O w) (hf : LRepL F σ fr a.tmps.toList) {o : Oper} {t : TypeId} {x : Operand} {x' : Od} {fs : Array Field} {j : Nat} {f : Field} {n : Option Nat} (hx : compOd G x = some x')
    (ht : P.underlying t = some (.struct fs)) (hj : fs[j]? = some f) (hn : loadN P f.type = some n)
    (ho : o.op = .field t x j) (hok : (fldV f.offset n (ev fr x')).ok) : Gives P F σ w a o (fldV f.offset n (ev fr x')).v := by
  have h1 := ev_sound hs hf hx
  generalize ev fr x' = xv at *
  have go : ∀ (arr : Array Value) v, a.eval x = .agg arr → (part f.type arr f.offset).run P w = .ok v w → (execOp a.eval o).run P w = .ok (.value v) w := by
    intro arr v h hv
    simp only [execOp, ho, Instr.field, bind, run_bind, run_und ht, hj, h, asAgg, hv, pure, Sem.run]
  unfold fldV at *
  split at hok
  · obtain ⟨ys, hy, hc⟩ := h1
    obtain ⟨y, hv, hr⟩ := part_C (P := P) (w := w) (σ := σ) hn hc hok
    exact ⟨y, go ys y hy hv, hr⟩
  · obtain ⟨ys, hy, hc⟩ := h1
    obtain ⟨y, hv, hr⟩ := part_L (P := P) (w := w) (σ := σ) hn hc hok
    exact ⟨y, go ys y hy hv, hr⟩
  · exact hok.elim

theorem idx_sound (hs : St G F σ O w) (hf : LRepL F σ fr a.tmps.toList) {o : Oper} {t el : TypeId} {x i : Operand} {x' i' : Od} {len : Nat} {n : Option Nat} {inf : TypeInfo} (hx : compOd G x = some x') (hi : compOd G i = some i')
    (ht : P.underlying t = some (.array len el)) (hel : P.info? el = some inf) (hn : loadN P el = some n)
    (ho : o.op = .index t x i) (hok : (idxV len inf.size n (ev fr x') (ev fr i')).ok) : Gives P F σ w a o (idxV len inf.size n (ev fr x') (ev fr i')).v := by
  have h1 := ev_sound hs hf hx
  have h2 := ev_sound hs hf hi
  generalize ev fr x' = xv at *
  generalize ev fr i' = iv at *
  have go : ∀ (arr : Array Value) k (m : Int) v, a.eval x = .agg arr → a.eval i = .int k m → 0 ≤ m ∧ m < len → (part el arr (m.toNat * inf.size)).run P w = .ok v w → (execOp a.eval o).run P w = .ok (.value v) w := by
    intro arr k m v h h' hm hv
    simp only [execOp, ho, Instr.index, bind, run_bind, h', asIntOf, run_und ht, h, if_pos hm, run_size hel, hv, pure, Sem.run]
  unfold idxV at *
  split at hok
  · obtain ⟨ys, hy, hc⟩ := h1
    simp only [LRep, Rep] at h2
    obtain ⟨hm, hok⟩ := hok
    obtain ⟨y, hv, hr⟩ := part_C (P := P) (w := w) (σ := σ) hn hc hok
    exact ⟨y, go ys _ _ y hy h2 hm hv, hr⟩
  · obtain ⟨ys, hy, hc⟩ := h1
    simp only [LRep, Rep] at h2
    obtain ⟨hm, hok⟩ := hok
    obtain ⟨y, hv, hr⟩ := part_L (P := P) (w := w) (σ := σ) hn hc hok
    exact ⟨y, go ys _ _ y hy h2 hm hv, hr⟩
  · exact hok.elim

theorem istr_sound (hs : St G F σ O w) (hf : LRepL F σ fr a.tmps.toList) {o : Oper} {t : TypeId} {x i : Operand} {x' i' : Od} (hx : compOd G x = some x') (hi : compOd G i = some i')
    (ht : P.underlying t = some .string)
    (ho : o.op = .index t x i) (hok : (istrV (ev fr x') (ev fr i')).ok) : Gives P F σ w a o (istrV (ev fr x') (ev fr i')).v := by
  have h1 := ev_sound hs hf hx
  have h2 := ev_sound hs hf hi
  generalize ev fr x' = xv at *
  generalize ev fr i' = iv at *
  unfold istrV at *
  split at hok
  · rename_i b k m
    simp only [LRep, Rep] at h1 h2
    obtain ⟨h0, hm⟩ := hok
    have hlt : m.toNat < b.length := by omega
    refine ⟨.int .u8 ((b.getD m.toNat 0).toNat : Int), ?_, rfl⟩
    have : (if 0 ≤ m then (⟨b.toArray⟩ : ByteArray)[m.toNat]? else none) = some (b.getD m.toNat 0) := by
      rw [if_pos h0]
      show (⟨b.toArray⟩ : ByteArray)[m.toNat]? = _
      have hsz : m.toNat < (⟨b.toArray⟩ : ByteArray).size := by simpa [ByteArray.size] using hlt
      rw [getElem?_pos (⟨b.toArray⟩ : ByteArray) m.toNat hsz]
      simp [ByteArray.getElem_eq_getElem_data, List.getD_eq_getElem?_getD, List.getElem?_eq_getElem hlt]
    simp only [execOp, ho, Instr.index, bind, run_bind, h2, asIntOf, run_und ht, h1, this, pure, Sem.run]
  · exact hok.elim

theorem place (hs : St G F σ O w) {k : Nat} {p : Pl} (hp : σ[k]? = some p) : ∃ ob, O[k]? = some ob ∧ og O k = ob ∧ ObjOk F σ w ob p := by
  have hk : k < O.length := by rw [hs.len]; exact (List.getElem?_eq_some_iff.1 hp).1
  exact ⟨O[k], List.getElem?_eq_getElem hk, by rw [og_eq, List.getD_eq_getElem?_getD, List.getElem?_eq_getElem hk]; rfl, hs.obj k _ p (List.getElem?_eq_getElem hk) hp⟩

/-- What a row's number of elements and size say of its place. -/
theorem row_place {ob : Obj} {p : Pl} {n : Nat} (h : ObjOk F σ w ob p) (hn : rowLen ob = some n) : rowS ob = p.s ∧ n = p.len ∧ p.len ≤ p.cap := by
  cases ob with
  | row pn s es => obtain ⟨h1, h2, h3, _⟩ := h; simp only [rowLen, Option.some.injEq] at hn; exact ⟨h1.symm, by omega, Nat.le_trans h3 (Nat.min_le_left _ _)⟩
  | frow s es => obtain ⟨h1, h2, h3, _⟩ := h; simp only [rowLen, Option.some.injEq] at hn; exact ⟨h1.symm, by omega, Nat.le_trans h3 (Nat.min_le_left _ _)⟩
  | _ => simp [rowLen] at hn

theorem ia_sound (hs : St G F σ O w) (hf : LRepL F σ fr a.tmps.toList) {o : Oper} {t el : TypeId} {x i : Operand} {x' i' : Od} {inf : TypeInfo} (hx : compOd G x = some x') (hi : compOd G i = some i')
    (ht : P.underlying t = some (.slice el)) (hel : P.info? el = some inf)
    (ho : o.op = .indexAddr t x i) (hok : (iaV O inf.size (ev fr x') (ev fr i')).ok) : Gives P F σ w a o (iaV O inf.size (ev fr x') (ev fr i')).v := by
  have h1 := ev_sound hs hf hx
  have h2 := ev_sound hs hf hi
  generalize ev fr x' = xv at *
  generalize ev fr i' = iv at *
  have go : ∀ k (m : Int) len cap b off, a.eval x = .slice (some ⟨b, off, none⟩) len cap → a.eval i = .int k m → 0 ≤ m ∧ m < (len : Int) → (execOp a.eval o).run P w = .ok (.value (.pointer (some ⟨b, off + m.toNat * inf.size, none⟩))) w := by
    intro k m len cap b off h h' hm
    simp only [execOp, ho, Instr.indexAt, bind, run_bind, h', asIntOf, run_und ht, h, if_pos hm, run_size hel, add_at, pure, Sem.run]
  unfold iaV at *
  split at hok
  · rename_i s' es k m
    obtain ⟨ad, cap, hy, hcap, hr⟩ := h1
    simp only [LRep, Rep] at h2
    obtain ⟨rfl, h0, hm⟩ := hok
    have hlt : m.toNat < es.length := by omega
    rcases hr with rfl | ⟨b, off, arr, rfl, hF, hr⟩
    · simp at hlt
    · refine ⟨_, go _ m _ _ b off hy h2 ⟨h0, hm⟩, b, _, arr, rfl, hF, ?_⟩
      have hg : es.getD m.toNat [] = es[m.toNat] := by rw [List.getD_eq_getElem?_getD, List.getElem?_eq_getElem hlt]; rfl
      rw [hg]
      exact (hr.get (List.getElem?_eq_getElem hlt)).2
  · rename_i k kk m
    obtain ⟨p, ad, hp, hy, hr⟩ := h1
    simp only [LRep, Rep] at h2
    obtain ⟨ob, hO, hog, hob⟩ := place hs hp
    rw [hog] at hok ⊢
    cases hl : rowLen ob with
    | none => rw [hl] at hok; exact (hok : False).elim
    | some n =>
      rw [hl] at hok
      obtain ⟨hs', h0, hm⟩ := hok
      obtain ⟨e1, e2, e3⟩ := row_place hob hl
      subst e2
      rcases hr with ⟨_, hc⟩ | ⟨b, off, hat, rfl⟩
      · omega
      · refine ⟨_, go _ m _ _ b off hy h2 ⟨h0, hm⟩, p, b, off, hp, hat, ?_⟩
        rw [← hs', e1]; rfl
  · rename_i k lo hi kk m
    obtain ⟨p, ad, hp, hy, hlo, hhi, hr⟩ := h1
    simp only [LRep, Rep] at h2
    obtain ⟨ob, hO, hog, hob⟩ := place hs hp
    rw [hog] at hok ⊢
    cases hl : rowLen ob with
    | none => rw [hl] at hok; exact (hok : False).elim
    | some n =>
      rw [hl] at hok
      obtain ⟨hs', h0, hm⟩ := hok
      obtain ⟨e1, e2, e3⟩ := row_place hob hl
      rcases hr with hc | ⟨b, off, hat, rfl⟩
      · omega
      · refine ⟨_, go _ m _ _ b _ hy h2 ⟨h0, hm⟩, p, b, off, hp, hat, ?_⟩
        rw [← hs', e1, Nat.add_mul]
        simp [Nat.add_assoc]
  · exact hok.elim

theorem iarr_sound (hs : St G F σ O w) (hf : LRepL F σ fr a.tmps.toList) {o : Oper} {t el : TypeId} {x i : Operand} {x' i' : Od} {len : Nat} {inf : TypeInfo} (hx : compOd G x = some x') (hi : compOd G i = some i')
    (ht : P.underlying t = some (.array len el)) (hel : P.info? el = some inf)
    (ho : o.op = .indexAddr t x i) (hok : (iarrV len inf.size (ev fr x') (ev fr i')).ok) : Gives P F σ w a o (iarrV len inf.size (ev fr x') (ev fr i')).v := by
  have h1 := ev_sound hs hf hx
  have h2 := ev_sound hs hf hi
  generalize ev fr x' = xv at *
  generalize ev fr i' = iv at *
  have go : ∀ k (m : Int) b off, a.eval x = .pointer (some ⟨b, off, none⟩) → a.eval i = .int k m → 0 ≤ m ∧ m < (len : Int) → (execOp a.eval o).run P w = .ok (.value (.pointer (some ⟨b, off + m.toNat * inf.size, none⟩))) w := by
    intro k m b off h h' hm
    simp only [execOp, ho, Instr.indexAt, bind, run_bind, h', asIntOf, run_und ht, pointer_of h, if_pos hm, run_size hel, add_at, pure, Sem.run]
  unfold iarrV at *
  split at hok
  · obtain ⟨b, off, arr, hy, hF, hc⟩ := h1
    simp only [LRep, Rep] at h2
    refine ⟨_, go _ _ b off hy h2 hok.1, b, _, arr, rfl, hF, ?_⟩
    rw [dr_eq]; exact hc.drop
  · obtain ⟨p, b, o', hp, hat, hy⟩ := h1
    simp only [LRep, Rep] at h2
    refine ⟨_, go _ _ b _ hy h2 hok, p, b, o', hp, hat, ?_⟩
    rw [Nat.add_assoc]
  · exact hok.elim

theorem len_go {o : Oper} {t : TypeId} {x : Operand} (ho : o.op = .call { callee := .builtin .len, args := #[x], argTypes := #[t] }) {v : Value} (hv : (Builtin.len_ #[t] o.type #[a.eval x]).run P w = .ok v w) :
    (execOp a.eval o).run P w = .ok (.value v) w := by
  simp only [execOp, ho, resolve, invoke, builtin, bind, run_bind, pure, Sem.run, List.map_toArray, List.map_cons, List.map_nil, hv]
theorem len_slice {t el ty : TypeId} (ht : P.underlying t = some (.slice el)) (ad : Option Addr) (n cap : Nat) : (Builtin.len_ #[t] ty #[.slice ad n cap]).run P w = .ok (.int .i64 n) w := by
  unfold Builtin.len_
  show Sem.run P (Sem.bind (underlying t) _) w = _
  rw [run_bind, run_und ht]; rfl
theorem len_str {t ty : TypeId} (ht : P.underlying t = some .string) (s : ByteArray) : (Builtin.len_ #[t] ty #[.string s]).run P w = .ok (.int .i64 s.size) w := by
  unfold Builtin.len_
  show Sem.run P (Sem.bind (underlying t) _) w = _
  rw [run_bind, run_und ht]; rfl

theorem slen_sound (hs : St G F σ O w) (hf : LRepL F σ fr a.tmps.toList) {o : Oper} {t : TypeId} {x : Operand} {x' : Od} (hx : compOd G x = some x')
    (ht : P.underlying t = some .string)
    (ho : o.op = .call { callee := .builtin .len, args := #[x], argTypes := #[t] }) (hok : (slenV (ev fr x')).ok) : Gives P F σ w a o (slenV (ev fr x')).v := by
  have h1 := ev_sound hs hf hx
  generalize ev fr x' = xv at *
  unfold slenV at *
  split at hok
  · rename_i b
    simp only [LRep, Rep] at h1
    refine ⟨_, len_go ho (by rw [h1]; exact len_str ht _), ?_⟩
    simp [LRep, Rep, ByteArray.size]
  · exact hok.elim

theorem len_sound (hs : St G F σ O w) (hf : LRepL F σ fr a.tmps.toList) {o : Oper} {t el : TypeId} {x : Operand} {x' : Od} (hx : compOd G x = some x')
    (ht : P.underlying t = some (.slice el))
    (ho : o.op = .call { callee := .builtin .len, args := #[x], argTypes := #[t] }) (hok : (lenV O (ev fr x')).ok) : Gives P F σ w a o (lenV O (ev fr x')).v := by
  have h1 := ev_sound hs hf hx
  generalize ev fr x' = xv at *
  unfold lenV at *
  split at hok
  · obtain ⟨ad, cap, hy, _⟩ := h1
    exact ⟨_, len_go ho (by rw [hy]; exact len_slice ht _ _ _), rfl⟩
  · simp only [LRep, Rep] at h1
    exact ⟨_, len_go ho (by rw [h1]; exact len_slice ht _ _ _), rfl⟩
  · obtain ⟨p, ad, hp, hy, hr⟩ := h1
    obtain ⟨ob, hO, hog, hob⟩ := place hs hp
    rw [hog] at hok ⊢
    cases hl : rowLen ob with
    | none => rw [hl] at hok; exact (hok : False).elim
    | some n =>
      obtain ⟨e1, e2, e3⟩ := row_place hob hl
      subst e2
      exact ⟨_, len_go ho (by rw [hy]; exact len_slice ht _ _ _), rfl⟩
  · obtain ⟨p, ad, hp, hy, hr⟩ := h1
    exact ⟨_, len_go ho (by rw [hy]; exact len_slice ht _ _ _), rfl⟩
  · exact hok.elim

/-- The nil of a kind, and the types of that kind. -/
def NK.nil : NK → Value
  | .iface => .nilIface
  | .ptr => .pointer none
  | .map => .map none
  | .func => .nilFunc
def NK.of : TypeDesc → Option NK
  | .interface _ => some .iface
  | .pointer _ => some .ptr
  | .map _ _ => some .map
  | .func _ _ _ => some .func
  | _ => none

theorem equalIn_nil {t : TypeId} {d : TypeDesc} {c : NK} (ht : P.underlying t = some d) (hc : NK.of d = some c) {x : LV} {y : Value} {b : Bool} (h : LRep F σ x y) (hb : isnilV c x = some b) (n : Nat) (w : World) :
    (Op.equalIn (n + 1) t y c.nil).run P w = .ok b w := by
  unfold isnilV at hb
  split at hb <;> simp only [Option.some.injEq, reduceCtorEq] at hb <;> subst hb <;> simp only [LRep, Rep] at h
  case h_2 => obtain ⟨u, rfl, _⟩ := h; cases d <;> simp only [NK.of, Option.some.injEq, reduceCtorEq] at hc; simp only [NK.nil, Op.equalIn, bind, run_bind, run_und ht, pure, Sem.run]
  case h_3 => obtain ⟨u, rfl, _⟩ := h; cases d <;> simp only [NK.of, Option.some.injEq, reduceCtorEq] at hc; simp only [NK.nil, Op.equalIn, bind, run_bind, run_und ht, pure, Sem.run]
  case h_5 => obtain ⟨_, _, _, rfl, _⟩ := h; cases d <;> simp only [NK.of, Option.some.injEq, reduceCtorEq] at hc; simp only [NK.nil, Op.equalIn, bind, run_bind, run_und ht, pure, Sem.run]
  case h_6 => obtain ⟨_, _, _, _, _, rfl⟩ := h; cases d <;> simp only [NK.of, Option.some.injEq, reduceCtorEq] at hc; simp only [NK.nil, Op.equalIn, bind, run_bind, run_und ht, pure, Sem.run]
  case h_7 => obtain ⟨_, _, _, _, _, rfl⟩ := h; cases d <;> simp only [NK.of, Option.some.injEq, reduceCtorEq] at hc; simp only [NK.nil, Op.equalIn, bind, run_bind, run_und ht, pure, Sem.run]
  case h_9 => obtain ⟨_, _, _, _, _, rfl⟩ := h; cases d <;> simp only [NK.of, Option.some.injEq, reduceCtorEq] at hc; simp only [NK.nil, Op.equalIn, bind, run_bind, run_und ht, pure, Sem.run]
  case h_11 => obtain ⟨_, rfl, _⟩ := h; cases d <;> simp only [NK.of, Option.some.injEq, reduceCtorEq] at hc; simp only [NK.nil, Op.equalIn, bind, run_bind, run_und ht, pure, Sem.run]
  case h_12 => obtain ⟨_, rfl, _⟩ := h; cases d <;> simp only [NK.of, Option.some.injEq, reduceCtorEq] at hc; simp only [NK.nil, Op.equalIn, bind, run_bind, run_und ht, pure, Sem.run]
  all_goals (subst h; cases d <;> simp only [NK.of, Option.some.injEq, reduceCtorEq] at hc; simp only [NK.nil, Op.equalIn, bind, run_bind, run_und ht, pure, Sem.run, Option.isNone])

theorem nilck_sound (hs : St G F σ O w) (hf : LRepL F σ fr a.tmps.toList) {o : Oper} {x : Operand} {x' : Od} (hx : compOd G x = some x')
    (ho : o.op = .nilCheck x) (hok : (nilckV (ev fr x')).ok) : Gives P F σ w a o (nilckV (ev fr x')).v := by
  have h1 := ev_sound hs hf hx
  generalize ev fr x' = xv at *
  have hp : isnilV .ptr xv = some false := by
    unfold nilckV at hok
    split at hok
    · assumption
    · exact hok.elim
  have hv : (nilckV xv).v = xv := by unfold nilckV; rw [hp]
  rw [hv]
  refine ⟨a.eval x, ?_, h1⟩
  have : ∃ q, a.eval x = .pointer (some q) := by
    generalize hc : NK.ptr = c at hp
    unfold isnilV at hp
    split at hp <;> simp only [Option.some.injEq, reduceCtorEq] at hp hc <;> simp only [LRep, Rep] at h1
    · obtain ⟨_, _, _, h, _⟩ := h1; exact ⟨_, h⟩
    · obtain ⟨_, _, _, _, _, h⟩ := h1; exact ⟨_, h⟩
    · obtain ⟨_, _, _, _, _, h⟩ := h1; exact ⟨_, h⟩
  obtain ⟨q, h⟩ := this
  simp only [execOp, ho, h, pure, Sem.run]

theorem eqGuard_nil (op : BinOp) (t : TypeId) (x : Operand) (u : Value) (c : NK) (w : World) : (eqGuard op t x (.const c.nil) u c.nil).run P w = .ok () w := by
  cases op <;> first | (simp [eqGuard, pure, Sem.run]; done) | (cases u <;> cases c <;> simp [eqGuard, NK.nil, pure, Sem.run])
theorem binOp_eql_nil (t : TypeId) (u : Value) (c : NK) : binOp .eql t u c.nil = (Op.equal t u c.nil).bind fun r => .pure (.bool r) := by
  cases c <;> cases u <;> rfl
theorem binOp_neq_nil (t : TypeId) (u : Value) (c : NK) : binOp .neq t u c.nil = (Op.equal t u c.nil).bind fun r => .pure (.bool (!r)) := by
  cases c <;> cases u <;> rfl

/-- A comparison with the nil constant. -/
theorem nil_sound (hs : St G F σ O w) (hf : LRepL F σ fr a.tmps.toList) {o : Oper} {op : BinOp} {t t' : TypeId} {d : TypeDesc} {c : NK} {x : Operand} {x' : Od} (hx : compOd G x = some x')
    (hop : op = .eql ∨ op = .neq) (ht : P.underlying t = some d) (hc : NK.of d = some c)
    (ho : o.op = .binOp op t x (.const c.nil) t')
    (hok : (nilV c (op == .neq) (ev fr x')).ok) : Gives P F σ w a o (nilV c (op == .neq) (ev fr x')).v := by
  have h1 := ev_sound hs hf hx
  generalize ev fr x' = xv at *
  unfold nilV at *
  split at hok
  · rename_i b hb
    have he : (Op.equal t (a.eval x) c.nil).run P w = .ok b w := equalIn_nil ht hc h1 hb 9999 w
    simp only [hb]
    refine ⟨.bool (b != (op == .neq)), bin_run ho (eqGuard_nil op t x _ c w) ?_, rfl⟩
    show (binOp op t (a.eval x) c.nil).run P w = _
    rcases hop with rfl | rfl
    · rw [binOp_eql_nil, run_bind, he]; simp only [Sem.run]; cases b <;> rfl
    · rw [binOp_neq_nil, run_bind, he]; simp only [Sem.run]; cases b <;> rfl
  · exact hok.elim
end
end Go.Av

namespace Go.Av
set_option linter.unusedVariables false
set_option linter.unusedSimpArgs false

section
variable {P : Program} {G : Gl} {F : Fz} {σ : List Pl} {O : List Obj} {w : World} {fr : List LV} {a : Act}

theorem RepR.drop {arr : Array Value} {s : Nat} : ∀ {n : Nat} {es : List (List V)} {o : Nat}, RepR F s arr es o → RepR F s arr (es.drop n) (o + n * s)
  | 0, es, o, h => by simpa using h
  | n + 1, [], o, h => by simp [RepR]
  | n + 1, e :: es, o, h => by
    have := RepR.drop (n := n) h.2.2
    rwa [show o + s + n * s = o + (n + 1) * s from by rw [Nat.add_mul]; omega] at this
theorem RepR.take {arr : Array Value} {s : Nat} : ∀ {n : Nat} {es : List (List V)} {o : Nat}, RepR F s arr es o → RepR F s arr (es.take n) o
  | 0, es, o, h => by simp [RepR]
  | n + 1, [], o, h => by simp [RepR]
  | n + 1, e :: es, o, h => ⟨h.1, h.2.1, RepR.take h.2.2⟩

/-- A bound of a slice expression: given or not. -/
def bdOk (d : Int) (l : LV) (v : Option Value) (n : Int) : Prop := l = .g (.int .i64 n) ∧ (v = none ∧ n = d ∨ ∃ k, v = some (.int k n))

theorem run_bound {k : IntKind} {n : Int} {y : Nat} {c : BoundsCode} (h0 : 0 ≤ n) (h1 : n ≤ y) (w : World) : (Instr.sliceBound (.int k n) y c).run P w = .ok n.toNat w := by
  simp only [Instr.sliceBound, asIntOf, bind, run_bind, pure, Sem.run, if_pos (And.intro h0 h1)]

/-- The bounds of a slice expression without a third index. -/
theorem run_bounds {isS : Bool} {len cap : Nat} {lo hi : Option Value} {l h : Int} (hl : (lo = none ∧ l = 0) ∨ ∃ k, lo = some (.int k l)) (hh : (hi = none ∧ h = len) ∨ ∃ k, hi = some (.int k h))
    (h0 : 0 ≤ l) (h1 : l ≤ h) (h2 : h ≤ len) (h3 : len ≤ cap) (w : World) : (Instr.sliceBounds isS len cap lo hi none).run P w = .ok (l.toNat, h.toNat, cap) w := by
  have hc : h ≤ (cap : Int) := by omega
  have hl' : l ≤ (h.toNat : Int) := by omega
  rcases hl with ⟨rfl, rfl⟩ | ⟨k, rfl⟩
  · rcases hh with ⟨rfl, rfl⟩ | ⟨j, rfl⟩
    · simp only [Instr.sliceBounds, bind, run_bind, pure, Sem.run, Int.toNat_natCast, Int.toNat_zero]
    · simp only [Instr.sliceBounds, bind, run_bind, pure, Sem.run, run_bound (by omega : (0 : Int) ≤ h) hc, Int.toNat_zero]
  · rcases hh with ⟨rfl, rfl⟩ | ⟨j, rfl⟩
    · simp only [Instr.sliceBounds, bind, run_bind, pure, Sem.run, run_bound h0 h1, Int.toNat_natCast]
    · simp only [Instr.sliceBounds, bind, run_bind, pure, Sem.run, run_bound (by omega : (0 : Int) ≤ h) hc, run_bound h0 hl']

theorem bd_of {d n : Int} {k : IntKind} {x : Option LV} {v : Option Value} (hx : match x, v with | none, none => True | some l, some y => LRep F σ l y | _, _ => False) (h : bd d x = .g (.int k n)) : (v = none ∧ n = d) ∨ ∃ k, v = some (.int k n) := by
  cases x with
  | none =>
    cases v with
    | none => simp only [bd, LV.g.injEq, V.int.injEq] at h; exact .inl ⟨rfl, h.2.symm⟩
    | some y => exact hx.elim
  | some l =>
    cases v with
    | none => exact hx.elim
    | some y =>
      simp only [bd] at h; subst h
      simp only [LRep, Rep] at hx
      exact .inr ⟨k, by rw [hx]⟩

theorem opt_ev (hs : St G F σ O w) (hf : LRepL F σ fr a.tmps.toList) {x : Option Operand} {x' : Option Od} (hx : (match x with | none => some none | some y => (compOd G y).map some) = some x') :
    match x'.map (ev fr), x.map a.eval with | none, none => True | some l, some y => LRep F σ l y | _, _ => False := by
  cases x with
  | none => simp only [Option.some.injEq] at hx; subst hx; trivial
  | some y =>
    simp only [Option.map_eq_some_iff] at hx
    obtain ⟨y', hy, rfl⟩ := hx
    exact ev_sound hs hf hy

theorem slc_sound (hs : St G F σ O w) (hf : LRepL F σ fr a.tmps.toList) {o : Oper} {t el : TypeId} {x : Operand} {lo hi : Option Operand} {x' : Od} {lo' hi' : Option Od} {inf : TypeInfo} (hx : compOd G x = some x')
    (hlo : (match lo with | none => some none | some y => (compOd G y).map some) = some lo') (hhi : (match hi with | none => some none | some y => (compOd G y).map some) = some hi')
    (ht : P.underlying t = some (.slice el)) (hel : P.info? el = some inf)
    (ho : o.op = .slice t x lo hi none) (hok : (slcV O inf.size (ev fr x') (lo'.map (ev fr)) (hi'.map (ev fr))).ok) : Gives P F σ w a o (slcV O inf.size (ev fr x') (lo'.map (ev fr)) (hi'.map (ev fr))).v := by
  have h1 := ev_sound hs hf hx
  have h2 := opt_ev hs hf hlo
  have h3 := opt_ev hs hf hhi
  generalize ev fr x' = xv at *
  generalize lo'.map (ev fr) = lv at *
  generalize hi'.map (ev fr) = hv at *
  have go : ∀ (ad : Option Addr) (len cap : Nat) (l h : Int), a.eval x = .slice ad len cap → ((lo.map a.eval = none ∧ l = 0) ∨ ∃ k, lo.map a.eval = some (.int k l)) → ((hi.map a.eval = none ∧ h = len) ∨ ∃ k, hi.map a.eval = some (.int k h)) →
      0 ≤ l → l ≤ h → h ≤ len → len ≤ cap → (execOp a.eval o).run P w = .ok (.value (.slice (if cap = l.toNat then ad else ad.map (·.add (l.toNat * inf.size))) (h.toNat - l.toNat) (cap - l.toNat))) w := by
    intro ad len cap l h hy hl hh h0 h1 h2 h3
    simp only [execOp, ho, Instr.sliceAt, Instr.slice, bind, run_bind, run_und ht, hy, Option.map_none, run_bounds hl hh h0 h1 h2 h3, run_size hel, pure, Sem.run]
  unfold slcV at *
  split at hok
  · rename_i s' es
    split at hok
    · rename_i k l k' h e1 e2
      obtain ⟨ad, cap, hy, hcap, hr⟩ := h1
      obtain ⟨rfl, h0, hlh, hlen⟩ := hok
      refine ⟨_, go ad _ cap l h hy (bd_of h2 e1) (bd_of h3 e2) h0 hlh hlen (Nat.le_trans hcap (Nat.min_le_left _ _)), ?_⟩
      refine ⟨(if cap = l.toNat then ad else ad.map (·.add (l.toNat * inf.size))), cap - l.toNat, ?_, ?_, ?_⟩
      · simp only [List.length_drop, List.length_take]
        rw [Nat.min_eq_left (by omega)]
      · simp only [List.length_drop, List.length_take]; omega
      · rcases hr with rfl | ⟨b, off, arr, rfl, hF, hr⟩
        · left; simp
        · by_cases hc : cap = l.toNat
          · left
            apply List.eq_nil_of_length_eq_zero
            simp only [List.length_drop, List.length_take]; omega
          · right
            rw [if_neg hc]
            exact ⟨b, off + l.toNat * inf.size, arr, by simp [add_at], hF, hr.take.drop⟩
    · exact hok.elim
  · rename_i k
    obtain ⟨p, ad, hp, hy, hr⟩ := h1
    obtain ⟨ob, hO, hog, hob⟩ := place hs hp
    rw [hog] at hok ⊢
    cases hl : rowLen ob with
    | none => rw [hl] at hok; exact (hok : False).elim
    | some n =>
      rw [hl] at hok
      obtain ⟨e1, e2, e3⟩ := row_place hob hl
      simp only at hok ⊢
      split at hok
      · rename_i k l k' h b1 b2
        obtain ⟨hs', h0, hlh, hlen⟩ := hok
        simp only [b1, b2]
        refine ⟨_, go ad p.len p.cap l h hy (bd_of h2 b1) (by rw [← e2]; exact bd_of h3 b2) h0 hlh (by omega) e3, p, _, hp, rfl, by omega, by omega, ?_⟩
        by_cases hc : p.cap = l.toNat
        · exact .inl hc
        · right
          rcases hr with ⟨_, hz⟩ | ⟨b, off, hat, rfl⟩
          · omega
          · refine ⟨b, off, hat, ?_⟩
            rw [if_neg hc, ← hs', e1]; simp [add_at]
      · exact hok.elim
  · rename_i k lo0 hi0
    obtain ⟨p, ad, hp, hy, hlo0, hhi0, hr⟩ := h1
    obtain ⟨ob, hO, hog, hob⟩ := place hs hp
    rw [hog] at hok ⊢
    cases hl : rowLen ob with
    | none => rw [hl] at hok; exact (hok : False).elim
    | some n =>
      rw [hl] at hok
      obtain ⟨e1, e2, e3⟩ := row_place hob hl
      simp only at hok ⊢
      split at hok
      · rename_i k l k' h b1 b2
        obtain ⟨hs', h0, hlh, hlen⟩ := hok
        simp only [b1, b2]
        refine ⟨_, go ad (hi0 - lo0) (p.cap - lo0) l h hy (bd_of h2 b1) (bd_of h3 b2) h0 hlh hlen (by omega), p, (if p.cap - lo0 = l.toNat then ad else ad.map (·.add (l.toNat * inf.size))), hp, ?_, by omega, by omega, ?_⟩
        · rw [show lo0 + h.toNat - (lo0 + l.toNat) = h.toNat - l.toNat from by omega, show p.cap - (lo0 + l.toNat) = p.cap - lo0 - l.toNat from by omega]
        · by_cases hc : p.cap - lo0 = l.toNat
          · left; omega
          · right
            rcases hr with hz | ⟨b, off, hat, rfl⟩
            · omega
            · refine ⟨b, off, hat, ?_⟩
              rw [if_neg hc, ← hs', e1]
              simp only [Option.map_some, add_at, Option.some.injEq, Addr.mk.injEq, true_and, and_true]
              rw [Nat.add_mul]; omega
      · exact hok.elim
  · exact hok.elim

end
end Go.Av

namespace Go.Av
set_option linter.unusedVariables false
set_option linter.unusedSimpArgs false

theorem fillL_nil {α : Type} (cs : List α) (n : Nat) : fillL cs n [] = cs := by cases cs <;> cases n <;> rfl
theorem fillL_length {α : Type} : ∀ (cs : List α) (n : Nat) (ys : List α), (fillL cs n ys).length = cs.length
  | cs, n, [] => by rw [fillL_nil]
  | [], n, y :: ys => by simp [fillL]
  | c :: cs, 0, y :: ys => by simp [fillL, fillL_length cs 0 ys]
  | c :: cs, n + 1, y :: ys => by simp [fillL, fillL_length cs n (y :: ys)]
theorem fillL_cons {α : Type} : ∀ (cs : List α) (n : Nat) (y : α) (ys : List α), n < cs.length → fillL cs n (y :: ys) = fillL (cs.set n y) (n + 1) ys
  | [], n, y, ys, h => by simp at h
  | c :: cs, 0, y, ys, h => by
    cases ys with
    | nil => simp [fillL, fillL_nil]
    | cons z zs => simp [fillL]
  | c :: cs, n + 1, y, ys, h => by
    have := fillL_cons cs n y ys (by simpa using h)
    cases ys with
    | nil => simp only [fillL_nil] at this ⊢; simp [fillL, this]
    | cons z zs => simp only [fillL, List.set_cons_succ]; rw [this]

/-- The model's replacing of cells is 'fillL'. -/
theorem fold_fill (vs : List Value) : ∀ (k off : Nat) (cells : Array Value), off + k + vs.length ≤ cells.size →
    ((vs.zipIdx k).foldl (fun cs (x : Value × Nat) => cs.setIfInBounds (off + x.2) x.1) cells).toList = fillL cells.toList (off + k) vs := by
  induction vs with
  | nil => intro k off cells _; simp [fillL_nil]
  | cons v vs ih =>
    intro k off cells h
    simp only [List.length_cons] at h
    rw [List.zipIdx_cons, List.foldl_cons, ih (k + 1) off _ (by simp; omega), fillL_cons _ _ _ _ (by simp; omega)]
    simp [Nat.add_assoc]
theorem fold_size (vs : List Value) : ∀ (k off : Nat) (cells : Array Value), ((vs.zipIdx k).foldl (fun cs (x : Value × Nat) => cs.setIfInBounds (off + x.2) x.1) cells).size = cells.size := by
  induction vs with
  | nil => intro k off cells; simp
  | cons v vs ih => intro k off cells; rw [List.zipIdx_cons, List.foldl_cons, ih]; simp

section
variable {P : Program} {G : Gl} {F : Fz} {σ : List Pl} {O : List Obj} {w : World} {fr : List LV} {a : Act}

theorem LRepL.fill : ∀ {cs : List LV} {ys : List Value} {n : Nat} {us : List LV} {vs : List Value}, LRepL F σ cs ys → LRepL F σ us vs → n + us.length ≤ cs.length → LRepL F σ (fillL cs n us) (fillL ys n vs)
  | cs, ys, n, [], vs, h, h', _ => by simp only [LRepL] at h'; subst h'; rw [fillL_nil, fillL_nil]; exact h
  | [], ys, n, u :: us, vs, h, h', hl => by simp at hl
  | c :: cs, ys, 0, u :: us, vs, h, h', hl => by
    obtain ⟨y, r, rfl, hc, hr⟩ := h
    obtain ⟨v, t, rfl, hv, ht⟩ := h'
    simp only [fillL]
    exact ⟨v, _, rfl, hv, LRepL.fill hr ht (by simp only [List.length_cons] at hl; omega)⟩
  | c :: cs, ys, n + 1, u :: us, vs, h, h', hl => by
    obtain ⟨y, r, rfl, hc, hr⟩ := h
    have h'' := h'
    obtain ⟨v, t, rfl, hv, ht⟩ := h'
    simp only [fillL]
    exact ⟨y, _, rfl, hc, LRepL.fill hr h'' (by simp only [List.length_cons] at hl ⊢; omega)⟩

theorem oneV_rep : ∀ {x : V} {y : Value}, Rep F x y → oneV x = true → oneC y = true := by
  intro x y h ho
  cases x <;> simp only [oneV] at ho <;> simp only [Rep] at h
  case x => subst h; exact ho
  case fsl => obtain ⟨_, _, rfl, _⟩ := h; rfl
  case fptr => obtain ⟨_, _, _, rfl, _⟩ := h; rfl
  case iface => obtain ⟨_, rfl, _⟩ := h; rfl
  case func => obtain ⟨_, rfl, _⟩ := h; rfl
  all_goals first | (subst h; rfl) | (cases ho; done)
theorem oneL_rep : ∀ {x : LV} {y : Value}, LRep F σ x y → oneL x = true → oneC y = true := by
  intro x y h ho
  cases x <;> simp only [oneL] at ho <;> simp only [LRep] at h
  case g => exact oneV_rep h ho
  case loc => obtain ⟨_, _, _, _, _, rfl⟩ := h; rfl
  case elt => obtain ⟨_, _, _, _, _, rfl⟩ := h; rfl
  case rw => obtain ⟨_, _, _, rfl, _⟩ := h; rfl
  case lsl => obtain ⟨_, _, _, rfl, _⟩ := h; rfl
  case mp => obtain ⟨_, _, _, _, _, rfl⟩ := h; rfl
  case iface => obtain ⟨_, rfl, _⟩ := h; rfl
  case func => obtain ⟨_, rfl, _⟩ := h; rfl
  all_goals cases ho
theorem allOne_rep : ∀ {xs : List LV} {ys : List Value}, LRepL F σ xs ys → allOne xs = true → oneAll ys
  | [], ys, h, _ => by simp only [LRepL] at h; subst h; intro v hv; simp at hv
  | x :: xs, ys, h, ho => by
    obtain ⟨y, r, rfl, hx, hr⟩ := h
    simp only [allOne] at ho
    split at ho
    · rename_i h1
      intro v hv
      rcases List.mem_cons.1 hv with rfl | hv
      · exact oneL_rep hx h1
      · exact allOne_rep hr ho v hv
    · cases ho
theorem allOneV_map : ∀ {xs : List V}, allOneV xs = true → allOne (xs.map .g) = true
  | [], _ => rfl
  | x :: xs, h => by
    simp only [allOneV] at h
    split at h
    · rename_i h1; simp only [List.map_cons, allOne, oneL, h1]; exact allOneV_map h
    · cases h

/-- The cells that a value takes up. -/
theorem cellsV_rep {x : LV} {y : Value} {ys : List LV} (h : LRep F σ x y) (hc : cellsV x = some ys) : LRepL F σ ys y.cells.toList ∧ oneAll y.cells.toList := by
  have one : ∀ {u : LV} {v : Value}, LRep F σ u v → oneC v = true → LRepL F σ [u] v.cells.toList ∧ oneAll v.cells.toList := by
    intro u v hu hv
    cases v <;> first | (simp [oneC] at hv; done) | exact ⟨⟨_, [], rfl, hu, rfl⟩, fun x hx => by simp [Value.cells] at hx; subst hx; rfl⟩
  have big : ∀ {us : List LV} {v : Value}, LRep F σ (.agg us) v → allOne us = true → LRepL F σ us v.cells.toList ∧ oneAll v.cells.toList := by
    rintro us v ⟨zs, rfl, hz⟩ ho
    exact ⟨hz, allOne_rep hz ho⟩
  unfold cellsV at hc
  split at hc
  · split at hc
    · rename_i ho
      obtain rfl := Option.some.inj hc
      obtain ⟨zs, rfl, hz⟩ := h
      exact big ⟨zs, rfl, LRepL_map_g hz⟩ (allOneV_map ho)
    · cases hc
  · split at hc
    · rename_i hv
      obtain rfl := Option.some.inj hc
      have h' := h
      simp only [LRep, Rep] at h'; subst h'
      exact one h hv
    · cases hc
  · cases hc
  case h_19 =>
    split at hc
    · rename_i ho
      obtain rfl := Option.some.inj hc
      exact big h ho
    · cases hc
  case h_20 => cases hc
  case h_21 => cases hc
  all_goals (obtain rfl := Option.some.inj hc; exact one h (oneL_rep h rfl))

/-- One part laid. -/
theorem fill_step {place : Nat → Option (Nat × Nat)} {i off n : Nat} {v : Value} {rest : List (Nat × Value)} {cells : Array Value} (hp : place i = some (off, n)) (hn : v.cells.size = n) (hf : off + n ≤ cells.size) :
    ∃ cells', Instr.fill place cells ((i, v) :: rest) = Instr.fill place cells' rest ∧ cells'.toList = fillL cells.toList off v.cells.toList := by
  refine ⟨v.cells.zipIdx.foldl (fun cs (x : Value × Nat) => cs.setIfInBounds (off + x.2) x.1) cells, ?_, ?_⟩
  · simp only [Instr.fill, hp]
    rw [if_neg (by simp [hn]; omega)]
  · rw [← Array.foldl_toList, Array.toList_zipIdx]
    have := fold_fill v.cells.toList 0 off cells (by simp [hn]; omega)
    simpa using this

/-- The parts of a struct value, by offset and size. -/
def compParts (G : Gl) (place : Nat → Option (Nat × Nat)) : List (Nat × Operand) → Option (List (Nat × Nat × Od))
  | [] => some []
  | (i, x) :: r => match place i, compOd G x, compParts G place r with
    | some (off, n), some x', some r' => some ((off, n, x') :: r')
    | _, _, _ => none

theorem fill_build (hs : St G F σ O w) (hf : LRepL F σ fr a.tmps.toList) {place : Nat → Option (Nat × Nat)} : ∀ {ps : List (Nat × Operand)} {ps' : List (Nat × Nat × Od)}, compParts G place ps = some ps' →
    ∀ {cs : List LV} {cells : Array Value}, LRepL F σ cs cells.toList → (buildV fr cs ps').ok →
      ∃ cells', Instr.fill place cells (ps.map fun x => (x.1, a.eval x.2)) = some cells' ∧ LRep F σ (buildV fr cs ps').v (.agg cells')
  | [], ps', hc, cs, cells, hr, hok => by
    simp only [compParts, Option.some.injEq] at hc; subst hc
    exact ⟨cells, rfl, cells, rfl, hr⟩
  | (i, x) :: r, ps', hc, cs, cells, hr, hok => by
    simp only [compParts] at hc
    split at hc
    · rename_i off n x' r' h1 h2 h3
      obtain rfl := Option.some.inj hc
      have hx := ev_sound hs hf h2
      simp only [buildV] at hok ⊢
      cases hcv : cellsV (ev fr x') with
      | none => rw [hcv] at hok; exact (hok : False).elim
      | some ys =>
        rw [hcv] at hok
        obtain ⟨⟨hl, hg⟩, hok⟩ := hok
        have hg' := lg_iff.1 hg
        have hy := (cellsV_rep hx hcv).1
        have hlen := hy.length
        have hlc := hr.length
        simp only [Array.length_toList] at hlen hlc
        obtain ⟨cells', he, hcl⟩ := fill_step (rest := r.map fun x => (x.1, a.eval x.2)) h1 (by omega : (a.eval x).cells.size = n) (by omega : off + n ≤ cells.size)
        have hr' : LRepL F σ (fillL cs off ys) cells'.toList := by rw [hcl]; exact hr.fill hy (by omega)
        obtain ⟨cells'', he', hr''⟩ := fill_build hs hf h3 hr' hok
        refine ⟨cells'', ?_, hr''⟩
        rw [List.map_cons, he, he']
    · cases hc

theorem build_sound (hs : St G F σ O w) (hf : LRepL F σ fr a.tmps.toList) {o : Oper} {t : TypeId} {fs : Array Field} {ps : Array (Nat × Operand)} {ps' : List (Nat × Nat × Od)} {inf : TypeInfo} {z : Array Value} {szs : Array (Nat × Nat)}
    (ht : P.underlying t = some (.struct fs)) (hi : P.info? t = some inf) (hz : inf.zero = some (.agg z))
    (hpl : ∀ w, (fs.mapM fun f => do pure (f.offset, ← sizeOf f.type) : Sem _).run P w = .ok szs w)
    (hc : compParts G (szs[·]?) ps.toList = some ps')
    (ho : o.op = .build t ps) (hok : (buildV fr ((z.toList.map ofC).map .g) ps').ok) : Gives P F σ w a o (buildV fr ((z.toList.map ofC).map .g) ps').v := by
  obtain ⟨cells', he, hr⟩ := fill_build hs hf hc (cells := z) (LRepL_map_g (repL_ofC F _)) hok
  refine ⟨_, ?_, hr⟩
  have hzv : (zeroValue t).run P w = .ok (.agg z) w := by simp only [zeroValue, bind, run_bind, run_info hi, hz, pure, Sem.run]
  have hpl' := hpl w
  simp only [bind, pure] at hpl'
  simp only [execOp, ho, Instr.build, bind, run_bind, hzv, run_und ht, Value.cells, pure, Sem.run, Array.toList_map]
  rw [hpl']
  simp only [he, Sem.run]
end
end Go.Av

namespace Go.Av
set_option linter.unusedVariables false
set_option linter.unusedSimpArgs false

def put (w : World) (b : Nat) (o : Go.Obj) : World := { w with heap := w.heap.setIfInBounds b o }
def push (w : World) (o : Go.Obj) : World := { w with heap := w.heap.push o }

theorem put_at {w : World} {b : Nat} {o : Go.Obj} (h : b < w.heap.size) : (put w b o).heap[b]? = some o := by
  simp [put, h]
theorem put_ne {w : World} {b c : Nat} {o : Go.Obj} (h : c ≠ b) : (put w b o).heap[c]? = w.heap[c]? := by
  simp only [put]; rw [Array.getElem?_setIfInBounds_ne (by omega)]
theorem put_size {w : World} {b : Nat} {o : Go.Obj} : (put w b o).heap.size = w.heap.size := by simp [put]
theorem push_at {w : World} {o : Go.Obj} : (push w o).heap[w.heap.size]? = some o := by simp only [push, Array.getElem?_push_size]
theorem push_lt {w : World} {c : Nat} {o : Go.Obj} (h : c < w.heap.size) : (push w o).heap[c]? = w.heap[c]? := by
  simp only [push]; rw [Array.getElem?_push_lt h, Array.getElem?_eq_getElem h]
theorem push_size {w : World} {o : Go.Obj} : (push w o).heap.size = w.heap.size + 1 := by simp [push]

section
variable {P : Program} {G : Gl} {F : Fz} {σ : List Pl} {O : List Obj} {w : World} {fr : List LV} {a : Act}

theorem setCell_put {b o : Nat} {arr : Array Value} {e : TypeId} {z : Nat × Nat} (h : w.heap[b]? = some (.cells arr e z)) (v : Value) : w.setCell ⟨b, o, none⟩ v = put w b (.cells (arr.setIfInBounds o v) e z) := by
  have hb : b < w.heap.size := (Array.getElem?_eq_some_iff.1 h).1
  have hv := (Array.getElem?_eq_some_iff.1 h).2
  simp only [World.setCell, put]
  congr 1
  apply Array.ext
  · simp
  · intro i h1 h2
    by_cases hi : b = i
    · subst hi; simp [Array.getElem_modify, hv]
    · rw [Array.getElem_modify_of_ne (by omega), Array.getElem_setIfInBounds_ne (h := by omega)]

theorem put_same {b : Nat} {o : Go.Obj} (h : w.heap[b]? = some o) : put w b o = w := by
  have hb : b < w.heap.size := (Array.getElem?_eq_some_iff.1 h).1
  have hv := (Array.getElem?_eq_some_iff.1 h).2
  have : w.heap.setIfInBounds b o = w.heap := by
    apply Array.ext
    · simp
    · intro i h1 h2
      by_cases hi : b = i
      · subst hi; simp [hv]
      · rw [Array.getElem_setIfInBounds_ne (h := by omega)]
  unfold put; rw [this]
theorem put_put {b : Nat} {o o' : Go.Obj} : put (put w b o) b o' = put w b o' := by
  simp [put]

theorem run_store {b o : Nat} {arr : Array Value} {e : TypeId} {z : Nat × Nat} (h : w.heap[b]? = some (.cells arr e z)) (hfree : Free arr z) (ho : o < arr.size) {v : Value} (hv : oneC v = true) :
    (store ⟨b, o, none⟩ v).run P w = .ok () (put w b (.cells (arr.setIfInBounds o v) e z)) := by
  have hc : w.cell? ⟨b, o, none⟩ = some arr[o] := by rw [cell_at h]; exact Array.getElem?_eq_getElem ho
  have hf : w.frozen? ⟨b, o, none⟩ = false := by
    simp only [World.frozen?, h]
    have := hfree o ho
    simpa using this
  cases v <;> first | (simp [oneC] at hv; done) | simp only [store, Sem.run, hc, hf, Bool.false_eq_true, if_false, setCell_put h]

theorem Free.of_size {arr arr' : Array Value} {z : Nat × Nat} (h : Free arr z) (hs : arr'.size = arr.size) : Free arr' z := fun i hi => h i (by omega)

theorem run_storeCells {b : Nat} {e : TypeId} {z : Nat × Nat} : ∀ (vs : List Value) (o i : Nat) (w : World) (arr : Array Value), w.heap[b]? = some (.cells arr e z) → Free arr z → o + i + vs.length ≤ arr.size → oneAll vs →
    ∃ arr', (storeCells ⟨b, o, none⟩ vs i).run P w = .ok () (put w b (.cells arr' e z)) ∧ arr'.toList = fillL arr.toList (o + i) vs
  | [], o, i, w, arr, h, hf, hl, hv => by
    refine ⟨arr, ?_, by rw [fillL_nil]⟩
    have hb : b < w.heap.size := (Array.getElem?_eq_some_iff.1 h).1
    have he : put w b (.cells arr e z) = w := by
      exact put_same h
    rw [he]; simp only [storeCells, pure, Sem.run]
  | v :: vs, o, i, w, arr, h, hf, hl, hv => by
    simp only [List.length_cons] at hl
    have hb : b < w.heap.size := (Array.getElem?_eq_some_iff.1 h).1
    obtain ⟨arr', h1, h2⟩ := run_storeCells vs o (i + 1) (put w b (.cells (arr.setIfInBounds (o + i) v) e z)) (arr.setIfInBounds (o + i) v) (put_at hb) (hf.of_size (by simp)) (by simp only [Array.size_setIfInBounds]; omega) (fun x hx => hv x (List.mem_cons_of_mem _ hx))
    refine ⟨arr', ?_, ?_⟩
    · simp only [storeCells, bind, run_bind, add_at, run_store h hf (by omega : o + i < arr.size) (hv v (by simp)), h1, put_put]
    · rw [h2, fillL_cons _ _ _ _ (by simp; omega)]
      simp [Nat.add_assoc]


/-- An object is as it was where its block is, and no reference has turned. -/
theorem ObjOk.keep {F' : Fz} {σ' : List Pl} {w' : World} {o : Obj} {p : Pl} (h : ObjOk F σ w o p) (hF : F.le F') (hσ : ∀ (k : Nat) (p : Pl), σ[k]? = some p → σ'[k]? = some p)
    (hb : ∀ b c, o.live = true → p.at_ = some (b, c) → w'.heap[b]? = w.heap[b]? ∧ (F b = none → F' b = none)) : ObjOk F' σ' w' o p := by
  cases o with
  | cells cs =>
    obtain ⟨b, arr, e, z, hat, hn, hw, hf, h1c, hr⟩ := h
    obtain ⟨h1, h2⟩ := hb b 0 rfl hat
    exact ⟨b, arr, e, z, hat, h2 hn, by rw [h1]; exact hw, hf, h1c, hr.mono hF hσ⟩
  | row pn s es =>
    obtain ⟨hs, hl, hc, hr⟩ := h
    refine ⟨hs, hl, hc, hr.imp id ?_⟩
    rintro ⟨b, off, arr, e, z, hat, hn, hw, hf, hle, hr⟩
    obtain ⟨h1, h2⟩ := hb b off rfl hat
    exact ⟨b, off, arr, e, z, hat, h2 hn, by rw [h1]; exact hw, hf, hle, hr.mono hF⟩
  | fcells cs =>
    obtain ⟨b, off, arr, hat, hF', hr⟩ := h
    exact ⟨b, off, arr, hat, hF _ _ hF', hr.mono hF⟩
  | frow s es =>
    obtain ⟨hs, hl, hc, hr⟩ := h
    refine ⟨hs, hl, hc, hr.imp id ?_⟩
    rintro ⟨b, off, arr, hat, hF', hr⟩
    exact ⟨b, off, arr, hat, hF _ _ hF', hr.mono hF⟩
  | map es =>
    obtain ⟨b, ents, hat, hn, hw, hr⟩ := h
    obtain ⟨h1, h2⟩ := hb b 0 rfl hat
    exact ⟨b, ents, hat, h2 hn, by rw [h1]; exact hw, hr.mono hF⟩
  | mit km since seen =>
    obtain ⟨b, m, pm, ents, hat, hn, hw, e1, e2, e3, e4⟩ := h
    obtain ⟨h1, h2⟩ := hb b 0 rfl hat
    exact ⟨b, m, pm, ents, hat, h2 hn, by rw [h1]; exact hw, e1, hσ _ _ e2, e3, e4⟩
  | dead => trivial

theorem St.none_new (hs : St G F σ O w) {b : Nat} (hb : w.heap.size ≤ b) : F b = none := by
  cases h : F b with
  | none => rfl
  | some arr =>
    obtain ⟨e, z, h'⟩ := hs.fz b arr h
    have := (Array.getElem?_eq_some_iff.1 h').1
    omega
theorem St.lt (hs : St G F σ O w) {k : Nat} {p : Pl} (hp : σ[k]? = some p) {b c : Nat} (h : p.at_ = some (b, c)) : b < w.heap.size := hs.inside p (List.mem_of_getElem? hp) b c h

theorem ext_same {σ : List Pl} {p : Pl} {k : Nat} {q : Pl} (h : σ[k]? = some q) : (σ ++ [p])[k]? = some q := by
  rw [List.getElem?_append_left (List.getElem?_eq_some_iff.1 h).1]; exact h

/-- A new block: one object more. -/
theorem St.push (hs : St G F σ O w) {o : Obj} {p : Pl} {c : Nat} {blk : Go.Obj} (hat : ∀ b c, p.at_ = some (b, c) → b = w.heap.size) (ho : ObjOk F (σ ++ [p]) (push w blk) o p) (hpin : pinOk o p) :
    St G F (σ ++ [p]) (O ++ [o]) (Av.push w blk) ∧ Step F σ w F (σ ++ [p]) (Av.push w blk) := by
  constructor
  · refine ⟨?_, hs.gl, by simp [hs.len], ?_, ?_, ?_, ?_⟩
    · intro b arr hb
      obtain ⟨e, z, h⟩ := hs.fz b arr hb
      exact ⟨e, z, by rw [push_lt (Array.getElem?_eq_some_iff.1 h).1]; exact h⟩
    · intro k o' p' ho' hp'
      by_cases hk : k < O.length
      · rw [List.getElem?_append_left hk] at ho'
        rw [List.getElem?_append_left (by rw [← hs.len]; exact hk)] at hp'
        refine (hs.obj k o' p' ho' hp').keep (Fz.le_refl F) (fun _ _ h => ext_same h) ?_
        intro b c _ hat'
        exact ⟨push_lt (hs.lt hp' hat'), id⟩
      · have hk' : k = O.length := by
          have := (List.getElem?_eq_some_iff.1 ho').1
          simp at this; omega
        subst hk'
        rw [List.getElem?_append_right (Nat.le_refl _)] at ho'
        rw [List.getElem?_append_right (by rw [hs.len]; exact Nat.le_refl _)] at hp'
        simp only [Nat.sub_self, hs.len, List.getElem?_cons_zero, Option.some.injEq] at ho' hp'
        subst ho' hp'; exact ho
    · intro q hq b c hat'
      rw [push_size]
      rcases List.mem_append.1 hq with hq | hq
      · have := hs.inside q hq b c hat'; omega
      · simp only [List.mem_singleton] at hq; subst hq
        have := hat b c hat'; omega
    · intro i j p1 p2 oi oj b c d e hij hi hj li lj hpi hpj ha hb
      have left : ∀ {k : Nat} {q : Pl} {ob : Obj} {b c : Nat}, (O ++ [o])[k]? = some ob → (σ ++ [p])[k]? = some q → q.at_ = some (b, c) → (k < O.length ∧ O[k]? = some ob ∧ σ[k]? = some q ∧ b < w.heap.size) ∨ (k = O.length ∧ b = w.heap.size) := by
        intro k q ob b c h1 h2 h3
        by_cases hk : k < O.length
        · rw [List.getElem?_append_left hk] at h1
          rw [List.getElem?_append_left (by rw [← hs.len]; exact hk)] at h2
          exact .inl ⟨hk, h1, h2, hs.lt h2 h3⟩
        · have hk' : k = O.length := by
            have := (List.getElem?_eq_some_iff.1 h1).1
            simp at this; omega
          subst hk'
          rw [List.getElem?_append_right (by rw [hs.len]; exact Nat.le_refl _)] at h2
          simp only [hs.len, Nat.sub_self, List.getElem?_cons_zero, Option.some.injEq] at h2
          subst h2
          exact .inr ⟨rfl, hat b c h3⟩
      rcases left hi hpi ha with ⟨k1, a1, a2, a3⟩ | ⟨k1, a1⟩ <;> rcases left hj hpj hb with ⟨k2, b1, b2, b3⟩ | ⟨k2, b1⟩
      · exact hs.apart i j p1 p2 oi oj b c d e hij a1 b1 li lj a2 b2 ha hb
      · omega
      · omega
      · omega
    · intro k o' p' ho' hp'
      by_cases hk : k < O.length
      · rw [List.getElem?_append_left hk] at ho'
        rw [List.getElem?_append_left (by rw [← hs.len]; exact hk)] at hp'
        exact hs.pin k o' p' ho' hp'
      · have hk' : k = O.length := by
          have := (List.getElem?_eq_some_iff.1 ho').1
          simp at this; omega
        subst hk'
        rw [List.getElem?_append_right (Nat.le_refl _)] at ho'
        rw [List.getElem?_append_right (by rw [hs.len]; exact Nat.le_refl _)] at hp'
        simp only [Nat.sub_self, hs.len, List.getElem?_cons_zero, Option.some.injEq] at ho' hp'
        subst ho' hp'; exact hpin
  · refine ⟨Fz.le_refl F, ?_, fun b h h' => absurd h h', ?_, by rw [push_size]; omega, rfl, rfl, rfl, fun _ _ h _ => ext_same h, by simp⟩
    · intro b hb
      exact push_lt (Nat.lt_of_not_le fun h => hb (.inl h))
    · intro q hq b c hat'
      rcases List.mem_append.1 hq with hq | hq
      · exact .inr ⟨q, hq, c, hat'⟩
      · simp only [List.mem_singleton] at hq; subst hq
        exact .inl (by rw [hat b c hat']; exact Nat.le_refl _)

/-- A block of an object written: the object's content turns, its place does not. -/
theorem St.put (hs : St G F σ O w) {k : Nat} {ob o : Obj} {p : Pl} {b c : Nat} {blk : Go.Obj} (hk : O[k]? = some ob) (hl : ob.live = true) (hl' : o.live = true) (hp : σ[k]? = some p) (hat : p.at_ = some (b, c)) (hF : F b = none)
    (ho : ObjOk F σ (Av.put w b blk) o p) (hpin : pinOk ob p → pinOk o p) : St G F σ (O.set k o) (Av.put w b blk) ∧ Step F σ w F σ (Av.put w b blk) := by
  constructor
  · refine ⟨?_, hs.gl, by simp [hs.len], ?_, ?_, ?_, ?_⟩
    · intro b' arr' hb
      obtain ⟨e', z', h⟩ := hs.fz b' arr' hb
      exact ⟨e', z', by rw [put_ne (fun h => by rw [h, hF] at hb; cases hb)]; exact h⟩
    · intro j o' p' ho' hp'
      by_cases hj : j = k
      · subst hj
        rw [List.getElem?_set_self (List.getElem?_eq_some_iff.1 hk).1] at ho'
        obtain rfl := Option.some.inj ho'
        rw [hp] at hp'; obtain rfl := Option.some.inj hp'
        exact ho
      · rw [List.getElem?_set_ne (Ne.symm hj)] at ho'
        refine (hs.obj j o' p' ho' hp').keep (Fz.le_refl F) (fun _ _ h => h) ?_
        intro b' c' hl2 hat'
        exact ⟨put_ne fun h => hs.apart j k p' p o' ob b' c' b c hj ho' hk hl2 hl hp' hp hat' hat h, id⟩
    · intro q hq b' c' hat'
      rw [put_size]; exact hs.inside q hq b' c' hat'
    · intro i j p1 p2 oi oj b1 c1 b2 c2 hij hi hj li lj hpi hpj ha hb
      have back : ∀ {m : Nat} {om : Obj}, (O.set k o)[m]? = some om → om.live = true → ∃ om', O[m]? = some om' ∧ om'.live = true := by
        intro m om h1 h2
        by_cases hm : m = k
        · subst hm; exact ⟨ob, hk, hl⟩
        · rw [List.getElem?_set_ne (Ne.symm hm)] at h1; exact ⟨om, h1, h2⟩
      obtain ⟨oi', hi', li'⟩ := back hi li
      obtain ⟨oj', hj', lj'⟩ := back hj lj
      exact hs.apart i j p1 p2 oi' oj' b1 c1 b2 c2 hij hi' hj' li' lj' hpi hpj ha hb
    · intro j o' p' ho' hp'
      by_cases hj : j = k
      · subst hj
        rw [List.getElem?_set_self (List.getElem?_eq_some_iff.1 hk).1] at ho'
        obtain rfl := Option.some.inj ho'
        rw [hp] at hp'; obtain rfl := Option.some.inj hp'
        exact hpin (hs.pin j ob p hk hp)
      · rw [List.getElem?_set_ne (Ne.symm hj)] at ho'
        exact hs.pin j o' p' ho' hp'
  · refine ⟨Fz.le_refl F, ?_, fun b h h' => absurd h h', fun q hq b' c' h => .inr ⟨q, hq, c', h⟩, by rw [put_size]; exact Nat.le_refl _, rfl, rfl, rfl, fun _ _ h _ => h, Nat.le_refl _⟩
    intro b' hb'
    exact put_ne fun h => hb' (.inr ⟨p, List.mem_of_getElem? hp, c, by rw [h]; exact hat⟩)
end
end Go.Av
