/-
  Values at a distance from memory, states of a call, and contracts of functions over them. No condition.
-/
import Derived.Maps.RangeRun
import Derived.Test.YtfpdolhfomfgpaaQ02
namespace Go.Av
set_option linter.unusedVariables false
set_option linter.unusedSimpArgs false

/-- A key of the kind: a string (none), or an integer. -/
def isKey : Option IntKind → V → Prop
  | none, .str _ => True
  | some k, .int j _ => j = k
  | _, _ => False
def eqK : V → V → Bool
  | .str a, .str b => decide (a = b)
  | .int _ a, .int _ b => decide (a = b)
  | _, _ => false
def lookM (key : V) : List (V × V) → Option V
  | [] => none
  | x :: r => match eqK key x.1 with
    | true => some x.2
    | false => lookM key r
def insM (key val : V) : List (V × V) → List (V × V)
  | [] => [(key, val)]
  | x :: r => match eqK key x.1 with
    | true => (key, val) :: r
    | false => x :: insM key val r
def keysOk (kk : Option IntKind) (key : V) (es : List (V × V)) : Prop := isKey kk key ∧ ∀ x ∈ es, isKey kk x.1
def lkV (ok : Bool) (z : V) (o : Option V) : V :=
  match ok with
  | false => o.getD z
  | true => .tup [o.getD z, .bool o.isSome]
def lkpV (O : List Obj) (kk : Option IntKind) (ok : Bool) (z : V) (x y : LV) : R :=
  match y with
  | .g key => match x with
    | .mp k => match og O k with
      | .map es => ⟨keysOk kk key es, .g (lkV ok z (lookM key es))⟩
      | _ => no
    | .g (.x (.map none)) => ⟨isKey kk key, .g (lkV ok z none)⟩
    | _ => no
  | _ => no
def mlenV (O : List Obj) : LV → R
  | .mp k => match og O k with
    | .map es => ⟨es.length ≤ 9223372036854775807, .g (.int .i64 es.length)⟩
    | _ => no
  | .g (.x (.map none)) => ⟨True, .g (.int .i64 0)⟩
  | _ => no
def mkmapE (fr : List LV) (O : List Obj) : ER := ⟨True, fr, .mp O.length, O ++ [.map []]⟩
def mupdE (kk : Option IntKind) (x y z : LV) (fr : List LV) (O : List Obj) : ER :=
  match x with
  | .mp k => match og O k with
    | .map es => match y with
      | .g key => match tv O z with
        | some v => ⟨keysOk kk key es, fr, .any, os O k (.map (insM key v es))⟩
        | none => noE
      | _ => noE
    | _ => noE
  | _ => noE
def mrangeE (x : LV) (fr : List LV) (O : List Obj) : ER :=
  match x with
  | .mp k => match og O k with
    | .map es => ⟨True, fr, .loc O.length 0, O ++ [.mit k es.length []]⟩
    | _ => noE
  | _ => noE
def entV (O : List Obj) : LV → R
  | .loc k off => match og O k with
    | .mit km since seen => match og O km with
      | .map es => match seen.getLast? with
        | some i => match es[i]? with
          | some e => ⟨off = 0 ∧ es.length = since, .g (.tup [e.1, e.2])⟩
          | none => no
        | none => no
      | _ => no
    | _ => no
  | _ => no

section
variable {P : Program} {G : Gl} {F : Fz} {σ : List Pl} {O : List Obj} {w : World} {fr : List LV} {a : Act}

theorem RepM.length : ∀ {xs : List (V × V)} {es : List MapEntry} {n : Nat}, RepM F xs es n → es.length = xs.length
  | [], es, n, h => by simp only [RepM] at h; simp [h]
  | x :: xs, es, n, h => by obtain ⟨e, r, rfl, _, _, _, h⟩ := h; simp [RepM.length h]
theorem RepM.get : ∀ {xs : List (V × V)} {es : List MapEntry} {n i : Nat} {e : MapEntry}, RepM F xs es n → es[i]? = some e → ∃ x, xs[i]? = some x ∧ e.born = n + i ∧ Rep F x.1 e.key ∧ Rep F x.2 e.val
  | [], es, n, i, e, h, he => by simp only [RepM] at h; subst h; simp at he
  | x :: xs, es, n, 0, e, h, he => by
    obtain ⟨e', r, rfl, h1, h2, h3, h4⟩ := h
    obtain rfl := Option.some.inj he
    exact ⟨x, rfl, h1, h2, h3⟩
  | x :: xs, es, n, i + 1, e, h, he => by
    obtain ⟨e', r, rfl, h1, h2, h3, h4⟩ := h
    obtain ⟨y, a1, a2, a3⟩ := RepM.get h4 (show r[i]? = some e by simpa using he)
    exact ⟨y, by simpa using a1, by rw [a2]; omega, a3⟩

/-- The kind of a key, as the type tells it. -/
def kindOf (P : Program) (t : TypeId) : Option (Option IntKind) :=
  match P.underlying t with
  | some .string => some none
  | some (.int k) => some (some k)
  | _ => none

theorem run_checkKey {t : TypeId} {kk : Option IntKind} (h : kindOf P t = some kk) (b : Bool) (n : Nat) (v : Value) (w : World) : (Instr.checkKey b (n + 1) t v).run P w = .ok () w := by
  unfold kindOf at h
  split at h
  · rename_i hu
    simp only [Instr.checkKey, bind, run_bind, run_und hu, pure, Sem.run]
  · rename_i k hu
    simp only [Instr.checkKey, bind, run_bind, run_und hu, pure, Sem.run]
  · cases h

def descOf : Option IntKind → TypeDesc
  | none => .string
  | some k => .int k

theorem ba_beq (s t : List UInt8) : ((⟨s.toArray⟩ : ByteArray) == ⟨t.toArray⟩) = true ↔ s = t := by
  constructor
  · intro h
    have h' : (s.toArray == t.toArray) = true := by
      unfold BEq.beq at h ⊢
      first | exact h | simpa [ByteArray.instBEq] using h
    simpa using h'
  · rintro rfl
    have h' : (s.toArray == s.toArray) = true := by simp
    unfold BEq.beq at h' ⊢
    first | exact h' | simpa [ByteArray.instBEq] using h'
theorem sameNow_of {kk : Option IntKind} {k k' : V} {y y' : Value} (h : isKey kk k) (h' : isKey kk k') (hr : Rep F k y) (hr' : Rep F k' y') : Instr.sameNow (descOf kk) y y' = some (eqK k k') := by
  cases kk with
  | none =>
    cases k <;> simp only [isKey] at h
    cases k' <;> simp only [isKey] at h'
    rename_i s s'
    simp only [Rep] at hr hr'; subst hr hr'
    simp only [descOf, Instr.sameNow, eqK, Option.some.injEq]
    rw [Bool.eq_iff_iff, ba_beq]; simp
  | some j =>
    cases k <;> simp only [isKey] at h
    cases k' <;> simp only [isKey] at h'
    rename_i k1 n k2 m
    subst h h'
    simp only [Rep] at hr hr'; subst hr hr'
    simp only [descOf, Instr.sameNow, eqK, if_true, Option.some.injEq]
    rw [Bool.eq_iff_iff]; simp

/-- The first entry with the key. -/
def firstM (key : V) : List (V × V) → Nat → Option Nat
  | [], _ => none
  | x :: r, i => match eqK key x.1 with
    | true => some i
    | false => firstM key r (i + 1)
theorem firstM_ge {key : V} : ∀ {es : List (V × V)} {n i : Nat}, firstM key es n = some i → n ≤ i
  | [], n, i, h => by cases h
  | x :: r, n, i, h => by
    simp only [firstM] at h
    split at h
    · obtain rfl := Option.some.inj h; exact Nat.le_refl _
    · have := firstM_ge h; omega

theorem findNow_of {kk : Option IntKind} {key : V} {y : Value} (h : isKey kk key) (hr : Rep F key y) : ∀ {es : List (V × V)} {ents : List MapEntry} {n m : Nat}, (∀ x ∈ es, isKey kk x.1) → RepM F es ents n →
    ∃ r, Instr.findNow (descOf kk) y ents m = some r ∧ ((r = none ∧ firstM key es m = none ∧ lookM key es = none) ∨ ∃ i e v, r = some (m + i, e.val) ∧ ents[i]? = some e ∧ firstM key es m = some (m + i) ∧ lookM key es = some v ∧ Rep F v e.val)
  | [], ents, n, m, hk, hm => by
    simp only [RepM] at hm; subst hm
    exact ⟨none, rfl, .inl ⟨rfl, rfl, rfl⟩⟩
  | x :: xs, ents, n, m, hk, hm => by
    obtain ⟨e, r, rfl, h1, h2, h3, h4⟩ := hm
    have hs := sameNow_of h (hk x (by simp)) hr h2
    simp only [Instr.findNow, hs, firstM, lookM]
    cases hb : eqK key x.1 with
    | true => exact ⟨_, rfl, .inr ⟨0, e, x.2, rfl, rfl, rfl, rfl, h3⟩⟩
    | false =>
      obtain ⟨r', e1, e2⟩ := findNow_of h hr (es := xs) (ents := r) (m := m + 1) (fun y hy => hk y (by simp [hy])) h4
      refine ⟨r', e1, ?_⟩
      rcases e2 with ⟨a1, a2, a3⟩ | ⟨i, e', v, a1, a2, a3, a4, a5⟩
      · exact .inl ⟨a1, a2, a3⟩
      · refine .inr ⟨i + 1, e', v, ?_, by simpa using a2, ?_, a4, a5⟩
        · rw [a1, show m + 1 + i = m + (i + 1) from by omega]
        · rw [a3, show m + 1 + i = m + (i + 1) from by omega]

theorem run_findKey {t : TypeId} {kk : Option IntKind} {key : V} {y : Value} (ht : kindOf P t = some kk) (h : isKey kk key) (hr : Rep F key y) {es : List (V × V)} {ents : List MapEntry} (hk : ∀ x ∈ es, isKey kk x.1) (hm : RepM F es ents 0) (w : World) :
    ∃ r, (Instr.findKey t y ents).run P w = .ok r w ∧ ((r = none ∧ firstM key es 0 = none ∧ lookM key es = none) ∨ ∃ i e v, r = some (i, e.val) ∧ ents[i]? = some e ∧ firstM key es 0 = some i ∧ lookM key es = some v ∧ Rep F v e.val) := by
  obtain ⟨r, h1, h2⟩ := findNow_of (m := 0) h hr hk hm
  refine ⟨r, ?_, by simpa using h2⟩
  have hd : P.underlying t = some (descOf kk) := by
    unfold kindOf at ht
    split at ht
    · rename_i hu; obtain rfl := Option.some.inj ht; exact hu
    · rename_i k hu; obtain rfl := Option.some.inj ht; exact hu
    · cases ht
  simp only [Instr.findKey, bind, run_bind, run_und hd, h1, pure, Sem.run]

theorem mp_get (hs : St G F σ O w) {k : Nat} {y : Value} (h : LRep F σ (.mp k) y) {es : List (V × V)} (hk : og O k = .map es) : ∃ b p ents, y = .map (some b) ∧ O[k]? = some (.map es) ∧ σ[k]? = some p ∧ p.at_ = some (b, 0) ∧ F b = none ∧ p.pin = true ∧ w.heap[b]? = some (.map ents es.length) ∧ RepM F es ents.toList 0 := by
  obtain ⟨p, b, o, hp, hat, rfl⟩ := h
  have hO := og_get hk (by simp)
  obtain ⟨b', ents, hat', hn, hw, hr⟩ := hs.obj k _ p hO hp
  rw [hat] at hat'; obtain ⟨rfl, rfl⟩ := Prod.mk.inj (Option.some.inj hat')
  exact ⟨b, p, ents, rfl, hO, hp, hat, hn, hs.pin k _ p hO hp, hw, hr⟩

theorem lkV_rep {ok : Bool} {z v : V} {zv yv : Value} {o : Option V} {b : Bool} (hb : o.isSome = b) (hv : o.getD z = v) (hr : Rep F v yv) : Rep F (lkV ok z o) (if ok then .tuple #[yv, .bool b] else yv) := by
  cases ok with
  | false => simpa [lkV, hv] using hr
  | true => simp only [lkV, if_true]; exact ⟨#[yv, .bool b], rfl, yv, [.bool b], rfl, by rw [hv]; exact hr, .bool b, [], rfl, by rw [hb]; rfl, rfl⟩

theorem lookup_run {xT kT eT : TypeId} {kk : Option IntKind} {inf : TypeInfo} {z : Value} (hx : P.underlying xT = some (.map kT eT)) (hk : kindOf P kT = some kk) (hi : P.info? eT = some inf) (hz : inf.zero = some z)
    (hs : St G F σ O w) {ok : Bool} {x y : LV} {xv yv : Value} (h1 : LRep F σ x xv) (h2 : LRep F σ y yv) (hok : (lkpV O kk ok (ofV z) x y).ok) :
    ∃ v, (Instr.lookup xT xv yv ok).run P w = .ok v w ∧ LRep F σ (lkpV O kk ok (ofV z) x y).v v := by
  have hzero : ∀ w : World, (zeroValue eT).run P w = .ok z w := fun w => by simp only [zeroValue, bind, run_bind, run_info hi, hz, pure, Sem.run]
  unfold lkpV at *
  split at hok
  · rename_i key
    split at hok
    · rename_i k
      split at hok
      · rename_i es hes
        obtain ⟨hkey, hall⟩ := hok
        obtain ⟨b, p, ents, rfl, hO, hp, hat, hn, hpin, hw, hr⟩ := mp_get hs h1 hes
        obtain ⟨r, hrun, hcase⟩ := run_findKey hk hkey h2 hall hr w
        have hck := run_checkKey hk ents.isEmpty 9999 yv w
        rcases hcase with ⟨rfl, _, hl⟩ | ⟨i, e, v, rfl, _, _, hl, hv⟩
        · refine ⟨if ok then .tuple #[z, .bool false] else z, ?_, ?_⟩
          · simp only [Instr.lookup, bind, run_bind, run_und hx, getObj, Sem.run, hw, pure, hck, hrun, hzero]
          · simp only [hes]
            exact lkV_rep (zv := z) (by rw [hl]; rfl) (by rw [hl]; rfl) (rep_ofV F z)
        · refine ⟨if ok then .tuple #[e.val, .bool true] else e.val, ?_, ?_⟩
          · simp only [Instr.lookup, bind, run_bind, run_und hx, getObj, Sem.run, hw, pure, hck, hrun]
          · simp only [hes]
            exact lkV_rep (zv := z) (by rw [hl]; rfl) (by rw [hl]; rfl) hv
      · exact hok.elim
    · simp only [LRep, Rep] at h1; subst h1
      have hck := run_checkKey hk true 9999 yv w
      obtain ⟨r, hrun, hcase⟩ := run_findKey (es := []) (ents := []) hk hok h2 (by simp) (by simp [RepM]) w
      rcases hcase with ⟨rfl, _, hl⟩ | ⟨i, e, v, rfl, he, _, hl, hv⟩
      · refine ⟨if ok then .tuple #[z, .bool false] else z, ?_, ?_⟩
        · simp only [Instr.lookup, bind, run_bind, run_und hx, pure, Sem.run, Array.isEmpty_empty, hck, hrun, hzero]
        · exact lkV_rep (zv := z) rfl rfl (rep_ofV F z)
      · simp at he
    · exact hok.elim
  · exact hok.elim
end
end Go.Av

namespace Go.Av
set_option linter.unusedVariables false
set_option linter.unusedSimpArgs false

section
variable {P : Program} {G : Gl} {F : Fz} {σ : List Pl} {O : List Obj} {w : World} {fr : List LV} {a : Act}

theorem run_setMap {w : World} {r : Nat} {es : Array MapEntry} {c : Nat} (hr : w.heap[r]? = some (.map es c)) (o' : Go.Obj) : (setObj r o').run P w = .ok () (Av.put w r o') := by
  simp [setObj, Sem.run, hr, Av.put]

theorem RepM.push : ∀ {xs : List (V × V)} {es : List MapEntry} {n : Nat} {k v : V} {kv vv : Value}, RepM F xs es n → Rep F k kv → Rep F v vv → RepM F (xs ++ [(k, v)]) (es ++ [{ key := kv, val := vv, born := n + xs.length }]) n
  | [], es, n, k, v, kv, vv, h, h1, h2 => by
    simp only [RepM] at h; subst h
    exact ⟨_, [], rfl, by simp, h1, h2, rfl⟩
  | x :: xs, es, n, k, v, kv, vv, h, h1, h2 => by
    obtain ⟨e, r, rfl, a1, a2, a3, a4⟩ := h
    refine ⟨e, _, rfl, a1, a2, a3, ?_⟩
    have := RepM.push a4 h1 h2
    rwa [show n + 1 + xs.length = n + (x :: xs).length from by simp; omega] at this
theorem insM_none {key val : V} : ∀ {es : List (V × V)} {m : Nat}, firstM key es m = none → insM key val es = es ++ [(key, val)]
  | [], m, h => rfl
  | x :: r, m, h => by
    simp only [firstM] at h
    simp only [insM]
    split at h
    · cases h
    · simp only [List.cons_append]; rw [insM_none h]
theorem insM_some {key val : V} {kv vv : Value} (h1 : Rep F key kv) (h2 : Rep F val vv) : ∀ {es : List (V × V)} {ents : List MapEntry} {n m i : Nat}, RepM F es ents n → firstM key es m = some (m + i) → RepM F (insM key val es) (ents.modify i fun e => { e with key := kv, val := vv }) n
  | [], ents, n, m, i, _, h => by cases h
  | x :: r, ents, n, m, i, hm, h => by
    obtain ⟨e, rr, rfl, a1, a2, a3, a4⟩ := hm
    simp only [firstM] at h
    simp only [insM]
    split at h
    · rename_i hb
      have : i = 0 := by have := Option.some.inj h; omega
      subst this
      exact ⟨_, rr, rfl, a1, h1, h2, a4⟩
    · rename_i hb
      have hge := firstM_ge h
      obtain ⟨i, rfl⟩ : ∃ j, i = j + 1 := ⟨i - 1, by omega⟩
      refine ⟨e, _, rfl, a1, a2, a3, insM_some h1 h2 (m := m + 1) a4 ?_⟩
      rw [h]; congr 1; omega
theorem insM_length {key val : V} : ∀ {es : List (V × V)} {m i : Nat}, firstM key es m = some i → (insM key val es).length = es.length
  | [], m, i, h => by cases h
  | x :: r, m, i, h => by
    simp only [firstM] at h
    simp only [insM]
    split at h
    · rfl
    · simp [insM_length h]

theorem firstM_at {key : V} : ∀ {es : List (V × V)} {m i : Nat}, firstM key es m = some (m + i) → ∃ x, es[i]? = some x ∧ eqK key x.1 = true
  | [], m, i, h => by cases h
  | x :: r, m, i, h => by
    simp only [firstM] at h
    split at h
    · rename_i hb
      have : i = 0 := by have := Option.some.inj h; omega
      subst this; exact ⟨x, rfl, hb⟩
    · have hge := firstM_ge h
      obtain ⟨i, rfl⟩ : ∃ j, i = j + 1 := ⟨i - 1, by omega⟩
      obtain ⟨y, h1, h2⟩ := firstM_at (m := m + 1) (i := i) (by rw [h]; congr 1; omega)
      exact ⟨y, by simpa using h1, h2⟩
theorem sameBits_of {kk : Option IntKind} {k k' : V} {y y' : Value} (h : isKey kk k) (h' : isKey kk k') (hr : Rep F k y) (hr' : Rep F k' y') (he : eqK k k' = true) (n : Nat) : Instr.sameBits n y' y = true := by
  cases kk with
  | none =>
    cases k <;> simp only [isKey] at h
    cases k' <;> simp only [isKey] at h'
    rename_i s s'
    simp only [Rep] at hr hr'; subst hr hr'
    simp only [eqK, decide_eq_true_eq] at he; subst he
    cases n <;> simp only [Instr.sameBits] <;> exact (ba_beq _ _).2 rfl
  | some j =>
    cases k <;> simp only [isKey] at h
    cases k' <;> simp only [isKey] at h'
    rename_i k1 m k2 m'
    subst h h'
    simp only [Rep] at hr hr'; subst hr hr'
    simp only [eqK, decide_eq_true_eq] at he; subst he
    cases n <;> simp [Instr.sameBits]

theorem modify_toList {es : Array MapEntry} {i : Nat} {f : MapEntry → MapEntry} : (es.modify i f).toList = es.toList.modify i f := by
  apply List.ext_getElem?
  intro j
  rw [List.getElem?_modify, Array.getElem?_toList, Array.getElem?_modify, Array.getElem?_toList]
  split <;> simp_all

theorem mupd_run {mT kT eT : TypeId} {kk : Option IntKind} (hx : P.underlying mT = some (.map kT eT)) (hk : kindOf P kT = some kk)
    (hs : St G F σ O w) {x y z : LV} {xv yv zv : Value} (h1 : LRep F σ x xv) (h2 : LRep F σ y yv) (h3 : LRep F σ z zv) (hok : (mupdE kk x y z fr O).ok) :
    ∃ w', (Instr.mapUpdate mT xv yv zv).run P w = .ok () w' ∧ St G F σ (mupdE kk x y z fr O).O w' ∧ Step F σ w F σ w' := by
  unfold mupdE at *
  split at hok
  · rename_i k
    split at hok
    · rename_i es hes
      split at hok
      · rename_i key
        split at hok
        · rename_i v hv
          obtain ⟨hkey, hall⟩ := hok
          obtain ⟨b, p, ents, rfl, hO, hp, hat, hn, hpin, hw, hr⟩ := mp_get hs h1 hes
          have hz := tv_sound hs hv h3
          obtain ⟨r, hrun, hcase⟩ := run_findKey hk hkey h2 hall hr w
          have hck := run_checkKey hk false 9999 yv w
          have hb := (Array.getElem?_eq_some_iff.1 hw).1
          have hput : ∀ (es' : List (V × V)) (ents' : Array MapEntry), RepM F es' ents'.toList 0 → St G F σ (os O k (.map es')) (Av.put w b (.map ents' es'.length)) ∧ Step F σ w F σ (Av.put w b (.map ents' es'.length)) := by
            intro es' ents' hr'
            rw [os_eq]
            exact hs.put (o := .map es') hO rfl rfl hp hat hn ⟨b, ents', hat, hn, put_at hb, hr'⟩ id
          rcases hcase with ⟨rfl, hf, hl⟩ | ⟨i, e, v', rfl, he, hf, hl, _⟩
          · refine ⟨Av.put w b (.map (ents.push { key := yv, val := zv, born := es.length }) (es.length + 1)), ?_, ?_⟩
            · simp only [Instr.mapUpdate, bind, run_bind, run_und hx, getObj, Sem.run, hw, pure, hck, hrun, run_setMap hw]
            · simp only [hes, hv]
              rw [insM_none hf]
              have := hput (es ++ [(key, v)]) (ents.push { key := yv, val := zv, born := es.length }) (by
                rw [Array.toList_push]
                have := hr.push h2 hz
                rwa [Nat.zero_add] at this)
              simpa using this
          · have hst : (Instr.keyThatStays (((ents[i]?).map (·.key)).getD yv) yv).run P w = .ok yv w := by
              obtain ⟨x', hx1, hx2⟩ := firstM_at (m := 0) (i := i) (by rw [hf, Nat.zero_add])
              have he' : ents[i]? = some e := by rw [← Array.getElem?_toList]; exact he
              obtain ⟨x'', a1, a2, a3, a4⟩ := hr.get he
              rw [hx1] at a1; obtain rfl := Option.some.inj a1
              have hsb := sameBits_of hkey (hall x' (List.mem_of_getElem? hx1)) h2 a3 hx2 10000
              simp only [he', Option.map_some, Option.getD_some, Instr.keyThatStays, hsb, if_true, pure, Sem.run]
            refine ⟨Av.put w b (.map (ents.modify i fun e => { e with key := yv, val := zv }) es.length), ?_, ?_⟩
            · simp only [Instr.mapUpdate, bind, run_bind, run_und hx, getObj, Sem.run, hw, pure, hck, hrun, hst, run_setMap hw]
            · simp only [hes, hv]
              have := hput (insM key v es) (ents.modify i fun e => { e with key := yv, val := zv }) (by
                rw [modify_toList]
                exact insM_some h2 hz (m := 0) hr (by rw [hf, Nat.zero_add]))
              rwa [insM_length hf] at this
        · exact hok.elim
      · exact hok.elim
    · exact hok.elim
  · exact hok.elim

theorem mkmap_sound (hs : St G F σ O w) (hf : LRepL F σ fr a.tmps.toList) {o : Oper} {t : TypeId} (ho : o.op = .makeMap t none) : GivesE P G F σ w a o (mkmapE fr O) := by
  have hext : ∀ (k : Nat) (q : Pl), σ[k]? = some q → (σ ++ [(⟨some (w.heap.size, 0), 1, 0, 0, true⟩ : Pl)])[k]? = some q := fun k q h => ext_same h
  have := hs.push (o := .map []) (p := ⟨some (w.heap.size, 0), 1, 0, 0, true⟩) (c := 0) (blk := .map #[] 0) (fun b c h => by simp only [Option.some.injEq, Prod.mk.injEq] at h; exact h.1.symm)
    ⟨w.heap.size, #[], rfl, hs.none_new (Nat.le_refl _), push_at, rfl⟩ rfl
  refine ⟨.map (some w.heap.size), _, F, _, .inl ?_, ⟨⟨some (w.heap.size, 0), 1, 0, 0, true⟩, w.heap.size, 0, ?_, rfl, rfl⟩, hf.mono (Fz.le_refl F) hext, this.1, this.2⟩
  · simp only [execOp, ho, Instr.makeMap, Option.map_none, newObj, bind, run_bind, pure, Sem.run, Av.push]
  · rw [hs.len, List.getElem?_append_right (Nat.le_refl _)]; simp

theorem mrange_sound (hs : St G F σ O w) (hf : LRepL F σ fr a.tmps.toList) {o : Oper} {t kT eT : TypeId} {x : Operand} {x' : Od} (hx : compOd G x = some x') (ht : P.underlying t = some (.map kT eT)) (ho : o.op = .range t x) (hok : (mrangeE (ev fr x') fr O).ok) : GivesE P G F σ w a o (mrangeE (ev fr x') fr O) := by
  have h1 := ev_sound hs hf hx
  generalize ev fr x' = xv at *
  unfold mrangeE at *
  split at hok
  · rename_i k
    split at hok
    · rename_i es hes
      obtain ⟨b, p, ents, he, hO, hp, hat, hn, hpin, hw, hr⟩ := mp_get hs h1 hes
      have hext : ∀ (k : Nat) (q : Pl), σ[k]? = some q → (σ ++ [(⟨some (w.heap.size, 0), 1, 0, 0, true⟩ : Pl)])[k]? = some q := fun k q h => ext_same h
      have := hs.push (o := .mit k es.length []) (p := ⟨some (w.heap.size, 0), 1, 0, 0, true⟩) (c := 0) (blk := .mapIter (some b) es.length #[] es.length) (fun b c h => by simp only [Option.some.injEq, Prod.mk.injEq] at h; exact h.1.symm)
        ⟨w.heap.size, b, p, #[], rfl, hs.none_new (Nat.le_refl _), push_at, rfl, ext_same hp, hat, hpin⟩ rfl
      refine ⟨.pointer (some ⟨w.heap.size, 0, none⟩), _, F, _, .inl ?_, ⟨⟨some (w.heap.size, 0), 1, 0, 0, true⟩, w.heap.size, 0, ?_, rfl, rfl⟩, hf.mono (Fz.le_refl F) hext, by simp only [hes]; exact this.1, this.2⟩
      · simp only [execOp, ho, Instr.range, bind, run_bind, run_und ht, he, getObj, Sem.run, hw, pure, newObj, Av.push]
      · rw [hs.len, List.getElem?_append_right (Nat.le_refl _)]; simp
    · exact hok.elim
  · exact hok.elim

theorem RepM.born : ∀ {xs : List (V × V)} {es : List MapEntry} {n : Nat}, RepM F xs es n → ∀ i (h : i < es.length), es[i].born = n + i := by
  intro xs es n h i hi
  obtain ⟨x, _, h2, _⟩ := h.get (List.getElem?_eq_getElem hi)
  exact h2

theorem loc_get (hs : St G F σ O w) {k off : Nat} {y : Value} (h : LRep F σ (.loc k off) y) {km since : Nat} {seen : List Nat} (hk : og O k = .mit km since seen) :
    ∃ b m p pm ents, y = .pointer (some ⟨b, off, none⟩) ∧ O[k]? = some (.mit km since seen) ∧ σ[k]? = some p ∧ p.at_ = some (b, 0) ∧ F b = none ∧ w.heap[b]? = some (.mapIter (some m) since ents since) ∧ ents.toList = seen ∧ σ[km]? = some pm ∧ pm.at_ = some (m, 0) ∧ pm.pin = true := by
  obtain ⟨p, b, o, hp, hat, rfl⟩ := h
  have hO := og_get hk (by simp)
  obtain ⟨b', m, pm, ents, hat', hn, hw, e1, e2, e3, e4⟩ := hs.obj k _ p hO hp
  rw [hat] at hat'; obtain ⟨rfl, rfl⟩ := Prod.mk.inj (Option.some.inj hat')
  exact ⟨b, m, p, pm, ents, by simp, hO, hp, hat, hn, hw, e1, e2, e3, e4⟩
theorem map_get (hs : St G F σ O w) {km m : Nat} {es : List (V × V)} {pm : Pl} (hk : og O km = .map es) (hpm : σ[km]? = some pm) (hm : pm.at_ = some (m, 0)) : ∃ ents, w.heap[m]? = some (.map ents es.length) ∧ RepM F es ents.toList 0 ∧ m < w.heap.size := by
  have hO := og_get hk (by simp)
  obtain ⟨b', ents, hat', hn, hw, hr⟩ := hs.obj km _ pm hO hpm
  rw [hm] at hat'; obtain ⟨rfl, _⟩ := Prod.mk.inj (Option.some.inj hat')
  exact ⟨ents, hw, hr, (Array.getElem?_eq_some_iff.1 hw).1⟩

/-- The next step over a map. -/
theorem next_run (hs : St G F σ O w) {k off : Nat} {y : Value} (h : LRep F σ (.loc k off) y) {km since : Nat} {seen : List Nat} {es : List (V × V)} (hk : og O k = .mit km since seen) (hm : og O km = .map es) (h0 : off = 0) (hsince : es.length = since) (ty : TypeId) :
    ((∀ i, i < es.length → hasB seen i = true) ∧ (Instr.next y false ty).run P w = .ok (.tuple #[.bool false]) w) ∨
    ∃ i x kv vv w', i < es.length ∧ hasB seen i = false ∧ es[i]? = some x ∧ Rep F x.1 kv ∧ Rep F x.2 vv ∧ (Instr.next y false ty).run P w = .ok (.tuple #[.bool true, kv, vv]) w' ∧ St G F σ (os O k (.mit km since (seen ++ [i]))) w' ∧ Step F σ w F σ w' := by
  obtain ⟨b, m, p, pm, sn, rfl, hO, hp, hat, hn, hw, rfl, hpm, hmat, hpin⟩ := loc_get hs h hk
  obtain ⟨ents, hwm, hr, hml⟩ := map_get hs hm hpm hmat
  subst h0 hsince
  have hborn : ∀ x ∈ ents.toList, x.born < es.length := by
    intro x hx
    obtain ⟨i, hi⟩ := List.mem_iff_getElem?.1 hx
    obtain ⟨y, h1, h2, _⟩ := hr.get hi
    have := (List.getElem?_eq_some_iff.1 h1).1
    omega
  have hsn : ∀ i, hasB sn.toList i = sn.contains i := by
    intro i
    rw [Bool.eq_iff_iff, hasB_iff]; simp
  rcases run_next_at (P := P) w ty b m es.length es.length sn ents es.length hw hwm hborn (Nat.le_refl _) with ⟨h1, h2⟩ | ⟨e, he, w1, hw1, h2⟩
  · refine .inl ⟨fun i hi => ?_, h2⟩
    have hl := hr.length
    have hi' : i < ents.toList.length := by omega
    have hb := hr.born i hi'
    rw [hsn]
    cases hc : sn.contains i with
    | true => rfl
    | false =>
      exfalso
      have : ents.toList[i] ∈ (leftOf ents sn).toList := by
        simp only [leftOf, Array.toList_filter, List.mem_filter]
        refine ⟨List.getElem_mem hi', ?_⟩
        rw [hb, Nat.zero_add, hc]; rfl
      have h3 : (leftOf ents sn).toList.length = 0 := by rw [Array.length_toList]; exact h1
      rw [List.eq_nil_of_length_eq_zero h3] at this; simp at this
  · simp only [leftOf, Array.toList_filter, List.mem_filter, Bool.not_eq_true'] at he
    obtain ⟨he1, he2⟩ := he
    obtain ⟨i, hi⟩ := List.mem_iff_getElem?.1 he1
    obtain ⟨x, a1, a2, a3, a4⟩ := hr.get hi
    rw [Nat.zero_add] at a2
    have hbl : b < w.heap.size := (Array.getElem?_eq_some_iff.1 hw).1
    have key : ∀ w1 : World, w1.heap = w.heap → w1.os = w.os → w1.tape = w.tape → w1.output = w.output → St G F σ (os O k (.mit km es.length (sn.toList ++ [i]))) (Av.put w1 b (.mapIter (some m) es.length (sn.push i) es.length)) ∧ Step F σ w F σ (Av.put w1 b (.mapIter (some m) es.length (sn.push i) es.length)) := by
      intro w1 hh h1 h2 h3
      have hs1 : St G F σ O w1 := St.of_heap hh hs
      have := hs1.put (o := .mit km es.length (sn.toList ++ [i])) hO rfl rfl hp hat hn (blk := .mapIter (some m) es.length (sn.push i) es.length) ⟨b, m, pm, sn.push i, hat, hn, put_at (by rw [hh]; exact hbl), by simp, hpm, hmat, hpin⟩ id
      rw [os_eq]
      refine ⟨this.1, ?_⟩
      have st := this.2
      refine ⟨Fz.le_refl F, fun b' hb' => ?_, fun b' h h' => absurd h h', fun q hq b' c' h => .inr ⟨q, hq, c', h⟩, by rw [put_size, hh]; exact Nat.le_refl _, h1, h2, h3, fun _ _ h _ => h, Nat.le_refl _⟩
      rw [put_ne (fun hb'' => hb' (.inr ⟨p, List.mem_of_getElem? hp, 0, by rw [hb'']; exact hat⟩)), hh]
    rw [a2] at h2
    refine .inr ⟨i, x, e.key, e.val, _, (List.getElem?_eq_some_iff.1 a1).1, ?_, a1, a3, a4, h2, ?_⟩
    · rw [hsn, ← a2]; exact he2
    · rcases hw1 with rfl | rfl
      · exact key w1 rfl rfl rfl rfl
      · exact key w.drew rfl rfl rfl rfl

theorem ent_run (hs : St G F σ O w) {x : LV} {y : Value} (h : LRep F σ x y) (hok : (entV O x).ok) : ∃ v, (Instr.entry y).run P w = .ok v w ∧ LRep F σ (entV O x).v v := by
  unfold entV at *
  split at hok
  · rename_i k off
    split at hok
    · rename_i km since seen hk
      split at hok
      · rename_i es hm
        split at hok
        · rename_i i hi
          split at hok
          · rename_i e he
            obtain ⟨h0, hsince⟩ := hok
            obtain ⟨b, m, p, pm, sn, rfl, hO, hp, hat, hn, hw, hseen, hpm, hmat, hpin⟩ := loc_get hs h hk
            obtain ⟨ents, hwm, hr, hml⟩ := map_get hs hm hpm hmat
            subst h0 hsince hseen
            have hl := hr.length
            have hil : i < ents.toList.length := by rw [hl]; exact (List.getElem?_eq_some_iff.1 he).1
            obtain ⟨x, a1, a2, a3, a4⟩ := hr.get (List.getElem?_eq_getElem hil)
            rw [he] at a1; obtain rfl := Option.some.inj a1
            rw [Nat.zero_add] at a2
            have hsn : sn.back? = some i := by rw [← Array.getLast?_toList]; exact hi
            have hfind : ents.find? (fun e => e.born == i) = some ents.toList[i] := by
              rw [← Array.find?_toList]
              refine List.find?_eq_some_iff_getElem.2 ⟨beq_iff_eq.2 a2, i, hil, rfl, fun j hj => ?_⟩
              have := hr.born j (by omega)
              rw [Bool.not_eq_true', beq_eq_false_iff_ne]; omega
            refine ⟨.tuple #[ents.toList[i].key, ents.toList[i].val], ?_, ?_⟩
            · simp only [Instr.entry, bind, run_bind, getObj, Sem.run, hw, hsn, hwm, bne_self_eq_false, Bool.false_eq_true, if_false, hfind, pure]
            · simp only [hk, hm, hi, he]
              exact ⟨_, rfl, _, _, rfl, a3, _, _, rfl, a4, rfl⟩
          · exact hok.elim
        · exact hok.elim
      · exact hok.elim
    · exact hok.elim
  · exact hok.elim
theorem mlen_run {t kT eT : TypeId} (ht : P.underlying t = some (.map kT eT)) (ty : TypeId) (hs : St G F σ O w) {x : LV} {y : Value} (h : LRep F σ x y) (hok : (mlenV O x).ok) : ∃ v, (Builtin.len_ #[t] ty #[y]).run P w = .ok v w ∧ LRep F σ (mlenV O x).v v := by
  unfold mlenV at *
  split at hok
  · rename_i k
    split at hok
    · rename_i es hes
      obtain ⟨b, p, ents, rfl, hO, hp, hat, hn, hpin, hw, hr⟩ := mp_get hs h hes
      refine ⟨goInt ents.size, ?_, ?_⟩
      · simp [Builtin.len_, bind, run_bind, run_und ht, getObj, Sem.run, hw, pure]
      · simp only [hes]
        have := hr.length
        simp only [Array.length_toList] at this
        rw [this]; rfl
    · exact hok.elim
  · simp only [LRep, Rep] at h; subst h
    exact ⟨goInt 0, by simp [Builtin.len_, bind, run_bind, run_und ht, pure, Sem.run], rfl⟩
  · exact hok.elim
end
end Go.Av

namespace Go.Av
set_option linter.unusedVariables false
set_option linter.unusedSimpArgs false

def setE : List (List V) → Nat → List V → List (List V)
  | [], _, _ => []
  | _ :: l, 0, e => e :: l
  | x :: l, i + 1, e => x :: setE l i e
theorem setE_eq : ∀ (l : List (List V)) (i : Nat) (e : List V), setE l i e = l.set i e
  | [], i, e => by simp [setE]
  | x :: l, 0, e => by simp [setE]
  | x :: l, i + 1, e => by simp [setE, setE_eq l i e]
def repE (e : List V) : Nat → List (List V)
  | 0 => []
  | n + 1 => e :: repE e n
theorem repE_eq (e : List V) : ∀ n, repE e n = List.replicate n e
  | 0 => rfl
  | n + 1 => by rw [repE, repE_eq e n]; rfl
/-- The elements of a slice that is written out. -/
def bslV (fr : List LV) (s : Nat) : List (List V) → List (Nat × Od) → Option (List (List V))
  | es, [] => some es
  | es, (i, x) :: r => match cellsV (ev fr x) with
    | some ys => match closed ys with
      | some vs => match Nat.beq vs.length s with
        | true => bslV fr s (setE es i vs) r
        | false => none
      | none => none
    | none => none
def bslE (s n : Nat) (zs : List V) (ps : List (Nat × Od)) (fr : List LV) (O : List Obj) : ER :=
  match bslV fr s (repE zs n) ps with
  | some es => ⟨True, fr, .rw O.length, O ++ [.row false s es]⟩
  | none => noE
def mksE (s bytes : Nat) (zs : List V) (l c : LV) (fr : List LV) (O : List Obj) : ER :=
  match l, c with
  | .g (.int _ l), .g (.int _ c) => ⟨0 ≤ l ∧ l ≤ c ∧ c ≤ 9223372036854775807 ∧ c * bytes ≤ 140737488355328, fr, .rw O.length, O ++ [.row false s (List.replicate l.toNat zs)]⟩
  | _, _ => noE

/-- 'x[:0:0]': an empty row without room. -/
def empE (s : Nat) (x : LV) (fr : List LV) (O : List Obj) : ER :=
  match x with
  | .g .nils => ⟨True, fr, .rw O.length, O ++ [.row false s []]⟩
  | .g (.fsl _ _) => ⟨True, fr, .rw O.length, O ++ [.row false s []]⟩
  | .rw _ => ⟨True, fr, .rw O.length, O ++ [.row false s []]⟩
  | .lsl _ _ _ => ⟨True, fr, .rw O.length, O ++ [.row false s []]⟩
  | _ => noE

section
variable {P : Program} {G : Gl} {F : Fz} {σ : List Pl} {O : List Obj} {w : World} {fr : List LV} {a : Act}

theorem repC_ofC {arr : Array Value} : ∀ {l : List Value} {o : Nat}, (∀ j, j < l.length → arr[o + j]? = l[j]?) → oneAll l → RepC F arr (l.map ofC) o
  | [], o, _, _ => trivial
  | v :: l, o, h, h1 => by
    refine ⟨⟨v, by simpa using h 0 (by simp), h1 v (by simp), rep_ofC F v⟩, repC_ofC (fun j hj => ?_) fun u hu => h1 u (by simp [hu])⟩
    have := h (j + 1) (by simpa using hj)
    rw [show o + 1 + j = o + (j + 1) from by omega, this]; simp
theorem repR_zero {arr z : Array Value} (h1 : oneAll z.toList) : ∀ {n o : Nat}, (∀ i, i < n → ∀ j, j < z.size → arr[o + i * z.size + j]? = z[j]?) → RepR F z.size arr (List.replicate n (z.toList.map ofC)) o
  | 0, o, _ => trivial
  | n + 1, o, h => by
    refine ⟨by simp, repC_ofC (fun j hj => ?_) h1, repR_zero h1 fun i hi j hj => ?_⟩
    · have := h 0 (by omega) j (by simpa using hj)
      simpa using this
    · have := h (i + 1) (by omega) j hj
      rw [show o + z.size + i * z.size + j = o + (i + 1) * z.size + j from by rw [Nat.add_mul]; omega, this]
def zeros (z : Array Value) (n : Nat) : Array Value := (Array.range (n * z.size)).map (z[· % z.size]!)
theorem zeros_size {z : Array Value} {n : Nat} : (zeros z n).size = n * z.size := by simp [zeros]
theorem zeros_get {z : Array Value} {n i j : Nat} (hi : i < n) (hj : j < z.size) : (zeros z n)[i * z.size + j]? = z[j]? := by
  have hlt : i * z.size + j < n * z.size := by
    have : (i + 1) * z.size ≤ n * z.size := Nat.mul_le_mul_right _ hi
    rw [Nat.add_mul] at this; omega
  have hm : (i * z.size + j) % z.size = j := by
    rw [Nat.mul_comm, Nat.mul_add_mod, Nat.mod_eq_of_lt hj]
  simp [zeros, hlt, hm, getElem!_pos, hj, Array.getElem?_eq_getElem hj]
theorem zeros_rep {z : Array Value} (h1 : oneAll z.toList) {n m : Nat} (h : m ≤ n) : RepR F z.size (zeros z n) (List.replicate m (z.toList.map ofC)) 0 :=
  repR_zero h1 fun i hi j hj => by rw [Nat.zero_add]; exact zeros_get (by omega) hj

/-- A new row, some of whose places are spare. -/
theorem new_row' (hs : St G F σ O w) (hf : LRepL F σ fr a.tmps.toList) {s l m : Nat} {es : List (List V)} {arr : Array Value} {el : TypeId} (hr : RepR F s arr es 0) (hsz : arr.size = m * s) (hl : es.length = l) (hm : l ≤ m) (h63 : l ≤ 9223372036854775807) :
    ∃ σ', LRep F σ' (.rw O.length) (.slice (some ⟨w.heap.size, 0, none⟩) l m) ∧ LRepL F σ' fr a.tmps.toList ∧ St G F σ' (O ++ [.row false s es]) (Av.push w (.cells arr el)) ∧ Step F σ w F σ' (Av.push w (.cells arr el)) := by
  subst hl; exact new_row hs hf hr hsz hm h63

theorem repL_of_map : ∀ {vs : List V} {ys : List Value}, LRepL F σ (vs.map .g) ys → RepL F vs ys
  | [], ys, h => h
  | v :: vs, ys, h => by obtain ⟨y, r, rfl, hv, hr⟩ := h; exact ⟨y, r, rfl, by simpa only [LRep] using hv, repL_of_map hr⟩
theorem fillL_drop {α : Type} : ∀ (cs : List α) (n : Nat) (ys : List α), n + ys.length ≤ cs.length → (fillL cs n ys).drop n = ys ++ cs.drop (n + ys.length)
  | cs, n, [], _ => by rw [fillL_nil]; simp
  | [], n, y :: ys, h => by simp at h
  | c :: cs, 0, y :: ys, h => by
    have := fillL_drop cs 0 ys (by simp only [List.length_cons] at h; omega)
    simp only [List.drop_zero, Nat.zero_add] at this
    simp [fillL, this]
  | c :: cs, n + 1, y :: ys, h => by
    have := fillL_drop cs n (y :: ys) (by simp only [List.length_cons] at h ⊢; omega)
    simp only [fillL, List.drop_succ_cons, this, List.length_cons]
    rw [show n + 1 + (ys.length + 1) = (n + (ys.length + 1)) + 1 from by omega, List.drop_succ_cons]

theorem fill_rows {s n : Nat} : ∀ {ps : List (Nat × Operand)} {ps' : List (Nat × Od)} {es es' : List (List V)} {cells : Array Value},
    ps'.length = ps.length → (∀ (j : Nat) (i : Nat) (x : Operand), ps[j]? = some (i, x) → ∃ x', ps'[j]? = some (i, x') ∧ LRep F σ (ev fr x') (a.eval x) ∧ i < n) → RepR F s cells es 0 → es.length = n → cells.size = n * s → bslV fr s es ps' = some es' →
      ∃ cells', Instr.fill (fun i => some (i * s, s)) cells (ps.map fun x => (x.1, a.eval x.2)) = some cells' ∧ RepR F s cells' es' 0 ∧ cells'.size = n * s ∧ es'.length = n
  | [], ps', es, es', cells, hl, hc, hr, hn, hsz, h => by
    obtain rfl : ps' = [] := List.eq_nil_of_length_eq_zero (by simpa using hl)
    simp only [bslV, Option.some.injEq] at h; subst h
    exact ⟨cells, rfl, hr, hsz, hn⟩
  | (i, x) :: r, ps', es, es', cells, hl, hc, hr, hn, hsz, h => by
    match ps', hl with
    | (i', x') :: r', hl =>
      obtain ⟨x'', hx1, hx2, hi⟩ := hc 0 i x rfl
      simp only [List.getElem?_cons_zero, Option.some.injEq, Prod.mk.injEq] at hx1
      obtain ⟨rfl, rfl⟩ := hx1
      simp only [bslV] at h
      split at h
      · rename_i ys hys
        split at h
        · rename_i vs hvs
          split at h
          · rename_i hb
            have hvl : vs.length = s := Nat.eq_of_beq_eq_true hb
            obtain rfl := closed_map hvs
            obtain ⟨hL, hone⟩ := cellsV_rep hx2 hys
            have hlen := hL.length
            simp only [List.length_map, Array.length_toList] at hlen
            have hub : i' * s + s ≤ n * s := by
              have : (i' + 1) * s ≤ n * s := Nat.mul_le_mul_right _ hi
              rw [Nat.add_mul] at this; omega
            obtain ⟨cells', he, hcl⟩ := fill_step (rest := r.map fun x => (x.1, a.eval x.2)) (place := fun i => some (i * s, s)) (i := i') (v := a.eval x) (cells := cells) rfl (by omega) (by omega : i' * s + s ≤ cells.size)
            have hsz' : cells'.size = n * s := by
              have := congrArg List.length hcl
              simp only [fillL_length, Array.length_toList] at this; omega
            have hget : ∀ j, (j < 0 + i' * s ∨ 0 + (i' + 1) * s ≤ j) → cells'[j]? = cells[j]? := by
              intro j hj
              rw [← Array.getElem?_toList, ← Array.getElem?_toList, hcl]
              refine fillL_get _ _ _ _ (by simp; omega) ?_
              simp only [Array.length_toList]
              rw [Nat.add_mul] at hj; omega
            have hRL : RepL F vs (a.eval x).cells.toList := repL_of_map hL
            have hC : RepC F cells' vs (0 + i' * s) := by
              refine RepC_mk (vs := (a.eval x).cells.toList) (rest := cells.toList.drop (i' * s + s)) ?_ hRL hone
              rw [hcl, Nat.zero_add]
              rw [fillL_drop _ _ _ (by simp; omega)]
              simp only [Array.length_toList]; congr 2; omega
            have hr' : RepR F s cells' (setE es i' vs) 0 := by
              rw [setE_eq]
              exact hr.set (by omega) hget hvl hC
            obtain ⟨c2, e2, r2, s2, l2⟩ := fill_rows (ps := r) (ps' := r') (by simpa using hl) (fun j i x hj => hc (j + 1) i x hj) hr' (by rw [setE_eq]; simpa using hn) hsz' h
            exact ⟨c2, by rw [List.map_cons, he, e2], r2, s2, l2⟩
          · cases h
        · cases h
      · cases h

theorem oneAll_ofC {l : List Value} (h : allOneV (l.map ofC) = true) : oneAll l :=
  allOne_rep (F := fun _ => none) (σ := []) (LRepL_map_g (repL_ofC _ l)) (allOneV_map h)

theorem bsl_sound (hs : St G F σ O w) (hf : LRepL F σ fr a.tmps.toList) {o : Oper} {t el : TypeId} {n : Nat} {ps : Array (Nat × Operand)} {ps' : List (Nat × Od)} {inf : TypeInfo} {z : Value}
    (ht : P.underlying t = some (.slice el)) (hi : P.info? el = some inf) (hz : inf.zero = some z) (hzs : z.cells.size = inf.size) (hone : allOneV (z.cells.toList.map ofC) = true) (hbig : n * inf.size ≤ 16777216) (h63 : n ≤ 9223372036854775807)
    (hl : ps'.length = ps.toList.length) (hc : ∀ (j : Nat) (i : Nat) (x : Operand), ps.toList[j]? = some (i, x) → ∃ x', ps'[j]? = some (i, x') ∧ LRep F σ (ev fr x') (a.eval x) ∧ i < n)
    (ho : o.op = .buildSlice t n ps) (hok : (bslE inf.size n (z.cells.toList.map ofC) ps' fr O).ok) : GivesE P G F σ w a o (bslE inf.size n (z.cells.toList.map ofC) ps' fr O) := by
  unfold bslE at hok ⊢
  split at hok
  · rename_i es hes
    have h1 := oneAll_ofC hone
    rw [repE_eq] at hes
    obtain ⟨cells', he, hr, hsz, hlen⟩ := fill_rows hl hc (cells := zeros z.cells n) (hzs ▸ zeros_rep h1 (Nat.le_refl n)) (by simp) (by rw [zeros_size, hzs]) hes
    obtain ⟨σ', a1, a2, a3, a4⟩ := new_row' (el := el) hs hf hr hsz hlen (Nat.le_refl n) h63
    refine ⟨_, _, F, σ', .inl ?_, a1, a2, a3, a4⟩
    have hz0 : n * inf.size = 0 → (Array.range (n * inf.size)).map ((#[] : Array Value)[· % (#[] : Array Value).size]!) = zeros z.cells n := by
      intro h0; unfold zeros; rw [hzs, h0]; simp
    have hz1 : (Array.range (n * inf.size)).map (z.cells[· % z.cells.size]!) = zeros z.cells n := by unfold zeros; rw [hzs]
    have hps : (Array.map (fun x => (x.fst, a.eval x.snd)) ps).toList = ps.toList.map fun x => (x.1, a.eval x.2) := by simp
    simp only [execOp, ho, Instr.buildSlice, bind, Av.run_bind, run_und ht, run_size hi, pure, Sem.run]
    rw [if_neg (by omega : ¬ (n * inf.size > 2 ^ 24))]
    by_cases h0 : n * inf.size = 0
    · rw [if_pos h0]
      simp only [Av.run_bind, Sem.run]
      rw [hz0 h0, hps, he]
      simp only [Av.run_bind, run_newRow, Sem.run]
    · rw [if_neg h0]
      simp only [Av.run_bind, zeroValue, bind, pure, run_info hi, hz, Sem.run]
      rw [hz1, hps, he]
      simp only [Av.run_bind, run_newRow, Sem.run]
  · exact hok.elim

theorem mks_sound (hs : St G F σ O w) (hf : LRepL F σ fr a.tmps.toList) {o : Oper} {t el : TypeId} {x y : Operand} {x' y' : Od} {inf : TypeInfo} {z : Value} (hx : compOd G x = some x') (hy : compOd G y = some y')
    (ht : P.underlying t = some (.slice el)) (hi : P.info? el = some inf) (hz : inf.zero = some z) (hzs : z.cells.size = inf.size) (hone : allOneV (z.cells.toList.map ofC) = true)
    (ho : o.op = .makeSlice t x y) (hok : (mksE inf.size inf.bytes (z.cells.toList.map ofC) (ev fr x') (ev fr y') fr O).ok) : GivesE P G F σ w a o (mksE inf.size inf.bytes (z.cells.toList.map ofC) (ev fr x') (ev fr y') fr O) := by
  have h1 := ev_sound hs hf hx
  have h2 := ev_sound hs hf hy
  generalize ev fr x' = xv at *
  generalize ev fr y' = yv at *
  unfold mksE at *
  split at hok
  · rename_i k l j c
    obtain ⟨h0, hlc, h63, hby⟩ := hok
    simp only [LRep, Rep] at h1 h2
    have h1' := oneAll_ofC hone
    have hnl : l.toNat ≤ c.toNat := by omega
    obtain ⟨σ', a1, a2, a3, a4⟩ := new_row' (el := el) (m := c.toNat) hs hf (hzs ▸ zeros_rep h1' hnl) (zeros_size.trans (by rw [hzs])) (by simp) hnl (by omega)
    refine ⟨_, _, F, σ', .inl ?_, a1, a2, a3, a4⟩
    have hwl : IntKind.i64.wrap l = l := wrap_in ⟨by have : IntKind.i64.min = -9223372036854775808 := by decide
                                                     omega, by have : IntKind.i64.max = 9223372036854775807 := by decide
                                                               omega⟩
    have hwc : IntKind.i64.wrap c = c := wrap_in ⟨by have : IntKind.i64.min = -9223372036854775808 := by decide
                                                     omega, by have : IntKind.i64.max = 9223372036854775807 := by decide
                                                               omega⟩
    have hz0 : c.toNat * inf.size = 0 → (Array.range (c.toNat * inf.size)).map ((#[] : Array Value)[· % (#[] : Array Value).size]!) = zeros z.cells c.toNat := by
      intro h0; unfold zeros; rw [hzs, h0]; simp
    have hz1 : (Array.range (c.toNat * inf.size)).map (z.cells[· % z.cells.size]!) = zeros z.cells c.toNat := by unfold zeros; rw [hzs]
    have hb1 : ¬ (281474976710656 < (inf.bytes : Int) * c) := by rw [Int.mul_comm]; omega
    have hc0 : ¬ c < 0 := by omega
    have hl0 : ¬ l < 0 := by omega
    have hlc' : ¬ c < l := by omega
    have hA : ∀ A : Array Value, A = zeros z.cells c.toNat → (newRow el A).run P w = .ok ⟨w.heap.size, 0, none⟩ (Av.push w (.cells (zeros z.cells c.toNat) el)) := by
      rintro A rfl; exact run_newRow ..
    by_cases h0' : c.toNat * inf.size = 0
    · simp only [execOp, ho, h1, h2, Instr.makeSlice, bind, Av.run_bind, run_und ht, run_size hi, run_info hi, asInt, asIntOf, pure, Sem.run, hwl, hwc]
      simp [hb1, hc0, hl0, hlc', Av.run_bind, run_room, run_size hi, h0', Sem.run]
      rw [hA _ (by unfold zeros; rw [hzs, h0']; simp)]
    · simp only [execOp, ho, h1, h2, Instr.makeSlice, bind, Av.run_bind, run_und ht, run_size hi, run_info hi, asInt, asIntOf, pure, Sem.run, hwl, hwc]
      simp [hb1, hc0, hl0, hlc', Av.run_bind, run_room, run_size hi, h0', Sem.run, zeroValue, run_info hi, hz, bind, pure]
      rw [hA _ hz1]
  · exact hok.elim

theorem emp_sound (hs : St G F σ O w) (hf : LRepL F σ fr a.tmps.toList) {o : Oper} {t el : TypeId} {x : Operand} {x' : Od} {inf : TypeInfo} {k j : IntKind} (hx : compOd G x = some x')
    (ht : P.underlying t = some (.slice el)) (hel : P.info? el = some inf)
    (ho : o.op = .slice t x none (some (.const (.int k 0))) (some (.const (.int j 0)))) (hok : (empE inf.size (ev fr x') fr O).ok) : GivesE P G F σ w a o (empE inf.size (ev fr x') fr O) := by
  have h1 := ev_sound hs hf hx
  generalize ev fr x' = xv at *
  have go : ∀ (ad : Option Addr) (len cap : Nat), a.eval x = .slice ad len cap → (execOp a.eval o).run P w = .ok (.value (.slice ad 0 0)) w := by
    intro ad len cap hy
    have hk : a.eval (.const (.int k 0)) = .int k 0 := rfl
    have hj : a.eval (.const (.int j 0)) = .int j 0 := rfl
    have hb : ∀ (c : BoundsCode) (i : IntKind) (n : Nat) (w : World), (Instr.sliceBound (.int i 0) n c).run P w = .ok 0 w := by
      intro c i n w
      have := run_bound (P := P) (k := i) (n := 0) (y := n) (c := c) (Int.le_refl 0) (Int.natCast_nonneg n) w
      simpa using this
    simp only [execOp, ho, Instr.sliceAt, Instr.slice, Instr.sliceBounds, bind, Av.run_bind, run_und ht, hy, Option.map_none, Option.map_some, hk, hj, hb, run_size hel, pure, Sem.run, if_true, Nat.sub_self]
  have fin : ∀ (ad : Option Addr) (len cap : Nat), a.eval x = .slice ad len cap → GivesE P G F σ w a o ⟨True, fr, .rw O.length, O ++ [.row false inf.size []]⟩ := by
    intro ad len cap hy
    obtain ⟨σ', a1, a2, a3, a4⟩ := nil_row hs hf inf.size ad
    exact ⟨_, _, F, σ', .inl (go ad len cap hy), a1, a2, a3, a4⟩
  unfold empE at *
  split at hok
  · simp only [LRep, Rep] at h1; exact fin _ _ _ h1
  · obtain ⟨ad, cap, hy, _⟩ := h1; exact fin _ _ _ hy
  · obtain ⟨p, ad, _, hy, _⟩ := h1; exact fin _ _ _ hy
  · obtain ⟨p, ad, _, hy, _⟩ := h1; exact fin _ _ _ hy
  · exact hok.elim
theorem empE_new {s : Nat} {x : LV} (h : (empE s x fr O).ok) : (empE s x fr O).fr = fr ∧ ∃ y, (empE s x fr O).O = O ++ y := by
  unfold empE at *
  split at h <;> first | exact ⟨rfl, _, rfl⟩ | exact h.elim
end
end Go.Av

namespace Go.Av
set_option linter.unusedVariables false
set_option linter.unusedSimpArgs false

section
variable {P : Program} {G : Gl} {F : Fz} {σ : List Pl} {O : List Obj} {w : World} {fr : List LV} {a : Act}
theorem size_mk (b : List UInt8) : (⟨b.toArray⟩ : ByteArray).size = b.length := by simp [ByteArray.size]
theorem ext_str (b : List UInt8) (l h : Nat) : LRep F σ (.g (.str ((b.take h).drop l))) (.string ((⟨b.toArray⟩ : ByteArray).extract l h)) := by
  simp only [LRep, Rep]
  congr 1
  apply ByteArray.ext
  rw [ByteArray.data_extract]
  apply Array.ext'
  rw [Array.toList_extract, List.extract_eq_take_drop, List.drop_take]
theorem slc_str {o : Oper} {t : TypeId} {x : Operand} {lo hi : Option Operand} {s : ByteArray} {n l h m : Nat} (ho : o.op = .slice t x lo hi none) (ht : P.underlying t = some .string) (hx : a.eval x = .string s)
    (hb : (Instr.sliceBounds false s.size s.size (lo.map a.eval) (hi.map a.eval) none).run P w = .ok (l, h, m) w) : (execOp a.eval o).run P w = .ok (.value (.string (s.extract l h))) w := by
  simp only [execOp, ho, Instr.sliceAt, Instr.slice, bind, run_bind, run_und ht, hx, Option.map_none, Option.isSome_none, Bool.false_eq_true, if_false, hb, pure, Sem.run]

theorem sslc_sound (hs : St G F σ O w) (hf : LRepL F σ fr a.tmps.toList) {o : Oper} {t : TypeId} {x : Operand} {lo hi : Option Operand} {x' : Od} {lo' hi' : Option Od} (hx : compOd G x = some x')
    (hlo : (match lo with | none => some none | some y => (compOd G y).map some) = some lo') (hhi : (match hi with | none => some none | some y => (compOd G y).map some) = some hi')
    (ht : P.underlying t = some .string)
    (ho : o.op = .slice t x lo hi none) (hok : (sslcV (ev fr x') (lo'.map (ev fr)) (hi'.map (ev fr))).ok) : Gives P F σ w a o (sslcV (ev fr x') (lo'.map (ev fr)) (hi'.map (ev fr))).v := by
  have h1 := ev_sound hs hf hx
  have h2 := opt_ev hs hf hlo
  have h3 := opt_ev hs hf hhi
  generalize ev fr x' = xv at *
  generalize lo'.map (ev fr) = lv at *
  generalize hi'.map (ev fr) = hv at *
  unfold sslcV at *
  split at hok
  · rename_i b
    split at hok
    · rename_i k l k' h e1 e2
      simp only [LRep, Rep] at h1
      obtain ⟨h0, hlh, hlen⟩ := hok
      have hbo := run_bounds (P := P) (isS := false) (len := b.length) (cap := b.length) (bd_of h2 e1) (bd_of h3 e2) h0 hlh hlen (Nat.le_refl _) w
      refine ⟨.string ((⟨b.toArray⟩ : ByteArray).extract l.toNat h.toNat), ?_, ext_str b l.toNat h.toNat⟩
      exact slc_str (n := 0) ho ht h1 (by rw [size_mk]; exact hbo)
    · exact hok.elim
  · exact hok.elim
end
end Go.Av

namespace Go.Av
set_option linter.unusedVariables false
set_option linter.unusedSimpArgs false

def bytesV : List (List V) → Option (List UInt8)
  | [] => some []
  | e :: es => match e with
    | [.int .u8 n] => match bytesV es with
      | some bs => some (UInt8.ofNat n.toNat :: bs)
      | none => none
    | _ => none
def b2sV (O : List Obj) (x : LV) : R :=
  match x with
  | .g (.str _) => no
  | x => match srcV O 1 x with
    | some es => match bytesV es with
      | some bs => ⟨True, .g (.str bs)⟩
      | none => no
    | none => no
theorem bytesV_map : ∀ bs : List UInt8, bytesV (bs.map fun b => [.int .u8 (b.toNat : Int)]) = some bs
  | [] => rfl
  | b :: bs => by simp [bytesV, bytesV_map bs]

section
variable {P : Program} {G : Gl} {F : Fz} {σ : List Pl} {O : List Obj} {w : World} {fr : List LV} {a : Act}

theorem src_slice (hs : St G F σ O w) {s : Nat} {x : LV} {y : Value} {xs : List (List V)} (hx : LRep F σ x y) (h : srcV O s x = some xs) (hn : ∀ b, x ≠ .g (.str b)) : ∃ ad n cap, y = .slice ad n cap := by
  unfold srcV at h
  split at h
  · obtain ⟨ad, cap, rfl, _⟩ := hx; exact ⟨_, _, _, rfl⟩
  · simp only [LRep, Rep] at hx; exact ⟨_, _, _, hx⟩
  · exact absurd rfl (hn _)
  · obtain ⟨p, ad, _, rfl, _⟩ := hx; exact ⟨_, _, _, rfl⟩
  · obtain ⟨p, ad, _, rfl, _⟩ := hx; exact ⟨_, _, _, rfl⟩
  · cases h

theorem bytes_loop {f : Value → ByteArray → Sem (ForInStep ByteArray)} (hf : ∀ n s, f (.int .u8 n) s = pure (.yield (s.push (UInt8.ofNat n.toNat)))) : ∀ {es : List (List V)} {bs : List UInt8} {arr : Array Value} {o : Nat} {vs : List Value} (acc : ByteArray) (w : World), RepR F 1 arr es o → bytesV es = some bs → (∀ j, j < vs.length → arr[o + j]? = vs[j]?) → vs.length = es.length →
    (forIn vs acc f).run P w = .ok ⟨(acc.data.toList ++ bs).toArray⟩ w
  | [], bs, arr, o, vs, acc, w, hr, hb, hv, hl => by
    obtain rfl : vs = [] := List.eq_nil_of_length_eq_zero hl
    simp only [bytesV, Option.some.injEq] at hb; subst hb
    simp [pure, Sem.run]
  | e :: es, bs, arr, o, vs, acc, w, hr, hb, hv, hl => by
    match vs, hl with
    | v :: vs, hl =>
      obtain ⟨h1, h2, h3⟩ := hr
      simp only [bytesV] at hb
      split at hb
      · rename_i n _
        split at hb
        · rename_i bs' hbs
          obtain rfl := Option.some.inj hb
          obtain ⟨⟨y, hy, _, hr⟩, _⟩ := h2
          have := hv 0 (by simp)
          simp only [Nat.add_zero, hy, List.getElem?_cons_zero, Option.some.injEq] at this
          subst this
          simp only [Rep] at hr; subst hr
          have ih := bytes_loop hf (vs := vs) (acc.push (UInt8.ofNat n.toNat)) w h3 hbs (fun j hj => by
            have := hv (j + 1) (by simpa using hj)
            rw [show o + 1 + j = o + (j + 1) from by omega, this]; simp) (by simpa using hl)
          rw [List.forIn_cons, hf]
          simp only [bind, Av.run_bind, pure, Sem.run] at ih ⊢
          rw [ih]
          simp
        · cases hb
      · cases hb

theorem b2s_sound (hs : St G F σ O w) (hf : LRepL F σ fr a.tmps.toList) {o : Oper} {t u el : TypeId} {x : Operand} {x' : Od} (hx : compOd G x = some x')
    (ht : P.underlying t = some (.slice el)) (hel : P.underlying el = some (.int .u8)) (hu : P.underlying u = some .string)
    (ho : o.op = .convert t u x) (hok : (b2sV O (ev fr x')).ok) : Gives P F σ w a o (b2sV O (ev fr x')).v := by
  have h1 := ev_sound hs hf hx
  generalize ev fr x' = xv at *
  unfold b2sV at *
  split at hok
  · exact hok.elim
  · rename_i hn
    split at hok
    · rename_i es hes
      split at hok
      · rename_i bs hbs
        obtain ⟨ad, n, cap, hy⟩ := src_slice hs h1 hes hn
        have hsrc := src_sound (P := P) hs h1 hes
        obtain ⟨arr, hsz, hr, _, hrun⟩ := hsrc.cells
        refine ⟨.string ⟨bs.toArray⟩, ?_, rfl⟩
        have hlen := hsrc.len w
        rw [hy] at hlen hrun
        simp only [Builtin.lenOf, pure, Sem.run, Result.ok.injEq, and_true] at hlen
        subst hlen
        have hrun' := hrun w rfl
        simp only [execOp, ho, convert, bind, Av.run_bind, run_und ht, run_und hu, hy]
        cases ad with
        | none =>
          simp only [Builtin.firstCells, pure, Sem.run, Result.ok.injEq, and_true] at hrun'
          subst hrun'
          have : es = [] := List.eq_nil_of_length_eq_zero (by simpa using hsz.symm)
          subst this
          simp only [bytesV, Option.some.injEq] at hbs; subst hbs
          simp only [Av.run_bind, run_und hel, Conv.bytesToString, bind, pure, Sem.run]
          rfl
        | some ad =>
          simp only [Builtin.firstCells, Nat.mul_one] at hrun'
          simp only [Av.run_bind, run_und hel, Conv.bytesToString, bind, hrun']
          rw [← Array.forIn_toList, bytes_loop (fun n s => rfl) (arr := arr) (o := 0) ByteArray.empty w hr hbs (fun j _ => by rw [Nat.zero_add, Array.getElem?_toList]) (by simpa using hsz)]
          simp [pure, Sem.run]
      · exact hok.elim
    · exact hok.elim

def u8s (b : List UInt8) : List (List V) := b.map fun c => [.int .u8 (c.toNat : Int)]
def s2bE (x : LV) (fr : List LV) (O : List Obj) : ER :=
  match x with
  | .g (.str b) => ⟨b.length ≤ 9223372036854775807, fr, .rw O.length, O ++ [.row false 1 (u8s b)]⟩
  | _ => noE

theorem freeze_push {arr : Array Value} {el : TypeId} (n : Nat) (w : World) : (Av.push w (.cells arr el)).freeze ⟨w.heap.size, n, none⟩ 1 = Av.push w (.cells arr el (n, n + 1)) := by
  simp only [World.freeze, Av.push]
  rw [if_neg (by omega)]
  congr 1
  apply Array.ext
  · simp
  · intro i h1 h2
    simp only [Array.size_modify, Array.size_push] at h1
    by_cases hi : w.heap.size = i
    · subst hi; simp [Array.getElem_modify]
    · rw [Array.getElem_modify_of_ne hi, Array.getElem_push_lt (by omega), Array.getElem_push_lt (by omega)]

theorem new_rowz (hs : St G F σ O w) (hf : LRepL F σ fr a.tmps.toList) {s l m : Nat} {es : List (List V)} {arr : Array Value} {el : TypeId} {z : Nat × Nat} (hz : Free arr z) (hr : RepR F s arr es 0) (hsz : arr.size = m * s) (hl : es.length = l) (hm : l ≤ m) (h63 : l ≤ 9223372036854775807) :
    ∃ σ', LRep F σ' (.rw O.length) (.slice (some ⟨w.heap.size, 0, none⟩) l m) ∧ LRepL F σ' fr a.tmps.toList ∧ St G F σ' (O ++ [.row false s es]) (Av.push w (.cells arr el z)) ∧ Step F σ w F σ' (Av.push w (.cells arr el z)) := by
  subst hl
  have hext : ∀ (k : Nat) (q : Pl), σ[k]? = some q → (σ ++ [(⟨some (w.heap.size, 0), s, es.length, m, false⟩ : Pl)])[k]? = some q := fun k q h => ext_same h
  have := hs.push (o := .row false s es) (p := ⟨some (w.heap.size, 0), s, es.length, m, false⟩) (c := 0) (blk := .cells arr el z) (fun b c h => by simp only [Option.some.injEq, Prod.mk.injEq] at h; exact h.1.symm)
    ⟨rfl, rfl, Nat.le_min.2 ⟨hm, h63⟩, .inr ⟨w.heap.size, 0, arr, el, z, rfl, hs.none_new (Nat.le_refl _), push_at, hz, by simp; omega, hr⟩⟩ rfl
  refine ⟨_, ⟨⟨some (w.heap.size, 0), s, es.length, m, false⟩, _, ?_, rfl, .inr ⟨w.heap.size, 0, rfl, rfl⟩⟩, hf.mono (Fz.le_refl F) hext, this.1, this.2⟩
  rw [hs.len, List.getElem?_append_right (Nat.le_refl _)]; simp

theorem u8s_rep {b : List UInt8} {rest : List Value} : RepR F 1 (b.map (fun c => Value.int .u8 (c.toNat : Int)) ++ rest).toArray (u8s b) 0 := by
  refine RepR_mk (vss := b.map fun c => [Value.int .u8 (c.toNat : Int)]) (rest := rest) ?_ (by simp [u8s]) ?_
  · have : (b.map fun c => [Value.int .u8 (c.toNat : Int)]).flatten = b.map (fun c => Value.int .u8 (c.toNat : Int)) := by
      induction b with
      | nil => rfl
      | cons c b ih => simp [ih]
    rw [this]; simp
  · intro i e' vs he hv
    simp only [u8s, List.getElem?_map, Option.map_eq_some_iff] at he hv
    obtain ⟨c, hc, rfl⟩ := he
    obtain ⟨c', hc', rfl⟩ := hv
    rw [hc] at hc'; obtain rfl := Option.some.inj hc'
    exact ⟨rfl, ⟨_, [], rfl, rfl, rfl⟩, fun v hv => by simp at hv; subst hv; rfl⟩

def bArr (b : List UInt8) (n : Nat) : Array Value := (b.map (fun (c : UInt8) => Value.int .u8 (c.toNat : Int)) ++ List.replicate n (Value.int .u8 0)).toArray
theorem bArr_size (b : List UInt8) (n : Nat) : (bArr b n).size = b.length + n := by simp [bArr]
theorem bArr_eq (b : List UInt8) (n : Nat) : (Array.map (fun (c : UInt8) => Value.int .u8 (c.toNat : Int)) b.toArray) ++ Array.replicate n (Value.int .u8 0) = bArr b n := by
  apply Array.ext'; simp [bArr]

theorem s2b_sound (hs : St G F σ O w) (hf : LRepL F σ fr a.tmps.toList) {o : Oper} {t u el : TypeId} {x : Operand} {x' : Od} (hx : compOd G x = some x')
    (ht : P.underlying t = some .string) (hu : P.underlying u = some (.slice el)) (hel : P.underlying el = some (.int .u8))
    (ho : o.op = .convert t u x) (hok : (s2bE (ev fr x') fr O).ok) : GivesE P G F σ w a o (s2bE (ev fr x') fr O) := by
  have h1 := ev_sound hs hf hx
  generalize ev fr x' = xv at *
  unfold s2bE at *
  split at hok
  · rename_i b
    simp only [LRep, Rep] at h1
    have hb : (⟨b.toArray⟩ : ByteArray).size = b.length := size_mk b
    have hge : b.length ≤ grownCap w b.length 0 el := grownCap_ge w _ _ _
    have hch : (choose (.appendCap b.length 0 el)).run P w = .ok (grownCap w b.length 0 el) w.drew := by
      simp only [choose, Question.forced, Sem.run, grownCap, pure]
      rfl
    generalize grownCap w b.length 0 el = m at *
    have hsz : (bArr b (m - b.length)).size = m := by rw [bArr_size]; omega
    obtain ⟨σ', a1, a2, a3, a4⟩ := new_rowz (s := 1) (es := u8s b) (el := el) (m := m) (l := b.length) (z := (m, m + 1)) (arr := bArr b (m - b.length)) hs.drew hf (fun i hi h => by
        rw [hsz] at hi; omega) u8s_rep (by rw [hsz]; omega) (by simp [u8s]) hge hok
    refine ⟨_, _, F, σ', .inl ?_, a1, a2, a3, (Step.drew F σ w).trans a4⟩
    have hsh : (Av.push w.drew (.cells (bArr b (m - b.length)) el)).shape? w.drew.heap.size = some (el, m) := by
      simp only [World.shape?, push_at, hsz]
    simp only [execOp, ho, convert, bind, Av.run_bind, run_und ht, run_und hu, h1, run_und hel, Conv.stringToBytes, hb, hch, bArr_eq, run_newRow]
    simp only [markStringish, shape, freeze, bind, Av.run_bind, Sem.run, hsh, pure, freeze_push]
  · exact hok.elim
end
end Go.Av

namespace Go.Av
set_option linter.unusedVariables false
set_option linter.unusedSimpArgs false

/-- May the slice be nil, may it be none? -/
def snilV (O : List Obj) : LV → Option (Prop × Prop)
  | .g .nils => some (True, False)
  | .g (.fsl _ es) => some (es = [], True)
  | .rw k => match rowLen (og O k) with
    | some n => some (n = 0, True)
    | none => none
  | .lsl k lo hi => match rowLen (og O k) with
    | some _ => some (hi = lo, True)
    | none => none
  | _ => none

section
variable {P : Program} {G : Gl} {F : Fz} {σ : List Pl} {O : List Obj} {w : World} {fr : List LV} {a : Act}

theorem snil_rep (hs : St G F σ O w) {x : LV} {y : Value} {p q : Prop} (hx : LRep F σ x y) (h : snilV O x = some (p, q)) : ∃ ad n cap, y = .slice ad n cap ∧ (ad = none → p) ∧ (ad ≠ none → q) := by
  unfold snilV at h
  split at h
  · simp only [LRep, Rep] at hx
    obtain ⟨rfl, rfl⟩ := Prod.mk.inj (Option.some.inj h)
    exact ⟨_, _, _, hx, fun _ => trivial, fun hn => absurd rfl hn⟩
  · obtain ⟨ad, cap, rfl, hc, hr⟩ := hx
    obtain ⟨rfl, rfl⟩ := Prod.mk.inj (Option.some.inj h)
    refine ⟨_, _, _, rfl, fun hn => ?_, fun _ => trivial⟩
    rcases hr with h | ⟨b, o, arr, hb, _⟩
    · exact h
    · rw [hn] at hb; cases hb
  · rename_i k
    obtain ⟨pl, ad, hp, rfl, hr⟩ := hx
    obtain ⟨ob, hO, hog, hob⟩ := place hs hp
    rw [hog] at h
    cases hl : rowLen ob with
    | none => rw [hl] at h; cases h
    | some n =>
      rw [hl] at h
      obtain ⟨rfl, rfl⟩ := Prod.mk.inj (Option.some.inj h)
      obtain ⟨_, e2, e3⟩ := row_place hob hl
      refine ⟨_, _, _, rfl, fun hn => ?_, fun _ => trivial⟩
      rcases hr with ⟨_, hz⟩ | ⟨b, o, _, hb⟩
      · omega
      · rw [hn] at hb; cases hb
  · rename_i k lo hi
    obtain ⟨pl, ad, hp, rfl, hlo, hhi, hr⟩ := hx
    obtain ⟨ob, hO, hog, hob⟩ := place hs hp
    rw [hog] at h
    cases hl : rowLen ob with
    | none => rw [hl] at h; cases h
    | some n =>
      rw [hl] at h
      obtain ⟨rfl, rfl⟩ := Prod.mk.inj (Option.some.inj h)
      obtain ⟨_, e2, e3⟩ := row_place hob hl
      refine ⟨_, _, _, rfl, fun hn => ?_, fun _ => trivial⟩
      rcases hr with hz | ⟨b, o, _, hb⟩
      · omega
      · rw [hn] at hb; cases hb
  · cases h

theorem snil_in {t el : TypeId} (ht : P.underlying t = some (.slice el)) (ad : Option Addr) (n cap d : Nat) (w : World) : (Op.equalIn (d + 1) t (.slice ad n cap) (.slice none 0 0)).run P w = .ok ad.isNone w := by
  cases ad with
  | none => simp only [Op.equalIn, bind, run_bind, run_und ht, pure, Sem.run, Option.isNone]
  | some ad => simp only [Op.equalIn, bind, run_bind, run_und ht, pure, Sem.run, Option.isNone]
theorem snil_run {t el : TypeId} (ht : P.underlying t = some (.slice el)) (ad : Option Addr) (n cap : Nat) (w : World) : (Op.equal t (.slice ad n cap) (.slice none 0 0)).run P w = .ok ad.isNone w := snil_in ht ad n cap 9999 w

/-- What the comparison answers: for equality on nil, else; for inequality the other way. -/
def ngB (neg b : Bool) : Bool :=
  match neg with
  | true => match b with
    | true => false
    | false => true
  | false => b
theorem snil_go (hs : St G F σ O w) (hf : LRepL F σ fr a.tmps.toList) {o : Oper} {op : BinOp} {t t' el : TypeId} {x : Operand} {x' : Od} {p q : Prop} (hx : compOd G x = some x') (hop : op = .eql ∨ op = .neq) (ht : P.underlying t = some (.slice el))
    (ho : o.op = .binOp op t x (.const (.slice none 0 0)) t') (h : snilV O (ev fr x') = some (p, q)) : ∃ b : Bool, (b = true → p) ∧ (b = false → q) ∧ (execOp a.eval o).run P w = .ok (.value (.bool (ngB (op == .neq) b))) w := by
  obtain ⟨ad, n, cap, hy, h1, h2⟩ := snil_rep hs (ev_sound hs hf hx) h
  refine ⟨ad.isNone, fun e => h1 (by simpa using e), fun e => h2 (by intro e'; rw [e'] at e; cases e), ?_⟩
  refine bin_run ho (eqGuard_lit (by simp [hy]) (by simp [hy]) w) ?_
  have he := snil_run (P := P) ht ad n cap w
  have hc : a.eval (.const (.slice none 0 0)) = .slice none 0 0 := rfl
  rw [hy, hc]
  rcases hop with rfl | rfl
  · show ((Op.equal t (.slice ad n cap) (.slice none 0 0)).bind fun r => Sem.pure (Value.bool r)).run P w = _
    rw [run_bind, he]; simp only [Sem.run]; rfl
  · show ((Op.equal t (.slice ad n cap) (.slice none 0 0)).bind fun r => Sem.pure (Value.bool (!r))).run P w = _
    rw [run_bind, he]; simp only [Sem.run]; cases ad.isNone <;> rfl
end
end Go.Av

namespace Go.Av
set_option linter.unusedVariables false
set_option linter.unusedSimpArgs false

def maxV : LV → LV → R
  | .g (.int k a), .g (.int j b) => ⟨True, .g (.int k (max a b))⟩
  | _, _ => no

section
variable {P : Program} {G : Gl} {F : Fz} {σ : List Pl} {O : List Obj} {w : World} {fr : List LV} {a : Act}
theorem max_sound (hs : St G F σ O w) (hf : LRepL F σ fr a.tmps.toList) {o : Oper} {x y : Operand} {x' y' : Od} {tys : Array TypeId} (hx : compOd G x = some x') (hy : compOd G y = some y')
    (ho : o.op = .call { callee := .builtin .max, args := #[x, y], argTypes := tys }) (hok : (maxV (ev fr x') (ev fr y')).ok) : Gives P F σ w a o (maxV (ev fr x') (ev fr y')).v := by
  have h1 := ev_sound hs hf hx
  have h2 := ev_sound hs hf hy
  generalize ev fr x' = xv at *
  generalize ev fr y' = yv at *
  unfold maxV at *
  split at hok
  · rename_i k p j q
    simp only [LRep, Rep] at h1 h2
    refine ⟨.int k (max p q), ?_, rfl⟩
    have hm : (if q > p then q else p) = max p q := by rw [Int.max_def]; split <;> split <;> omega
    simp only [execOp, ho, resolve, bind, Av.run_bind, pure, Sem.run, invoke, builtin, Builtin.max_]
    simp [h1, h2, Builtin.max2, hm, pure, Sem.run, Av.run_bind, bind]
  · exact hok.elim
end
end Go.Av

namespace Go.Av
set_option linter.unusedVariables false
set_option linter.unusedSimpArgs false

def enters (P : Program) (f : FuncId) : Bool :=
  match P.funcs[f]? with
  | some fn => match fn.body with
    | some _ => !(fn.name == "runtime.NumGoroutine")
    | none => false
  | none => false
theorem enters_run {P : Program} {f : FuncId} (h : enters P f = true) (args : Array Value) (w : World) : (callFunc f args).run P w = .ok (.enter f args) w := by
  unfold enters at h
  split at h
  · rename_i fn hf
    split at h
    · rename_i c hc
      simp only [Bool.not_eq_true', beq_eq_false_iff_ne, ne_eq] at h
      simp only [callFunc, program, bind, Av.run_bind, Sem.run, hf]
      simp [h, hc, pure, Sem.run]
    · cases h
  · cases h

inductive K where
  | q (i : I)
  | alloc (zs : List V)
  | box (x : Od)
  | store (n : Nat) (x v : Od)
  | app (s bytes : Nat) (x y : Od)
  | call (f : FuncId) (xs : List Od)
  | callv (x : Od) (xs : List Od)
  | bsl (s n : Nat) (zs : List V) (ps : List (Nat × Od))
  | mks (s bytes : Nat) (zs : List V) (l c : Od)
  | b2s (x : Od)
  | s2b (x : Od)
  | emp (s : Nat) (x : Od)
  | snil (neg : Bool) (x : Od)
  | mx (x y : Od)
  | callx (f : FuncId) (xs : List Od)
  | callvx (x : Od) (xs : List Od)
  | lkp (kk : Option IntKind) (ok : Bool) (z : V) (x y : Od)
  | mlen (x : Od)
  | ment (x : Od)
  | mkmap
  | mupd (kk : Option IntKind) (x y z : Od)
  | mrange (x : Od)
  | mnext (x : Od)
  | bslx (s n : Nat) (zs : List V) (ps : List (Nat × Od))
  | mkfn (f : FuncId) (xs : List Od)

structure Ins where
  dst : Option Nat
  guard : Option (Nat × Bool)
  k : K

def pt (fr : List LV) : Option Nat → LV → List LV
  | none, _ => fr
  | some d, v => st fr d v

def evL (fr : List LV) : List Od → List LV
  | [] => []
  | x :: r => ev fr x :: evL fr r
def pick : List Nat → List LV → List LV
  | [], _ => []
  | i :: r, xs => get xs i :: pick r xs
def plainO : Obj → Bool
  | .cells cs => match closed cs with
    | some _ => true
    | none => false
  | .row _ _ _ => true
  | .map _ => true
  | _ => false
def plains (O : List Obj) : List Nat → Bool
  | [] => true
  | j :: r => match plainO (og O j) with
    | true => plains O r
    | false => false
mutual
/-- Nothing in it is unknown. -/
def sol : LV → Bool
  | .agg cs => solL cs
  | .iface _ v => sol v
  | .func _ cs => solL cs
  | .tup cs => solL cs
  | .any => false
  | .g _ => true
  | .loc _ _ => true
  | .elt _ _ _ => true
  | .rw _ => true
  | .lsl _ _ _ => true
  | .mp _ => true
def solL : List LV → Bool
  | [] => true
  | c :: cs => match sol c with
    | true => solL cs
    | false => false
end
def fnOf : LV → Option (FuncId × List LV)
  | .g (.func f cap) => match f with
    | .func f => some (f, cap.map .g)
    | _ => none
  | .func f cap => match f with
    | .func f => some (f, cap)
    | _ => none
  | _ => none

section
variable (P : Program) (G : Gl)

abbrev Next' := List LV → List Obj → Prop

/-- A call that leaves the objects that are lent to it as they are, its result one frozen value. -/
def doCall (f : FuncId) (xs : List LV) (dst : Option Nat) (N : Next') (fr : List LV) (O : List Obj) : Prop :=
  ∃ js u, okL O js = true ∧ plains O js = true ∧ solL (unL js O xs) = true ∧ ACalls P G f (unL js O xs) (lendO js js O js) (fun r E => r = .g u ∧ E = lendO js js O js) ∧ N (pt fr dst (.g u)) O
/-- A call: the arguments at the places fs are frozen first; the objects js are lent, those of ps so that their places stay. -/
def doCallx (f : FuncId) (xs : List LV) (dst : Option Nat) (N : Next') (fr : List LV) (O : List Obj) : Prop :=
  ∃ (fs js ps : List Nat) (K : LV → List Obj → Prop), okL (fzL 99 (pick fs xs) O) js = true ∧
    ACalls P G f (unL js (fzL 99 (pick fs xs) O) xs) (lendO js ps (fzL 99 (pick fs xs) O) js) K ∧
    ∀ r E', K r E' → N (pt (killF (turns (fzL 99 (pick fs xs) O) ps js) fr) dst (ren js (fzL 99 (pick fs xs) O).length r)) (backL js (turns (fzL 99 (pick fs xs) O) ps js) (fzL 99 (pick fs xs) O) E')
/-- A call of a function value: its captured values come after the arguments. -/
def doCallv (x : LV) (xs : List LV) (dst : Option Nat) (N : Next') (fr : List LV) (O : List Obj) : Prop :=
  match fnOf x with
  | some (f, cap) => enters P f = true ∧ doCall P G f (xs ++ cap) dst N fr O
  | none => False
def doCallvx (x : LV) (xs : List LV) (dst : Option Nat) (N : Next') (fr : List LV) (O : List Obj) : Prop :=
  match fnOf x with
  | some (f, cap) => enters P f = true ∧ doCallx P G f (xs ++ cap) dst N fr O
  | none => False
def doNext (x : LV) (dst : Option Nat) (N : Next') (fr : List LV) (O : List Obj) : Prop :=
  match x with
  | .loc k off => match og O k with
    | .mit km since seen => match og O km with
      | .map es => off = 0 ∧ es.length = since ∧ (∀ i x, es[i]? = some x → hasB seen i = false → N (pt fr dst (.g (.tup [.bool true, x.1, x.2]))) (os O k (.mit km since (seen ++ [i])))) ∧
          ((∀ i, i < es.length → hasB seen i = true) → N (pt fr dst (.g (.tup [.bool false]))) O)
      | _ => False
    | _ => False
  | _ => False
def evPs (fr : List LV) : List (Nat × Od) → List LV
  | [] => []
  | x :: r => ev fr x.2 :: evPs fr r
/-- The elements of a slice that is written out, those to frozen objects read through. -/
def bslVx (fr : List LV) (O : List Obj) (s : Nat) : List (List V) → List (Nat × Od) → Option (List (List V))
  | es, [] => some es
  | es, (i, x) :: r => match tv O (ev fr x) with
    | some v => match cellsV (.g v) with
      | some ys => match closed ys with
        | some vs => match Nat.beq vs.length s with
          | true => bslVx fr O s (setE es i vs) r
          | false => none
        | none => none
      | none => none
    | none => none
def bslEx (s n : Nat) (zs : List V) (ps : List (Nat × Od)) (fr : List LV) (O : List Obj) : ER :=
  match bslVx fr (fzL 99 (evPs fr ps) O) s (repE zs n) ps with
  | some es => ⟨True, fr, .rw (fzL 99 (evPs fr ps) O).length, fzL 99 (evPs fr ps) O ++ [.row false s es]⟩
  | none => noE
def doE (r : ER) (dst : Option Nat) (N : Next') : Prop := r.ok ∧ N (pt r.fr dst r.v) r.O
def doQ (r : R) (dst : Option Nat) (N : Next') (fr : List LV) (O : List Obj) : Prop := r.ok ∧ N (pt fr dst r.v) O

/-- A slice compared with nil: each answer that may be. -/
def doSnil (neg : Bool) (v : Option (Prop × Prop)) (dst : Option Nat) (N : Next') (fr : List LV) (O : List Obj) : Prop :=
  match v with
  | some (p, q) => (p → N (pt fr dst (tru (ngB neg true))) O) ∧ (q → N (pt fr dst (tru (ngB neg false))) O)
  | none => False

def ex (k : K) (dst : Option Nat) (N : Next') (fr : List LV) (O : List Obj) : Prop :=
  match k with
  | .q i => doQ (q i fr O) dst N fr O
  | .alloc zs => doE (allocE zs fr O) dst N
  | .box x => doE (boxE (ev fr x) fr O) dst N
  | .store n x v => doE (storeE n (ev fr x) (ev fr v) fr O) dst N
  | .app s bytes x y => doE (appE s bytes (ev fr x) (ev fr y) fr O) dst N
  | .call f xs => doCall P G f (evL fr xs) dst N fr O
  | .callv x xs => doCallv P G (ev fr x) (evL fr xs) dst N fr O
  | .callx f xs => doCallx P G f (evL fr xs) dst N fr O
  | .callvx x xs => doCallvx P G (ev fr x) (evL fr xs) dst N fr O
  | .lkp kk ok z x y => doQ (lkpV O kk ok z (ev fr x) (ev fr y)) dst N fr O
  | .mlen x => doQ (mlenV O (ev fr x)) dst N fr O
  | .ment x => doQ (entV O (ev fr x)) dst N fr O
  | .mkmap => doE (mkmapE fr O) dst N
  | .mupd kk x y z => doE (mupdE kk (ev fr x) (ev fr y) (ev fr z) fr O) dst N
  | .mrange x => doE (mrangeE (ev fr x) fr O) dst N
  | .mnext x => doNext (ev fr x) dst N fr O
  | .bslx s n zs ps => doE (bslEx s n zs ps fr O) dst N
  | .mkfn f xs => doQ ⟨True, funN (.func f) (evL fr xs)⟩ dst N fr O
  | .bsl s n zs ps => doE (bslE s n zs ps fr O) dst N
  | .mks s bytes zs l c => doE (mksE s bytes zs (ev fr l) (ev fr c) fr O) dst N
  | .b2s x => doQ (b2sV O (ev fr x)) dst N fr O
  | .s2b x => doE (s2bE (ev fr x) fr O) dst N
  | .emp s x => doE (empE s (ev fr x) fr O) dst N
  | .mx x y => doQ (maxV (ev fr x) (ev fr y)) dst N fr O
  | .snil neg x => doSnil neg (snilV O (ev fr x)) dst N fr O

def und : LV := .g (.x (.tuple #[]))

/-- Is the operation wanted? Its guard's slot tells. -/
def gd (want : Bool) (v : LV) (yes no : Prop) : Prop :=
  match v with
  | .g (.bool b) => match want with
    | true => match b with
      | true => yes
      | false => no
    | false => match b with
      | true => no
      | false => yes
  | .g (.x (.tuple _)) => no
  | _ => False

/-- A guarded instruction, the guard's value known. -/
def gdB (want b : Bool) (k : K) (dst : Option Nat) (N : Next') (fr : List LV) (O : List Obj) : Prop :=
  match want with
  | true => match b with
    | true => ex P G k dst N fr O
    | false => N (pt fr dst und) O
  | false => match b with
    | true => N (pt fr dst und) O
    | false => ex P G k dst N fr O
def gdK (want : Bool) (v : LV) (k : K) (dst : Option Nat) (N : Next') (fr : List LV) (O : List Obj) : Prop :=
  match v with
  | .g (.bool b) => gdB P G want b k dst N fr O
  | .g (.x (.tuple _)) => N (pt fr dst und) O
  | _ => False
theorem gdK_eq {want : Bool} {v : LV} {k : K} {dst : Option Nat} {N : Next'} {fr : List LV} {O : List Obj} : gdK P G want v k dst N fr O = gd want v (ex P G k dst N fr O) (N (pt fr dst und) O) := by
  unfold gdK gd gdB
  split <;> rfl
theorem gdB_tt {k : K} {dst : Option Nat} {N : Next'} {fr : List LV} {O : List Obj} : gdB P G true true k dst N fr O = ex P G k dst N fr O := rfl
theorem gdB_tf {k : K} {dst : Option Nat} {N : Next'} {fr : List LV} {O : List Obj} : gdB P G true false k dst N fr O = N (pt fr dst und) O := rfl
theorem gdB_ft {k : K} {dst : Option Nat} {N : Next'} {fr : List LV} {O : List Obj} : gdB P G false true k dst N fr O = N (pt fr dst und) O := rfl
theorem gdB_ff {k : K} {dst : Option Nat} {N : Next'} {fr : List LV} {O : List Obj} : gdB P G false false k dst N fr O = ex P G k dst N fr O := rfl

def ins (i : Ins) (N : Next') (fr : List LV) (O : List Obj) : Prop :=
  match i with
  | ⟨dst, none, k⟩ => ex P G k dst N fr O
  | ⟨dst, some (s, want), k⟩ => gdK P G want (get fr s) k dst N fr O
theorem ins_some {k : K} {dst : Option Nat} {s : Nat} {want : Bool} {N : Next'} {fr : List LV} {O : List Obj} : ins P G ⟨dst, some (s, want), k⟩ N fr O = gd want (get fr s) (ex P G k dst N fr O) (N (pt fr dst und) O) := gdK_eq P G

def inss : List Ins → Next' → Next'
  | [], N => N
  | i :: l, N => ins P G i (inss l N)
end

end Go.Av

namespace Go.Av
set_option linter.unusedVariables false
set_option linter.unusedSimpArgs false

section
variable (P : Program) (G : Gl)

def c1 {α : Type} (f : Od → α) (x : Operand) : Option α :=
  match compOd G x with
  | some x => some (f x)
  | none => none
def c2 {α : Type} (f : Od → Od → α) (x y : Operand) : Option α :=
  match compOd G x with
  | some x => match compOd G y with
    | some y => some (f x y)
    | none => none
  | none => none
def c3 {α : Type} (f : Od → Od → Od → α) (x y z : Operand) : Option α :=
  match compOd G x with
  | some x => match compOd G y with
    | some y => match compOd G z with
      | some z => some (f x y z)
      | none => none
    | none => none
  | none => none
def cOpt (x : Option Operand) : Option (Option Od) :=
  match x with
  | none => some none
  | some y => (compOd G y).map some

def isNil : NK → Value → Bool
  | .iface, .nilIface => true
  | .ptr, .pointer none => true
  | .map, .map none => true
  | .func, .nilFunc => true
  | _, _ => false
theorem isNil_eq : ∀ {c : NK} {v : Value}, isNil c v = true → v = c.nil := by
  intro c v h
  unfold isNil at h
  split at h <;> first | rfl | cases h

def eqOp : BinOp → Option Bool
  | .eql => some false
  | .neq => some true
  | _ => none
theorem eqOp_eq {op : BinOp} {n : Bool} (h : eqOp op = some n) : (op = .eql ∨ op = .neq) ∧ n = (op == .neq) := by
  cases op <;> simp [eqOp] at h <;> subst h <;> simp <;> decide

def compBin (wr : IntKind → Bool) (op : BinOp) (t : TypeId) (x y : Operand) : Option I :=
  match P.underlying t with
  | some (.int k) => c2 G (.bin op (wr k)) x y
  | some .string => c2 G (.bin op false) x y
  | some .bool => match eqOp op with
    | some n => c2 G (.beq n) x y
    | none => none
  | some d => match NK.of d with
    | some c => match eqOp op with
      | some n => match y with
        | .const v => match isNil c v with
          | true => c1 G (.isnil c n) x
          | false => none
        | _ => none
      | none => none
    | none => none
  | none => none

def compUn (wr : IntKind → Bool) (op : UnOp) (t : TypeId) (x : Operand) : Option I :=
  match op with
  | .not => c1 G .not x
  | .neg => match P.underlying t with
    | some (.int k) => c1 G (.neg (wr k)) x
    | _ => none
  | _ => none
def compConv (wr : IntKind → Bool) (t u : TypeId) (x : Operand) : Option I :=
  match P.underlying t with
  | some (.int _) => match P.underlying u with
    | some (.int k) => c1 G (.conv k (wr k)) x
    | _ => none
  | _ => none
def isIf : TypeDesc → Bool
  | .interface _ => true
  | _ => false
def compMkif (t : TypeId) (x : Operand) : Option I :=
  match P.underlying t with
  | some d => match isIf d with
    | false => c1 G (.mkif t) x
    | true => none
  | none => none
def compTas (t : TypeId) (c : Bool) (x : Operand) : Option I :=
  match P.underlying t with
  | some d => match isIf d with
    | false => match P.info? t with
      | some inf => match inf.zero with
        | some z => c1 G (.tas t c (ofV z)) x
        | none => none
      | none => none
    | true => none
  | none => none
def compLoad (t : TypeId) (x : Operand) : Option I :=
  match loadN P t with
  | some n => c1 G (.load n) x
  | none => none
def fieldOf (t : TypeId) (j : Nat) : Option Field :=
  match P.underlying t with
  | some (.struct fs) => fs[j]?
  | _ => none
def compFa (t : TypeId) (j : Nat) (x : Operand) : Option I :=
  match fieldOf P t j with
  | some f => match P.info? f.type with
    | some inf => match inf.size with
      | 0 => none
      | _ + 1 => c1 G (.fa f.offset) x
    | none => none
  | none => none
def compFld (t : TypeId) (j : Nat) (x : Operand) : Option I :=
  match fieldOf P t j with
  | some f => match loadN P f.type with
    | some n => c1 G (.fld f.offset n) x
    | none => none
  | none => none
def compIdx (t : TypeId) (x i : Operand) : Option I :=
  match P.underlying t with
  | some (.array len el) => match P.info? el with
    | some inf => match loadN P el with
      | some n => c2 G (.idx len inf.size n) x i
      | none => none
    | none => none
  | some .string => c2 G .istr x i
  | _ => none
def compIa (t : TypeId) (x i : Operand) : Option I :=
  match P.underlying t with
  | some (.array len el) => match P.info? el with
    | some inf => c2 G (.iarr len inf.size) x i
    | none => none
  | some (.slice el) => match P.info? el with
    | some inf => c2 G (.ia inf.size) x i
    | none => none
  | _ => none
def compLen (t : TypeId) (x : Operand) : Option I :=
  match P.underlying t with
  | some (.slice _) => c1 G .len x
  | some .string => c1 G .slen x
  | _ => none
def compSlc (t : TypeId) (x : Operand) (lo hi : Option Operand) : Option I :=
  match compOd G x with
  | some x => match cOpt G lo with
    | some lo => match cOpt G hi with
      | some hi => match P.underlying t with
        | some (.slice el) => match P.info? el with
          | some inf => some (.slc inf.size x lo hi)
          | none => none
        | some .string => some (.sslc x lo hi)
        | _ => none
      | none => none
    | none => none
  | none => none
def fieldPlaces : List Field → Option (List (Nat × Nat))
  | [] => some []
  | f :: r => match P.info? f.type with
    | some inf => match fieldPlaces r with
      | some l => some ((f.offset, inf.size) :: l)
      | none => none
    | none => none
def compBuild (t : TypeId) (ps : Array (Nat × Operand)) : Option I :=
  match P.underlying t with
  | some (.struct fs) => match P.info? t with
    | some inf => match inf.zero with
      | some (.agg z) => match fieldPlaces P fs.toList with
        | some szs => match compParts G (szs.toArray[·]?) ps.toList with
          | some ps' => some (.build (z.toList.map ofC) ps')
          | none => none
        | none => none
      | _ => none
    | none => none
  | _ => none

def compI (wr : IntKind → Bool) (o : Oper) : Option I :=
  match o.op with
  | .move x => c1 G .mov x
  | .assign x => c1 G .mov x
  | .pick c a b => c3 G .pick c a b
  | .binOp op t x y _ => compBin P G wr op t x y
  | .unOp op t x => compUn P G wr op t x
  | .convert t u x => compConv P G wr t u x
  | .makeInterface t x => compMkif P G t x
  | .typeAssert x _ t c => compTas P G t c x
  | .extract x i => c1 G (.ext i) x
  | .load t x => compLoad P G t x
  | .fieldAddr t x j => compFa P G t j x
  | .field t x j => compFld P G t j x
  | .index t x i => compIdx P G t x i
  | .indexAddr t x i => compIa P G t x i
  | .nilCheck x => c1 G .nilck x
  | .slice t x lo hi none => compSlc P G t x lo hi
  | .build t ps => compBuild P G t ps
  | .call { callee := .builtin .len, args := ⟨[x]⟩, argTypes := ⟨[t]⟩ } => compLen P G t x
  | _ => none

def SndQ (o : Oper) (i : I) : Prop :=
  ∀ {F : Fz} {σ : List Pl} {O : List Obj} {w : World} {fr : List LV} {a : Act}, St G F σ O w → LRepL F σ fr a.tmps.toList → (q i fr O).ok → Gives P F σ w a o (q i fr O).v
end

section
variable {P : Program} {G : Gl} {wr : IntKind → Bool} {o : Oper} {i : I}

theorem c1_some {α : Type} {f : Od → α} {x : Operand} {r : α} (h : c1 G f x = some r) : ∃ x', compOd G x = some x' ∧ r = f x' := by
  unfold c1 at h; split at h
  · rename_i x' hx; exact ⟨x', hx, (Option.some.inj h).symm⟩
  · cases h
theorem c2_some {α : Type} {f : Od → Od → α} {x y : Operand} {r : α} (h : c2 G f x y = some r) : ∃ x' y', compOd G x = some x' ∧ compOd G y = some y' ∧ r = f x' y' := by
  unfold c2 at h; (repeat' split at h) <;> first | cases h; done | skip
  rename_i x' hx _ y' hy; exact ⟨x', y', hx, hy, (Option.some.inj h).symm⟩
theorem c3_some {α : Type} {f : Od → Od → Od → α} {x y z : Operand} {r : α} (h : c3 G f x y z = some r) : ∃ x' y' z', compOd G x = some x' ∧ compOd G y = some y' ∧ compOd G z = some z' ∧ r = f x' y' z' := by
  unfold c3 at h; (repeat' split at h) <;> first | cases h; done | skip
  rename_i x' hx _ y' hy _ z' hz; exact ⟨x', y', z', hx, hy, hz, (Option.some.inj h).symm⟩

theorem compBin_sound {op : BinOp} {t t' : TypeId} {x y : Operand} (ho : o.op = .binOp op t x y t') (h : compBin P G wr op t x y = some i) : SndQ P G o i := by
  intro F σ O w fr a hs hf hok
  unfold compBin at h
  split at h
  · obtain ⟨x', y', hx, hy, rfl⟩ := c2_some h
    exact bin_sound hs hf hx hy ho hok
  · obtain ⟨x', y', hx, hy, rfl⟩ := c2_some h
    exact bin_sound hs hf hx hy ho hok
  · rename_i ht
    split at h
    · rename_i n hn
      obtain ⟨hop, rfl⟩ := eqOp_eq hn
      obtain ⟨x', y', hx, hy, rfl⟩ := c2_some h
      exact beq_sound hs hf hx hy ht hop ho hok
    · cases h
  · rename_i d _ _ _ ht
    split at h
    · rename_i c hc
      split at h
      · rename_i n hn
        obtain ⟨hop, rfl⟩ := eqOp_eq hn
        split at h
        · split at h
          · rename_i v hv
            obtain rfl := isNil_eq hv
            obtain ⟨x', hx, rfl⟩ := c1_some h
            exact nil_sound hs hf hx hop ht hc ho hok
          · cases h
        · cases h
      · cases h
    · cases h
  · cases h

theorem compUn_sound {op : UnOp} {t : TypeId} {x : Operand} (ho : o.op = .unOp op t x) (h : compUn P G wr op t x = some i) : SndQ P G o i := by
  intro F σ O w fr a hs hf hok
  unfold compUn at h
  split at h
  · obtain ⟨x', hx, rfl⟩ := c1_some h
    exact not_sound hs hf hx ho hok
  · split at h
    · obtain ⟨x', hx, rfl⟩ := c1_some h
      exact neg_sound hs hf hx ho hok
    · cases h
  · cases h
theorem compConv_sound {t u : TypeId} {x : Operand} (ho : o.op = .convert t u x) (h : compConv P G wr t u x = some i) : SndQ P G o i := by
  intro F σ O w fr a hs hf hok
  unfold compConv at h
  split at h
  · rename_i ht
    split at h
    · rename_i hu
      obtain ⟨x', hx, rfl⟩ := c1_some h
      exact conv_sound hs hf hx ht hu ho hok
    · cases h
  · cases h
theorem isIf_not {d : TypeDesc} (h : isIf d = false) : ∀ ms, d ≠ .interface ms := by
  rintro ms rfl; cases h
theorem compMkif_sound {t : TypeId} {x : Operand} (ho : o.op = .makeInterface t x) (h : compMkif P G t x = some i) : SndQ P G o i := by
  intro F σ O w fr a hs hf hok
  unfold compMkif at h
  split at h
  · rename_i d ht
    split at h
    · rename_i hd
      obtain ⟨x', hx, rfl⟩ := c1_some h
      refine mkif_sound hs hf hx (fun d' hd' => ?_) (by rw [ht]; rfl) ho hok
      rw [ht] at hd'; obtain rfl := Option.some.inj hd'; exact isIf_not hd
    · cases h
  · cases h
theorem compTas_sound {t u : TypeId} {c : Bool} {x : Operand} (ho : o.op = .typeAssert x u t c) (h : compTas P G t c x = some i) : SndQ P G o i := by
  intro F σ O w fr a hs hf hok
  unfold compTas at h
  split at h
  · rename_i d ht
    split at h
    · rename_i hd
      split at h
      · rename_i inf hi
        split at h
        · rename_i z hz
          obtain ⟨x', hx, rfl⟩ := c1_some h
          exact tas_sound hs hf hx ht (isIf_not hd) (by rw [hi]; simp [hz]) ho hok
        · cases h
      · cases h
    · cases h
  · cases h
theorem compLoad_sound {t : TypeId} {x : Operand} (ho : o.op = .load t x) (h : compLoad P G t x = some i) : SndQ P G o i := by
  intro F σ O w fr a hs hf hok
  unfold compLoad at h
  split at h
  · rename_i n hn
    obtain ⟨x', hx, rfl⟩ := c1_some h
    exact load_sound hs hf hx hn ho hok
  · cases h
theorem fieldOf_some {t : TypeId} {j : Nat} {f : Field} (h : fieldOf P t j = some f) : ∃ fs, P.underlying t = some (.struct fs) ∧ fs[j]? = some f := by
  unfold fieldOf at h
  split at h
  · rename_i fs ht; exact ⟨fs, ht, h⟩
  · cases h
theorem compFa_sound {t : TypeId} {j : Nat} {x : Operand} (ho : o.op = .fieldAddr t x j) (h : compFa P G t j x = some i) : SndQ P G o i := by
  intro F σ O w fr a hs hf hok
  unfold compFa at h
  split at h
  · rename_i f hf'
    obtain ⟨fs, ht, hj⟩ := fieldOf_some hf'
    split at h
    · rename_i inf hi
      split at h
      · cases h
      · rename_i n hn
        obtain ⟨x', hx, rfl⟩ := c1_some h
        exact fa_sound hs hf hx ht hj hi (by omega) ho hok
    · cases h
  · cases h
theorem compFld_sound {t : TypeId} {j : Nat} {x : Operand} (ho : o.op = .field t x j) (h : compFld P G t j x = some i) : SndQ P G o i := by
  intro F σ O w fr a hs hf hok
  unfold compFld at h
  split at h
  · rename_i f hf'
    obtain ⟨fs, ht, hj⟩ := fieldOf_some hf'
    split at h
    · rename_i n hn
      obtain ⟨x', hx, rfl⟩ := c1_some h
      exact fld_sound hs hf hx ht hj hn ho hok
    · cases h
  · cases h
theorem compIdx_sound {t : TypeId} {x j : Operand} (ho : o.op = .index t x j) (h : compIdx P G t x j = some i) : SndQ P G o i := by
  intro F σ O w fr a hs hf hok
  unfold compIdx at h
  split at h
  · rename_i len el ht
    split at h
    · rename_i inf hi
      split at h
      · rename_i n hn
        obtain ⟨x', y', hx, hy, rfl⟩ := c2_some h
        exact idx_sound hs hf hx hy ht hi hn ho hok
      · cases h
    · cases h
  · rename_i ht
    obtain ⟨x', y', hx, hy, rfl⟩ := c2_some h
    exact istr_sound hs hf hx hy ht ho hok
  · cases h
theorem compIa_sound {t : TypeId} {x j : Operand} (ho : o.op = .indexAddr t x j) (h : compIa P G t x j = some i) : SndQ P G o i := by
  intro F σ O w fr a hs hf hok
  unfold compIa at h
  split at h
  · rename_i len el ht
    split at h
    · rename_i inf hi
      obtain ⟨x', y', hx, hy, rfl⟩ := c2_some h
      exact iarr_sound hs hf hx hy ht hi ho hok
    · cases h
  · rename_i el ht
    split at h
    · rename_i inf hi
      obtain ⟨x', y', hx, hy, rfl⟩ := c2_some h
      exact ia_sound hs hf hx hy ht hi ho hok
    · cases h
  · cases h
theorem compLen_sound {t : TypeId} {x : Operand} (ho : o.op = .call { callee := .builtin .len, args := #[x], argTypes := #[t] }) (h : compLen P G t x = some i) : SndQ P G o i := by
  intro F σ O w fr a hs hf hok
  unfold compLen at h
  split at h
  · rename_i ht
    obtain ⟨x', hx, rfl⟩ := c1_some h
    exact len_sound hs hf hx ht ho hok
  · rename_i ht
    obtain ⟨x', hx, rfl⟩ := c1_some h
    exact slen_sound hs hf hx ht ho hok
  · cases h
theorem compSlc_sound {t : TypeId} {x : Operand} {lo hi : Option Operand} (ho : o.op = .slice t x lo hi none) (h : compSlc P G t x lo hi = some i) : SndQ P G o i := by
  intro F σ O w fr a hs hf hok
  unfold compSlc at h
  split at h
  · rename_i x' hx
    split at h
    · rename_i lo' hlo
      split at h
      · rename_i hi' hhi
        split at h
        · rename_i el ht
          split at h
          · rename_i inf hel
            obtain rfl := Option.some.inj h
            exact slc_sound hs hf hx (by cases lo <;> exact hlo) (by cases hi <;> exact hhi) ht hel ho hok
          · cases h
        · rename_i ht
          obtain rfl := Option.some.inj h
          exact sslc_sound hs hf hx (by cases lo <;> exact hlo) (by cases hi <;> exact hhi) ht ho hok
        · cases h
      · cases h
    · cases h
  · cases h

theorem run_places : ∀ {fs : List Field} {l : List (Nat × Nat)}, fieldPlaces P fs = some l → ∀ w, (fs.mapM fun f => do pure (f.offset, ← sizeOf f.type) : Sem _).run P w = .ok l w
  | [], l, h, w => by
    simp only [fieldPlaces, Option.some.injEq] at h; subst h; rfl
  | f :: fs, l, h, w => by
    simp only [fieldPlaces] at h
    split at h
    · rename_i inf hi
      split at h
      · rename_i l' hl
        obtain rfl := Option.some.inj h
        have := run_places hl w
        simp only [List.mapM_cons, bind, Av.run_bind, run_size hi, pure, Sem.run] at this ⊢
        rw [this]
      · cases h
    · cases h
theorem compBuild_sound {t : TypeId} {ps : Array (Nat × Operand)} (ho : o.op = .build t ps) (h : compBuild P G t ps = some i) : SndQ P G o i := by
  intro F σ O w fr a hs hf hok
  unfold compBuild at h
  split at h
  · rename_i fs ht
    split at h
    · rename_i inf hi
      split at h
      · rename_i z hz
        split at h
        · rename_i szs hszs
          split at h
          · rename_i ps' hps
            obtain rfl := Option.some.inj h
            refine build_sound (szs := szs.toArray) hs hf ht hi hz (fun w => ?_) hps ho hok
            rw [Array.mapM_eq_mapM_toList, Sem.run_map, run_places hszs w]; rfl
          · cases h
        · cases h
      · cases h
    · cases h
  · cases h

theorem compI_sound (h : compI P G wr o = some i) : SndQ P G o i := by
  unfold compI at h
  split at h
  case h_1 x ho => obtain ⟨x', hx, rfl⟩ := c1_some h; exact fun hs hf _ => mov_sound hs hf hx (.inl ho)
  case h_2 x ho => obtain ⟨x', hx, rfl⟩ := c1_some h; exact fun hs hf _ => mov_sound hs hf hx (.inr ho)
  case h_3 ho => obtain ⟨x', y', z', hx, hy, hz, rfl⟩ := c3_some h; exact fun hs hf hok => pick_sound hs hf hx hy hz ho hok
  case h_4 ho => exact compBin_sound ho h
  case h_5 ho => exact compUn_sound ho h
  case h_6 ho => exact compConv_sound ho h
  case h_7 ho => exact compMkif_sound ho h
  case h_8 ho => exact compTas_sound ho h
  case h_9 ho => obtain ⟨x', hx, rfl⟩ := c1_some h; exact fun hs hf hok => ext_sound hs hf hx ho hok
  case h_10 ho => exact compLoad_sound ho h
  case h_11 ho => exact compFa_sound ho h
  case h_12 ho => exact compFld_sound ho h
  case h_13 ho => exact compIdx_sound ho h
  case h_14 ho => exact compIa_sound ho h
  case h_15 ho => obtain ⟨x', hx, rfl⟩ := c1_some h; exact fun hs hf hok => nilck_sound hs hf hx ho hok
  case h_16 ho => exact compSlc_sound ho h
  case h_17 ho => exact compBuild_sound ho h
  case h_18 ho => exact compLen_sound ho h
  case h_19 => cases h
end
end Go.Av

namespace Go.Av
set_option linter.unusedVariables false
set_option linter.unusedSimpArgs false

section
variable (P : Program) (G : Gl)

def compOds : List Operand → Option (List Od)
  | [] => some []
  | x :: r => match compOd G x with
    | some x => match compOds r with
      | some r => some (x :: r)
      | none => none
    | none => none
def isCall : Oper → Option (Operand × Array Operand)
  | { op := .call { callee := .value x, args, .. }, .. } => some (x, args)
  | _ => none

def compApp (sT xT : TypeId) (x y : Operand) : Option K :=
  match P.underlying sT with
  | some (.slice el) => match P.info? el with
    | some inf => match inf.zero with
      | some z => match Nat.beq z.cells.size inf.size with
        | true => match srcT P xT with
          | true => c2 G (.app inf.size inf.bytes) x y
          | false => none
        | false => none
      | none => none
    | none => none
  | _ => none
def compCall (dr : Bool) (x : Operand) (args : Array Operand) : Option K :=
  match compOds G args.toList with
  | some xs => match x with
    | .func f => match enters P f with
      | true => match dr with
        | true => some (.call f xs)
        | false => some (.callx f xs)
      | false => none
    | x => match dr with
      | true => c1 G (.callv · xs) x
      | false => c1 G (.callvx · xs) x
  | none => none
def compAlloc (el : TypeId) : Option K :=
  match P.info? el with
  | some inf => match inf.zero with
    | some z => some (.alloc (z.cells.toList.map ofC))
    | none => none
  | none => none
def compStore (t : TypeId) (x v : Operand) : Option K :=
  match P.info? t with
  | some inf => c2 G (.store inf.size) x v
  | none => none
def compPs (n : Nat) : List (Nat × Operand) → Option (List (Nat × Od))
  | [] => some []
  | (i, x) :: r => match Nat.blt i n with
    | true => match compOd G x with
      | some x => match compPs n r with
        | some r => some ((i, x) :: r)
        | none => none
      | none => none
    | false => none
/-- A slice type's element: its size, its bytes, its zero cells. -/
def elemOf (t : TypeId) : Option (Nat × Nat × List V) :=
  match P.underlying t with
  | some (.slice el) => match P.info? el with
    | some inf => match inf.zero with
      | some z => match Nat.beq z.cells.size inf.size with
        | true => match allOneV (z.cells.toList.map ofC) with
          | true => some (inf.size, inf.bytes, z.cells.toList.map ofC)
          | false => none
        | false => none
      | none => none
    | none => none
  | _ => none
def compBsl (dr : Bool) (t : TypeId) (n : Nat) (ps : Array (Nat × Operand)) : Option K :=
  match elemOf P t with
  | some (s, _, zs) => match Nat.ble (n * s) 16777216 with
    | true => match Nat.ble n 9223372036854775807 with
      | true => match compPs G n ps.toList with
        | some ps' => match dr with
          | true => some (.bsl s n zs ps')
          | false => some (.bslx s n zs ps')
        | none => none
      | false => none
    | false => none
  | none => none
def compMks (t : TypeId) (l c : Operand) : Option K :=
  match elemOf P t with
  | some (s, b, zs) => c2 G (.mks s b zs) l c
  | none => none
def isU8s (t : TypeId) : Bool :=
  match P.underlying t with
  | some (.slice el) => match P.underlying el with
    | some (.int .u8) => true
    | _ => false
  | _ => false
def isStr (t : TypeId) : Bool :=
  match P.underlying t with
  | some .string => true
  | _ => false
def compCv (wr : IntKind → Bool) (t u : TypeId) (x : Operand) : Option K :=
  match isU8s P t && isStr P u with
  | true => c1 G .b2s x
  | false => match isStr P t && isU8s P u with
    | true => c1 G .s2b x
    | false => match compConv P G wr t u x with
      | some i => some (.q i)
      | none => none
def compEmp (t : TypeId) (x : Operand) : Option K :=
  match P.underlying t with
  | some (.slice el) => match P.info? el with
    | some inf => c1 G (.emp inf.size) x
    | none => none
  | _ => none
def isNilSl : Operand → Bool
  | .const (.slice none 0 0) => true
  | _ => false
theorem isNilSl_eq {y : Operand} (h : isNilSl y = true) : y = .const (.slice none 0 0) := by
  unfold isNilSl at h
  split at h
  · rfl
  · cases h
def compB (wr : IntKind → Bool) (op : BinOp) (t : TypeId) (x y : Operand) : Option K :=
  match P.underlying t with
  | some (.slice _) => match eqOp op with
    | some n => match isNilSl y with
      | true => c1 G (.snil n) x
      | false => none
    | none => none
  | _ => match compBin P G wr op t x y with
    | some i => some (.q i)
    | none => none
def compLkp (t : TypeId) (x y : Operand) (ok : Bool) : Option K :=
  match P.underlying t with
  | some (.map kT eT) => match kindOf P kT with
    | some kk => match P.info? eT with
      | some inf => match inf.zero with
        | some z => c2 G (.lkp kk ok (ofV z)) x y
        | none => none
      | none => none
    | none => none
  | _ => none
def compMupd (t : TypeId) (x y z : Operand) : Option K :=
  match P.underlying t with
  | some (.map kT _) => match kindOf P kT with
    | some kk => c3 G (.mupd kk) x y z
    | none => none
  | _ => none
def isMap (t : TypeId) : Bool :=
  match P.underlying t with
  | some (.map _ _) => true
  | _ => false
def compLenK (wr : IntKind → Bool) (t : TypeId) (x : Operand) (o : Oper) : Option K :=
  match isMap P t with
  | true => c1 G .mlen x
  | false => match compI P G wr o with
    | some i => some (.q i)
    | none => none
def compRange (t : TypeId) (x : Operand) : Option K :=
  match isMap P t with
  | true => c1 G .mrange x
  | false => none
def compFn (f : FuncId) (xs : List Operand) : Option K :=
  match compOds G xs with
  | some xs => some (.mkfn f xs)
  | none => none
def compK (wr : IntKind → Bool) (dr : Bool) (o : Oper) : Option K :=
  match o.op with
  | .alloc el => compAlloc P el
  | .box el x => c1 G .box x
  | .store t x v => compStore P G t x v
  | .call { callee := .builtin .append, args := ⟨[x, y]⟩, argTypes := ⟨[sT, xT]⟩ } => compApp P G sT xT x y
  | .call { callee := .value x, args, .. } => compCall P G dr x args
  | .lookup t x y ok => compLkp P G t x y ok
  | .makeMap _ none => some .mkmap
  | .mapUpdate t x y z => compMupd P G t x y z
  | .insert t x y z => compMupd P G t x y z
  | .range t x => compRange P G t x
  | .next x false => c1 G .mnext x
  | .entry x => c1 G .ment x
  | .makeFunc (.func f) ⟨[]⟩ cap => compFn G f cap.toList
  | .call { callee := .builtin .len, args := ⟨[x]⟩, argTypes := ⟨[t]⟩ } => compLenK P G wr t x o
  | .buildSlice t n ps => compBsl P G dr t n ps
  | .makeSlice t l c => compMks P G t l c
  | .convert t u x => compCv P G wr t u x
  | .slice t x none (some (.const (.int _ 0))) (some (.const (.int _ 0))) => compEmp P G t x
  | .binOp op t x y _ => compB P G wr op t x y
  | .call { callee := .builtin .max, args := ⟨[x, y]⟩, .. } => c2 G .mx x y
  | _ => match compI P G wr o with
    | some i => some (.q i)
    | none => none

/-- What goes on after a step. -/
def Good (N : Next') (F : Fz) (σ : List Pl) (w : World) (a' : Act) (w' : World) : Prop :=
  ∃ fr' O' F' σ', N fr' O' ∧ LRepL F' σ' fr' a'.tmps.toList ∧ a'.defers = [] ∧ St G F' σ' O' w' ∧ Step F σ w F' σ' w'

def SndK (o : Oper) (k : K) : Prop :=
  ∀ {N : Next'} {Q : Exit → Act → World → Prop} {F : Fz} {σ : List Pl} {O : List Obj} {w : World} {fr : List LV} {a : Act},
    St G F σ O w → LRepL F σ fr a.tmps.toList → a.defers = [] → ex P G k o.dst N fr O → o.wp P a w (Good G N F σ w) Q
end

section
variable {P : Program} {G : Gl} {wr : IntKind → Bool} {o : Oper} {i : I} {k : K} {F : Fz} {σ : List Pl} {O : List Obj} {w : World} {fr : List LV} {a : Act} {N : Next'}

theorem pt_rep (h : LRepL F σ fr a.tmps.toList) {v : LV} {y : Value} (hv : LRep F σ v y) : ∀ d : Option Nat, LRepL F σ (pt fr d v) (a.put d y).tmps.toList
  | none => h
  | some d => by
    simp only [pt, st_eq, Act.put, Array.toList_setIfInBounds]
    exact h.set hv
theorem put_defers (a : Act) (d : Option Nat) (y : Value) : (a.put d y).defers = a.defers := by cases d <;> rfl

theorem sndK_q (h : SndQ P G o i) : SndK P G o (.q i) := by
  intro N Q F σ O w fr a hs hf hd ⟨hok, hN⟩
  obtain ⟨y, hy, hr⟩ := h hs hf hok
  show Oper.upon P o a _ Q _
  rw [hy]
  exact ⟨_, _, F, σ, hN, pt_rep hf hr _, (put_defers _ _ _).trans hd, hs, .refl F σ w⟩

theorem sndK_e {r : ER} {Q : Exit → Act → World → Prop} (h : GivesE P G F σ w a o r) (hd : a.defers = []) (hN : N (pt r.fr o.dst r.v) r.O) : o.wp P a w (Good G N F σ w) Q := by
  obtain ⟨y, w', F', σ', hy, hr, hf, hs, st⟩ := h
  show Oper.upon P o a _ Q _
  rcases hy with hy | ⟨hy, rfl⟩ <;> rw [hy] <;> exact ⟨_, _, F', σ', hN, pt_rep hf hr _, (put_defers _ _ _).trans hd, hs, st⟩

theorem evL_sound (hs : St G F σ O w) (hf : LRepL F σ fr a.tmps.toList) : ∀ {xs : List Operand} {xs' : List Od}, compOds G xs = some xs' → LRepL F σ (evL fr xs') (xs.map a.eval)
  | [], xs', h => by
    simp only [compOds, Option.some.injEq] at h; subst h; rfl
  | x :: xs, xs', h => by
    simp only [compOds] at h
    split at h
    · rename_i x1 hx
      split at h
      · rename_i r hr
        obtain rfl := Option.some.inj h
        exact ⟨_, _, rfl, ev_sound hs hf hx, evL_sound hs hf hr⟩
      · cases h
    · cases h

theorem RepL.app : ∀ {vs us : List V} {ys zs : List Value}, RepL F vs ys → RepL F us zs → RepL F (vs ++ us) (ys ++ zs)
  | [], us, ys, zs, h, h' => by simp only [RepL] at h; subst h; exact h'
  | v :: vs, us, ys, zs, h, h' => by obtain ⟨y, r, rfl, h1, h2⟩ := h; exact ⟨y, _, rfl, h1, RepL.app h2 h'⟩

theorem LRepL.app : ∀ {vs us : List LV} {ys zs : List Value}, LRepL F σ vs ys → LRepL F σ us zs → LRepL F σ (vs ++ us) (ys ++ zs)
  | [], us, ys, zs, h, h' => by simp only [LRepL] at h; subst h; exact h'
  | v :: vs, us, ys, zs, h, h' => by obtain ⟨y, r, rfl, h1, h2⟩ := h; exact ⟨y, _, rfl, h1, LRepL.app h2 h'⟩
theorem pick_rep {xs : List LV} {ys : List Value} (h : LRepL F σ xs ys) : ∀ fs : List Nat, ∃ zs, LRepL F σ (pick fs xs) zs
  | [] => ⟨[], rfl⟩
  | i :: r => by
    obtain ⟨zs, hz⟩ := pick_rep h r
    have : ∃ y, LRep F σ (get xs i) y := by
      rw [get_eq, List.getD_eq_getElem?_getD]
      cases hg : xs[i]? with
      | none => exact ⟨undef, trivial⟩
      | some x => obtain ⟨y, _, hy⟩ := h.get hg; exact ⟨y, hy⟩
    obtain ⟨y, hy⟩ := this
    exact ⟨y :: zs, y, zs, rfl, hy, hz⟩
theorem Good.pre {F1 : Fz} {σ1 : List Pl} {w1 : World} {a' : Act} {w' : World} (st : Step F σ w F1 σ1 w1) (h : Good G N F1 σ1 w1 a' w') : Good G N F σ w a' w' := by
  obtain ⟨fr', O', F', σ', q, hf, hd, hs, st'⟩ := h
  exact ⟨fr', O', F', σ', q, hf, hd, hs, st.trans st'⟩

/-- A call with objects lent. -/
theorem acall_go {f : FuncId} {xs : List LV} {args : Array Value} {js ps : List Nat} {Kc : LV → List Obj → Prop} {dst : Option Nat} {Q : Exit → Act → World → Prop} (hs : St G F σ O w) (hf : LRepL F σ fr a.tmps.toList) (hd : a.defers = [])
    (hl : okL O js = true) (ha : LRepL F σ xs args.toList) (hc : ACalls P G f (unL js O xs) (lendO js ps O js) Kc)
    (hN : ∀ r E', Kc r E' → N (pt (killF (turns O ps js) fr) dst (ren js O.length r)) (backL js (turns O ps js) O E')) :
    Calls P f args w fun
      | .returned v, w'' => Good G N F σ w (a.put dst v) w''
      | .panicked chain, w'' => Q (.panic chain) a w''
      | .outgrown, _ => LetsOut Q := by
  refine (hc F (lendP ps σ js) w args (hs.lend hl) (unL_rep hs (lend_same hl hs) ha)).mono ?_
  rintro e w' ⟨v, r, E', F', σ', rfl, hK, hr, hs', st⟩
  obtain ⟨h1, h2⟩ := St.back hl hs hs' st
  have hlen : js.length ≤ σ'.length := by have := st.len; rwa [lendP_length] at this
  exact ⟨_, _, F', backP js σ σ', hN r E' hK, pt_rep (killF_rep (back_keep hl hs st) (hf.mono st.le (fun _ _ h => h))) (ren_rep (back_ren hl hs hlen) hr) _, (put_defers _ _ _).trans hd, h1, h2⟩

theorem turns_self : ∀ {ps js : List Nat}, (∀ j ∈ js, j ∈ ps) → turns O ps js = []
  | ps, [], _ => rfl
  | ps, j :: js, h => by
    simp only [turns, hasB_iff.2 (h j (by simp))]
    have := turns_self (ps := ps) (js := js) fun k hk => h k (by simp [hk])
    rw [this]
    (repeat' split) <;> rfl
theorem closed_ren {js : List Nat} {n : Nat} : ∀ {cs : List LV} {vs : List V}, closed cs = some vs → renL js n (unL js O cs) = cs := by
  intro cs vs h
  obtain rfl := closed_map h
  clear h
  induction vs with
  | nil => rfl
  | cons v vs ih => simp only [List.map_cons, unL, renL, un, ren, ih]
theorem plain_back {js : List Nat} {o : Obj} {n : Nat} (h : plainO o = true) (hl : o.live = true) : backO o (renO js n (unO js O true o)) = o := by
  cases o <;> first | (cases h; done) | skip
  case cells cs =>
    simp only [plainO] at h
    split at h
    · rename_i vs hvs; simp only [unO, renO, backO, closed_ren hvs]
    · cases h
  case row pn s es => rfl
  case map es => rfl
theorem plains_mem : ∀ {js : List Nat}, plains O js = true → ∀ j ∈ js, plainO (og O j) = true
  | [], _, j, h => by simp at h
  | k :: js, hp, j, h => by
    simp only [plains] at hp
    split at hp
    · rename_i hk
      rcases List.mem_cons.1 h with rfl | h
      · exact hk
      · exact plains_mem hp j h
    · cases hp
/-- What was lent and came back as it was. -/
theorem back_same {js : List Nat} (hl : okL O js = true) (hp : plains O js = true) : backL js [] O (lendO js js O js) = O := by
  obtain ⟨hnd, hlive⟩ := okL_nodup hl
  have hE : (renLO js O.length (lendO js js O js)).length = js.length := by rw [renLO_length, lendO_length]
  unfold backL killFO
  rw [dr_eq, List.drop_of_length_le (by omega), List.append_nil]
  apply List.ext_getElem?
  intro k
  by_cases hk : k ∈ js
  · obtain ⟨i, hi⟩ := List.mem_iff_getElem?.1 hk
    obtain ⟨o, h1, h2, h3⟩ := liveAt_get (hlive k hk)
    have hg : (lendO js js O js)[i]? = some (unO js O (hasB js k) (og O k)) := lendO_get.2 ⟨k, hi, rfl⟩
    rw [hasB_iff.2 hk] at hg
    have hr : (renLO js O.length (lendO js js O js))[i]? = some (renO js O.length (unO js O true (og O k))) := by rw [renLO_get, hg]; rfl
    rw [setAll_at hnd hi hr h1, h1, h2]
    congr 1
    have := plains_mem hp k hk
    rw [h2] at this
    exact plain_back this h3
  · rw [setAll_not hk]

theorem det_go {f : FuncId} {xs : List LV} {args : Array Value} {dst : Option Nat} {Q : Exit → Act → World → Prop} (hs : St G F σ O w) (hf : LRepL F σ fr a.tmps.toList) (hd : a.defers = [])
    (ha : LRepL F σ xs args.toList) (h : doCall P G f xs dst N fr O) :
    Calls P f args w fun
      | .returned v, w'' => Good G N F σ w (a.put dst v) w''
      | .panicked chain, w'' => Q (.panic chain) a w''
      | .outgrown, _ => LetsOut Q := by
  obtain ⟨js, u, hl, hp, _, hc, hN⟩ := h
  refine acall_go hs hf hd hl ha hc ?_
  rintro r E' ⟨rfl, rfl⟩
  rw [turns_self (fun j h => h), back_same hl hp]
  exact hN
theorem callx_go {f : FuncId} {xs : List LV} {args : Array Value} {dst : Option Nat} {Q : Exit → Act → World → Prop} (hs : St G F σ O w) (hf : LRepL F σ fr a.tmps.toList) (hd : a.defers = [])
    (ha : LRepL F σ xs args.toList) (h : doCallx P G f xs dst N fr O) :
    Calls P f args w fun
      | .returned v, w'' => Good G N F σ w (a.put dst v) w''
      | .panicked chain, w'' => Q (.panic chain) a w''
      | .outgrown, _ => LetsOut Q := by
  obtain ⟨fs, js, ps, Kc, hl, hc, hN⟩ := h
  obtain ⟨F1, hs1, st1⟩ := fzL_sound 99 (pick fs xs) hs (pick_rep ha fs)
  refine (acall_go (Q := Q) hs1 (hf.mono st1.le (fun _ _ h => h)) hd hl (ha.mono st1.le (fun _ _ h => h)) hc hN).mono ?_
  intro e w'
  cases e with
  | returned v => exact Good.pre st1
  | panicked ch => exact id
  | outgrown => exact id
theorem fnOf_sound {x : LV} {y : Value} {f : FuncId} {cap : List LV} (h : LRep F σ x y) (hx : fnOf x = some (f, cap)) : ∃ us, y = .func (.func f) #[] us ∧ LRepL F σ cap us.toList := by
  unfold fnOf at hx
  (repeat' split at hx) <;> first | (cases hx; done) | skip
  · obtain ⟨rfl, rfl⟩ := Prod.mk.inj (Option.some.inj hx)
    obtain ⟨us, e, r⟩ := h
    exact ⟨us, e, LRepL_map_g r⟩
  · obtain ⟨rfl, rfl⟩ := Prod.mk.inj (Option.some.inj hx)
    obtain ⟨us, e, r⟩ := h
    exact ⟨us, e, r⟩

theorem isCall_run {x : Operand} {args : Array Operand} {tys : Array TypeId} {f : FuncId} {cap : Array Value} (ho : o.op = .call { callee := .value x, args, argTypes := tys }) (hx : a.eval x = .func (.func f) #[] cap) (he : enters P f = true) (w : World) :
    (execOp a.eval o).run P w = .ok (.enter f (args.map a.eval ++ cap)) w := by
  simp only [execOp, ho, resolve, bind, Av.run_bind, hx, Deferred.ofValue, pure, Sem.run, invoke, Array.empty_append]
  exact enters_run he _ _

theorem compCall_sound {dr : Bool} {x : Operand} {args : Array Operand} {tys : Array TypeId} (ho : o.op = .call { callee := .value x, args, argTypes := tys }) (h : compCall P G dr x args = some k) : SndK P G o k := by
  intro N Q F σ O w fr a hs hf hd hex
  unfold compCall at h
  split at h
  · rename_i xs hxs
    have hR := evL_sound hs hf hxs
    split at h
    · split at h
      · rename_i f _ he
        split at h
        · obtain rfl := Option.some.inj h
          show Oper.upon P o a _ Q _
          rw [isCall_run ho (f := f) (cap := #[]) rfl he w, Oper.upon_enter]
          exact det_go hs hf hd (by simpa using hR) hex
        · obtain rfl := Option.some.inj h
          show Oper.upon P o a _ Q _
          rw [isCall_run ho (f := f) (cap := #[]) rfl he w, Oper.upon_enter]
          exact callx_go hs hf hd (by simpa using hR) hex
      · cases h
    · split at h
      · obtain ⟨x', hx, rfl⟩ := c1_some h
        simp only [ex, doCallv] at hex
        split at hex
        · rename_i f cap hfx
          obtain ⟨he, hex⟩ := hex
          obtain ⟨us, hx', hcap⟩ := fnOf_sound (ev_sound hs hf hx) hfx
          show Oper.upon P o a _ Q _
          rw [isCall_run ho (f := f) (cap := us) hx' he w, Oper.upon_enter]
          refine det_go hs hf hd ?_ hex
          rw [Array.toList_append, Array.toList_map]
          exact hR.app hcap
        · exact hex.elim
      · obtain ⟨x', hx, rfl⟩ := c1_some h
        simp only [ex, doCallvx] at hex
        split at hex
        · rename_i f cap hfx
          obtain ⟨he, hex⟩ := hex
          obtain ⟨us, hx', hcap⟩ := fnOf_sound (ev_sound hs hf hx) hfx
          show Oper.upon P o a _ Q _
          rw [isCall_run ho (f := f) (cap := us) hx' he w, Oper.upon_enter]
          refine callx_go hs hf hd ?_ hex
          rw [Array.toList_append, Array.toList_map]
          exact hR.app hcap
        · exact hex.elim
  · cases h

theorem compApp_sound {sT xT : TypeId} {x y : Operand} (ho : o.op = .call { callee := .builtin .append, args := #[x, y], argTypes := #[sT, xT] }) (h : compApp P G sT xT x y = some k) : SndK P G o k := by
  intro N Q F σ O w fr a hs hf hd hex
  unfold compApp at h
  split at h
  · rename_i el hT
    split at h
    · rename_i inf hi
      split at h
      · rename_i z hz
        split at h
        · rename_i hzs
          split at h
          · rename_i hxT
            obtain ⟨x', y', hx, hy, rfl⟩ := c2_some h
            exact sndK_e (app_sound hs hf hx hy hT hi hz (Nat.eq_of_beq_eq_true hzs) hxT ho hex.1) hd hex.2
          · cases h
        · cases h
      · cases h
    · cases h
  · cases h

theorem compPs_some {n : Nat} : ∀ {ps : List (Nat × Operand)} {ps' : List (Nat × Od)}, compPs G n ps = some ps' → ps'.length = ps.length ∧ ∀ (j : Nat) (i : Nat) (x : Operand), ps[j]? = some (i, x) → ∃ x', ps'[j]? = some (i, x') ∧ compOd G x = some x' ∧ i < n
  | [], ps', h => by simp only [compPs, Option.some.injEq] at h; subst h; simp
  | (i, x) :: r, ps', h => by
    simp only [compPs] at h
    split at h
    · rename_i hi
      split at h
      · rename_i x' hx
        split at h
        · rename_i r' hr
          obtain rfl := Option.some.inj h
          obtain ⟨h1, h2⟩ := compPs_some hr
          refine ⟨by simp [h1], fun j k y hj => ?_⟩
          cases j with
          | zero =>
            simp only [List.getElem?_cons_zero, Option.some.injEq, Prod.mk.injEq] at hj
            obtain ⟨rfl, rfl⟩ := hj
            exact ⟨x', rfl, hx, by simpa [Nat.blt_eq] using hi⟩
          | succ j => exact h2 j k y (by simpa using hj)
        · cases h
      · cases h
    · cases h
theorem elemOf_some {t : TypeId} {s b : Nat} {zs : List V} (h : elemOf P t = some (s, b, zs)) : ∃ el inf z, P.underlying t = some (.slice el) ∧ P.info? el = some inf ∧ inf.zero = some z ∧ z.cells.size = inf.size ∧ allOneV (z.cells.toList.map ofC) = true ∧ s = inf.size ∧ b = inf.bytes ∧ zs = z.cells.toList.map ofC := by
  unfold elemOf at h
  (repeat' split at h) <;> first | cases h; done | skip
  rename_i el ht _ inf hi _ z hz _ hs _ h1
  simp only [Option.some.injEq, Prod.mk.injEq] at h
  exact ⟨el, inf, z, ht, hi, hz, Nat.eq_of_beq_eq_true hs, h1, h.1.symm, h.2.1.symm, h.2.2.symm⟩
theorem isU8s_some {t : TypeId} (h : isU8s P t = true) : ∃ el, P.underlying t = some (.slice el) ∧ P.underlying el = some (.int .u8) := by
  unfold isU8s at h
  (repeat' split at h) <;> first | cases h; done | skip
  rename_i el ht _ he
  exact ⟨el, ht, he⟩
theorem isStr_some {t : TypeId} (h : isStr P t = true) : P.underlying t = some .string := by
  unfold isStr at h
  split at h
  · assumption
  · cases h

theorem bslVx_some {fr : List LV} {O : List Obj} {s : Nat} : ∀ {ps : List (Nat × Od)} {es es' : List (List V)}, bslVx fr O s es ps = some es' → ∃ ps2 : List (Nat × Od), ps2.length = ps.length ∧ (∀ (j i : Nat) (x : Od), ps[j]? = some (i, x) → ∃ v, ps2[j]? = some (i, .c v) ∧ tv O (ev fr x) = some v) ∧ bslV fr s es ps2 = some es'
  | [], es, es', h => ⟨[], rfl, fun j i x h => by simp at h, h⟩
  | (i, x) :: r, es, es', h => by
    simp only [bslVx] at h
    split at h
    · rename_i v hv
      split at h
      · rename_i ys hys
        split at h
        · rename_i vs hvs
          split at h
          · rename_i hb
            obtain ⟨ps2, h1, h2, h3⟩ := bslVx_some h
            refine ⟨(i, .c v) :: ps2, by simp [h1], fun j k y hj => ?_, ?_⟩
            · cases j with
              | zero =>
                simp only [List.getElem?_cons_zero, Option.some.injEq, Prod.mk.injEq] at hj
                obtain ⟨rfl, rfl⟩ := hj
                exact ⟨v, rfl, hv⟩
              | succ j => exact h2 j k y (by simpa using hj)
            · simp only [bslV, ev, hys, hvs, hb]; exact h3
          · cases h
        · cases h
      · cases h
    · cases h

theorem evPs_rep (hf : LRepL F σ fr a.tmps.toList) : ∀ ps : List (Nat × Od), (∀ x ∈ ps, ∃ y, LRep F σ (ev fr x.2) y) → ∃ zs, LRepL F σ (evPs fr ps) zs
  | [], _ => ⟨[], rfl⟩
  | x :: r, h => by
    obtain ⟨zs, hz⟩ := evPs_rep hf r fun y hy => h y (by simp [hy])
    obtain ⟨y, hy⟩ := h x (by simp)
    exact ⟨y :: zs, y, zs, rfl, hy, hz⟩

theorem bslx_sound (hs : St G F σ O w) (hf : LRepL F σ fr a.tmps.toList) {o : Oper} {t el : TypeId} {n : Nat} {ps : Array (Nat × Operand)} {ps' : List (Nat × Od)} {inf : TypeInfo} {z : Value}
    (ht : P.underlying t = some (.slice el)) (hi : P.info? el = some inf) (hz : inf.zero = some z) (hzs : z.cells.size = inf.size) (hone : allOneV (z.cells.toList.map ofC) = true) (hbig : n * inf.size ≤ 16777216) (h63 : n ≤ 9223372036854775807)
    (hl : ps'.length = ps.toList.length) (hc : ∀ (j : Nat) (i : Nat) (x : Operand), ps.toList[j]? = some (i, x) → ∃ x', ps'[j]? = some (i, x') ∧ compOd G x = some x' ∧ i < n)
    (ho : o.op = .buildSlice t n ps) (hok : (bslEx inf.size n (z.cells.toList.map ofC) ps' fr O).ok) : GivesE P G F σ w a o (bslEx inf.size n (z.cells.toList.map ofC) ps' fr O) := by
  have hev : ∀ x ∈ ps', ∃ y, LRep F σ (ev fr x.2) y := by
    intro x hx
    obtain ⟨j, hj⟩ := List.mem_iff_getElem?.1 hx
    have hlt : j < ps.toList.length := by rw [← hl]; exact (List.getElem?_eq_some_iff.1 hj).1
    obtain ⟨x', h1, h2, _⟩ := hc j _ _ (List.getElem?_eq_getElem hlt)
    rw [hj] at h1
    obtain ⟨i, x2⟩ := x
    obtain ⟨_, rfl⟩ := Prod.mk.inj (Option.some.inj h1)
    exact ⟨_, ev_sound hs hf h2⟩
  obtain ⟨zs, hzs'⟩ := evPs_rep hf ps' hev
  obtain ⟨F1, hs1, st1⟩ := fzL_sound 99 (evPs fr ps') hs ⟨zs, hzs'⟩
  unfold bslEx at hok ⊢
  split at hok
  · rename_i es hes
    obtain ⟨ps2, h1, h2, h3⟩ := bslVx_some hes
    have hf1 := hf.mono st1.le (σ' := σ) (fun _ _ h => h)
    have := bsl_sound hs1 hf1 (ps := ps) (ps' := ps2) ht hi hz hzs hone hbig h63 (h1.trans hl) (fun j i x hj => by
      obtain ⟨x', e1, e2, e3⟩ := hc j i x hj
      obtain ⟨v, g1, g2⟩ := h2 j i x' e1
      have hx := (ev_sound hs hf e2)
      have hx1 := hx.mono st1.le (σ' := σ) (fun _ _ h => h)
      exact ⟨.c v, g1, by simpa only [ev, LRep] using tv_sound hs1 g2 hx1, e3⟩) ho (by unfold bslE; rw [h3]; trivial)
    unfold bslE at this
    rw [h3] at this
    obtain ⟨y, w', F', σ', a1, a2, a3, a4, a5⟩ := this
    exact ⟨y, w', F', σ', a1, a2, a3, a4, st1.trans a5⟩
  · exact hok.elim

theorem sndK_v {r : R} {Q : Exit → Act → World → Prop} (hs : St G F σ O w) (hf : LRepL F σ fr a.tmps.toList) (hd : a.defers = []) (h : ∃ v, (execOp a.eval o).run P w = .ok (.value v) w ∧ LRep F σ r.v v) (hN : N (pt fr o.dst r.v) O) : o.wp P a w (Good G N F σ w) Q := by
  obtain ⟨v, hv, hr⟩ := h
  show Oper.upon P o a _ Q _
  rw [hv]
  exact ⟨_, _, F, σ, hN, pt_rep hf hr _, (put_defers _ _ _).trans hd, hs, .refl F σ w⟩
theorem compMupd_sound {t : TypeId} {x y z : Operand} (ho : o.op = .mapUpdate t x y z ∨ o.op = .insert t x y z) (h : compMupd P G t x y z = some k) : SndK P G o k := by
  intro N Q F σ O w fr a hs hf hd hex
  unfold compMupd at h
  (repeat' split at h) <;> first | (cases h; done) | skip
  rename_i kT eT ht _ kk hk
  obtain ⟨x', y', z', hx, hy, hz, rfl⟩ := c3_some h
  obtain ⟨hok, hN⟩ := hex
  obtain ⟨w', h1, h2, h3⟩ := mupd_run (fr := fr) ht hk hs (ev_sound hs hf hx) (ev_sound hs hf hy) (ev_sound hs hf hz) hok
  have hfr : (mupdE kk (ev fr x') (ev fr y') (ev fr z') fr O).fr = fr ∧ (mupdE kk (ev fr x') (ev fr y') (ev fr z') fr O).v = .any := by
    unfold mupdE at hok ⊢
    (repeat' split) <;> first | exact ⟨rfl, rfl⟩ | (exfalso; simp_all [noE])
  refine sndK_e (a := a) (F := F) (σ := σ) ⟨undef, w', F, σ, .inr ⟨?_, rfl⟩, by rw [hfr.2]; trivial, by rw [hfr.1]; exact hf, h2, h3⟩ hd hN
  rcases ho with ho | ho <;> simp only [execOp, ho, bind, Av.run_bind, h1, pure, Sem.run]

theorem compK_sound {dr : Bool} (h : compK P G wr dr o = some k) : SndK P G o k := by
  unfold compK at h
  split at h
  · rename_i el ho
    unfold compAlloc at h
    split at h
    · rename_i inf hi
      split at h
      · rename_i z hz
        obtain rfl := Option.some.inj h
        intro N Q F σ O w fr a hs hf hd hex
        exact sndK_e (alloc_sound hs hf hi hz ho hex.1) hd hex.2
      · cases h
    · cases h
  · rename_i el x ho
    obtain ⟨x', hx, rfl⟩ := c1_some h
    intro N Q F σ O w fr a hs hf hd hex
    exact sndK_e (box_sound hs hf hx ho hex.1) hd hex.2
  · rename_i t x v ho
    unfold compStore at h
    split at h
    · rename_i inf hi
      obtain ⟨x', v', hx, hv, rfl⟩ := c2_some h
      intro N Q F σ O w fr a hs hf hd hex
      exact sndK_e (store_sound hs hf hx hv hi ho hex.1) hd hex.2
    · cases h
  · rename_i x y sT xT ho
    exact compApp_sound ho h
  · rename_i x args tys ho
    exact compCall_sound ho h
  · rename_i t x y ok ho
    unfold compLkp at h
    (repeat' split at h) <;> first | (cases h; done) | skip
    rename_i kT eT ht _ kk hk _ inf hi _ z hz
    obtain ⟨x', y', hx, hy, rfl⟩ := c2_some h
    intro N Q F σ O w fr a hs hf hd ⟨hok, hN⟩
    obtain ⟨v, h1, h2⟩ := lookup_run ht hk hi hz hs (ev_sound hs hf hx) (ev_sound hs hf hy) hok
    exact sndK_v hs hf hd ⟨v, by simp only [execOp, ho, bind, Av.run_bind, h1, pure, Sem.run], h2⟩ hN
  · rename_i t ho
    obtain rfl := Option.some.inj h
    intro N Q F σ O w fr a hs hf hd hex
    exact sndK_e (mkmap_sound hs hf ho) hd hex.2
  · rename_i t x y z ho
    exact compMupd_sound (.inl ho) h
  · rename_i t x y z ho
    exact compMupd_sound (.inr ho) h
  · rename_i t x ho
    unfold compRange isMap at h
    (repeat' split at h) <;> first | (cases h; done) | skip
    rename_i hm
    split at hm
    · rename_i kT eT ht
      obtain ⟨x', hx, rfl⟩ := c1_some h
      intro N Q F σ O w fr a hs hf hd hex
      exact sndK_e (mrange_sound hs hf hx ht ho hex.1) hd hex.2
    · cases hm
  · rename_i x ho
    obtain ⟨x', hx, rfl⟩ := c1_some h
    intro N Q F σ O w fr a hs hf hd hex
    simp only [ex, doNext] at hex
    have h1 := ev_sound hs hf hx
    split at hex
    · rename_i k off hk0
      rw [hk0] at h1
      split at hex
      · rename_i km since seen hk
        split at hex
        · rename_i es hm
          obtain ⟨e1, e2, e3, e4⟩ := hex
          show Oper.upon P o a _ Q _
          rcases next_run (P := P) hs h1 hk hm e1 e2 o.type with ⟨g1, g2⟩ | ⟨i, x, kv, vv, w', g1, g2, g3, g4, g5, g6, g7, g8⟩
          · have : (execOp a.eval o).run P w = .ok (.value (.tuple #[.bool false])) w := by simp only [execOp, ho, bind, Av.run_bind, g2, pure, Sem.run]
            rw [this]
            exact ⟨_, _, F, σ, e4 g1, pt_rep hf (by exact ⟨_, rfl, _, _, rfl, rfl, rfl⟩) _, (put_defers _ _ _).trans hd, hs, .refl F σ w⟩
          · have : (execOp a.eval o).run P w = .ok (.value (.tuple #[.bool true, kv, vv])) w' := by simp only [execOp, ho, bind, Av.run_bind, g6, pure, Sem.run]
            rw [this]
            exact ⟨_, _, F, σ, e3 i x g3 g2, pt_rep hf (by exact ⟨_, rfl, _, _, rfl, rfl, _, _, rfl, g4, _, _, rfl, g5, rfl⟩) _, (put_defers _ _ _).trans hd, g7, g8⟩
        · exact hex.elim
      · exact hex.elim
    · exact hex.elim
  · rename_i x ho
    obtain ⟨x', hx, rfl⟩ := c1_some h
    intro N Q F σ O w fr a hs hf hd ⟨hok, hN⟩
    obtain ⟨v, h1, h2⟩ := ent_run (P := P) hs (ev_sound hs hf hx) hok
    exact sndK_v hs hf hd ⟨v, by simp only [execOp, ho, bind, Av.run_bind, h1, pure, Sem.run], h2⟩ hN
  · rename_i f cap ho
    unfold compFn at h
    split at h
    · rename_i xs hxs
      obtain rfl := Option.some.inj h
      intro N Q F σ O w fr a hs hf hd ⟨_, hN⟩
      have hR := evL_sound hs hf hxs
      refine sndK_v (r := ⟨True, funN (.func f) (evL fr xs)⟩) hs hf hd ⟨.func (.func f) #[] (cap.map a.eval), ?_, funN_rep ⟨cap.map a.eval, rfl, by simpa using hR⟩⟩ hN
      simp [execOp, ho, Instr.makeFunc, bind, Av.run_bind, pure, Sem.run]
    · cases h
  · rename_i x t ho
    unfold compLenK isMap at h
    split at h
    · rename_i hm
      split at hm
      · rename_i kT eT ht
        obtain ⟨x', hx, rfl⟩ := c1_some h
        intro N Q F σ O w fr a hs hf hd ⟨hok, hN⟩
        obtain ⟨v, h1, h2⟩ := mlen_run ht o.type hs (ev_sound hs hf hx) hok
        refine sndK_v hs hf hd ⟨v, ?_, h2⟩ hN
        simp [execOp, ho, resolve, invoke, builtin, bind, Av.run_bind, pure, Sem.run, h1]
      · cases hm
    · split at h
      · rename_i i hi
        obtain rfl := Option.some.inj h
        exact sndK_q (compI_sound hi)
      · cases h
  · rename_i t n ps ho
    unfold compBsl at h
    split at h
    · rename_i s b zs he
      obtain ⟨el, inf, z, ht, hi, hz, hzs, hone, rfl, rfl, rfl⟩ := elemOf_some he
      split at h
      · rename_i hbig
        split at h
        · rename_i h63
          split at h
          · rename_i ps' hps
            obtain ⟨h1, h2⟩ := compPs_some hps
            split at h
            · obtain rfl := Option.some.inj h
              intro N Q F σ O w fr a hs hf hd hex
              exact sndK_e (bsl_sound hs hf ht hi hz hzs hone (Nat.le_of_ble_eq_true hbig) (Nat.le_of_ble_eq_true h63) h1 (fun j i x hj => by obtain ⟨x', e1, e2, e3⟩ := h2 j i x hj; exact ⟨x', e1, ev_sound hs hf e2, e3⟩) ho hex.1) hd hex.2
            · obtain rfl := Option.some.inj h
              intro N Q F σ O w fr a hs hf hd hex
              exact sndK_e (bslx_sound hs hf ht hi hz hzs hone (Nat.le_of_ble_eq_true hbig) (Nat.le_of_ble_eq_true h63) h1 h2 ho hex.1) hd hex.2
          · cases h
        · cases h
      · cases h
    · cases h
  · rename_i t l c ho
    unfold compMks at h
    split at h
    · rename_i s b zs he
      obtain ⟨el, inf, z, ht, hi, hz, hzs, hone, rfl, rfl, rfl⟩ := elemOf_some he
      obtain ⟨l', c', hl, hc, rfl⟩ := c2_some h
      intro N Q F σ O w fr a hs hf hd hex
      exact sndK_e (mks_sound hs hf hl hc ht hi hz hzs hone ho hex.1) hd hex.2
    · cases h
  · rename_i t u x ho
    unfold compCv at h
    split at h
    · rename_i hb
      simp only [Bool.and_eq_true] at hb
      obtain ⟨el, ht, hel⟩ := isU8s_some hb.1
      obtain ⟨x', hx, rfl⟩ := c1_some h
      intro N Q F σ O w fr a hs hf hd ⟨hok, hN⟩
      obtain ⟨y, hy, hr⟩ := b2s_sound hs hf hx ht hel (isStr_some hb.2) ho hok
      show Oper.upon P o a _ Q _
      rw [hy]
      exact ⟨_, _, F, σ, hN, pt_rep hf hr _, (put_defers _ _ _).trans hd, hs, .refl F σ w⟩
    · split at h
      · rename_i hb
        simp only [Bool.and_eq_true] at hb
        obtain ⟨el, hu, hel⟩ := isU8s_some hb.2
        obtain ⟨x', hx, rfl⟩ := c1_some h
        intro N Q F σ O w fr a hs hf hd hex
        exact sndK_e (s2b_sound hs hf hx (isStr_some hb.1) hu hel ho hex.1) hd hex.2
      · split at h
        · rename_i i hi
          obtain rfl := Option.some.inj h
          exact sndK_q (compConv_sound ho hi)
        · cases h
  · rename_i t x k j ho
    unfold compEmp at h
    split at h
    · rename_i el ht
      split at h
      · rename_i inf hi
        obtain ⟨x', hx, rfl⟩ := c1_some h
        intro N Q F σ O w fr a hs hf hd hex
        exact sndK_e (emp_sound hs hf hx ht hi ho hex.1) hd hex.2
      · cases h
    · cases h
  · rename_i op t x y t' ho
    unfold compB at h
    split at h
    · rename_i el ht
      split at h
      · rename_i n hn
        obtain ⟨hop, rfl⟩ := eqOp_eq hn
        split at h
        · rename_i hy
          obtain rfl := isNilSl_eq hy
          obtain ⟨x', hx, rfl⟩ := c1_some h
          intro N Q F σ O w fr a hs hf hd hex
          simp only [ex, doSnil] at hex
          split at hex
          · rename_i p q hv
            obtain ⟨b, hp, hq, hrun⟩ := snil_go hs hf hx hop ht ho hv
            show Oper.upon P o a _ Q _
            rw [hrun]
            cases b with
            | true => exact ⟨_, _, F, σ, hex.1 (hp rfl), pt_rep hf (by simp [tru, LRep, Rep]) _, (put_defers _ _ _).trans hd, hs, .refl F σ w⟩
            | false => exact ⟨_, _, F, σ, hex.2 (hq rfl), pt_rep hf (by simp [tru, LRep, Rep]) _, (put_defers _ _ _).trans hd, hs, .refl F σ w⟩
          · exact hex.elim
        · cases h
      · cases h
    · split at h
      · rename_i i hi
        obtain rfl := Option.some.inj h
        exact sndK_q (compBin_sound ho hi)
      · cases h
  · rename_i x y tys ho
    obtain ⟨x', y', hx, hy, rfl⟩ := c2_some h
    intro N Q F σ O w fr a hs hf hd ⟨hok, hN⟩
    obtain ⟨v, hv, hr⟩ := max_sound hs hf hx hy ho hok
    show Oper.upon P o a _ Q _
    rw [hv]
    exact ⟨_, _, F, σ, hN, pt_rep hf hr _, (put_defers _ _ _).trans hd, hs, .refl F σ w⟩
  · split at h
    · rename_i i hi
      obtain rfl := Option.some.inj h
      exact sndK_q (compI_sound hi)
    · cases h
end
end Go.Av
