/-
  Values at a distance from memory, states of a call, and contracts of functions over them. No condition.
-/
import Derived.Laws.AppendOwn
import Derived.Laws.Sem
import Derived.Test.YtfpdolhfomfgpaaQ01
namespace Go.Av
set_option linter.unusedVariables false
set_option linter.unusedSimpArgs false

section
variable {P : Program} {G : Gl} {F : Fz} {σ : List Pl} {O : List Obj} {w : World} {fr : List LV} {a : Act}

theorem RepC.move {arr arr' : Array Value} : ∀ {cs : List V} {o o' : Nat}, RepC F arr cs o → (∀ j, j < cs.length → arr'[o' + j]? = arr[o + j]?) → RepC F arr' cs o'
  | [], o, o', h, hm => trivial
  | c :: cs, o, o', h, hm => by
    obtain ⟨⟨y, hy, h1, hr⟩, hc⟩ := h
    refine ⟨⟨y, ?_, h1, hr⟩, hc.move fun j hj => ?_⟩
    · have := hm 0 (by simp); simp only [Nat.add_zero] at this; rw [this]; exact hy
    · have := hm (j + 1) (by simpa using hj)
      rwa [show o' + (j + 1) = o' + 1 + j from by omega, show o + (j + 1) = o + 1 + j from by omega] at this
theorem RepR.move {arr arr' : Array Value} {s : Nat} : ∀ {es : List (List V)} {o o' : Nat}, RepR F s arr es o → (∀ j, j < es.length * s → arr'[o' + j]? = arr[o + j]?) → RepR F s arr' es o'
  | [], o, o', h, hm => trivial
  | e :: es, o, o', h, hm => by
    obtain ⟨hl, hc, hr⟩ := h
    have hle : (e :: es).length * s = s + es.length * s := by simp [Nat.add_mul]; omega
    refine ⟨hl, hc.move fun j hj => hm j (by rw [hle]; omega), hr.move fun j hj => ?_⟩
    have := hm (s + j) (by rw [hle]; omega)
    rwa [show o' + (s + j) = o' + s + j from by omega, show o + (s + j) = o + s + j from by omega] at this
theorem RepR.append {arr : Array Value} {s : Nat} : ∀ {es es' : List (List V)} {o : Nat}, RepR F s arr es o → RepR F s arr es' (o + es.length * s) → RepR F s arr (es ++ es') o
  | [], es', o, h, h' => by simpa using h'
  | e :: es, es', o, h, h' => by
    obtain ⟨hl, hc, hr⟩ := h
    refine ⟨hl, hc, hr.append ?_⟩
    rwa [show o + s + es.length * s = o + (e :: es).length * s from by simp [Nat.add_mul]; omega]
theorem RepR.fits {arr : Array Value} {s : Nat} : ∀ {es : List (List V)} {o : Nat}, RepR F s arr es o → 0 < es.length * s → o + es.length * s ≤ arr.size
  | [], o, h, hp => by simp at hp
  | [e], o, h, hp => by
    obtain ⟨hl, hc, _⟩ := h
    have := hc.fits (by intro h'; subst h'; simp at hl; subst hl; simp at hp)
    simp; omega
  | e :: e' :: es, o, h, hp => by
    obtain ⟨hl, hc, hr⟩ := h
    have hs : 0 < s := by
      rcases Nat.eq_zero_or_pos s with h0 | h0
      · subst h0; simp at hp
      · exact h0
    have := hr.fits (by simp only [List.length_cons, Nat.add_mul]; omega)
    simp only [List.length_cons, Nat.add_mul] at *; omega
theorem RepR.lens {arr : Array Value} {s : Nat} : ∀ {es : List (List V)} {o : Nat}, RepR F s arr es o → ∀ e ∈ es, e.length = s
  | [], o, h, e, he => by simp at he
  | e' :: es, o, h, e, he => by
    rcases List.mem_cons.1 he with rfl | he
    · exact h.1
    · exact RepR.lens h.2.2 e he
/-- The cells of a row are values of one cell each. -/
theorem RepC.ones {arr : Array Value} : ∀ {cs : List V} {o : Nat}, RepC F arr cs o → ∀ j, j < cs.length → ∃ y, arr[o + j]? = some y ∧ oneC y = true
  | [], o, h, j, hj => by simp at hj
  | c :: cs, o, h, 0, hj => by obtain ⟨⟨y, hy, h1, _⟩, _⟩ := h; exact ⟨y, hy, h1⟩
  | c :: cs, o, h, j + 1, hj => by
    have := RepC.ones h.2 j (by simpa using hj)
    rwa [show o + 1 + j = o + (j + 1) from by omega] at this
theorem RepR.ones {arr : Array Value} {s : Nat} : ∀ {es : List (List V)} {o : Nat}, RepR F s arr es o → ∀ j, j < es.length * s → ∃ y, arr[o + j]? = some y ∧ oneC y = true
  | [], o, h, j, hj => by simp at hj
  | e :: es, o, h, j, hj => by
    obtain ⟨hl, hc, hr⟩ := h
    by_cases hjs : j < s
    · exact hc.ones j (by omega)
    · have hle : (e :: es).length * s = s + es.length * s := by simp [Nat.add_mul]; omega
      have := RepR.ones hr (j - s) (by omega)
      rwa [show o + s + (j - s) = o + j from by omega] at this
theorem RepR.extract_ones {arr : Array Value} {s : Nat} {es : List (List V)} {o : Nat} (h : RepR F s arr es o) : oneAll (arr.extract o (o + es.length * s)).toList := by
  intro v hv
  rw [Array.toList_extract, List.extract_eq_take_drop] at hv
  obtain ⟨j, hj, hv⟩ := List.getElem_of_mem hv
  simp only [List.length_take, List.length_drop, Array.length_toList] at hj
  simp only [List.getElem_take, List.getElem_drop, Array.getElem_toList] at hv
  obtain ⟨y, hy, h1⟩ := h.ones j (by omega)
  rw [Array.getElem?_eq_getElem (by omega)] at hy
  rw [← hv, Option.some.inj hy]; exact h1
/-- Cells behind a prefix, meant by values. -/
theorem RepC_mk {arr : Array Value} : ∀ {cs : List V} {vs rest : List Value} {o : Nat}, arr.toList.drop o = vs ++ rest → RepL F cs vs → oneAll vs → RepC F arr cs o
  | [], vs, rest, o, h, hr, h1 => trivial
  | c :: cs, vs, rest, o, h, hr, h1 => by
    obtain ⟨y, r, rfl, hc, hr⟩ := hr
    refine ⟨⟨y, ?_, h1 y (by simp), hc⟩, RepC_mk (rest := rest) ?_ hr fun v hv => h1 v (by simp [hv])⟩
    · rw [← Array.getElem?_toList, show o = o + 0 from rfl, ← List.getElem?_drop, h]; rfl
    · rw [← List.drop_drop, h]; rfl
/-- Rows of cells behind a prefix. -/
theorem RepR_mk {arr : Array Value} {s : Nat} : ∀ {es : List (List V)} {vss : List (List Value)} {rest : List Value} {o : Nat}, arr.toList.drop o = vss.flatten ++ rest → es.length = vss.length →
    (∀ (i : Nat) (e : List V) (vs : List Value), es[i]? = some e → vss[i]? = some vs → e.length = s ∧ RepL F e vs ∧ oneAll vs) → RepR F s arr es o
  | [], vss, rest, o, h, hl, hr => trivial
  | e :: es, [], rest, o, h, hl, hr => by simp at hl
  | e :: es, vs :: vss, rest, o, h, hl, hr => by
    obtain ⟨h1, h2, h3⟩ := hr 0 e vs rfl rfl
    refine ⟨h1, RepC_mk (vs := vs) (rest := vss.flatten ++ rest) (by rw [h]; simp) h2 h3, RepR_mk (vss := vss) (rest := rest) ?_ (by simpa using hl) fun i e' vs' he hv => hr (i + 1) e' vs' he hv⟩
    have hlen : vs.length = s := by
      have : ∀ {cs : List V} {ys : List Value}, RepL F cs ys → ys.length = cs.length := by
        intro cs
        induction cs with
        | nil => intro ys h; simp only [RepL] at h; simp [h]
        | cons c cs ih => rintro ys ⟨y, r, rfl, _, hr⟩; simp [ih hr]
      rw [this h2, h1]
    rw [← List.drop_drop, h, List.flatten_cons, List.append_assoc, ← hlen, List.drop_left]
theorem RepL.length : ∀ {cs : List V} {ys : List Value}, RepL F cs ys → ys.length = cs.length
  | [], ys, h => by simp only [RepL] at h; simp [h]
  | c :: cs, ys, h => by obtain ⟨y, r, rfl, _, hr⟩ := h; simp [RepL.length hr]
end

/-- What is appended or copied: a slice's elements, a string's bytes. -/
def srcV (O : List Obj) (s : Nat) : LV → Option (List (List V))
  | .g (.fsl s' es) => match Nat.beq s' s with
    | true => some es
    | false => none
  | .g .nils => some []
  | .g (.str b) => match Nat.beq 1 s with
    | true => some (b.map fun c => [.int .u8 (c.toNat : Int)])
    | false => none
  | .rw k => match og O k with
    | .row _ s' es => match Nat.beq s' s with
      | true => some es
      | false => none
    | .frow s' es => match Nat.beq s' s with
      | true => some es
      | false => none
    | _ => none
  | .lsl k lo hi => match og O k with
    | .row _ s' es => match Nat.beq s' s with
      | true => some ((es.take hi).drop lo)
      | false => none
    | .frow s' es => match Nat.beq s' s with
      | true => some ((es.take hi).drop lo)
      | false => none
    | _ => none
  | _ => none

section
variable {P : Program} {G : Gl} {F : Fz} {σ : List Pl} {O : List Obj} {w : World} {fr : List LV} {a : Act}

/-- The cells of a slice, as they lie. -/
structure Src (P : Program) (F : Fz) (w : World) (s : Nat) (xs : List (List V)) (y : Value) : Prop where
  len : ∀ w', (Builtin.lenOf y).run P w' = .ok xs.length w'
  cells : ∃ arr : Array Value, arr.size = xs.length * s ∧ RepR F s arr xs 0 ∧ oneAll arr.toList ∧ ∀ w' : World, w'.heap = w.heap → (Builtin.firstCells s xs.length y).run P w' = .ok arr w'

theorem src_block {b o : Nat} {arr : Array Value} {e : TypeId} {z : Nat × Nat} {s : Nat} {xs : List (List V)} {cap : Nat} (h : w.heap[b]? = some (.cells arr e z)) (hr : RepR F s arr xs o) : Src P F w s xs (.slice (some ⟨b, o, none⟩) xs.length cap) := by
  refine ⟨fun w' => by simp only [Builtin.lenOf, pure, Sem.run], ?_⟩
  by_cases hp : 0 < xs.length * s
  · have hfit := hr.fits hp
    refine ⟨arr.extract o (o + xs.length * s), by simp; omega, hr.move fun j hj => ?_, hr.extract_ones, ?_⟩
    · rw [Array.getElem?_extract]
      rw [if_pos (by omega)]
      simp
    · intro w' hw'; simp only [Builtin.firstCells, run_loadCells (w := w') (by rw [hw']; exact h) hfit]
  · have h0 : xs.length * s = 0 := by omega
    refine ⟨#[], by simp [h0], hr.move fun j hj => by omega, fun v hv => by simp at hv, ?_⟩
    intro w' _; simp only [Builtin.firstCells, h0, loadCells, loadCellsFrom, pure, Sem.run]

theorem src_empty {s : Nat} {y : Value} {ad : Option Addr} {cap : Nat} (hy : y = .slice ad 0 cap) : Src P F w s [] y := by
  subst hy
  refine ⟨fun w' => by simp only [Builtin.lenOf, pure, Sem.run, List.length_nil], #[], by simp, trivial, fun v hv => by simp at hv, ?_⟩
  intro w' _; cases ad <;> simp only [Builtin.firstCells, List.length_nil, Nat.zero_mul, loadCells, loadCellsFrom, pure, Sem.run]

theorem src_sound (hs : St G F σ O w) {s : Nat} {x : LV} {y : Value} {xs : List (List V)} (hx : LRep F σ x y) (h : srcV O s x = some xs) : Src P F w s xs y := by
  unfold srcV at h
  split at h
  · split at h
    · rename_i e
      obtain rfl := Option.some.inj h
      obtain rfl := Nat.eq_of_beq_eq_true e
      obtain ⟨ad, cap, rfl, hc, hr⟩ := hx
      rcases hr with rfl | ⟨b, o, arr, rfl, hF, hr⟩
      · exact src_empty rfl
      · obtain ⟨e', z, hb⟩ := hs.fz b arr hF
        exact src_block hb hr
    · cases h
  · obtain rfl := Option.some.inj h
    simp only [LRep, Rep] at hx
    exact src_empty hx
  · rename_i b
    split at h
    · rename_i e
      obtain rfl := Option.some.inj h
      obtain rfl := Nat.eq_of_beq_eq_true e
      simp only [LRep, Rep] at hx
      subst hx
      refine ⟨fun w' => by simp only [Builtin.lenOf, pure, Sem.run, ByteArray.size, List.size_toArray, List.length_map], ?_⟩
      refine ⟨(b.map fun c => Value.int .u8 (c.toNat : Int)).toArray, by simp, ?_, ?_, ?_⟩
      · refine RepR_mk (vss := b.map fun c => [Value.int .u8 (c.toNat : Int)]) (rest := []) ?_ (by simp) ?_
        · simp; induction b with
          | nil => rfl
          | cons c b ih => simpa using ih
        · intro i e' vs he hv
          simp only [List.getElem?_map, Option.map_eq_some_iff] at he hv
          obtain ⟨c, hc, rfl⟩ := he
          obtain ⟨c', hc', rfl⟩ := hv
          rw [hc] at hc'; obtain rfl := Option.some.inj hc'
          exact ⟨rfl, ⟨_, [], rfl, rfl, rfl⟩, fun v hv => by simp at hv; subst hv; rfl⟩
      · intro v hv
        simp at hv
        obtain ⟨c, _, rfl⟩ := hv; rfl
      · intro w' _; simp only [Builtin.firstCells, pure, Sem.run]
        congr 1
        apply Array.ext'
        simp [ByteArray.data_extract]
    · cases h
  · rename_i k
    obtain ⟨p, ad, hp, rfl, hr⟩ := hx
    obtain ⟨ob, hO, hog, hob⟩ := place hs hp
    rw [hog] at h
    cases ob <;> simp only at h
    case row pn s' es =>
      split at h
      · rename_i e
        obtain rfl := Option.some.inj h
        obtain rfl := Nat.eq_of_beq_eq_true e
        obtain ⟨_, hl, hc, hrow⟩ := hob
        rw [← hl] at hc ⊢
        rcases hrow with ⟨_, hz⟩ | ⟨b, o, arr, e', z, hat, _, hb, _, _, hr'⟩
        · have : es = [] := List.eq_nil_of_length_eq_zero (by omega)
          subst this; exact src_empty rfl
        · rcases hr with ⟨hno, _⟩ | ⟨b', o', hat', rfl⟩
          · rw [hat] at hno; cases hno
          · rw [hat] at hat'; obtain ⟨rfl, rfl⟩ := Prod.mk.inj (Option.some.inj hat')
            exact src_block hb hr'
      · cases h
    case frow s' es =>
      split at h
      · rename_i e
        obtain rfl := Option.some.inj h
        obtain rfl := Nat.eq_of_beq_eq_true e
        obtain ⟨_, hl, hc, hrow⟩ := hob
        rw [← hl] at hc ⊢
        rcases hrow with ⟨_, hz⟩ | ⟨b, o, arr, hat, hF, hr'⟩
        · have : es = [] := List.eq_nil_of_length_eq_zero (by omega)
          subst this; exact src_empty rfl
        · rcases hr with ⟨hno, _⟩ | ⟨b', o', hat', rfl⟩
          · rw [hat] at hno; cases hno
          · rw [hat] at hat'; obtain ⟨rfl, rfl⟩ := Prod.mk.inj (Option.some.inj hat')
            obtain ⟨e', z, hb⟩ := hs.fz _ arr hF
            exact src_block hb hr'
      · cases h
    all_goals cases h
  · rename_i k lo hi
    obtain ⟨p, ad, hp, rfl, hlo, hhi, hr⟩ := hx
    obtain ⟨ob, hO, hog, hob⟩ := place hs hp
    rw [hog] at h
    cases ob <;> simp only at h
    case row pn s' es =>
      split at h
      · rename_i e
        obtain rfl := Option.some.inj h
        obtain rfl := Nat.eq_of_beq_eq_true e
        obtain ⟨hps, hl, hc, hrow⟩ := hob
        have hlen : ((es.take hi).drop lo).length = hi - lo := by simp; omega
        rw [← hlen]
        rcases hr with hz | ⟨b', o', hat', rfl⟩
        · have : (es.take hi).drop lo = [] := List.eq_nil_of_length_eq_zero (by omega)
          rw [this]; exact src_empty rfl
        · rcases hrow with ⟨hno, _⟩ | ⟨b, o, arr, e', z, hat, _, hb, _, _, hr'⟩
          · rw [hat'] at hno; cases hno
          · rw [hat] at hat'; obtain ⟨rfl, rfl⟩ := Prod.mk.inj (Option.some.inj hat')
            rw [hps]
            exact src_block hb hr'.take.drop
      · cases h
    case frow s' es =>
      split at h
      · rename_i e
        obtain rfl := Option.some.inj h
        obtain rfl := Nat.eq_of_beq_eq_true e
        obtain ⟨hps, hl, hc, hrow⟩ := hob
        have hlen : ((es.take hi).drop lo).length = hi - lo := by simp; omega
        rw [← hlen]
        rcases hr with hz | ⟨b', o', hat', rfl⟩
        · have : (es.take hi).drop lo = [] := List.eq_nil_of_length_eq_zero (by omega)
          rw [this]; exact src_empty rfl
        · rcases hrow with ⟨hno, _⟩ | ⟨b, o, arr, hat, hF, hr'⟩
          · rw [hat'] at hno; cases hno
          · rw [hat] at hat'; obtain ⟨rfl, rfl⟩ := Prod.mk.inj (Option.some.inj hat')
            obtain ⟨e', z, hb⟩ := hs.fz _ arr hF
            rw [hps]
            exact src_block hb hr'.take.drop
      · cases h
    all_goals cases h
  · cases h
end
end Go.Av

namespace Go.Av
set_option linter.unusedVariables false
set_option linter.unusedSimpArgs false

section
variable {P : Program} {G : Gl} {F : Fz} {σ : List Pl} {O : List Obj} {w : World} {fr : List LV} {a : Act}

theorem run_room (n : Nat) (w : World) : (askRoom n).run P w = .ok () w := by
  unfold askRoom; split <;> simp [mark, pure, Sem.run]

/-- Neither type is an integer's: what is appended is a slice or a string. -/
def srcT (P : Program) (t : TypeId) : Bool :=
  match P.underlying t with
  | some (.slice _) | some .string => true
  | _ => false
theorem run_notInt {t : TypeId} (h : srcT P t = true) (w : World) : ∃ d, P.underlying t = some d ∧ (d matches .int _) = false := by
  unfold srcT at h
  cases hd : P.underlying t with
  | none => rw [hd] at h; cases h
  | some d => refine ⟨d, rfl, ?_⟩; rw [hd] at h; cases d <;> first | rfl | (cases h; done)




theorem append_fits {sT xT el ty : TypeId} {inf : TypeInfo} {xs : List (List V)} {x : Value} {ad : Addr} {n cap : Nat} (hT : P.underlying sT = some (.slice el)) (hi : P.info? el = some inf) (hx : srcT P xT = true) (hlen : ∀ w', (Builtin.lenOf x).run P w' = .ok xs.length w')
    (hfit : n + xs.length ≤ cap) {arr : Array Value} {w' : World} (hcells : (Builtin.firstCells inf.size xs.length x).run P w = .ok arr w) (hst : (storeCells (ad.add (n * inf.size)) arr.toList).run P w = .ok () w') :
    (Builtin.append_ #[sT, xT] ty #[.slice (some ad) n cap, x]).run P w = .ok (.slice (some ad) (n + xs.length) cap) w' := by
  unfold srcT at hx
  cases hd : P.underlying xT with
  | none => rw [hd] at hx; cases hx
  | some d =>
    rw [hd] at hx
    cases d <;> first | (cases hx; done) | skip
    all_goals simp [Builtin.append_, bind, run_bind, run_und hT, run_und hd, run_size hi, hlen, hfit, hcells, hst, pure, Sem.run]

theorem append_none {sT xT el ty : TypeId} {inf : TypeInfo} {x : Value} {cap : Nat} (hT : P.underlying sT = some (.slice el)) (hi : P.info? el = some inf) (hx : srcT P xT = true) (hlen : ∀ w', (Builtin.lenOf x).run P w' = .ok 0 w')
    {arr : Array Value} (hcells : (Builtin.firstCells inf.size 0 x).run P w = .ok arr w) :
    (Builtin.append_ #[sT, xT] ty #[.slice none 0 cap, x]).run P w = .ok (.slice none 0 cap) w := by
  unfold srcT at hx
  cases hd : P.underlying xT with
  | none => rw [hd] at hx; cases hx
  | some d =>
    rw [hd] at hx
    cases d <;> first | (cases hx; done) | skip
    all_goals simp [Builtin.append_, bind, run_bind, run_und hT, run_und hd, run_size hi, hlen, hcells, pure, Sem.run]

theorem append_grows {sT xT el ty : TypeId} {inf : TypeInfo} {z : Value} {xs : List (List V)} {x : Value} {base : Option Addr} {n cap : Nat} (hT : P.underlying sT = some (.slice el)) (hi : P.info? el = some inf) (hz : inf.zero = some z) (hx : srcT P xT = true) (hlen : ∀ w', (Builtin.lenOf x).run P w' = .ok xs.length w')
    (hfit : cap < n + xs.length) {arr old : Array Value} (hcells : ∀ w' : World, w'.heap = w.heap → (Builtin.firstCells inf.size xs.length x).run P w' = .ok arr w') (hold : ∀ w' : World, w'.heap = w.heap → (Builtin.firstCells inf.size n (.slice base n cap)).run P w' = .ok old w')
    (hb : (n + xs.length) * inf.bytes ≤ 140737488355328) (h63 : n + xs.length ≤ 9223372036854775807) :
    ∃ m, n + xs.length ≤ m ∧ (Builtin.append_ #[sT, xT] ty #[.slice base n cap, x]).run P w =
      .ok (.slice (some ⟨w.heap.size, 0, none⟩) (n + xs.length) m) (Av.push w.drew (.cells (old ++ arr ++ Builtin.zeroCells z.cells (m - (n + xs.length))) el)) := by
  refine ⟨grownCap w (n + xs.length) cap el, grownCap_ge w _ _ _, ?_⟩
  have h1 : ¬ (n + xs.length ≤ cap) := by omega
  have h2 : ¬ (9223372036854775807 < ((n : Int) + (xs.length : Int))) := by omega
  have h3 : ¬ (281474976710656 < Builtin.nextslicecap (n + xs.length) cap * inf.bytes) := by have := growslice_fits (need := n + xs.length) (old := cap) (bytes := inf.bytes) hfit hb; omega
  unfold srcT at hx
  cases hd : P.underlying xT with
  | none => rw [hd] at hx; cases hx
  | some d =>
    rw [hd] at hx
    cases d <;> first | (cases hx; done) | skip
    all_goals
      simp [Builtin.append_, bind, run_bind, run_und hT, run_und hd, run_size hi, run_info hi, hlen, h1, h2, h3, hz, zeroValue, run_room, choose, Question.forced, hcells w.drew rfl, hold w.drew rfl, newRow, newObj, pure, Sem.run, grownCap, Av.push]
end
end Go.Av

namespace Go.Av
set_option linter.unusedVariables false
set_option linter.unusedSimpArgs false

mutual
/-- Forget all references to an object. -/
def kill (k : Nat) : LV → LV
  | .g v => .g v
  | .loc j o => match Nat.beq j k with
    | true => .any
    | false => .loc j o
  | .elt j i o => match Nat.beq j k with
    | true => .any
    | false => .elt j i o
  | .rw j => match Nat.beq j k with
    | true => .any
    | false => .rw j
  | .lsl j l h => match Nat.beq j k with
    | true => .any
    | false => .lsl j l h
  | .mp j => match Nat.beq j k with
    | true => .any
    | false => .mp j
  | .agg cs => .agg (killL k cs)
  | .iface t v => .iface t (kill k v)
  | .func f cs => .func f (killL k cs)
  | .tup cs => .tup (killL k cs)
  | .any => .any
def killL (k : Nat) : List LV → List LV
  | [] => []
  | c :: cs => kill k c :: killL k cs
end
def killO (k : Nat) : List Obj → List Obj
  | [] => []
  | .cells cs :: r => .cells (killL k cs) :: killO k r
  | .row b s es :: r => .row b s es :: killO k r
  | .fcells cs :: r => .fcells cs :: killO k r
  | .frow s es :: r => .frow s es :: killO k r
  | .map es :: r => .map es :: killO k r
  | .mit m s l :: r => .mit m s l :: killO k r
  | .dead :: r => .dead :: killO k r

section
variable {P : Program} {G : Gl} {F : Fz} {σ : List Pl} {O : List Obj} {w : World} {fr : List LV} {a : Act}

theorem set_other {k j : Nat} {p p' : Pl} (h : σ[j]? = some p) (hn : Nat.beq j k = false) : (σ.set k p')[j]? = some p := by
  have : j ≠ k := fun e => by rw [e, Nat.beq_refl] at hn; cases hn
  rw [List.getElem?_set_ne (Ne.symm this)]; exact h

mutual
theorem LRep.kill {k : Nat} {p' : Pl} : ∀ {x : LV} {y : Value}, LRep F σ x y → LRep F (σ.set k p') (kill k x) y
  | .g v, y, h => h
  | .loc j o, y, h => by
    obtain ⟨p, b, c, hp, r⟩ := h
    simp only [Av.kill]
    split
    · trivial
    · rename_i e; exact ⟨p, b, c, set_other hp e, r⟩
  | .elt j i o, y, h => by
    obtain ⟨p, b, c, hp, r⟩ := h
    simp only [Av.kill]
    split
    · trivial
    · rename_i e; exact ⟨p, b, c, set_other hp e, r⟩
  | .rw j, y, h => by
    obtain ⟨p, ad, hp, r⟩ := h
    simp only [Av.kill]
    split
    · trivial
    · rename_i e; exact ⟨p, ad, set_other hp e, r⟩
  | .lsl j l hh, y, h => by
    obtain ⟨p, ad, hp, r⟩ := h
    simp only [Av.kill]
    split
    · trivial
    · rename_i e; exact ⟨p, ad, set_other hp e, r⟩
  | .mp j, y, h => by
    obtain ⟨p, b, c, hp, r⟩ := h
    simp only [Av.kill]
    split
    · trivial
    · rename_i e; exact ⟨p, b, c, set_other hp e, r⟩
  | .agg cs, y, h => by obtain ⟨ys, e, r⟩ := h; simp only [Av.kill]; exact ⟨ys, e, LRepL.kill r⟩
  | .iface t v, y, h => by obtain ⟨u, e, r⟩ := h; simp only [Av.kill]; exact ⟨u, e, LRep.kill r⟩
  | .func f cs, y, h => by obtain ⟨ys, e, r⟩ := h; simp only [Av.kill]; exact ⟨ys, e, LRepL.kill r⟩
  | .tup cs, y, h => by obtain ⟨ys, e, r⟩ := h; simp only [Av.kill]; exact ⟨ys, e, LRepL.kill r⟩
  | .any, y, h => trivial
theorem LRepL.kill {k : Nat} {p' : Pl} : ∀ {xs : List LV} {ys : List Value}, LRepL F σ xs ys → LRepL F (σ.set k p') (killL k xs) ys
  | [], ys, h => h
  | x :: xs, ys, h => by obtain ⟨y, r, e, hx, hr⟩ := h; exact ⟨y, r, e, LRep.kill hx, LRepL.kill hr⟩
end

theorem killO_length (k : Nat) : ∀ O : List Obj, (killO k O).length = O.length
  | [] => rfl
  | o :: r => by cases o <;> simp [killO, killO_length k r]
theorem killO_get (k : Nat) : ∀ (O : List Obj) (j : Nat) (o : Obj), (killO k O)[j]? = some o → ∃ o', O[j]? = some o' ∧ o'.live = o.live ∧ ((o = o' ∧ ∀ cs, o ≠ .cells cs) ∨ ∃ cs, o' = .cells cs ∧ o = .cells (killL k cs))
  | [], j, o, h => by simp [killO] at h
  | o' :: r, 0, o, h => by
    cases o' <;> simp only [killO, List.getElem?_cons_zero, Option.some.injEq] at h <;> subst h
    case cells cs => exact ⟨_, rfl, rfl, .inr ⟨_, rfl, rfl⟩⟩
    all_goals exact ⟨_, rfl, rfl, .inl ⟨rfl, fun cs h => by cases h⟩⟩
  | o' :: r, j + 1, o, h => by
    have : (killO k r)[j]? = some o := by cases o' <;> simpa [killO] using h
    obtain ⟨x, hx, rest⟩ := killO_get k r j o this
    exact ⟨x, by simpa using hx, rest⟩

theorem live_none (hs : St G F σ O w) {k : Nat} {ob : Obj} {p : Pl} (hk : O[k]? = some ob) (hp : σ[k]? = some p) (hl : ob.live = true) {b c : Nat} (hat : p.at_ = some (b, c)) : F b = none := by
  have h := hs.obj k ob p hk hp
  cases ob with
  | cells cs => obtain ⟨b', arr, e, z, hat', hF, _⟩ := h; rw [hat] at hat'; obtain ⟨rfl, _⟩ := Prod.mk.inj (Option.some.inj hat'); exact hF
  | row b s es =>
    obtain ⟨_, _, _, h⟩ := h
    rcases h with ⟨hno, _⟩ | ⟨b', o, arr, e, z, hat', hF, _⟩
    · rw [hat] at hno; cases hno
    · rw [hat] at hat'; obtain ⟨rfl, _⟩ := Prod.mk.inj (Option.some.inj hat'); exact hF
  | map es => obtain ⟨b', ents, hat', hF, _⟩ := h; rw [hat] at hat'; obtain ⟨rfl, _⟩ := Prod.mk.inj (Option.some.inj hat'); exact hF
  | mit km since seen => obtain ⟨b', m, pm, ents, hat', hF, _⟩ := h; rw [hat] at hat'; obtain ⟨rfl, _⟩ := Prod.mk.inj (Option.some.inj hat'); exact hF
  | _ => cases hl

/-- An object's place turns; all references to it are forgotten. -/
theorem St.swap (hs : St G F σ O w) {k : Nat} {ob o : Obj} {p p' : Pl} {w' : World} (hk : O[k]? = some ob) (hl : ob.live = true) (hl' : o.live = true) (hp : σ[k]? = some p)
    (hsz : w.heap.size ≤ w'.heap.size) (hos : w'.os = w.os) (htp : w'.tape = w.tape) (hout : w'.output = w.output)
    (hw : ∀ b, b < w.heap.size → (∀ c, p.at_ ≠ some (b, c)) → w'.heap[b]? = w.heap[b]?)
    (hp' : ∀ b c, p'.at_ = some (b, c) → b < w'.heap.size ∧ ((∃ c', p.at_ = some (b, c')) ∨ w.heap.size ≤ b))
    (ho : ObjOk F (σ.set k p') w' o p') (hpin : p.pin = false) (hpin' : pinOk o p') : St G F (σ.set k p') ((killO k O).set k o) w' ∧ Step F σ w F (σ.set k p') w' := by
  have hkl : k < O.length := (List.getElem?_eq_some_iff.1 hk).1
  have hkl' : k < σ.length := (List.getElem?_eq_some_iff.1 hp).1
  constructor
  · refine ⟨?_, hs.gl, by simp [hs.len, killO_length], ?_, ?_, ?_, ?_⟩
    · intro b arr hb
      obtain ⟨e, z, h⟩ := hs.fz b arr hb
      refine ⟨e, z, ?_⟩
      rw [hw b (Array.getElem?_eq_some_iff.1 h).1 (fun c hc => by rw [live_none hs hk hp hl hc] at hb; cases hb)]; exact h
    · intro j o' q ho' hq
      by_cases hj : j = k
      · subst hj
        rw [List.getElem?_set_self (by rw [killO_length]; exact hkl)] at ho'
        rw [List.getElem?_set_self hkl'] at hq
        obtain rfl := Option.some.inj ho'; obtain rfl := Option.some.inj hq
        exact ho
      · rw [List.getElem?_set_ne (Ne.symm hj)] at ho' hq
        obtain ⟨o'', ho'', hlv, hcase⟩ := killO_get k O j o' ho'
        have hok := hs.obj j o'' q ho'' hq
        have hbk : ∀ b c, o''.live = true → q.at_ = some (b, c) → w'.heap[b]? = w.heap[b]? := by
          intro b c hl2 hat
          refine hw b (hs.lt hq hat) fun c' hc' => ?_
          exact hs.apart j k q p o'' ob b c b c' hj ho'' hk hl2 hl hq hp hat hc' rfl
        rcases hcase with ⟨rfl, hnc⟩ | ⟨cs, rfl, rfl⟩
        · cases o' with
          | cells cs => exact absurd rfl (hnc cs)
          | row b s es => exact hok.keep (Fz.le_refl F) (σ' := σ) (fun _ _ h => h) (fun b c h1 h2 => ⟨hbk b c h1 h2, id⟩)
          | fcells cs => exact hok
          | frow s es => exact hok
          | map es =>
            obtain ⟨b, ents, hat, hn, hw1, hr⟩ := hok
            exact ⟨b, ents, hat, hn, by rw [hbk b 0 rfl hat]; exact hw1, hr⟩
          | mit km since seen =>
            obtain ⟨b, m, pm, ents, hat, hn, hw1, e1, e2, e3, e4⟩ := hok
            refine ⟨b, m, pm, ents, hat, hn, by rw [hbk b 0 rfl hat]; exact hw1, e1, ?_, e3, e4⟩
            by_cases hkm : km = k
            · subst hkm; rw [hp] at e2; obtain rfl := Option.some.inj e2
              rw [hpin] at e4; cases e4
            · rw [List.getElem?_set_ne (Ne.symm hkm)]; exact e2
          | dead => trivial
        · obtain ⟨b, arr, e, z, hat, hn, hb, hf, h1, hr⟩ := hok
          exact ⟨b, arr, e, z, hat, hn, by rw [hbk b 0 rfl hat]; exact hb, hf, h1, hr.kill⟩
    · intro q hq b c hat
      rcases List.mem_or_eq_of_mem_set hq with hq | rfl
      · exact Nat.lt_of_lt_of_le (hs.inside q hq b c hat) hsz
      · exact (hp' b c hat).1
    · intro i j p1 p2 oi oj b1 c1 b2 c2 hij hi hj li lj hpi hpj ha hb
      -- what stands at an index: the swapped object, or one that was there
      have look : ∀ {m : Nat} {om : Obj} {q : Pl} {b c : Nat}, ((killO k O).set k o)[m]? = some om → om.live = true → (σ.set k p')[m]? = some q → q.at_ = some (b, c) →
          (m = k ∧ ((∃ c', p.at_ = some (b, c')) ∨ w.heap.size ≤ b)) ∨ (m ≠ k ∧ ∃ om', O[m]? = some om' ∧ om'.live = true ∧ σ[m]? = some q ∧ b < w.heap.size) := by
        intro m om q b c h1 h2 h3 h4
        by_cases hm' : m = k
        · subst hm'
          rw [List.getElem?_set_self hkl'] at h3
          obtain rfl := Option.some.inj h3
          exact .inl ⟨rfl, (hp' b c h4).2⟩
        · rw [List.getElem?_set_ne (Ne.symm hm')] at h1 h3
          obtain ⟨om', ho'', hlv, _⟩ := killO_get k O m om h1
          exact .inr ⟨hm', om', ho'', by rw [hlv]; exact h2, h3, hs.lt h3 h4⟩
      rcases look hi li hpi ha with ⟨rfl, x1⟩ | ⟨n1, om1, y1, z1, v1, u1⟩ <;> rcases look hj lj hpj hb with ⟨rfl, x2⟩ | ⟨n2, om2, y2, z2, v2, u2⟩
      · exact absurd rfl hij
      · rcases x1 with ⟨c', hc'⟩ | hge
        · exact hs.apart i j p p2 ob om2 b1 c' b2 c2 hij hk y2 hl z2 hp v2 hc' hb
        · omega
      · rcases x2 with ⟨c', hc'⟩ | hge
        · exact hs.apart i j p1 p om1 ob b1 c1 b2 c' hij y1 hk z1 hl v1 hp ha hc'
        · omega
      · exact hs.apart i j p1 p2 om1 om2 b1 c1 b2 c2 hij y1 y2 z1 z2 v1 v2 ha hb
    · intro j o' q ho' hq
      by_cases hj : j = k
      · subst hj
        rw [List.getElem?_set_self (by rw [killO_length]; exact hkl)] at ho'
        rw [List.getElem?_set_self hkl'] at hq
        obtain rfl := Option.some.inj ho'; obtain rfl := Option.some.inj hq
        exact hpin'
      · rw [List.getElem?_set_ne (Ne.symm hj)] at ho' hq
        obtain ⟨o'', ho'', hlv, hcase⟩ := killO_get k O j o' ho'
        have := hs.pin j o'' q ho'' hq
        rcases hcase with ⟨rfl, _⟩ | ⟨cs, rfl, rfl⟩
        · exact this
        · exact this
  · refine ⟨Fz.le_refl F, ?_, fun b h h' => absurd h h', ?_, hsz, hos, htp, hout, ?_, by simp⟩
    · intro b hb
      refine hw b (Nat.lt_of_not_le fun h => hb (.inl h)) fun c hc => hb (.inr ⟨p, List.mem_of_getElem? hp, c, hc⟩)
    · intro q hq b c hat
      rcases List.mem_or_eq_of_mem_set hq with hq | rfl
      · exact .inr ⟨q, hq, c, hat⟩
      · rcases (hp' b c hat).2 with ⟨c', hc'⟩ | hge
        · exact .inr ⟨p, List.mem_of_getElem? hp, c', hc'⟩
        · exact .inl hge
    · intro j q hq hqp
      by_cases hj : j = k
      · subst hj; rw [hp] at hq; obtain rfl := Option.some.inj hq
        rw [hpin] at hqp; cases hqp
      · rw [List.getElem?_set_ne (Ne.symm hj)]; exact hq
end
end Go.Av

namespace Go.Av
set_option linter.unusedVariables false
set_option linter.unusedSimpArgs false

/-- What an effect comes to, under its condition: the frame (references may be forgotten), the value, the objects. -/
structure ER where
  ok : Prop
  fr : List LV
  v : LV
  O : List Obj

def noE : ER := ⟨False, [], .any, []⟩

def allocE (zs : List V) (fr : List LV) (O : List Obj) : ER :=
  match allOneV zs with
  | true => ⟨True, fr, .loc O.length 0, O ++ [.cells (zs.map .g)]⟩
  | false => noE
def boxE (x : LV) (fr : List LV) (O : List Obj) : ER :=
  match cellsV x with
  | some ys => ⟨True, fr, .loc O.length 0, O ++ [.cells ys]⟩
  | none => noE
/-- Frozen values alone. -/
def closed : List LV → Option (List V)
  | [] => some []
  | .g v :: r => match closed r with
    | some vs => some (v :: vs)
    | none => none
  | _ :: _ => none
def storeE (n : Nat) (x v : LV) (fr : List LV) (O : List Obj) : ER :=
  match x with
  | .loc k off => match og O k with
    | .cells cs => match cellsV v with
      | some ys => ⟨ys.length = n ∧ lg (off + n) cs, fr, .any, os O k (.cells (fillL cs off ys))⟩
      | none => noE
    | _ => noE
  | .elt k i off => match og O k with
    | .row pn s es => match cellsV v with
      | some ys => match closed ys with
        | some vs => ⟨i < es.length ∧ vs.length = n ∧ off + n ≤ s, fr, .any, os O k (.row pn s (es.set i (fillL (es.getD i []) off vs)))⟩
        | none => noE
      | none => noE
    | _ => noE
  | _ => noE
def appE (s bytes : Nat) (x y : LV) (fr : List LV) (O : List Obj) : ER :=
  match srcV O s y with
  | none => noE
  | some xs => match x with
    | .g .nils => ⟨xs.length * bytes ≤ 140737488355328 ∧ xs.length ≤ 9223372036854775807, fr, .rw O.length, O ++ [.row false s xs]⟩
    | .rw k => match og O k with
      | .row pn s' es => ⟨pn = false ∧ s' = s ∧ (es.length + xs.length) * bytes ≤ 140737488355328 ∧ es.length + xs.length ≤ 9223372036854775807, killL k fr, .rw k, os (killO k O) k (.row false s (es ++ xs))⟩
      | _ => noE
    | .lsl k lo hi => match og O k with
      | .row pn s' es => ⟨pn = false ∧ lo = 0 ∧ s' = s ∧ (hi + xs.length) * bytes ≤ 140737488355328 ∧ hi + xs.length ≤ 9223372036854775807, killL k fr, .rw k, os (killO k O) k (.row false s (es.take hi ++ xs))⟩
      | _ => noE
    | _ => noE

section
variable {P : Program} {G : Gl} {F : Fz} {σ : List Pl} {O : List Obj} {w : World} {fr : List LV} {a : Act}

def GivesE (P : Program) (G : Gl) (F : Fz) (σ : List Pl) (w : World) (a : Act) (o : Oper) (r : ER) : Prop :=
  ∃ y w' F' σ', ((execOp a.eval o).run P w = .ok (.value y) w' ∨ ((execOp a.eval o).run P w = .ok .skip w' ∧ y = undef)) ∧ LRep F' σ' r.v y ∧ LRepL F' σ' r.fr a.tmps.toList ∧ St G F' σ' r.O w' ∧ Step F σ w F' σ' w'

theorem run_newRow (el : TypeId) (cells : Array Value) (w : World) : (newRow el cells).run P w = .ok ⟨w.heap.size, 0, none⟩ (Av.push w (.cells cells el)) := by
  simp [newRow, newObj, bind, run_bind, pure, Sem.run, Av.push]
theorem free0 (arr : Array Value) : Free arr (0, 0) := fun i _ h => by omega

/-- A new box. -/
theorem new_box (hs : St G F σ O w) (hf : LRepL F σ fr a.tmps.toList) {cs : List LV} {arr : Array Value} {el : TypeId} (hc : LRepL F σ cs arr.toList) (h1 : oneAll arr.toList) :
    ∃ σ', LRep F σ' (.loc O.length 0) (.pointer (some ⟨w.heap.size, 0, none⟩)) ∧ LRepL F σ' fr a.tmps.toList ∧ St G F σ' (O ++ [.cells cs]) (Av.push w (.cells arr el)) ∧ Step F σ w F σ' (Av.push w (.cells arr el)) := by
  have hext : ∀ (k : Nat) (q : Pl), σ[k]? = some q → (σ ++ [(⟨some (w.heap.size, 0), 1, 0, 0, true⟩ : Pl)])[k]? = some q := fun k q h => ext_same h
  have := hs.push (o := .cells cs) (p := ⟨some (w.heap.size, 0), 1, 0, 0, true⟩) (c := 0) (blk := .cells arr el) (fun b c h => by simp only [Option.some.injEq, Prod.mk.injEq] at h; exact h.1.symm)
    ⟨w.heap.size, arr, el, (0, 0), rfl, hs.none_new (Nat.le_refl _), push_at, free0 arr, h1, hc.mono (Fz.le_refl F) hext⟩ rfl
  refine ⟨_, ⟨⟨some (w.heap.size, 0), 1, 0, 0, true⟩, w.heap.size, 0, ?_, rfl, rfl⟩, hf.mono (Fz.le_refl F) hext, this.1, this.2⟩
  rw [hs.len, List.getElem?_append_right (Nat.le_refl _)]; simp

theorem alloc_sound (hs : St G F σ O w) (hf : LRepL F σ fr a.tmps.toList) {o : Oper} {el : TypeId} {inf : TypeInfo} {z : Value} (hi : P.info? el = some inf) (hz : inf.zero = some z)
    (ho : o.op = .alloc el) (hok : (allocE (z.cells.toList.map ofC) fr O).ok) : GivesE P G F σ w a o (allocE (z.cells.toList.map ofC) fr O) := by
  unfold allocE at *
  split at hok
  · rename_i h1
    have hL := repL_ofC F z.cells.toList
    have hone : oneAll z.cells.toList := allOne_rep (LRepL_map_g (σ := σ) hL) (allOneV_map h1)
    obtain ⟨σ', a1, a2, a3, a4⟩ := new_box (el := el) hs hf (LRepL_map_g (σ := σ) hL) hone
    refine ⟨_, _, F, σ', .inl ?_, a1, a2, a3, a4⟩
    simp only [execOp, ho, Instr.alloc, zeroValue, newVar, bind, run_bind, run_info hi, hz, run_newRow, pure, Sem.run]
  · exact hok.elim

theorem box_sound (hs : St G F σ O w) (hf : LRepL F σ fr a.tmps.toList) {o : Oper} {el : TypeId} {x : Operand} {x' : Od} (hx : compOd G x = some x')
    (ho : o.op = .box el x) (hok : (boxE (ev fr x') fr O).ok) : GivesE P G F σ w a o (boxE (ev fr x') fr O) := by
  have h1 := ev_sound hs hf hx
  unfold boxE at *
  split at hok
  · rename_i ys hc
    obtain ⟨hL, hone⟩ := cellsV_rep h1 hc
    obtain ⟨σ', a1, a2, a3, a4⟩ := new_box (el := el) hs hf hL hone
    refine ⟨_, _, F, σ', .inl ?_, a1, a2, a3, a4⟩
    simp only [execOp, ho, Instr.box, newVar, bind, run_bind, run_newRow, pure, Sem.run]
  · exact hok.elim

theorem closed_map : ∀ {ys : List LV} {vs : List V}, closed ys = some vs → ys = vs.map .g
  | [], vs, h => by simp only [closed, Option.some.injEq] at h; subst h; rfl
  | y :: ys, vs, h => by
    cases y <;> simp only [closed] at h
    case g v =>
      split at h
      · rename_i us hu
        obtain rfl := Option.some.inj h
        rw [closed_map hu]; rfl
      · cases h
    all_goals cases h

theorem Array.toList_eq {arr arr' : Array Value} (h : arr.toList = arr'.toList) : arr = arr' := Array.ext' h

theorem RepR.set {arr arr' : Array Value} {s : Nat} : ∀ {es : List (List V)} {o i : Nat} {e' : List V}, RepR F s arr es o → i < es.length → (∀ j, (j < o + i * s ∨ o + (i + 1) * s ≤ j) → arr'[j]? = arr[j]?) → e'.length = s → RepC F arr' e' (o + i * s) → RepR F s arr' (es.set i e') o
  | [], o, i, e', h, hi, _, _, _ => by simp at hi
  | e :: es, o, 0, e', h, hi, hm, hl, hc => by
    obtain ⟨_, _, hr⟩ := h
    refine ⟨hl, by simpa using hc, hr.move fun j hj => hm _ (by right; simp)⟩
  | e :: es, o, i + 1, e', h, hi, hm, hl, hc => by
    obtain ⟨h1, h2, hr⟩ := h
    have e1 : (i + 1) * s = s + i * s := by rw [Nat.add_mul]; omega
    have e2 : (i + 1 + 1) * s = s + (i + 1) * s := by rw [Nat.add_mul]; omega
    refine ⟨h1, h2.move fun j hj => hm _ (by left; omega), RepR.set hr (by simpa using hi) (fun j hj => hm j (by omega)) hl ?_⟩
    rwa [show o + s + i * s = o + (i + 1) * s from by omega]

theorem fillL_get {α : Type} : ∀ (cs : List α) (n : Nat) (ys : List α) (j : Nat), n + ys.length ≤ cs.length → (j < n ∨ n + ys.length ≤ j) → (fillL cs n ys)[j]? = cs[j]?
  | cs, n, [], j, _, _ => by rw [fillL_nil]
  | [], n, y :: ys, j, h, _ => by simp at h
  | c :: cs, 0, y :: ys, j, h, hj => by
    cases j with
    | zero => simp at hj
    | succ j =>
      simp only [fillL, List.getElem?_cons_succ]
      exact fillL_get cs 0 ys j (by simp only [List.length_cons] at h; omega) (by simp only [List.length_cons] at hj; omega)
  | c :: cs, n + 1, y :: ys, j, h, hj => by
    cases j with
    | zero => simp [fillL]
    | succ j =>
      simp only [fillL, List.getElem?_cons_succ]
      exact fillL_get cs n (y :: ys) j (by simp only [List.length_cons] at h ⊢; omega) (by omega)

theorem RepC.fill {arr arr' : Array Value} : ∀ {e : List V} {o off : Nat} {vs : List V} {us : List Value}, RepC F arr e o → off + vs.length ≤ e.length → RepL F vs us → oneAll us → arr'.toList = fillL arr.toList (o + off) us → o + e.length ≤ arr.size → RepC F arr' (fillL e off vs) o := by
  intro e o off vs us h hl hv h1 harr hsz
  have hlen : (fillL e off vs).length = e.length := fillL_length _ _ _
  have huv := hv.length
  -- cell by cell
  have key : ∀ j c, (fillL e off vs)[j]? = some c → ∃ y, arr'[o + j]? = some y ∧ oneC y = true ∧ Rep F c y := by
    intro j c hj
    have hjl : j < e.length := by rw [← hlen]; exact (List.getElem?_eq_some_iff.1 hj).1
    by_cases hin : off ≤ j ∧ j < off + vs.length
    · have hget : ∀ {α : Type} (cs : List α) (n : Nat) (ys : List α) (m : Nat), n + ys.length ≤ cs.length → m < ys.length → (fillL cs n ys)[n + m]? = ys[m]? := by
        intro α cs n ys
        induction ys generalizing cs n with
        | nil => intro m _ hm; simp at hm
        | cons y ys ih =>
          intro m hle hm
          simp only [List.length_cons] at hle hm
          rw [fillL_cons _ _ _ _ (by omega)]
          cases m with
          | zero =>
            show (fillL (cs.set n y) (n + 1) ys)[n]? = _
            rw [fillL_get (cs.set n y) (n + 1) ys n (by simp; omega) (by omega), List.getElem?_set_self (by omega)]
            rfl
          | succ m =>
            have := ih (cs.set n y) (n + 1) m (by simp; omega) (by omega)
            rw [show n + (m + 1) = n + 1 + m from by omega, this]; simp
      obtain ⟨m, rfl⟩ : ∃ m, j = off + m := ⟨j - off, by omega⟩
      rw [hget e off vs m hl (by omega)] at hj
      have hlt : m < us.length := by omega
      have hRep : ∀ {vs : List V} {us : List Value}, RepL F vs us → ∀ {m : Nat} {c : V}, vs[m]? = some c → ∃ y, us[m]? = some y ∧ Rep F c y := by
        intro vs
        induction vs with
        | nil => intro us h m c hc; simp at hc
        | cons v vs ih =>
          rintro us ⟨y, r, rfl, hy, hr⟩ m c hc
          cases m with
          | zero => simp at hc; subst hc; exact ⟨y, rfl, hy⟩
          | succ m => exact ih hr (by simpa using hc)
      obtain ⟨y, hy, hr⟩ := hRep hv hj
      refine ⟨y, ?_, h1 y (List.mem_of_getElem? hy), hr⟩
      rw [← Array.getElem?_toList, harr, ← Nat.add_assoc, hget _ _ _ _ (by simp; omega) hlt, hy]
    · rw [fillL_get e off vs j hl (by omega)] at hj
      obtain ⟨y, hy, h2, hr⟩ := h.get hj
      refine ⟨y, ?_, h2, hr⟩
      rw [← Array.getElem?_toList, harr, fillL_get arr.toList (o + off) us (o + j) (by simp; omega) (by omega), Array.getElem?_toList, hy]
  have build : ∀ (cs : List V) (o : Nat), (∀ j c, cs[j]? = some c → ∃ y, arr'[o + j]? = some y ∧ oneC y = true ∧ Rep F c y) → RepC F arr' cs o := by
    intro cs
    induction cs with
    | nil => intro o _; trivial
    | cons c cs ih =>
      intro o hk
      refine ⟨by have := hk 0 c rfl; simpa using this, ih (o + 1) fun j c' hc' => ?_⟩
      have := hk (j + 1) c' (by simpa using hc')
      rwa [show o + (j + 1) = o + 1 + j from by omega] at this
  exact build _ _ key

theorem store_go {o : Oper} {t : TypeId} {x v : Operand} {inf : TypeInfo} {b off : Nat} {w' : World} (hi : P.info? t = some inf) (ho : o.op = .store t x v) (hx : a.eval x = .pointer (some ⟨b, off, none⟩)) (hsz : (a.eval v).cells.size = inf.size)
    (hst : (storeCells ⟨b, off, none⟩ (a.eval v).cells.toList).run P w = .ok () w') : (execOp a.eval o).run P w = .ok .skip w' := by
  simp only [execOp, ho, Instr.storeAt, storeVar, bind, run_bind, pointer_of hx, run_size hi, ne_eq, hsz, not_true_eq_false, if_false, hst, pure, Sem.run]

theorem oneAll_fill {ys vs : List Value} {n : Nat} (h : oneAll ys) (h' : oneAll vs) : oneAll (fillL ys n vs) := by
  induction ys generalizing n vs with
  | nil => cases vs <;> simpa [fillL] using h
  | cons y ys ih =>
    cases vs with
    | nil => rw [fillL_nil]; exact h
    | cons v vs =>
      cases n with
      | zero =>
        intro u hu
        simp only [fillL] at hu
        rcases List.mem_cons.1 hu with rfl | hu
        · exact h' _ (by simp)
        · exact ih (fun u hu => h u (by simp [hu])) (fun u hu => h' u (by simp [hu])) u hu
      | succ n =>
        intro u hu
        simp only [fillL] at hu
        rcases List.mem_cons.1 hu with rfl | hu
        · exact h _ (by simp)
        · exact ih (fun u hu => h u (by simp [hu])) h' u hu

theorem store_sound (hs : St G F σ O w) (hf : LRepL F σ fr a.tmps.toList) {o : Oper} {t : TypeId} {x v : Operand} {x' v' : Od} {inf : TypeInfo} (hx : compOd G x = some x') (hv : compOd G v = some v') (hi : P.info? t = some inf)
    (ho : o.op = .store t x v) (hok : (storeE inf.size (ev fr x') (ev fr v') fr O).ok) : GivesE P G F σ w a o (storeE inf.size (ev fr x') (ev fr v') fr O) := by
  have h1 := ev_sound hs hf hx
  have h2 := ev_sound hs hf hv
  generalize ev fr x' = xv at *
  generalize ev fr v' = vv at *
  unfold storeE at *
  split at hok
  · rename_i k off
    obtain ⟨p, b, o', hp, hat, hy⟩ := h1
    obtain ⟨ob, hO, hog, hob⟩ := place hs hp
    rw [hog] at hok ⊢
    cases ob <;> simp only at hok ⊢
    case cells cs =>
      split at hok
      · rename_i ys hc
        obtain ⟨hl, hg⟩ := hok
        have hg' := lg_iff.1 hg
        obtain ⟨hL, hone⟩ := cellsV_rep h2 hc
        have hlen := hL.length
        obtain ⟨b', arr, e, z, hat', hF, hb, hfree, hones, hcs⟩ := hob
        rw [hat] at hat'; obtain ⟨rfl, rfl⟩ := Prod.mk.inj (Option.some.inj hat')
        rw [Nat.zero_add] at hy
        have hcl := hcs.length
        simp only [Array.length_toList] at hlen hcl
        obtain ⟨arr', hrun, harr⟩ := run_storeCells (P := P) (a.eval v).cells.toList off 0 w arr hb hfree (by simp; omega) hone
        simp only [Nat.add_zero] at harr
        have hasz : arr'.size = arr.size := by rw [← Array.length_toList, harr, fillL_length, Array.length_toList]
        have := hs.put (o := .cells (fillL cs off ys)) hO rfl rfl hp hat hF ⟨b, arr', e, z, hat, hF, put_at (Array.getElem?_eq_some_iff.1 hb).1, hfree.of_size hasz, by rw [harr]; exact oneAll_fill hones hone, by rw [harr]; exact hcs.fill hL (by omega)⟩ id
        refine ⟨undef, _, F, σ, .inr ⟨store_go hi ho hy (by omega) hrun, rfl⟩, trivial, hf, ?_, this.2⟩
        rw [os_eq]; exact this.1
      · exact hok.elim
    all_goals exact (hok : False).elim
  · rename_i k i off
    obtain ⟨p, b, o', hp, hat, hy⟩ := h1
    obtain ⟨ob, hO, hog, hob⟩ := place hs hp
    rw [hog] at hok ⊢
    cases ob <;> simp only at hok ⊢
    case row pn s es =>
      split at hok
      · rename_i ys hc
        split at hok
        · rename_i vs hcl
          obtain ⟨hlt, hn, hof⟩ := hok
          obtain ⟨hL, hone⟩ := cellsV_rep h2 hc
          obtain rfl := closed_map hcl
          have hV := LRepL_g_inv hL
          have hlen := hV.length
          have hob' := hob
          obtain ⟨hps, hel, hcap, hrow⟩ := hob
          rcases hrow with ⟨hno, _⟩ | ⟨b', o'', arr, e, z, hat', hF, hb, hfree, hfit, hr⟩
          · rw [hat] at hno; cases hno
          · rw [hat] at hat'; obtain ⟨rfl, rfl⟩ := Prod.mk.inj (Option.some.inj hat')
            rw [hps] at hy
            simp only [Array.length_toList] at hlen
            have hge : es.getD i [] = es[i] := by rw [List.getD_eq_getElem?_getD, List.getElem?_eq_getElem hlt]; rfl
            obtain ⟨hes, hce⟩ := hr.get (List.getElem?_eq_getElem hlt)
            have hin : i * s + s ≤ p.cap * s := by
              have : (i + 1) * s ≤ p.cap * s := Nat.mul_le_mul_right _ (by omega)
              rwa [Nat.add_mul, Nat.one_mul] at this
            obtain ⟨arr', hrun, harr⟩ := run_storeCells (P := P) (a.eval v).cells.toList (o' + i * s + off) 0 w arr hb hfree (by simp; omega) hone
            simp only [Nat.add_zero] at harr
            have hasz : arr'.size = arr.size := by rw [← Array.length_toList, harr, fillL_length, Array.length_toList]
            have hget : ∀ j, (j < o' + i * s + off ∨ o' + i * s + off + (a.eval v).cells.toList.length ≤ j) → arr'[j]? = arr[j]? := by
              intro j hj
              rw [← Array.getElem?_toList, harr, fillL_get _ _ _ _ (by simp; omega) hj, Array.getElem?_toList]
            have hnew : RepR F s arr' (es.set i (fillL (es.getD i []) off vs)) o' := by
              refine hr.set hlt (fun j hj => hget j ?_) (by rw [fillL_length, hge]; exact hes) ?_
              · simp only [Array.length_toList]
                rcases hj with hj | hj
                · left; omega
                · right; rw [Nat.add_mul, Nat.one_mul] at hj; omega
              · rw [hge]
                exact hce.fill (by omega) hV hone harr (by omega)
            have := hs.put (o := .row pn s (es.set i (fillL (es.getD i []) off vs))) hO rfl rfl hp hat hF ⟨hps, by simpa using hel, hcap, .inr ⟨b, o', arr', e, z, hat, hF, put_at (Array.getElem?_eq_some_iff.1 hb).1, hfree.of_size hasz, by omega, hnew⟩⟩ id
            refine ⟨undef, _, F, σ, .inr ⟨store_go hi ho hy (by omega) hrun, rfl⟩, trivial, hf, ?_, this.2⟩
            rw [os_eq]; exact this.1
        · exact (hok : False).elim
      · exact (hok : False).elim
    all_goals exact (hok : False).elim
  · exact hok.elim
end
end Go.Av

namespace Go.Av
set_option linter.unusedVariables false
set_option linter.unusedSimpArgs false

section
variable {P : Program} {G : Gl} {F : Fz} {σ : List Pl} {O : List Obj} {w : World} {fr : List LV} {a : Act}

theorem app_go {o : Oper} {sT xT : TypeId} {x y : Operand} {v : Value} {w' : World} (ho : o.op = .call { callee := .builtin .append, args := #[x, y], argTypes := #[sT, xT] })
    (hr : (Builtin.append_ #[sT, xT] o.type #[a.eval x, a.eval y]).run P w = .ok v w') : (execOp a.eval o).run P w = .ok (.value v) w' := by
  simp only [execOp, ho, resolve, invoke, builtin, bind, run_bind, pure, Sem.run, List.map_toArray, List.map_cons, List.map_nil, hr]

theorem St.drew (hs : St G F σ O w) : St G F σ O w.drew := St.of_heap (w := w) (w' := w.drew) rfl hs
theorem Step.drew (F : Fz) (σ : List Pl) (w : World) : Step F σ w F σ w.drew := Step.drawn F σ w (w.drawn + 1)

/-- A new row of cells that hold the given elements at its head. -/
theorem new_row (hs : St G F σ O w) (hf : LRepL F σ fr a.tmps.toList) {s m : Nat} {es : List (List V)} {arr : Array Value} {el : TypeId} (hr : RepR F s arr es 0) (hsz : arr.size = m * s) (hm : es.length ≤ m) (h63 : es.length ≤ 9223372036854775807) :
    ∃ σ', LRep F σ' (.rw O.length) (.slice (some ⟨w.heap.size, 0, none⟩) es.length m) ∧ LRepL F σ' fr a.tmps.toList ∧ St G F σ' (O ++ [.row false s es]) (Av.push w (.cells arr el)) ∧ Step F σ w F σ' (Av.push w (.cells arr el)) := by
  have hext : ∀ (k : Nat) (q : Pl), σ[k]? = some q → (σ ++ [(⟨some (w.heap.size, 0), s, es.length, m, false⟩ : Pl)])[k]? = some q := fun k q h => ext_same h
  have := hs.push (o := .row false s es) (p := ⟨some (w.heap.size, 0), s, es.length, m, false⟩) (c := 0) (blk := .cells arr el) (fun b c h => by simp only [Option.some.injEq, Prod.mk.injEq] at h; exact h.1.symm)
    ⟨rfl, rfl, Nat.le_min.2 ⟨hm, h63⟩, .inr ⟨w.heap.size, 0, arr, el, (0, 0), rfl, hs.none_new (Nat.le_refl _), push_at, free0 arr, by simp; omega, hr⟩⟩ rfl
  refine ⟨_, ⟨⟨some (w.heap.size, 0), s, es.length, m, false⟩, _, ?_, rfl, .inr ⟨w.heap.size, 0, rfl, rfl⟩⟩, hf.mono (Fz.le_refl F) hext, this.1, this.2⟩
  rw [hs.len, List.getElem?_append_right (Nat.le_refl _)]; simp

/-- An empty row that is nil. -/
theorem nil_row (hs : St G F σ O w) (hf : LRepL F σ fr a.tmps.toList) (s : Nat) (ad : Option Addr := none) :
    ∃ σ', LRep F σ' (.rw O.length) (.slice ad 0 0) ∧ LRepL F σ' fr a.tmps.toList ∧ St G F σ' (O ++ [.row false s []]) w ∧ Step F σ w F σ' w := by
  have hext : ∀ (k : Nat) (q : Pl), σ[k]? = some q → (σ ++ [(⟨none, s, 0, 0, false⟩ : Pl)])[k]? = some q := fun k q h => ext_same h
  refine ⟨σ ++ [⟨none, s, 0, 0, false⟩], ⟨⟨none, s, 0, 0, false⟩, ad, ?_, rfl, .inl ⟨rfl, rfl⟩⟩, hf.mono (Fz.le_refl F) hext, ?_, ?_⟩
  · rw [hs.len, List.getElem?_append_right (Nat.le_refl _)]; simp
  · refine ⟨hs.fz, hs.gl, by simp [hs.len], ?_, ?_, ?_, ?_⟩
    · intro k o' p' ho' hp'
      by_cases hk : k < O.length
      · rw [List.getElem?_append_left hk] at ho'
        rw [List.getElem?_append_left (by rw [← hs.len]; exact hk)] at hp'
        exact (hs.obj k o' p' ho' hp').keep (Fz.le_refl F) hext fun b c _ _ => ⟨rfl, id⟩
      · have hk' : k = O.length := by
          have := (List.getElem?_eq_some_iff.1 ho').1
          simp at this; omega
        subst hk'
        rw [List.getElem?_append_right (Nat.le_refl _)] at ho'
        rw [List.getElem?_append_right (by rw [hs.len]; exact Nat.le_refl _)] at hp'
        simp only [Nat.sub_self, hs.len, List.getElem?_cons_zero, Option.some.injEq] at ho' hp'
        subst ho' hp'; exact ⟨rfl, rfl, Nat.le_refl _, .inl ⟨rfl, rfl⟩⟩
    · intro q hq b c hat
      rcases List.mem_append.1 hq with hq | hq
      · exact hs.inside q hq b c hat
      · simp only [List.mem_singleton] at hq; subst hq; cases hat
    · intro i j p1 p2 oi oj b c d e hij hi hj li lj hpi hpj ha hb
      have left : ∀ {k : Nat} {q : Pl} {ob : Obj} {b c : Nat}, (O ++ [Obj.row false s []])[k]? = some ob → (σ ++ [(⟨none, s, 0, 0, false⟩ : Pl)])[k]? = some q → q.at_ = some (b, c) → O[k]? = some ob ∧ σ[k]? = some q := by
        intro k q ob b c h1 h2 h3
        by_cases hk : k < O.length
        · rw [List.getElem?_append_left hk] at h1
          rw [List.getElem?_append_left (by rw [← hs.len]; exact hk)] at h2
          exact ⟨h1, h2⟩
        · have hk' : k = O.length := by
            have := (List.getElem?_eq_some_iff.1 h1).1
            simp at this; omega
          subst hk'
          rw [List.getElem?_append_right (by rw [hs.len]; exact Nat.le_refl _)] at h2
          simp only [hs.len, Nat.sub_self, List.getElem?_cons_zero, Option.some.injEq] at h2
          subst h2; cases h3
      obtain ⟨a1, a2⟩ := left hi hpi ha
      obtain ⟨b1, b2⟩ := left hj hpj hb
      exact hs.apart i j p1 p2 oi oj b c d e hij a1 b1 li lj a2 b2 ha hb
    · intro k o' p' ho' hp'
      by_cases hk : k < O.length
      · rw [List.getElem?_append_left hk] at ho'
        rw [List.getElem?_append_left (by rw [← hs.len]; exact hk)] at hp'
        exact hs.pin k o' p' ho' hp'
      · have hk' : k = O.length := by
          have := (List.getElem?_eq_some_iff.1 ho').1
          simp at this; omega
        subst hk'
        rw [List.getElem?_append_right (Nat.le_refl _)] at ho'
        rw [List.getElem?_append_right (by rw [hs.len]; exact Nat.le_refl _)] at hp'
        simp only [Nat.sub_self, hs.len, List.getElem?_cons_zero, Option.some.injEq] at ho' hp'
        subst ho' hp'; exact rfl
  · refine ⟨Fz.le_refl F, fun _ _ => rfl, fun b h h' => absurd h h', ?_, Nat.le_refl _, rfl, rfl, rfl, fun _ _ h _ => hext _ _ h, by simp⟩
    intro q hq b c hat
    rcases List.mem_append.1 hq with hq | hq
    · exact .inr ⟨q, hq, c, hat⟩
    · simp only [List.mem_singleton] at hq; subst hq; cases hat

theorem zeroCells_size {z : Array Value} {n : Nat} : (Builtin.zeroCells z n).size = n * z.size := by simp [Builtin.zeroCells]

/-- The grown array: the old elements, the new ones, zeros. -/
theorem grown_arr {s n m : Nat} {es xs : List (List V)} {old new : Array Value} {z : Value} {inf : TypeInfo} (hz : z.cells.size = s) (ho : RepR F s old es 0) (hol : old.size = es.length * s) (hn : RepR F s new xs 0) (hnl : new.size = xs.length * s) (hm : es.length + xs.length ≤ m) :
    RepR F s (old ++ new ++ Builtin.zeroCells z.cells (m - (es.length + xs.length))) (es ++ xs) 0 ∧ (old ++ new ++ Builtin.zeroCells z.cells (m - (es.length + xs.length))).size = m * s := by
  constructor
  · refine RepR.append (ho.move fun j hj => ?_) (hn.move fun j hj => ?_)
    · simp only [Nat.zero_add]
      rw [Array.getElem?_append_left (by simp; omega), Array.getElem?_append_left (by omega)]
    · simp only [Nat.zero_add]
      rw [Array.getElem?_append_left (by simp; omega), Array.getElem?_append_right (by omega)]
      congr 1; omega
  · simp only [Array.size_append, zeroCells_size, hol, hnl, hz, ← Nat.add_mul]
    congr 1; omega

theorem row_app (hs : St G F σ O w) (hf : LRepL F σ fr a.tmps.toList) {o : Oper} {sT xT el : TypeId} {x y : Operand} {inf : TypeInfo} {z : Value}
    (hT : P.underlying sT = some (.slice el)) (hi : P.info? el = some inf) (hz : inf.zero = some z) (hzs : z.cells.size = inf.size) (hxT : srcT P xT = true)
    (ho : o.op = .call { callee := .builtin .append, args := #[x, y], argTypes := #[sT, xT] }) {k n : Nat} {es xs : List (List V)} {p : Pl} {ad : Option Addr}
    (hsrc : Src P F w inf.size xs (a.eval y)) (hO : O[k]? = some (.row false inf.size es)) (hp : σ[k]? = some p) (hn : n ≤ es.length)
    (hx : a.eval x = .slice ad n p.cap) (hadr : p.cap = 0 ∨ ∃ b o, p.at_ = some (b, o) ∧ ad = some ⟨b, o, none⟩)
    (hby : (n + xs.length) * inf.bytes ≤ 140737488355328) (h63 : n + xs.length ≤ 9223372036854775807) :
    GivesE P G F σ w a o ⟨True, killL k fr, .rw k, os (killO k O) k (.row false inf.size (es.take n ++ xs))⟩ := by
  have hob := hs.obj k _ p hO hp
  have hpf : p.pin = false := hs.pin k _ p hO hp
  obtain ⟨new, hnl, hnr, hno, hnc⟩ := hsrc.cells
  obtain ⟨hps, hel, hcap, hrow⟩ := hob
  have hkl : k < σ.length := (List.getElem?_eq_some_iff.1 hp).1
  have htl : (es.take n).length = n := by simp; omega
  have hnow : ∀ q, (σ.set k q)[k]? = some q := fun q => List.getElem?_set_self hkl
  simp only [GivesE, os_eq]
  by_cases hfit : n + xs.length ≤ p.cap
  · by_cases hc0 : p.cap = 0
    · -- nothing there, nothing more
      have hx0 : xs = [] := List.eq_nil_of_length_eq_zero (by omega)
      obtain rfl : n = 0 := by omega
      subst hx0
      have hn0 : new = #[] := Array.eq_empty_of_size_eq_zero (by simpa using hnl)
      subst hn0
      have hrun : (Builtin.append_ #[sT, xT] o.type #[a.eval x, a.eval y]).run P w = .ok (.slice ad 0 p.cap) w := by
        rw [hx]
        cases ad with
        | none => exact append_none hT hi hxT hsrc.len (hnc w rfl)
        | some ad => exact append_fits (xs := []) hT hi hxT hsrc.len (by simp) (hnc w rfl) (by simp [storeCells, pure, Sem.run])
      have := hs.swap (p' := ⟨none, inf.size, 0, 0, false⟩) (o := .row false inf.size (es.take 0 ++ [])) (w' := w) hO rfl rfl hp (Nat.le_refl _) rfl rfl rfl (fun _ _ _ => rfl) (fun b c h => by cases h) ⟨rfl, by simp, Nat.le_refl _, .inl ⟨rfl, rfl⟩⟩ hpf rfl
      exact ⟨_, w, F, _, .inl (app_go ho hrun), ⟨_, ad, hnow _, by rw [hc0], .inl ⟨rfl, rfl⟩⟩, hf.kill, this.1, this.2⟩
    · -- within the capacity
      obtain ⟨b, off, hat, rfl⟩ := hadr.resolve_left hc0
      rcases hrow with ⟨hnone, _⟩ | ⟨b', off', arr, e, zz, hat', hF, hb, hfree, hle, hr⟩
      · rw [hat] at hnone; cases hnone
      · rw [hat] at hat'; obtain ⟨rfl, rfl⟩ := Prod.mk.inj (Option.some.inj hat')
        have hin : n * inf.size + xs.length * inf.size ≤ p.cap * inf.size := by rw [← Nat.add_mul]; exact Nat.mul_le_mul_right _ hfit
        obtain ⟨arr', hrun, harr⟩ := run_storeCells (P := P) new.toList (off + n * inf.size) 0 w arr hb hfree (by simp; omega) hno
        simp only [Nat.add_zero] at harr
        have hasz : arr'.size = arr.size := by rw [← Array.length_toList, harr, fillL_length, Array.length_toList]
        have hblt : b < w.heap.size := (Array.getElem?_eq_some_iff.1 hb).1
        have hnewr : RepR F inf.size arr' (es.take n ++ xs) off := by
          refine RepR.append (hr.take.move fun j hj => ?_) (hnr.move fun j hj => ?_)
          · rw [htl] at hj
            rw [← Array.getElem?_toList, harr, fillL_get _ _ _ _ (by simp; omega) (by left; omega), Array.getElem?_toList]
          · rw [htl, Nat.zero_add, ← Array.getElem?_toList, harr]
            have hget : ∀ {α : Type} (ys cs : List α) (n m : Nat), n + ys.length ≤ cs.length → m < ys.length → (fillL cs n ys)[n + m]? = ys[m]? := by
              intro α ys
              induction ys with
              | nil => intro cs n m _ hm; simp at hm
              | cons y ys ih =>
                intro cs n m hle hm
                simp only [List.length_cons] at hle hm
                rw [fillL_cons _ _ _ _ (by omega)]
                cases m with
                | zero =>
                  show (fillL (cs.set n y) (n + 1) ys)[n]? = _
                  rw [fillL_get (cs.set n y) (n + 1) ys n (by simp; omega) (by omega), List.getElem?_set_self (by omega)]
                  rfl
                | succ m =>
                  have := ih (cs.set n y) (n + 1) m (by simp; omega) (by omega)
                  rw [show n + (m + 1) = n + 1 + m from by omega, this]; simp
            rw [hget new.toList arr.toList (off + n * inf.size) j (by simp; omega) (by simp; omega), Array.getElem?_toList]
        have := hs.swap (p' := { p with len := n + xs.length }) (o := .row false inf.size (es.take n ++ xs)) (w' := Av.put w b (.cells arr' e zz)) hO rfl rfl hp (by rw [put_size]; exact Nat.le_refl _) rfl rfl rfl
          (fun b' _ hne => put_ne fun h => hne off (by rw [h]; exact hat)) (fun b' c h => by rw [hat] at h; obtain ⟨rfl, rfl⟩ := Prod.mk.inj (Option.some.inj h); exact ⟨by rw [put_size]; exact hblt, .inl ⟨_, hat⟩⟩)
          ⟨hps, by simp; omega, Nat.le_min.2 ⟨hfit, h63⟩, .inr ⟨b, off, arr', e, zz, hat, hF, put_at hblt, hfree.of_size hasz, by show off + p.cap * inf.size ≤ arr'.size; omega, hnewr⟩⟩ hpf hpf
        refine ⟨_, _, F, σ.set k { p with len := n + xs.length }, .inl (app_go ho (?_ : _ = Result.ok (.slice (some ⟨b, off, none⟩) (n + xs.length) p.cap) (Av.put w b (.cells arr' e zz)))), ⟨_, _, hnow _, rfl, .inr ⟨b, off, hat, rfl⟩⟩, hf.kill, this.1, this.2⟩
        rw [hx]
        exact append_fits hT hi hxT hsrc.len hfit (hnc w rfl) (by rw [add_at]; exact hrun)
  · -- a new array
    have hold : ∃ old : Array Value, RepR F inf.size old (es.take n) 0 ∧ old.size = n * inf.size ∧ ∀ w' : World, w'.heap = w.heap → (Builtin.firstCells inf.size n (.slice ad n p.cap)).run P w' = .ok old w' := by
      rcases hadr with hc0 | ⟨b, off, hat, rfl⟩
      · obtain rfl : n = 0 := by omega
        refine ⟨#[], trivial, by simp, fun w' _ => ?_⟩
        cases ad <;> simp only [Builtin.firstCells, Nat.zero_mul, loadCells, loadCellsFrom, pure, Sem.run]
      · rcases hrow with ⟨hnone, _⟩ | ⟨b', off', arr, e, zz, hat', hF, hb, hfree, hle, hr⟩
        · rw [hat] at hnone; cases hnone
        · rw [hat] at hat'; obtain ⟨rfl, rfl⟩ := Prod.mk.inj (Option.some.inj hat')
          have := src_block (P := P) (cap := p.cap) hb (hr.take (n := n))
          rw [htl] at this
          obtain ⟨old, o1, o2, o3, o4⟩ := this.cells
          rw [htl] at o1 o4
          exact ⟨old, o2, o1, o4⟩
    obtain ⟨old, hor, hol, hoc⟩ := hold
    obtain ⟨m, hm, hrun⟩ := append_grows (P := P) (w := w) (ty := o.type) (base := ad) (n := n) (cap := p.cap) hT hi hz hxT hsrc.len (by omega) hnc hoc hby h63
    obtain ⟨g1, g2⟩ := grown_arr (F := F) (m := m) (es := es.take n) (inf := inf) (n := 0) hzs hor (by rw [htl]; exact hol) hnr hnl (by rw [htl]; exact hm)
    rw [htl] at g1 g2
    have hlt : ∀ b c, p.at_ = some (b, c) → b < w.heap.size := fun b c h => hs.lt hp h
    have := hs.swap (p' := ⟨some (w.heap.size, 0), inf.size, n + xs.length, m, false⟩) (o := .row false inf.size (es.take n ++ xs)) (w' := Av.push w.drew (.cells (old ++ new ++ Builtin.zeroCells z.cells (m - (n + xs.length))) el)) hO rfl rfl hp
      (by rw [push_size]; exact Nat.le_succ _) rfl rfl rfl (fun b' hb' _ => push_lt (w := w.drew) hb') (fun b' c h => by simp only [Option.some.injEq, Prod.mk.injEq] at h; obtain ⟨rfl, rfl⟩ := h; exact ⟨by rw [push_size]; exact Nat.lt_succ_self _, .inr (Nat.le_refl _)⟩)
      ⟨rfl, by simp; omega, Nat.le_min.2 ⟨hm, h63⟩, .inr ⟨w.heap.size, 0, _, el, (0, 0), rfl, hs.none_new (Nat.le_refl _), push_at (w := w.drew), free0 _, by show 0 + m * inf.size ≤ _; rw [g2]; omega, g1⟩⟩ hpf rfl
    refine ⟨_, _, F, _, .inl (app_go ho (by rw [hx]; exact hrun)), ⟨_, _, hnow _, rfl, .inr ⟨w.heap.size, 0, rfl, rfl⟩⟩, hf.kill, this.1, this.2⟩

theorem app_sound (hs : St G F σ O w) (hf : LRepL F σ fr a.tmps.toList) {o : Oper} {sT xT el : TypeId} {x y : Operand} {x' y' : Od} {inf : TypeInfo} {z : Value} (hx : compOd G x = some x') (hy : compOd G y = some y')
    (hT : P.underlying sT = some (.slice el)) (hi : P.info? el = some inf) (hz : inf.zero = some z) (hzs : z.cells.size = inf.size) (hxT : srcT P xT = true)
    (ho : o.op = .call { callee := .builtin .append, args := #[x, y], argTypes := #[sT, xT] }) (hok : (appE inf.size inf.bytes (ev fr x') (ev fr y') fr O).ok) : GivesE P G F σ w a o (appE inf.size inf.bytes (ev fr x') (ev fr y') fr O) := by
  have h1 := ev_sound hs hf hx
  have h2 := ev_sound hs hf hy
  generalize ev fr x' = xv at *
  generalize ev fr y' = yv at *
  unfold appE at *
  split at hok
  · exact (hok : False).elim
  · rename_i xs hsrcv
    have hsrc := src_sound (P := P) hs h2 hsrcv
    obtain ⟨new, hnl, hnr, hno, hnc⟩ := hsrc.cells
    split at hok
    · -- onto nil
      obtain ⟨hby, h63⟩ := hok
      simp only [LRep, Rep] at h1
      by_cases h0 : xs = []
      · subst h0
        obtain ⟨σ', a1, a2, a3, a4⟩ := nil_row hs hf inf.size
        refine ⟨_, _, F, σ', .inl (app_go ho ?_), a1, a2, a3, a4⟩
        rw [h1]
        exact append_none hT hi hxT hsrc.len (hnc w rfl)
      · have hpos : 0 < xs.length := List.length_pos_iff.2 h0
        obtain ⟨m, hm, hrun⟩ := append_grows (P := P) (w := w) (ty := o.type) (base := none) (n := 0) (cap := 0) hT hi hz hxT hsrc.len (by omega) hnc (old := #[]) (fun w' _ => by simp only [Builtin.firstCells, pure, Sem.run]) (by simpa using hby) (by simpa using h63)
        simp only [Nat.zero_add] at hm hrun
        obtain ⟨g1, g2⟩ := grown_arr (F := F) (m := m) (es := []) (old := #[]) (inf := inf) (n := 0) hzs (trivial : RepR F inf.size #[] [] 0) (by simp) hnr hnl (by simpa using hm)
        simp only [List.length_nil, Nat.zero_add, List.nil_append] at g1 g2
        obtain ⟨σ', a1, a2, a3, a4⟩ := new_row (el := el) hs.drew hf g1 g2 hm h63
        refine ⟨_, _, F, σ', .inl (app_go ho ?_), a1, a2, a3, (Step.drew F σ w).trans a4⟩
        rw [h1]; exact hrun
    · -- onto a row of the call's own
      rename_i k
      obtain ⟨p, ad, hp, hy', hr⟩ := h1
      obtain ⟨ob, hO, hog, hob⟩ := place hs hp
      rw [hog] at hok ⊢
      cases ob <;> simp only at hok ⊢
      case row pn s' es =>
        obtain ⟨rfl, rfl, hby, h63⟩ := hok
        obtain ⟨hps, hel, hcap, hrow⟩ := hob
        have := row_app (n := es.length) hs hf hT hi hz hzs hxT ho hsrc hO hp (Nat.le_refl _) (by rw [hy', hel]) (hr.imp (fun h => h.2) id) hby h63
        rwa [List.take_length] at this
      all_goals exact (hok : False).elim
    · rename_i k lo hi0
      obtain ⟨p, ad, hp, hy', hlo, hhi, hr⟩ := h1
      obtain ⟨ob, hO, hog, hob⟩ := place hs hp
      rw [hog] at hok ⊢
      cases ob <;> simp only at hok ⊢
      case row pn s' es =>
        obtain ⟨rfl, rfl, rfl, hby, h63⟩ := hok
        obtain ⟨hps, hel, hcap, hrow⟩ := hob
        refine row_app (n := hi0) (ad := ad) hs hf hT hi hz hzs hxT ho hsrc hO hp (by omega) (show a.eval x = .slice ad hi0 p.cap from hy') (hr.imp id ?_) hby h63
        rintro ⟨b, o', h1, h2⟩
        exact ⟨b, o', h1, by rw [h2, Nat.zero_mul, Nat.add_zero]⟩
      all_goals exact (hok : False).elim
    · exact (hok : False).elim
end
end Go.Av

namespace Go.Av
set_option linter.unusedVariables false
set_option linter.unusedSimpArgs false

mutual
/-- A value without references: those to frozen objects are read through. -/
def tv (O : List Obj) : LV → Option V
  | .g v => some v
  | .loc k off => match og O k with
    | .fcells cs => some (.fptr (dr off cs))
    | _ => none
  | .rw k => match og O k with
    | .frow s es => some (.fsl s es)
    | _ => none
  | .lsl k lo hi => match og O k with
    | .frow s es => some (.fsl s ((es.take hi).drop lo))
    | _ => none
  | .agg cs => match tvL O cs with
    | some vs => some (.agg vs)
    | none => none
  | .iface t v => match tv O v with
    | some u => some (.iface t u)
    | none => none
  | .func f cs => match tvL O cs with
    | some vs => some (.func f vs)
    | none => none
  | .tup cs => match tvL O cs with
    | some vs => some (.tup vs)
    | none => none
  | .elt _ _ _ => none
  | .mp _ => none
  | .any => none
def tvL (O : List Obj) : List LV → Option (List V)
  | [] => some []
  | c :: cs => match tv O c with
    | some v => match tvL O cs with
      | some vs => some (v :: vs)
      | none => none
    | none => none
end

/-- Freeze a box whose cells are free of references. -/
def fzk (k : Nat) (O : List Obj) : List Obj :=
  match og O k with
  | .cells cs => match tvL O cs with
    | some vs => os O k (.fcells vs)
    | none => O
  | _ => O

mutual
/-- Freeze what a value leads to. -/
def fz : Nat → LV → List Obj → List Obj
  | 0, _, O => O
  | n + 1, .loc k off, O => match og O k with
    | .cells cs => fzk k (fzL n cs O)
    | _ => O
  | _ + 1, .rw k, O => match og O k with
    | .row _ s es => os O k (.frow s es)
    | _ => O
  | _ + 1, .lsl k _ _, O => match og O k with
    | .row _ s es => os O k (.frow s es)
    | _ => O
  | n + 1, .agg cs, O => fzL n cs O
  | n + 1, .iface _ v, O => fz n v O
  | n + 1, .func _ cs, O => fzL n cs O
  | n + 1, .tup cs, O => fzL n cs O
  | _ + 1, .g _, O => O
  | _ + 1, .elt _ _ _, O => O
  | _ + 1, .mp _, O => O
  | _ + 1, .any, O => O
def fzL : Nat → List LV → List Obj → List Obj
  | 0, _, O => O
  | _ + 1, [], O => O
  | n + 1, c :: cs, O => fzL n cs (fz n c O)
end

section
variable {P : Program} {G : Gl} {F : Fz} {σ : List Pl} {O : List Obj} {w : World} {fr : List LV} {a : Act}

mutual
theorem tv_sound (hs : St G F σ O w) : ∀ {x : LV} {v : V} {y : Value}, tv O x = some v → LRep F σ x y → Rep F v y
  | .g u, v, y, h, hr => by simp only [tv, Option.some.injEq] at h; subst h; exact hr
  | .loc k off, v, y, h, hr => by
    obtain ⟨p, b, o, hp, hat, hy⟩ := hr
    obtain ⟨ob, hO, hog, hob⟩ := place hs hp
    simp only [tv, hog] at h
    cases ob <;> simp only [reduceCtorEq, Option.some.injEq] at h
    subst h
    obtain ⟨b', o', arr, hat', hF, hc⟩ := hob
    rw [hat] at hat'; obtain ⟨rfl, rfl⟩ := Prod.mk.inj (Option.some.inj hat')
    exact ⟨b, o + off, arr, hy, hF, by rw [dr_eq]; exact hc.drop⟩
  | .rw k, v, y, h, hr => by
    obtain ⟨p, ad, hp, hy, hr⟩ := hr
    obtain ⟨ob, hO, hog, hob⟩ := place hs hp
    simp only [tv, hog] at h
    cases ob <;> simp only [reduceCtorEq, Option.some.injEq] at h
    subst h
    obtain ⟨hps, hl, hc, hrow⟩ := hob
    refine ⟨ad, p.cap, by rw [hy, hl], by omega, ?_⟩
    rcases hrow with ⟨_, hz⟩ | ⟨b, o, arr, hat, hF, hr'⟩
    · left; exact List.eq_nil_of_length_eq_zero (by omega)
    · rcases hr with ⟨hno, _⟩ | ⟨b', o', hat', rfl⟩
      · rw [hat] at hno; cases hno
      · rw [hat] at hat'; obtain ⟨rfl, rfl⟩ := Prod.mk.inj (Option.some.inj hat')
        exact .inr ⟨b, o, arr, rfl, hF, hr'⟩
  | .lsl k lo hi, v, y, h, hr => by
    obtain ⟨p, ad, hp, hy, hlo, hhi, hr⟩ := hr
    obtain ⟨ob, hO, hog, hob⟩ := place hs hp
    simp only [tv, hog] at h
    cases ob <;> simp only [reduceCtorEq, Option.some.injEq] at h
    rename_i s es
    subst h
    obtain ⟨hps, hl, hc, hrow⟩ := hob
    have hlen : ((es.take hi).drop lo).length = hi - lo := by simp; omega
    refine ⟨ad, p.cap - lo, by rw [hy, hlen], by omega, ?_⟩
    rcases hr with hz | ⟨b', o', hat', rfl⟩
    · left; exact List.eq_nil_of_length_eq_zero (by omega)
    · rcases hrow with ⟨hno, _⟩ | ⟨b, o, arr, hat, hF, hr'⟩
      · rw [hat'] at hno; cases hno
      · rw [hat] at hat'; obtain ⟨rfl, rfl⟩ := Prod.mk.inj (Option.some.inj hat')
        exact .inr ⟨b, _, arr, rfl, hF, by rw [hps]; exact hr'.take.drop⟩
  | .agg cs, v, y, h, hr => by
    simp only [tv] at h
    split at h
    · rename_i vs hvs; obtain rfl := Option.some.inj h; obtain ⟨ys, e, r⟩ := hr; exact ⟨ys, e, tvL_sound hs hvs r⟩
    · cases h
  | .iface t u, v, y, h, hr => by
    simp only [tv] at h
    split at h
    · rename_i vs hvs; obtain rfl := Option.some.inj h; obtain ⟨ys, e, r⟩ := hr; exact ⟨ys, e, tv_sound hs hvs r⟩
    · cases h
  | .func f cs, v, y, h, hr => by
    simp only [tv] at h
    split at h
    · rename_i vs hvs; obtain rfl := Option.some.inj h; obtain ⟨ys, e, r⟩ := hr; exact ⟨ys, e, tvL_sound hs hvs r⟩
    · cases h
  | .tup cs, v, y, h, hr => by
    simp only [tv] at h
    split at h
    · rename_i vs hvs; obtain rfl := Option.some.inj h; obtain ⟨ys, e, r⟩ := hr; exact ⟨ys, e, tvL_sound hs hvs r⟩
    · cases h
  | .elt _ _ _, v, y, h, hr => by simp [tv] at h
  | .mp _, v, y, h, hr => by simp [tv] at h
  | .any, v, y, h, hr => by simp [tv] at h
theorem tvL_sound (hs : St G F σ O w) : ∀ {xs : List LV} {vs : List V} {ys : List Value}, tvL O xs = some vs → LRepL F σ xs ys → RepL F vs ys
  | [], vs, ys, h, hr => by simp only [tvL, Option.some.injEq] at h; subst h; exact hr
  | x :: xs, vs, ys, h, hr => by
    simp only [tvL] at h
    split at h
    · rename_i v hv
      split at h
      · rename_i vs' hvs
        obtain rfl := Option.some.inj h
        obtain ⟨y, r, rfl, hy, hr⟩ := hr
        exact ⟨y, r, rfl, tv_sound hs hv hy, tvL_sound hs hvs hr⟩
      · cases h
    · cases h
end

/-- An object frozen where it lies. -/
theorem St.frz (hs : St G F σ O w) {k : Nat} {ob o : Obj} {p : Pl} {b c : Nat} {arr : Array Value} {e : TypeId} {z : Nat × Nat} (hk : O[k]? = some ob) (hl : ob.live = true) (hl' : o.live = false) (hp : σ[k]? = some p) (hat : p.at_ = some (b, c)) (hF : F b = none)
    (hb : w.heap[b]? = some (.cells arr e z)) (ho : ∀ F' : Fz, F.le F' → F' b = some arr → ObjOk F' σ w o p) : ∃ F', St G F' σ (O.set k o) w ∧ Step F σ w F' σ w := by
  have hle : F.le (fun i => if i = b then some arr else F i) := by
    intro i x hi
    show (if i = b then some arr else F i) = some x
    rw [if_neg (fun h => by rw [h, hF] at hi; cases hi)]; exact hi
  refine ⟨fun i => if i = b then some arr else F i, ⟨?_, ?_, by simp [hs.len], ?_, hs.inside, ?_, ?_⟩, ⟨hle, fun _ _ => rfl, ?_, fun q hq b' c' h => .inr ⟨q, hq, c', h⟩, Nat.le_refl _, rfl, rfl, rfl, fun _ _ h _ => h, Nat.le_refl _⟩⟩
  · intro i x hi
    by_cases h : i = b
    · subst h
      have : (if i = i then some arr else F i) = some x := hi
      rw [if_pos rfl] at this; obtain rfl := Option.some.inj this
      exact ⟨e, z, hb⟩
    · have : (if i = b then some arr else F i) = some x := hi
      rw [if_neg h] at this
      exact hs.fz i x this
  · intro x hx
    obtain ⟨arr', h1, h2⟩ := hs.gl x hx
    exact ⟨arr', hle _ _ h1, h2.mono hle⟩
  · intro j o' q ho' hq
    by_cases hj : j = k
    · subst hj
      rw [List.getElem?_set_self (List.getElem?_eq_some_iff.1 hk).1] at ho'
      obtain rfl := Option.some.inj ho'
      rw [hp] at hq; obtain rfl := Option.some.inj hq
      exact ho _ hle (if_pos rfl)
    · rw [List.getElem?_set_ne (Ne.symm hj)] at ho'
      refine (hs.obj j o' q ho' hq).keep hle (fun _ _ h => h) fun b' c' hl2 hat' => ⟨rfl, fun hn => ?_⟩
      show (if b' = b then some arr else F b') = none
      rw [if_neg (hs.apart j k q p o' ob b' c' b c hj ho' hk hl2 hl hq hp hat' hat)]; exact hn
  · intro i j p1 p2 oi oj b1 c1 b2 c2 hij hi hj li lj hpi hpj ha hb'
    have back : ∀ {m : Nat} {om : Obj}, (O.set k o)[m]? = some om → om.live = true → O[m]? = some om := by
      intro m om h1 h2
      by_cases hm : m = k
      · subst hm
        rw [List.getElem?_set_self (List.getElem?_eq_some_iff.1 hk).1] at h1
        obtain rfl := Option.some.inj h1
        rw [hl'] at h2; cases h2
      · rw [List.getElem?_set_ne (Ne.symm hm)] at h1; exact h1
    exact hs.apart i j p1 p2 oi oj b1 c1 b2 c2 hij (back hi li) (back hj lj) li lj hpi hpj ha hb'
  · intro j o' q ho' hq
    by_cases hj : j = k
    · subst hj
      rw [List.getElem?_set_self (List.getElem?_eq_some_iff.1 hk).1] at ho'
      obtain rfl := Option.some.inj ho'
      cases o <;> first | trivial | (cases hl'; done)
    · rw [List.getElem?_set_ne (Ne.symm hj)] at ho'
      exact hs.pin j o' q ho' hq
  · intro i h1 h2
    by_cases h : i = b
    · subst h; exact .inr ⟨p, List.mem_of_getElem? hp, c, hat⟩
    · have : (if i = b then some arr else F i) ≠ none := h2
      rw [if_neg h] at this; exact absurd h1 this

theorem frz_row (hs : St G F σ O w) {k s : Nat} {pn : Bool} {es : List (List V)} (hk : O[k]? = some (.row pn s es)) : ∃ F', St G F' σ (O.set k (.frow s es)) w ∧ Step F σ w F' σ w := by
  have hkl : k < σ.length := by rw [← hs.len]; exact (List.getElem?_eq_some_iff.1 hk).1
  have hp : σ[k]? = some σ[k] := List.getElem?_eq_getElem hkl
  have hob := hs.obj k _ _ hk hp
  obtain ⟨hps, hl, hc, hrow⟩ := hob
  rcases hrow with ⟨hno, hz⟩ | ⟨b, o, arr, e, z, hat, hF, hb, _, _, hr⟩
  · refine ⟨F, ⟨hs.fz, hs.gl, by simp [hs.len], ?_, hs.inside, ?_, ?_⟩, .refl F σ w⟩
    · intro j o' q ho' hq
      by_cases hj : j = k
      · subst hj
        rw [List.getElem?_set_self (List.getElem?_eq_some_iff.1 hk).1] at ho'
        obtain rfl := Option.some.inj ho'
        rw [hp] at hq; obtain rfl := Option.some.inj hq
        exact ⟨hps, hl, hc, .inl ⟨hno, hz⟩⟩
      · rw [List.getElem?_set_ne (Ne.symm hj)] at ho'
        exact hs.obj j o' q ho' hq
    · intro i j p1 p2 oi oj b1 c1 b2 c2 hij hi hj li lj hpi hpj ha hb'
      have back : ∀ {m : Nat} {om : Obj}, (O.set k (Obj.frow s es))[m]? = some om → om.live = true → O[m]? = some om := by
        intro m om h1 h2
        by_cases hm : m = k
        · subst hm
          rw [List.getElem?_set_self (List.getElem?_eq_some_iff.1 hk).1] at h1
          obtain rfl := Option.some.inj h1
          cases h2
        · rw [List.getElem?_set_ne (Ne.symm hm)] at h1; exact h1
      exact hs.apart i j p1 p2 oi oj b1 c1 b2 c2 hij (back hi li) (back hj lj) li lj hpi hpj ha hb'
    · intro j o' q ho' hq
      by_cases hj : j = k
      · subst hj
        rw [List.getElem?_set_self (List.getElem?_eq_some_iff.1 hk).1] at ho'
        obtain rfl := Option.some.inj ho'
        trivial
      · rw [List.getElem?_set_ne (Ne.symm hj)] at ho'
        exact hs.pin j o' q ho' hq
  · exact hs.frz hk rfl rfl hp hat hF hb fun F' hle hF' => ⟨hps, hl, hc, .inr ⟨b, o, arr, hat, hF', hr.mono hle⟩⟩

theorem og_get {k : Nat} {ob : Obj} (h : og O k = ob) (hd : ob ≠ .dead) : O[k]? = some ob := by
  rw [og_eq, List.getD_eq_getElem?_getD] at h
  cases hk : O[k]? with
  | none => rw [hk] at h; exact absurd h.symm hd
  | some o => rw [hk] at h; exact congrArg some h

theorem fzk_sound {k : Nat} (hs : St G F σ O w) : ∃ F', St G F' σ (fzk k O) w ∧ Step F σ w F' σ w := by
  unfold fzk
  split
  · rename_i cs hk
    split
    · rename_i vs hvs
      have hk' := og_get hk (by simp)
      have hkl : k < σ.length := by rw [← hs.len]; exact (List.getElem?_eq_some_iff.1 hk').1
      have hp : σ[k]? = some σ[k] := List.getElem?_eq_getElem hkl
      obtain ⟨b, arr, e, z, hat, hF, hb, hfree, hones, hr⟩ := hs.obj k _ _ hk' hp
      have hR := tvL_sound hs hvs hr
      rw [os_eq]
      refine hs.frz hk' rfl rfl hp hat hF hb fun F' hle hF' => ⟨b, 0, arr, hat, hF', ?_⟩
      exact RepC_mk (vs := arr.toList) (rest := []) (by simp) (RepL.mono hle _ _ hR) hones
    · exact ⟨F, hs, .refl F σ w⟩
  · exact ⟨F, hs, .refl F σ w⟩

mutual
theorem fz_sound : ∀ (n : Nat) (x : LV) {F : Fz} {O : List Obj}, St G F σ O w → (∃ y, LRep F σ x y) → ∃ F', St G F' σ (fz n x O) w ∧ Step F σ w F' σ w
  | 0, x, F, O, hs, hx => ⟨F, by simpa [fz] using hs, .refl F σ w⟩
  | n + 1, .loc k off, F, O, hs, hx => by
    simp only [fz]
    split
    · rename_i cs hk
      have hk' := og_get hk (by simp)
      have hkl : k < σ.length := by rw [← hs.len]; exact (List.getElem?_eq_some_iff.1 hk').1
      have hp : σ[k]? = some σ[k] := List.getElem?_eq_getElem hkl
      obtain ⟨b, arr, e, z, hat, hF, hb, hfree, hones, hr⟩ := hs.obj k _ _ hk' hp
      obtain ⟨F1, hs1, st1⟩ := fzL_sound n cs hs ⟨_, hr⟩
      obtain ⟨F2, hs2, st2⟩ := fzk_sound (k := k) hs1
      exact ⟨F2, hs2, st1.trans st2⟩
    · exact ⟨F, hs, .refl F σ w⟩
  | n + 1, .rw k, F, O, hs, hx => by
    simp only [fz]
    split
    · rename_i s es hk; rw [os_eq]; exact frz_row hs (og_get hk (by simp))
    · exact ⟨F, hs, .refl F σ w⟩
  | n + 1, .lsl k lo hi, F, O, hs, hx => by
    simp only [fz]
    split
    · rename_i s es hk; rw [os_eq]; exact frz_row hs (og_get hk (by simp))
    · exact ⟨F, hs, .refl F σ w⟩
  | n + 1, .agg cs, F, O, hs, ⟨y, hx⟩ => by simp only [fz]; obtain ⟨ys, _, r⟩ := hx; exact fzL_sound n cs hs ⟨_, r⟩
  | n + 1, .iface t v, F, O, hs, ⟨y, hx⟩ => by simp only [fz]; obtain ⟨u, _, r⟩ := hx; exact fz_sound n v hs ⟨_, r⟩
  | n + 1, .func f cs, F, O, hs, ⟨y, hx⟩ => by simp only [fz]; obtain ⟨ys, _, r⟩ := hx; exact fzL_sound n cs hs ⟨_, r⟩
  | n + 1, .tup cs, F, O, hs, ⟨y, hx⟩ => by simp only [fz]; obtain ⟨ys, _, r⟩ := hx; exact fzL_sound n cs hs ⟨_, r⟩
  | n + 1, .g v, F, O, hs, hx => ⟨F, by simpa [fz] using hs, .refl F σ w⟩
  | n + 1, .elt _ _ _, F, O, hs, hx => ⟨F, by simpa [fz] using hs, .refl F σ w⟩
  | n + 1, .mp _, F, O, hs, hx => ⟨F, by simpa [fz] using hs, .refl F σ w⟩
  | n + 1, .any, F, O, hs, hx => ⟨F, by simpa [fz] using hs, .refl F σ w⟩
theorem fzL_sound : ∀ (n : Nat) (xs : List LV) {F : Fz} {O : List Obj}, St G F σ O w → (∃ ys, LRepL F σ xs ys) → ∃ F', St G F' σ (fzL n xs O) w ∧ Step F σ w F' σ w
  | 0, xs, F, O, hs, hx => ⟨F, by simpa [fzL] using hs, .refl F σ w⟩
  | n + 1, [], F, O, hs, hx => ⟨F, by simpa [fzL] using hs, .refl F σ w⟩
  | n + 1, x :: xs, F, O, hs, ⟨ys, hx⟩ => by
    obtain ⟨y, r, _, hx, hr⟩ := hx
    obtain ⟨F1, hs1, st1⟩ := fz_sound n x hs ⟨y, hx⟩
    obtain ⟨F2, hs2, st2⟩ := fzL_sound n xs hs1 ⟨r, hr.mono st1.le (fun _ _ h => h)⟩
    exact ⟨F2, by simpa [fzL] using hs2, st1.trans st2⟩
end

/-- A call of a function with frozen arguments, and no object handed over: its result is frozen. -/
def PCall (P : Program) (G : Gl) (f : FuncId) (args : List V) (K : V → Prop) : Prop :=
  ACalls P G f (args.map .g) [] fun r E => E = [] ∧ ∃ v, r = .g v ∧ K v

theorem PCall.mono {f : FuncId} {args : List V} {K K' : V → Prop} (h : PCall P G f args K) (hk : ∀ v, K v → K' v) : PCall P G f args K' :=
  ACalls.mono h fun _ _ ⟨he, v, hr, hK⟩ => ⟨he, v, hr, hk v hK⟩

theorem St.toNil (hs : St G F σ O w) : St G F [] [] w :=
  ⟨hs.fz, hs.gl, rfl, fun k o p h => by simp at h, fun p h => by simp at h, fun i j p q oi oj b c d e _ h => by simp at h, fun k o p h => by simp at h⟩

/-- What a frozen call leaves of a state over objects. -/
theorem St.over {F' : Fz} {w' : World} (hs : St G F σ O w) (hs' : St G F' [] [] w') (st : Step F [] w F' [] w') : St G F' σ O w' ∧ Step F σ w F' σ w' := by
  have hmay : ∀ b, May [] w b → w.heap.size ≤ b := by
    rintro b (h | ⟨p, hp, _⟩)
    · exact h
    · simp at hp
  have hk : ∀ b, b < w.heap.size → w'.heap[b]? = w.heap[b]? ∧ (F b = none → F' b = none) := by
    intro b hb
    refine ⟨st.frame b fun h => by have := hmay b h; omega, fun hn => ?_⟩
    cases h : F' b with
    | none => rfl
    | some arr => have := hmay b (st.fnew b hn (by rw [h]; simp)); omega
  constructor
  · refine ⟨hs'.fz, hs'.gl, hs.len, ?_, ?_, hs.apart, hs.pin⟩
    · intro k o p ho hp
      exact (hs.obj k o p ho hp).keep st.le (fun _ _ h => h) fun b c _ hat => hk b (hs.lt hp hat)
    · intro p hp b c hat
      exact Nat.lt_of_lt_of_le (hs.inside p hp b c hat) st.size
  · refine ⟨st.le, fun b hb => ?_, fun b h1 h2 => .inl (hmay b (st.fnew b h1 h2)), fun p hp b c hat => .inr ⟨p, hp, c, hat⟩, st.size, st.os, st.tape, st.output, fun _ _ h _ => h, Nat.le_refl _⟩
    exact (hk b (Nat.lt_of_not_le fun h => hb (.inl h))).1

theorem args_g : ∀ {vs : List V} {ys : List Value}, RepL F vs ys → LRepL F [] (vs.map .g) ys
  | [], ys, h => h
  | v :: vs, ys, h => by obtain ⟨y, r, e, hv, hr⟩ := h; exact ⟨y, r, e, hv, args_g hr⟩

/-- The results of a function, as its frame and objects tell them. -/
def resV (P : Program) (fr : List LV) (O : List Obj) : List ResultVar → Option (List R)
  | [] => some []
  | .tmp t :: r => match resV P fr O r with
    | some l => some (⟨True, get fr t⟩ :: l)
    | none => none
  | .cell t ty :: r => match loadN P ty, resV P fr O r with
    | some n, some l => some (loadV O n (get fr t) :: l)
    | _, _ => none

theorem run_cell (hs : St G F σ O w) (hf : LRepL F σ fr a.tmps.toList) {t : Nat} {ty : TypeId} {n : Option Nat} (hn : loadN P ty = some n) (hok : (loadV O n (get fr t)).ok) :
    ∃ y, (do loadVar ty (← asAddr (a.tmps.getD t undef)) : Sem Value).run P w = .ok y w ∧ LRep F σ (loadV O n (get fr t)).v y := by
  obtain ⟨y, hy, hr⟩ := load_sound (P := P) hs hf (o := { dst := none, op := .load ty (.tmp t), type := 0, pos := "", after := #[], guard := none }) (x := .tmp t) (x' := .t t) rfl hn rfl hok
  refine ⟨y, ?_, hr⟩
  simp only [execOp, Instr.loadAt, bind, run_bind] at hy
  simp only [bind, run_bind]
  have hev : a.tmps.getD t undef = a.eval (.tmp t) := rfl
  rw [hev]
  cases h : a.eval (.tmp t) with
  | pointer q =>
    rw [h] at hy
    cases q with
    | none => simp [Instr.sureAddr, stuck, Sem.run] at hy
    | some q =>
      simp only [Instr.sureAddr, pure, Sem.run] at hy
      simp only [asAddr, pure, Sem.run]
      cases hl : (loadVar ty q).run P w with
      | ok x w' => rw [hl] at hy; simp only [Result.ok.injEq, Next.value.injEq] at hy; rw [hy.1, hy.2]
      | halt e w' => rw [hl] at hy; cases hy
  | _ => rw [h] at hy; simp [Instr.sureAddr, stuck, Sem.run] at hy

/-- The results' values, each under its condition. -/
def resOk : List R → Prop
  | [] => True
  | r :: l => r.ok ∧ resOk l
def resVs : List R → List LV
  | [] => []
  | r :: l => r.v :: resVs l
def oneOrTup : List LV → LV
  | [x] => x
  | l => .tup l

def resF (tmps : Array Value) : ResultVar → Sem Value
  | .tmp t => pure (tmps.getD t undef)
  | .cell x t => do loadVar t (← asAddr (tmps.getD x undef))

theorem run_results (hs : St G F σ O w) (hf : LRepL F σ fr a.tmps.toList) : ∀ {rs : List ResultVar} {l : List R}, resV P fr O rs = some l → resOk l →
    ∃ ys : List Value, (rs.mapM (resF a.tmps)).run P w = .ok ys w ∧ LRepL F σ (resVs l) ys
  | [], l, h, _ => by
    simp only [resV, Option.some.injEq] at h; subst h
    exact ⟨[], by simp [pure, Sem.run], rfl⟩
  | .tmp t :: rs, l, h, hok => by
    simp only [resV] at h
    split at h
    · rename_i l' hl
      obtain rfl := Option.some.inj h
      obtain ⟨ys, h1, h2⟩ := run_results hs hf hl hok.2
      have he := ev_sound hs hf (x := .tmp t) (x' := .t t) rfl
      refine ⟨a.tmps.getD t undef :: ys, ?_, _, _, rfl, he, h2⟩
      simp only [List.mapM_cons, resF, bind, run_bind, pure, Sem.run, h1]
    · cases h
  | .cell x t :: rs, l, h, hok => by
    simp only [resV] at h
    split at h
    · rename_i n l' hn hl
      obtain rfl := Option.some.inj h
      obtain ⟨ys, h1, h2⟩ := run_results hs hf hl hok.2
      obtain ⟨y, h3, h4⟩ := run_cell (P := P) hs hf hn hok.1
      refine ⟨y :: ys, ?_, _, _, rfl, h4, h2⟩
      have h3' : (resF a.tmps (.cell x t)).run P w = .ok y w := h3
      simp only [List.mapM_cons, bind, run_bind, pure, Sem.run, h1, h3']
    · cases h

theorem results_eq (fn : Func) (tmps : Array Value) : results fn tmps = (fn.results.mapM (resF tmps)).bind fun vs => .pure (if h : vs.size = 1 then vs[0] else .tuple vs) := by
  unfold results
  have : fn.results.mapM (resF tmps) = fn.results.mapM (m := Sem) (fun
    | .tmp t => pure (tmps.getD t undef)
    | .cell a t => do loadVar t (← asAddr (tmps.getD a undef))) := by
    congr 1
  rw [this]; rfl

theorem mapM_arr (f : ResultVar → Sem Value) (rs : Array ResultVar) (ys : List Value) (h : (rs.toList.mapM f).run P w = .ok ys w) : (rs.mapM f).run P w = .ok ys.toArray w := by
  rw [Array.mapM_eq_mapM_toList, Sem.run_map, h]; rfl

theorem run_res {fn : Func} (hs : St G F σ O w) (hf : LRepL F σ fr a.tmps.toList) {l : List R} (h : resV P fr O fn.results.toList = some l) (hok : resOk l) :
    ∃ y, (results fn a.tmps).run P w = .ok y w ∧ LRep F σ (oneOrTup (resVs l)) y := by
  obtain ⟨ys, h1, h2⟩ := run_results (P := P) hs hf h hok
  have h1' := mapM_arr _ _ _ h1
  rw [results_eq, run_bind, h1']
  simp only [Sem.run]
  refine ⟨_, rfl, ?_⟩
  match hl : resVs l, h2 with
  | [x], h2 =>
    obtain ⟨y, r, rfl, hx, hr⟩ := h2
    simp only [LRepL] at hr; subst hr
    simpa [oneOrTup] using hx
  | [], h2 =>
    simp only [LRepL] at h2; subst h2
    exact ⟨#[], by simp, rfl⟩
  | x :: x' :: xs, h2 =>
    have hlen := h2.length
    refine ⟨ys.toArray, ?_, by simpa using h2⟩
    rw [dif_neg (by simp only [List.size_toArray, hlen, List.length_cons]; omega)]
end
end Go.Av

namespace Go.Av
set_option linter.unusedVariables false
set_option linter.unusedSimpArgs false

/-- The place of a number in a list. -/
def pos : List Nat → Nat → Option Nat
  | [], _ => none
  | x :: l, k => match Nat.beq x k with
    | true => some 0
    | false => match pos l k with
      | some i => some (i + 1)
      | none => none
/-- The number here of an object that has the number i there; new ones come behind the n of here. -/
def nth : List Nat → Nat → Nat → Nat
  | [], n, i => n + i
  | j :: _, _, 0 => j
  | _ :: js, n, i + 1 => nth js n i
def hasB : List Nat → Nat → Bool
  | [], _ => false
  | x :: l, k => match Nat.beq x k with
    | true => true
    | false => hasB l k

def aggN (l : List LV) : LV :=
  match closed l with
  | some vs => .g (.agg vs)
  | none => .agg l
def tupN (l : List LV) : LV :=
  match closed l with
  | some vs => .g (.tup vs)
  | none => .tup l
def funN (f : Fn) (l : List LV) : LV :=
  match closed l with
  | some vs => .g (.func f vs)
  | none => .func f l
def ifN (t : TypeId) (x : LV) : LV :=
  match x with
  | .g v => .g (.iface t v)
  | x => .iface t x

mutual
/-- A value as it is there: frozen objects are read through, lent ones have their numbers there, others are not known. -/
def un (js : List Nat) (O : List Obj) : LV → LV
  | .g v => .g v
  | .loc k off => match og O k with
    | .fcells cs => .g (.fptr (dr off cs))
    | _ => match pos js k with
      | some i => .loc i off
      | none => .any
  | .elt k e off => match pos js k with
    | some i => .elt i e off
    | none => .any
  | .rw k => match og O k with
    | .frow s es => .g (.fsl s es)
    | _ => match pos js k with
      | some i => .rw i
      | none => .any
  | .lsl k lo hi => match og O k with
    | .frow s es => .g (.fsl s ((es.take hi).drop lo))
    | _ => match pos js k with
      | some i => .lsl i lo hi
      | none => .any
  | .mp k => match pos js k with
    | some i => .mp i
    | none => .any
  | .agg cs => aggN (unL js O cs)
  | .iface t v => ifN t (un js O v)
  | .func f cs => funN f (unL js O cs)
  | .tup cs => tupN (unL js O cs)
  | .any => .any
def unL (js : List Nat) (O : List Obj) : List LV → List LV
  | [] => []
  | c :: cs => un js O c :: unL js O cs
end
mutual
def ren (js : List Nat) (n : Nat) : LV → LV
  | .g v => .g v
  | .loc k off => .loc (nth js n k) off
  | .elt k e off => .elt (nth js n k) e off
  | .rw k => .rw (nth js n k)
  | .lsl k lo hi => .lsl (nth js n k) lo hi
  | .mp k => .mp (nth js n k)
  | .agg cs => .agg (renL js n cs)
  | .iface t v => .iface t (ren js n v)
  | .func f cs => .func f (renL js n cs)
  | .tup cs => .tup (renL js n cs)
  | .any => .any
def renL (js : List Nat) (n : Nat) : List LV → List LV
  | [] => []
  | c :: cs => ren js n c :: renL js n cs
end
mutual
def killS (ks : List Nat) : LV → LV
  | .g v => .g v
  | .loc j o => match hasB ks j with
    | true => .any
    | false => .loc j o
  | .elt j i o => match hasB ks j with
    | true => .any
    | false => .elt j i o
  | .rw j => match hasB ks j with
    | true => .any
    | false => .rw j
  | .lsl j l h => match hasB ks j with
    | true => .any
    | false => .lsl j l h
  | .mp j => match hasB ks j with
    | true => .any
    | false => .mp j
  | .agg cs => .agg (killSL ks cs)
  | .iface t v => .iface t (killS ks v)
  | .func f cs => .func f (killSL ks cs)
  | .tup cs => .tup (killSL ks cs)
  | .any => .any
def killSL (ks : List Nat) : List LV → List LV
  | [] => []
  | c :: cs => killS ks c :: killSL ks cs
end
/-- Nothing is forgotten where nothing is to be. -/
def killF (ks : List Nat) (fr : List LV) : List LV :=
  match ks with
  | [] => fr
  | _ => killSL ks fr
def killSO (ks : List Nat) : List Obj → List Obj
  | [] => []
  | .cells cs :: r => .cells (killSL ks cs) :: killSO ks r
  | .row b s es :: r => .row b s es :: killSO ks r
  | .fcells cs :: r => .fcells cs :: killSO ks r
  | .frow s es :: r => .frow s es :: killSO ks r
  | .map es :: r => .map es :: killSO ks r
  | .mit m s l :: r => .mit m s l :: killSO ks r
  | .dead :: r => .dead :: killSO ks r
def killFO (ks : List Nat) (O : List Obj) : List Obj :=
  match ks with
  | [] => O
  | _ => killSO ks O

/-- An object as it is there; p: its place may not turn. -/
def unO (js : List Nat) (O : List Obj) (p : Bool) : Obj → Obj
  | .cells cs => .cells (unL js O cs)
  | .row pn s es => match p with
    | true => .row true s es
    | false => .row pn s es
  | .map es => .map es
  | _ => .dead
def renO (js : List Nat) (n : Nat) : Obj → Obj
  | .cells cs => .cells (renL js n cs)
  | .row pn s es => .row pn s es
  | .fcells cs => .fcells cs
  | .frow s es => .frow s es
  | .map es => .map es
  | .mit _ _ _ => .dead
  | .dead => .dead
def renLO (js : List Nat) (n : Nat) : List Obj → List Obj
  | [] => []
  | o :: r => renO js n o :: renLO js n r
def lendO (js ps : List Nat) (O : List Obj) : List Nat → List Obj
  | [] => []
  | j :: r => unO js O (hasB ps j) (og O j) :: lendO js ps O r
/-- An object that has come back. -/
def backO (o e : Obj) : Obj :=
  match o with
  | .row pn _ _ => match e with
    | .row _ s es => .row pn s es
    | .frow s es => .frow s es
    | _ => .dead
  | .cells _ => match e with
    | .cells cs => .cells cs
    | .fcells cs => .fcells cs
    | _ => .dead
  | .map _ => match e with
    | .map es => .map es
    | _ => .dead
  | _ => .dead
def upd {α : Type} (f : α → α) : List α → Nat → List α
  | [], _ => []
  | x :: l, 0 => f x :: l
  | x :: l, n + 1 => x :: upd f l n
def setAll {α β : Type} (f : α → β → α) : List Nat → List α → List β → List α
  | [], s, _ => s
  | _ :: _, s, [] => s
  | j :: js, s, b :: t => setAll f js (upd (fun a => f a b) s j) t

/-- Each number once, each object one to be written. -/
def liveAt (O : List Obj) (j : Nat) : Bool :=
  match og O j with
  | .cells _ => true
  | .row _ _ _ => true
  | .map _ => true
  | _ => false
def okL (O : List Obj) : List Nat → Bool
  | [] => true
  | j :: js => match hasB js j with
    | true => false
    | false => match liveAt O j with
      | true => okL O js
      | false => false
/-- Each number once, each of an object. -/
def okD (O : List Obj) : List Nat → Bool
  | [] => true
  | j :: js => match hasB js j with
    | true => false
    | false => match Nat.blt j O.length with
      | true => okD O js
      | false => false
/-- Whose references are to be forgotten: rows whose place may turn. -/
def turns (O : List Obj) (ps : List Nat) : List Nat → List Nat
  | [] => []
  | j :: js => match og O j with
    | .row pn _ _ => match pn with
      | true => turns O ps js
      | false => match hasB ps j with
        | true => turns O ps js
        | false => j :: turns O ps js
    | _ => turns O ps js
def backL (js ks : List Nat) (O E' : List Obj) : List Obj :=
  setAll backO js (killFO ks O) (renLO js O.length E') ++ dr js.length (renLO js O.length E')

def same (p p' : Pl) : Prop := p'.at_ = p.at_ ∧ p'.s = p.s ∧ p'.len = p.len ∧ p'.cap = p.cap
theorem same.refl (p : Pl) : same p p := ⟨rfl, rfl, rfl, rfl⟩

theorem hasB_iff {l : List Nat} {k : Nat} : hasB l k = true ↔ k ∈ l := by
  induction l with
  | nil => simp [hasB]
  | cons x l ih =>
    simp only [hasB, List.mem_cons]
    split
    · rename_i h; simp [Nat.eq_of_beq_eq_true h]
    · rename_i h
      rw [ih]
      constructor
      · exact .inr
      · rintro (rfl | h')
        · rw [Nat.beq_refl] at h; cases h
        · exact h'
theorem pos_some {l : List Nat} {k i : Nat} (h : pos l k = some i) : l[i]? = some k := by
  induction l generalizing i with
  | nil => cases h
  | cons x l ih =>
    simp only [pos] at h
    split at h
    · rename_i hb; obtain rfl := Option.some.inj h; simp [Nat.eq_of_beq_eq_true hb]
    · split at h
      · rename_i i' hi; obtain rfl := Option.some.inj h; simpa using ih hi
      · cases h
theorem pos_mem {l : List Nat} {k : Nat} (h : k ∈ l) : ∃ i, pos l k = some i := by
  induction l with
  | nil => simp at h
  | cons x l ih =>
    simp only [pos]
    split
    · exact ⟨0, rfl⟩
    · rename_i hb
      rcases List.mem_cons.1 h with rfl | h
      · rw [Nat.beq_refl] at hb; cases hb
      · obtain ⟨i, hi⟩ := ih h; rw [hi]; exact ⟨i + 1, rfl⟩
theorem nth_lt {js : List Nat} {n i j : Nat} (h : js[i]? = some j) : nth js n i = j := by
  induction js generalizing i with
  | nil => simp at h
  | cons x l ih =>
    cases i with
    | zero => simpa [nth] using h
    | succ i => simpa [nth] using ih (by simpa using h)
theorem nth_ge {js : List Nat} {n i : Nat} : nth js n (js.length + i) = n + i := by
  induction js with
  | nil => simp [nth]
  | cons x l ih =>
    rw [List.length_cons, show l.length + 1 + i = (l.length + i) + 1 from by omega]
    simpa [nth] using ih

section
variable {F : Fz} {σ σc : List Pl}

theorem repL_ofG : ∀ {vs : List V} {ys : List Value}, LRepL F σ (vs.map .g) ys → RepL F vs ys
  | [], ys, h => h
  | v :: vs, ys, h => by obtain ⟨y, r, e, hv, hr⟩ := h; exact ⟨y, r, e, hv, repL_ofG hr⟩
theorem closed_rep {l : List LV} {vs : List V} {ys : List Value} (h : closed l = some vs) (hr : LRepL F σ l ys) : RepL F vs ys := by
  obtain rfl := closed_map h
  exact repL_ofG hr
theorem aggN_rep {l : List LV} {y : Value} (h : LRep F σ (.agg l) y) : LRep F σ (aggN l) y := by
  unfold aggN; split
  · rename_i vs hc; obtain ⟨ys, e, r⟩ := h; exact ⟨ys, e, closed_rep hc r⟩
  · exact h
theorem tupN_rep {l : List LV} {y : Value} (h : LRep F σ (.tup l) y) : LRep F σ (tupN l) y := by
  unfold tupN; split
  · rename_i vs hc; obtain ⟨ys, e, r⟩ := h; exact ⟨ys, e, closed_rep hc r⟩
  · exact h
theorem funN_rep {f : Fn} {l : List LV} {y : Value} (h : LRep F σ (.func f l) y) : LRep F σ (funN f l) y := by
  unfold funN; split
  · rename_i vs hc; obtain ⟨ys, e, r⟩ := h; exact ⟨ys, e, closed_rep hc r⟩
  · exact h
theorem ifN_rep {t : TypeId} {x : LV} {y : Value} (h : LRep F σ (.iface t x) y) : LRep F σ (ifN t x) y := by
  unfold ifN; split
  · obtain ⟨u, e, r⟩ := h; exact ⟨u, e, r⟩
  · exact h

mutual
theorem un_rep {G : Gl} {O : List Obj} {w : World} {js : List Nat} (hs : St G F σ O w) (hp : ∀ k i, pos js k = some i → ∀ p, σ[k]? = some p → ∃ p', σc[i]? = some p' ∧ same p p') : ∀ {x : LV} {y : Value}, LRep F σ x y → LRep F σc (un js O x) y
  | .g v, y, h => h
  | .loc k off, y, h => by
    simp only [un]
    split
    · rename_i cs hk
      have := tv_sound hs (x := .loc k off) (v := .fptr (dr off cs)) (by simp only [tv, hk]) h
      exact this
    · split
      · rename_i i hi
        obtain ⟨p, b, o, e1, e2, e3⟩ := h
        obtain ⟨p', h1, h2⟩ := hp k i hi p e1
        exact ⟨p', b, o, h1, h2.1.trans e2, e3⟩
      · trivial
  | .elt k e off, y, h => by
    simp only [un]
    split
    · rename_i i hi
      obtain ⟨p, b, o, e1, e2, e3⟩ := h
      obtain ⟨p', h1, h2⟩ := hp k i hi p e1
      exact ⟨p', b, o, h1, h2.1.trans e2, by rw [h2.2.1]; exact e3⟩
    · trivial
  | .rw k, y, h => by
    simp only [un]
    split
    · rename_i s es hk
      exact tv_sound hs (x := .rw k) (v := .fsl s es) (by simp only [tv, hk]) h
    · split
      · rename_i i hi
        obtain ⟨p, a, e1, e2, e3⟩ := h
        obtain ⟨p', h1, h2⟩ := hp k i hi p e1
        refine ⟨p', a, h1, by rw [h2.2.2.1, h2.2.2.2]; exact e2, ?_⟩
        rw [h2.1, h2.2.2.2]; exact e3
      · trivial
  | .lsl k lo hi, y, h => by
    simp only [un]
    split
    · rename_i s es hk
      exact tv_sound hs (x := .lsl k lo hi) (v := .fsl s ((es.take hi).drop lo)) (by simp only [tv, hk]) h
    · split
      · rename_i i hi
        obtain ⟨p, a, e1, e2, e3, e4, e5⟩ := h
        obtain ⟨p', h1, h2⟩ := hp k i hi p e1
        refine ⟨p', a, h1, by rw [h2.2.2.2]; exact e2, e3, by rw [h2.2.2.1]; exact e4, ?_⟩
        rw [h2.1, h2.2.2.2, h2.2.1]; exact e5
      · trivial
  | .mp k, y, h => by
    simp only [un]
    split
    · rename_i i hi
      obtain ⟨p, b, o, e1, e2, e3⟩ := h
      obtain ⟨p', h1, h2⟩ := hp k i hi p e1
      exact ⟨p', b, o, h1, h2.1.trans e2, e3⟩
    · trivial
  | .agg cs, y, h => by obtain ⟨ys, e, r⟩ := h; exact aggN_rep ⟨ys, e, unL_rep hs hp r⟩
  | .iface t v, y, h => by obtain ⟨u, e, r⟩ := h; exact ifN_rep ⟨u, e, un_rep hs hp r⟩
  | .func f cs, y, h => by obtain ⟨ys, e, r⟩ := h; exact funN_rep ⟨ys, e, unL_rep hs hp r⟩
  | .tup cs, y, h => by obtain ⟨ys, e, r⟩ := h; exact tupN_rep ⟨ys, e, unL_rep hs hp r⟩
  | .any, y, h => trivial
theorem unL_rep {G : Gl} {O : List Obj} {w : World} {js : List Nat} (hs : St G F σ O w) (hp : ∀ k i, pos js k = some i → ∀ p, σ[k]? = some p → ∃ p', σc[i]? = some p' ∧ same p p') : ∀ {xs : List LV} {ys : List Value}, LRepL F σ xs ys → LRepL F σc (unL js O xs) ys
  | [], ys, h => h
  | x :: xs, ys, h => by obtain ⟨y, r, e, hx, hr⟩ := h; exact ⟨y, r, e, un_rep hs hp hx, unL_rep hs hp hr⟩
end

mutual
theorem ren_rep {js : List Nat} {n : Nat} (hp : ∀ (i : Nat) (p : Pl), σc[i]? = some p → ∃ p', σ[nth js n i]? = some p' ∧ same p p') : ∀ {x : LV} {y : Value}, LRep F σc x y → LRep F σ (ren js n x) y
  | .g v, y, h => h
  | .loc k off, y, h => by
    obtain ⟨p, b, o, e1, e2, e3⟩ := h
    obtain ⟨p', h1, h2⟩ := hp k p e1
    exact ⟨p', b, o, h1, h2.1.trans e2, e3⟩
  | .elt k e off, y, h => by
    obtain ⟨p, b, o, e1, e2, e3⟩ := h
    obtain ⟨p', h1, h2⟩ := hp k p e1
    exact ⟨p', b, o, h1, h2.1.trans e2, by rw [h2.2.1]; exact e3⟩
  | .rw k, y, h => by
    obtain ⟨p, a, e1, e2, e3⟩ := h
    obtain ⟨p', h1, h2⟩ := hp k p e1
    refine ⟨p', a, h1, by rw [h2.2.2.1, h2.2.2.2]; exact e2, ?_⟩
    rw [h2.1, h2.2.2.2]; exact e3
  | .lsl k lo hi, y, h => by
    obtain ⟨p, a, e1, e2, e3, e4, e5⟩ := h
    obtain ⟨p', h1, h2⟩ := hp k p e1
    refine ⟨p', a, h1, by rw [h2.2.2.2]; exact e2, e3, by rw [h2.2.2.1]; exact e4, ?_⟩
    rw [h2.1, h2.2.2.2, h2.2.1]; exact e5
  | .mp k, y, h => by
    obtain ⟨p, b, o, e1, e2, e3⟩ := h
    obtain ⟨p', h1, h2⟩ := hp k p e1
    exact ⟨p', b, o, h1, h2.1.trans e2, e3⟩
  | .agg cs, y, h => by obtain ⟨ys, e, r⟩ := h; exact ⟨ys, e, renL_rep hp r⟩
  | .iface t v, y, h => by obtain ⟨u, e, r⟩ := h; exact ⟨u, e, ren_rep hp r⟩
  | .func f cs, y, h => by obtain ⟨ys, e, r⟩ := h; exact ⟨ys, e, renL_rep hp r⟩
  | .tup cs, y, h => by obtain ⟨ys, e, r⟩ := h; exact ⟨ys, e, renL_rep hp r⟩
  | .any, y, h => trivial
theorem renL_rep {js : List Nat} {n : Nat} (hp : ∀ (i : Nat) (p : Pl), σc[i]? = some p → ∃ p', σ[nth js n i]? = some p' ∧ same p p') : ∀ {xs : List LV} {ys : List Value}, LRepL F σc xs ys → LRepL F σ (renL js n xs) ys
  | [], ys, h => h
  | x :: xs, ys, h => by obtain ⟨y, r, e, hx, hr⟩ := h; exact ⟨y, r, e, ren_rep hp hx, renL_rep hp hr⟩
end

mutual
theorem killS_rep {ks : List Nat} (hp : ∀ (k : Nat) (p : Pl), hasB ks k = false → σ[k]? = some p → ∃ p', σc[k]? = some p' ∧ same p p') : ∀ {x : LV} {y : Value}, LRep F σ x y → LRep F σc (killS ks x) y
  | .g v, y, h => h
  | .loc k off, y, h => by
    simp only [killS]
    split
    · trivial
    · rename_i hk
      obtain ⟨p, b, o, e1, e2, e3⟩ := h
      obtain ⟨p', h1, h2⟩ := hp k p hk e1
      exact ⟨p', b, o, h1, h2.1.trans e2, e3⟩
  | .elt k e off, y, h => by
    simp only [killS]
    split
    · trivial
    · rename_i hk
      obtain ⟨p, b, o, e1, e2, e3⟩ := h
      obtain ⟨p', h1, h2⟩ := hp k p hk e1
      exact ⟨p', b, o, h1, h2.1.trans e2, by rw [h2.2.1]; exact e3⟩
  | .rw k, y, h => by
    simp only [killS]
    split
    · trivial
    · rename_i hk
      obtain ⟨p, a, e1, e2, e3⟩ := h
      obtain ⟨p', h1, h2⟩ := hp k p hk e1
      refine ⟨p', a, h1, by rw [h2.2.2.1, h2.2.2.2]; exact e2, ?_⟩
      rw [h2.1, h2.2.2.2]; exact e3
  | .lsl k lo hi, y, h => by
    simp only [killS]
    split
    · trivial
    · rename_i hk
      obtain ⟨p, a, e1, e2, e3, e4, e5⟩ := h
      obtain ⟨p', h1, h2⟩ := hp k p hk e1
      refine ⟨p', a, h1, by rw [h2.2.2.2]; exact e2, e3, by rw [h2.2.2.1]; exact e4, ?_⟩
      rw [h2.1, h2.2.2.2, h2.2.1]; exact e5
  | .mp k, y, h => by
    simp only [killS]
    split
    · trivial
    · rename_i hk
      obtain ⟨p, b, o, e1, e2, e3⟩ := h
      obtain ⟨p', h1, h2⟩ := hp k p hk e1
      exact ⟨p', b, o, h1, h2.1.trans e2, e3⟩
  | .agg cs, y, h => by obtain ⟨ys, e, r⟩ := h; exact ⟨ys, e, killSL_rep hp r⟩
  | .iface t v, y, h => by obtain ⟨u, e, r⟩ := h; exact ⟨u, e, killS_rep hp r⟩
  | .func f cs, y, h => by obtain ⟨ys, e, r⟩ := h; exact ⟨ys, e, killSL_rep hp r⟩
  | .tup cs, y, h => by obtain ⟨ys, e, r⟩ := h; exact ⟨ys, e, killSL_rep hp r⟩
  | .any, y, h => trivial
theorem killSL_rep {ks : List Nat} (hp : ∀ (k : Nat) (p : Pl), hasB ks k = false → σ[k]? = some p → ∃ p', σc[k]? = some p' ∧ same p p') : ∀ {xs : List LV} {ys : List Value}, LRepL F σ xs ys → LRepL F σc (killSL ks xs) ys
  | [], ys, h => h
  | x :: xs, ys, h => by obtain ⟨y, r, e, hx, hr⟩ := h; exact ⟨y, r, e, killS_rep hp hx, killSL_rep hp hr⟩
theorem same_rep (hp : ∀ (k : Nat) (p : Pl), σ[k]? = some p → ∃ p', σc[k]? = some p' ∧ same p p') : ∀ {x : LV} {y : Value}, LRep F σ x y → LRep F σc x y
  | .g v, y, h => h
  | .loc k off, y, h => by
    obtain ⟨p, b, o, e1, e2, e3⟩ := h
    obtain ⟨p', h1, h2⟩ := hp k p e1
    exact ⟨p', b, o, h1, h2.1.trans e2, e3⟩
  | .elt k e off, y, h => by
    obtain ⟨p, b, o, e1, e2, e3⟩ := h
    obtain ⟨p', h1, h2⟩ := hp k p e1
    exact ⟨p', b, o, h1, h2.1.trans e2, by rw [h2.2.1]; exact e3⟩
  | .rw k, y, h => by
    obtain ⟨p, a, e1, e2, e3⟩ := h
    obtain ⟨p', h1, h2⟩ := hp k p e1
    refine ⟨p', a, h1, by rw [h2.2.2.1, h2.2.2.2]; exact e2, ?_⟩
    rw [h2.1, h2.2.2.2]; exact e3
  | .lsl k lo hi, y, h => by
    obtain ⟨p, a, e1, e2, e3, e4, e5⟩ := h
    obtain ⟨p', h1, h2⟩ := hp k p e1
    refine ⟨p', a, h1, by rw [h2.2.2.2]; exact e2, e3, by rw [h2.2.2.1]; exact e4, ?_⟩
    rw [h2.1, h2.2.2.2, h2.2.1]; exact e5
  | .mp k, y, h => by
    obtain ⟨p, b, o, e1, e2, e3⟩ := h
    obtain ⟨p', h1, h2⟩ := hp k p e1
    exact ⟨p', b, o, h1, h2.1.trans e2, e3⟩
  | .agg cs, y, h => by obtain ⟨ys, e, r⟩ := h; exact ⟨ys, e, sameL_rep hp r⟩
  | .iface t v, y, h => by obtain ⟨u, e, r⟩ := h; exact ⟨u, e, same_rep hp r⟩
  | .func f cs, y, h => by obtain ⟨ys, e, r⟩ := h; exact ⟨ys, e, sameL_rep hp r⟩
  | .tup cs, y, h => by obtain ⟨ys, e, r⟩ := h; exact ⟨ys, e, sameL_rep hp r⟩
  | .any, y, h => trivial
theorem sameL_rep (hp : ∀ (k : Nat) (p : Pl), σ[k]? = some p → ∃ p', σc[k]? = some p' ∧ same p p') : ∀ {xs : List LV} {ys : List Value}, LRepL F σ xs ys → LRepL F σc xs ys
  | [], ys, h => h
  | x :: xs, ys, h => by obtain ⟨y, r, e, hx, hr⟩ := h; exact ⟨y, r, e, same_rep hp hx, sameL_rep hp hr⟩
end
theorem killF_rep {ks : List Nat} {fr : List LV} {ys : List Value} (hp : ∀ (k : Nat) (p : Pl), hasB ks k = false → σ[k]? = some p → ∃ p', σc[k]? = some p' ∧ same p p') (h : LRepL F σ fr ys) : LRepL F σc (killF ks fr) ys := by
  unfold killF; split
  · exact sameL_rep (fun k p => hp k p rfl) h
  · exact killSL_rep hp h
end
end Go.Av

namespace Go.Av
set_option linter.unusedVariables false
set_option linter.unusedSimpArgs false

def noPl : Pl := { at_ := none }
def asPin (ps : List Nat) (j : Nat) (p : Pl) : Pl := { p with pin := p.pin || hasB ps j }
def lendP (ps : List Nat) (σ : List Pl) : List Nat → List Pl
  | [] => []
  | j :: r => asPin ps j (σ.getD j noPl) :: lendP ps σ r

section
variable {G : Gl} {F F' : Fz} {σ σ' : List Pl} {O E' : List Obj} {w w' : World} {js ps : List Nat}

theorem nodup_inj : ∀ {l : List Nat} {i j k : Nat}, l.Nodup → l[i]? = some k → l[j]? = some k → i = j
  | [], i, j, k, _, h, _ => by simp at h
  | x :: l, 0, 0, k, _, _, _ => rfl
  | x :: l, 0, j + 1, k, hn, h, h' => by
    simp only [List.getElem?_cons_zero, Option.some.injEq, List.getElem?_cons_succ] at h h'
    subst h; exact absurd (List.mem_of_getElem? h') (List.nodup_cons.1 hn).1
  | x :: l, i + 1, 0, k, hn, h, h' => by
    simp only [List.getElem?_cons_zero, Option.some.injEq, List.getElem?_cons_succ] at h h'
    subst h'; exact absurd (List.mem_of_getElem? h) (List.nodup_cons.1 hn).1
  | x :: l, i + 1, j + 1, k, hn, h, h' => by
    simp only [List.getElem?_cons_succ] at h h'
    rw [nodup_inj (List.nodup_cons.1 hn).2 h h']
theorem okL_nodup : ∀ {js : List Nat}, okL O js = true → js.Nodup ∧ ∀ j ∈ js, liveAt O j = true
  | [], _ => by simp
  | j :: js, h => by
    simp only [okL] at h
    split at h
    · cases h
    · rename_i h1
      split at h
      · rename_i h2
        obtain ⟨a, b⟩ := okL_nodup h
        refine ⟨List.nodup_cons.2 ⟨fun hm => ?_, a⟩, fun k hk => ?_⟩
        · rw [hasB_iff.2 hm] at h1; cases h1
        · rcases List.mem_cons.1 hk with rfl | hk
          · exact h2
          · exact b k hk
      · cases h
theorem liveAt_get {j : Nat} (h : liveAt O j = true) : ∃ o, O[j]? = some o ∧ og O j = o ∧ o.live = true := by
  have he : og O j = O.getD j .dead := og_eq _ _
  rw [List.getD_eq_getElem?_getD] at he
  cases hO : O[j]? with
  | none => rw [hO] at he; simp only [liveAt, he, Option.getD_none] at h; cases h
  | some o =>
    rw [hO] at he
    refine ⟨o, rfl, he, ?_⟩
    simp only [liveAt, he, Option.getD_some] at h
    cases o <;> first | rfl | cases h

theorem okD_nodup : ∀ {js : List Nat}, okD O js = true → js.Nodup ∧ ∀ j ∈ js, j < O.length
  | [], _ => by simp
  | j :: js, h => by
    simp only [okD] at h
    split at h
    · cases h
    · rename_i h1
      split at h
      · rename_i h2
        obtain ⟨a, b⟩ := okD_nodup h
        refine ⟨List.nodup_cons.2 ⟨fun hm => ?_, a⟩, fun k hk => ?_⟩
        · rw [hasB_iff.2 hm] at h1; cases h1
        · rcases List.mem_cons.1 hk with rfl | hk
          · simpa [Nat.blt_eq] using h2
          · exact b k hk
      · cases h
theorem okD_of : ∀ {js : List Nat}, okL O js = true → okD O js = true
  | [], _ => rfl
  | j :: js, h => by
    simp only [okL] at h
    simp only [okD]
    split at h
    · cases h
    · rename_i h1
      split at h
      · rename_i h2
        obtain ⟨o, ho, _, _⟩ := liveAt_get h2
        have hlt : Nat.blt j O.length = true := by rw [Nat.blt_eq]; exact (List.getElem?_eq_some_iff.1 ho).1
        rw [hlt]; exact okD_of h
      · cases h
theorem lendP_length : ∀ {js : List Nat}, (lendP ps σ js).length = js.length
  | [] => rfl
  | j :: js => by simp [lendP, lendP_length]
theorem lendO_length : ∀ {ks : List Nat}, (lendO js ps O ks).length = ks.length
  | [] => rfl
  | j :: ks => by simp [lendO, lendO_length]
theorem lendP_get : ∀ {js : List Nat} {i : Nat} {q : Pl}, (lendP ps σ js)[i]? = some q ↔ ∃ j, js[i]? = some j ∧ q = asPin ps j (σ.getD j noPl)
  | [], i, q => by simp [lendP]
  | j :: js, 0, q => by simp [lendP, eq_comm]
  | j :: js, i + 1, q => by simpa [lendP] using lendP_get (js := js) (i := i) (q := q)
theorem lendO_get : ∀ {ks : List Nat} {i : Nat} {o : Obj}, (lendO js ps O ks)[i]? = some o ↔ ∃ j, ks[i]? = some j ∧ o = unO js O (hasB ps j) (og O j)
  | [], i, q => by simp [lendO]
  | j :: ks, 0, q => by simp [lendO, eq_comm]
  | j :: ks, i + 1, q => by simpa [lendO] using lendO_get (ks := ks) (i := i) (o := q)
theorem lendP_mem {q : Pl} (h : q ∈ lendP ps σ js) : ∃ j ∈ js, q = asPin ps j (σ.getD j noPl) := by
  obtain ⟨i, hi⟩ := List.mem_iff_getElem?.1 h
  obtain ⟨j, hj, e⟩ := lendP_get.1 hi
  exact ⟨j, List.mem_of_getElem? hj, e⟩

theorem unO_live {p : Bool} {o : Obj} (h : (unO js O p o).live = true) : o.live = true := by
  cases o <;> simp only [unO] at h <;> first | rfl | exact h

theorem ObjOk.un {p p' : Pl} {o : Obj} {b : Bool} {σc : List Pl} (hs : St G F σ O w) (hp : ∀ k i, pos js k = some i → ∀ p, σ[k]? = some p → ∃ p', σc[i]? = some p' ∧ same p p') (hsame : same p p') (h : ObjOk F σ w o p) : ObjOk F σc w (unO js O b o) p' := by
  obtain ⟨e1, e2, e3, e4⟩ := hsame
  cases o with
  | cells cs =>
    obtain ⟨b', arr, e, z, hat, hn, hw, hf, h1c, hr⟩ := h
    exact ⟨b', arr, e, z, e1.trans hat, hn, hw, hf, h1c, unL_rep hs hp hr⟩
  | row pn s es =>
    obtain ⟨hps, hl, hc, hr⟩ := h
    have : ∀ pn', ObjOk F σc w (.row pn' s es) p' := by
      intro pn'
      refine ⟨e2.trans hps, by rw [e3]; exact hl, by rw [e3, e4]; exact hc, ?_⟩
      rw [e1, e4]; exact hr
    simp only [unO]
    split <;> exact this _
  | map es =>
    obtain ⟨b', ents, hat, hn, hw, hr⟩ := h
    exact ⟨b', ents, e1.trans hat, hn, hw, hr⟩
  | mit km since seen => trivial
  | fcells cs => trivial
  | frow s es => trivial
  | dead => trivial

theorem lend_same' (hs : St G F σ O w) : ∀ k i, pos js k = some i → ∀ p, σ[k]? = some p → ∃ p', (lendP ps σ js)[i]? = some p' ∧ same p p' := by
  intro k i hk p hp
  have h1 := pos_some hk
  refine ⟨asPin ps k p, lendP_get.2 ⟨k, h1, ?_⟩, rfl, rfl, rfl, rfl⟩
  rw [List.getD_eq_getElem?_getD, hp]; rfl

/-- A state lent. -/
theorem St.lendD (hl : okD O js = true) (hs : St G F σ O w) : St G F (lendP ps σ js) (lendO js ps O js) w := by
  obtain ⟨hnd, hlive⟩ := okD_nodup hl
  have at_ : ∀ {i : Nat} {o : Obj} {p : Pl}, (lendO js ps O js)[i]? = some o → (lendP ps σ js)[i]? = some p → ∃ j o' p', js[i]? = some j ∧ O[j]? = some o' ∧ σ[j]? = some p' ∧ o = unO js O (hasB ps j) o' ∧ p = asPin ps j p' := by
    intro i o p ho hp
    obtain ⟨j, hj, rfl⟩ := lendO_get.1 ho
    obtain ⟨j', hj', rfl⟩ := lendP_get.1 hp
    rw [hj] at hj'; obtain rfl := Option.some.inj hj'
    have hjl := hlive j (List.mem_of_getElem? hj)
    have hlt : j < σ.length := by rw [← hs.len]; exact hjl
    refine ⟨j, O[j], σ[j], hj, List.getElem?_eq_getElem hjl, List.getElem?_eq_getElem hlt, by rw [og_eq, List.getD_eq_getElem?_getD, List.getElem?_eq_getElem hjl]; rfl, ?_⟩
    rw [List.getD_eq_getElem?_getD, List.getElem?_eq_getElem hlt]; rfl
  refine ⟨hs.fz, hs.gl, by rw [lendP_length, lendO_length], ?_, ?_, ?_, ?_⟩
  · intro i o p ho hp
    obtain ⟨j, o', p', hj, hO, hσ, rfl, rfl⟩ := at_ ho hp
    exact ObjOk.un (p := p') hs (lend_same' hs) ⟨rfl, rfl, rfl, rfl⟩ (hs.obj j o' p' hO hσ)
  · intro p hp b o hat
    obtain ⟨j, hj, rfl⟩ := lendP_mem hp
    have hlt : j < σ.length := by rw [← hs.len]; exact hlive j hj
    rw [List.getD_eq_getElem?_getD, List.getElem?_eq_getElem hlt] at hat
    exact hs.inside σ[j] (List.getElem_mem hlt) b o hat
  · intro i i' p p' o o' b c b' c' hne ho ho' l1 l2 hp hp' hat hat'
    obtain ⟨j, o1, p1, hj, hO, hσ, rfl, rfl⟩ := at_ ho hp
    obtain ⟨j', o1', p1', hj', hO', hσ', rfl, rfl⟩ := at_ ho' hp'
    refine hs.apart j j' p1 p1' o1 o1' b c b' c' ?_ hO hO' (unO_live l1) (unO_live l2) hσ hσ' hat hat'
    intro e
    obtain ⟨a1, a2⟩ := List.getElem?_eq_some_iff.1 hj
    obtain ⟨b1, b2⟩ := List.getElem?_eq_some_iff.1 hj'
    exact hne (nodup_inj hnd hj (e ▸ hj'))
  · intro i o p ho hp
    obtain ⟨j, o', p', hj, hO, hσ, rfl, rfl⟩ := at_ ho hp
    have := hs.pin j o' p' hO hσ
    cases o' <;> simp only [unO] <;> try trivial
    case cells cs => simp only [pinOk] at this ⊢; simp [asPin, this]
    case map es => simp only [pinOk] at this ⊢; simp [asPin, this]
    case row pn s es =>
      simp only [pinOk] at this
      split
      · rename_i h; simp [pinOk, asPin, h]
      · rename_i h; simp [pinOk, asPin, h, this]

theorem lend_same (hl : okL O js = true) (hs : St G F σ O w) : ∀ k i, pos js k = some i → ∀ p, σ[k]? = some p → ∃ p', (lendP ps σ js)[i]? = some p' ∧ same p p' := lend_same' hs
theorem St.lend (hl : okL O js = true) (hs : St G F σ O w) : St G F (lendP ps σ js) (lendO js ps O js) w := hs.lendD (okD_of hl)
theorem upd_length {α : Type} {f : α → α} : ∀ {l : List α} {n : Nat}, (upd f l n).length = l.length
  | [], n => rfl
  | x :: l, 0 => rfl
  | x :: l, n + 1 => by simp [upd, upd_length]
theorem upd_ne {α : Type} {f : α → α} : ∀ {l : List α} {n k : Nat}, k ≠ n → (upd f l n)[k]? = l[k]?
  | [], n, k, _ => rfl
  | x :: l, 0, 0, h => absurd rfl h
  | x :: l, 0, k + 1, h => rfl
  | x :: l, n + 1, 0, h => rfl
  | x :: l, n + 1, k + 1, h => by simpa [upd] using upd_ne (l := l) (n := n) (k := k) (by omega)
theorem upd_at {α : Type} {f : α → α} : ∀ {l : List α} {n : Nat}, (upd f l n)[n]? = l[n]?.map f
  | [], n => rfl
  | x :: l, 0 => rfl
  | x :: l, n + 1 => by simpa [upd] using upd_at (l := l) (n := n)
theorem setAll_length {α β : Type} {f : α → β → α} : ∀ {js : List Nat} {s : List α} {t : List β}, (setAll f js s t).length = s.length
  | [], s, t => rfl
  | j :: js, s, [] => rfl
  | j :: js, s, b :: t => by simp [setAll, setAll_length, upd_length]
theorem setAll_not {α β : Type} {f : α → β → α} : ∀ {js : List Nat} {s : List α} {t : List β} {k : Nat}, k ∉ js → (setAll f js s t)[k]? = s[k]?
  | [], s, t, k, h => rfl
  | j :: js, s, [], k, h => rfl
  | j :: js, s, b :: t, k, h => by
    simp only [List.mem_cons, not_or] at h
    rw [setAll, setAll_not h.2, upd_ne h.1]
theorem setAll_at {α β : Type} {f : α → β → α} : ∀ {js : List Nat} {s : List α} {t : List β} {i j : Nat} {a : α} {b : β}, js.Nodup → js[i]? = some j → t[i]? = some b → s[j]? = some a → (setAll f js s t)[j]? = some (f a b)
  | [], s, t, i, j, a, b, _, h, _, _ => by simp at h
  | j' :: js, s, [], i, j, a, b, _, _, h, _ => by simp at h
  | j' :: js, s, b' :: t, 0, j, a, b, hn, h1, h2, h3 => by
    simp only [List.getElem?_cons_zero, Option.some.injEq] at h1 h2
    subst h1 h2
    rw [setAll, setAll_not (List.nodup_cons.1 hn).1, upd_at, h3]; rfl
  | j' :: js, s, b' :: t, i + 1, j, a, b, hn, h1, h2, h3 => by
    simp only [List.getElem?_cons_succ] at h1 h2
    rw [setAll]
    refine setAll_at (List.nodup_cons.1 hn).2 h1 h2 ?_
    rw [upd_ne, h3]
    rintro rfl
    exact (List.nodup_cons.1 hn).1 (List.mem_of_getElem? h1)

theorem renLO_length {n : Nat} : ∀ {E : List Obj}, (renLO js n E).length = E.length
  | [] => rfl
  | o :: E => by simp [renLO, renLO_length]
theorem renLO_get {n : Nat} : ∀ {E : List Obj} {i : Nat}, (renLO js n E)[i]? = E[i]?.map (renO js n)
  | [], i => rfl
  | o :: E, 0 => rfl
  | o :: E, i + 1 => by simpa [renLO] using renLO_get (E := E) (i := i)

def kO (ks : List Nat) : Obj → Obj
  | .cells cs => .cells (killSL ks cs)
  | o => o
theorem killSO_get {ks : List Nat} : ∀ {O : List Obj} {k : Nat}, (killSO ks O)[k]? = O[k]?.map (kO ks)
  | [], k => by simp [killSO]
  | o :: r, 0 => by cases o <;> rfl
  | o :: r, k + 1 => by
    have := killSO_get (ks := ks) (O := r) (k := k)
    cases o <;> simpa [killSO] using this
theorem killSO_length {ks : List Nat} : ∀ {O : List Obj}, (killSO ks O).length = O.length
  | [] => rfl
  | o :: r => by cases o <;> simp [killSO, killSO_length]

theorem ObjOk.ren {n : Nat} {p p' : Pl} {o : Obj} {σc : List Pl} (hp : ∀ (i : Nat) (p : Pl), σc[i]? = some p → ∃ p', σ[nth js n i]? = some p' ∧ same p p') (hsame : same p p') (h : ObjOk F σc w o p) : ObjOk F σ w (renO js n o) p' := by
  obtain ⟨e1, e2, e3, e4⟩ := hsame
  cases o with
  | cells cs =>
    obtain ⟨b', arr, e, z, hat, hn, hw, hf, h1c, hr⟩ := h
    exact ⟨b', arr, e, z, e1.trans hat, hn, hw, hf, h1c, renL_rep hp hr⟩
  | row pn s es =>
    obtain ⟨hps, hl, hc, hr⟩ := h
    refine ⟨e2.trans hps, by rw [e3]; exact hl, by rw [e3, e4]; exact hc, ?_⟩
    rw [e1, e4]; exact hr
  | map es =>
    obtain ⟨b', ents, hat, hn, hw, hr⟩ := h
    exact ⟨b', ents, e1.trans hat, hn, hw, hr⟩
  | mit km since seen => trivial
  | fcells cs =>
    obtain ⟨b, off, arr, hat, hF', hr⟩ := h
    exact ⟨b, off, arr, e1.trans hat, hF', hr⟩
  | frow s es =>
    obtain ⟨hps, hl, hc, hr⟩ := h
    refine ⟨e2.trans hps, by rw [e3]; exact hl, by rw [e3, e4]; exact hc, ?_⟩
    rw [e1, e4]; exact hr
  | dead => trivial

def pB (p p' : Pl) : Pl := { p' with pin := p.pin }

theorem turns_not {k : Nat} : ∀ {js : List Nat}, k ∈ js → hasB (turns O ps js) k = false → ∀ pn s es, og O k = .row pn s es → pn = true ∨ hasB ps k = true := by
  intro js
  induction js with
  | nil => intro h; simp at h
  | cons j js ih =>
    intro hk hn pn s es ho
    simp only [turns] at hn
    rcases List.mem_cons.1 hk with rfl | hk
    · rw [ho] at hn
      simp only at hn
      cases pn
      · right
        simp only at hn
        split at hn
        · assumption
        · simp only [hasB, Nat.beq_refl] at hn; cases hn
      · exact .inl rfl
    · refine ih hk ?_ pn s es ho
      split at hn
      · split at hn
        · exact hn
        · split at hn
          · exact hn
          · simp only [hasB] at hn
            split at hn
            · cases hn
            · exact hn
      · exact hn

end
end Go.Av

namespace Go.Av
set_option linter.unusedVariables false
set_option linter.unusedSimpArgs false

section
variable {G : Gl} {F F' : Fz} {σ σ' : List Pl} {O E' : List Obj} {w w' : World} {js ps : List Nat}

def backP (js : List Nat) (σ σ' : List Pl) : List Pl := setAll pB js σ σ' ++ σ'.drop js.length

/-- An object of the state after: one of here that was not lent, one that has come back, a new one. -/
inductive Part (O : List Obj) (σ : List Pl) (E' : List Obj) (σ' : List Pl) (js ks : List Nat) (k : Nat) (o : Obj) (p : Pl) : Prop where
  | own (o0 : Obj) (h : k ∉ js) (hO : O[k]? = some o0) (hσ : σ[k]? = some p) (ho : o = kO ks o0 ∨ (ks = [] ∧ o = o0))
  | lent (i : Nat) (o0 : Obj) (p0 : Pl) (e : Obj) (q : Pl) (hi : js[i]? = some k) (hO : O[k]? = some o0) (hσ : σ[k]? = some p0) (hE : E'[i]? = some e) (hq : σ'[i]? = some q) (ho : o = backO (kO ks o0) (renO js O.length e) ∨ o = backO o0 (renO js O.length e)) (hp : p = pB p0 q)
  | fresh (i : Nat) (e : Obj) (hi : k = O.length + i) (hE : E'[js.length + i]? = some e) (hq : σ'[js.length + i]? = some p) (ho : o = renO js O.length e)

theorem killFO_get {ks : List Nat} {k : Nat} : (killFO ks O)[k]? = O[k]?.map (kO ks) ∨ (ks = [] ∧ (killFO ks O)[k]? = O[k]?) := by
  unfold killFO; split
  · exact .inr ⟨rfl, rfl⟩
  · exact .inl killSO_get
theorem killFO_length {ks : List Nat} : (killFO ks O).length = O.length := by
  unfold killFO; split
  · rfl
  · exact killSO_length

theorem part_of (hl : okL O js = true) (hs : St G F σ O w) (hs' : St G F' σ' E' w') (hlen : js.length ≤ σ'.length) {ks : List Nat} {k : Nat} {o : Obj} {p : Pl} (ho : (backL js ks O E')[k]? = some o) (hp : (backP js σ σ')[k]? = some p) : Part O σ E' σ' js ks k o p := by
  obtain ⟨hnd, hlive⟩ := okL_nodup hl
  have hle : js.length ≤ E'.length := by rw [hs'.len]; exact hlen
  have hl1 : (setAll backO js (killFO ks O) (renLO js O.length E')).length = O.length := by rw [setAll_length, killFO_length]
  have hl2 : (setAll pB js σ σ').length = σ.length := setAll_length
  unfold backL at ho
  unfold backP at hp
  by_cases hk : k < O.length
  · rw [List.getElem?_append_left (by rw [hl1]; exact hk)] at ho
    rw [List.getElem?_append_left (by rw [hl2, ← hs.len]; exact hk)] at hp
    have hO : O[k]? = some O[k] := List.getElem?_eq_getElem hk
    have hk' : k < σ.length := by rw [← hs.len]; exact hk
    have hσ : σ[k]? = some σ[k] := List.getElem?_eq_getElem hk'
    by_cases hm : k ∈ js
    · obtain ⟨i, hi⟩ := List.mem_iff_getElem?.1 hm
      have hil : i < js.length := (List.getElem?_eq_some_iff.1 hi).1
      have hE : E'[i]? = some (E'[i]'(by omega)) := List.getElem?_eq_getElem (by omega)
      have hq : σ'[i]? = some (σ'[i]'(by omega)) := List.getElem?_eq_getElem (by omega)
      rw [setAll_at hnd hi hq hσ] at hp
      obtain rfl := Option.some.inj hp
      have hR : (renLO js O.length E')[i]? = some (renO js O.length (E'[i]'(by omega))) := by rw [renLO_get, hE]; rfl
      rcases killFO_get (O := O) (ks := ks) (k := k) with h | ⟨_, h⟩
      · rw [hO] at h
        rw [setAll_at hnd hi hR h] at ho
        exact .lent i _ _ _ _ hi hO hσ hE hq (.inl (Option.some.inj ho).symm) rfl
      · rw [hO] at h
        rw [setAll_at hnd hi hR h] at ho
        exact .lent i _ _ _ _ hi hO hσ hE hq (.inr (Option.some.inj ho).symm) rfl
    · rw [setAll_not hm] at ho hp
      rw [hσ] at hp; obtain rfl := Option.some.inj hp
      rcases killFO_get (O := O) (ks := ks) (k := k) with h | ⟨h0, h⟩
      · rw [h, hO] at ho
        exact .own _ hm hO hσ (.inl (Option.some.inj ho).symm)
      · rw [h, hO] at ho
        exact .own _ hm hO hσ (.inr ⟨h0, (Option.some.inj ho).symm⟩)
  · rw [List.getElem?_append_right (by rw [hl1]; omega), hl1] at ho
    rw [List.getElem?_append_right (by rw [hl2, ← hs.len]; omega), hl2, ← hs.len] at hp
    rw [dr_eq, List.getElem?_drop, renLO_get, Option.map_eq_some_iff] at ho
    rw [List.getElem?_drop] at hp
    obtain ⟨e, he, rfl⟩ := ho
    exact .fresh (k - O.length) e (by omega) he hp rfl

theorem backO_live {o e : Obj} (h : (backO o e).live = true) : e.live = true := by
  cases o <;> simp only [backO] at h <;> first | (cases h; done) | (cases e <;> first | rfl | cases h)
theorem renO_live {n : Nat} {e : Obj} (h : (renO js n e).live = true) : e.live = true := by cases e <;> first | rfl | exact h
theorem kO_live {ks : List Nat} {o : Obj} : (kO ks o).live = o.live := by cases o <;> rfl

theorem Part.live {ks : List Nat} {k : Nat} {o : Obj} {p : Pl} (h : Part O σ E' σ' js ks k o p) (hl : o.live = true) : (∃ o0, k ∉ js ∧ O[k]? = some o0 ∧ σ[k]? = some p ∧ o0.live = true) ∨ ∃ i e q, E'[i]? = some e ∧ σ'[i]? = some q ∧ e.live = true ∧ p.at_ = q.at_ ∧ nth js O.length i = k := by
  cases h with
  | own o0 h hO hσ ho =>
    refine .inl ⟨o0, h, hO, hσ, ?_⟩
    rcases ho with rfl | ⟨_, rfl⟩
    · rw [kO_live] at hl; exact hl
    · exact hl
  | lent i o0 p0 e q hi hO hσ hE hq ho hp =>
    refine .inr ⟨i, e, q, hE, hq, ?_, by rw [hp]; rfl, nth_lt hi⟩
    rcases ho with rfl | rfl
    · exact renO_live (backO_live hl)
    · exact renO_live (backO_live hl)
  | fresh i e hi hE hq ho =>
    refine .inr ⟨js.length + i, e, p, hE, hq, ?_, rfl, by rw [nth_ge, hi]⟩
    rw [ho] at hl; exact renO_live hl

theorem back_ren (hl : okL O js = true) (hs : St G F σ O w) (hlen : js.length ≤ σ'.length) : ∀ (i : Nat) (p : Pl), σ'[i]? = some p → ∃ p', (backP js σ σ')[nth js O.length i]? = some p' ∧ same p p' := by
  intro i p hp
  obtain ⟨hnd, hlive⟩ := okL_nodup hl
  have hl2 : (setAll pB js σ σ').length = σ.length := setAll_length
  unfold backP
  by_cases hi : i < js.length
  · have hj : js[i]? = some js[i] := List.getElem?_eq_getElem hi
    obtain ⟨o, h1, _, _⟩ := liveAt_get (hlive _ (List.mem_of_getElem? hj))
    have hlt : js[i] < σ.length := by rw [← hs.len]; exact (List.getElem?_eq_some_iff.1 h1).1
    rw [nth_lt hj, List.getElem?_append_left (by rw [hl2]; exact hlt), setAll_at hnd hj hp (List.getElem?_eq_getElem hlt)]
    exact ⟨_, rfl, rfl, rfl, rfl, rfl⟩
  · obtain ⟨t, rfl⟩ : ∃ t, i = js.length + t := ⟨i - js.length, by omega⟩
    rw [nth_ge, List.getElem?_append_right (by rw [hl2, hs.len]; omega), hl2, hs.len, List.getElem?_drop, Nat.add_sub_cancel_left]
    exact ⟨p, hp, .refl p⟩

theorem back_keep (hl : okL O js = true) (hs : St G F σ O w) (st : Step F (lendP ps σ js) w F' σ' w') : ∀ (k : Nat) (p : Pl), hasB (turns O ps js) k = false → σ[k]? = some p → ∃ p', (backP js σ σ')[k]? = some p' ∧ same p p' := by
  intro k p hn hp
  obtain ⟨hnd, hlive⟩ := okL_nodup hl
  have hl2 : (setAll pB js σ σ').length = σ.length := setAll_length
  have hk : k < σ.length := (List.getElem?_eq_some_iff.1 hp).1
  unfold backP
  rw [List.getElem?_append_left (by rw [hl2]; exact hk)]
  by_cases hm : k ∈ js
  · obtain ⟨i, hi⟩ := List.mem_iff_getElem?.1 hm
    obtain ⟨o, h1, h2, h3⟩ := liveAt_get (hlive _ hm)
    have hq : (lendP ps σ js)[i]? = some (asPin ps k p) := lendP_get.2 ⟨k, hi, by rw [List.getD_eq_getElem?_getD, hp]; rfl⟩
    have hpin : (asPin ps k p).pin = true := by
      have h4 := hs.pin k o p h1 hp
      cases o <;> first | (cases h3; done) | skip
      case cells cs => simp only [pinOk] at h4; simp [asPin, h4]
      case map es => simp only [pinOk] at h4; simp [asPin, h4]
      case mit km s l => simp only [pinOk] at h4; simp [asPin, h4]
      case row pn s es =>
        simp only [pinOk] at h4
        rcases turns_not hm hn pn s es h2 with rfl | h5
        · simp [asPin, h4]
        · simp [asPin, h5]
    have := st.pins i _ hq hpin
    rw [setAll_at hnd hi this hp]
    exact ⟨_, rfl, rfl, rfl, rfl, rfl⟩
  · rw [setAll_not hm]; exact ⟨p, hp, .refl p⟩

theorem lent_may (hs : St G F σ O w) {b : Nat} (h : May (lendP ps σ js) w b) : w.heap.size ≤ b ∨ ∃ j ∈ js, ∃ p o, σ[j]? = some p ∧ p.at_ = some (b, o) := by
  rcases h with h | ⟨q, hq, o, ho⟩
  · exact .inl h
  · obtain ⟨j, hj, rfl⟩ := lendP_mem hq
    rw [List.getD_eq_getElem?_getD] at ho
    cases hσ : σ[j]? with
    | none => rw [hσ] at ho; cases ho
    | some p => rw [hσ] at ho; exact .inr ⟨j, hj, p, o, hσ, ho⟩

/-- The state after. -/
theorem St.back (hl : okL O js = true) (hs : St G F σ O w) (hs' : St G F' σ' E' w') (st : Step F (lendP ps σ js) w F' σ' w') :
    St G F' (backP js σ σ') (backL js (turns O ps js) O E') w' ∧ Step F σ w F' (backP js σ σ') w' := by
  obtain ⟨hnd, hlive⟩ := okL_nodup hl
  have hlen : js.length ≤ σ'.length := by have := st.len; rwa [lendP_length] at this
  have hl1 : (setAll backO js (killFO (turns O ps js) O) (renLO js O.length E')).length = O.length := by rw [setAll_length, killFO_length]
  have hl2 : (setAll pB js σ σ').length = σ.length := setAll_length
  -- a block of an object that was not lent is not touched
  have away : ∀ {k : Nat} {o : Obj} {p : Pl} {b c : Nat}, k ∉ js → O[k]? = some o → o.live = true → σ[k]? = some p → p.at_ = some (b, c) → ¬ May (lendP ps σ js) w b := by
    intro k o p b c hk hO hlv hσ hat hm
    rcases lent_may hs hm with h | ⟨j, hj, q, c', hq, hat'⟩
    · have := hs.lt hσ hat; omega
    · obtain ⟨oj, h1, _, h3⟩ := liveAt_get (hlive j hj)
      exact hs.apart k j p q o oj b c b c' (fun e => hk (e ▸ hj)) hO h1 hlv h3 hσ hq hat hat' rfl
  have hpins : ∀ (k : Nat) (p : Pl), σ[k]? = some p → p.pin = true → (backP js σ σ')[k]? = some p := by
    intro k p hp hpin
    have hk : k < σ.length := (List.getElem?_eq_some_iff.1 hp).1
    unfold backP
    rw [List.getElem?_append_left (by rw [hl2]; exact hk)]
    by_cases hm : k ∈ js
    · obtain ⟨i, hi⟩ := List.mem_iff_getElem?.1 hm
      have hq : (lendP ps σ js)[i]? = some (asPin ps k p) := lendP_get.2 ⟨k, hi, by rw [List.getD_eq_getElem?_getD, hp]; rfl⟩
      have := st.pins i _ hq (by simp [asPin, hpin])
      rw [setAll_at hnd hi this hp]
      congr 1
    · rw [setAll_not hm]; exact hp
  constructor
  · refine ⟨hs'.fz, hs'.gl, ?_, ?_, ?_, ?_, ?_⟩
    · simp only [backL, backP, List.length_append, hl1, hl2, dr_eq, List.length_drop, renLO_length, hs'.len]; rw [hs.len]
    · intro k o p ho hp
      cases part_of hl hs hs' hlen ho hp with
      | own o0 h hO hσ hoo =>
        have hok := hs.obj k o0 p hO hσ
        have hb : ∀ b c, o0.live = true → p.at_ = some (b, c) → w'.heap[b]? = w.heap[b]? ∧ (F b = none → F' b = none) := by
          intro b c hlv hat
          have ha := away h hO hlv hσ hat
          refine ⟨st.frame b ha, fun hn => ?_⟩
          cases hF : F' b with
          | none => rfl
          | some arr => exact absurd (st.fnew b hn (by rw [hF]; simp)) ha
        have hcells : ∀ cs cs', o0 = .cells cs → (∀ arr, LRepL F σ cs arr → LRepL F' (backP js σ σ') cs' arr) → ObjOk F' (backP js σ σ') w' (.cells cs') p := by
          rintro cs cs' rfl hcs
          obtain ⟨b, arr, e, z, hat, hn, hw, hf, h1c, hr⟩ := hok
          obtain ⟨h1, h2⟩ := hb b 0 rfl hat
          exact ⟨b, arr, e, z, hat, h2 hn, by rw [h1]; exact hw, hf, h1c, hcs _ hr⟩
        have hrest : (∀ cs, o0 ≠ .cells cs) → ObjOk F' (backP js σ σ') w' o0 p := by
          intro hnc
          cases o0 with
          | cells cs => exact absurd rfl (hnc cs)
          | row pn s es => exact hok.keep st.le (σ' := σ) (fun _ _ h => h) hb
          | fcells cs => exact hok.keep st.le (σ' := σ) (fun _ _ h => h) hb
          | frow s es => exact hok.keep st.le (σ' := σ) (fun _ _ h => h) hb
          | map es => exact hok.keep st.le (σ' := σ) (fun _ _ h => h) hb
          | mit km since seen =>
            obtain ⟨b, m, pm, ents, hat, hn, hw1, f1, f2, f3, f4⟩ := hok
            obtain ⟨h1, h2⟩ := hb b 0 rfl hat
            exact ⟨b, m, pm, ents, hat, h2 hn, by rw [h1]; exact hw1, f1, hpins km pm f2 f4, f3, f4⟩
          | dead => trivial
        have hkp := back_keep (ps := ps) (σ' := σ') hl hs st
        rcases hoo with rfl | ⟨h0, rfl⟩
        · cases o0 with
          | cells cs => exact hcells cs _ rfl fun arr hr => killSL_rep hkp (hr.mono st.le (fun _ _ h => h))
          | row pn s es => exact hrest (fun cs h => by cases h)
          | fcells cs => exact hrest (fun cs h => by cases h)
          | frow s es => exact hrest (fun cs h => by cases h)
          | map es => exact hok.keep st.le (σ' := σ) (fun _ _ h => h) hb
          | mit km since seen =>
            obtain ⟨b, m, pm, ents, hat, hn, hw1, f1, f2, f3, f4⟩ := hok
            obtain ⟨h1, h2⟩ := hb b 0 rfl hat
            exact ⟨b, m, pm, ents, hat, h2 hn, by rw [h1]; exact hw1, f1, hpins km pm f2 f4, f3, f4⟩
          | dead => trivial
        · cases o with
          | cells cs => exact hcells cs _ rfl fun arr hr => sameL_rep (fun k p h => hkp k p (by rw [h0]; rfl) h) (hr.mono st.le (fun _ _ h => h))
          | row pn s es => exact hrest (fun cs h => by cases h)
          | fcells cs => exact hrest (fun cs h => by cases h)
          | frow s es => exact hrest (fun cs h => by cases h)
          | map es => exact hok.keep st.le (σ' := σ) (fun _ _ h => h) hb
          | mit km since seen =>
            obtain ⟨b, m, pm, ents, hat, hn, hw1, f1, f2, f3, f4⟩ := hok
            obtain ⟨h1, h2⟩ := hb b 0 rfl hat
            exact ⟨b, m, pm, ents, hat, h2 hn, by rw [h1]; exact hw1, f1, hpins km pm f2 f4, f3, f4⟩
          | dead => trivial
      | lent i o0 p0 e q hi hO hσ hE hq hoo hpp =>
        have h1 : ObjOk F' (backP js σ σ') w' (renO js O.length e) p := ObjOk.ren (back_ren hl hs hlen) (by rw [hpp]; exact ⟨rfl, rfl, rfl, rfl⟩) (hs'.obj i e q hE hq)
        have key : ∀ x : Obj, ObjOk F' (backP js σ σ') w' (backO x (renO js O.length e)) p := by
          intro x
          generalize renO js O.length e = e' at h1
          cases x <;> cases e' <;> first | trivial | exact h1
        rcases hoo with rfl | rfl <;> exact key _
      | fresh i e hi hE hq hoo =>
        rw [hoo]
        exact ObjOk.ren (back_ren hl hs hlen) (.refl p) (hs'.obj _ e p hE hq)
    · intro p hp b c hat
      obtain ⟨k, hk⟩ := List.mem_iff_getElem?.1 hp
      have hkl : k < (backL js (turns O ps js) O E').length := by
        have := (List.getElem?_eq_some_iff.1 hk).1
        have e : (backL js (turns O ps js) O E').length = (backP js σ σ').length := by simp only [backL, backP, List.length_append, hl1, hl2, dr_eq, List.length_drop, renLO_length, hs'.len]; rw [hs.len]
        omega
      cases part_of hl hs hs' hlen (List.getElem?_eq_getElem hkl) hk with
      | own o0 h hO hσ hoo => exact Nat.lt_of_lt_of_le (hs.lt hσ hat) st.size
      | lent i o0 p0 e q hi hO hσ hE hq hoo hpp => exact hs'.lt hq (by rw [hpp] at hat; exact hat)
      | fresh i e hi hE hq hoo => exact hs'.lt hq hat
    · intro i j p q oi oj b c d e hij hi hj li lj hpi hpj ha hb
      have cross : ∀ {k : Nat} {o0 : Obj} {p0 q0 : Pl} {i0 b c d e : Nat}, k ∉ js → O[k]? = some o0 → o0.live = true → σ[k]? = some p0 → p0.at_ = some (b, c) → σ'[i0]? = some q0 → q0.at_ = some (d, e) → b ≠ d := by
        intro k o0 p0 q0 i0 b c d e hk hO hlv hσ hat hq hat' hbd
        subst hbd
        exact away hk hO hlv hσ hat (st.pnew q0 (List.mem_of_getElem? hq) _ _ hat')
      rcases (part_of hl hs hs' hlen hi hpi).live li with ⟨o1, h1, h2, h3, h4⟩ | ⟨i1, e1, q1, h1, h2, h3, h4, h5⟩ <;> rcases (part_of hl hs hs' hlen hj hpj).live lj with ⟨o2, g1, g2, g3, g4⟩ | ⟨i2, e2, q2, g1, g2, g3, g4, g5⟩
      · exact hs.apart i j p q o1 o2 b c d e hij h2 g2 h4 g4 h3 g3 ha hb
      · exact cross h1 h2 h4 h3 ha g2 (g4 ▸ hb)
      · exact fun h => cross g1 g2 g4 g3 hb h2 (h4 ▸ ha) h.symm
      · refine hs'.apart i1 i2 q1 q2 e1 e2 b c d e (fun h => hij ?_) h1 g1 h3 g3 h2 g2 (h4 ▸ ha) (g4 ▸ hb)
        rw [← h5, ← g5, h]
    · intro k o p ho hp
      cases part_of hl hs hs' hlen ho hp with
      | own o0 h hO hσ hoo =>
        have := hs.pin k o0 p hO hσ
        rcases hoo with rfl | ⟨_, rfl⟩
        · cases o0 <;> exact this
        · exact this
      | lent i o0 p0 e q hi hO hσ hE hq hoo hpp =>
        have h4 := hs.pin k o0 p0 hO hσ
        have h5 := hs'.pin i e q hE hq
        have key : ∀ x, (x = o0 ∨ x = kO (turns O ps js) o0) → pinOk (backO x (renO js O.length e)) p := by
          rintro x hx
          rw [hpp]
          rcases hx with hx | hx <;> subst hx
          · cases x <;> cases e <;> first | trivial | exact h4
          · cases o0 <;> cases e <;> first | trivial | exact h4
        rcases hoo with rfl | rfl
        · exact key _ (.inr rfl)
        · exact key _ (.inl rfl)
      | fresh i e hi hE hq hoo =>
        have h5 := hs'.pin _ e p hE hq
        rw [hoo]; cases e <;> first | trivial | exact h5
  · have mayof : ∀ {b}, May (lendP ps σ js) w b → May σ w b := by
      intro b hb
      rcases lent_may hs hb with h | ⟨j, _, p, o, hp, hat⟩
      · exact .inl h
      · exact .inr ⟨p, List.mem_of_getElem? hp, o, hat⟩
    refine ⟨st.le, fun b hb => st.frame b fun h => hb (mayof h), fun b h1 h2 => mayof (st.fnew b h1 h2), ?_, st.size, st.os, st.tape, st.output, ?_, ?_⟩
    · intro p hp b c hat
      obtain ⟨k, hk⟩ := List.mem_iff_getElem?.1 hp
      have hkl : k < (backL js (turns O ps js) O E').length := by
        have := (List.getElem?_eq_some_iff.1 hk).1
        have e : (backL js (turns O ps js) O E').length = (backP js σ σ').length := by simp only [backL, backP, List.length_append, hl1, hl2, dr_eq, List.length_drop, renLO_length, hs'.len]; rw [hs.len]
        omega
      cases part_of hl hs hs' hlen (List.getElem?_eq_getElem hkl) hk with
      | own o0 h hO hσ hoo => exact .inr ⟨p, List.mem_of_getElem? hσ, c, hat⟩
      | lent i o0 p0 e q hi hO hσ hE hq hoo hpp => exact mayof (st.pnew q (List.mem_of_getElem? hq) b c (by rw [hpp] at hat; exact hat))
      | fresh i e hi hE hq hoo => exact mayof (st.pnew p (List.mem_of_getElem? hq) b c hat)
    · exact hpins
    · simp only [backP, List.length_append, hl2]; omega
end
end Go.Av
