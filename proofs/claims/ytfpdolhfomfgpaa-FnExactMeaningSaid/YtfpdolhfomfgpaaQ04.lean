/-
  Values at a distance from memory, states of a call, and contracts of functions over them. No condition.
-/
import Derived.Orders
import Derived.KernelRfl
import Derived.Tactics
import Derived.Test.YtfpdolhfomfgpaaProg
import Derived.Test.YtfpdolhfomfgpaaQ03
namespace Go.Av
set_option linter.unusedVariables false
set_option linter.unusedSimpArgs false

def rdO : Od → List Nat
  | .t n => [n]
  | .c _ => []
def rdOpt : Option Od → List Nat
  | some x => rdO x
  | none => []
def rdOs : List Od → List Nat
  | [] => []
  | x :: r => rdO x ++ rdOs r
def rdPs : List (Nat × Nat × Od) → List Nat
  | [] => []
  | x :: r => rdO x.2.2 ++ rdPs r
def rdQs : List (Nat × Od) → List Nat
  | [] => []
  | x :: r => rdO x.2 ++ rdQs r
def rdI : I → List Nat
  | .mov x => rdO x
  | .pick c a b => rdO c ++ rdO a ++ rdO b
  | .bin _ _ x y => rdO x ++ rdO y
  | .beq _ x y => rdO x ++ rdO y
  | .isnil _ _ x => rdO x
  | .not x => rdO x
  | .neg _ x => rdO x
  | .conv _ _ x => rdO x
  | .mkif _ x => rdO x
  | .tas _ _ _ x => rdO x
  | .ext _ x => rdO x
  | .load _ x => rdO x
  | .fa _ x => rdO x
  | .fld _ _ x => rdO x
  | .ia _ x i => rdO x ++ rdO i
  | .iarr _ _ x i => rdO x ++ rdO i
  | .idx _ _ _ x i => rdO x ++ rdO i
  | .istr x i => rdO x ++ rdO i
  | .slen x => rdO x
  | .len x => rdO x
  | .build _ ps => rdPs ps
  | .nilck x => rdO x
  | .slc _ x lo hi => rdO x ++ rdOpt lo ++ rdOpt hi
  | .sslc x lo hi => rdO x ++ rdOpt lo ++ rdOpt hi
def rdK : K → List Nat
  | .q i => rdI i
  | .alloc _ => []
  | .box x => rdO x
  | .store _ x v => rdO x ++ rdO v
  | .app _ _ x y => rdO x ++ rdO y
  | .call _ xs => rdOs xs
  | .callv x xs => rdO x ++ rdOs xs
  | .bsl _ _ _ ps => rdQs ps
  | .mks _ _ _ l c => rdO l ++ rdO c
  | .b2s x => rdO x
  | .s2b x => rdO x
  | .emp _ x => rdO x
  | .snil _ x => rdO x
  | .mx x y => rdO x ++ rdO y
  | .callx _ xs => rdOs xs
  | .callvx x xs => rdO x ++ rdOs xs
  | .lkp _ _ _ x y => rdO x ++ rdO y
  | .mlen x => rdO x
  | .ment x => rdO x
  | .mkmap => []
  | .mupd _ x y z => rdO x ++ rdO y ++ rdO z
  | .mrange x => rdO x
  | .mnext x => rdO x
  | .bslx _ _ _ ps => rdQs ps
  | .mkfn _ xs => rdOs xs
def rdG : Option (Nat × Bool) → List Nat
  | some (s, _) => [s]
  | none => []
def rd (i : Ins) : List Nat := rdG i.guard ++ rdK i.k

/-- It looks at no object. -/
def pureI : I → Bool
  | .load _ _ => false
  | .ia _ _ _ => false
  | .len _ => false
  | .slc _ _ _ _ => false
  | _ => true
def pureK : K → Bool
  | .q i => pureI i
  | _ => false
def qcK : K → Bool
  | .q _ => true
  | .call _ _ => true
  | .callv _ _ => true
  | .b2s _ => true
  | .mx _ _ => true
  | .lkp _ _ _ _ _ => true
  | .mlen _ => true
  | _ => false
def newK : K → Bool
  | .alloc _ => true
  | .box _ => true
  | .bsl _ _ _ _ => true
  | .mks _ _ _ _ _ => true
  | .s2b _ => true
  | .emp _ _ => true
  | _ => false
def simpleK : K → Bool
  | .app _ _ _ _ => false
  | .snil _ _ => false
  | .callx _ _ => false
  | .callvx _ _ => false
  | .ment _ => false
  | .mkmap => false
  | .mrange _ => false
  | .mnext _ => false
  | .bslx _ _ _ _ => false
  | .mkfn _ _ => false
  | _ => true
def qK : K → Bool
  | .q _ => true
  | _ => false
def mupdK : K → Bool
  | .mupd _ _ _ _ => true
  | _ => false
def apart (d : Option Nat) (l : List Nat) : Bool :=
  match d with
  | some d => l.all fun t => !(Nat.beq d t)
  | none => true
def comm (x y : Ins) : Bool :=
  apart x.dst (rd y) && apart y.dst (rd x) && apart x.dst y.dst.toList &&
    ((pureK x.k && simpleK y.k) || (simpleK x.k && pureK y.k) || (qcK x.k && (qcK y.k || newK y.k)) || (qK x.k && mupdK y.k) || (mupdK x.k && qK y.k))

section
variable {P : Program} {G : Gl} {fr fr' : List LV} {O : List Obj}

def agree (l : List Nat) (fr fr' : List LV) : Prop := ∀ t ∈ l, get fr t = get fr' t
theorem agree.left {l l' : List Nat} (h : agree (l ++ l') fr fr') : agree l fr fr' := fun t ht => h t (List.mem_append_left _ ht)
theorem agree.right {l l' : List Nat} (h : agree (l ++ l') fr fr') : agree l' fr fr' := fun t ht => h t (List.mem_append_right _ ht)
theorem ev_congr {x : Od} (h : agree (rdO x) fr fr') : ev fr x = ev fr' x := by
  cases x with
  | t n => exact h n (by simp [rdO])
  | c v => rfl
theorem opt_congr {x : Option Od} (h : agree (rdOpt x) fr fr') : x.map (ev fr) = x.map (ev fr') := by
  cases x with
  | none => rfl
  | some x => simp only [Option.map_some]; rw [ev_congr h]
theorem evL_congr : ∀ {xs : List Od}, agree (rdOs xs) fr fr' → evL fr xs = evL fr' xs
  | [], _ => rfl
  | x :: r, h => by simp only [evL]; rw [ev_congr h.left, evL_congr h.right]
theorem build_congr : ∀ {ps : List (Nat × Nat × Od)} {cs : List LV}, agree (rdPs ps) fr fr' → buildV fr cs ps = buildV fr' cs ps
  | [], cs, _ => rfl
  | (off, n, x) :: r, cs, h => by
    simp only [buildV]
    rw [ev_congr (x := x) h.left]
    split
    · rw [build_congr h.right]
    · rfl
theorem q_congr {i : I} (h : agree (rdI i) fr fr') : q i fr O = q i fr' O := by
  cases i <;> simp only [rdI] at h <;> simp only [q]
  case mov x => rw [ev_congr h]
  case pick c a b => rw [ev_congr h.left.left, ev_congr h.left.right, ev_congr h.right]
  case slc s x lo hi => rw [ev_congr h.left.left, opt_congr h.left.right, opt_congr h.right]
  case sslc x lo hi => rw [ev_congr h.left.left, opt_congr h.left.right, opt_congr h.right]
  case build z ps => exact build_congr h
  all_goals first | rw [ev_congr h] | rw [ev_congr h.left, ev_congr h.right]

theorem og_app {k : Nat} {x : List Obj} (h : og O k ≠ .dead) : og (O ++ x) k = og O k := by
  rw [og_eq] at h ⊢
  rw [og_eq]
  simp only [List.getD_eq_getElem?_getD] at h ⊢
  by_cases hk : k < O.length
  · rw [List.getElem?_append_left hk]
  · rw [List.getElem?_eq_none (by omega)] at h
    exact absurd rfl h

theorem load_app {n : Option Nat} {v : LV} {x : List Obj} (h : (loadV O n v).ok) : loadV (O ++ x) n v = loadV O n v := by
  unfold loadV at *
  split <;> try rfl
  · rename_i k off
    rw [og_app]; intro hd; simp only [hd, ldO] at h; exact h
  · rename_i k i off
    rw [og_app]; intro hd; simp only [hd, ldE] at h; exact h
theorem rowLen_app {k : Nat} {n : Nat} {x : List Obj} (h : rowLen (og O k) = some n) : og (O ++ x) k = og O k :=
  og_app (by intro hd; rw [hd] at h; cases h)
theorem ia_app {s : Nat} {u v : LV} {x : List Obj} (h : (iaV O s u v).ok) : iaV (O ++ x) s u v = iaV O s u v := by
  have key : ∀ k, (rowLen (og O k) = none → False) → og (O ++ x) k = og O k := fun k hk => by
    cases hr : rowLen (og O k) with
    | none => exact (hk hr).elim
    | some n => exact rowLen_app hr
  unfold iaV at *
  split <;> try rfl
  · rename_i k _ _
    rw [key k fun e => by simp only [e] at h; exact h]
  · rename_i k _ _ _ _
    rw [key k fun e => by simp only [e] at h; exact h]
theorem len_app {v : LV} {x : List Obj} (h : (lenV O v).ok) : lenV (O ++ x) v = lenV O v := by
  unfold lenV at *
  split <;> try rfl
  rename_i k
  simp only at h
  cases hr : rowLen (og O k) with
  | none => rw [hr] at h; exact h.elim
  | some n => rw [rowLen_app hr, hr]
theorem slc_app {s : Nat} {v : LV} {lo hi : Option LV} {x : List Obj} (h : (slcV O s v lo hi).ok) : slcV (O ++ x) s v lo hi = slcV O s v lo hi := by
  have key : ∀ k, (rowLen (og O k) = none → False) → og (O ++ x) k = og O k := fun k hk => by
    cases hr : rowLen (og O k) with
    | none => exact (hk hr).elim
    | some n => exact rowLen_app hr
  unfold slcV at *
  split <;> try rfl
  · rename_i k
    rw [key k fun e => by simp only [e] at h; exact h]
  · rename_i k _ _
    rw [key k fun e => by simp only [e] at h; exact h]
theorem q_app {i : I} {x : List Obj} (h : (q i fr O).ok) : q i fr (O ++ x) = q i fr O := by
  cases i <;> simp only [q] at h ⊢
  case load n y => exact load_app h
  case ia s y j => exact ia_app h
  case len y => exact len_app h
  case slc s y lo hi => exact slc_app h
theorem q_pure {i : I} {O' : List Obj} (h : pureI i = true) : q i fr O = q i fr O' := by
  cases i <;> first | rfl | cases h
mutual
theorem tv_app {x : List Obj} : ∀ {v : LV} {u : V}, tv O v = some u → tv (O ++ x) v = some u
  | .g v, u, h => h
  | .loc k off, u, h => by
    simp only [tv] at h ⊢
    rw [og_app]; · exact h
    · intro e; rw [e] at h; cases h
  | .rw k, u, h => by
    simp only [tv] at h ⊢
    rw [og_app]; · exact h
    · intro e; rw [e] at h; cases h
  | .lsl k lo hi, u, h => by
    simp only [tv] at h ⊢
    rw [og_app]; · exact h
    · intro e; rw [e] at h; cases h
  | .agg cs, u, h => by
    simp only [tv] at h ⊢
    split at h
    · rename_i vs hv; rw [tvL_app hv]; exact h
    · cases h
  | .iface t v, u, h => by
    simp only [tv] at h ⊢
    split at h
    · rename_i vs hv; rw [tv_app hv]; exact h
    · cases h
  | .func f cs, u, h => by
    simp only [tv] at h ⊢
    split at h
    · rename_i vs hv; rw [tvL_app hv]; exact h
    · cases h
  | .tup cs, u, h => by
    simp only [tv] at h ⊢
    split at h
    · rename_i vs hv; rw [tvL_app hv]; exact h
    · cases h
  | .elt _ _ _, u, h => by simp only [tv] at h; cases h
  | .mp _, u, h => by simp only [tv] at h; cases h
  | .any, u, h => by simp only [tv] at h; cases h
theorem tvL_app {x : List Obj} : ∀ {v : List LV} {u : List V}, tvL O v = some u → tvL (O ++ x) v = some u
  | [], u, h => h
  | c :: cs, u, h => by
    simp only [tvL] at h ⊢
    split at h
    · rename_i v hv
      split at h
      · rename_i vs hvs
        rw [tv_app hv, tvL_app hvs]; exact h
      · cases h
    · cases h
end
theorem solL_closed : ∀ {l : List LV} {vs : List V}, closed l = some vs → solL l = true := by
  intro l vs h
  obtain rfl := closed_map h
  clear h
  induction vs with
  | nil => rfl
  | cons v vs ih => simp only [List.map_cons, solL, sol, ih]
theorem sol_aggN {l : List LV} (h : sol (aggN l) = true) : solL l = true := by
  unfold aggN at h; split at h
  · rename_i vs hc; exact solL_closed hc
  · exact h
theorem sol_tupN {l : List LV} (h : sol (tupN l) = true) : solL l = true := by
  unfold tupN at h; split at h
  · rename_i vs hc; exact solL_closed hc
  · exact h
theorem sol_funN {f : Fn} {l : List LV} (h : sol (funN f l) = true) : solL l = true := by
  unfold funN at h; split at h
  · rename_i vs hc; exact solL_closed hc
  · exact h
theorem sol_ifN {t : TypeId} {x : LV} (h : sol (ifN t x) = true) : sol x = true := by
  unfold ifN at h; split at h
  · rfl
  · exact h
theorem pos_dead {js : List Nat} (hj : ∀ j ∈ js, og O j ≠ .dead) {k : Nat} (hd : og O k = .dead) : pos js k = none := by
  cases hp : pos js k with
  | none => rfl
  | some i => exact absurd hd (hj k (List.mem_of_getElem? (pos_some hp)))
mutual
theorem un_app {js : List Nat} (hj : ∀ j ∈ js, og O j ≠ .dead) {x : List Obj} : ∀ {v : LV}, sol (un js O v) = true → un js (O ++ x) v = un js O v
  | .g v, h => by simp only [un]
  | .loc k off, h => by
    by_cases hd : og O k = .dead
    · simp only [un, hd, pos_dead hj hd] at h; cases h
    · simp only [un, og_app hd]
  | .elt k e off, h => by simp only [un]
  | .rw k, h => by
    by_cases hd : og O k = .dead
    · simp only [un, hd, pos_dead hj hd] at h; cases h
    · simp only [un, og_app hd]
  | .lsl k lo hi, h => by
    by_cases hd : og O k = .dead
    · simp only [un, hd, pos_dead hj hd] at h; cases h
    · simp only [un, og_app hd]
  | .mp k, h => by simp only [un]
  | .agg cs, h => by simp only [un] at h ⊢; rw [unL_app hj (sol_aggN h)]
  | .iface t v, h => by simp only [un] at h ⊢; rw [un_app hj (sol_ifN h)]
  | .func f cs, h => by simp only [un] at h ⊢; rw [unL_app hj (sol_funN h)]
  | .tup cs, h => by simp only [un] at h ⊢; rw [unL_app hj (sol_tupN h)]
  | .any, h => by simp only [un]
theorem unL_app {js : List Nat} (hj : ∀ j ∈ js, og O j ≠ .dead) {x : List Obj} : ∀ {vs : List LV}, solL (unL js O vs) = true → unL js (O ++ x) vs = unL js O vs
  | [], h => by simp only [unL]
  | c :: cs, h => by
    simp only [unL, solL] at h ⊢
    split at h
    · rename_i hc; rw [un_app hj hc, unL_app hj h]
    · cases h
end
theorem okL_dead {js : List Nat} (hl : okL O js = true) : ∀ j ∈ js, og O j ≠ .dead := by
  intro j hj hd
  have := (okL_nodup hl).2 j hj
  simp only [liveAt, hd] at this; cases this
theorem okL_app {x : List Obj} : ∀ {js : List Nat}, okL O js = true → okL (O ++ x) js = true
  | [], _ => rfl
  | j :: js, h => by
    have hd := okL_dead h j (by simp)
    simp only [okL, liveAt, og_app hd] at h ⊢
    split at h
    · cases h
    · rename_i h1
      split at h
      · exact okL_app h
      · cases h
theorem plains_app {x : List Obj} : ∀ {js : List Nat}, (∀ j ∈ js, og O j ≠ .dead) → plains O js = true → plains (O ++ x) js = true
  | [], _, _ => rfl
  | j :: js, hj, h => by
    have hd := hj j (by simp)
    simp only [plains, og_app hd] at h ⊢
    split at h
    · exact plains_app (fun k hk => hj k (by simp [hk])) h
    · cases h
theorem lendO_app {js ps : List Nat} {x : List Obj} (hp : plains O js = true) (hj : ∀ j ∈ js, og O j ≠ .dead) : ∀ {ks : List Nat}, (∀ k ∈ ks, k ∈ js) → lendO js ps (O ++ x) ks = lendO js ps O ks
  | [], _ => rfl
  | k :: ks, h => by
    have hk := h k (by simp)
    simp only [lendO, og_app (hj k hk)]
    rw [lendO_app hp hj fun i hi => h i (by simp [hi])]
    congr 1
    have := plains_mem hp k hk
    cases ho : og O k <;> rw [ho] at this <;> first | (cases this; done) | rfl | skip
    rename_i cs
    simp only [plainO] at this
    split at this
    · rename_i vs hvs
      obtain rfl := closed_map hvs
      simp only [unO]
      congr 1
      clear ho hvs this
      induction vs with
      | nil => rfl
      | cons v vs ih => simp only [List.map_cons, unL, un, ih]
    · cases this
theorem doCall_app {f : FuncId} {xs : List LV} {x : List Obj} {u : V} {js : List Nat} (h1 : okL O js = true) (h2 : plains O js = true) (h3 : solL (unL js O xs) = true) (h4 : ACalls P G f (unL js O xs) (lendO js js O js) (fun r E => r = .g u ∧ E = lendO js js O js)) :
    okL (O ++ x) js = true ∧ plains (O ++ x) js = true ∧ solL (unL js (O ++ x) xs) = true ∧ ACalls P G f (unL js (O ++ x) xs) (lendO js js (O ++ x) js) (fun r E => r = .g u ∧ E = lendO js js (O ++ x) js) := by
  have hj := okL_dead h1
  rw [unL_app hj h3, lendO_app h2 hj (fun k h => h)]
  exact ⟨okL_app h1, plains_app hj h2, h3, h4⟩

/-- What an instruction but an append may give: its value and the objects after it; the frame but for its own slot stands. -/
def rsK (P : Program) (G : Gl) (k : K) (fr : List LV) (O : List Obj) (v : LV) (O' : List Obj) : Prop :=
  match k with
  | .q i => (q i fr O).ok ∧ v = (q i fr O).v ∧ O' = O
  | .alloc zs => allOneV zs = true ∧ v = .loc O.length 0 ∧ O' = O ++ [.cells (zs.map .g)]
  | .box x => ∃ ys, cellsV (ev fr x) = some ys ∧ v = .loc O.length 0 ∧ O' = O ++ [.cells ys]
  | .store n x y => (storeE n (ev fr x) (ev fr y) fr O).ok ∧ v = (storeE n (ev fr x) (ev fr y) fr O).v ∧ O' = (storeE n (ev fr x) (ev fr y) fr O).O
  | .app _ _ _ _ => False
  | .snil _ _ => False
  | .call f xs => ∃ js u, okL O js = true ∧ plains O js = true ∧ solL (unL js O (evL fr xs)) = true ∧ ACalls P G f (unL js O (evL fr xs)) (lendO js js O js) (fun r E => r = .g u ∧ E = lendO js js O js) ∧ v = .g u ∧ O' = O
  | .callv x xs => ∃ f cap js u, fnOf (ev fr x) = some (f, cap) ∧ enters P f = true ∧ okL O js = true ∧ plains O js = true ∧ solL (unL js O (evL fr xs ++ cap)) = true ∧ ACalls P G f (unL js O (evL fr xs ++ cap)) (lendO js js O js) (fun r E => r = .g u ∧ E = lendO js js O js) ∧ v = .g u ∧ O' = O
  | .callx _ _ => False
  | .callvx _ _ => False
  | .lkp kk ok z x y => (lkpV O kk ok z (ev fr x) (ev fr y)).ok ∧ v = (lkpV O kk ok z (ev fr x) (ev fr y)).v ∧ O' = O
  | .mlen x => (mlenV O (ev fr x)).ok ∧ v = (mlenV O (ev fr x)).v ∧ O' = O
  | .mupd kk x y z => (mupdE kk (ev fr x) (ev fr y) (ev fr z) fr O).ok ∧ v = .any ∧ O' = (mupdE kk (ev fr x) (ev fr y) (ev fr z) fr O).O
  | .ment _ => False
  | .mkmap => False
  | .mrange _ => False
  | .mnext _ => False
  | .bslx _ _ _ _ => False
  | .mkfn _ _ => False
  | .bsl s n zs ps => (bslE s n zs ps fr O).ok ∧ v = (bslE s n zs ps fr O).v ∧ O' = (bslE s n zs ps fr O).O
  | .mks s b zs l c => (mksE s b zs (ev fr l) (ev fr c) fr O).ok ∧ v = (mksE s b zs (ev fr l) (ev fr c) fr O).v ∧ O' = (mksE s b zs (ev fr l) (ev fr c) fr O).O
  | .s2b x => (s2bE (ev fr x) fr O).ok ∧ v = (s2bE (ev fr x) fr O).v ∧ O' = (s2bE (ev fr x) fr O).O
  | .b2s x => (b2sV O (ev fr x)).ok ∧ v = (b2sV O (ev fr x)).v ∧ O' = O
  | .mx x y => (maxV (ev fr x) (ev fr y)).ok ∧ v = (maxV (ev fr x) (ev fr y)).v ∧ O' = O
  | .emp s x => (empE s (ev fr x) fr O).ok ∧ v = (empE s (ev fr x) fr O).v ∧ O' = (empE s (ev fr x) fr O).O

theorem srcV_app {s : Nat} {v : LV} {x : List Obj} {es : List (List V)} (h : srcV O s v = some es) : srcV (O ++ x) s v = some es := by
  unfold srcV at *
  split at h
  · exact h
  · exact h
  · exact h
  · rename_i k
    rw [og_app]; · exact h
    · intro e; simp only [e] at h; cases h
  · rename_i k lo hi
    rw [og_app]; · exact h
    · intro e; simp only [e] at h; cases h
  · cases h
theorem lkp_app {kk : Option IntKind} {ok : Bool} {z : V} {u v : LV} {x : List Obj} (h : (lkpV O kk ok z u v).ok) : lkpV (O ++ x) kk ok z u v = lkpV O kk ok z u v := by
  unfold lkpV at *
  split at h
  · split at h
    · rename_i k
      by_cases hd : og O k = .dead
      · simp only [hd] at h; exact h.elim
      · simp only [og_app hd]
    · rfl
    · exact h.elim
  · exact h.elim
theorem mlen_app {u : LV} {x : List Obj} (h : (mlenV O u).ok) : mlenV (O ++ x) u = mlenV O u := by
  unfold mlenV at *
  split at h
  · rename_i k
    by_cases hd : og O k = .dead
    · simp only [hd] at h; exact h.elim
    · simp only [og_app hd]
  · rfl
  · exact h.elim
theorem os_map {k j : Nat} {es es' : List (V × V)} (h : og O k = .map es) : og (os O k (.map es')) j = og O j ∨ (og (os O k (.map es')) j = .map es' ∧ og O j = .map es) := by
  by_cases hj : j = k
  · subst hj
    refine .inr ⟨?_, h⟩
    have := og_get h (by simp)
    rw [os_eq, og_eq, List.getD_eq_getElem?_getD, List.getElem?_set_self (List.getElem?_eq_some_iff.1 this).1]; rfl
  · left
    rw [os_eq, og_eq, og_eq, List.getD_eq_getElem?_getD, List.getD_eq_getElem?_getD, List.getElem?_set_ne (Ne.symm hj)]
theorem q_map {i : I} {k : Nat} {es es' : List (V × V)} (h : og O k = .map es) : q i fr (os O k (.map es')) = q i fr O := by
  cases i <;> try rfl
  case load n y =>
    simp only [q]
    generalize ev fr y = v
    unfold loadV
    split <;> try rfl
    · rename_i j off
      rcases os_map (es' := es') (j := j) h with e | ⟨e1, e2⟩
      · rw [e]
      · rw [e1, e2]; rfl
    · rename_i j i off
      rcases os_map (es' := es') (j := j) h with e | ⟨e1, e2⟩
      · rw [e]
      · rw [e1, e2]; rfl
  case ia s y j =>
    simp only [q]
    generalize ev fr y = u
    generalize ev fr j = v
    unfold iaV
    split <;> try rfl
    · rename_i j _ _
      rcases os_map (es' := es') (j := j) h with e | ⟨e1, e2⟩
      · rw [e]
      · rw [e1, e2]; rfl
    · rename_i j _ _ _ _
      rcases os_map (es' := es') (j := j) h with e | ⟨e1, e2⟩
      · rw [e]
      · rw [e1, e2]; rfl
  case len y =>
    simp only [q]
    generalize ev fr y = u
    unfold lenV
    split <;> try rfl
    rename_i j
    rcases os_map (es' := es') (j := j) h with e | ⟨e1, e2⟩
    · rw [e]
    · rw [e1, e2]; rfl
  case slc s y lo hi =>
    simp only [q]
    generalize ev fr y = u
    generalize lo.map (ev fr) = lo'
    generalize hi.map (ev fr) = hi'
    unfold slcV
    split <;> try rfl
    · rename_i j
      rcases os_map (es' := es') (j := j) h with e | ⟨e1, e2⟩
      · rw [e]
      · rw [e1, e2]; rfl
    · rename_i j _ _
      rcases os_map (es' := es') (j := j) h with e | ⟨e1, e2⟩
      · rw [e]
      · rw [e1, e2]; rfl
theorem tv_os_map {k : Nat} {es es' : List (V × V)} (h : og O k = .map es) : ∀ v : LV, True := fun _ => trivial
theorem mupd_at {kk : Option IntKind} {x y z : LV} (h : (mupdE kk x y z fr O).ok) : ∃ k es es', og O k = .map es ∧ (mupdE kk x y z fr O).O = os O k (.map es') := by
  unfold mupdE at *
  split at h
  · rename_i k
    split at h
    · rename_i es hes
      split at h
      · rename_i key
        split at h
        · rename_i v hv
          exact ⟨k, es, insM key v es, hes, by simp only [hes, hv]⟩
        · exact h.elim
      · exact h.elim
    · exact h.elim
  · exact h.elim
theorem b2s_app {v : LV} {x : List Obj} (h : (b2sV O v).ok) : b2sV (O ++ x) v = b2sV O v := by
  unfold b2sV at *
  split at h
  · exact h.elim
  · split at h
    · rename_i es hes
      rw [srcV_app hes]
    · exact h.elim
theorem bsl_congr {s : Nat} : ∀ {ps : List (Nat × Od)} {es : List (List V)}, agree (rdQs ps) fr fr' → bslV fr s es ps = bslV fr' s es ps
  | [], es, _ => rfl
  | (i, x) :: r, es, h => by
    simp only [bslV]
    rw [ev_congr (x := x) h.left]
    (repeat' split) <;> first | rfl | exact bsl_congr h.right
/-- A new object of an effect, the frame as it was. -/
structure NewE (fr : List LV) (O : List Obj) (r : ER) : Prop where
  fr : r.fr = fr
  O : ∃ x, r.O = O ++ x
theorem bslE_new {s n : Nat} {zs : List V} {ps : List (Nat × Od)} (h : (bslE s n zs ps fr O).ok) : NewE fr O (bslE s n zs ps fr O) := by
  unfold bslE at *
  split at h
  · exact ⟨rfl, _, rfl⟩
  · exact h.elim
theorem mksE_new {s n : Nat} {zs : List V} {l c : LV} (h : (mksE s n zs l c fr O).ok) : NewE fr O (mksE s n zs l c fr O) := by
  unfold mksE at *
  split at h
  · exact ⟨rfl, _, rfl⟩
  · exact h.elim
theorem s2bE_new {x : LV} (h : (s2bE x fr O).ok) : NewE fr O (s2bE x fr O) := by
  unfold s2bE at *
  split at h
  · exact ⟨rfl, _, rfl⟩
  · exact h.elim

theorem storeE_fr {n : Nat} {x y : LV} (h : (storeE n x y fr O).ok) : (storeE n x y fr O).fr = fr := by
  unfold storeE at *
  (repeat' split) <;> first | rfl | (exfalso; simp_all [noE])

theorem allocE_ok {zs : List V} : (allocE zs fr O).ok ↔ allOneV zs = true := by
  unfold allocE; split <;> simp_all [noE]
theorem allocE_of {zs : List V} (h : allOneV zs = true) : allocE zs fr O = ⟨True, fr, .loc O.length 0, O ++ [.cells (zs.map .g)]⟩ := by
  unfold allocE; split <;> simp_all
theorem boxE_of {x : LV} {ys : List LV} (h : cellsV x = some ys) : boxE x fr O = ⟨True, fr, .loc O.length 0, O ++ [.cells ys]⟩ := by
  unfold boxE; split <;> simp_all

theorem ex_iff {k : K} (hk : simpleK k = true) {dst : Option Nat} {N : Next'} : ex P G k dst N fr O ↔ ∃ v O', rsK P G k fr O v O' ∧ N (pt fr dst v) O' := by
  cases k <;> simp only [ex, rsK]
  case q i =>
    constructor
    · rintro ⟨h, hN⟩; exact ⟨_, _, ⟨h, rfl, rfl⟩, hN⟩
    · rintro ⟨_, _, ⟨h, rfl, rfl⟩, hN⟩; exact ⟨h, hN⟩
  case alloc zs =>
    constructor
    · rintro ⟨h, hN⟩
      have h1 := allocE_ok.1 h
      rw [allocE_of h1] at hN
      exact ⟨_, _, ⟨h1, rfl, rfl⟩, hN⟩
    · rintro ⟨_, _, ⟨h, rfl, rfl⟩, hN⟩
      rw [allocE_of h]; exact ⟨trivial, hN⟩
  case box x =>
    constructor
    · rintro ⟨h, hN⟩
      cases hys : cellsV (ev fr x) with
      | none => simp [boxE, hys, noE] at h
      | some ys => rw [boxE_of hys] at hN; exact ⟨_, _, ⟨ys, rfl, rfl, rfl⟩, hN⟩
    · rintro ⟨_, _, ⟨ys, h, rfl, rfl⟩, hN⟩
      rw [boxE_of h]; exact ⟨trivial, hN⟩
  case store n x y =>
    constructor
    · rintro ⟨h, hN⟩
      refine ⟨_, _, ⟨h, rfl, rfl⟩, ?_⟩
      rw [storeE_fr h] at hN; exact hN
    · rintro ⟨_, _, ⟨h, rfl, rfl⟩, hN⟩
      exact ⟨h, by rw [storeE_fr h]; exact hN⟩
  case app => cases hk
  case snil => cases hk
  case callx => cases hk
  case callvx => cases hk
  case ment => cases hk
  case mkmap => cases hk
  case mrange => cases hk
  case mnext => cases hk
  case bslx => cases hk
  case mkfn => cases hk
  case call f xs =>
    constructor
    · rintro ⟨js, u, h1, h2, h3, h4, hN⟩
      exact ⟨_, _, ⟨js, u, h1, h2, h3, h4, rfl, rfl⟩, hN⟩
    · rintro ⟨_, _, ⟨js, u, h1, h2, h3, h4, rfl, rfl⟩, hN⟩
      exact ⟨js, u, h1, h2, h3, h4, hN⟩
  case callv x xs =>
    constructor
    · intro h
      unfold doCallv at h
      split at h
      · rename_i f cap hx
        obtain ⟨he, js, u, h1, h2, h3, h4, hN⟩ := h
        exact ⟨_, _, ⟨f, cap, js, u, hx, he, h1, h2, h3, h4, rfl, rfl⟩, hN⟩
      · exact h.elim
    · rintro ⟨_, _, ⟨f, cap, js, u, hx, he, h1, h2, h3, h4, rfl, rfl⟩, hN⟩
      simp only [doCallv, hx]
      exact ⟨he, js, u, h1, h2, h3, h4, hN⟩
  case lkp kk ok z x y =>
    constructor
    · rintro ⟨h, hN⟩; exact ⟨_, _, ⟨h, rfl, rfl⟩, hN⟩
    · rintro ⟨_, _, ⟨h, rfl, rfl⟩, hN⟩; exact ⟨h, hN⟩
  case mlen x =>
    constructor
    · rintro ⟨h, hN⟩; exact ⟨_, _, ⟨h, rfl, rfl⟩, hN⟩
    · rintro ⟨_, _, ⟨h, rfl, rfl⟩, hN⟩; exact ⟨h, hN⟩
  case mupd kk x y z =>
    have hfr : ∀ h : (mupdE kk (ev fr x) (ev fr y) (ev fr z) fr O).ok, (mupdE kk (ev fr x) (ev fr y) (ev fr z) fr O).fr = fr ∧ (mupdE kk (ev fr x) (ev fr y) (ev fr z) fr O).v = .any := by
      intro hok
      unfold mupdE at hok ⊢
      (repeat' split) <;> first | exact ⟨rfl, rfl⟩ | (exfalso; simp_all [noE])
    constructor
    · rintro ⟨h, hN⟩
      refine ⟨_, _, ⟨h, rfl, rfl⟩, ?_⟩
      rw [(hfr h).1, (hfr h).2] at hN; exact hN
    · rintro ⟨_, _, ⟨h, rfl, rfl⟩, hN⟩
      exact ⟨h, by rw [(hfr h).1, (hfr h).2]; exact hN⟩
  case bsl s n zs ps =>
    constructor
    · rintro ⟨h, hN⟩; exact ⟨_, _, ⟨h, rfl, rfl⟩, by rw [(bslE_new h).fr] at hN; exact hN⟩
    · rintro ⟨_, _, ⟨h, rfl, rfl⟩, hN⟩; exact ⟨h, by rw [(bslE_new h).fr]; exact hN⟩
  case mks s b zs l c =>
    constructor
    · rintro ⟨h, hN⟩; exact ⟨_, _, ⟨h, rfl, rfl⟩, by rw [(mksE_new h).fr] at hN; exact hN⟩
    · rintro ⟨_, _, ⟨h, rfl, rfl⟩, hN⟩; exact ⟨h, by rw [(mksE_new h).fr]; exact hN⟩
  case s2b x =>
    constructor
    · rintro ⟨h, hN⟩; exact ⟨_, _, ⟨h, rfl, rfl⟩, by rw [(s2bE_new h).fr] at hN; exact hN⟩
    · rintro ⟨_, _, ⟨h, rfl, rfl⟩, hN⟩; exact ⟨h, by rw [(s2bE_new h).fr]; exact hN⟩
  case emp s x =>
    constructor
    · rintro ⟨h, hN⟩; exact ⟨_, _, ⟨h, rfl, rfl⟩, by rw [(empE_new h).1] at hN; exact hN⟩
    · rintro ⟨_, _, ⟨h, rfl, rfl⟩, hN⟩; exact ⟨h, by rw [(empE_new h).1]; exact hN⟩
  case mx x y =>
    constructor
    · rintro ⟨h, hN⟩; exact ⟨_, _, ⟨h, rfl, rfl⟩, hN⟩
    · rintro ⟨_, _, ⟨h, rfl, rfl⟩, hN⟩; exact ⟨h, hN⟩
  case b2s x =>
    constructor
    · rintro ⟨h, hN⟩; exact ⟨_, _, ⟨h, rfl, rfl⟩, hN⟩
    · rintro ⟨_, _, ⟨h, rfl, rfl⟩, hN⟩; exact ⟨h, hN⟩

theorem mksE_eq {s n : Nat} {zs : List V} {l c : LV} : (mksE s n zs l c fr O).ok = (mksE s n zs l c fr' O).ok ∧ (mksE s n zs l c fr O).v = (mksE s n zs l c fr' O).v ∧ (mksE s n zs l c fr O).O = (mksE s n zs l c fr' O).O := by
  unfold mksE; (repeat' split) <;> simp [noE]
theorem s2bE_eq {x : LV} : (s2bE x fr O).ok = (s2bE x fr' O).ok ∧ (s2bE x fr O).v = (s2bE x fr' O).v ∧ (s2bE x fr O).O = (s2bE x fr' O).O := by
  unfold s2bE; (repeat' split) <;> simp [noE]
theorem empE_eq {s : Nat} {x : LV} : (empE s x fr O).ok = (empE s x fr' O).ok ∧ (empE s x fr O).v = (empE s x fr' O).v ∧ (empE s x fr O).O = (empE s x fr' O).O := by
  unfold empE; (repeat' split) <;> simp [noE]
theorem bslE_eq {s n : Nat} {zs : List V} {ps : List (Nat × Od)} (h : agree (rdQs ps) fr fr') : (bslE s n zs ps fr O).ok = (bslE s n zs ps fr' O).ok ∧ (bslE s n zs ps fr O).v = (bslE s n zs ps fr' O).v ∧ (bslE s n zs ps fr O).O = (bslE s n zs ps fr' O).O := by
  unfold bslE; rw [bsl_congr h]; split <;> simp [noE]
theorem box_congr {x : Od} (h : agree (rdO x) fr fr') : ev fr x = ev fr' x := ev_congr h
theorem storeE_eq {n : Nat} {x y : LV} : (storeE n x y fr O).ok = (storeE n x y fr' O).ok ∧ (storeE n x y fr O).v = (storeE n x y fr' O).v ∧ (storeE n x y fr O).O = (storeE n x y fr' O).O := by
  unfold storeE
  (repeat' split) <;> simp [noE]
theorem rsK_congr {k : K} (h : agree (rdK k) fr fr') {v : LV} {O' : List Obj} (hr : rsK P G k fr O v O') : rsK P G k fr' O v O' := by
  cases k <;> simp only [rdK] at h <;> simp only [rsK] at hr ⊢
  case q i => rw [← q_congr (i := i) h]; exact hr
  case alloc zs => exact hr
  case box x => rw [← ev_congr h]; exact hr
  case store n x y =>
    obtain ⟨h1, h2, h3⟩ := hr
    rw [← ev_congr h.left, ← ev_congr h.right]
    obtain ⟨e1, e2, e3⟩ := storeE_eq (fr := fr) (fr' := fr') (O := O) (n := n) (x := ev fr x) (y := ev fr y)
    exact ⟨e1 ▸ h1, h2.trans e2, h3.trans e3⟩
  case call f xs => rw [← evL_congr h]; exact hr
  case callv x xs => rw [← ev_congr h.left, ← evL_congr h.right]; exact hr
  case lkp kk ok z x y => rw [← ev_congr h.left, ← ev_congr h.right]; exact hr
  case mlen x => rw [← ev_congr h]; exact hr
  case mupd kk x y z =>
    obtain ⟨h1, h2, h3⟩ := hr
    rw [← ev_congr h.left.left, ← ev_congr h.left.right, ← ev_congr h.right]
    have e : ∀ fr1 fr2 : List LV, (mupdE kk (ev fr x) (ev fr y) (ev fr z) fr1 O).ok = (mupdE kk (ev fr x) (ev fr y) (ev fr z) fr2 O).ok ∧ (mupdE kk (ev fr x) (ev fr y) (ev fr z) fr1 O).O = (mupdE kk (ev fr x) (ev fr y) (ev fr z) fr2 O).O := by
      intro fr1 fr2; unfold mupdE; (repeat' split) <;> simp [noE]
    exact ⟨(e fr fr').1 ▸ h1, h2, h3.trans (e fr fr').2⟩
  case bsl s n zs ps =>
    obtain ⟨h1, h2, h3⟩ := hr
    obtain ⟨e1, e2, e3⟩ := bslE_eq (O := O) (s := s) (n := n) (zs := zs) h
    exact ⟨e1 ▸ h1, h2.trans e2, h3.trans e3⟩
  case mks s b zs l c =>
    obtain ⟨h1, h2, h3⟩ := hr
    rw [← ev_congr h.left, ← ev_congr h.right]
    obtain ⟨e1, e2, e3⟩ := mksE_eq (fr := fr) (fr' := fr') (O := O) (s := s) (n := b) (zs := zs) (l := ev fr l) (c := ev fr c)
    exact ⟨e1 ▸ h1, h2.trans e2, h3.trans e3⟩
  case s2b x =>
    obtain ⟨h1, h2, h3⟩ := hr
    rw [← ev_congr h]
    obtain ⟨e1, e2, e3⟩ := s2bE_eq (fr := fr) (fr' := fr') (O := O) (x := ev fr x)
    exact ⟨e1 ▸ h1, h2.trans e2, h3.trans e3⟩
  case b2s x => rw [← ev_congr h]; exact hr
  case mx x y => rw [← ev_congr h.left, ← ev_congr h.right]; exact hr
  case emp s x =>
    obtain ⟨h1, h2, h3⟩ := hr
    rw [← ev_congr h]
    obtain ⟨e1, e2, e3⟩ := empE_eq (fr := fr) (fr' := fr') (O := O) (s := s) (x := ev fr x)
    exact ⟨e1 ▸ h1, h2.trans e2, h3.trans e3⟩
theorem rsK_pure {k : K} (hp : pureK k = true) {v : LV} {O1 O2 : List Obj} (h : rsK P G k fr O v O1) : O1 = O ∧ rsK P G k fr O2 v O2 := by
  cases k <;> first | (cases hp; done) | skip
  rename_i i
  obtain ⟨h1, h2, h3⟩ := h
  refine ⟨h3, ?_⟩
  simp only [rsK, q_pure (O' := O) (show pureI i = true from hp)]
  exact ⟨h1, h2, trivial⟩
theorem rsK_qc {k : K} (hq : qcK k = true) {v : LV} {O1 : List Obj} (h : rsK P G k fr O v O1) : O1 = O ∧ ∀ x, rsK P G k fr (O ++ x) v (O ++ x) := by
  cases k <;> first | (cases hq; done) | skip
  · obtain ⟨h1, h2, h3⟩ := h
    refine ⟨h3, fun x => ?_⟩
    simp only [rsK, q_app h1]; exact ⟨h1, h2, trivial⟩
  · obtain ⟨js, u, h1, h2, h3, h4, h5, h6⟩ := h
    refine ⟨h6, fun x => ?_⟩
    obtain ⟨a1, a2, a3, a4⟩ := doCall_app (x := x) h1 h2 h3 h4
    exact ⟨js, u, a1, a2, a3, a4, h5, rfl⟩
  · obtain ⟨f, cap, js, u, hx, he, h1, h2, h3, h4, h5, h6⟩ := h
    refine ⟨h6, fun x => ?_⟩
    obtain ⟨a1, a2, a3, a4⟩ := doCall_app (x := x) h1 h2 h3 h4
    exact ⟨f, cap, js, u, hx, he, a1, a2, a3, a4, h5, rfl⟩
  · obtain ⟨h1, h2, h3⟩ := h
    refine ⟨h3, fun x => ?_⟩
    simp only [rsK, b2s_app h1]; exact ⟨h1, h2, trivial⟩
  · obtain ⟨h1, h2, h3⟩ := h
    exact ⟨h3, fun x => ⟨h1, h2, rfl⟩⟩
  · obtain ⟨h1, h2, h3⟩ := h
    refine ⟨h3, fun x => ?_⟩
    simp only [rsK, lkp_app h1]; exact ⟨h1, h2, trivial⟩
  · obtain ⟨h1, h2, h3⟩ := h
    refine ⟨h3, fun x => ?_⟩
    simp only [rsK, mlen_app h1]; exact ⟨h1, h2, trivial⟩
theorem rsK_new {k : K} (hn : newK k = true) {v : LV} {O1 : List Obj} (h : rsK P G k fr O v O1) : ∃ x, O1 = O ++ x := by
  cases k <;> first | (cases hn; done) | skip
  · exact ⟨_, h.2.2⟩
  · obtain ⟨ys, _, _, h⟩ := h; exact ⟨_, h⟩
  · obtain ⟨h1, _, h⟩ := h; obtain ⟨x, hx⟩ := (bslE_new h1).O; exact ⟨x, h.trans hx⟩
  · obtain ⟨h1, _, h⟩ := h; obtain ⟨x, hx⟩ := (mksE_new h1).O; exact ⟨x, h.trans hx⟩
  · obtain ⟨h1, _, h⟩ := h; obtain ⟨x, hx⟩ := (s2bE_new h1).O; exact ⟨x, h.trans hx⟩
  · obtain ⟨h1, _, h⟩ := h; obtain ⟨x, hx⟩ := (empE_new h1).2; exact ⟨x, h.trans hx⟩

/-- An instruction with its guard. -/
def rs (P : Program) (G : Gl) (i : Ins) (fr : List LV) (O : List Obj) (v : LV) (O' : List Obj) : Prop :=
  match i with
  | ⟨_, none, k⟩ => rsK P G k fr O v O'
  | ⟨_, some (s, want), k⟩ => gd want (get fr s) (rsK P G k fr O v O') (v = und ∧ O' = O)
theorem gd_imp {w : Bool} {x : LV} {a b c d : Prop} (h1 : a → c) (h2 : b → d) (h : gd w x a b) : gd w x c d := by
  unfold gd at *
  split at h
  · split at h <;> split at h <;> first | exact h1 h | exact h2 h
  · exact h2 h
  · exact h
theorem gd_ex {α : Sort _} {w : Bool} {x : LV} {a b : α → Prop} : gd w x (∃ y, a y) (∃ y, b y) ↔ ∃ y, gd w x (a y) (b y) := by
  unfold gd
  split
  · split <;> split <;> exact Iff.rfl
  · exact Iff.rfl
  · simp
theorem gd_and {w : Bool} {x : LV} {a b c : Prop} : (gd w x a b ∧ c) ↔ gd w x (a ∧ c) (b ∧ c) := by
  unfold gd
  split
  · split <;> split <;> exact Iff.rfl
  · exact Iff.rfl
  · simp
theorem ins_iff {i : Ins} (hk : simpleK i.k = true) {N : Next'} : ins P G i N fr O ↔ ∃ v O', rs P G i fr O v O' ∧ N (pt fr i.dst v) O' := by
  obtain ⟨dst, g, k⟩ := i
  cases g with
  | none => exact ex_iff hk
  | some sw =>
    obtain ⟨s, w⟩ := sw
    simp only [ins_some, rs, gd_and]
    constructor
    · intro h
      have h1 := gd_imp (c := ∃ v O', rsK P G k fr O v O' ∧ N (pt fr dst v) O') (d := ∃ v O', (v = und ∧ O' = O) ∧ N (pt fr dst v) O') (fun h => (ex_iff hk).1 h) (fun h => ⟨und, O, ⟨rfl, rfl⟩, h⟩) h
      obtain ⟨v, hv⟩ := gd_ex.1 h1
      obtain ⟨O', h'⟩ := gd_ex.1 hv
      exact ⟨v, O', h'⟩
    · rintro ⟨v, O', h⟩
      exact gd_imp (fun h => (ex_iff hk).2 ⟨v, O', h⟩) (fun ⟨⟨h1, h2⟩, h⟩ => by rw [h1, h2] at h; exact h) h

theorem rs_congr {i : Ins} (h : agree (rd i) fr fr') {v : LV} {O' : List Obj} (hr : rs P G i fr O v O') : rs P G i fr' O v O' := by
  obtain ⟨dst, g, k⟩ := i
  cases g with
  | none => exact rsK_congr h.right hr
  | some sw =>
    obtain ⟨s, w⟩ := sw
    have hs : get fr s = get fr' s := h s (by simp [rd, rdG])
    simp only [rs] at hr ⊢
    rw [← hs]
    exact gd_imp (fun h' => rsK_congr h.right h') id hr
theorem gd_out {w : Bool} {x : LV} {a b c : Prop} (h : gd w x a b) (h1 : a → c) (h2 : b → c) : c := by
  unfold gd at h
  split at h
  · split at h <;> split at h <;> first | exact h1 h | exact h2 h
  · exact h2 h
  · exact h.elim
theorem rs_pure {i : Ins} (hp : pureK i.k = true) {v : LV} {O1 O2 : List Obj} (h : rs P G i fr O v O1) : O1 = O ∧ rs P G i fr O2 v O2 := by
  obtain ⟨dst, g, k⟩ := i
  cases g with
  | none => exact rsK_pure hp h
  | some sw =>
    obtain ⟨s, w⟩ := sw
    exact ⟨gd_out h (fun h => (rsK_pure (O2 := O2) hp h).1) (fun h => h.2), gd_imp (fun h => (rsK_pure hp h).2) (fun h => ⟨h.1, rfl⟩) h⟩
theorem rs_qc {i : Ins} (hp : qcK i.k = true) {v : LV} {O1 : List Obj} (h : rs P G i fr O v O1) : O1 = O ∧ ∀ x, rs P G i fr (O ++ x) v (O ++ x) := by
  obtain ⟨dst, g, k⟩ := i
  cases g with
  | none => exact rsK_qc hp h
  | some sw =>
    obtain ⟨s, w⟩ := sw
    exact ⟨gd_out h (fun h => (rsK_qc hp h).1) (fun h => h.2), fun x => gd_imp (fun h => (rsK_qc hp h).2 x) (fun h => ⟨h.1, rfl⟩) h⟩
theorem rs_new {i : Ins} (hp : newK i.k = true) {v : LV} {O1 : List Obj} (h : rs P G i fr O v O1) : ∃ x, O1 = O ++ x := by
  obtain ⟨dst, g, k⟩ := i
  cases g with
  | none => exact rsK_new hp h
  | some sw =>
    obtain ⟨s, w⟩ := sw
    exact gd_out h (fun h => rsK_new hp h) (fun h => ⟨[], by rw [h.2, List.append_nil]⟩)

/-- A map written, and what looks at no map. -/
theorem rsK_mq {x : K} {i : I} (hx : mupdK x = true) {u v : LV} {O1 O2 : List Obj} (h : rsK P G x fr O u O1) (h' : rsK P G (.q i) fr O1 v O2) : O2 = O1 ∧ rsK P G (.q i) fr O v O := by
  cases x <;> first | (cases hx; done) | skip
  obtain ⟨h1, h2, h3⟩ := h
  obtain ⟨k, es, es', hk, ho⟩ := mupd_at h1
  obtain ⟨g1, g2, g3⟩ := h'
  rw [h3, ho] at g1 g2
  rw [q_map hk] at g1 g2
  exact ⟨g3, g1, g2, rfl⟩
theorem rsK_qm {x : K} {i : I} (hx : mupdK x = true) {u v : LV} {O2 : List Obj} (h : rsK P G (.q i) fr O u O) (h' : rsK P G x fr O v O2) : rsK P G (.q i) fr O2 u O2 := by
  cases x <;> first | (cases hx; done) | skip
  obtain ⟨h1, h2, h3⟩ := h'
  obtain ⟨k, es, es', hk, ho⟩ := mupd_at h1
  obtain ⟨g1, g2, _⟩ := h
  refine ⟨?_, ?_, rfl⟩
  · rw [h3, ho, q_map hk]; exact g1
  · rw [h3, ho, q_map hk]; exact g2
theorem rs_mq {x y : Ins} (hx : mupdK x.k = true) (hy : qK y.k = true) {u v : LV} {O1 O2 : List Obj} (h : rs P G x fr O u O1) (h' : rs P G y fr O1 v O2) : O2 = O1 ∧ rs P G y fr O v O := by
  obtain ⟨d, g, k⟩ := x
  obtain ⟨d', g', k'⟩ := y
  cases k' <;> first | (cases hy; done) | skip
  rename_i i
  have base : ∀ {O1 O2 : List Obj} {v : LV}, (O1 = O ∨ rsK P G k fr O u O1) → rsK P G (.q i) fr O1 v O2 → O2 = O1 ∧ rsK P G (.q i) fr O v O := by
    rintro O1 O2 v (rfl | h) h'
    · obtain ⟨a, b, rfl⟩ := h'; exact ⟨rfl, a, b, rfl⟩
    · exact rsK_mq hx h h'
  have hx1 : O1 = O ∨ rsK P G k fr O u O1 := by
    cases g with
    | none => exact .inr h
    | some sw => obtain ⟨s, w⟩ := sw; exact gd_out h .inr (fun h => .inl h.2)
  cases g' with
  | none => exact base hx1 h'
  | some sw =>
    obtain ⟨s, w⟩ := sw
    exact ⟨gd_out h' (fun h' => (base hx1 h').1) (fun h' => h'.2), gd_imp (fun h' => (base hx1 h').2) (fun h' => ⟨h'.1, rfl⟩) h'⟩
theorem rs_qm {x y : Ins} (hx : mupdK x.k = true) (hy : qK y.k = true) {u v : LV} {O1 O2 : List Obj} (h : rs P G y fr O u O1) (h' : rs P G x fr O v O2) : O1 = O ∧ rs P G y fr O2 u O2 := by
  obtain ⟨d, g, k⟩ := x
  obtain ⟨d', g', k'⟩ := y
  cases k' <;> first | (cases hy; done) | skip
  rename_i i
  have hx1 : O2 = O ∨ rsK P G k fr O v O2 := by
    cases g with
    | none => exact .inr h'
    | some sw => obtain ⟨s, w⟩ := sw; exact gd_out h' .inr (fun h => .inl h.2)
  have base : ∀ {u : LV} {O1 : List Obj}, rsK P G (.q i) fr O u O1 → O1 = O ∧ rsK P G (.q i) fr O2 u O2 := by
    intro u O1 h
    obtain ⟨a, b, rfl⟩ := h
    refine ⟨rfl, ?_⟩
    rcases hx1 with rfl | hx1
    · exact ⟨a, b, rfl⟩
    · exact rsK_qm hx ⟨a, b, rfl⟩ hx1
  cases g' with
  | none => exact base h
  | some sw =>
    obtain ⟨s, w⟩ := sw
    exact ⟨gd_out h (fun h => (base h).1) (fun h => h.2), gd_imp (fun h => (base h).2) (fun h => ⟨h.1, rfl⟩) h⟩

theorem get_st_ne : ∀ {l : List LV} {d t : Nat} {v : LV}, d ≠ t → get (st l d v) t = get l t := by
  intro l d t v h
  rw [st_eq, get_eq, get_eq, List.getD_eq_getElem?_getD, List.getD_eq_getElem?_getD, List.getElem?_set_ne h]
theorem apart_get {d : Option Nat} {l : List Nat} (h : apart d l = true) (v : LV) : agree l fr (pt fr d v) := by
  intro t ht
  cases d with
  | none => rfl
  | some d =>
    simp only [apart, List.all_eq_true] at h
    have h1 := h t ht
    have hne : d ≠ t := by rintro rfl; simp at h1
    exact (get_st_ne hne).symm
theorem agree.symm {l : List Nat} (h : agree l fr fr') : agree l fr' fr := fun t ht => (h t ht).symm
theorem pt_comm {d e : Option Nat} (h : apart d e.toList = true) (u v : LV) : pt (pt fr d u) e v = pt (pt fr e v) d u := by
  cases d with
  | none => rfl
  | some d =>
    cases e with
    | none => rfl
    | some e =>
      simp only [apart, Option.toList, List.all_cons, List.all_nil, Bool.and_true] at h
      have hne : d ≠ e := by rintro rfl; simp at h
      simp only [pt, st_eq]
      exact List.set_comm _ _ hne

theorem simple_of {k : K} (h : pureK k = true ∨ qcK k = true ∨ newK k = true) : simpleK k = true := by
  cases k <;> simp_all [pureK, qcK, newK, simpleK]

theorem simple_q {k : K} (h : qK k = true) : simpleK k = true := by cases k <;> first | rfl | cases h
theorem simple_m {k : K} (h : mupdK k = true) : simpleK k = true := by cases k <;> first | rfl | cases h

/-- Two neighbours change places. -/
theorem ins_swap {x y : Ins} (h : comm x y = true) {N : Next'} (hx : ins P G x (ins P G y N) fr O) : ins P G y (ins P G x N) fr O := by
  simp only [comm, Bool.and_eq_true] at h
  obtain ⟨⟨⟨h1, h2⟩, h3⟩, h4⟩ := h
  have hsx : simpleK x.k = true := by
    simp only [Bool.or_eq_true, Bool.and_eq_true] at h4
    rcases h4 with (((h | h) | h) | h) | h
    · exact simple_of (.inl h.1)
    · exact h.1
    · exact simple_of (.inr (.inl h.1))
    · exact simple_q h.1
    · exact simple_m h.1
  have hsy : simpleK y.k = true := by
    simp only [Bool.or_eq_true, Bool.and_eq_true] at h4
    rcases h4 with (((h | h) | h) | h) | h
    · exact h.2
    · exact simple_of (.inl h.2)
    · rcases h.2 with h | h
      · exact simple_of (.inr (.inl h))
      · exact simple_of (.inr (.inr h))
    · exact simple_m h.2
    · exact simple_q h.2
  obtain ⟨u, O1, hu, hx⟩ := (ins_iff hsx).1 hx
  obtain ⟨v, O2, hv, hN⟩ := (ins_iff hsy).1 hx
  have hv' := rs_congr (apart_get h1 u).symm hv
  suffices ∃ O1', rs P G y fr O v O1' ∧ rs P G x fr O1' u O2 by
    obtain ⟨O1', a, b⟩ := this
    refine (ins_iff hsy).2 ⟨v, O1', a, (ins_iff hsx).2 ⟨u, O2, rs_congr (apart_get h2 v) b, ?_⟩⟩
    rw [← pt_comm h3]; exact hN
  simp only [Bool.or_eq_true, Bool.and_eq_true] at h4
  rcases h4 with (((h | h) | h) | h) | h
  · obtain ⟨rfl, a⟩ := rs_pure (O2 := O2) h.1 hu
    exact ⟨O2, hv', a⟩
  · obtain ⟨rfl, a⟩ := rs_pure (O2 := O) h.2 hv'
    exact ⟨O, a, hu⟩
  · obtain ⟨rfl, a⟩ := rs_qc h.1 hu
    rcases h.2 with h' | h'
    · obtain ⟨rfl, _⟩ := rs_qc h' hv'
      exact ⟨_, hv', hu⟩
    · obtain ⟨x, rfl⟩ := rs_new h' hv'
      exact ⟨_, hv', a x⟩
  · have h1 : O1 = O := by
      have := h.1
      obtain ⟨d, g, k⟩ := x
      cases k <;> first | (cases this; done) | skip
      cases g with
      | none => exact hu.2.2
      | some sw => obtain ⟨s, w⟩ := sw; exact gd_out hu (fun h => h.2.2) (fun h => h.2)
    subst h1
    exact ⟨O2, hv', (rs_qm h.2 h.1 hu hv').2⟩
  · obtain ⟨rfl, a⟩ := rs_mq h.1 h.2 hu hv'
    exact ⟨O, a, hu⟩
end
end Go.Av

namespace Go.Av
set_option linter.unusedVariables false
set_option linter.unusedSimpArgs false

section
variable (P : Program) (G : Gl) (wr : IntKind → Bool) (dr : Bool) (ops : Array Oper)

def slotOf (j : Nat) : Option Nat :=
  match ops[j]? with
  | some o => o.dst
  | none => none
def compIns (o : Oper) : Option Ins :=
  match compK P G wr dr o with
  | some k => match o.guard with
    | none => some ⟨o.dst, none, k⟩
    | some (j, want) => match slotOf ops j with
      | some s => some ⟨o.dst, some (s, want), k⟩
      | none => none
  | none => none
def compAt (i : Nat) : Option Ins :=
  match ops[i]? with
  | some o => compIns P G wr dr ops o
  | none => none
def compL : List Nat → Option (List Ins)
  | [] => some []
  | i :: r => match compAt P G wr dr ops i with
    | some c => match compL r with
      | some l => some (c :: l)
      | none => none
    | none => none
end

section
variable {P : Program} {G : Gl} {wr : IntKind → Bool} {dr : Bool} {ops : Array Oper} {F : Fz} {σ : List Pl} {O : List Obj} {w : World} {fr : List LV} {a : Act} {N : Next'}

theorem ex_mono {k : K} {dst : Option Nat} {N N' : Next'} (h : ∀ fr O, N fr O → N' fr O) (hx : ex P G k dst N fr O) : ex P G k dst N' fr O := by
  cases k <;> simp only [ex] at hx ⊢
  case q i => exact ⟨hx.1, h _ _ hx.2⟩
  case b2s x => exact ⟨hx.1, h _ _ hx.2⟩
  case mx x y => exact ⟨hx.1, h _ _ hx.2⟩
  case snil neg x =>
    unfold doSnil at hx ⊢
    split at hx
    · exact ⟨fun hp => h _ _ (hx.1 hp), fun hq => h _ _ (hx.2 hq)⟩
    · exact hx
  case call f xs =>
    obtain ⟨js, u, h1, h2, h3, h4, hN⟩ := hx
    exact ⟨js, u, h1, h2, h3, h4, h _ _ hN⟩
  case callv x xs =>
    unfold doCallv at hx ⊢
    split at hx
    · obtain ⟨he, js, u, h1, h2, h3, h4, hN⟩ := hx
      exact ⟨he, js, u, h1, h2, h3, h4, h _ _ hN⟩
    · exact hx
  case callx f xs =>
    obtain ⟨fs, js, ps, K, h1, h2, hN⟩ := hx
    exact ⟨fs, js, ps, K, h1, h2, fun r E' hK => h _ _ (hN r E' hK)⟩
  case callvx x xs =>
    unfold doCallvx at hx ⊢
    split at hx
    · obtain ⟨he, fs, js, ps, K, h1, h2, hN⟩ := hx
      exact ⟨he, fs, js, ps, K, h1, h2, fun r E' hK => h _ _ (hN r E' hK)⟩
    · exact hx
  case mnext x =>
    unfold doNext at hx ⊢
    split at hx
    · split at hx
      · split at hx
        · obtain ⟨e1, e2, e3, e4⟩ := hx
          exact ⟨e1, e2, fun i x hi hb => h _ _ (e3 i x hi hb), fun hq => h _ _ (e4 hq)⟩
        · exact hx
      · exact hx
    · exact hx
  all_goals exact ⟨hx.1, h _ _ hx.2⟩
theorem ins_mono {i : Ins} {N N' : Next'} (h : ∀ fr O, N fr O → N' fr O) (hx : ins P G i N fr O) : ins P G i N' fr O := by
  obtain ⟨dst, g, k⟩ := i
  cases g with
  | none => exact ex_mono h hx
  | some sw =>
    obtain ⟨s, want⟩ := sw
    rw [ins_some] at hx ⊢
    exact gd_imp (fun hx => ex_mono h hx) (fun hx => h _ _ hx) hx

theorem gd_sound {s : Nat} {want : Bool} {a0 b0 : Prop} (hf : LRepL F σ fr a.tmps.toList) (h : gd want (get fr s) a0 b0) :
    (a0 ∧ (a.tmps[s]?.bind fun | .bool b => some b | _ => none) = some want) ∨ (b0 ∧ (a.tmps[s]?.bind fun | .bool b => some b | _ => none) ≠ some want) := by
  have hv : ∀ v, get fr s = .g v → ∃ y, a.tmps[s]? = some y ∧ Rep F v y := by
    intro v hv
    rw [get_eq, List.getD_eq_getElem?_getD] at hv
    cases hg : fr[s]? with
    | none => rw [hg] at hv; cases hv
    | some x =>
      rw [hg] at hv
      obtain ⟨y, hy, hr⟩ := hf.get hg
      obtain rfl : x = .g v := hv
      exact ⟨y, by rw [← Array.getElem?_toList]; exact hy, by simpa only [LRep] using hr⟩
  unfold gd at h
  split at h
  · rename_i b hb
    obtain ⟨y, hy, hr⟩ := hv _ hb
    simp only [Rep] at hr; subst hr
    rw [hy]
    cases want <;> cases b <;> simp_all
  · rename_i u hb
    obtain ⟨y, hy, hr⟩ := hv _ hb
    simp only [Rep] at hr; subst hr
    rw [hy]
    exact .inr ⟨h, by simp⟩
  · exact h.elim

theorem step_sound {Q : Exit → Act → World → Prop} {i : Nat} {c : Ins} (hc : compAt P G wr dr ops i = some c) (hs : St G F σ O w) (hf : LRepL F σ fr a.tmps.toList) (hd : a.defers = []) (h : ins P G c N fr O) :
    wpOp P ops Q i (Good G N F σ w) a w := by
  unfold compAt at hc
  unfold wpOp
  split at hc
  · rename_i o ho
    rw [ho]
    simp only
    unfold compIns at hc
    split at hc
    · rename_i k hk
      split at hc
      · rename_i hg
        obtain rfl := Option.some.inj hc
        rw [if_pos (by simp [Region.wanted, hg])]
        exact .inl (compK_sound hk hs hf hd h)
      · rename_i j want hg
        split at hc
        · rename_i s hsl
          obtain rfl := Option.some.inj hc
          have hy : yielded ops a.tmps j = (a.tmps[s]?.bind fun | .bool b => some b | _ => none) := by
            unfold slotOf at hsl
            unfold yielded
            split at hsl
            · rename_i o' ho'
              rw [ho']
              simp only [Option.bind_some, hsl]
              cases a.tmps[s]? with
              | none => rfl
              | some y => cases y <;> rfl
            · cases hsl
          rw [ins_some] at h
          rcases gd_sound hf h with ⟨h1, h2⟩ | ⟨h1, h2⟩
          · rw [if_pos (by simp only [Region.wanted, hg, hy, h2]; simp)]
            exact .inl (compK_sound hk hs hf hd h1)
          · rw [if_neg (by simp only [Region.wanted, hg, hy]; simpa using h2)]
            exact ⟨_, _, F, σ, h1, pt_rep hf (by simp [und, LRep, Rep, undef]) _, (put_defers _ _ _).trans hd, hs, .refl F σ w⟩
        · cases hc
    · cases hc
  · cases hc

theorem inss_sound {Q : Exit → Act → World → Prop} : ∀ {l : List Nat} {L : List Ins} {F : Fz} {σ : List Pl} {O : List Obj} {w : World} {fr : List LV} {a : Act}, compL P G wr dr ops l = some L → St G F σ O w → LRepL F σ fr a.tmps.toList → a.defers = [] → inss P G L N fr O →
    (∀ a' w', Good G N F σ w a' w' → Q .normal a' w') → wpOps P ops Q l a w
  | [], L, F, σ, O, w, fr, a, hc, hs, hf, hd, h, hQ => by
    simp only [compL, Option.some.injEq] at hc; subst hc
    exact hQ a w ⟨fr, O, F, σ, h, hf, hd, hs, .refl F σ w⟩
  | i :: l, L, F, σ, O, w, fr, a, hc, hs, hf, hd, h, hQ => by
    simp only [compL] at hc
    split at hc
    · rename_i c hci
      split at hc
      · rename_i L' hL
        obtain rfl := Option.some.inj hc
        rw [wpOps_cons]
        refine wpOp_mono ?_ (step_sound hci hs hf hd h)
        rintro a1 w1 ⟨fr1, O1, F1, σ1, hN, hf1, hd1, hs1, st1⟩
        refine inss_sound hL hs1 hf1 hd1 hN ?_
        rintro a2 w2 ⟨fr2, O2, F2, σ2, hN2, hf2, hd2, hs2, st2⟩
        exact hQ a2 w2 ⟨fr2, O2, F2, σ2, hN2, hf2, hd2, hs2, st1.trans st2⟩
      · cases hc
    · cases hc

theorem AW.region {id : Nat} {L : List Ins} {Q : Exit → List LV → List Obj → Prop} (hc : compL P G wr false ops (List.range ops.size) = some L) (h : inss P G L (Q .normal) fr O) : AW P G (.region id ops false) fr O Q :=
  fun F σ a w hs hf hd => wp_region (inss_sound hc hs hf hd h fun a' w' ⟨fr', O', F', σ', hN, rest⟩ => ⟨fr', O', F', σ', hN, rest⟩)
end
end Go.Av

namespace Go.Av
set_option linter.unusedVariables false
set_option linter.unusedSimpArgs false

def dirOf (ops : Array Oper) (i : Nat) : List Nat :=
  match ops[i]? with
  | some o => (o.after.toList.filter fun e => Region.binds .any e).map (·.on)
  | none => []
def hasN (l : List Nat) (n : Nat) : Bool := l.any fun m => Nat.beq m n
theorem hasN_iff {l : List Nat} {n : Nat} : hasN l n = true ↔ n ∈ l := by
  simp only [hasN, List.any_eq_true]
  constructor
  · rintro ⟨m, h, e⟩; exact (Nat.eq_of_beq_eq_true e) ▸ h
  · intro h; exact ⟨n, h, Nat.beq_refl n⟩

section
variable (P : Program) (G : Gl) (wr : IntKind → Bool) (ops : Array Oper)

/-- All that goes before, by number; reckoned from the first on. -/
def ancAll : Nat → List (List Nat)
  | 0 => []
  | n + 1 => let t := ancAll n
    t ++ [(dirOf ops n).flatMap fun e => e :: t.getD e []]

def commAt (i j : Nat) : Bool :=
  match compAt P G wr true ops i with
  | some x => match compAt P G wr true ops j with
    | some y => comm x y
    | none => false
  | none => false
def pairOk (anc : List (List Nat)) (j i : Nat) : Bool :=
  match hasN (dirOf ops j) i with
  | true => false
  | false => match hasN (anc.getD i []) j with
    | true => true
    | false => commAt P G wr ops j i
def pairsOk (anc : List (List Nat)) : List Nat → Bool
  | [] => true
  | j :: r => r.all (pairOk P G wr ops anc j) && (match hasN r j with | true => false | false => pairsOk anc r)
def ancOk (anc : List (List Nat)) (i : Nat) : Bool :=
  !(hasN (dirOf ops i) i) && (anc.getD i []).all fun j => match hasN (dirOf ops i) j with
    | true => true
    | false => (dirOf ops i).any fun e => hasN (anc.getD e []) j
def drawOk (anc : List (List Nat)) (ord : List Nat) : Bool :=
  pairsOk P G wr ops anc ord && ord.all (Nat.blt · ops.size) && (List.range ops.size).all (hasN ord) && (List.range ops.size).all (ancOk ops anc) &&
    (List.range ops.size).all (fun i => (dirOf ops i).all (Nat.blt · ops.size)) && Nat.beq ord.length ops.size
end

section
variable {P : Program} {G : Gl} {wr : IntKind → Bool} {ops : Array Oper} {F : Fz} {σ : List Pl} {O : List Obj} {w : World} {fr : List LV} {a : Act} {N : Next'}

theorem compL_app {l l' : List Nat} {L : List Ins} (h : compL P G wr true ops (l ++ l') = some L) : ∃ A B, compL P G wr true ops l = some A ∧ compL P G wr true ops l' = some B ∧ L = A ++ B := by
  induction l generalizing L with
  | nil => exact ⟨[], L, rfl, h, rfl⟩
  | cons i l ih =>
    simp only [List.cons_append, compL] at h ⊢
    split at h
    · rename_i c hc
      split at h
      · rename_i L' hL
        obtain rfl := Option.some.inj h
        obtain ⟨A, B, h1, h2, rfl⟩ := ih hL
        exact ⟨c :: A, B, by simp only [h1], h2, rfl⟩
      · cases h
    · cases h
theorem compL_mk {l l' : List Nat} {A B : List Ins} (h : compL P G wr true ops l = some A) (h' : compL P G wr true ops l' = some B) : compL P G wr true ops (l ++ l') = some (A ++ B) := by
  induction l generalizing A with
  | nil => simp only [compL, Option.some.injEq] at h; subst h; exact h'
  | cons i l ih =>
    simp only [compL] at h
    split at h
    · rename_i c hc
      split at h
      · rename_i L' hL
        obtain rfl := Option.some.inj h
        simp only [List.cons_append, compL, hc, ih hL]
      · cases h
    · cases h

/-- One moved to the front. -/
theorem inss_front {x : Ins} : ∀ {A B : List Ins} {fr : List LV} {O : List Obj}, (∀ y ∈ A, comm y x = true) → inss P G (A ++ x :: B) N fr O → ins P G x (inss P G (A ++ B) N) fr O
  | [], B, fr, O, _, h => h
  | y :: A, B, fr, O, hc, h => by
    refine ins_swap (hc y (List.mem_cons_self ..)) ?_
    exact ins_mono (fun fr O h => inss_front (fun z hz => hc z (List.mem_cons_of_mem _ hz)) h) h

theorem compL_mem {l : List Nat} {A : List Ins} (h : compL P G wr true ops l = some A) : ∀ y ∈ A, ∃ j ∈ l, compAt P G wr true ops j = some y := by
  induction l generalizing A with
  | nil => simp only [compL, Option.some.injEq] at h; subst h; simp
  | cons i l ih =>
    simp only [compL] at h
    split at h
    · rename_i c hc
      split at h
      · rename_i L' hL
        obtain rfl := Option.some.inj h
        intro y hy
        rcases List.mem_cons.1 hy with rfl | hy
        · exact ⟨i, List.mem_cons_self .., hc⟩
        · obtain ⟨j, hj, hc'⟩ := ih hL y hy
          exact ⟨j, List.mem_cons_of_mem _ hj, hc'⟩
      · cases h
    · cases h

theorem pairsOk_app {anc : List (List Nat)} : ∀ {l : List Nat} {i : Nat} {r : List Nat}, pairsOk P G wr ops anc (l ++ i :: r) = true → (∀ j ∈ l, pairOk P G wr ops anc j i = true) ∧ i ∉ l ∧ pairsOk P G wr ops anc (l ++ r) = true ∧ i ∉ r
  | [], i, r, h => by
    simp only [List.nil_append, pairsOk, Bool.and_eq_true] at h
    obtain ⟨h1, h2⟩ := h
    split at h2
    · cases h2
    · rename_i hn
      refine ⟨by simp, by simp, h2, fun hm => ?_⟩
      rw [hasN_iff.2 hm] at hn; cases hn
  | k :: l, i, r, h => by
    simp only [List.cons_append, pairsOk, Bool.and_eq_true, List.all_append, List.all_cons] at h
    obtain ⟨⟨h1, h2, h3⟩, h4⟩ := h
    split at h4
    · cases h4
    · rename_i hn
      obtain ⟨a, b, c, d⟩ := pairsOk_app h4
      refine ⟨?_, ?_, ?_, d⟩
      · intro j hj
        rcases List.mem_cons.1 hj with rfl | hj
        · exact h2
        · exact a j hj
      · intro hm
        rcases List.mem_cons.1 hm with rfl | hm
        · have : i ∈ l ++ i :: r := by simp
          rw [hasN_iff.2 this] at hn; cases hn
        · exact b hm
      · simp only [List.cons_append, pairsOk, Bool.and_eq_true, List.all_append]
        refine ⟨⟨h1, h3⟩, ?_⟩
        have : hasN (l ++ r) k = false := by
          cases hh : hasN (l ++ r) k with
          | false => rfl
          | true =>
            have := hasN_iff.1 hh
            have : k ∈ l ++ i :: r := by simp only [List.mem_append, List.mem_cons] at this ⊢; rcases this with h | h <;> simp [h]
            rw [hasN_iff.2 this] at hn; cases hn
        rw [this]; exact c

theorem ready_iff {listed : Array Bool} {i : Nat} : i ∈ Region.ready .any ops listed ↔ i < ops.size ∧ listed.getD i true = false ∧ ∀ e ∈ dirOf ops i, listed.getD e false = true := by
  simp only [Region.ready, List.mem_filter, List.mem_range, Bool.and_eq_true, Bool.not_eq_true']
  refine and_congr_right fun hi => and_congr_right fun _ => ?_
  have ho : ops[i]? = some ops[i] := Array.getElem?_eq_getElem hi
  simp only [dirOf, ho, Option.map_some, Option.getD_some, Array.all_eq_true', Bool.or_eq_true, Bool.not_eq_true', List.mem_map, List.mem_filter, Array.mem_toList_iff]
  constructor
  · rintro h e ⟨x, ⟨hx, hb⟩, rfl⟩
    rcases h x hx with h | h
    · rw [hb] at h; cases h
    · exact h
  · intro h x hx
    cases hb : Region.binds .any x with
    | false => exact .inl rfl
    | true => exact .inr (h _ ⟨x, ⟨hx, hb⟩, rfl⟩)

theorem getD_lt {listed : Array Bool} {i : Nat} (h : i < listed.size) (d d' : Bool) : listed.getD i d = listed.getD i d' := by
  simp [Array.getD, h]

theorem draw_go {anc : List (List Nat)} {Q : Exit → Act → World → Prop} (hanc : ∀ i, i < ops.size → ancOk ops anc i = true) (hdir : ∀ i, i < ops.size → ∀ e ∈ dirOf ops i, e < ops.size) :
    ∀ (fuel : Nat) {rem : List Nat} {listed : Array Bool} {L : List Ins} {F : Fz} {σ : List Pl} {O : List Obj} {w : World} {fr : List LV} {a : Act}, rem.length = fuel → compL P G wr true ops rem = some L → pairsOk P G wr ops anc rem = true → (∀ i ∈ rem, i < ops.size) →
    listed.size = ops.size → (∀ i, i < ops.size → (listed.getD i true = false ↔ i ∈ rem)) → (∀ i, i < ops.size → i ∉ rem → ∀ j ∈ anc.getD i [], j ∉ rem) →
    St G F σ O w → LRepL F σ fr a.tmps.toList → a.defers = [] → inss P G L N fr O → (∀ a' w', Good G N F σ w a' w' → Q .normal a' w') → wpAny P .any ops Q fuel listed a w
  | 0, rem, listed, L, F, σ, O, w, fr, a, hl, hc, hp, hlt, hsz, hin, hai, hs, hf, hd, h, hQ => by
    obtain rfl : rem = [] := List.eq_nil_of_length_eq_zero hl
    simp only [compL, Option.some.injEq] at hc; subst hc
    refine ⟨?_, hQ a w ⟨fr, O, F, σ, h, hf, hd, hs, .refl F σ w⟩⟩
    rw [List.eq_nil_iff_forall_not_mem]
    intro i hi
    obtain ⟨h1, h2, _⟩ := ready_iff.1 hi
    simpa using (hin i h1).1 h2
  | fuel + 1, rem, listed, L, F, σ, O, w, fr, a, hl, hc, hp, hlt, hsz, hin, hai, hs, hf, hd, h, hQ => by
    have hun : ∀ e, e < ops.size → (listed.getD e false = true ↔ e ∉ rem) := by
      intro e he
      rw [getD_lt (by omega) false true, ← hin e he]; simp
    refine ⟨fun hr => ?_, fun i hi => ?_⟩
    · exfalso
      match rem, hl with
      | j :: r, _ =>
        have hj := hlt j (List.mem_cons_self ..)
        have : j ∈ Region.ready .any ops listed := by
          refine ready_iff.2 ⟨hj, (hin j hj).2 (List.mem_cons_self ..), fun e he => ?_⟩
          have hel := hdir j hj e he
          rw [hun e hel]
          intro hm
          simp only [pairsOk, Bool.and_eq_true, List.all_eq_true] at hp
          rcases List.mem_cons.1 hm with rfl | hm
          · have := hanc e hj
            simp only [ancOk, Bool.and_eq_true, Bool.not_eq_true'] at this
            rw [hasN_iff.2 he] at this; exact absurd this.1 (by simp)
          · have := hp.1 e hm
            simp only [pairOk, hasN_iff.2 he] at this
            cases this
        rw [hr] at this; cases this
    · obtain ⟨h1, h2, h3⟩ := ready_iff.1 hi
      have hm := (hin i h1).1 h2
      obtain ⟨pre, post, rfl⟩ := List.append_of_mem hm
      obtain ⟨p1, p2, p3, p4⟩ := pairsOk_app hp
      obtain ⟨A, B', hA, hB', rfl⟩ := compL_app hc
      simp only [compL] at hB'
      split at hB'
      · rename_i x hx
        split at hB'
        · rename_i B hB
          obtain rfl := Option.some.inj hB'
          have hcomm : ∀ y ∈ A, comm y x = true := by
            intro y hy
            obtain ⟨j, hj, hyj⟩ := compL_mem hA y hy
            have hjr : j ∈ pre ++ i :: post := List.mem_append_left _ hj
            have := p1 j hj
            unfold pairOk at this
            split at this
            · cases this
            · split at this
              · rename_i ha
                exfalso
                have ha := hasN_iff.1 ha
                have hok := hanc i h1
                simp only [ancOk, Bool.and_eq_true, List.all_eq_true] at hok
                have hok := hok.2 j ha
                split at hok
                · rename_i hd'
                  have := h3 j (hasN_iff.1 hd')
                  rw [hun j (hlt j hjr)] at this
                  exact this hjr
                · simp only [List.any_eq_true] at hok
                  obtain ⟨e, he, hej⟩ := hok
                  have he' := hdir i h1 e he
                  have := h3 e he
                  rw [hun e he'] at this
                  exact hai e he' this j (hasN_iff.1 hej) hjr
              · unfold commAt at this
                rw [hyj, hx] at this
                exact this
          have hfront := inss_front hcomm h
          refine wpOp_mono ?_ (step_sound hx hs hf hd hfront)
          rintro a1 w1 ⟨fr1, O1, F1, σ1, hN, hf1, hd1, hs1, st1⟩
          have hii : i ∉ pre ++ post := by simp only [List.mem_append, not_or]; exact ⟨p2, p4⟩
          refine draw_go hanc hdir fuel (rem := pre ++ post) (by simp only [List.length_append, List.length_cons] at hl ⊢; omega) (compL_mk hA hB) p3 (fun j hj => hlt j (by simp only [List.mem_append, List.mem_cons] at hj ⊢; rcases hj with h | h <;> simp [h])) (by simpa using hsz) ?_ ?_ hs1 hf1 hd1 hN ?_
          · intro j hj
            by_cases hji : j = i
            · subst hji
              simp only [Array.getD_eq_getD_getElem?, Array.getElem?_setIfInBounds_self, hsz, hj, if_true, Option.getD_some]
              simpa using hii
            · have := hin j hj
              rw [Array.getD_eq_getD_getElem?, Array.getElem?_setIfInBounds_ne (Ne.symm hji), ← Array.getD_eq_getD_getElem?, this]
              simp only [List.mem_append, List.mem_cons, hji, false_or]
          · intro j hj hjn k hk hkm
            have hkr : k ∈ pre ++ i :: post := by simp only [List.mem_append, List.mem_cons] at hkm ⊢; rcases hkm with h | h <;> simp [h]
            by_cases hji : j = i
            · subst hji
              have hok := hanc j h1
              simp only [ancOk, Bool.and_eq_true, List.all_eq_true] at hok
              have hok := hok.2 k hk
              split at hok
              · rename_i hd'
                have := h3 k (hasN_iff.1 hd')
                rw [hun k (hlt k hkr)] at this
                exact this hkr
              · simp only [List.any_eq_true] at hok
                obtain ⟨e, he, hej⟩ := hok
                have he' := hdir j h1 e he
                have := h3 e he
                rw [hun e he'] at this
                exact hai e he' this k (hasN_iff.1 hej) hkr
            · refine hai j hj (fun hm => hjn ?_) k hk hkr
              simp only [List.mem_append, List.mem_cons, hji, false_or] at hm ⊢; exact hm
          · rintro a2 w2 ⟨fr2, O2, F2, σ2, hN2, hf2, hd2, hs2, st2⟩
            exact hQ a2 w2 ⟨fr2, O2, F2, σ2, hN2, hf2, hd2, hs2, st1.trans st2⟩
        · cases hB'
      · cases hB'

theorem AW.draw {id : Nat} {anc : List (List Nat)} {ord : List Nat} {L : List Ins} {Q : Exit → List LV → List Obj → Prop} (hm : P.follows .mixedOrders = true) (hk : drawOk P G wr ops anc ord = true) (hc : compL P G wr true ops ord = some L) (h : inss P G L (Q .normal) fr O) : AW P G (.region id ops true) fr O Q := by
  simp only [drawOk, Bool.and_eq_true, List.all_eq_true, List.mem_range] at hk
  obtain ⟨⟨⟨⟨⟨k1, k2⟩, k3⟩, k4⟩, k5⟩, k6⟩ := hk
  have hb : ∀ {m n : Nat}, Nat.blt m n = true → m < n := fun h => by simpa [Nat.blt_eq] using h
  intro F σ a w hs hf hd
  refine wp_region_any hm ?_
  refine draw_go (rem := ord) k4 (fun i hi e he => hb (k5 i hi e he)) ops.size (Nat.eq_of_beq_eq_true k6) hc k1 (fun i hi => hb (k2 i hi)) (by simp) ?_ ?_ (St.of_heap (w := w) rfl hs) hf hd h ?_
  · intro i hi
    rw [Array.getD_eq_getD_getElem?, Array.getElem?_replicate, if_pos hi]
    simp only [Option.getD_some, true_iff]
    exact hasN_iff.1 (k3 i hi)
  · intro i hi hn
    exact absurd (hasN_iff.1 (k3 i hi)) hn
  · rintro a' w' ⟨fr', O', F', σ', hN, hf', hd', hs', st⟩
    exact ⟨fr', O', F', σ', hN, hf', hd', hs', (Step.drawn F σ w (w.drawn + 1)).trans st⟩
end
end Go.Av

namespace Go.Av
set_option linter.unusedVariables false
set_option linter.unusedSimpArgs false

structure GStep (n : Nat) (F : Fz) (σ : List Pl) (w : World) (F' : Fz) (σ' : List Pl) : Prop where
  le : F.le F'
  fnew : ∀ b, F b = none → F' b ≠ none → May σ w b
  pnew : ∀ p ∈ σ', ∀ b o, p.at_ = some (b, o) → May σ w b
  pins : ∀ (k : Nat) (p : Pl), k < n → σ[k]? = some p → p.pin = true → σ'[k]? = some p
  len : n ≤ σ.length → n ≤ σ'.length

theorem GStep.of {n : Nat} {F F' : Fz} {σ σ' : List Pl} {w : World} (h : Step F σ w F' σ' w) : GStep n F σ w F' σ' :=
  ⟨h.le, h.fnew, h.pnew, fun k p _ => h.pins k p, fun hn => Nat.le_trans hn h.len⟩
theorem Step.ghost {F0 F F' : Fz} {σ0 σ σ' : List Pl} {w0 w : World} (h : Step F0 σ0 w0 F σ w) (g : GStep σ0.length F σ w F' σ') : Step F0 σ0 w0 F' σ' w :=
  ⟨Fz.le_trans h.le g.le, h.frame, fun b h1 h2 => by
    by_cases e : F b = none
    · exact (g.fnew b e h2).back h
    · exact h.fnew b h1 e, fun p hp b o ho => (g.pnew p hp b o ho).back h, h.size, h.os, h.tape, h.output,
    fun k p h1 h2 => g.pins k p (List.getElem?_eq_some_iff.1 h1).1 (h.pins k p h1 h2) h2, g.len h.len⟩
theorem GStep.trans {n : Nat} {F F' F'' : Fz} {σ σ' σ'' : List Pl} {w : World} (h : GStep n F σ w F' σ') (g : GStep n F' σ' w F'' σ'') : GStep n F σ w F'' σ'' := by
  have back : ∀ {b}, May σ' w b → May σ w b := by
    rintro b (hb | ⟨p, hp, o, ho⟩)
    · exact .inl hb
    · exact h.pnew p hp b o ho
  refine ⟨Fz.le_trans h.le g.le, fun b h1 h2 => ?_, fun p hp b o ho => back (g.pnew p hp b o ho), fun k p hk h1 h2 => g.pins k p hk (h.pins k p hk h1 h2) h2, fun hn => g.len (h.len hn)⟩
  by_cases e : F' b = none
  · exact back (g.fnew b e h2)
  · exact h.fnew b h1 e

/-- A state may be seen as another one; the first n objects keep their numbers and places. -/
def Gh (G : Gl) (n : Nat) (fr : List LV) (O : List Obj) (fr' : List LV) (O' : List Obj) : Prop :=
  ∀ (F : Fz) (σ : List Pl) (w : World) (ys : List Value), St G F σ O w → LRepL F σ fr ys → ∃ F' σ', St G F' σ' O' w ∧ LRepL F' σ' fr' ys ∧ GStep n F σ w F' σ'

section
variable {G : Gl} {n : Nat} {fr fr' : List LV} {O O' : List Obj}

theorem Gh.refl : Gh G n fr O fr O := fun F σ w ys hs hf => ⟨F, σ, hs, hf, .of (.refl F σ w)⟩
theorem Gh.trans {fr'' : List LV} {O'' : List Obj} (h : Gh G n fr O fr' O') (g : Gh G n fr' O' fr'' O'') : Gh G n fr O fr'' O'' := by
  intro F σ w ys hs hf
  obtain ⟨F1, σ1, hs1, hf1, st1⟩ := h F σ w ys hs hf
  obtain ⟨F2, σ2, hs2, hf2, st2⟩ := g F1 σ1 w ys hs1 hf1
  exact ⟨F2, σ2, hs2, hf2, st1.trans st2⟩
theorem Gh.le (h : ∀ F σ ys, LRepL F σ fr ys → LRepL F σ fr' ys) : Gh G n fr O fr' O := fun F σ w ys hs hf => ⟨F, σ, hs, h F σ ys hf, .of (.refl F σ w)⟩
/-- Objects given up, or told in another order. -/
def keeps : Nat → Nat → List Nat → Bool
  | 0, _, _ => true
  | n + 1, s, [] => false
  | n + 1, s, j :: js => match Nat.beq j s with
    | true => keeps n (s + 1) js
    | false => false
theorem keeps_get : ∀ {n s : Nat} {js : List Nat}, keeps n s js = true → ∀ k, k < n → js[k]? = some (s + k)
  | 0, s, js, _, k, hk => by omega
  | n + 1, s, [], h, k, hk => by cases h
  | n + 1, s, j :: js, h, k, hk => by
    simp only [keeps] at h
    split at h
    · rename_i hb
      obtain rfl := Nat.eq_of_beq_eq_true hb
      cases k with
      | zero => rfl
      | succ k => rw [List.getElem?_cons_succ, keeps_get h k (by omega)]; congr 1; omega
    · cases h
theorem Gh.sub (js : List Nat) (hl : okD O js = true) (hk : keeps n 0 js = true) : Gh G n fr O (unL js O fr) (lendO js [] O js) := by
  intro F σ w ys hs hf
  refine ⟨F, lendP [] σ js, hs.lendD hl, unL_rep hs (lend_same' hs) hf, ⟨Fz.le_refl F, fun b h h' => absurd h h', ?_, ?_, ?_⟩⟩
  · intro p hp b o hat
    obtain ⟨j, hj, rfl⟩ := lendP_mem hp
    rw [List.getD_eq_getElem?_getD] at hat
    cases hσ : σ[j]? with
    | none => rw [hσ] at hat; cases hat
    | some q => rw [hσ] at hat; exact .inr ⟨q, List.mem_of_getElem? hσ, o, hat⟩
  · intro k p hkn hp hpin
    refine lendP_get.2 ⟨k, by have := keeps_get hk k hkn; rwa [Nat.zero_add] at this, ?_⟩
    rw [List.getD_eq_getElem?_getD, hp]; simp [asPin, hasB]
  · intro _
    rw [lendP_length]
    cases n with
    | zero => omega
    | succ m => have := (List.getElem?_eq_some_iff.1 (keeps_get hk m (by omega))).1; omega
/-- A nil slice is an empty row. -/
theorem Gh.nil (i s : Nat) (h : get fr i = .g .nils) : Gh G n fr O (st fr i (.rw O.length)) (O ++ [.row false s []]) := by
  intro F σ w ys hs hf
  let a : Act := { tmps := ys.toArray, defers := [] }
  have hf' : LRepL F σ fr a.tmps.toList := by simpa [a] using hf
  obtain ⟨σ', a1, a2, a3, a4⟩ := nil_row hs hf' s
  refine ⟨F, σ', a3, ?_, .of a4⟩
  rw [st_eq]
  have hy : ∃ y, ys[i]? = some y ∧ y = .slice none 0 0 := by
    rw [get_eq, List.getD_eq_getElem?_getD] at h
    cases hg : fr[i]? with
    | none => rw [hg] at h; cases h
    | some x =>
      rw [hg] at h
      obtain ⟨y, hy, hr⟩ := hf.get hg
      obtain rfl : x = .g .nils := h
      exact ⟨y, hy, hr⟩
  obtain ⟨y, h1, rfl⟩ := hy
  have := (show LRepL F σ' fr ys by simpa [a] using a2).set (t := i) a1
  rwa [show ys.set i (.slice none 0 0) = ys from by
    apply List.ext_getElem?
    intro k
    rw [List.getElem?_set]
    split
    · rename_i e; subst e; rw [h1]; simp [(List.getElem?_eq_some_iff.1 h1).1]
    · rfl] at this
theorem Gh.frz (x : LV) (i : Nat) (h : get fr i = x) : Gh G n fr O fr (fz 99 x O) := by
  intro F σ w ys hs hf
  have hx : ∃ y, LRep F σ x y := by
    rw [← h, get_eq, List.getD_eq_getElem?_getD]
    cases hg : fr[i]? with
    | none => exact ⟨undef, trivial⟩
    | some x => obtain ⟨y, _, hr⟩ := hf.get hg; exact ⟨y, hr⟩
  obtain ⟨F1, hs1, st1⟩ := fz_sound 99 x hs hx
  exact ⟨F1, σ, hs1, hf.mono st1.le (fun _ _ h => h), .of st1⟩
/-- A slot's value read through. -/
theorem Gh.nils (i s : Nat) (h : get fr i = .g .nils) : Gh G n fr O (st fr i (.g (.fsl s []))) O := by
  refine Gh.le fun F σ ys hf => ?_
  rw [st_eq]
  rw [get_eq, List.getD_eq_getElem?_getD] at h
  cases hg : fr[i]? with
  | none => rw [hg] at h; cases h
  | some x =>
    rw [hg] at h
    obtain ⟨y, hy, hr⟩ := hf.get hg
    obtain rfl : x = .g .nils := h
    have h2 : LRep F σ (.g (.fsl s [])) y := by
      have e : y = .slice none 0 0 := hr
      subst e
      exact ⟨none, 0, rfl, by simp, .inl rfl⟩
    have := hf.set (t := i) h2
    rwa [show ys.set i y = ys from by
      apply List.ext_getElem?
      intro k
      rw [List.getElem?_set]
      split
      · rename_i e; subst e; rw [hy]; simp [(List.getElem?_eq_some_iff.1 hy).1]
      · rfl] at this

/-- A frame with the slots in 'keep' as they are, those of 'vars' as told there, the others not known. -/
def frmGo (keep : List Nat) (vars : List (Nat × LV)) (i : Nat) : List LV → List LV
  | [] => []
  | x :: r => slotv vars i (match hasB keep i with | true => x | false => .any) :: frmGo keep vars (i + 1) r
 where
  slotv : List (Nat × LV) → Nat → LV → LV
    | [], _, d => d
    | y :: l, i, d => match Nat.beq y.1 i with
      | true => y.2
      | false => slotv l i d
def frm (keep : List Nat) (vars : List (Nat × LV)) (fr : List LV) : List LV := frmGo keep vars 0 fr
def eqs : List (Nat × LV) → List LV → Prop
  | [], _ => True
  | y :: l, fr => get fr y.1 = y.2 ∧ eqs l fr
def keepEq : List Nat → List LV → List LV → Prop
  | [], _, _ => True
  | i :: l, fr, fr' => get fr' i = get fr i ∧ keepEq l fr fr'

theorem slotv_cases (vars : List (Nat × LV)) (i : Nat) (d : LV) : frmGo.slotv vars i d = d ∨ ∃ y ∈ vars, y.1 = i ∧ frmGo.slotv vars i d = y.2 := by
  induction vars with
  | nil => exact .inl rfl
  | cons y l ih =>
    simp only [frmGo.slotv]
    split
    · rename_i h; exact .inr ⟨y, by simp, Nat.eq_of_beq_eq_true h, rfl⟩
    · rcases ih with h | ⟨z, h1, h2, h3⟩
      · exact .inl h
      · exact .inr ⟨z, by simp [h1], h2, h3⟩
theorem eqs_mem {vars : List (Nat × LV)} (h : eqs vars fr) : ∀ y ∈ vars, get fr y.1 = y.2 := by
  induction vars with
  | nil => simp
  | cons z l ih =>
    intro y hy
    rcases List.mem_cons.1 hy with rfl | hy
    · exact h.1
    · exact ih h.2 y hy
theorem keepEq_mem {keep : List Nat} (h : keepEq keep fr fr') : ∀ i ∈ keep, get fr' i = get fr i := by
  induction keep with
  | nil => simp
  | cons z l ih =>
    intro y hy
    rcases List.mem_cons.1 hy with rfl | hy
    · exact h.1
    · exact ih h.2 y hy
theorem frmGo_get {keep : List Nat} {vars : List (Nat × LV)} : ∀ {fr : List LV} {s k : Nat}, (frmGo keep vars s fr)[k]? = fr[k]?.map fun x => frmGo.slotv vars (s + k) (match hasB keep (s + k) with | true => x | false => .any)
  | [], s, k => by simp [frmGo]
  | x :: r, s, 0 => by simp [frmGo]
  | x :: r, s, k + 1 => by
    simp only [frmGo, List.getElem?_cons_succ]
    rw [frmGo_get, show s + 1 + k = s + (k + 1) from by omega]
theorem LRepL_of_get {F : Fz} {σ : List Pl} : ∀ {xs : List LV} {ys : List Value}, xs.length = ys.length → (∀ (k : Nat) (x : LV) (y : Value), xs[k]? = some x → ys[k]? = some y → LRep F σ x y) → LRepL F σ xs ys
  | [], ys, h, _ => by have := List.eq_nil_of_length_eq_zero h.symm; subst this; rfl
  | x :: xs, [], h, _ => by simp at h
  | x :: xs, y :: ys, h, hk => ⟨y, ys, rfl, hk 0 x y rfl rfl, LRepL_of_get (by simpa using h) fun k a b ha hb => hk (k + 1) a b (by simpa using ha) (by simpa using hb)⟩
theorem frmGo_length {keep : List Nat} {vars : List (Nat × LV)} : ∀ {fr : List LV} {s : Nat}, (frmGo keep vars s fr).length = fr.length
  | [], s => rfl
  | x :: r, s => by simp [frmGo, frmGo_length]
/-- A frame that agrees where it is asked. -/
theorem frm_of {keep : List Nat} {vars : List (Nat × LV)} (hl : fr'.length = fr.length) (hk : keepEq keep fr fr') (he : eqs vars fr') : ∀ F σ ys, LRepL F σ fr' ys → LRepL F σ (frm keep vars fr) ys := by
  intro F σ ys hr
  refine LRepL_of_get (by rw [frm, frmGo_length, ← hl, ← hr.length]) fun k x y hx hy => ?_
  rw [frm, frmGo_get, Option.map_eq_some_iff] at hx
  obtain ⟨x0, hx0, rfl⟩ := hx
  rw [Nat.zero_add]
  have hk' : k < fr'.length := by rw [hl]; exact (List.getElem?_eq_some_iff.1 hx0).1
  obtain ⟨y', hy', hr'⟩ := hr.get (List.getElem?_eq_getElem hk')
  rw [hy] at hy'; obtain rfl := Option.some.inj hy'
  have hg : get fr' k = fr'[k] := by rw [get_eq, List.getD_eq_getElem?_getD, List.getElem?_eq_getElem hk']; rfl
  rcases slotv_cases vars k (match hasB keep k with | true => x0 | false => .any) with h | ⟨z, h1, h2, h3⟩
  · rw [h]
    split
    · rename_i hb
      have := keepEq_mem hk k (hasB_iff.1 hb)
      rw [hg, get_eq, List.getD_eq_getElem?_getD, hx0] at this
      rw [show x0 = fr'[k] from this.symm]; exact hr'
    · trivial
  · rw [h3]
    have := eqs_mem he z h1
    rw [h2, hg] at this
    rw [← this]; exact hr'
end

theorem AW.loop {P : Program} {G : Gl} {Q : Exit → List LV → List Obj → Prop} {fr : List LV} {O : List Obj} {c : Code} (I : Nat → List LV → List Obj → Prop) (n : Nat) {f0 : List LV} {O0 : List Obj} (hg : Gh G O.length fr O f0 O0) (h₀ : I n f0 O0)
    (round : ∀ n fr1 O1, I n fr1 O1 → AW P G c fr1 O1 (thenQ (fun fr' O' => ∃ m f' O'', m < n ∧ Gh G O.length fr' O' f' O'' ∧ I m f' O'') Q)) : AW P G (.loop c) fr O Q := by
  intro F σ a w hs hf hd
  obtain ⟨F0, σ0, hs0, hf0, g0⟩ := hg F σ w _ hs hf
  have st0 : Step F σ w F0 σ0 w := Step.ghost (.refl F σ w) (by rw [← hs.len]; exact g0)
  refine wp_loopN (fun n a' w' => ∃ fr' O' F' σ', I n fr' O' ∧ LRepL F' σ' fr' a'.tmps.toList ∧ a'.defers = [] ∧ St G F' σ' O' w' ∧ Step F σ w F' σ' w') n ⟨f0, O0, F0, σ0, h₀, hf0, hd, hs0, st0⟩ ?_
  rintro n a₁ w₁ ⟨fr₁, O₁, F₁, σ₁, hI, hf₁, hd₁, hs₁, st₁⟩
  refine wp_mono (round n fr₁ O₁ hI F₁ σ₁ a₁ w₁ hs₁ hf₁ hd₁) ?_
  rintro e a₂ w₂ ⟨fr₂, O₂, F₂, σ₂, q, hf₂, hd₂, hs₂, st₂⟩
  cases e with
  | normal =>
    obtain ⟨m, f', O'', hm, hg₂, hI₂⟩ := q
    obtain ⟨F3, σ3, hs3, hf3, g3⟩ := hg₂ F₂ σ₂ w₂ _ hs₂ hf₂
    exact ⟨m, hm, f', O'', F3, σ3, hI₂, hf3, hd₂, hs3, Step.ghost (st₁.trans st₂) (by rw [← hs.len]; exact g3)⟩
  | _ => exact ⟨fr₂, O₂, F₂, σ₂, q, hf₂, hd₂, hs₂, st₁.trans st₂⟩
end Go.Av

namespace Go.Av
set_option linter.unusedVariables false
set_option linter.unusedSimpArgs false

inductive Ir where
  | skip
  | reg (l : List Ins)
  | seq (a b : Ir)
  | cond (t : Nat) (a b : Ir)
  | block (a : Ir)
  | loop (a : Ir)
  | exit (k : Nat)
  | ret

/-- A value forgotten, or kept. -/
def wk (x y : LV) : Prop :=
  match y with
  | .any => True
  | y => x = y
def weak : List LV → List LV → Prop
  | [], l => match l with
    | [] => True
    | _ :: _ => False
  | x :: xs, l => match l with
    | [] => False
    | y :: ys => wk x y ∧ weak xs ys

def gx : List Next' → Nat → Next'
  | [], _ => fun _ _ => False
  | x :: _, 0 => x
  | _ :: l, n + 1 => gx l n

theorem keepEq_refl {fr : List LV} : ∀ keep : List Nat, keepEq keep fr fr
  | [] => trivial
  | i :: l => ⟨rfl, keepEq_refl l⟩

section
variable (P : Program) (G : Gl)

def aw : Ir → Next' → List Next' → Next' → Next'
  | .skip, N, _, _ => N
  | .reg l, N, _, _ => inss P G l N
  | .seq a b, N, B, R => aw a (aw b N B R) B R
  | .cond t a b, N, B, R => fun fr O => match get fr t with
    | .g (.bool c) => match c with
      | true => aw a N B R fr O
      | false => aw b N B R fr O
    | _ => False
  | .block a, N, B, R => aw a N (N :: B) R
  | .loop a, N, B, R => fun fr O => ∃ (I : Nat → List LV → List Obj → Prop) (n : Nat) (f0 : List LV) (O0 : List Obj), Gh G O.length fr O f0 O0 ∧ I n f0 O0 ∧ ∀ n fr1 O1, I n fr1 O1 → aw a (fun fr' O' => ∃ m f' O'', m < n ∧ Gh G O.length fr' O' f' O'' ∧ I m f' O'') B R fr1 O1
  | .exit k, _, B, _ => gx B k
  | .ret, _, _, R => R

/-- A condition's value known. -/
def cdB (c : Bool) (a b : Ir) (N : Next') (B : List Next') (R : Next') (fr : List LV) (O : List Obj) : Prop :=
  match c with
  | true => aw P G a N B R fr O
  | false => aw P G b N B R fr O
def cdK (v : LV) (a b : Ir) (N : Next') (B : List Next') (R : Next') (fr : List LV) (O : List Obj) : Prop :=
  match v with
  | .g (.bool c) => cdB P G c a b N B R fr O
  | _ => False
section
variable {a b : Ir} {N : Next'} {B : List Next'} {R : Next'} {fr : List LV} {O : List Obj}
theorem aw_skip : aw P G .skip N B R fr O = N fr O := rfl
theorem aw_reg {l : List Ins} : aw P G (.reg l) N B R fr O = inss P G l N fr O := rfl
theorem aw_seq : aw P G (.seq a b) N B R fr O = aw P G a (aw P G b N B R) B R fr O := rfl
theorem aw_cond {t : Nat} : aw P G (.cond t a b) N B R fr O = cdK P G (get fr t) a b N B R fr O := rfl
theorem aw_block : aw P G (.block a) N B R fr O = aw P G a N (N :: B) R fr O := rfl
theorem aw_exit {k : Nat} : aw P G (.exit k) N B R fr O = gx B k fr O := rfl
theorem aw_ret : aw P G .ret N B R fr O = R fr O := rfl
theorem cdB_t : cdB P G true a b N B R fr O = aw P G a N B R fr O := rfl
theorem cdB_f : cdB P G false a b N B R fr O = aw P G b N B R fr O := rfl
theorem cdK_b {c : Bool} : cdK P G (.g (.bool c)) a b N B R fr O = cdB P G c a b N B R fr O := rfl
end
/-- A loop, by states: what a state looks like, what holds of it, and a number that goes down. -/
theorem aw_loop {S : Type} {a : Ir} {N : Next'} {B : List Next'} {R : Next'} {fr : List LV} {O : List Obj} (keep : List Nat) (vars : S → List (Nat × LV)) (o : S → List Obj) (J : S → Prop) (μ : S → Nat) (s0 : S) {f0 : List LV} {O0 : List Obj} (hg : Gh G O.length fr O f0 O0) (he : eqs (vars s0) f0) (ho : O0 = o s0) (h0 : J s0)
    (round : ∀ s, J s → aw P G a (fun fr' O' => ∃ s' f1 O1, Gh G O.length fr' O' f1 O1 ∧ f1.length = f0.length ∧ keepEq keep f0 f1 ∧ eqs (vars s') f1 ∧ O1 = o s' ∧ J s' ∧ μ s' < μ s) B R (frm keep (vars s) f0) (o s)) (hm : ∀ {N N' : Next'} {fr : List LV} {O : List Obj}, (∀ fr O, N fr O → N' fr O) → aw P G a N B R fr O → aw P G a N' B R fr O) : aw P G (.loop a) N B R fr O := by
  refine ⟨fun n fr O => ∃ s, fr = frm keep (vars s) f0 ∧ O = o s ∧ J s ∧ n = μ s, μ s0, frm keep (vars s0) f0, o s0, hg.trans (ho ▸ Gh.le (frm_of rfl (keepEq_refl keep) he)), ⟨s0, rfl, rfl, h0, rfl⟩, ?_⟩
  rintro n fr O ⟨s, rfl, rfl, hJ, rfl⟩
  exact hm (fun fr' O' ⟨s', f1, O1, h1, h2, h3, h4, h5, h6, h7⟩ => ⟨μ s', frm keep (vars s') f0, o s', h7, h1.trans (h5 ▸ Gh.le (frm_of h2 h3 h4)), s', rfl, rfl, h6, rfl⟩) (round s hJ)

variable (wr : IntKind → Bool)
def ixOf : List Nat → Nat → Option Nat
  | [], _ => none
  | x :: l, id => match Nat.beq x id with
    | true => some 0
    | false => match ixOf l id with
      | some k => some (k + 1)
      | none => none
/-- An order that puts new objects late. -/
def isNew (ops : Array Oper) (i : Nat) : Bool :=
  match ops[i]? with
  | some o => match o.op with
    | .alloc _ => true
    | .box _ _ => true
    | .buildSlice _ _ _ => true
    | .makeMap _ _ => true
    | _ => false
  | none => false
def ordGo (ops : Array Oper) : Nat → List Nat → List Nat
  | 0, _ => []
  | n + 1, rem =>
    let rdy := rem.filter fun i => (dirOf ops i).all fun e => !(hasN rem e)
    match (rdy.filter fun i => !(isNew ops i)) ++ rdy with
    | i :: _ => i :: ordGo ops n (rem.filter fun j => !(Nat.beq j i))
    | [] => []
def ordOf (ops : Array Oper) : List Nat := ordGo ops ops.size (List.range ops.size)

def compC (bs : List Nat) : Code → Option Ir
  | .skip => some .skip
  | .region _ ops d => match d with
    | false => match compL P G wr false ops (List.range ops.size) with
      | some l => some (.reg l)
      | none => none
    | true => match drawOk P G wr ops (ancAll ops ops.size) (ordOf ops) with
      | true => match compL P G wr true ops (ordOf ops) with
        | some l => some (.reg l)
        | none => none
      | false => none
  | .seq a b => match compC bs a with
    | some a => match compC bs b with
      | some b => some (.seq a b)
      | none => none
    | none => none
  | .cond c a b => match c with
    | .tmp t => match compC bs a with
      | some a => match compC bs b with
        | some b => some (.cond t a b)
        | none => none
      | none => none
    | .const (.bool v) => match v with
      | true => compC bs a
      | false => compC bs b
    | _ => none
  | .block id a => match compC (id :: bs) a with
    | some a => some (.block a)
    | none => none
  | .loop a => match compC bs a with
    | some a => some (.loop a)
    | none => none
  | .exit id => match ixOf bs id with
    | some k => some (.exit k)
    | none => none
  | .ret => some .ret
  | _ => none

inductive Rs where
  | t (i : Nat)
  | c (i : Nat) (n : Option Nat)
def compRs : List ResultVar → Option (List Rs)
  | [] => some []
  | .tmp t :: r => match compRs r with
    | some l => some (.t t :: l)
    | none => none
  | .cell t ty :: r => match loadN P ty with
    | some n => match compRs r with
      | some l => some (.c t n :: l)
      | none => none
    | none => none

/-- A function's code, its slots, its results. -/
structure IrF where
  code : Ir
  n : Nat
  rs : List Rs
def compF (f : FuncId) : Option IrF :=
  match P.funcs[f]? with
  | some fn => match fn.body with
    | some c => match compC P G wr [] c with
      | some ir => match compRs P fn.results.toList with
        | some rs => some ⟨ir, fn.ntmps, rs⟩
        | none => none
      | none => none
    | none => none
  | none => none

def rsP (fr : List LV) (O : List Obj) (K : List LV → Prop) : List Rs → Prop
  | [] => K []
  | .t i :: r => rsP fr O (fun l => K (get fr i :: l)) r
  | .c i n :: r => (loadV O n (get fr i)).ok ∧ rsP fr O (fun l => K ((loadV O n (get fr i)).v :: l)) r
def dn (v : Option V) (K : V → Prop) : Prop :=
  match v with
  | some v => K v
  | none => False
/-- The end of a function whose result is frozen. -/
def fin (rs : List Rs) (K : V → Prop) (fr0 : List LV) (O0 : List Obj) : Prop :=
  ∃ fr O, Gh G 0 fr0 O0 fr O ∧ rsP fr O (fun l => dn (tv (fz 99 (oneOrTup l) O) (oneOrTup l)) K) rs
def rep (x : LV) : Nat → List LV
  | 0 => []
  | n + 1 => x :: rep x n
def iot : Nat → Nat → List Nat
  | _, 0 => []
  | s, n + 1 => s :: iot (s + 1) n
def frB (frz : Bool) (r : LV) (O : List Obj) : List Obj :=
  match frz with
  | true => fz 99 r O
  | false => O
def apL : List Nat → List Nat → List Nat
  | [], l => l
  | x :: r, l => x :: apL r l
/-- The end of a function that n objects were lent to: its result is frozen or not; of the objects that it made those in 'keep' go on. -/
def finA (n : Nat) (rs : List Rs) (K : LV → List Obj → Prop) (fr0 : List LV) (O0 : List Obj) : Prop :=
  ∃ fr O, Gh G n fr0 O0 fr O ∧ rsP fr O (fun l => ∃ (frz : Bool) (keep : List Nat), okL (frB frz (oneOrTup l) O) (apL (iot 0 n) keep) = true ∧
    K (un (apL (iot 0 n) keep) (frB frz (oneOrTup l) O) (oneOrTup l)) (lendO (apL (iot 0 n) keep) [] (frB frz (oneOrTup l) O) (apL (iot 0 n) keep))) rs
/-- The frame of a call. -/
def enterA : Nat → List LV → List LV
  | n, [] => rep und n
  | 0, v :: vs => v :: enterA 0 vs
  | n + 1, v :: vs => v :: enterA n vs
/-- The frame of a call. -/
def enterF : Nat → List V → List LV
  | n, [] => rep und n
  | 0, v :: vs => .g v :: enterF 0 vs
  | n + 1, v :: vs => .g v :: enterF n vs
end
end Go.Av

namespace Go.Av
set_option linter.unusedVariables false
set_option linter.unusedSimpArgs false

section
variable {P : Program} {G : Gl} {wr : IntKind → Bool} {N : Next'} {R : Next'} {fr : List LV} {O : List Obj}

def QB : List Nat → List Next' → Nat → Next'
  | id :: bs, x :: B, k => fun fr O => (id = k ∧ x fr O) ∨ (id ≠ k ∧ QB bs B k fr O)
  | _, _, _ => fun _ _ => False
def Qof (bs : List Nat) (N : Next') (B : List Next') (R : Next') : Exit → Next'
  | .normal => N
  | .ret => R
  | .exit id => QB bs B id
  | _ => fun _ _ => False

theorem QB_ix : ∀ {bs : List Nat} {B : List Next'} {id k : Nat}, ixOf bs id = some k → gx B k fr O → QB bs B id fr O
  | [], B, id, k, h, _ => by cases h
  | x :: bs, [], id, k, h, hg => by cases k <;> exact hg.elim
  | x :: bs, y :: B, id, k, h, hg => by
    simp only [ixOf] at h
    split at h
    · rename_i hb
      obtain rfl := Option.some.inj h
      exact .inl ⟨Nat.eq_of_beq_eq_true hb, hg⟩
    · rename_i hb
      split at h
      · rename_i k' hk
        obtain rfl := Option.some.inj h
        refine .inr ⟨?_, QB_ix hk hg⟩
        rintro rfl; rw [Nat.beq_refl] at hb; cases hb
      · cases h

theorem weak_rep {F : Fz} {σ : List Pl} : ∀ {xs ys : List LV} {vs : List Value}, weak xs ys → LRepL F σ xs vs → LRepL F σ ys vs
  | [], ys, vs, h, hr => by
    cases ys with
    | nil => exact hr
    | cons y ys => exact h.elim
  | x :: xs, ys, vs, h, hr => by
    cases ys with
    | nil => exact h.elim
    | cons y ys =>
      obtain ⟨h1, h2⟩ := h
      obtain ⟨v, r, rfl, hx, hr⟩ := hr
      refine ⟨v, r, rfl, ?_, weak_rep h2 hr⟩
      unfold wk at h1
      split at h1
      · simp [LRep]
      · rw [← h1]; exact hx
theorem AW.weak {c : Code} {f' : List LV} {Q : Exit → Next'} (hw : weak fr f') (h : AW P G c f' O Q) : AW P G c fr O Q :=
  fun F σ a w hs hf hd => h F σ a w hs (weak_rep hw hf) hd

theorem aw_mono {ir : Ir} : ∀ {N N' R R' : Next'} {B B' : List Next'} {fr : List LV} {O : List Obj}, (∀ fr O, N fr O → N' fr O) → (∀ k fr O, gx B k fr O → gx B' k fr O) → (∀ fr O, R fr O → R' fr O) → aw P G ir N B R fr O → aw P G ir N' B' R' fr O := by
  induction ir with
  | skip => intro N N' R R' B B' fr O hN hB hR h; exact hN _ _ h
  | reg l =>
    intro N N' R R' B B' fr O hN hB hR h
    show inss P G l N' fr O
    have h : inss P G l N fr O := h
    clear hB hR
    induction l generalizing fr O with
    | nil => exact hN _ _ h
    | cons i l ih => exact ins_mono (fun fr O h => ih h h) h
  | seq a b iha ihb =>
    intro N N' R R' B B' fr O hN hB hR h
    exact iha (fun fr O h => ihb hN hB hR h) hB hR h
  | cond t a b iha ihb =>
    intro N N' R R' B B' fr O hN hB hR h
    simp only [aw] at h ⊢
    split at h
    · split at h
      · exact iha hN hB hR h
      · exact ihb hN hB hR h
    · exact h
  | block a iha =>
    intro N N' R R' B B' fr O hN hB hR h
    refine iha hN (fun k fr O h => ?_) hR h
    cases k with
    | zero => exact hN _ _ h
    | succ k => exact hB k _ _ h
  | loop a iha =>
    intro N N' R R' B B' fr O hN hB hR ⟨I, n, f0, O0, hw, h0, round⟩
    exact ⟨I, n, f0, O0, hw, h0, fun n fr O h => iha (fun fr O h => h) hB hR (round n fr O h)⟩
  | exit k => intro N N' R R' B B' fr O hN hB hR h; exact hB k _ _ h
  | ret => intro N N' R R' B B' fr O hN hB hR h; exact hR _ _ h

theorem aw_lp {S : Type} {a : Ir} {B : List Next'} (keep : List Nat) (vars : S → List (Nat × LV)) (o : S → List Obj) (J : S → Prop) (μ : S → Nat) (s0 : S) {f0 : List LV} {O0 : List Obj} (hg : Gh G O.length fr O f0 O0) (he : eqs (vars s0) f0) (ho : O0 = o s0) (h0 : J s0)
    (round : ∀ s, J s → aw P G a (fun fr' O' => ∃ s' f1 O1, Gh G O.length fr' O' f1 O1 ∧ f1.length = f0.length ∧ keepEq keep f0 f1 ∧ eqs (vars s') f1 ∧ O1 = o s' ∧ J s' ∧ μ s' < μ s) B R (frm keep (vars s) f0) (o s)) : aw P G (.loop a) N B R fr O :=
  aw_loop P G keep vars o J μ s0 hg he ho h0 round (fun h h' => aw_mono h (fun _ _ _ h => h) (fun _ _ h => h) h')

theorem aw_sound (hm : P.follows .mixedOrders = true) : ∀ {c : Code} {bs : List Nat} {ir : Ir} {N : Next'} {B : List Next'} {R : Next'} {fr : List LV} {O : List Obj}, compC P G wr bs c = some ir → aw P G ir N B R fr O → AW P G c fr O (Qof bs N B R) := by
  intro c
  induction c with
  | skip =>
    intro bs ir N B R fr O hc h
    simp only [compC, Option.some.injEq] at hc; subst hc
    exact AW.skip h
  | region id ops d =>
    intro bs ir N B R fr O hc h
    cases d with
    | false =>
      simp only [compC] at hc
      split at hc
      · rename_i l hl
        obtain rfl := Option.some.inj hc
        exact AW.region hl h
      · cases hc
    | true =>
      simp only [compC] at hc
      split at hc
      · rename_i hk
        split at hc
        · rename_i l hl
          obtain rfl := Option.some.inj hc
          exact AW.draw hm hk hl h
        · cases hc
      · cases hc
  | seq a b iha ihb =>
    intro bs ir N B R fr O hc h
    simp only [compC] at hc
    split at hc
    · rename_i a' ha
      split at hc
      · rename_i b' hb
        obtain rfl := Option.some.inj hc
        refine AW.seq (AW.mono (iha ha h) ?_)
        intro e fr O hq
        cases e <;> first | exact ihb hb hq | exact hq
      · cases hc
    · cases hc
  | cond x a b iha ihb =>
    intro bs ir N B R fr O hc h
    simp only [compC] at hc
    split at hc
    · rename_i t
      split at hc
      · rename_i a' ha
        split at hc
        · rename_i b' hb
          obtain rfl := Option.some.inj hc
          simp only [aw] at h
          split at h
          · rename_i c hg
            have hg' : fr[t]? = some (.g (.bool c)) := by
              rw [get_eq, List.getD_eq_getElem?_getD] at hg
              cases hx : fr[t]? with
              | none => rw [hx] at hg; cases hg
              | some x => rw [hx] at hg; exact congrArg some hg
            refine AW.cond hg' (fun e => ?_) (fun e => ?_)
            · subst e; exact iha ha h
            · subst e; exact ihb hb h
          · exact h.elim
        · cases hc
      · cases hc
    · split at hc
      · intro F σ a' w hs hf hd
        refine wp_cond (show a'.eval (.const (.bool true)) = .bool true from rfl) ?_
        exact iha hc h F σ a' w hs hf hd
      · intro F σ a' w hs hf hd
        refine wp_cond (show a'.eval (.const (.bool false)) = .bool false from rfl) ?_
        exact ihb hc h F σ a' w hs hf hd
    · cases hc
  | block id a iha =>
    intro bs ir N B R fr O hc h
    simp only [compC] at hc
    split at hc
    · rename_i a' ha
      obtain rfl := Option.some.inj hc
      refine AW.block (AW.mono (iha ha h) ?_)
      intro e fr O hq
      cases e with
      | exit k =>
        simp only [inBlockQ]
        rcases hq with ⟨e, hq⟩ | ⟨e, hq⟩
        · rw [if_pos e.symm]; exact hq
        · rw [if_neg (fun h => e h.symm)]; exact hq
      | _ => exact hq
    · cases hc
  | loop a iha =>
    intro bs ir N B R fr O hc h
    simp only [compC] at hc
    split at hc
    · rename_i a' ha
      obtain rfl := Option.some.inj hc
      obtain ⟨I, n, f0, O0, hw, h0, round⟩ := h
      refine AW.loop I n hw h0 fun n fr O hI => AW.mono (iha ha (round n fr O hI)) ?_
      intro e fr O hq
      cases e <;> exact hq
    · cases hc
  | exit id =>
    intro bs ir N B R fr O hc h
    simp only [compC] at hc
    split at hc
    · rename_i k hk
      obtain rfl := Option.some.inj hc
      exact AW.exit (QB_ix hk h)
    · cases hc
  | ret =>
    intro bs ir N B R fr O hc h
    simp only [compC, Option.some.injEq] at hc; subst hc
    exact AW.ret h
  | _ => intro bs ir N B R fr O hc h; simp only [compC] at hc; cases hc

theorem compRs_sound : ∀ {rs : List ResultVar} {l : List Rs} {K : List LV → Prop}, compRs P rs = some l → rsP fr O K l → ∃ r, resV P fr O rs = some r ∧ resOk r ∧ K (resVs r)
  | [], l, K, h, hK => by
    simp only [compRs, Option.some.injEq] at h; subst h
    exact ⟨[], rfl, trivial, hK⟩
  | .tmp t :: rs, l, K, h, hK => by
    simp only [compRs] at h
    split at h
    · rename_i l' hl
      obtain rfl := Option.some.inj h
      obtain ⟨r, h1, h2, h3⟩ := compRs_sound hl hK
      exact ⟨⟨True, get fr t⟩ :: r, by simp only [resV, h1], ⟨trivial, h2⟩, h3⟩
    · cases h
  | .cell t ty :: rs, l, K, h, hK => by
    simp only [compRs] at h
    split at h
    · rename_i n hn
      split at h
      · rename_i l' hl
        obtain rfl := Option.some.inj h
        obtain ⟨hok, hK⟩ := hK
        obtain ⟨r, h1, h2, h3⟩ := compRs_sound hl hK
        exact ⟨loadV O n (get fr t) :: r, by simp only [resV, h1, hn], ⟨hok, h2⟩, h3⟩
      · cases h
    · cases h

theorem rep_und {F : Fz} {σ : List Pl} : ∀ n : Nat, LRepL F σ (rep und n) (List.replicate n undef)
  | 0 => rfl
  | n + 1 => ⟨undef, _, rfl, by simp [und, LRep, Rep, undef], rep_und n⟩
theorem enterF_rep {F : Fz} {σ : List Pl} : ∀ {n : Nat} {vs : List V} {ys : List Value}, RepL F vs ys → LRepL F σ (enterF n vs) (ys ++ List.replicate (n - ys.length) undef)
  | n, [], ys, h => by
    simp only [RepL] at h; subst h
    simpa [enterF] using rep_und n
  | 0, v :: vs, ys, h => by
    obtain ⟨y, r, rfl, hv, hr⟩ := h
    refine ⟨y, _, rfl, by simpa only [LRep] using hv, ?_⟩
    have := enterF_rep (n := 0) (σ := σ) hr
    simpa using this
  | n + 1, v :: vs, ys, h => by
    obtain ⟨y, r, rfl, hv, hr⟩ := h
    refine ⟨y, _, rfl, by simpa only [LRep] using hv, ?_⟩
    have := enterF_rep (n := n) (σ := σ) hr
    rwa [show n - r.length = n + 1 - (y :: r).length from by simp only [List.length_cons]; omega] at this
theorem g_args {F : Fz} : ∀ {vs : List V} {ys : List Value}, LRepL F [] (vs.map .g) ys → RepL F vs ys
  | [], ys, h => h
  | v :: vs, ys, h => by obtain ⟨y, r, rfl, hv, hr⟩ := h; exact ⟨y, r, rfl, by simpa only [LRep] using hv, g_args hr⟩

/-- A function's contract from its code. -/
theorem PCall.enter (hm : P.follows .mixedOrders = true) {f : FuncId} {c : IrF} (hc : compF P G wr f = some c) {vs : List V} {K : V → Prop} (h : aw P G c.code (fin G c.rs K) [] (fin G c.rs K) (enterF c.n vs) []) : PCall P G f vs K := by
  unfold compF at hc
  split at hc
  · rename_i fn hfn
    split at hc
    · rename_i body hb
      split at hc
      · rename_i ir hir
        split at hc
        · rename_i rs hrs
          obtain rfl := Option.some.inj hc
          intro F σ w vals hs ha
          have hσ : σ = [] := by have := hs.len; simp only [List.length_nil] at this; exact List.eq_nil_of_length_eq_zero this.symm
          subst hσ
          refine calls_of_wp hfn hb ?_
          have hfr : LRepL F [] (enterF fn.ntmps vs) (vals ++ Array.replicate (fn.ntmps - vals.size) undef).toList := by
            rw [Array.toList_append, Array.toList_replicate]
            exact enterF_rep (g_args ha)
          have := aw_sound hm hir h F [] { tmps := vals ++ Array.replicate (fn.ntmps - vals.size) undef, defers := [] } w hs hfr rfl
          refine wp_mono this ?_
          have fin_ok : ∀ (fr' : List LV) (O' : List Obj) (F' : Fz) (σ' : List Pl) (a' : Act) (w' : World), fin G rs K fr' O' → LRepL F' σ' fr' a'.tmps.toList → a'.defers = [] → St G F' σ' O' w' → Step F [] w F' σ' w' →
              a'.defers = [] ∧ ∃ v, (results fn a'.tmps).run P w' = .ok v w' ∧ ∃ v1 r E' F'' σ'', Ending.returned v = .returned v1 ∧ (E' = [] ∧ ∃ u, r = .g u ∧ K u) ∧ LRep F'' σ'' r v1 ∧ St G F'' σ'' E' w' ∧ Step F [] w F'' σ'' w' := by
            intro fr0' O0' F0' σ0' a' w' hfin0 hf0' hd' hs0' st0'
            refine ⟨hd', ?_⟩
            obtain ⟨fr', O', hgh, hfin⟩ := hfin0
            obtain ⟨F', σ', hs', hf', g0⟩ := hgh F0' σ0' w' _ hs0' hf0'
            have st : Step F [] w F' σ' w' := Step.ghost st0' g0
            obtain ⟨r, h1, h2, h3⟩ := compRs_sound hrs hfin
            obtain ⟨y, hy, hr⟩ := run_res hs' hf' h1 h2
            refine ⟨y, hy, y, ?_⟩
            obtain ⟨F2, hs2, st2⟩ := fz_sound 99 (oneOrTup (resVs r)) hs' ⟨y, hr⟩
            have hr2 := hr.mono st2.le (fun _ _ h => h)
            unfold dn at h3
            split at h3
            · rename_i v hv
              refine ⟨.g v, [], F2, [], rfl, ⟨rfl, v, rfl, h3⟩, by simpa only [LRep] using tv_sound hs2 hv hr2, hs2.toNil, ?_⟩
              have st3 := st.trans st2
              exact ⟨st3.le, st3.frame, st3.fnew, fun p hp => by simp at hp, st3.size, st3.os, st3.tape, st3.output, fun k p h => by simp at h, Nat.zero_le _⟩
            · exact h3.elim
          rintro e a' w' ⟨fr', O', F', σ', q, hf', hd', hs', st⟩
          cases e with
          | normal => exact fin_ok fr' O' F' σ' a' w' q hf' hd' hs' st
          | ret => exact fin_ok fr' O' F' σ' a' w' q hf' hd' hs' st
          | exit id => exact absurd q (by simp [Qof, QB])
          | goto l => exact q.elim
          | panic ch => exact q.elim
          | outgrown => exact q.elim
        · cases hc
      · cases hc
    · cases hc
  · cases hc

theorem enterA_rep {F : Fz} {σ : List Pl} : ∀ {n : Nat} {vs : List LV} {ys : List Value}, LRepL F σ vs ys → LRepL F σ (enterA n vs) (ys ++ List.replicate (n - ys.length) undef)
  | n, [], ys, h => by
    simp only [LRepL] at h; subst h
    simpa [enterA] using rep_und n
  | 0, v :: vs, ys, h => by
    obtain ⟨y, r, rfl, hv, hr⟩ := h
    refine ⟨y, _, rfl, hv, ?_⟩
    have := enterA_rep (n := 0) hr
    simpa using this
  | n + 1, v :: vs, ys, h => by
    obtain ⟨y, r, rfl, hv, hr⟩ := h
    refine ⟨y, _, rfl, hv, ?_⟩
    have := enterA_rep (n := n) hr
    rwa [show n - r.length = n + 1 - (y :: r).length from by simp only [List.length_cons]; omega] at this
theorem iot_get : ∀ {s n k : Nat}, k < n → (iot s n)[k]? = some (s + k)
  | s, 0, k, h => by omega
  | s, n + 1, 0, h => rfl
  | s, n + 1, k + 1, h => by
    simp only [iot, List.getElem?_cons_succ]
    rw [iot_get (by omega)]; congr 1; omega
theorem iot_length : ∀ {s n : Nat}, (iot s n).length = n
  | s, 0 => rfl
  | s, n + 1 => by simp [iot, iot_length]
theorem apL_eq : ∀ (a b : List Nat), apL a b = a ++ b
  | [], b => rfl
  | x :: a, b => by simp [apL, apL_eq a b]

/-- A function's contract from its code, objects lent to it. -/
theorem ACalls.enter (hm : P.follows .mixedOrders = true) {f : FuncId} {c : IrF} (hc : compF P G wr f = some c) {vs : List LV} {E : List Obj} {K : LV → List Obj → Prop} (h : aw P G c.code (finA G E.length c.rs K) [] (finA G E.length c.rs K) (enterA c.n vs) E) : ACalls P G f vs E K := by
  unfold compF at hc
  split at hc
  · rename_i fn hfn
    split at hc
    · rename_i body hb
      split at hc
      · rename_i ir hir
        split at hc
        · rename_i rs hrs
          obtain rfl := Option.some.inj hc
          intro F σ w vals hs ha
          refine calls_of_wp hfn hb ?_
          have hfr : LRepL F σ (enterA fn.ntmps vs) (vals ++ Array.replicate (fn.ntmps - vals.size) undef).toList := by
            rw [Array.toList_append, Array.toList_replicate]
            exact enterA_rep ha
          have := aw_sound hm hir h F σ { tmps := vals ++ Array.replicate (fn.ntmps - vals.size) undef, defers := [] } w hs hfr rfl
          refine wp_mono this ?_
          have fin_ok : ∀ (fr' : List LV) (O' : List Obj) (F' : Fz) (σ' : List Pl) (a' : Act) (w' : World), finA G E.length rs K fr' O' → LRepL F' σ' fr' a'.tmps.toList → a'.defers = [] → St G F' σ' O' w' → Step F σ w F' σ' w' →
              a'.defers = [] ∧ ∃ v, (results fn a'.tmps).run P w' = .ok v w' ∧ ∃ v1 r E' F'' σ'', Ending.returned v = .returned v1 ∧ K r E' ∧ LRep F'' σ'' r v1 ∧ St G F'' σ'' E' w' ∧ Step F σ w F'' σ'' w' := by
            intro fr0' O0' F0' σ0' a' w' hfin0 hf0' hd' hs0' st0'
            refine ⟨hd', ?_⟩
            obtain ⟨fr', O', hgh, hfin⟩ := hfin0
            obtain ⟨F', σ', hs', hf', g0⟩ := hgh F0' σ0' w' _ hs0' hf0'
            have st : Step F σ w F' σ' w' := Step.ghost st0' (by rw [← hs.len]; exact g0)
            obtain ⟨r, h1, h2, h3⟩ := compRs_sound hrs hfin
            obtain ⟨y, hy, hr⟩ := run_res hs' hf' h1 h2
            refine ⟨y, hy, y, ?_⟩
            obtain ⟨frz, keep, hl, hK⟩ := h3
            have hfz : ∃ F2, St G F2 σ' (frB frz (oneOrTup (resVs r)) O') w' ∧ Step F' σ' w' F2 σ' w' := by
              cases frz with
              | true => exact fz_sound 99 (oneOrTup (resVs r)) hs' ⟨y, hr⟩
              | false => exact ⟨F', hs', .refl _ _ _⟩
            obtain ⟨F2, hs2, st2⟩ := hfz
            have hr2 := hr.mono st2.le (σ' := σ') (fun _ _ h => h)
            refine ⟨_, _, F2, lendP [] σ' (apL (iot 0 E.length) keep), rfl, hK, un_rep hs2 (lend_same hl hs2) hr2, hs2.lend hl, ?_⟩
            have st3 := st.trans st2
            refine ⟨st3.le, st3.frame, st3.fnew, ?_, st3.size, st3.os, st3.tape, st3.output, ?_, ?_⟩
            · intro p hp b o hat
              obtain ⟨j, hj, rfl⟩ := lendP_mem hp
              rw [List.getD_eq_getElem?_getD] at hat
              cases hσ : σ'[j]? with
              | none => rw [hσ] at hat; cases hat
              | some q => rw [hσ] at hat; exact st3.pnew q (List.mem_of_getElem? hσ) b o hat
            · intro k p hp hpin
              have hk : k < E.length := by rw [hs.len]; exact (List.getElem?_eq_some_iff.1 hp).1
              have h5 := st3.pins k p hp hpin
              refine lendP_get.2 ⟨k, ?_, ?_⟩
              · rw [apL_eq, List.getElem?_append_left (by rw [iot_length]; exact hk), iot_get hk, Nat.zero_add]
              · rw [List.getD_eq_getElem?_getD, h5]; simp [asPin, hasB]
            · rw [lendP_length, apL_eq, List.length_append, iot_length, hs.len]; omega
          rintro e a' w' ⟨fr', O', F', σ', q, hf', hd', hs', st⟩
          cases e with
          | normal => exact fin_ok fr' O' F' σ' a' w' q hf' hd' hs' st
          | ret => exact fin_ok fr' O' F' σ' a' w' q hf' hd' hs' st
          | exit id => exact absurd q (by simp [Qof, QB])
          | goto l => exact q.elim
          | panic ch => exact q.elim
          | outgrown => exact q.elim
        · cases hc
      · cases hc
    · cases hc
  · cases hc
end
end Go.Av

namespace Go.Av
set_option linter.unusedVariables false
set_option linter.unusedSimpArgs false

mutual
/-- All slices in it have lengths that fit an int. -/
def smallV : V → Prop
  | .fsl _ es => es.length ≤ 9223372036854775807 ∧ smallR es
  | .agg cs => smallL cs
  | .fptr cs => smallL cs
  | .iface _ v => smallV v
  | .func _ cs => smallL cs
  | .tup cs => smallL cs
  | .int _ _ => True
  | .bool _ => True
  | .str _ => True
  | .x _ => True
  | .nils => True
def smallL : List V → Prop
  | [] => True
  | c :: cs => smallV c ∧ smallL cs
def smallR : List (List V) → Prop
  | [] => True
  | e :: es => smallL e ∧ smallR es
end
mutual
theorem rep_small {F : Fz} : ∀ {v : V} {y : Value}, Rep F v y → smallV v
  | .fsl s es, y, h => by
    obtain ⟨a, cap, hy, hc, hr⟩ := h
    refine ⟨by omega, ?_⟩
    rcases hr with rfl | ⟨b, o, arr, _, _, hr⟩
    · trivial
    · exact repR_small hr
  | .agg cs, y, h => by obtain ⟨ys, _, h⟩ := h; exact repL_small h
  | .fptr cs, y, h => by obtain ⟨b, o, arr, _, _, h⟩ := h; exact repC_small h
  | .iface t v, y, h => by obtain ⟨u, _, h⟩ := h; show smallV v; exact rep_small h
  | .func f cs, y, h => by obtain ⟨ys, _, h⟩ := h; exact repL_small h
  | .tup cs, y, h => by obtain ⟨ys, _, h⟩ := h; exact repL_small h
  | .int _ _, y, h => trivial
  | .bool _, y, h => trivial
  | .str _, y, h => trivial
  | .x _, y, h => trivial
  | .nils, y, h => trivial
theorem repL_small {F : Fz} : ∀ {vs : List V} {ys : List Value}, RepL F vs ys → smallL vs
  | [], ys, h => trivial
  | v :: vs, ys, h => by obtain ⟨y, r, _, h1, h2⟩ := h; exact ⟨rep_small h1, repL_small h2⟩
theorem repC_small {F : Fz} {arr : Array Value} : ∀ {vs : List V} {o : Nat}, RepC F arr vs o → smallL vs
  | [], o, h => trivial
  | v :: vs, o, h => by obtain ⟨⟨y, _, _, h1⟩, h2⟩ := h; exact ⟨rep_small h1, repC_small h2⟩
theorem repR_small {F : Fz} {s : Nat} {arr : Array Value} : ∀ {es : List (List V)} {o : Nat}, RepR F s arr es o → smallR es
  | [], o, h => trivial
  | e :: es, o, h => by obtain ⟨_, h1, h2⟩ := h; exact ⟨repC_small h1, repR_small h2⟩
end
theorem PCall.small {P : Program} {G : Gl} {f : FuncId} {vs : List V} {K : V → Prop} (h : smallL vs → PCall P G f vs K) : PCall P G f vs K := by
  intro F σ w vals hs ha
  have hσ : σ = [] := by have := hs.len; simp only [List.length_nil] at this; exact List.eq_nil_of_length_eq_zero this.symm
  subst hσ
  exact h (repL_small (g_args ha)) F [] w vals hs ha
theorem smallR_mem : ∀ {es : List (List V)}, smallR es → ∀ e ∈ es, smallL e
  | [], _, e, h => by simp at h
  | d :: es, ⟨h1, h2⟩, e, h => by
    rcases List.mem_cons.1 h with rfl | h
    · exact h1
    · exact smallR_mem h2 e h
end Go.Av

namespace Go.Av
set_option linter.unusedVariables false
set_option linter.unusedSimpArgs false

theorem in64 {n : Int} (h1 : -9223372036854775808 ≤ n) (h2 : n ≤ 9223372036854775807) : inR .i64 n := ⟨h1, h2⟩

section
variable {P : Program} {G : Gl} {f : FuncId} {xs : List LV} {dst : Option Nat} {N : Next'} {fr : List LV} {O : List Obj}

/-- A call with objects lent. -/
theorem cx (fs js ps : List Nat) {K : LV → List Obj → Prop} (hl : okL (fzL 99 (pick fs xs) O) js = true) (hc : ACalls P G f (unL js (fzL 99 (pick fs xs) O) xs) (lendO js ps (fzL 99 (pick fs xs) O) js) K)
    (hN : ∀ r E', K r E' → N (pt (killF (turns (fzL 99 (pick fs xs) O) ps js) fr) dst (ren js (fzL 99 (pick fs xs) O).length r)) (backL js (turns (fzL 99 (pick fs xs) O) ps js) (fzL 99 (pick fs xs) O) E')) : doCallx P G f xs dst N fr O :=
  ⟨fs, js, ps, K, hl, hc, hN⟩
/-- A call with frozen arguments, its result frozen. -/
theorem cp (fs : List Nat) {vs : List V} {K : V → Prop} (hc : PCall P G f vs K) (hv : unL [] (fzL 99 (pick fs xs) O) xs = vs.map .g)
    (hN : ∀ u, K u → N (pt fr dst (.g u)) (fzL 99 (pick fs xs) O)) : doCallx P G f xs dst N fr O := by
  refine ⟨fs, [], [], _, rfl, (by rw [hv]; exact hc), ?_⟩
  rintro r E' ⟨rfl, u, rfl, hK⟩
  have := hN u hK
  simpa [backL, setAll, killFO, renLO, dr, turns, killF, ren] using this
theorem cpe (fs : List Nat) {vs : List V} {u : V} (hc : PCall P G f vs (· = u)) (hv : unL [] (fzL 99 (pick fs xs) O) xs = vs.map .g)
    (hN : N (pt fr dst (.g u)) (fzL 99 (pick fs xs) O)) : doCallx P G f xs dst N fr O :=
  cp fs hc hv fun _ e => e ▸ hN
/-- In any order: a call with frozen arguments. -/
theorem cd {vs : List V} {u : V} (hc : PCall P G f vs (· = u)) (hv : unL [] O xs = vs.map .g) (hN : N (pt fr dst (.g u)) O) : doCall P G f xs dst N fr O := by
  have hsol : solL (vs.map LV.g) = true := by
    clear hv hc
    induction vs with
    | nil => rfl
    | cons v vs ih => simpa [solL, sol] using ih
  refine ⟨[], u, rfl, rfl, by rw [hv]; exact hsol, ?_, hN⟩
  rw [hv]
  exact ACalls.mono hc fun r E ⟨h1, v, h2, h3⟩ => ⟨by rw [h2, h3], h1⟩
theorem br {b : Bool} {A B : Ir} {Bs : List Next'} {R : Next'} (h1 : b = true → aw P G A N Bs R fr O) (h2 : b = false → aw P G B N Bs R fr O) : cdB P G b A B N Bs R fr O := by
  cases b
  · exact h2 rfl
  · exact h1 rfl
theorem gb {want b : Bool} {k : K} (h1 : b = true → gdB P G want true k dst N fr O) (h2 : b = false → gdB P G want false k dst N fr O) : gdB P G want b k dst N fr O := by
  cases b
  · exact h2 rfl
  · exact h1 rfl
theorem fin0 {rs : List Rs} {K : V → Prop} (h : rsP fr O (fun l => dn (tv (fz 99 (oneOrTup l) O) (oneOrTup l)) K) rs) : fin G rs K fr O := ⟨fr, O, Gh.refl, h⟩
theorem finA0 {n : Nat} {rs : List Rs} {K : LV → List Obj → Prop} (h : rsP fr O (fun l => ∃ (frz : Bool) (keep : List Nat), okL (frB frz (oneOrTup l) O) (apL (iot 0 n) keep) = true ∧
    K (un (apL (iot 0 n) keep) (frB frz (oneOrTup l) O) (oneOrTup l)) (lendO (apL (iot 0 n) keep) [] (frB frz (oneOrTup l) O) (apL (iot 0 n) keep))) rs) : finA G n rs K fr O := ⟨fr, O, Gh.refl, h⟩
end
/-- What a round must come to. -/
def RoundEnd {S : Type} (G : Gl) (n : Nat) (keep : List Nat) (vars : S → List (Nat × LV)) (o : S → List Obj) (J : S → Prop) (μ : S → Nat) (m : Nat) (fr : List LV) (fr' : List LV) (O' : List Obj) : Prop :=
  ∃ s' f1 O1, Gh G n fr' O' f1 O1 ∧ f1.length = fr.length ∧ keepEq keep fr f1 ∧ eqs (vars s') f1 ∧ O1 = o s' ∧ J s' ∧ μ s' < m
/-- A loop, by states. -/
theorem lp {P : Program} {G : Gl} {N : Next'} {R : Next'} {fr : List LV} {O : List Obj} {S : Type} {a : Ir} {B : List Next'} (keep : List Nat) (vars : S → List (Nat × LV)) (o : S → List Obj) (J : S → Prop) (μ : S → Nat) (s0 : S) (he : eqs (vars s0) fr) (ho : O = o s0) (h0 : J s0)
    (round : ∀ s, J s → aw P G a (RoundEnd G O.length keep vars o J μ (μ s) fr) B R (frm keep (vars s) fr) (o s)) : aw P G (.loop a) N B R fr O :=
  aw_lp keep vars o J μ s0 Gh.refl he ho h0 round
/-- A loop, by states, what stands before it seen otherwise. -/
theorem lpg {P : Program} {G : Gl} {N : Next'} {R : Next'} {fr : List LV} {O : List Obj} {S : Type} {a : Ir} {B : List Next'} {f0 : List LV} {O0 : List Obj} (keep : List Nat) (vars : S → List (Nat × LV)) (o : S → List Obj) (J : S → Prop) (μ : S → Nat) (s0 : S) (hg : Gh G O.length fr O f0 O0) (he : eqs (vars s0) f0) (ho : O0 = o s0) (h0 : J s0)
    (round : ∀ s, J s → aw P G a (RoundEnd G O.length keep vars o J μ (μ s) f0) B R (frm keep (vars s) f0) (o s)) : aw P G (.loop a) N B R fr O :=
  aw_lp keep vars o J μ s0 hg he ho h0 round
/-- The end of a round. -/
theorem rnd {G : Gl} {n : Nat} {fr fr' : List LV} {O : List Obj} {S : Type} {keep : List Nat} {vars : S → List (Nat × LV)} {o : S → List Obj} {J : S → Prop} {μ : S → Nat} {m : Nat} (s' : S) (hl : fr'.length = fr.length) (hk : keepEq keep fr fr') (he : eqs (vars s') fr') (ho : O = o s') (hJ : J s') (hm : μ s' < m) :
    RoundEnd G n keep vars o J μ m fr fr' O :=
  ⟨s', fr', O, Gh.refl, hl, hk, he, ho, hJ, hm⟩
theorem rndg {G : Gl} {n : Nat} {fr fr' f1 : List LV} {O O1 : List Obj} {S : Type} {keep : List Nat} {vars : S → List (Nat × LV)} {o : S → List Obj} {J : S → Prop} {μ : S → Nat} {m : Nat} (s' : S) (hg : Gh G n fr' O f1 O1) (hl : f1.length = fr.length) (hk : keepEq keep fr f1) (he : eqs (vars s') f1) (ho : O1 = o s') (hJ : J s') (hm : μ s' < m) :
    RoundEnd G n keep vars o J μ m fr fr' O :=
  ⟨s', f1, O1, hg, hl, hk, he, ho, hJ, hm⟩
theorem getD_at {α : Type} (enc : α → List V) (xs : List α) {i : Nat} (h : i < xs.length) : (xs.map enc).getD i [] = enc xs[i] := by
  rw [List.getD_eq_getElem?_getD, List.getElem?_map, List.getElem?_eq_getElem h]; rfl
def wr64 : IntKind → Bool
  | .i64 => false
  | _ => true
def wrA : IntKind → Bool := fun _ => true
theorem getD0 {α : Type} (a d : α) (l : List α) : (a :: l).getD 0 d = a := rfl
theorem getD1 {α : Type} (a b d : α) (l : List α) : (a :: b :: l).getD 1 d = b := rfl
theorem getD2 {α : Type} (a b c d : α) (l : List α) : (a :: b :: c :: l).getD 2 d = c := rfl
theorem getD3 {α : Type} (a b c e d : α) (l : List α) : (a :: b :: c :: e :: l).getD 3 d = e := rfl
theorem dTF : decide (true = false) = false := rfl
theorem dFT : decide (false = true) = false := rfl
theorem dTT : decide (true = true) = true := rfl
theorem dFF : decide (false = false) = true := rfl
theorem sS : (∀ {α β : Type} (f : α → β) (l : List α), (l.map f).length = l.length) ∧ (∀ {α : Type} (a b : List α), (a ++ b).length = a.length + b.length) ∧ (∀ {α : Type} (n : Nat) (l : List α), (l.take n).length = min n l.length) ∧ (∀ {α : Type} (n : Nat) (l : List α), (l.drop n).length = l.length - n) ∧
    (∀ {α : Type} (n : Nat) (a : α), (List.replicate n a).length = n) ∧ (∀ {α : Type} (a : α) (l : List α), (a :: l).length = l.length + 1) ∧ (∀ {α : Type}, ([] : List α).length = 0) ∧ (∀ n : Nat, (n : Int).toNat = n) ∧ (∀ a : Int, ¬ a < a) ∧
    (∀ h : Decidable True, @decide True h = true) ∧ (∀ h : Decidable False, @decide False h = false) ∧ (!true) = false ∧ (!false) = true ∧ decide (true = false) = false ∧ decide (false = true) = false ∧ decide (true = true) = true ∧ decide (false = false) = true :=
  ⟨fun f l => List.length_map f, fun _ _ => List.length_append, fun _ _ => List.length_take, fun _ _ => List.length_drop, fun _ _ => List.length_replicate, fun _ _ => rfl, rfl, fun _ => rfl, fun a => Int.lt_irrefl a, fun h => decide_true h, fun h => decide_false h, rfl, rfl, rfl, rfl, rfl, rfl⟩
attribute [go_sem] getD0 getD1 getD2 getD3 bytesV okD okL liveAt aw_skip aw_reg aw_seq aw_cond aw_block aw_exit aw_ret cdB_t cdB_f cdK inss ins ex doQ doE pt q ev evL pick get st og os dr tk lg hd gx gdK gdB_tt gdB_tf gdB_ft gdB_ff und tv tvL rsP dn oneOrTup fz fzL fzk enterF enterA rep binV intB strB beqV notV negV tru pickV pickB convV isnilV nilV mkifV okTup tasV extV ldC ldL ldO ldE loadV faV fldV rowLen rowS iaV iarrV idxV istrV slenV lenV oneV oneL allOneV allOne cellsV fillL buildV nilckV bd sslcV slcV allocE boxE closed storeE srcV appE killL kill killO List.map List.nil_append List.cons_append List.length lkpV mlenV entV mkmapE mupdE mrangeE bslEx bslVx evPs setE repE iot apL frB fnOf frm frmGo frmGo.slotv hasB pos nth un unL ren renL killF killS killSL killFO killSO lendO unO turns backL setAll upd backO renO renLO aggN tupN funN ifN eqs keepEq mksE bslE bslV s2bE b2sV empE maxV bytesV
end Go.Av
