/-
  Values at a distance from memory, states of a call, and contracts of functions over them. No condition.
-/
import Derived.Test.YtfpdolhfomfgpaaQ07
namespace Go.Av
set_option maxRecDepth 100000
set_option maxHeartbeats 4000000
set_option linter.unusedVariables false
set_option linter.unusedSimpArgs false

theorem ent55 : enters prog 55 = true := by kernel_rfl
def fb : List Nd → Nat → Int
  | [], _ => -1
  | n :: ns, i => if goodN n = true then fb ns (i + 1) else i
theorem fb_at : ∀ (ns : List Nd) (j i : Nat), (∀ n ∈ ns.take i, goodN n = true) → (h : i < ns.length) → goodN ns[i] = false → fb ns j = (j + i : Nat)
  | n :: ns, j, 0, _, h, hb => by simp at hb; simp [fb, hb]
  | n :: ns, j, i + 1, ha, h, hb => by
    have h0 := ha n (by simp)
    rw [fb, if_pos h0, fb_at ns (j + 1) i (fun m hm => ha m (by simp [hm])) (by simpa using h) (by simpa using hb)]
    congr 1; omega
theorem fb_none : ∀ (ns : List Nd) (j : Nat), (∀ n ∈ ns, goodN n = true) → fb ns j = -1
  | [], j, _ => rfl
  | n :: ns, j, h => by rw [fb, if_pos (h n (by simp))]; exact fb_none ns (j + 1) fun m hm => h m (by simp [hm])
theorem fb_ge (ns : List Nd) : ∀ j, decide (0 ≤ fb ns j) = !(ns.all goodN) := by
  induction ns with
  | nil => intro j; rfl
  | cons n ns ih =>
    intro j
    cases h : goodN n with
    | true => rw [fb, if_pos h, ih]; simp [h]
    | false => simp [fb, h]
theorem c71 (ns : List Nd) : PCall prog [] 71 [nds ns, .func (.func 55) []] (· = .int .i64 (fb ns 0)) := by
  refine PCall.small fun hsm => PCall.enter mixed comp71 ?_
  have hx : ns.length ≤ 9223372036854775807 := by simpa [nds] using hsm.1.1
  dsimp only [ir71]
  (repeat (first | with_reducible refine And.intro trivial ?_ | with_reducible refine And.intro rfl ?_ | (with_reducible refine And.intro ?_ ?_; focus ((repeat' (first | with_reducible exact trivial | with_reducible exact rfl | (with_reducible apply And.intro) | exact in64 (by omega) (by omega) | omega)); done)) | dsimp only [go_sem, Nat.reduceAdd, Nat.reduceSub, Option.map, bne, BEq.beq, nds, fcs, strs, doCallvx, doCallv, doSnil, snilV, ngB] | simp only [sS, Int.cast_ofNat_Int, Int.reduceEq, Int.reduceLT, Int.reduceLE, Int.reduceAdd, Int.reduceSub, Int.reduceToNat]))
  refine lp [0, 1, 7] (fun i : Nat => [(8, .g (.int .i64 i))]) (fun _ => []) (fun i => i ≤ ns.length ∧ ∀ n ∈ ns.take i, goodN n = true) (fun i => ns.length - i) 0 ⟨rfl, trivial⟩ rfl ⟨by omega, by simp⟩ ?_
  rintro i ⟨hi, hg⟩
  (repeat (first | with_reducible refine And.intro trivial ?_ | with_reducible refine And.intro rfl ?_ | (with_reducible refine And.intro ?_ ?_; focus ((repeat' (first | with_reducible exact trivial | with_reducible exact rfl | (with_reducible apply And.intro) | exact in64 (by omega) (by omega) | omega)); done)) | dsimp only [go_sem, Nat.reduceAdd, Nat.reduceSub, Option.map, bne, BEq.beq, nds, fcs, strs, doCallvx, doCallv, doSnil, snilV, ngB] | simp only [sS, Int.cast_ofNat_Int, Int.reduceEq, Int.reduceLT, Int.reduceLE, Int.reduceAdd, Int.reduceSub, Int.reduceToNat]))
  refine br (fun h1 => ?_) (fun h1 => ?_)
  · simp only [decide_eq_true_eq] at h1
    have hlt : i < ns.length := by omega
    have e1 := getD_at ndC ns hlt
    (repeat (first | with_reducible refine And.intro trivial ?_ | with_reducible refine And.intro rfl ?_ | (with_reducible refine And.intro ?_ ?_; focus ((repeat' (first | with_reducible exact trivial | with_reducible exact rfl | (with_reducible apply And.intro) | exact in64 (by omega) (by omega) | omega)); done)) | dsimp only [go_sem, Nat.reduceAdd, Nat.reduceSub, Option.map, bne, BEq.beq, nds, fcs, strs, doCallvx, doCallv, doSnil, snilV, ngB] | simp only [sS, Int.cast_ofNat_Int, Int.reduceEq, Int.reduceLT, Int.reduceLE, Int.reduceAdd, Int.reduceSub, Int.reduceToNat]))
    simp only [e1, ndC]
    (repeat (first | with_reducible refine And.intro trivial ?_ | with_reducible refine And.intro rfl ?_ | (with_reducible refine And.intro ?_ ?_; focus ((repeat' (first | with_reducible exact trivial | with_reducible exact rfl | (with_reducible apply And.intro) | exact in64 (by omega) (by omega) | omega)); done)) | dsimp only [go_sem, Nat.reduceAdd, Nat.reduceSub, Option.map, bne, BEq.beq, nds, fcs, strs, doCallvx, doCallv, doSnil, snilV, ngB] | simp only [sS, Int.cast_ofNat_Int, Int.reduceEq, Int.reduceLT, Int.reduceLE, Int.reduceAdd, Int.reduceSub, Int.reduceToNat]))
    refine cpe [] (c55 ns[i]) rfl ?_
    (repeat (first | with_reducible refine And.intro trivial ?_ | with_reducible refine And.intro rfl ?_ | (with_reducible refine And.intro ?_ ?_; focus ((repeat' (first | with_reducible exact trivial | with_reducible exact rfl | (with_reducible apply And.intro) | exact in64 (by omega) (by omega) | omega)); done)) | dsimp only [go_sem, Nat.reduceAdd, Nat.reduceSub, Option.map, bne, BEq.beq, nds, fcs, strs, doCallvx, doCallv, doSnil, snilV, ngB] | simp only [sS, Int.cast_ofNat_Int, Int.reduceEq, Int.reduceLT, Int.reduceLE, Int.reduceAdd, Int.reduceSub, Int.reduceToNat]))
    refine br (fun h2 => ?_) (fun h2 => ?_)
    · (repeat (first | with_reducible refine And.intro trivial ?_ | with_reducible refine And.intro rfl ?_ | (with_reducible refine And.intro ?_ ?_; focus ((repeat' (first | with_reducible exact trivial | with_reducible exact rfl | (with_reducible apply And.intro) | exact in64 (by omega) (by omega) | omega)); done)) | dsimp only [go_sem, Nat.reduceAdd, Nat.reduceSub, Option.map, bne, BEq.beq, nds, fcs, strs, doCallvx, doCallv, doSnil, snilV, ngB] | simp only [sS, Int.cast_ofNat_Int, Int.reduceEq, Int.reduceLT, Int.reduceLE, Int.reduceAdd, Int.reduceSub, Int.reduceToNat]))
      refine fin0 ?_; (repeat (first | with_reducible refine And.intro trivial ?_ | with_reducible refine And.intro rfl ?_ | (with_reducible refine And.intro ?_ ?_; focus ((repeat' (first | with_reducible exact trivial | with_reducible exact rfl | (with_reducible apply And.intro) | exact in64 (by omega) (by omega) | omega)); done)) | dsimp only [go_sem, Nat.reduceAdd, Nat.reduceSub, Option.map, bne, BEq.beq, nds, fcs, strs, doCallvx, doCallv, doSnil, snilV, ngB] | simp only [sS, Int.cast_ofNat_Int, Int.reduceEq, Int.reduceLT, Int.reduceLE, Int.reduceAdd, Int.reduceSub, Int.reduceToNat]))
      have hb : goodN ns[i] = false := by simpa using h2
      rw [fb_at ns 0 i hg hlt hb, Nat.zero_add]
    · have hb : goodN ns[i] = true := by simpa using h2
      (repeat (first | with_reducible refine And.intro trivial ?_ | with_reducible refine And.intro rfl ?_ | (with_reducible refine And.intro ?_ ?_; focus ((repeat' (first | with_reducible exact trivial | with_reducible exact rfl | (with_reducible apply And.intro) | exact in64 (by omega) (by omega) | omega)); done)) | dsimp only [go_sem, Nat.reduceAdd, Nat.reduceSub, Option.map, bne, BEq.beq, nds, fcs, strs, doCallvx, doCallv, doSnil, snilV, ngB] | simp only [sS, Int.cast_ofNat_Int, Int.reduceEq, Int.reduceLT, Int.reduceLE, Int.reduceAdd, Int.reduceSub, Int.reduceToNat]))
      refine rnd (i + 1) rfl ⟨rfl, rfl, rfl, trivial⟩ ⟨rfl, trivial⟩ rfl ⟨by omega, ?_⟩ (by omega)
      intro n hn
      rw [List.take_succ_eq_append_getElem hlt] at hn
      rcases List.mem_append.1 hn with hn | hn
      · exact hg n hn
      · simp at hn; subst hn; exact hb
  · simp only [decide_eq_false_iff_not] at h1
    obtain rfl : i = ns.length := by omega
    rw [List.take_length] at hg
    (repeat (first | with_reducible refine And.intro trivial ?_ | with_reducible refine And.intro rfl ?_ | (with_reducible refine And.intro ?_ ?_; focus ((repeat' (first | with_reducible exact trivial | with_reducible exact rfl | (with_reducible apply And.intro) | exact in64 (by omega) (by omega) | omega)); done)) | dsimp only [go_sem, Nat.reduceAdd, Nat.reduceSub, Option.map, bne, BEq.beq, nds, fcs, strs, doCallvx, doCallv, doSnil, snilV, ngB] | simp only [sS, Int.cast_ofNat_Int, Int.reduceEq, Int.reduceLT, Int.reduceLE, Int.reduceAdd, Int.reduceSub, Int.reduceToNat]))
    refine fin0 ?_; (repeat (first | with_reducible refine And.intro trivial ?_ | with_reducible refine And.intro rfl ?_ | (with_reducible refine And.intro ?_ ?_; focus ((repeat' (first | with_reducible exact trivial | with_reducible exact rfl | (with_reducible apply And.intro) | exact in64 (by omega) (by omega) | omega)); done)) | dsimp only [go_sem, Nat.reduceAdd, Nat.reduceSub, Option.map, bne, BEq.beq, nds, fcs, strs, doCallvx, doCallv, doSnil, snilV, ngB] | simp only [sS, Int.cast_ofNat_Int, Int.reduceEq, Int.reduceLT, Int.reduceLE, Int.reduceAdd, Int.reduceSub, Int.reduceToNat]))
    rw [fb_none ns 0 hg]
theorem c54 (ns : List Nd) : PCall prog [] 54 [nds ns, .func (.func 55) []] (· = .bool (!(ns.all goodN))) := by
  refine PCall.enter mixed comp54 ?_
  dsimp only [ir54]
  (repeat (first | with_reducible refine And.intro trivial ?_ | with_reducible refine And.intro rfl ?_ | (with_reducible refine And.intro ?_ ?_; focus ((repeat' (first | with_reducible exact trivial | with_reducible exact rfl | (with_reducible apply And.intro) | exact in64 (by omega) (by omega) | omega)); done)) | dsimp only [go_sem, Nat.reduceAdd, Nat.reduceSub, Option.map, bne, BEq.beq, nds, fcs, strs, doCallvx, doCallv, doSnil, snilV, ngB] | simp only [sS, Int.cast_ofNat_Int, Int.reduceEq, Int.reduceLT, Int.reduceLE, Int.reduceAdd, Int.reduceSub, Int.reduceToNat]))
  refine cpe [] (c71 ns) rfl ?_
  (repeat (first | with_reducible refine And.intro trivial ?_ | with_reducible refine And.intro rfl ?_ | (with_reducible refine And.intro ?_ ?_; focus ((repeat' (first | with_reducible exact trivial | with_reducible exact rfl | (with_reducible apply And.intro) | exact in64 (by omega) (by omega) | omega)); done)) | dsimp only [go_sem, Nat.reduceAdd, Nat.reduceSub, Option.map, bne, BEq.beq, nds, fcs, strs, doCallvx, doCallv, doSnil, snilV, ngB] | simp only [sS, Int.cast_ofNat_Int, Int.reduceEq, Int.reduceLT, Int.reduceLE, Int.reduceAdd, Int.reduceSub, Int.reduceToNat]))
  refine fin0 ?_; (repeat (first | with_reducible refine And.intro trivial ?_ | with_reducible refine And.intro rfl ?_ | (with_reducible refine And.intro ?_ ?_; focus ((repeat' (first | with_reducible exact trivial | with_reducible exact rfl | (with_reducible apply And.intro) | exact in64 (by omega) (by omega) | omega)); done)) | dsimp only [go_sem, Nat.reduceAdd, Nat.reduceSub, Option.map, bne, BEq.beq, nds, fcs, strs, doCallvx, doCallv, doSnil, snilV, ngB] | simp only [sS, Int.cast_ofNat_Int, Int.reduceEq, Int.reduceLT, Int.reduceLE, Int.reduceAdd, Int.reduceSub, Int.reduceToNat]))
  rw [fb_ge]

theorem c74 (es : List (List V)) (lo hi : Nat) (h1 : lo ≤ hi) (h2 : hi ≤ es.length) (hl : es.length ≤ 1000) : ACalls prog [] 74 [.lsl 0 lo hi] [.row true 1 es] (fun r E => r = .g (.fsl 1 ((es.take hi).drop lo)) ∧ E = [.row true 1 es]) := by
  refine ACalls.enter mixed comp74 ?_
  dsimp only [ir74]
  (repeat (first | with_reducible refine And.intro trivial ?_ | with_reducible refine And.intro rfl ?_ | (with_reducible refine And.intro ?_ ?_; focus ((repeat' (first | with_reducible exact trivial | with_reducible exact rfl | (with_reducible apply And.intro) | exact in64 (by omega) (by omega) | omega)); done)) | dsimp only [go_sem, Nat.reduceAdd, Nat.reduceSub, Option.map, bne, BEq.beq, nds, fcs, strs, doCallvx, doCallv, doSnil, snilV, ngB] | simp only [sS, Int.cast_ofNat_Int, Int.reduceEq, Int.reduceLT, Int.reduceLE, Int.reduceAdd, Int.reduceSub, Int.reduceToNat]))
  refine ⟨fun hp => ?_, fun _ => ?_⟩
  · (repeat (first | with_reducible refine And.intro trivial ?_ | with_reducible refine And.intro rfl ?_ | (with_reducible refine And.intro ?_ ?_; focus ((repeat' (first | with_reducible exact trivial | with_reducible exact rfl | (with_reducible apply And.intro) | exact in64 (by omega) (by omega) | omega)); done)) | dsimp only [go_sem, Nat.reduceAdd, Nat.reduceSub, Option.map, bne, BEq.beq, nds, fcs, strs, doCallvx, doCallv, doSnil, snilV, ngB] | simp only [sS, Int.cast_ofNat_Int, Int.reduceEq, Int.reduceLT, Int.reduceLE, Int.reduceAdd, Int.reduceSub, Int.reduceToNat]))
    refine ⟨_, _, Gh.nils 2 1 rfl, ?_⟩
    (repeat (first | with_reducible refine And.intro trivial ?_ | with_reducible refine And.intro rfl ?_ | (with_reducible refine And.intro ?_ ?_; focus ((repeat' (first | with_reducible exact trivial | with_reducible exact rfl | (with_reducible apply And.intro) | exact in64 (by omega) (by omega) | omega)); done)) | dsimp only [go_sem, Nat.reduceAdd, Nat.reduceSub, Option.map, bne, BEq.beq, nds, fcs, strs, doCallvx, doCallv, doSnil, snilV, ngB] | simp only [sS, Int.cast_ofNat_Int, Int.reduceEq, Int.reduceLT, Int.reduceLE, Int.reduceAdd, Int.reduceSub, Int.reduceToNat]))
    refine ⟨false, [], rfl, ?_⟩
    (repeat (first | with_reducible refine And.intro trivial ?_ | with_reducible refine And.intro rfl ?_ | (with_reducible refine And.intro ?_ ?_; focus ((repeat' (first | with_reducible exact trivial | with_reducible exact rfl | (with_reducible apply And.intro) | exact in64 (by omega) (by omega) | omega)); done)) | dsimp only [go_sem, Nat.reduceAdd, Nat.reduceSub, Option.map, bne, BEq.beq, nds, fcs, strs, doCallvx, doCallv, doSnil, snilV, ngB] | simp only [sS, Int.cast_ofNat_Int, Int.reduceEq, Int.reduceLT, Int.reduceLE, Int.reduceAdd, Int.reduceSub, Int.reduceToNat]))
    subst hp
    simp
  · have hl1 : ((es.take hi).drop lo).length ≤ 1000 := by simp; omega
    simp only [List.length_drop, List.length_take] at hl1
    (repeat (first | with_reducible refine And.intro trivial ?_ | with_reducible refine And.intro rfl ?_ | (with_reducible refine And.intro ?_ ?_; focus ((repeat' (first | with_reducible exact trivial | with_reducible exact rfl | (with_reducible apply And.intro) | exact in64 (by omega) (by omega) | omega)); done)) | dsimp only [go_sem, Nat.reduceAdd, Nat.reduceSub, Option.map, bne, BEq.beq, nds, fcs, strs, doCallvx, doCallv, doSnil, snilV, ngB] | simp only [sS, Int.cast_ofNat_Int, Int.reduceEq, Int.reduceLT, Int.reduceLE, Int.reduceAdd, Int.reduceSub, Int.reduceToNat]))
    refine finA0 ?_; (repeat (first | with_reducible refine And.intro trivial ?_ | with_reducible refine And.intro rfl ?_ | (with_reducible refine And.intro ?_ ?_; focus ((repeat' (first | with_reducible exact trivial | with_reducible exact rfl | (with_reducible apply And.intro) | exact in64 (by omega) (by omega) | omega)); done)) | dsimp only [go_sem, Nat.reduceAdd, Nat.reduceSub, Option.map, bne, BEq.beq, nds, fcs, strs, doCallvx, doCallv, doSnil, snilV, ngB] | simp only [sS, Int.cast_ofNat_Int, Int.reduceEq, Int.reduceLT, Int.reduceLE, Int.reduceAdd, Int.reduceSub, Int.reduceToNat]))
    refine ⟨true, [], rfl, ?_⟩
    (repeat (first | with_reducible refine And.intro trivial ?_ | with_reducible refine And.intro rfl ?_ | (with_reducible refine And.intro ?_ ?_; focus ((repeat' (first | with_reducible exact trivial | with_reducible exact rfl | (with_reducible apply And.intro) | exact in64 (by omega) (by omega) | omega)); done)) | dsimp only [go_sem, Nat.reduceAdd, Nat.reduceSub, Option.map, bne, BEq.beq, nds, fcs, strs, doCallvx, doCallv, doSnil, snilV, ngB] | simp only [sS, Int.cast_ofNat_Int, Int.reduceEq, Int.reduceLT, Int.reduceLE, Int.reduceAdd, Int.reduceSub, Int.reduceToNat]))
    try trivial
end Go.Av

namespace Go.Av
set_option maxRecDepth 100000
set_option maxHeartbeats 8000000
set_option linter.unusedVariables false
set_option linter.unusedSimpArgs false

/-- A step's cells; off: where its nodes begin. -/
def stepC : Nat → T → List V
  | off, .lf n => [.int .i64 n.k, .str n.s, .str n.t, .fsl 1 [], .int .i64 off, .int .i64 1]
  | off, .un n a => [.int .i64 n.k, .str n.s, .str n.t, .fsl 1 [[.fptr (stepC off a)]], .int .i64 (off + a.post.length : Nat), .int .i64 (a.ht + 1 : Nat)]
  | off, .bn n a b => [.int .i64 n.k, .str n.s, .str n.t, .fsl 1 [[.fptr (stepC off a)], [.fptr (stepC (off + a.post.length) b)]], .int .i64 (off + a.post.length + b.post.length : Nat), .int .i64 (max a.ht b.ht + 1 : Nat)]
def encS : Nat → List T → List (List V)
  | _, [] => []
  | off, t :: ts => [.fptr (stepC off t)] :: encS (off + t.post.length) ts
def szs (ts : List T) : Nat := (ts.flatMap T.post).length
theorem szs_cons (t : T) (ts : List T) : szs (t :: ts) = t.post.length + szs ts := by simp [szs]
theorem szs_append (a b : List T) : szs (a ++ b) = szs a + szs b := by simp [szs]
theorem encS_append : ∀ (a b : List T) (off : Nat), encS off (a ++ b) = encS off a ++ encS (off + szs a) b
  | [], b, off => by simp [encS, szs]
  | t :: a, b, off => by
    simp only [List.cons_append, encS]
    rw [encS_append a b, szs_cons, Nat.add_assoc]
theorem encS_length : ∀ (a : List T) (off : Nat), (encS off a).length = a.length
  | [], off => rfl
  | t :: a, off => by simp [encS, encS_length a]
def mkT (n : Nd) : List T → T
  | [] => .lf n
  | [a] => .un n a
  | a :: b :: _ => .bn n a b
theorem ari_le (k : Int) : ari k ≤ 2 := by unfold ari; (repeat' split) <;> omega
theorem mkT_kids (n : Nd) (ks : List T) (h : ks.length ≤ 2) : (mkT n ks).kids = ks := by
  match ks, h with
  | [], _ => rfl
  | [a], _ => rfl
  | [a, b], _ => rfl
theorem mkT_size (n : Nd) (ks : List T) (h : ks.length ≤ 2) : (mkT n ks).post.length = szs ks + 1 := by
  match ks, h with
  | [], _ => rfl
  | [a], _ => simp [mkT, T.post, szs]
  | [a, b], _ => simp [mkT, T.post, szs]; omega
theorem stepC_mk (off : Nat) (n : Nd) (ks : List T) (h : ks.length ≤ 2) : stepC off (mkT n ks) = [.int .i64 n.k, .str n.s, .str n.t, .fsl 1 (encS off ks), .int .i64 (off + szs ks : Nat), .int .i64 (mkT n ks).ht] := by
  match ks, h with
  | [], _ => simp [mkT, stepC, encS, szs, T.ht]
  | [a], _ => simp [mkT, stepC, encS, szs, T.ht]
  | [a, b], _ => simp [mkT, stepC, encS, szs, T.ht]; omega
theorem stk_mk (n : Nd) (pre ks : List T) (ns : List Nd) (h : ks.length = ari n.k) : stk (pre ++ ks).reverse (n :: ns) = stk (pre ++ [mkT n ks]).reverse ns := by
  have hle := ari_le n.k
  match ks, h with
  | [], h => simp [stk, ← h, mkT]
  | [a], h => simp [stk, ← h, mkT]
  | [a, b], h => simp [stk, ← h, mkT]
  | a :: b :: c :: r, h => simp at h; omega
theorem stk_short (n : Nd) (ts : List T) (ns : List Nd) (h : ts.length < ari n.k) : stk ts.reverse (n :: ns) = none := by
  have hle := ari_le n.k
  have hr : ts.reverse.length = ts.length := by simp
  simp only [stk]
  split
  · rename_i h0; omega
  · rename_i a st1 h0 h1; rw [h1] at hr; simp at hr; omega
  · rename_i b a st1 h0 h1; rw [h1] at hr; simp at hr; omega
  · rfl
def stepV : Option T → V
  | some t => .fptr (stepC 0 t)
  | none => .x (.pointer none)
def mx' (ts : List T) : Nat := ts.foldl (fun m k => max m k.ht) 0
theorem ht_kids (n : Nd) (ks : List T) (h : ks.length ≤ 2) : (mkT n ks).ht = mx' ks + 1 := by
  match ks, h with
  | [], _ => rfl
  | [a], _ => simp [mkT, T.ht, mx']
  | [a, b], _ => simp [mkT, T.ht, mx']
theorem mx'_take (ts : List T) {i : Nat} (h : i < ts.length) : mx' (ts.take (i + 1)) = max (mx' (ts.take i)) ts[i].ht := by
  rw [mx', List.take_succ_eq_append_getElem h, List.foldl_append]; rfl
theorem T.ht_le' : ∀ (t : T), t.ht ≤ t.post.length
  | .lf n => by simp [T.ht, T.post]
  | .un n a => by have := a.ht_le'; simp [T.ht, T.post]; omega
  | .bn n a b => by have := a.ht_le'; have := b.ht_le'; simp [T.ht, T.post]; omega
theorem szs_mem {ts : List T} {t : T} (h : t ∈ ts) : t.post.length ≤ szs ts := by
  induction ts with
  | nil => simp at h
  | cons a ts ih =>
    rw [szs_cons]
    rcases List.mem_cons.1 h with rfl | h
    · omega
    · have := ih h; omega
theorem mx'_le (ts : List T) (n : Nat) (h : ∀ t ∈ ts, t.ht ≤ n) : mx' ts ≤ n := by
  have key : ∀ (ts : List T) (m : Nat), m ≤ n → (∀ t ∈ ts, t.ht ≤ n) → ts.foldl (fun m k => max m k.ht) m ≤ n := by
    intro ts
    induction ts with
    | nil => intro m hm _; exact hm
    | cons a ts ih => intro m hm h; exact ih _ (by have := h a (by simp); dsimp only; omega) (fun t ht => h t (by simp [ht]))
  exact key ts 0 (by omega) h
theorem encS_get (ts : List T) (off i : Nat) (h : i < ts.length) : ∃ o, (encS off ts).getD i [] = [.fptr (stepC o ts[i])] := by
  induction ts generalizing off i with
  | nil => simp at h
  | cons a ts ih =>
    cases i with
    | zero => exact ⟨off, rfl⟩
    | succ i => exact ih (off + a.post.length) i (by simpa using h)
theorem stepC_ht (off : Nat) (t : T) : ∃ c0 c1 c2 c3 c4, stepC off t = [c0, c1, c2, c3, c4, .int .i64 t.ht] := by
  cases t <;> simp [stepC, T.ht]

theorem c57 (ns : List Nd) (hl : ns.length ≤ 100) : PCall prog [] 57 [nds ns] (· = stepV (parse ns)) := by
  refine PCall.enter mixed comp57 ?_
  dsimp only [ir57]
  (repeat (first | with_reducible refine And.intro trivial ?_ | with_reducible refine And.intro rfl ?_ | (with_reducible refine And.intro ?_ ?_; focus ((repeat' (first | with_reducible exact trivial | with_reducible exact rfl | (with_reducible apply And.intro) | exact in64 (by omega) (by omega) | omega)); done)) | dsimp only [go_sem, Nat.reduceAdd, Nat.reduceSub, Option.map, bne, BEq.beq, nds, fcs, strs] | simp only [sS, Int.cast_ofNat_Int, Int.reduceEq, Int.reduceLT, Int.reduceLE, Int.reduceAdd, Int.reduceSub, Int.reduceToNat]))
  refine lpg [0, 2, 10, 11] (fun s : Nat × List T => [(3, .rw 0), (12, .g (.int .i64 s.1))]) (fun s => [.row false 1 (encS 0 s.2)]) (fun s => s.1 ≤ ns.length ∧ szs s.2 = s.1 ∧ stk s.2.reverse (ns.drop s.1) = stk [] ns) (fun s => ns.length - s.1) (0, []) (Gh.nil 3 1 rfl) ⟨rfl, rfl, trivial⟩ rfl ⟨by simp, rfl, by simp⟩ ?_
  rintro ⟨i, ts⟩ ⟨hi, hsz, hst⟩
  dsimp only at hi hsz hst
  have hel := encS_length ts 0
  have htl : ts.length ≤ i := by
    rw [← hsz]
    clear hst hel hsz hi
    induction ts with
    | nil => simp
    | cons a ts ih => rw [szs_cons]; have := a.post_pos; simp; omega
  (repeat (first | with_reducible refine And.intro trivial ?_ | with_reducible refine And.intro rfl ?_ | (with_reducible refine And.intro ?_ ?_; focus ((repeat' (first | with_reducible exact trivial | with_reducible exact rfl | (with_reducible apply And.intro) | exact in64 (by omega) (by omega) | omega)); done)) | dsimp only [go_sem, Nat.reduceAdd, Nat.reduceSub, Option.map, bne, BEq.beq, nds, fcs, strs] | simp only [sS, Int.cast_ofNat_Int, Int.reduceEq, Int.reduceLT, Int.reduceLE, Int.reduceAdd, Int.reduceSub, Int.reduceToNat]))
  refine br (fun h1 => ?_) (fun h1 => ?_)
  · simp only [decide_eq_true_eq] at h1
    have hlt : i < ns.length := by omega
    have e1 := getD_at ndC ns hlt
    have hdr : ns.drop i = ns[i] :: ns.drop (i + 1) := List.drop_eq_getElem_cons hlt
    have hal := ari_le ns[i].k
    generalize ns[i] = n at *
    (repeat (first | with_reducible refine And.intro trivial ?_ | with_reducible refine And.intro rfl ?_ | (with_reducible refine And.intro ?_ ?_; focus ((repeat' (first | with_reducible exact trivial | with_reducible exact rfl | (with_reducible apply And.intro) | exact in64 (by omega) (by omega) | omega)); done)) | dsimp only [go_sem, Nat.reduceAdd, Nat.reduceSub, Option.map, bne, BEq.beq, nds, fcs, strs] | simp only [sS, Int.cast_ofNat_Int, Int.reduceEq, Int.reduceLT, Int.reduceLE, Int.reduceAdd, Int.reduceSub, Int.reduceToNat]))
    simp only [e1, ndC]
    (repeat (first | with_reducible refine And.intro trivial ?_ | with_reducible refine And.intro rfl ?_ | (with_reducible refine And.intro ?_ ?_; focus ((repeat' (first | with_reducible exact trivial | with_reducible exact rfl | (with_reducible apply And.intro) | exact in64 (by omega) (by omega) | omega)); done)) | dsimp only [go_sem, Nat.reduceAdd, Nat.reduceSub, Option.map, bne, BEq.beq, nds, fcs, strs] | simp only [sS, Int.cast_ofNat_Int, Int.reduceEq, Int.reduceLT, Int.reduceLE, Int.reduceAdd, Int.reduceSub, Int.reduceToNat]))
    refine cpe [] (c73 n) rfl ?_
    (repeat (first | with_reducible refine And.intro trivial ?_ | with_reducible refine And.intro rfl ?_ | (with_reducible refine And.intro ?_ ?_; focus ((repeat' (first | with_reducible exact trivial | with_reducible exact rfl | (with_reducible apply And.intro) | exact in64 (by omega) (by omega) | omega)); done)) | dsimp only [go_sem, Nat.reduceAdd, Nat.reduceSub, Option.map, bne, BEq.beq, nds, fcs, strs] | simp only [sS, Int.cast_ofNat_Int, Int.reduceEq, Int.reduceLT, Int.reduceLE, Int.reduceAdd, Int.reduceSub, Int.reduceToNat]))
    refine br (fun h2 => ?_) (fun h2 => ?_)
    · simp only [decide_eq_true_eq] at h2
      (repeat (first | with_reducible refine And.intro trivial ?_ | with_reducible refine And.intro rfl ?_ | (with_reducible refine And.intro ?_ ?_; focus ((repeat' (first | with_reducible exact trivial | with_reducible exact rfl | (with_reducible apply And.intro) | exact in64 (by omega) (by omega) | omega)); done)) | dsimp only [go_sem, Nat.reduceAdd, Nat.reduceSub, Option.map, bne, BEq.beq, nds, fcs, strs] | simp only [sS, Int.cast_ofNat_Int, Int.reduceEq, Int.reduceLT, Int.reduceLE, Int.reduceAdd, Int.reduceSub, Int.reduceToNat]))
      refine fin0 ?_; (repeat (first | with_reducible refine And.intro trivial ?_ | with_reducible refine And.intro rfl ?_ | (with_reducible refine And.intro ?_ ?_; focus ((repeat' (first | with_reducible exact trivial | with_reducible exact rfl | (with_reducible apply And.intro) | exact in64 (by omega) (by omega) | omega)); done)) | dsimp only [go_sem, Nat.reduceAdd, Nat.reduceSub, Option.map, bne, BEq.beq, nds, fcs, strs] | simp only [sS, Int.cast_ofNat_Int, Int.reduceEq, Int.reduceLT, Int.reduceLE, Int.reduceAdd, Int.reduceSub, Int.reduceToNat]))
      rw [hdr, stk_short n ts _ (by omega)] at hst
      simp [stepV, parse, ← hst]
    · simp only [decide_eq_false_iff_not] at h2
      obtain ⟨pre, ks, rfl, hks⟩ : ∃ pre ks, ts = pre ++ ks ∧ ks.length = ari n.k := ⟨ts.take (ts.length - ari n.k), ts.drop (ts.length - ari n.k), (List.take_append_drop _ _).symm, by simp; omega⟩
      rw [hdr, stk_mk n pre ks _ hks] at hst
      have hkl : ks.length ≤ 2 := by omega
      rw [szs_append] at hsz
      simp only [List.length_append] at *
      have hpn : (((pre.length + ks.length : Nat) : Int) - (ari n.k : Int)).toNat = pre.length := by omega
      have hdrop : ((encS 0 (pre ++ ks)).take (pre.length + ks.length)).drop pre.length = encS (szs pre) ks := by
        rw [List.take_of_length_le (by simp [encS_length]), encS_append, List.drop_append_of_le_length (by simp [encS_length]), List.drop_of_length_le (by simp [encS_length])]; simp
      (repeat (first | with_reducible refine And.intro trivial ?_ | with_reducible refine And.intro rfl ?_ | (with_reducible refine And.intro ?_ ?_; focus ((repeat' (first | with_reducible exact trivial | with_reducible exact rfl | (with_reducible apply And.intro) | exact in64 (by omega) (by omega) | omega)); done)) | dsimp only [go_sem, Nat.reduceAdd, Nat.reduceSub, Option.map, bne, BEq.beq, nds, fcs, strs] | simp only [sS, Int.cast_ofNat_Int, Int.reduceEq, Int.reduceLT, Int.reduceLE, Int.reduceAdd, Int.reduceSub, Int.reduceToNat]))
      simp only [hel, hpn]
      have hc := c74 (encS 0 (pre ++ ks)) pre.length (pre.length + ks.length) (by omega) (by omega) (by omega)
      rw [hdrop] at hc
      refine ⟨[0], .fsl 1 (encS (szs pre) ks), rfl, rfl, rfl, hc, ?_⟩
      (repeat (first | with_reducible refine And.intro trivial ?_ | with_reducible refine And.intro rfl ?_ | (with_reducible refine And.intro ?_ ?_; focus ((repeat' (first | with_reducible exact trivial | with_reducible exact rfl | (with_reducible apply And.intro) | exact in64 (by omega) (by omega) | omega)); done)) | dsimp only [go_sem, Nat.reduceAdd, Nat.reduceSub, Option.map, bne, BEq.beq, nds, fcs, strs] | simp only [sS, Int.cast_ofNat_Int, Int.reduceEq, Int.reduceLT, Int.reduceLE, Int.reduceAdd, Int.reduceSub, Int.reduceToNat]))
      have hkl2 := encS_length ks (szs pre)
      have hhts : ∀ t ∈ ks, t.ht ≤ 100 := fun t ht => by have := T.ht_le' t; have := szs_mem ht; omega
      refine lp [0, 2, 4, 6, 7, 10, 11, 12, 35, 36] (fun j : Nat => [(37, .g (.int .i64 j)), (3, .rw 0)]) (fun j => [.row false 1 (encS 0 (pre ++ ks)), .cells [.g (.int .i64 n.k), .g (.str n.s), .g (.str n.t)], .cells [.g (.int .i64 n.k), .g (.str n.s), .g (.str n.t), .g (.fsl 1 (encS (szs pre) ks)), .g (.int .i64 i), .g (.int .i64 (mx' (ks.take j) + 1 : Nat))]]) (fun j => j ≤ ks.length) (fun j => ks.length - j) 0 ⟨rfl, rfl, trivial⟩ rfl (by omega) ?_
      intro j hj
      have hmx : mx' (ks.take j) ≤ 100 := mx'_le _ 100 (fun t ht => hhts t (List.mem_of_mem_take ht))
      (repeat (first | with_reducible refine And.intro trivial ?_ | with_reducible refine And.intro rfl ?_ | (with_reducible refine And.intro ?_ ?_; focus ((repeat' (first | with_reducible exact trivial | with_reducible exact rfl | (with_reducible apply And.intro) | exact in64 (by omega) (by omega) | omega)); done)) | dsimp only [go_sem, Nat.reduceAdd, Nat.reduceSub, Option.map, bne, BEq.beq, nds, fcs, strs] | simp only [sS, Int.cast_ofNat_Int, Int.reduceEq, Int.reduceLT, Int.reduceLE, Int.reduceAdd, Int.reduceSub, Int.reduceToNat]))
      refine br (fun h3 => ?_) (fun h3 => ?_)
      · simp only [decide_eq_true_eq] at h3
        have hjl : j < ks.length := by omega
        obtain ⟨o, e2⟩ := encS_get ks (szs pre) j hjl
        obtain ⟨c0, c1, c2, c3, c4, e3⟩ := stepC_ht o ks[j]
        rw [e3] at e2
        have hht := hhts ks[j] (List.getElem_mem hjl)
        have hmt := mx'_take ks hjl
        (repeat (first | with_reducible refine And.intro trivial ?_ | with_reducible refine And.intro rfl ?_ | (with_reducible refine And.intro ?_ ?_; focus ((repeat' (first | with_reducible exact trivial | with_reducible exact rfl | (with_reducible apply And.intro) | exact in64 (by omega) (by omega) | omega)); done)) | dsimp only [go_sem, Nat.reduceAdd, Nat.reduceSub, Option.map, bne, BEq.beq, nds, fcs, strs] | simp only [sS, Int.cast_ofNat_Int, Int.reduceEq, Int.reduceLT, Int.reduceLE, Int.reduceAdd, Int.reduceSub, Int.reduceToNat]))
        simp only [e2]
        (repeat (first | with_reducible refine And.intro trivial ?_ | with_reducible refine And.intro rfl ?_ | (with_reducible refine And.intro ?_ ?_; focus ((repeat' (first | with_reducible exact trivial | with_reducible exact rfl | (with_reducible apply And.intro) | exact in64 (by omega) (by omega) | omega)); done)) | dsimp only [go_sem, Nat.reduceAdd, Nat.reduceSub, Option.map, bne, BEq.beq, nds, fcs, strs] | simp only [sS, Int.cast_ofNat_Int, Int.reduceEq, Int.reduceLT, Int.reduceLE, Int.reduceAdd, Int.reduceSub, Int.reduceToNat]))
        refine rnd (j + 1) rfl ⟨rfl, rfl, rfl, rfl, rfl, rfl, rfl, rfl, rfl, rfl, trivial⟩ ⟨rfl, rfl, trivial⟩ ?_ (by omega) (by omega)
        have : max ((mx' (ks.take j) + 1 : Nat) : Int) ((ks[j].ht : Int) + 1) = ((mx' (ks.take (j + 1)) + 1 : Nat) : Int) := by omega
        rw [this]
      · simp only [decide_eq_false_iff_not] at h3
        obtain rfl : j = ks.length := by omega
        rw [List.take_length] at hmx
        (repeat (first | with_reducible refine And.intro trivial ?_ | with_reducible refine And.intro rfl ?_ | (with_reducible refine And.intro ?_ ?_; focus ((repeat' (first | with_reducible exact trivial | with_reducible exact rfl | (with_reducible apply And.intro) | exact in64 (by omega) (by omega) | omega)); done)) | dsimp only [go_sem, Nat.reduceAdd, Nat.reduceSub, Option.map, bne, BEq.beq, nds, fcs, strs] | simp only [sS, Int.cast_ofNat_Int, Int.reduceEq, Int.reduceLT, Int.reduceLE, Int.reduceAdd, Int.reduceSub, Int.reduceToNat]))
        refine rndg (i + 1, pre ++ [mkT n ks]) (Gh.sub [0] rfl rfl) ?_ ?_ ?_ ?_ ⟨by omega, by rw [szs_append, show szs [mkT n ks] = (mkT n ks).post.length by simp [szs], mkT_size n ks hkl]; omega, hst⟩ (by omega)
        · rfl
        · exact ⟨rfl, rfl, rfl, rfl, trivial⟩
        · exact ⟨rfl, rfl, trivial⟩
        · rw [hpn, List.take_length, encS_append, List.take_append_of_le_length (by simp [encS_length]), List.take_of_length_le (by simp [encS_length])]
          show [Obj.row false 1 (encS 0 pre ++ [[V.fptr _]])] = [Obj.row false 1 (encS 0 (pre ++ [mkT n ks]))]
          rw [encS_append]
          simp only [encS, Nat.zero_add, stepC_mk (szs pre) n ks hkl, ht_kids n ks hkl, hsz]
  · simp only [decide_eq_false_iff_not] at h1
    obtain rfl : i = ns.length := by omega
    rw [List.drop_length] at hst
    have hst' : parse ns = match ts.reverse with | [t] => some t | _ => none := by
      have : stk ts.reverse [] = some ts.reverse := by simp only [stk]
      rw [parse, ← hst, this]
      cases ts.reverse with
      | nil => rfl
      | cons a r => cases r <;> rfl
    (repeat (first | with_reducible refine And.intro trivial ?_ | with_reducible refine And.intro rfl ?_ | (with_reducible refine And.intro ?_ ?_; focus ((repeat' (first | with_reducible exact trivial | with_reducible exact rfl | (with_reducible apply And.intro) | exact in64 (by omega) (by omega) | omega)); done)) | dsimp only [go_sem, Nat.reduceAdd, Nat.reduceSub, Option.map, bne, BEq.beq, nds, fcs, strs] | simp only [sS, Int.cast_ofNat_Int, Int.reduceEq, Int.reduceLT, Int.reduceLE, Int.reduceAdd, Int.reduceSub, Int.reduceToNat]))
    refine br (fun h2 => ?_) (fun h2 => ?_)
    · simp only [Bool.not_eq_true', decide_eq_false_iff_not] at h2
      (repeat (first | with_reducible refine And.intro trivial ?_ | with_reducible refine And.intro rfl ?_ | (with_reducible refine And.intro ?_ ?_; focus ((repeat' (first | with_reducible exact trivial | with_reducible exact rfl | (with_reducible apply And.intro) | exact in64 (by omega) (by omega) | omega)); done)) | dsimp only [go_sem, Nat.reduceAdd, Nat.reduceSub, Option.map, bne, BEq.beq, nds, fcs, strs] | simp only [sS, Int.cast_ofNat_Int, Int.reduceEq, Int.reduceLT, Int.reduceLE, Int.reduceAdd, Int.reduceSub, Int.reduceToNat]))
      refine fin0 ?_; (repeat (first | with_reducible refine And.intro trivial ?_ | with_reducible refine And.intro rfl ?_ | (with_reducible refine And.intro ?_ ?_; focus ((repeat' (first | with_reducible exact trivial | with_reducible exact rfl | (with_reducible apply And.intro) | exact in64 (by omega) (by omega) | omega)); done)) | dsimp only [go_sem, Nat.reduceAdd, Nat.reduceSub, Option.map, bne, BEq.beq, nds, fcs, strs] | simp only [sS, Int.cast_ofNat_Int, Int.reduceEq, Int.reduceLT, Int.reduceLE, Int.reduceAdd, Int.reduceSub, Int.reduceToNat]))
      rw [hst']
      have hlr : ts.reverse.length = ts.length := by simp
      cases hr : ts.reverse with
      | nil => rfl
      | cons a r =>
        cases r with
        | nil => rw [hr] at hlr; simp at hlr; omega
        | cons b r => rfl
    · simp only [Bool.not_eq_false', decide_eq_true_eq] at h2
      obtain ⟨t, rfl⟩ : ∃ t, ts = [t] := by
        match ts, (by omega : ts.length = 1) with
        | [t], _ => exact ⟨t, rfl⟩
      (repeat (first | with_reducible refine And.intro trivial ?_ | with_reducible refine And.intro rfl ?_ | (with_reducible refine And.intro ?_ ?_; focus ((repeat' (first | with_reducible exact trivial | with_reducible exact rfl | (with_reducible apply And.intro) | exact in64 (by omega) (by omega) | omega)); done)) | dsimp only [go_sem, Nat.reduceAdd, Nat.reduceSub, Option.map, bne, BEq.beq, nds, fcs, strs] | simp only [sS, Int.cast_ofNat_Int, Int.reduceEq, Int.reduceLT, Int.reduceLE, Int.reduceAdd, Int.reduceSub, Int.reduceToNat]))
      simp only [encS]
      (repeat (first | with_reducible refine And.intro trivial ?_ | with_reducible refine And.intro rfl ?_ | (with_reducible refine And.intro ?_ ?_; focus ((repeat' (first | with_reducible exact trivial | with_reducible exact rfl | (with_reducible apply And.intro) | exact in64 (by omega) (by omega) | omega)); done)) | dsimp only [go_sem, Nat.reduceAdd, Nat.reduceSub, Option.map, bne, BEq.beq, nds, fcs, strs] | simp only [sS, Int.cast_ofNat_Int, Int.reduceEq, Int.reduceLT, Int.reduceLE, Int.reduceAdd, Int.reduceSub, Int.reduceToNat]))
      refine fin0 ?_; (repeat (first | with_reducible refine And.intro trivial ?_ | with_reducible refine And.intro rfl ?_ | (with_reducible refine And.intro ?_ ?_; focus ((repeat' (first | with_reducible exact trivial | with_reducible exact rfl | (with_reducible apply And.intro) | exact in64 (by omega) (by omega) | omega)); done)) | dsimp only [go_sem, Nat.reduceAdd, Nat.reduceSub, Option.map, bne, BEq.beq, nds, fcs, strs] | simp only [sS, Int.cast_ofNat_Int, Int.reduceEq, Int.reduceLT, Int.reduceLE, Int.reduceAdd, Int.reduceSub, Int.reduceToNat]))
      rw [hst']; rfl
end Go.Av

namespace Go.Av
set_option maxRecDepth 100000
set_option maxHeartbeats 4000000
set_option linter.unusedVariables false
set_option linter.unusedSimpArgs false

theorem ar_le (k : Int) : ar k ≤ 2 := by unfold ar; (repeat' split) <;> omega
theorem c30 (ns : List Nd) (hn : ns.length ≤ 1000) : PCall prog [] 30 [nds ns] (· = .int .i64 (fromGo ns ns.length 1)) := by
  refine PCall.enter mixed comp30 ?_
  dsimp only [ir30]
  (repeat (first | with_reducible refine And.intro trivial ?_ | with_reducible refine And.intro rfl ?_ | (with_reducible refine And.intro ?_ ?_; focus ((repeat' (first | with_reducible exact trivial | with_reducible exact rfl | (with_reducible apply And.intro) | exact in64 (by omega) (by omega) | omega)); done)) | dsimp only [go_sem, Nat.reduceAdd, Nat.reduceSub, Option.map, bne, BEq.beq, nds, fcs] | simp only [sS, Int.cast_ofNat_Int, Int.reduceEq, Int.reduceLT, Int.reduceLE, Int.reduceAdd, Int.reduceSub, Int.reduceToNat]))
  refine lp [0] (fun s : Nat × Nat => [(3, .g (.int .i64 s.1)), (4, .g (.int .i64 s.2))]) (fun _ => []) (fun s => s.2 ≤ ns.length ∧ s.1 + s.2 ≤ ns.length + 1 + (ns.length - s.2) ∧ fromGo ns s.2 s.1 = fromGo ns ns.length 1) (fun s => s.2 + (if s.1 = 0 then 0 else 1)) (1, ns.length) ⟨rfl, rfl, trivial⟩ rfl ⟨by simp, by simp; omega, rfl⟩ ?_
  rintro ⟨need, i⟩ ⟨h1, h2, h3⟩
  dsimp only at h1 h2 h3
  (repeat (first | with_reducible refine And.intro trivial ?_ | with_reducible refine And.intro rfl ?_ | (with_reducible refine And.intro ?_ ?_; focus ((repeat' (first | with_reducible exact trivial | with_reducible exact rfl | (with_reducible apply And.intro) | exact in64 (by omega) (by omega) | omega)); done)) | dsimp only [go_sem, Nat.reduceAdd, Nat.reduceSub, Option.map, bne, BEq.beq, nds, fcs] | simp only [sS, Int.cast_ofNat_Int, Int.reduceEq, Int.reduceLT, Int.reduceLE, Int.reduceAdd, Int.reduceSub, Int.reduceToNat]))
  refine br (fun h => ?_) (fun h => ?_)
  · simp only [decide_eq_true_eq] at h
    (repeat (first | with_reducible refine And.intro trivial ?_ | with_reducible refine And.intro rfl ?_ | (with_reducible refine And.intro ?_ ?_; focus ((repeat' (first | with_reducible exact trivial | with_reducible exact rfl | (with_reducible apply And.intro) | exact in64 (by omega) (by omega) | omega)); done)) | dsimp only [go_sem, Nat.reduceAdd, Nat.reduceSub, Option.map, bne, BEq.beq, nds, fcs] | simp only [sS, Int.cast_ofNat_Int, Int.reduceEq, Int.reduceLT, Int.reduceLE, Int.reduceAdd, Int.reduceSub, Int.reduceToNat]))
    refine br (fun h4 => ?_) (fun h4 => ?_)
    · simp only [decide_eq_true_eq] at h4
      (repeat (first | with_reducible refine And.intro trivial ?_ | with_reducible refine And.intro rfl ?_ | (with_reducible refine And.intro ?_ ?_; focus ((repeat' (first | with_reducible exact trivial | with_reducible exact rfl | (with_reducible apply And.intro) | exact in64 (by omega) (by omega) | omega)); done)) | dsimp only [go_sem, Nat.reduceAdd, Nat.reduceSub, Option.map, bne, BEq.beq, nds, fcs] | simp only [sS, Int.cast_ofNat_Int, Int.reduceEq, Int.reduceLT, Int.reduceLE, Int.reduceAdd, Int.reduceSub, Int.reduceToNat]))
      refine fin0 ?_; (repeat (first | with_reducible refine And.intro trivial ?_ | with_reducible refine And.intro rfl ?_ | (with_reducible refine And.intro ?_ ?_; focus ((repeat' (first | with_reducible exact trivial | with_reducible exact rfl | (with_reducible apply And.intro) | exact in64 (by omega) (by omega) | omega)); done)) | dsimp only [go_sem, Nat.reduceAdd, Nat.reduceSub, Option.map, bne, BEq.beq, nds, fcs] | simp only [sS, Int.cast_ofNat_Int, Int.reduceEq, Int.reduceLT, Int.reduceLE, Int.reduceAdd, Int.reduceSub, Int.reduceToNat]))
      obtain rfl : i = 0 := by omega
      obtain ⟨m, rfl⟩ : ∃ m, need = m + 1 := ⟨need - 1, by omega⟩
      rw [← h3]; rfl
    · simp only [decide_eq_false_iff_not] at h4
      obtain ⟨j, rfl⟩ : ∃ j, i = j + 1 := ⟨i - 1, by omega⟩
      obtain ⟨m, rfl⟩ : ∃ m, need = m + 1 := ⟨need - 1, by omega⟩
      have hlt : j < ns.length := by omega
      have e0 := getD_at ndC ns hlt
      have e1 : (List.map ndC ns).getD (((j + 1 : Nat) : Int) - 1).toNat [] = [.int .i64 ns[j].k, .str ns[j].s, .str ns[j].t] := by
        rw [show (((j + 1 : Nat) : Int) - 1).toNat = j from by omega, e0]; rfl
      (repeat (first | with_reducible refine And.intro trivial ?_ | with_reducible refine And.intro rfl ?_ | (with_reducible refine And.intro ?_ ?_; focus ((repeat' (first | with_reducible exact trivial | with_reducible exact rfl | (with_reducible apply And.intro) | exact in64 (by omega) (by omega) | omega)); done)) | dsimp only [go_sem, Nat.reduceAdd, Nat.reduceSub, Option.map, bne, BEq.beq, nds, fcs] | simp only [sS, Int.cast_ofNat_Int, Int.reduceEq, Int.reduceLT, Int.reduceLE, Int.reduceAdd, Int.reduceSub, Int.reduceToNat]))
      simp only [e1]
      (repeat (first | with_reducible refine And.intro trivial ?_ | with_reducible refine And.intro rfl ?_ | (with_reducible refine And.intro ?_ ?_; focus ((repeat' (first | with_reducible exact trivial | with_reducible exact rfl | (with_reducible apply And.intro) | exact in64 (by omega) (by omega) | omega)); done)) | dsimp only [go_sem, Nat.reduceAdd, Nat.reduceSub, Option.map, bne, BEq.beq, nds, fcs] | simp only [sS, Int.cast_ofNat_Int, Int.reduceEq, Int.reduceLT, Int.reduceLE, Int.reduceAdd, Int.reduceSub, Int.reduceToNat]))
      refine cpe [] (c52 ns[j].k) rfl ?_
      have hal := ar_le ns[j].k
      (repeat (first | with_reducible refine And.intro trivial ?_ | with_reducible refine And.intro rfl ?_ | (with_reducible refine And.intro ?_ ?_; focus ((repeat' (first | with_reducible exact trivial | with_reducible exact rfl | (with_reducible apply And.intro) | exact in64 (by omega) (by omega) | omega)); done)) | dsimp only [go_sem, Nat.reduceAdd, Nat.reduceSub, Option.map, bne, BEq.beq, nds, fcs] | simp only [sS, Int.cast_ofNat_Int, Int.reduceEq, Int.reduceLT, Int.reduceLE, Int.reduceAdd, Int.reduceSub, Int.reduceToNat]))
      simp only [fromGo] at h3
      have hget : ns.getD j ⟨0, [], []⟩ = ns[j] := by rw [List.getD_eq_getElem?_getD, List.getElem?_eq_getElem hlt]; rfl
      rw [hget] at h3
      refine rnd (m + ar ns[j].k, j) rfl ⟨rfl, trivial⟩ ⟨?_, ?_, trivial⟩ rfl ⟨by dsimp only; omega, by dsimp only; omega, h3⟩ (by dsimp only; split <;> simp <;> omega)
      · show LV.g (.int .i64 (((m + 1 : Nat) : Int) - 1 + (ar ns[j].k : Int))) = LV.g (.int .i64 ((m + ar ns[j].k : Nat) : Int))
        congr 2; omega
      · show LV.g (.int .i64 (((j + 1 : Nat) : Int) - 1)) = LV.g (.int .i64 (j : Int))
        congr 2; omega
  · simp only [decide_eq_false_iff_not] at h
    (repeat (first | with_reducible refine And.intro trivial ?_ | with_reducible refine And.intro rfl ?_ | (with_reducible refine And.intro ?_ ?_; focus ((repeat' (first | with_reducible exact trivial | with_reducible exact rfl | (with_reducible apply And.intro) | exact in64 (by omega) (by omega) | omega)); done)) | dsimp only [go_sem, Nat.reduceAdd, Nat.reduceSub, Option.map, bne, BEq.beq, nds, fcs] | simp only [sS, Int.cast_ofNat_Int, Int.reduceEq, Int.reduceLT, Int.reduceLE, Int.reduceAdd, Int.reduceSub, Int.reduceToNat]))
    refine fin0 ?_; (repeat (first | with_reducible refine And.intro trivial ?_ | with_reducible refine And.intro rfl ?_ | (with_reducible refine And.intro ?_ ?_; focus ((repeat' (first | with_reducible exact trivial | with_reducible exact rfl | (with_reducible apply And.intro) | exact in64 (by omega) (by omega) | omega)); done)) | dsimp only [go_sem, Nat.reduceAdd, Nat.reduceSub, Option.map, bne, BEq.beq, nds, fcs] | simp only [sS, Int.cast_ofNat_Int, Int.reduceEq, Int.reduceLT, Int.reduceLE, Int.reduceAdd, Int.reduceSub, Int.reduceToNat]))
    obtain rfl : need = 0 := by omega
    rw [← h3]; cases i <;> rfl
end Go.Av

namespace Go.Av
set_option maxRecDepth 100000
set_option maxHeartbeats 4000000
set_option linter.unusedVariables false
set_option linter.unusedSimpArgs false

def ndsC (t : T) : List V := [nds t.post]
theorem T.post_kids (t : T) : t.post = t.kids.flatMap T.post ++ [t.root] := by cases t <;> simp [T.post, T.kids, T.root]
theorem ar0 {k : Int} (h : k = 1 ∨ k = 2) : ar k = 0 := by unfold ar; rw [if_pos (by omega)]
theorem ar1 {k : Int} (h : k = 3 ∨ k = 4 ∨ k = 5 ∨ k = 9) : ar k = 1 := by unfold ar; rw [if_neg (by omega), if_neg (by omega)]
theorem ar2 {k : Int} (h : k = 6 ∨ k = 7 ∨ k = 8) : ar k = 2 := by unfold ar; rw [if_neg (by omega), if_pos (by omega)]
theorem T.kids_len (t : T) (h : t.ok) : t.kids.length = ar t.root.k := by
  cases t with
  | lf n => exact (ar0 h.2).symm
  | un n a => exact (ar1 h.2.1).symm
  | bn n a b => exact (ar2 h.2.1).symm
theorem T.kids_ok (t : T) (h : t.ok) : ∀ k ∈ t.kids, k.ok := by
  cases t with
  | lf n => simp [T.kids]
  | un n a => intro k hk; simp [T.kids] at hk; subst hk; exact h.2.2
  | bn n a b => intro k hk; simp [T.kids] at hk; rcases hk with rfl | rfl; exact h.2.2.1; exact h.2.2.2
theorem from_last (pre : List Nd) (t : T) (h : t.ok) : fromGo (pre ++ t.post) (pre ++ t.post).length 1 = pre.length := by
  have := from_post t h pre [] 0
  simp only [List.append_nil] at this
  rw [List.length_append, this]
  cases pre <;> rfl

theorem c53 (t : T) (h : t.ok) (hl : t.post.length ≤ 1000) : PCall prog [] 53 [nds t.post] (· = .fsl 1 (t.kids.map ndsC)) := by
  refine PCall.enter mixed comp53 ?_
  dsimp only [ir53]
  have e0 := t.post_kids
  have hkl := t.kids_len h
  have hpl : t.post.length = (t.kids.flatMap T.post).length + 1 := by rw [e0]; simp
  have e1 : (List.map ndC t.post).getD ((t.post.length : Int) - 1).toNat [] = [.int .i64 t.root.k, .str t.root.s, .str t.root.t] := by
    rw [show ((t.post.length : Int) - 1).toNat = (t.kids.flatMap T.post).length from by omega, e0, List.getD_eq_getElem?_getD]; simp [ndC]
  have e2 : List.drop (0 : Int).toNat (List.take ((t.post.length : Int) - 1).toNat (List.map ndC t.post)) = List.map ndC (t.kids.flatMap T.post) := by
    rw [show ((t.post.length : Int) - 1).toNat = (t.kids.flatMap T.post).length from by omega, e0]
    simp
  (repeat (first | with_reducible refine And.intro trivial ?_ | with_reducible refine And.intro rfl ?_ | (with_reducible refine And.intro ?_ ?_; focus ((repeat' (first | with_reducible exact trivial | with_reducible exact rfl | (with_reducible apply And.intro) | exact in64 (by omega) (by omega) | omega)); done)) | dsimp only [go_sem, Nat.reduceAdd, Nat.reduceSub, Option.map, bne, BEq.beq, nds, fcs] | simp only [sS, Int.cast_ofNat_Int, Int.reduceEq, Int.reduceLT, Int.reduceLE, Int.reduceAdd, Int.reduceSub, Int.reduceToNat]))
  simp only [e1]
  (repeat (first | with_reducible refine And.intro trivial ?_ | with_reducible refine And.intro rfl ?_ | (with_reducible refine And.intro ?_ ?_; focus ((repeat' (first | with_reducible exact trivial | with_reducible exact rfl | (with_reducible apply And.intro) | exact in64 (by omega) (by omega) | omega)); done)) | dsimp only [go_sem, Nat.reduceAdd, Nat.reduceSub, Option.map, bne, BEq.beq, nds, fcs] | simp only [sS, Int.cast_ofNat_Int, Int.reduceEq, Int.reduceLT, Int.reduceLE, Int.reduceAdd, Int.reduceSub, Int.reduceToNat]))
  refine cpe [] (c52 t.root.k) rfl ?_
  (repeat (first | with_reducible refine And.intro trivial ?_ | with_reducible refine And.intro rfl ?_ | (with_reducible refine And.intro ?_ ?_; focus ((repeat' (first | with_reducible exact trivial | with_reducible exact rfl | (with_reducible apply And.intro) | exact in64 (by omega) (by omega) | omega)); done)) | dsimp only [go_sem, Nat.reduceAdd, Nat.reduceSub, Option.map, bne, BEq.beq, nds, fcs] | simp only [sS, Int.cast_ofNat_Int, Int.reduceEq, Int.reduceLT, Int.reduceLE, Int.reduceAdd, Int.reduceSub, Int.reduceToNat]))
  refine lpg [] (fun s : List T × List T => [(3, .g (nds (s.1.flatMap T.post))), (4, .g (.fsl 1 (s.2.map ndsC))), (5, .g (.int .i64 s.1.length))]) (fun s => [.dead]) (fun s => s.1 ++ s.2 = t.kids) (fun s => s.1.length) (t.kids, []) (Gh.trans (Gh.frz (.rw 0) 4 rfl) (Gh.sub [0] rfl rfl)) ⟨?_, rfl, ?_, trivial⟩ rfl (by simp) ?_
  · show LV.g (.fsl 3 (List.drop (0 : Int).toNat (List.take ((t.post.length : Int) - 1).toNat (List.map ndC t.post)))) = LV.g (.fsl 3 (List.map ndC (t.kids.flatMap T.post)))
    rw [e2]
  · show LV.g (.int .i64 (ar t.root.k : Int)) = LV.g (.int .i64 (t.kids.length : Int))
    rw [hkl]
  rintro ⟨ks, done⟩ hks
  dsimp only at hks
  (repeat (first | with_reducible refine And.intro trivial ?_ | with_reducible refine And.intro rfl ?_ | (with_reducible refine And.intro ?_ ?_; focus ((repeat' (first | with_reducible exact trivial | with_reducible exact rfl | (with_reducible apply And.intro) | exact in64 (by omega) (by omega) | omega)); done)) | dsimp only [go_sem, Nat.reduceAdd, Nat.reduceSub, Option.map, bne, BEq.beq, nds, fcs] | simp only [sS, Int.cast_ofNat_Int, Int.reduceEq, Int.reduceLT, Int.reduceLE, Int.reduceAdd, Int.reduceSub, Int.reduceToNat]))
  refine br (fun h1 => ?_) (fun h1 => ?_)
  · simp only [decide_eq_true_eq] at h1
    have hne : ks ≠ [] := by rintro rfl; simp at h1
    obtain ⟨ks', c, rfl⟩ : ∃ ks' c, ks = ks' ++ [c] := ⟨ks.dropLast, ks.getLast hne, (List.dropLast_concat_getLast hne).symm⟩
    have hck : c.ok := t.kids_ok h c (by rw [← hks]; simp)
    have e3 : (ks' ++ [c]).flatMap T.post = ks'.flatMap T.post ++ c.post := by simp
    have hlen : ((ks' ++ [c]).flatMap T.post).length ≤ 1000 := by
      have : (t.kids.flatMap T.post).length = ((ks' ++ [c]).flatMap T.post).length + (done.flatMap T.post).length := by rw [← hks, List.flatMap_append, List.length_append]
      omega
    have hfrom := from_last (ks'.flatMap T.post) c hck
    rw [← e3] at hfrom
    have hle : (ks'.flatMap T.post).length ≤ ((ks' ++ [c]).flatMap T.post).length := by rw [e3, List.length_append]; omega
    have hdl : done.length ≤ 2 ∧ ks'.length ≤ 2 := by
      have := congrArg List.length hks
      simp only [List.length_append] at this
      have := ar_le t.root.k
      simp only [List.length_cons, List.length_nil] at *
      omega
    obtain ⟨hdl, hdk⟩ := hdl
    (repeat (first | with_reducible refine And.intro trivial ?_ | with_reducible refine And.intro rfl ?_ | (with_reducible refine And.intro ?_ ?_; focus ((repeat' (first | with_reducible exact trivial | with_reducible exact rfl | (with_reducible apply And.intro) | exact in64 (by omega) (by omega) | omega)); done)) | dsimp only [go_sem, Nat.reduceAdd, Nat.reduceSub, Option.map, bne, BEq.beq, nds, fcs] | simp only [sS, Int.cast_ofNat_Int, Int.reduceEq, Int.reduceLT, Int.reduceLE, Int.reduceAdd, Int.reduceSub, Int.reduceToNat]))
    refine cpe [] (c30 _ hlen) rfl ?_
    rw [hfrom]
    (repeat (first | with_reducible refine And.intro trivial ?_ | with_reducible refine And.intro rfl ?_ | (with_reducible refine And.intro ?_ ?_; focus ((repeat' (first | with_reducible exact trivial | with_reducible exact rfl | (with_reducible apply And.intro) | exact in64 (by omega) (by omega) | omega)); done)) | dsimp only [go_sem, Nat.reduceAdd, Nat.reduceSub, Option.map, bne, BEq.beq, nds, fcs] | simp only [sS, Int.cast_ofNat_Int, Int.reduceEq, Int.reduceLT, Int.reduceLE, Int.reduceAdd, Int.reduceSub, Int.reduceToNat]))
    refine rndg (ks', c :: done) (Gh.trans (Gh.frz (.rw 1) 4 rfl) (Gh.sub [0] rfl rfl)) ?_ ?_ ?_ ?_ ?_ ?_
    · rfl
    · exact trivial
    refine ⟨?_, ?_, ?_, trivial⟩
    · show LV.g (.fsl 3 (List.drop (0 : Nat) (List.take (ks'.flatMap T.post).length (List.map ndC ((ks' ++ [c]).flatMap T.post))))) = LV.g (.fsl 3 (List.map ndC (ks'.flatMap T.post)))
      rw [e3, List.map_append, List.take_append_of_le_length (by simp), List.take_of_length_le (by simp)]; rfl
    · show LV.g (.fsl 1 ([.fsl 3 (List.drop (ks'.flatMap T.post).length (List.take ((ks' ++ [c]).flatMap T.post).length (List.map ndC ((ks' ++ [c]).flatMap T.post))))] :: List.map ndsC done)) = LV.g (.fsl 1 (List.map ndsC (c :: done)))
      rw [List.take_of_length_le (by simp), e3, List.map_append, List.drop_append_of_le_length (by simp), List.drop_of_length_le (by simp)]; rfl
    · show LV.g (.int .i64 (((ks'.length + 1 : Nat) : Int) - 1)) = LV.g (.int .i64 (ks'.length : Int))
      congr 2; omega
    · rfl
    · dsimp only; rw [← hks]; simp
    · dsimp only; omega
  · simp only [decide_eq_false_iff_not] at h1
    obtain rfl : ks = [] := List.eq_nil_of_length_eq_zero (by omega)
    simp only [List.nil_append] at hks
    (repeat (first | with_reducible refine And.intro trivial ?_ | with_reducible refine And.intro rfl ?_ | (with_reducible refine And.intro ?_ ?_; focus ((repeat' (first | with_reducible exact trivial | with_reducible exact rfl | (with_reducible apply And.intro) | exact in64 (by omega) (by omega) | omega)); done)) | dsimp only [go_sem, Nat.reduceAdd, Nat.reduceSub, Option.map, bne, BEq.beq, nds, fcs] | simp only [sS, Int.cast_ofNat_Int, Int.reduceEq, Int.reduceLT, Int.reduceLE, Int.reduceAdd, Int.reduceSub, Int.reduceToNat]))
    refine fin0 ?_; (repeat (first | with_reducible refine And.intro trivial ?_ | with_reducible refine And.intro rfl ?_ | (with_reducible refine And.intro ?_ ?_; focus ((repeat' (first | with_reducible exact trivial | with_reducible exact rfl | (with_reducible apply And.intro) | exact in64 (by omega) (by omega) | omega)); done)) | dsimp only [go_sem, Nat.reduceAdd, Nat.reduceSub, Option.map, bne, BEq.beq, nds, fcs] | simp only [sS, Int.cast_ofNat_Int, Int.reduceEq, Int.reduceLT, Int.reduceLE, Int.reduceAdd, Int.reduceSub, Int.reduceToNat]))
    rw [hks]
theorem T.ht_pos (t : T) : 1 ≤ t.ht := by cases t <;> simp [T.ht]
theorem T.ht_le : ∀ (t : T), t.ht ≤ t.post.length
  | .lf n => by simp [T.ht, T.post]
  | .un n a => by have := a.ht_le; simp [T.ht, T.post]; omega
  | .bn n a b => by have := a.ht_le; have := b.ht_le; simp [T.ht, T.post]; omega
theorem T.kid_len (t k : T) (h : k ∈ t.kids) : k.post.length < t.post.length := by
  cases t with
  | lf n => simp [T.kids] at h
  | un n a => simp [T.kids] at h; subst h; simp [T.post]
  | bn n a b => have ha := T.post_pos a; have hb := T.post_pos b; simp [T.kids] at h; rcases h with h | h <;> subst h <;> simp [T.post] <;> omega
def maxHt (ts : List T) : Nat := ts.foldl (fun m k => max m k.ht) 0
theorem T.ht_eq (t : T) : t.ht = maxHt t.kids + 1 := by
  cases t with
  | lf n => rfl
  | un n a => simp [T.ht, maxHt, T.kids]
  | bn n a b => simp [T.ht, maxHt, T.kids]
theorem maxHt_take (ts : List T) {i : Nat} (h : i < ts.length) : maxHt (ts.take (i + 1)) = max (maxHt (ts.take i)) ts[i].ht := by
  rw [maxHt, List.take_succ_eq_append_getElem h, List.foldl_append]; rfl

theorem c31 : ∀ (m : Nat) (t : T), t.post.length ≤ m → t.ok → t.post.length ≤ 1000 → PCall prog [] 31 [nds t.post] (· = .int .i64 t.ht) := by
  intro m
  induction m with
  | zero => intro t hm; have := t.post_pos; omega
  | succ m ih =>
    intro t hm h hl
    refine PCall.enter mixed comp31 ?_
    dsimp only [ir31]
    have hkl := t.kids_len h
    have hal := ar_le t.root.k
    (repeat (first | with_reducible refine And.intro trivial ?_ | with_reducible refine And.intro rfl ?_ | (with_reducible refine And.intro ?_ ?_; focus ((repeat' (first | with_reducible exact trivial | with_reducible exact rfl | (with_reducible apply And.intro) | exact in64 (by omega) (by omega) | omega)); done)) | dsimp only [go_sem, Nat.reduceAdd, Nat.reduceSub, Option.map, bne, BEq.beq, nds, fcs] | simp only [sS, Int.cast_ofNat_Int, Int.reduceEq, Int.reduceLT, Int.reduceLE, Int.reduceAdd, Int.reduceSub, Int.reduceToNat]))
    refine cpe [] (c53 t h hl) rfl ?_
    (repeat (first | with_reducible refine And.intro trivial ?_ | with_reducible refine And.intro rfl ?_ | (with_reducible refine And.intro ?_ ?_; focus ((repeat' (first | with_reducible exact trivial | with_reducible exact rfl | (with_reducible apply And.intro) | exact in64 (by omega) (by omega) | omega)); done)) | dsimp only [go_sem, Nat.reduceAdd, Nat.reduceSub, Option.map, bne, BEq.beq, nds, fcs] | simp only [sS, Int.cast_ofNat_Int, Int.reduceEq, Int.reduceLT, Int.reduceLE, Int.reduceAdd, Int.reduceSub, Int.reduceToNat]))
    refine lp [3] (fun i : Nat => [(4, .g (.int .i64 (maxHt (t.kids.take i)))), (5, .g (.int .i64 i))]) (fun _ => []) (fun i => i ≤ t.kids.length ∧ maxHt (t.kids.take i) ≤ 1000) (fun i => t.kids.length - i) 0 ⟨rfl, rfl, trivial⟩ rfl ⟨by omega, by simp [maxHt]⟩ ?_
    rintro i ⟨hi, hmx⟩
    (repeat (first | with_reducible refine And.intro trivial ?_ | with_reducible refine And.intro rfl ?_ | (with_reducible refine And.intro ?_ ?_; focus ((repeat' (first | with_reducible exact trivial | with_reducible exact rfl | (with_reducible apply And.intro) | exact in64 (by omega) (by omega) | omega)); done)) | dsimp only [go_sem, Nat.reduceAdd, Nat.reduceSub, Option.map, bne, BEq.beq, nds, fcs] | simp only [sS, Int.cast_ofNat_Int, Int.reduceEq, Int.reduceLT, Int.reduceLE, Int.reduceAdd, Int.reduceSub, Int.reduceToNat]))
    refine br (fun h1 => ?_) (fun h1 => ?_)
    · simp only [decide_eq_true_eq] at h1
      have hlt : i < t.kids.length := by omega
      have hk := List.getElem_mem hlt
      have e1 : (List.map ndsC t.kids).getD i [] = [nds t.kids[i].post] := getD_at ndsC t.kids hlt
      have hkl := t.kid_len _ hk
      have hth := T.ht_le t.kids[i]
      have hmt := maxHt_take t.kids hlt
      (repeat (first | with_reducible refine And.intro trivial ?_ | with_reducible refine And.intro rfl ?_ | (with_reducible refine And.intro ?_ ?_; focus ((repeat' (first | with_reducible exact trivial | with_reducible exact rfl | (with_reducible apply And.intro) | exact in64 (by omega) (by omega) | omega)); done)) | dsimp only [go_sem, Nat.reduceAdd, Nat.reduceSub, Option.map, bne, BEq.beq, nds, fcs] | simp only [sS, Int.cast_ofNat_Int, Int.reduceEq, Int.reduceLT, Int.reduceLE, Int.reduceAdd, Int.reduceSub, Int.reduceToNat]))
      simp only [e1]
      (repeat (first | with_reducible refine And.intro trivial ?_ | with_reducible refine And.intro rfl ?_ | (with_reducible refine And.intro ?_ ?_; focus ((repeat' (first | with_reducible exact trivial | with_reducible exact rfl | (with_reducible apply And.intro) | exact in64 (by omega) (by omega) | omega)); done)) | dsimp only [go_sem, Nat.reduceAdd, Nat.reduceSub, Option.map, bne, BEq.beq, nds, fcs] | simp only [sS, Int.cast_ofNat_Int, Int.reduceEq, Int.reduceLT, Int.reduceLE, Int.reduceAdd, Int.reduceSub, Int.reduceToNat]))
      refine cpe [] (ih t.kids[i] (by omega) (t.kids_ok h _ hk) (by omega)) rfl ?_
      (repeat (first | with_reducible refine And.intro trivial ?_ | with_reducible refine And.intro rfl ?_ | (with_reducible refine And.intro ?_ ?_; focus ((repeat' (first | with_reducible exact trivial | with_reducible exact rfl | (with_reducible apply And.intro) | exact in64 (by omega) (by omega) | omega)); done)) | dsimp only [go_sem, Nat.reduceAdd, Nat.reduceSub, Option.map, bne, BEq.beq, nds, fcs] | simp only [sS, Int.cast_ofNat_Int, Int.reduceEq, Int.reduceLT, Int.reduceLE, Int.reduceAdd, Int.reduceSub, Int.reduceToNat]))
      refine br (fun h2 => ?_) (fun h2 => ?_)
      · simp only [decide_eq_true_eq] at h2
        (repeat (first | with_reducible refine And.intro trivial ?_ | with_reducible refine And.intro rfl ?_ | (with_reducible refine And.intro ?_ ?_; focus ((repeat' (first | with_reducible exact trivial | with_reducible exact rfl | (with_reducible apply And.intro) | exact in64 (by omega) (by omega) | omega)); done)) | dsimp only [go_sem, Nat.reduceAdd, Nat.reduceSub, Option.map, bne, BEq.beq, nds, fcs] | simp only [sS, Int.cast_ofNat_Int, Int.reduceEq, Int.reduceLT, Int.reduceLE, Int.reduceAdd, Int.reduceSub, Int.reduceToNat]))
        refine rnd (i + 1) rfl ⟨rfl, trivial⟩ ⟨?_, rfl, trivial⟩ rfl ⟨by omega, by omega⟩ (by omega)
        show LV.g (.int .i64 (t.kids[i].ht : Int)) = LV.g (.int .i64 (maxHt (t.kids.take (i + 1)) : Int))
        congr 2; omega
      · simp only [decide_eq_false_iff_not] at h2
        (repeat (first | with_reducible refine And.intro trivial ?_ | with_reducible refine And.intro rfl ?_ | (with_reducible refine And.intro ?_ ?_; focus ((repeat' (first | with_reducible exact trivial | with_reducible exact rfl | (with_reducible apply And.intro) | exact in64 (by omega) (by omega) | omega)); done)) | dsimp only [go_sem, Nat.reduceAdd, Nat.reduceSub, Option.map, bne, BEq.beq, nds, fcs] | simp only [sS, Int.cast_ofNat_Int, Int.reduceEq, Int.reduceLT, Int.reduceLE, Int.reduceAdd, Int.reduceSub, Int.reduceToNat]))
        refine rnd (i + 1) rfl ⟨rfl, trivial⟩ ⟨?_, rfl, trivial⟩ rfl ⟨by omega, by omega⟩ (by omega)
        show LV.g (.int .i64 (maxHt (t.kids.take i) : Int)) = LV.g (.int .i64 (maxHt (t.kids.take (i + 1)) : Int))
        congr 2; omega
    · simp only [decide_eq_false_iff_not] at h1
      obtain rfl : i = t.kids.length := by omega
      (repeat (first | with_reducible refine And.intro trivial ?_ | with_reducible refine And.intro rfl ?_ | (with_reducible refine And.intro ?_ ?_; focus ((repeat' (first | with_reducible exact trivial | with_reducible exact rfl | (with_reducible apply And.intro) | exact in64 (by omega) (by omega) | omega)); done)) | dsimp only [go_sem, Nat.reduceAdd, Nat.reduceSub, Option.map, bne, BEq.beq, nds, fcs] | simp only [sS, Int.cast_ofNat_Int, Int.reduceEq, Int.reduceLT, Int.reduceLE, Int.reduceAdd, Int.reduceSub, Int.reduceToNat]))
      refine fin0 ?_; (repeat (first | with_reducible refine And.intro trivial ?_ | with_reducible refine And.intro rfl ?_ | (with_reducible refine And.intro ?_ ?_; focus ((repeat' (first | with_reducible exact trivial | with_reducible exact rfl | (with_reducible apply And.intro) | exact in64 (by omega) (by omega) | omega)); done)) | dsimp only [go_sem, Nat.reduceAdd, Nat.reduceSub, Option.map, bne, BEq.beq, nds, fcs] | simp only [sS, Int.cast_ofNat_Int, Int.reduceEq, Int.reduceLT, Int.reduceLE, Int.reduceAdd, Int.reduceSub, Int.reduceToNat]))
      rw [List.take_length, t.ht_eq]; rfl

/-- A valid path's tree. -/
def pathT (ns : List Nd) : Option T :=
  if 1 ≤ ns.length ∧ ns.length ≤ 100 ∧ ∀ n ∈ ns, goodN n = true then
    match parse ns with
    | some t => if t.ht ≤ 64 then some t else none
    | none => none
  else none
theorem c6 (ns : List Nd) : PCall prog [] 6 [.agg [nds ns]] (· = .bool (pathT ns).isSome) := by
  refine PCall.small fun hsm => PCall.enter mixed comp6 ?_
  have hx : ns.length ≤ 9223372036854775807 := by simpa [nds] using hsm.1.1.1
  dsimp only [ir6]
  (repeat (first | with_reducible refine And.intro trivial ?_ | with_reducible refine And.intro rfl ?_ | (with_reducible refine And.intro ?_ ?_; focus ((repeat' (first | with_reducible exact trivial | with_reducible exact rfl | (with_reducible apply And.intro) | exact in64 (by omega) (by omega) | omega)); done)) | dsimp only [go_sem, Nat.reduceAdd, Nat.reduceSub, Option.map, bne, BEq.beq, nds, fcs] | simp only [sS, Int.cast_ofNat_Int, Int.reduceEq, Int.reduceLT, Int.reduceLE, Int.reduceAdd, Int.reduceSub, Int.reduceToNat]))
  by_cases hc1 : ns.length < 1
  · have hd : decide ((ns.length : Int) < 1) = true := by simp only [decide_eq_true_eq]; omega
    (repeat (simp only [hd]; (repeat (first | with_reducible refine And.intro trivial ?_ | with_reducible refine And.intro rfl ?_ | (with_reducible refine And.intro ?_ ?_; focus ((repeat' (first | with_reducible exact trivial | with_reducible exact rfl | (with_reducible apply And.intro) | exact in64 (by omega) (by omega) | omega)); done)) | dsimp only [go_sem, Nat.reduceAdd, Nat.reduceSub, Option.map, bne, BEq.beq, nds, fcs] | simp only [sS, Int.cast_ofNat_Int, Int.reduceEq, Int.reduceLT, Int.reduceLE, Int.reduceAdd, Int.reduceSub, Int.reduceToNat]))))
    refine fin0 ?_; (repeat (first | with_reducible refine And.intro trivial ?_ | with_reducible refine And.intro rfl ?_ | (with_reducible refine And.intro ?_ ?_; focus ((repeat' (first | with_reducible exact trivial | with_reducible exact rfl | (with_reducible apply And.intro) | exact in64 (by omega) (by omega) | omega)); done)) | dsimp only [go_sem, Nat.reduceAdd, Nat.reduceSub, Option.map, bne, BEq.beq, nds, fcs] | simp only [sS, Int.cast_ofNat_Int, Int.reduceEq, Int.reduceLT, Int.reduceLE, Int.reduceAdd, Int.reduceSub, Int.reduceToNat]))
    have : pathT ns = none := by unfold pathT; rw [if_neg (by omega)]
    rw [this]; rfl
  have hd : decide ((ns.length : Int) < 1) = false := by simp; omega
  by_cases hc2 : 100 < ns.length
  · have hd2 : decide (100 < (ns.length : Int)) = true := by simp; omega
    (repeat (simp only [hd, hd2]; (repeat (first | with_reducible refine And.intro trivial ?_ | with_reducible refine And.intro rfl ?_ | (with_reducible refine And.intro ?_ ?_; focus ((repeat' (first | with_reducible exact trivial | with_reducible exact rfl | (with_reducible apply And.intro) | exact in64 (by omega) (by omega) | omega)); done)) | dsimp only [go_sem, Nat.reduceAdd, Nat.reduceSub, Option.map, bne, BEq.beq, nds, fcs] | simp only [sS, Int.cast_ofNat_Int, Int.reduceEq, Int.reduceLT, Int.reduceLE, Int.reduceAdd, Int.reduceSub, Int.reduceToNat]))))
    refine fin0 ?_; (repeat (first | with_reducible refine And.intro trivial ?_ | with_reducible refine And.intro rfl ?_ | (with_reducible refine And.intro ?_ ?_; focus ((repeat' (first | with_reducible exact trivial | with_reducible exact rfl | (with_reducible apply And.intro) | exact in64 (by omega) (by omega) | omega)); done)) | dsimp only [go_sem, Nat.reduceAdd, Nat.reduceSub, Option.map, bne, BEq.beq, nds, fcs] | simp only [sS, Int.cast_ofNat_Int, Int.reduceEq, Int.reduceLT, Int.reduceLE, Int.reduceAdd, Int.reduceSub, Int.reduceToNat]))
    have : pathT ns = none := by unfold pathT; rw [if_neg (by omega)]
    rw [this]; rfl
  have hd2 : decide (100 < (ns.length : Int)) = false := by simp; omega
  (repeat (simp only [hd, hd2]; (repeat (first | with_reducible refine And.intro trivial ?_ | with_reducible refine And.intro rfl ?_ | (with_reducible refine And.intro ?_ ?_; focus ((repeat' (first | with_reducible exact trivial | with_reducible exact rfl | (with_reducible apply And.intro) | exact in64 (by omega) (by omega) | omega)); done)) | dsimp only [go_sem, Nat.reduceAdd, Nat.reduceSub, Option.map, bne, BEq.beq, nds, fcs] | simp only [sS, Int.cast_ofNat_Int, Int.reduceEq, Int.reduceLT, Int.reduceLE, Int.reduceAdd, Int.reduceSub, Int.reduceToNat]))))
  refine lp [1] (fun i : Nat => [(3, .g (.int .i64 i))]) (fun _ => [.cells [.g (nds ns)]]) (fun i => i ≤ ns.length ∧ ∀ n ∈ ns.take i, goodN n = true) (fun i => ns.length - i) 0 ⟨rfl, trivial⟩ rfl ⟨by omega, by simp⟩ ?_
  rintro i ⟨hi, hg⟩
  (repeat (first | with_reducible refine And.intro trivial ?_ | with_reducible refine And.intro rfl ?_ | (with_reducible refine And.intro ?_ ?_; focus ((repeat' (first | with_reducible exact trivial | with_reducible exact rfl | (with_reducible apply And.intro) | exact in64 (by omega) (by omega) | omega)); done)) | dsimp only [go_sem, Nat.reduceAdd, Nat.reduceSub, Option.map, bne, BEq.beq, nds, fcs] | simp only [sS, Int.cast_ofNat_Int, Int.reduceEq, Int.reduceLT, Int.reduceLE, Int.reduceAdd, Int.reduceSub, Int.reduceToNat]))
  refine br (fun h1 => ?_) (fun h1 => ?_)
  · simp only [decide_eq_true_eq] at h1
    have hlt : i < ns.length := by omega
    have e1 := getD_at ndC ns hlt
    (repeat (first | with_reducible refine And.intro trivial ?_ | with_reducible refine And.intro rfl ?_ | (with_reducible refine And.intro ?_ ?_; focus ((repeat' (first | with_reducible exact trivial | with_reducible exact rfl | (with_reducible apply And.intro) | exact in64 (by omega) (by omega) | omega)); done)) | dsimp only [go_sem, Nat.reduceAdd, Nat.reduceSub, Option.map, bne, BEq.beq, nds, fcs] | simp only [sS, Int.cast_ofNat_Int, Int.reduceEq, Int.reduceLT, Int.reduceLE, Int.reduceAdd, Int.reduceSub, Int.reduceToNat]))
    simp only [e1, ndC]
    (repeat (first | with_reducible refine And.intro trivial ?_ | with_reducible refine And.intro rfl ?_ | (with_reducible refine And.intro ?_ ?_; focus ((repeat' (first | with_reducible exact trivial | with_reducible exact rfl | (with_reducible apply And.intro) | exact in64 (by omega) (by omega) | omega)); done)) | dsimp only [go_sem, Nat.reduceAdd, Nat.reduceSub, Option.map, bne, BEq.beq, nds, fcs] | simp only [sS, Int.cast_ofNat_Int, Int.reduceEq, Int.reduceLT, Int.reduceLE, Int.reduceAdd, Int.reduceSub, Int.reduceToNat]))
    refine cpe [] (c29 ns[i]) rfl ?_
    (repeat (first | with_reducible refine And.intro trivial ?_ | with_reducible refine And.intro rfl ?_ | (with_reducible refine And.intro ?_ ?_; focus ((repeat' (first | with_reducible exact trivial | with_reducible exact rfl | (with_reducible apply And.intro) | exact in64 (by omega) (by omega) | omega)); done)) | dsimp only [go_sem, Nat.reduceAdd, Nat.reduceSub, Option.map, bne, BEq.beq, nds, fcs] | simp only [sS, Int.cast_ofNat_Int, Int.reduceEq, Int.reduceLT, Int.reduceLE, Int.reduceAdd, Int.reduceSub, Int.reduceToNat]))
    refine br (fun h2 => ?_) (fun h2 => ?_)
    · (repeat (first | with_reducible refine And.intro trivial ?_ | with_reducible refine And.intro rfl ?_ | (with_reducible refine And.intro ?_ ?_; focus ((repeat' (first | with_reducible exact trivial | with_reducible exact rfl | (with_reducible apply And.intro) | exact in64 (by omega) (by omega) | omega)); done)) | dsimp only [go_sem, Nat.reduceAdd, Nat.reduceSub, Option.map, bne, BEq.beq, nds, fcs] | simp only [sS, Int.cast_ofNat_Int, Int.reduceEq, Int.reduceLT, Int.reduceLE, Int.reduceAdd, Int.reduceSub, Int.reduceToNat]))
      refine fin0 ?_; (repeat (first | with_reducible refine And.intro trivial ?_ | with_reducible refine And.intro rfl ?_ | (with_reducible refine And.intro ?_ ?_; focus ((repeat' (first | with_reducible exact trivial | with_reducible exact rfl | (with_reducible apply And.intro) | exact in64 (by omega) (by omega) | omega)); done)) | dsimp only [go_sem, Nat.reduceAdd, Nat.reduceSub, Option.map, bne, BEq.beq, nds, fcs] | simp only [sS, Int.cast_ofNat_Int, Int.reduceEq, Int.reduceLT, Int.reduceLE, Int.reduceAdd, Int.reduceSub, Int.reduceToNat]))
      have : pathT ns = none := by
        unfold pathT; rw [if_neg]
        rintro ⟨_, _, h3⟩
        have := h3 ns[i] (List.getElem_mem hlt)
        simp [this] at h2
      rw [this]; rfl
    · (repeat (first | with_reducible refine And.intro trivial ?_ | with_reducible refine And.intro rfl ?_ | (with_reducible refine And.intro ?_ ?_; focus ((repeat' (first | with_reducible exact trivial | with_reducible exact rfl | (with_reducible apply And.intro) | exact in64 (by omega) (by omega) | omega)); done)) | dsimp only [go_sem, Nat.reduceAdd, Nat.reduceSub, Option.map, bne, BEq.beq, nds, fcs] | simp only [sS, Int.cast_ofNat_Int, Int.reduceEq, Int.reduceLT, Int.reduceLE, Int.reduceAdd, Int.reduceSub, Int.reduceToNat]))
      refine rnd (i + 1) rfl ⟨rfl, trivial⟩ ⟨rfl, trivial⟩ rfl ⟨by omega, ?_⟩ (by omega)
      intro n hn
      rw [List.take_succ_eq_append_getElem hlt] at hn
      rcases List.mem_append.1 hn with hn | hn
      · exact hg n hn
      · simp at hn; subst hn; simpa using h2
  · simp only [decide_eq_false_iff_not] at h1
    obtain rfl : i = ns.length := by omega
    rw [List.take_length] at hg
    (repeat (first | with_reducible refine And.intro trivial ?_ | with_reducible refine And.intro rfl ?_ | (with_reducible refine And.intro ?_ ?_; focus ((repeat' (first | with_reducible exact trivial | with_reducible exact rfl | (with_reducible apply And.intro) | exact in64 (by omega) (by omega) | omega)); done)) | dsimp only [go_sem, Nat.reduceAdd, Nat.reduceSub, Option.map, bne, BEq.beq, nds, fcs] | simp only [sS, Int.cast_ofNat_Int, Int.reduceEq, Int.reduceLT, Int.reduceLE, Int.reduceAdd, Int.reduceSub, Int.reduceToNat]))
    refine cpe [] (c30 ns (by omega)) rfl ?_
    (repeat (first | with_reducible refine And.intro trivial ?_ | with_reducible refine And.intro rfl ?_ | (with_reducible refine And.intro ?_ ?_; focus ((repeat' (first | with_reducible exact trivial | with_reducible exact rfl | (with_reducible apply And.intro) | exact in64 (by omega) (by omega) | omega)); done)) | dsimp only [go_sem, Nat.reduceAdd, Nat.reduceSub, Option.map, bne, BEq.beq, nds, fcs] | simp only [sS, Int.cast_ofNat_Int, Int.reduceEq, Int.reduceLT, Int.reduceLE, Int.reduceAdd, Int.reduceSub, Int.reduceToNat]))
    cases hp : parse ns with
    | none =>
      have hf : fromGo ns ns.length 1 ≠ 0 := by
        intro h; have := (from_zero hg).1 h; rw [hp] at this; cases this
      have hd3 : decide (fromGo ns ns.length 1 = 0) = false := by simpa using hf
      (repeat (simp only [hd3]; (repeat (first | with_reducible refine And.intro trivial ?_ | with_reducible refine And.intro rfl ?_ | (with_reducible refine And.intro ?_ ?_; focus ((repeat' (first | with_reducible exact trivial | with_reducible exact rfl | (with_reducible apply And.intro) | exact in64 (by omega) (by omega) | omega)); done)) | dsimp only [go_sem, Nat.reduceAdd, Nat.reduceSub, Option.map, bne, BEq.beq, nds, fcs] | simp only [sS, Int.cast_ofNat_Int, Int.reduceEq, Int.reduceLT, Int.reduceLE, Int.reduceAdd, Int.reduceSub, Int.reduceToNat]))))
      refine fin0 ?_; (repeat (first | with_reducible refine And.intro trivial ?_ | with_reducible refine And.intro rfl ?_ | (with_reducible refine And.intro ?_ ?_; focus ((repeat' (first | with_reducible exact trivial | with_reducible exact rfl | (with_reducible apply And.intro) | exact in64 (by omega) (by omega) | omega)); done)) | dsimp only [go_sem, Nat.reduceAdd, Nat.reduceSub, Option.map, bne, BEq.beq, nds, fcs] | simp only [sS, Int.cast_ofNat_Int, Int.reduceEq, Int.reduceLT, Int.reduceLE, Int.reduceAdd, Int.reduceSub, Int.reduceToNat]))
      have : pathT ns = none := by unfold pathT; rw [hp]; split <;> rfl
      rw [this]; rfl
    | some t =>
      obtain ⟨htok, htp⟩ := parse_some hg hp
      have hd3 : decide (fromGo ns ns.length 1 = 0) = true := by
        simp only [decide_eq_true_eq]; exact (from_zero hg).2 (by rw [hp]; rfl)
      (repeat (simp only [hd3]; (repeat (first | with_reducible refine And.intro trivial ?_ | with_reducible refine And.intro rfl ?_ | (with_reducible refine And.intro ?_ ?_; focus ((repeat' (first | with_reducible exact trivial | with_reducible exact rfl | (with_reducible apply And.intro) | exact in64 (by omega) (by omega) | omega)); done)) | dsimp only [go_sem, Nat.reduceAdd, Nat.reduceSub, Option.map, bne, BEq.beq, nds, fcs] | simp only [sS, Int.cast_ofNat_Int, Int.reduceEq, Int.reduceLT, Int.reduceLE, Int.reduceAdd, Int.reduceSub, Int.reduceToNat]))))
      have hc := c31 _ t (Nat.le_refl _) htok (by rw [htp]; omega)
      rw [htp] at hc
      refine cpe [] hc rfl ?_
      (repeat (first | with_reducible refine And.intro trivial ?_ | with_reducible refine And.intro rfl ?_ | (with_reducible refine And.intro ?_ ?_; focus ((repeat' (first | with_reducible exact trivial | with_reducible exact rfl | (with_reducible apply And.intro) | exact in64 (by omega) (by omega) | omega)); done)) | dsimp only [go_sem, Nat.reduceAdd, Nat.reduceSub, Option.map, bne, BEq.beq, nds, fcs] | simp only [sS, Int.cast_ofNat_Int, Int.reduceEq, Int.reduceLT, Int.reduceLE, Int.reduceAdd, Int.reduceSub, Int.reduceToNat]))
      refine fin0 ?_; (repeat (first | with_reducible refine And.intro trivial ?_ | with_reducible refine And.intro rfl ?_ | (with_reducible refine And.intro ?_ ?_; focus ((repeat' (first | with_reducible exact trivial | with_reducible exact rfl | (with_reducible apply And.intro) | exact in64 (by omega) (by omega) | omega)); done)) | dsimp only [go_sem, Nat.reduceAdd, Nat.reduceSub, Option.map, bne, BEq.beq, nds, fcs] | simp only [sS, Int.cast_ofNat_Int, Int.reduceEq, Int.reduceLT, Int.reduceLE, Int.reduceAdd, Int.reduceSub, Int.reduceToNat]))
      rw [V.bool.injEq]
      unfold pathT
      rw [if_pos ⟨by omega, by omega, hg⟩, hp]
      by_cases h64 : t.ht ≤ 64
      · simp [h64]; omega
      · simp [h64]; omega
end Go.Av

namespace Go.Av
set_option linter.unusedVariables false
set_option linter.unusedSimpArgs false

abbrev B := List UInt8
theorem B_irrefl (a : B) : ¬ a < a := List.lt_irrefl a
theorem B_trans {a b c : B} (h : a < b) (k : b < c) : a < c := List.lt_trans h k
theorem B_tri (a b : B) : a < b ∨ a = b ∨ b < a := by
  have := list_tri a b
  by_cases h1 : a < b
  · exact .inl h1
  by_cases h2 : b < a
  · exact .inr (.inr h2)
  · refine .inr (.inl ?_)
    simp [h1, h2] at this; exact this
def Sd (ts : List B) : Prop := ts.Pairwise (· < ·)
/-- How many stand before a text. -/
def cntB (x : B) : List B → Nat
  | [] => 0
  | t :: ts => if t < x then cntB x ts + 1 else 0
theorem cntB_le (x : B) : ∀ ts : List B, cntB x ts ≤ ts.length
  | [] => Nat.le_refl _
  | t :: ts => by unfold cntB; split <;> simp; exact cntB_le x ts
theorem cntB_lt (x : B) : ∀ (ts : List B) (i : Nat) (h : i < ts.length), i < cntB x ts → ts[i] < x
  | t :: ts, 0, h, hi => by unfold cntB at hi; split at hi <;> simp_all
  | t :: ts, i + 1, h, hi => by
    unfold cntB at hi; split at hi
    · exact cntB_lt x ts i (by simpa using h) (by omega)
    · omega
theorem cntB_end (x : B) : ∀ (ts : List B) (h : cntB x ts < ts.length), ¬ ts[cntB x ts] < x
  | t :: ts, h => by
    by_cases ht : t < x
    · have e : cntB x (t :: ts) = cntB x ts + 1 := by simp [cntB, ht]
      have h' : cntB x ts < ts.length := by rw [e] at h; simpa using h
      have := cntB_end x ts h'
      simpa [e] using this
    · have e : cntB x (t :: ts) = 0 := by simp [cntB, ht]
      simpa [e] using ht
def addS (ts : List B) (x : B) : List B := if x ∈ ts then ts else ts.take (cntB x ts) ++ x :: ts.drop (cntB x ts)
theorem mem_addS {ts : List B} {x y : B} : y ∈ addS ts x ↔ y = x ∨ y ∈ ts := by
  unfold addS
  split
  · rename_i h
    constructor
    · exact .inr
    · rintro (rfl | h'); exact h; exact h'
  · have : y ∈ ts ↔ y ∈ ts.take (cntB x ts) ∨ y ∈ ts.drop (cntB x ts) := by
      conv => lhs; rw [← List.take_append_drop (cntB x ts) ts, List.mem_append]
    rw [List.mem_append, List.mem_cons, this]
    constructor
    · rintro (h | h | h)
      · exact .inr (.inl h)
      · exact .inl h
      · exact .inr (.inr h)
    · rintro (h | h | h)
      · exact .inr (.inl h)
      · exact .inl h
      · exact .inr (.inr h)
theorem addS_sd {ts : List B} {x : B} (h : Sd ts) : Sd (addS ts x) := by
  unfold addS
  split
  · exact h
  · rename_i hx
    unfold Sd at *
    rw [List.pairwise_append, List.pairwise_cons]
    have h1 : ∀ a ∈ ts.take (cntB x ts), a < x := by
      intro a ha
      obtain ⟨i, hi, rfl⟩ := List.mem_iff_getElem.1 ha
      rw [List.getElem_take]
      exact cntB_lt x ts i _ (by simp at hi; omega)
    have hgt : ∀ i (hi : i < ts.length), cntB x ts ≤ i → x < ts[i] := by
      intro i hi hle
      have h0 := cntB_end x ts (by omega)
      have h2 : x < ts[cntB x ts] := by
        rcases B_tri (ts[cntB x ts]) x with h | h | h
        · exact absurd h h0
        · exact absurd (h ▸ List.getElem_mem _) hx
        · exact h
      by_cases e : cntB x ts = i
      · subst e; exact h2
      · exact B_trans h2 (List.pairwise_iff_getElem.1 h _ _ (by omega) hi (by omega))
    refine ⟨h.sublist (List.take_sublist _ _), ⟨?_, h.sublist (List.drop_sublist _ _)⟩, ?_⟩
    · intro a ha
      obtain ⟨i, hi, rfl⟩ := List.mem_iff_getElem.1 ha
      rw [List.getElem_drop]
      exact hgt _ (by simp at hi; omega) (by omega)
    · intro a ha b hb
      rcases List.mem_cons.1 hb with rfl | hb
      · exact h1 a ha
      · obtain ⟨i, hi, rfl⟩ := List.mem_iff_getElem.1 hb
        rw [List.getElem_drop]
        exact B_trans (h1 a ha) (hgt _ (by simp at hi; omega) (by omega))
theorem addS_len (ts : List B) (x : B) : (addS ts x).length ≤ ts.length + 1 := by
  unfold addS; split
  · omega
  · have := cntB_le x ts; simp; omega
/-- Two sorted lists with the same texts. -/
theorem Sd_ext : ∀ {a b : List B}, Sd a → Sd b → (∀ x, x ∈ a ↔ x ∈ b) → a = b
  | [], [], _, _, _ => rfl
  | [], y :: b, _, _, h => by have := (h y).2 (by simp); simp at this
  | x :: a, [], _, _, h => by have := (h x).1 (by simp); simp at this
  | x :: a, y :: b, ha, hb, h => by
    obtain ⟨h1, h2⟩ := List.pairwise_cons.1 ha
    obtain ⟨k1, k2⟩ := List.pairwise_cons.1 hb
    have hxy : x = y := by
      rcases List.mem_cons.1 ((h x).1 (by simp)) with e | e
      · exact e
      · rcases List.mem_cons.1 ((h y).2 (by simp)) with e' | e'
        · exact e'.symm
        · exact absurd (B_trans (h1 y e') (k1 x e)) (B_irrefl x)
    subst hxy
    congr 1
    refine Sd_ext h2 k2 fun z => ?_
    constructor
    · intro hz
      rcases List.mem_cons.1 ((h z).1 (by simp [hz])) with e | e
      · subst e; exact absurd (h1 z hz) (B_irrefl z)
      · exact e
    · intro hz
      rcases List.mem_cons.1 ((h z).2 (by simp [hz])) with e | e
      · subst e; exact absurd (k1 z hz) (B_irrefl z)
      · exact e

/-- Does the fact count in the context? -/
def inl (lab : Option B) (f : Fc) : Bool :=
  match lab with
  | none => true
  | some g => decide (f.g = g)
/-- What a fact adds to the meaning of a node, a the meaning of its operand. -/
def step1 (n : Nd) (a : List B) (out : List B) (f : Fc) : List B :=
  if n.k = 1 then addS (addS out f.s) f.o
  else if n.k = 2 then (if f.s = n.s ∨ f.o = n.s then addS out n.s else out)
  else if n.k = 3 then (if f.p = n.s ∧ f.s ∈ a then addS out f.o else out)
  else if n.k = 4 then (if f.p = n.s ∧ f.o ∈ a then addS out f.s else out)
  else if n.k = 5 then (if f.p = n.s ∧ f.o = n.t ∧ f.s ∈ a then addS out f.s else out)
  else out
def M (fs : List Fc) : T → Option B → List B
  | .lf n, lab => (fs.filter (inl lab)).foldl (step1 n []) []
  | .un n a, lab => if n.k = 9 then M fs a (some n.s) else (fs.filter (inl lab)).foldl (step1 n (M fs a lab)) []
  | .bn n a b, lab =>
    if n.k = 6 then (M fs a lab).filter (fun x => decide (x ∈ M fs b lab))
    else if n.k = 8 then (M fs a lab).filter (fun x => !decide (x ∈ M fs b lab))
    else (M fs b lab).foldl addS (M fs a lab)
theorem foldl_sd {α : Type} (f : List B → α → List B) (hf : ∀ l x, Sd l → Sd (f l x)) : ∀ (xs : List α) (l : List B), Sd l → Sd (xs.foldl f l)
  | [], l, h => h
  | x :: xs, l, h => foldl_sd f hf xs _ (hf l x h)
theorem step1_sd (n : Nd) (a : List B) (l : List B) (f : Fc) (h : Sd l) : Sd (step1 n a l f) := by
  unfold step1; (repeat' split) <;> first | exact h | exact addS_sd h | exact addS_sd (addS_sd h)
theorem M_sd (fs : List Fc) : ∀ (t : T) (lab : Option B), Sd (M fs t lab)
  | .lf n, lab => foldl_sd _ (step1_sd n []) _ _ List.Pairwise.nil
  | .un n a, lab => by
    unfold M; split
    · exact M_sd fs a _
    · exact foldl_sd _ (step1_sd n _) _ _ List.Pairwise.nil
  | .bn n a b, lab => by
    unfold M; split
    · exact (M_sd fs a lab).sublist List.filter_sublist
    · split
      · exact (M_sd fs a lab).sublist List.filter_sublist
      · exact foldl_sd _ (fun l x h => addS_sd h) _ _ (M_sd fs a lab)
theorem step1_len (n : Nd) (a l : List B) (f : Fc) : (step1 n a l f).length ≤ l.length + 2 := by
  have h1 := addS_len l f.s; have h2 := addS_len (addS l f.s) f.o; have h3 := addS_len l n.s; have h4 := addS_len l f.o
  unfold step1; (repeat' split) <;> omega
theorem foldl_len {α : Type} (f : List B → α → List B) (c : Nat) (hf : ∀ l x, (f l x).length ≤ l.length + c) : ∀ (xs : List α) (l : List B), (xs.foldl f l).length ≤ l.length + c * xs.length
  | [], l => by simp
  | x :: xs, l => by
    have h1 := foldl_len f c hf xs (f l x); have h2 := hf l x
    simp only [List.foldl_cons, List.length_cons, Nat.mul_add]; omega
/-- The texts of a meaning are texts of facts. -/
def texts (fs : List Fc) : List B := fs.flatMap fun f => [f.s, f.o]
theorem foldl_mem {α : Type} (f : List B → α → List B) (p : B → Prop) (xs : List α) (hf : ∀ l x, x ∈ xs → (∀ y ∈ l, p y) → ∀ y ∈ f l x, p y) (l : List B) (h : ∀ y ∈ l, p y) : ∀ y ∈ xs.foldl f l, p y := by
  induction xs generalizing l with
  | nil => exact h
  | cons x xs ih => exact ih (fun l x hx => hf l x (by simp [hx])) _ (hf l x (by simp) h)
theorem M_texts (fs : List Fc) : ∀ (t : T) (lab : Option B), ∀ x ∈ M fs t lab, x ∈ texts fs := by
  have hs : ∀ (n : Nd) (a : List B) (lab : Option B) (l : List B), (∀ y ∈ l, y ∈ texts fs) → ∀ y ∈ (fs.filter (inl lab)).foldl (step1 n a) l, y ∈ texts fs := by
    intro n a lab l hl
    refine foldl_mem _ _ _ (fun l f hf hl y hy => ?_) l hl
    have hf' := (List.mem_filter.1 hf).1
    have hS : f.s ∈ texts fs := List.mem_flatMap.2 ⟨f, hf', by simp⟩
    have hO : f.o ∈ texts fs := List.mem_flatMap.2 ⟨f, hf', by simp⟩
    unfold step1 at hy
    (repeat' split at hy)
    · rcases mem_addS.1 hy with rfl | hy
      · exact hO
      · rcases mem_addS.1 hy with rfl | hy
        · exact hS
        · exact hl y hy
    · rename_i h
      rcases mem_addS.1 hy with rfl | hy
      · rcases h with h | h
        · rw [← h]; exact hS
        · rw [← h]; exact hO
      · exact hl y hy
    · exact hl y hy
    · rcases mem_addS.1 hy with rfl | hy
      · exact hO
      · exact hl y hy
    · exact hl y hy
    · rcases mem_addS.1 hy with rfl | hy
      · exact hS
      · exact hl y hy
    · exact hl y hy
    · rcases mem_addS.1 hy with rfl | hy
      · exact hS
      · exact hl y hy
    · exact hl y hy
    · exact hl y hy
  intro t
  induction t with
  | lf n => intro lab; exact hs n [] lab [] (by simp)
  | un n a ih =>
    intro lab x hx
    unfold M at hx; split at hx
    · exact ih _ x hx
    · exact hs n _ lab [] (by simp) x hx
  | bn n a b iha ihb =>
    intro lab x hx
    unfold M at hx; split at hx
    · exact iha lab x (List.mem_filter.1 hx).1
    · split at hx
      · exact iha lab x (List.mem_filter.1 hx).1
      · exact foldl_mem addS _ _ (fun l y hy hl z hz => by
          rcases mem_addS.1 hz with rfl | hz
          · exact ihb lab z hy
          · exact hl z hz) _ (iha lab) x hx
theorem texts_len (fs : List Fc) : (texts fs).length = 2 * fs.length := by
  induction fs with
  | nil => rfl
  | cons f fs ih => simp [texts] at *; omega
theorem Sd_nodup {l : List B} (h : Sd l) : l.Nodup :=
  List.Pairwise.imp (R := (· < ·)) (S := (· ≠ ·)) (fun {a b} (hab : a < b) (e : a = b) => B_irrefl b (by rw [e] at hab; exact hab)) h
theorem nodup_len {a b : List B} (h : a.Nodup) (hs : ∀ x ∈ a, x ∈ b) : a.length ≤ b.length := by
  induction a generalizing b with
  | nil => simp
  | cons x a ih =>
    obtain ⟨h1, h2⟩ := List.nodup_cons.1 h
    have hx := hs x (by simp)
    have := ih (b := b.erase x) h2 fun y hy => by
      have : y ≠ x := fun e => h1 (e ▸ hy)
      exact (List.mem_erase_of_ne this).2 (hs y (by simp [hy]))
    rw [List.length_erase_of_mem hx] at this
    have := List.length_pos_of_mem hx
    simp; omega
theorem M_len (fs : List Fc) (t : T) (lab : Option B) : (M fs t lab).length ≤ 2 * fs.length := by
  rw [← texts_len]; exact nodup_len (Sd_nodup (M_sd fs t lab)) (M_texts fs t lab)
end Go.Av

namespace Go.Av
set_option maxRecDepth 100000
set_option maxHeartbeats 4000000
set_option linter.unusedVariables false
set_option linter.unusedSimpArgs false

theorem c63 (ts : List B) (x : B) : PCall prog [] 63 [strs ts, .str x] (· = .bool (decide (x ∈ ts))) := by
  refine PCall.small fun hsm => PCall.enter mixed comp63 ?_
  have hx : ts.length ≤ 9223372036854775807 := by simpa [strs] using hsm.1.1
  dsimp only [ir63, strs]
  (repeat (first | with_reducible refine And.intro trivial ?_ | with_reducible refine And.intro rfl ?_ | (with_reducible refine And.intro ?_ ?_; focus ((repeat' (first | with_reducible exact trivial | with_reducible exact rfl | (with_reducible apply And.intro) | exact in64 (by omega) (by omega) | omega)); done)) | dsimp only [go_sem, Nat.reduceAdd, Nat.reduceSub, Option.map, bne, BEq.beq, nds, fcs] | simp only [sS, Int.cast_ofNat_Int, Int.reduceEq, Int.reduceLT, Int.reduceLE, Int.reduceAdd, Int.reduceSub, Int.reduceToNat]))
  refine lp [0, 1] (fun i : Nat => [(5, .g (.int .i64 i))]) (fun _ => []) (fun i => i ≤ ts.length ∧ x ∉ ts.take i) (fun i => ts.length - i) 0 ⟨rfl, trivial⟩ rfl ⟨by omega, by simp⟩ ?_
  rintro i ⟨hi, hn⟩
  (repeat (first | with_reducible refine And.intro trivial ?_ | with_reducible refine And.intro rfl ?_ | (with_reducible refine And.intro ?_ ?_; focus ((repeat' (first | with_reducible exact trivial | with_reducible exact rfl | (with_reducible apply And.intro) | exact in64 (by omega) (by omega) | omega)); done)) | dsimp only [go_sem, Nat.reduceAdd, Nat.reduceSub, Option.map, bne, BEq.beq, nds, fcs] | simp only [sS, Int.cast_ofNat_Int, Int.reduceEq, Int.reduceLT, Int.reduceLE, Int.reduceAdd, Int.reduceSub, Int.reduceToNat]))
  refine br (fun h1 => ?_) (fun h1 => ?_)
  · simp only [decide_eq_true_eq] at h1
    have hlt : i < ts.length := by omega
    have e1 : (List.map strC ts).getD i [] = [.str ts[i]] := getD_at strC ts hlt
    (repeat (first | with_reducible refine And.intro trivial ?_ | with_reducible refine And.intro rfl ?_ | (with_reducible refine And.intro ?_ ?_; focus ((repeat' (first | with_reducible exact trivial | with_reducible exact rfl | (with_reducible apply And.intro) | exact in64 (by omega) (by omega) | omega)); done)) | dsimp only [go_sem, Nat.reduceAdd, Nat.reduceSub, Option.map, bne, BEq.beq, nds, fcs] | simp only [sS, Int.cast_ofNat_Int, Int.reduceEq, Int.reduceLT, Int.reduceLE, Int.reduceAdd, Int.reduceSub, Int.reduceToNat]))
    simp only [e1]
    (repeat (first | with_reducible refine And.intro trivial ?_ | with_reducible refine And.intro rfl ?_ | (with_reducible refine And.intro ?_ ?_; focus ((repeat' (first | with_reducible exact trivial | with_reducible exact rfl | (with_reducible apply And.intro) | exact in64 (by omega) (by omega) | omega)); done)) | dsimp only [go_sem, Nat.reduceAdd, Nat.reduceSub, Option.map, bne, BEq.beq, nds, fcs] | simp only [sS, Int.cast_ofNat_Int, Int.reduceEq, Int.reduceLT, Int.reduceLE, Int.reduceAdd, Int.reduceSub, Int.reduceToNat]))
    refine br (fun h2 => ?_) (fun h2 => ?_)
    · simp only [decide_eq_true_eq] at h2
      (repeat (first | with_reducible refine And.intro trivial ?_ | with_reducible refine And.intro rfl ?_ | (with_reducible refine And.intro ?_ ?_; focus ((repeat' (first | with_reducible exact trivial | with_reducible exact rfl | (with_reducible apply And.intro) | exact in64 (by omega) (by omega) | omega)); done)) | dsimp only [go_sem, Nat.reduceAdd, Nat.reduceSub, Option.map, bne, BEq.beq, nds, fcs] | simp only [sS, Int.cast_ofNat_Int, Int.reduceEq, Int.reduceLT, Int.reduceLE, Int.reduceAdd, Int.reduceSub, Int.reduceToNat]))
      refine fin0 ?_; (repeat (first | with_reducible refine And.intro trivial ?_ | with_reducible refine And.intro rfl ?_ | (with_reducible refine And.intro ?_ ?_; focus ((repeat' (first | with_reducible exact trivial | with_reducible exact rfl | (with_reducible apply And.intro) | exact in64 (by omega) (by omega) | omega)); done)) | dsimp only [go_sem, Nat.reduceAdd, Nat.reduceSub, Option.map, bne, BEq.beq, nds, fcs] | simp only [sS, Int.cast_ofNat_Int, Int.reduceEq, Int.reduceLT, Int.reduceLE, Int.reduceAdd, Int.reduceSub, Int.reduceToNat]))
      have : x ∈ ts := h2 ▸ List.getElem_mem hlt
      simp [this]
    · simp only [decide_eq_false_iff_not] at h2
      (repeat (first | with_reducible refine And.intro trivial ?_ | with_reducible refine And.intro rfl ?_ | (with_reducible refine And.intro ?_ ?_; focus ((repeat' (first | with_reducible exact trivial | with_reducible exact rfl | (with_reducible apply And.intro) | exact in64 (by omega) (by omega) | omega)); done)) | dsimp only [go_sem, Nat.reduceAdd, Nat.reduceSub, Option.map, bne, BEq.beq, nds, fcs] | simp only [sS, Int.cast_ofNat_Int, Int.reduceEq, Int.reduceLT, Int.reduceLE, Int.reduceAdd, Int.reduceSub, Int.reduceToNat]))
      refine rnd (i + 1) rfl ⟨rfl, rfl, trivial⟩ ⟨rfl, trivial⟩ rfl ⟨by omega, ?_⟩ (by omega)
      rw [List.take_succ_eq_append_getElem hlt]
      simp only [List.mem_append, List.mem_singleton, not_or]
      exact ⟨hn, fun e => h2 e.symm⟩
  · simp only [decide_eq_false_iff_not] at h1
    obtain rfl : i = ts.length := by omega
    rw [List.take_length] at hn
    (repeat (first | with_reducible refine And.intro trivial ?_ | with_reducible refine And.intro rfl ?_ | (with_reducible refine And.intro ?_ ?_; focus ((repeat' (first | with_reducible exact trivial | with_reducible exact rfl | (with_reducible apply And.intro) | exact in64 (by omega) (by omega) | omega)); done)) | dsimp only [go_sem, Nat.reduceAdd, Nat.reduceSub, Option.map, bne, BEq.beq, nds, fcs] | simp only [sS, Int.cast_ofNat_Int, Int.reduceEq, Int.reduceLT, Int.reduceLE, Int.reduceAdd, Int.reduceSub, Int.reduceToNat]))
    refine fin0 ?_; (repeat (first | with_reducible refine And.intro trivial ?_ | with_reducible refine And.intro rfl ?_ | (with_reducible refine And.intro ?_ ?_; focus ((repeat' (first | with_reducible exact trivial | with_reducible exact rfl | (with_reducible apply And.intro) | exact in64 (by omega) (by omega) | omega)); done)) | dsimp only [go_sem, Nat.reduceAdd, Nat.reduceSub, Option.map, bne, BEq.beq, nds, fcs] | simp only [sS, Int.cast_ofNat_Int, Int.reduceEq, Int.reduceLT, Int.reduceLE, Int.reduceAdd, Int.reduceSub, Int.reduceToNat]))
    simp [hn]

theorem cntB_next {x : B} {ts : List B} {i : Nat} (hi : i < ts.length) (h : i ≤ cntB x ts) (ht : ts[i] < x) : i + 1 ≤ cntB x ts := by
  by_cases e : cntB x ts = i
  · subst e; exact absurd ht (cntB_end x ts hi)
  · omega
theorem c64 (ts : List B) (x : B) (hl : ts.length ≤ 100000) : PCall prog [] 64 [strs ts, .str x] (· = strs (addS ts x)) := by
  refine PCall.enter mixed comp64 ?_
  dsimp only [ir64, strs]
  (repeat (first | with_reducible refine And.intro trivial ?_ | with_reducible refine And.intro rfl ?_ | (with_reducible refine And.intro ?_ ?_; focus ((repeat' (first | with_reducible exact trivial | with_reducible exact rfl | (with_reducible apply And.intro) | exact in64 (by omega) (by omega) | omega)); done)) | dsimp only [go_sem, Nat.reduceAdd, Nat.reduceSub, Option.map, bne, BEq.beq, nds, fcs] | simp only [sS, Int.cast_ofNat_Int, Int.reduceEq, Int.reduceLT, Int.reduceLE, Int.reduceAdd, Int.reduceSub, Int.reduceToNat]))
  refine cpe [] (c63 ts x) rfl ?_
  (repeat (first | with_reducible refine And.intro trivial ?_ | with_reducible refine And.intro rfl ?_ | (with_reducible refine And.intro ?_ ?_; focus ((repeat' (first | with_reducible exact trivial | with_reducible exact rfl | (with_reducible apply And.intro) | exact in64 (by omega) (by omega) | omega)); done)) | dsimp only [go_sem, Nat.reduceAdd, Nat.reduceSub, Option.map, bne, BEq.beq, nds, fcs] | simp only [sS, Int.cast_ofNat_Int, Int.reduceEq, Int.reduceLT, Int.reduceLE, Int.reduceAdd, Int.reduceSub, Int.reduceToNat]))
  refine br (fun h => ?_) (fun h => ?_)
  · (repeat (first | with_reducible refine And.intro trivial ?_ | with_reducible refine And.intro rfl ?_ | (with_reducible refine And.intro ?_ ?_; focus ((repeat' (first | with_reducible exact trivial | with_reducible exact rfl | (with_reducible apply And.intro) | exact in64 (by omega) (by omega) | omega)); done)) | dsimp only [go_sem, Nat.reduceAdd, Nat.reduceSub, Option.map, bne, BEq.beq, nds, fcs] | simp only [sS, Int.cast_ofNat_Int, Int.reduceEq, Int.reduceLT, Int.reduceLE, Int.reduceAdd, Int.reduceSub, Int.reduceToNat]))
    refine fin0 ?_; (repeat (first | with_reducible refine And.intro trivial ?_ | with_reducible refine And.intro rfl ?_ | (with_reducible refine And.intro ?_ ?_; focus ((repeat' (first | with_reducible exact trivial | with_reducible exact rfl | (with_reducible apply And.intro) | exact in64 (by omega) (by omega) | omega)); done)) | dsimp only [go_sem, Nat.reduceAdd, Nat.reduceSub, Option.map, bne, BEq.beq, nds, fcs] | simp only [sS, Int.cast_ofNat_Int, Int.reduceEq, Int.reduceLT, Int.reduceLE, Int.reduceAdd, Int.reduceSub, Int.reduceToNat]))
    simp only [decide_eq_true_eq] at h
    rw [addS, if_pos h]
  simp only [decide_eq_false_iff_not] at h
  (repeat (first | with_reducible refine And.intro trivial ?_ | with_reducible refine And.intro rfl ?_ | (with_reducible refine And.intro ?_ ?_; focus ((repeat' (first | with_reducible exact trivial | with_reducible exact rfl | (with_reducible apply And.intro) | exact in64 (by omega) (by omega) | omega)); done)) | dsimp only [go_sem, Nat.reduceAdd, Nat.reduceSub, Option.map, bne, BEq.beq, nds, fcs] | simp only [sS, Int.cast_ofNat_Int, Int.reduceEq, Int.reduceLT, Int.reduceLE, Int.reduceAdd, Int.reduceSub, Int.reduceToNat]))
  have hc := cntB_le x ts
  refine lp [0, 1] (fun i : Nat => [(5, .g (.int .i64 i))]) (fun _ => []) (fun i => i ≤ cntB x ts) (fun i => ts.length - i) 0 ⟨rfl, trivial⟩ rfl (by omega) ?_
  intro i hi
  (repeat (first | with_reducible refine And.intro trivial ?_ | with_reducible refine And.intro rfl ?_ | (with_reducible refine And.intro ?_ ?_; focus ((repeat' (first | with_reducible exact trivial | with_reducible exact rfl | (with_reducible apply And.intro) | exact in64 (by omega) (by omega) | omega)); done)) | dsimp only [go_sem, Nat.reduceAdd, Nat.reduceSub, Option.map, bne, BEq.beq, nds, fcs] | simp only [sS, Int.cast_ofNat_Int, Int.reduceEq, Int.reduceLT, Int.reduceLE, Int.reduceAdd, Int.reduceSub, Int.reduceToNat]))
  have fin : ∀ j : Nat, j = cntB x ts → List.take j (List.map strC ts) ++ [[V.str x]] ++ List.drop j (List.map strC ts) = List.map strC (addS ts x) := by
    rintro j rfl
    rw [addS, if_neg h]; simp [strC, List.map_take, List.map_drop]
  by_cases hlt : i < ts.length
  · have hd : decide ((i : Int) < (ts.length : Int)) = true := by simpa using hlt
    have e1 : (List.map strC ts).getD i [] = [.str ts[i]] := getD_at strC ts hlt
    (repeat (simp only [hd, e1]; (repeat (first | with_reducible refine And.intro trivial ?_ | with_reducible refine And.intro rfl ?_ | (with_reducible refine And.intro ?_ ?_; focus ((repeat' (first | with_reducible exact trivial | with_reducible exact rfl | (with_reducible apply And.intro) | exact in64 (by omega) (by omega) | omega)); done)) | dsimp only [go_sem, Nat.reduceAdd, Nat.reduceSub, Option.map, bne, BEq.beq, nds, fcs] | simp only [sS, Int.cast_ofNat_Int, Int.reduceEq, Int.reduceLT, Int.reduceLE, Int.reduceAdd, Int.reduceSub, Int.reduceToNat]))))
    by_cases hts : ts[i] < x
    · have hd2 : decide (ts[i] < x) = true := by simpa using hts
      have hnx := cntB_next hlt hi hts
      (repeat (simp only [hd2]; (repeat (first | with_reducible refine And.intro trivial ?_ | with_reducible refine And.intro rfl ?_ | (with_reducible refine And.intro ?_ ?_; focus ((repeat' (first | with_reducible exact trivial | with_reducible exact rfl | (with_reducible apply And.intro) | exact in64 (by omega) (by omega) | omega)); done)) | dsimp only [go_sem, Nat.reduceAdd, Nat.reduceSub, Option.map, bne, BEq.beq, nds, fcs] | simp only [sS, Int.cast_ofNat_Int, Int.reduceEq, Int.reduceLT, Int.reduceLE, Int.reduceAdd, Int.reduceSub, Int.reduceToNat]))))
      exact rnd (i + 1) rfl ⟨rfl, rfl, trivial⟩ ⟨rfl, trivial⟩ rfl hnx (by omega)
    · have hd2 : decide (ts[i] < x) = false := by simpa using hts
      have hj : i = cntB x ts := by
        by_cases e : i = cntB x ts
        · exact e
        · exact absurd (cntB_lt x ts i hlt (by omega)) hts
      have hf := fin i hj
      (repeat (simp only [hd2]; (repeat (first | with_reducible refine And.intro trivial ?_ | with_reducible refine And.intro rfl ?_ | (with_reducible refine And.intro ?_ ?_; focus ((repeat' (first | with_reducible exact trivial | with_reducible exact rfl | (with_reducible apply And.intro) | exact in64 (by omega) (by omega) | omega)); done)) | dsimp only [go_sem, Nat.reduceAdd, Nat.reduceSub, Option.map, bne, BEq.beq, nds, fcs] | simp only [sS, Int.cast_ofNat_Int, Int.reduceEq, Int.reduceLT, Int.reduceLE, Int.reduceAdd, Int.reduceSub, Int.reduceToNat]))))
      refine fin0 ?_; (repeat (first | with_reducible refine And.intro trivial ?_ | with_reducible refine And.intro rfl ?_ | (with_reducible refine And.intro ?_ ?_; focus ((repeat' (first | with_reducible exact trivial | with_reducible exact rfl | (with_reducible apply And.intro) | exact in64 (by omega) (by omega) | omega)); done)) | dsimp only [go_sem, Nat.reduceAdd, Nat.reduceSub, Option.map, bne, BEq.beq, nds, fcs] | simp only [sS, Int.cast_ofNat_Int, Int.reduceEq, Int.reduceLT, Int.reduceLE, Int.reduceAdd, Int.reduceSub, Int.reduceToNat]))
      rw [List.drop_zero, List.take_of_length_le (i := ts.length) (by simp), hf]
  · have hd : decide ((i : Int) < (ts.length : Int)) = false := by simpa using hlt
    have hj : i = cntB x ts := by omega
    have hf := fin i hj
    (repeat (simp only [hd]; (repeat (first | with_reducible refine And.intro trivial ?_ | with_reducible refine And.intro rfl ?_ | (with_reducible refine And.intro ?_ ?_; focus ((repeat' (first | with_reducible exact trivial | with_reducible exact rfl | (with_reducible apply And.intro) | exact in64 (by omega) (by omega) | omega)); done)) | dsimp only [go_sem, Nat.reduceAdd, Nat.reduceSub, Option.map, bne, BEq.beq, nds, fcs] | simp only [sS, Int.cast_ofNat_Int, Int.reduceEq, Int.reduceLT, Int.reduceLE, Int.reduceAdd, Int.reduceSub, Int.reduceToNat]))))
    refine fin0 ?_; (repeat (first | with_reducible refine And.intro trivial ?_ | with_reducible refine And.intro rfl ?_ | (with_reducible refine And.intro ?_ ?_; focus ((repeat' (first | with_reducible exact trivial | with_reducible exact rfl | (with_reducible apply And.intro) | exact in64 (by omega) (by omega) | omega)); done)) | dsimp only [go_sem, Nat.reduceAdd, Nat.reduceSub, Option.map, bne, BEq.beq, nds, fcs] | simp only [sS, Int.cast_ofNat_Int, Int.reduceEq, Int.reduceLT, Int.reduceLE, Int.reduceAdd, Int.reduceSub, Int.reduceToNat]))
    rw [List.drop_zero, List.take_of_length_le (i := ts.length) (by simp), hf]

/-- A context as the code tells it. -/
def labB (lab : Option B) : V := .bool lab.isSome
def labS (lab : Option B) (g : B) : Prop := ∀ x, lab = some x → g = x
theorem filter_take {α : Type} (p : α → Bool) (xs : List α) {i : Nat} (h : i < xs.length) : (xs.take (i + 1)).filter p = (xs.take i).filter p ++ if p xs[i] then [xs[i]] else [] := by
  rw [List.take_succ_eq_append_getElem h, List.filter_append]; congr 1
  simp only [List.filter_cons, List.filter_nil]
theorem filter_len {α : Type} (p : α → Bool) (xs : List α) (i : Nat) : ((xs.take i).filter p).length ≤ xs.length :=
  Nat.le_trans (List.length_filter_le _ _) (by simp; omega)
theorem c62 (fs : List Fc) (lab : Option B) (g : B) (hg : labS lab g) (hl : fs.length ≤ 1000) : PCall prog [] 62 [fcs fs, labB lab, .str g] (· = fcs (fs.filter (inl lab))) := by
  refine PCall.enter mixed comp62 ?_
  dsimp only [ir62, labB]
  (repeat (first | with_reducible refine And.intro trivial ?_ | with_reducible refine And.intro rfl ?_ | (with_reducible refine And.intro ?_ ?_; focus ((repeat' (first | with_reducible exact trivial | with_reducible exact rfl | (with_reducible apply And.intro) | exact in64 (by omega) (by omega) | omega)); done)) | dsimp only [go_sem, Nat.reduceAdd, Nat.reduceSub, Option.map, bne, BEq.beq, nds, fcs] | simp only [sS, Int.cast_ofNat_Int, Int.reduceEq, Int.reduceLT, Int.reduceLE, Int.reduceAdd, Int.reduceSub, Int.reduceToNat]))
  refine lp [0, 1, 2] (fun i : Nat => [(7, .rw 0), (8, .g (.int .i64 i))]) (fun i => [.row false 4 (((fs.take i).filter (inl lab)).map fcC)]) (fun i => i ≤ fs.length) (fun i => fs.length - i) 0 ⟨rfl, rfl, trivial⟩ rfl (by omega) ?_
  intro i hi
  have hfl := filter_len (inl lab) fs i
  (repeat (first | with_reducible refine And.intro trivial ?_ | with_reducible refine And.intro rfl ?_ | (with_reducible refine And.intro ?_ ?_; focus ((repeat' (first | with_reducible exact trivial | with_reducible exact rfl | (with_reducible apply And.intro) | exact in64 (by omega) (by omega) | omega)); done)) | dsimp only [go_sem, Nat.reduceAdd, Nat.reduceSub, Option.map, bne, BEq.beq, nds, fcs] | simp only [sS, Int.cast_ofNat_Int, Int.reduceEq, Int.reduceLT, Int.reduceLE, Int.reduceAdd, Int.reduceSub, Int.reduceToNat]))
  refine br (fun h1 => ?_) (fun h1 => ?_)
  · simp only [decide_eq_true_eq] at h1
    have hlt : i < fs.length := by omega
    have e1 := getD_at fcC fs hlt
    have ef := filter_take (inl lab) fs hlt
    have yes : inl lab fs[i] = true → List.map fcC ((fs.take i).filter (inl lab)) ++ [fcC fs[i]] = List.map fcC ((fs.take (i + 1)).filter (inl lab)) := by
      intro h; rw [ef, if_pos h]; simp
    have nop : inl lab fs[i] = false → List.map fcC ((fs.take i).filter (inl lab)) = List.map fcC ((fs.take (i + 1)).filter (inl lab)) := by
      intro h; rw [ef, if_neg (by simp [h])]; simp
    cases lab with
    | none =>
      have := yes rfl
      dsimp only [Option.isSome]
      (repeat (first | with_reducible refine And.intro trivial ?_ | with_reducible refine And.intro rfl ?_ | (with_reducible refine And.intro ?_ ?_; focus ((repeat' (first | with_reducible exact trivial | with_reducible exact rfl | (with_reducible apply And.intro) | exact in64 (by omega) (by omega) | omega)); done)) | dsimp only [go_sem, Nat.reduceAdd, Nat.reduceSub, Option.map, bne, BEq.beq, nds, fcs] | simp only [sS, Int.cast_ofNat_Int, Int.reduceEq, Int.reduceLT, Int.reduceLE, Int.reduceAdd, Int.reduceSub, Int.reduceToNat]))
      simp only [e1, fcC]
      (repeat (first | with_reducible refine And.intro trivial ?_ | with_reducible refine And.intro rfl ?_ | (with_reducible refine And.intro ?_ ?_; focus ((repeat' (first | with_reducible exact trivial | with_reducible exact rfl | (with_reducible apply And.intro) | exact in64 (by omega) (by omega) | omega)); done)) | dsimp only [go_sem, Nat.reduceAdd, Nat.reduceSub, Option.map, bne, BEq.beq, nds, fcs] | simp only [sS, Int.cast_ofNat_Int, Int.reduceEq, Int.reduceLT, Int.reduceLE, Int.reduceAdd, Int.reduceSub, Int.reduceToNat]))
      refine rndg (i + 1) (Gh.sub [0] rfl rfl) ?_ ?_ ?_ ?_ (by omega) (by omega)
      · rfl
      · exact ⟨rfl, rfl, rfl, trivial⟩
      · exact ⟨rfl, rfl, trivial⟩
      · rw [← this]; rfl
    | some x =>
      obtain rfl := hg x rfl
      dsimp only [Option.isSome]
      (repeat (first | with_reducible refine And.intro trivial ?_ | with_reducible refine And.intro rfl ?_ | (with_reducible refine And.intro ?_ ?_; focus ((repeat' (first | with_reducible exact trivial | with_reducible exact rfl | (with_reducible apply And.intro) | exact in64 (by omega) (by omega) | omega)); done)) | dsimp only [go_sem, Nat.reduceAdd, Nat.reduceSub, Option.map, bne, BEq.beq, nds, fcs] | simp only [sS, Int.cast_ofNat_Int, Int.reduceEq, Int.reduceLT, Int.reduceLE, Int.reduceAdd, Int.reduceSub, Int.reduceToNat]))
      simp only [e1, fcC]
      (repeat (first | with_reducible refine And.intro trivial ?_ | with_reducible refine And.intro rfl ?_ | (with_reducible refine And.intro ?_ ?_; focus ((repeat' (first | with_reducible exact trivial | with_reducible exact rfl | (with_reducible apply And.intro) | exact in64 (by omega) (by omega) | omega)); done)) | dsimp only [go_sem, Nat.reduceAdd, Nat.reduceSub, Option.map, bne, BEq.beq, nds, fcs] | simp only [sS, Int.cast_ofNat_Int, Int.reduceEq, Int.reduceLT, Int.reduceLE, Int.reduceAdd, Int.reduceSub, Int.reduceToNat]))
      by_cases he : fs[i].g = g
      · have := yes (by simp [inl, he])
        have hd : decide (fs[i].g = g) = true := by simpa using he
        (repeat (simp only [hd, e1, fcC]; (repeat (first | with_reducible refine And.intro trivial ?_ | with_reducible refine And.intro rfl ?_ | (with_reducible refine And.intro ?_ ?_; focus ((repeat' (first | with_reducible exact trivial | with_reducible exact rfl | (with_reducible apply And.intro) | exact in64 (by omega) (by omega) | omega)); done)) | dsimp only [go_sem, Nat.reduceAdd, Nat.reduceSub, Option.map, bne, BEq.beq, nds, fcs] | simp only [sS, Int.cast_ofNat_Int, Int.reduceEq, Int.reduceLT, Int.reduceLE, Int.reduceAdd, Int.reduceSub, Int.reduceToNat]))))
        refine rndg (i + 1) (Gh.sub [0] rfl rfl) ?_ ?_ ?_ ?_ (by omega) (by omega)
        · rfl
        · exact ⟨rfl, rfl, rfl, trivial⟩
        · exact ⟨rfl, rfl, trivial⟩
        · rw [← this]; rfl
      · have := nop (by simp [inl, he])
        have hd : decide (fs[i].g = g) = false := by simpa using he
        (repeat (simp only [hd]; (repeat (first | with_reducible refine And.intro trivial ?_ | with_reducible refine And.intro rfl ?_ | (with_reducible refine And.intro ?_ ?_; focus ((repeat' (first | with_reducible exact trivial | with_reducible exact rfl | (with_reducible apply And.intro) | exact in64 (by omega) (by omega) | omega)); done)) | dsimp only [go_sem, Nat.reduceAdd, Nat.reduceSub, Option.map, bne, BEq.beq, nds, fcs] | simp only [sS, Int.cast_ofNat_Int, Int.reduceEq, Int.reduceLT, Int.reduceLE, Int.reduceAdd, Int.reduceSub, Int.reduceToNat]))))
        refine rndg (i + 1) (Gh.sub [0] rfl rfl) ?_ ?_ ?_ ?_ (by omega) (by omega)
        · rfl
        · exact ⟨rfl, rfl, rfl, trivial⟩
        · exact ⟨rfl, rfl, trivial⟩
        · rw [← this]; rfl
  · simp only [decide_eq_false_iff_not] at h1
    obtain rfl : i = fs.length := by omega
    (repeat (first | with_reducible refine And.intro trivial ?_ | with_reducible refine And.intro rfl ?_ | (with_reducible refine And.intro ?_ ?_; focus ((repeat' (first | with_reducible exact trivial | with_reducible exact rfl | (with_reducible apply And.intro) | exact in64 (by omega) (by omega) | omega)); done)) | dsimp only [go_sem, Nat.reduceAdd, Nat.reduceSub, Option.map, bne, BEq.beq, nds, fcs] | simp only [sS, Int.cast_ofNat_Int, Int.reduceEq, Int.reduceLT, Int.reduceLE, Int.reduceAdd, Int.reduceSub, Int.reduceToNat]))
    refine fin0 ?_; (repeat (first | with_reducible refine And.intro trivial ?_ | with_reducible refine And.intro rfl ?_ | (with_reducible refine And.intro ?_ ?_; focus ((repeat' (first | with_reducible exact trivial | with_reducible exact rfl | (with_reducible apply And.intro) | exact in64 (by omega) (by omega) | omega)); done)) | dsimp only [go_sem, Nat.reduceAdd, Nat.reduceSub, Option.map, bne, BEq.beq, nds, fcs] | simp only [sS, Int.cast_ofNat_Int, Int.reduceEq, Int.reduceLT, Int.reduceLE, Int.reduceAdd, Int.reduceSub, Int.reduceToNat]))
    rw [List.take_length]
end Go.Av

namespace Go.Av
set_option maxRecDepth 100000
set_option maxHeartbeats 8000000
set_option linter.unusedVariables false
set_option linter.unusedSimpArgs false

def accM (n : Nd) (a : List B) (fs : List Fc) (i : Nat) (out : List B) : List B := (fs.take i).foldl (step1 n a) out
theorem accM_next (n : Nd) (a : List B) (fs : List Fc) (out : List B) {i : Nat} (h : i < fs.length) : accM n a fs (i + 1) out = step1 n a (accM n a fs i out) fs[i] := by
  unfold accM; rw [List.take_succ_eq_append_getElem h, List.foldl_append]; rfl
theorem accM_len (n : Nd) (a : List B) (fs : List Fc) (i : Nat) (out : List B) (h : fs.length ≤ 1000) : (accM n a fs i out).length ≤ out.length + 2000 := by
  have := foldl_len (step1 n a) 2 (step1_len n a) (fs.take i) out
  have h2 : (fs.take i).length ≤ fs.length := by simp; omega
  unfold accM; omega
theorem accM_end (n : Nd) (a : List B) (fs : List Fc) (out : List B) : accM n a fs fs.length out = fs.foldl (step1 n a) out := by unfold accM; rw [List.take_length]
theorem step1_none (n : Nd) (a : List B) (h : n.k = 6 ∨ n.k = 7 ∨ n.k = 8) : ∀ (fs : List Fc) (out : List B), fs.foldl (step1 n a) out = out
  | [], out => rfl
  | f :: fs, out => by
    have : step1 n a out f = out := by unfold step1; (repeat' split) <;> first | rfl | omega
    rw [List.foldl_cons, this]; exact step1_none n a h fs out

theorem c35_lf (n : Nd) (fs : List Fc) (lab : Option B) (g : B) (h : T.ok (.lf n)) (hfs : fs.length ≤ 1000) (hg : labS lab g) : PCall prog [] 35 [nds [n], fcs fs, labB lab, .str g] (· = strs (M fs (.lf n) lab)) := by
  refine PCall.enter mixed comp35 ?_
  have hfl : (fs.filter (inl lab)).length ≤ 1000 := Nat.le_trans (List.length_filter_le _ _) hfs
  obtain ⟨k, s, tt⟩ := n
  have hk := h.2
  dsimp only at hk
  rcases hk with rfl | rfl
  · dsimp only [ir35]
    (repeat (first | with_reducible refine And.intro trivial ?_ | with_reducible refine And.intro rfl ?_ | (with_reducible refine And.intro ?_ ?_; focus ((repeat' (first | with_reducible exact trivial | with_reducible exact rfl | (with_reducible apply And.intro) | exact in64 (by omega) (by omega) | omega)); done)) | dsimp only [go_sem, Nat.reduceAdd, Nat.reduceSub, Option.map, bne, BEq.beq, nds, fcs, T.kids, ndsC, strs] | simp only [sS, Int.cast_ofNat_Int, Int.reduceEq, Int.reduceLT, Int.reduceLE, Int.reduceAdd, Int.reduceSub, Int.reduceToNat]))
    refine cpe [] (c61 [] ⟨1, s, tt⟩) rfl ?_
    dsimp only [ndC]
    (repeat (first | with_reducible refine And.intro trivial ?_ | with_reducible refine And.intro rfl ?_ | (with_reducible refine And.intro ?_ ?_; focus ((repeat' (first | with_reducible exact trivial | with_reducible exact rfl | (with_reducible apply And.intro) | exact in64 (by omega) (by omega) | omega)); done)) | dsimp only [go_sem, Nat.reduceAdd, Nat.reduceSub, Option.map, bne, BEq.beq, nds, fcs, T.kids, ndsC, strs] | simp only [sS, Int.cast_ofNat_Int, Int.reduceEq, Int.reduceLT, Int.reduceLE, Int.reduceAdd, Int.reduceSub, Int.reduceToNat]))
    refine cpe [] (c53 (.lf ⟨1, s, tt⟩) h (by simp [T.post])) rfl ?_
    (repeat (first | with_reducible refine And.intro trivial ?_ | with_reducible refine And.intro rfl ?_ | (with_reducible refine And.intro ?_ ?_; focus ((repeat' (first | with_reducible exact trivial | with_reducible exact rfl | (with_reducible apply And.intro) | exact in64 (by omega) (by omega) | omega)); done)) | dsimp only [go_sem, Nat.reduceAdd, Nat.reduceSub, Option.map, bne, BEq.beq, nds, fcs, T.kids, ndsC, strs] | simp only [sS, Int.cast_ofNat_Int, Int.reduceEq, Int.reduceLT, Int.reduceLE, Int.reduceAdd, Int.reduceSub, Int.reduceToNat]))
    refine cpe [] (c62 fs lab g hg hfs) rfl ?_
    (repeat (first | with_reducible refine And.intro trivial ?_ | with_reducible refine And.intro rfl ?_ | (with_reducible refine And.intro ?_ ?_; focus ((repeat' (first | with_reducible exact trivial | with_reducible exact rfl | (with_reducible apply And.intro) | exact in64 (by omega) (by omega) | omega)); done)) | dsimp only [go_sem, Nat.reduceAdd, Nat.reduceSub, Option.map, bne, BEq.beq, nds, fcs, T.kids, ndsC, strs] | simp only [sS, Int.cast_ofNat_Int, Int.reduceEq, Int.reduceLT, Int.reduceLE, Int.reduceAdd, Int.reduceSub, Int.reduceToNat]))
    refine lpg [9, 12, 14] (fun i : Nat => [(11, .g (strs (accM ⟨1, s, tt⟩ [] (fs.filter (inl lab)) i []))), (18, .g (.int .i64 i))]) (fun _ => [.cells [.g (.int .i64 1), .g (.str s), .g (.str tt)], .dead, .row false 1 [], .row false 1 []]) (fun i => i ≤ (fs.filter (inl lab)).length) (fun i => (fs.filter (inl lab)).length - i) 0 (Gh.trans (Gh.frz (.rw 1) 11 rfl) (Gh.sub [0, 1, 2, 3] rfl rfl)) ⟨rfl, rfl, trivial⟩ rfl (by omega) ?_
    intro i hi
    have hal := accM_len ⟨1, s, tt⟩ [] (fs.filter (inl lab)) i [] hfl
    try simp only [List.length_nil] at hal
    generalize hacc : accM ⟨1, s, tt⟩ [] (fs.filter (inl lab)) i [] = acc at *
    try dsimp only [strs] at *
    (repeat (first | with_reducible refine And.intro trivial ?_ | with_reducible refine And.intro rfl ?_ | (with_reducible refine And.intro ?_ ?_; focus ((repeat' (first | with_reducible exact trivial | with_reducible exact rfl | (with_reducible apply And.intro) | exact in64 (by omega) (by omega) | omega)); done)) | dsimp only [go_sem, Nat.reduceAdd, Nat.reduceSub, Option.map, bne, BEq.beq, nds, fcs, T.kids, ndsC, strs] | simp only [sS, Int.cast_ofNat_Int, Int.reduceEq, Int.reduceLT, Int.reduceLE, Int.reduceAdd, Int.reduceSub, Int.reduceToNat]))
    refine br (fun h1 => ?_) (fun h1 => ?_)
    · simp only [decide_eq_true_eq] at h1
      have hlt : i < (fs.filter (inl lab)).length := by omega
      have e1 := getD_at fcC (fs.filter (inl lab)) hlt
      have en := accM_next ⟨1, s, tt⟩ [] (fs.filter (inl lab)) [] hlt
      rw [hacc] at en
      generalize hf : (fs.filter (inl lab))[i] = f at *
      (repeat (first | with_reducible refine And.intro trivial ?_ | with_reducible refine And.intro rfl ?_ | (with_reducible refine And.intro ?_ ?_; focus ((repeat' (first | with_reducible exact trivial | with_reducible exact rfl | (with_reducible apply And.intro) | exact in64 (by omega) (by omega) | omega)); done)) | dsimp only [go_sem, Nat.reduceAdd, Nat.reduceSub, Option.map, bne, BEq.beq, nds, fcs, T.kids, ndsC, strs] | simp only [sS, Int.cast_ofNat_Int, Int.reduceEq, Int.reduceLT, Int.reduceLE, Int.reduceAdd, Int.reduceSub, Int.reduceToNat]))
      simp only [e1, fcC]
      (repeat (first | with_reducible refine And.intro trivial ?_ | with_reducible refine And.intro rfl ?_ | (with_reducible refine And.intro ?_ ?_; focus ((repeat' (first | with_reducible exact trivial | with_reducible exact rfl | (with_reducible apply And.intro) | exact in64 (by omega) (by omega) | omega)); done)) | dsimp only [go_sem, Nat.reduceAdd, Nat.reduceSub, Option.map, bne, BEq.beq, nds, fcs, T.kids, ndsC, strs] | simp only [sS, Int.cast_ofNat_Int, Int.reduceEq, Int.reduceLT, Int.reduceLE, Int.reduceAdd, Int.reduceSub, Int.reduceToNat]))
      refine cd (c64 acc f.s (by omega)) rfl ?_
      (repeat (first | with_reducible refine And.intro trivial ?_ | with_reducible refine And.intro rfl ?_ | (with_reducible refine And.intro ?_ ?_; focus ((repeat' (first | with_reducible exact trivial | with_reducible exact rfl | (with_reducible apply And.intro) | exact in64 (by omega) (by omega) | omega)); done)) | dsimp only [go_sem, Nat.reduceAdd, Nat.reduceSub, Option.map, bne, BEq.beq, nds, fcs, T.kids, ndsC, strs] | simp only [sS, Int.cast_ofNat_Int, Int.reduceEq, Int.reduceLT, Int.reduceLE, Int.reduceAdd, Int.reduceSub, Int.reduceToNat]))
      have hal2 := addS_len acc f.s
      refine cd (c64 (addS acc f.s) f.o (by omega)) rfl ?_
      try dsimp only [strs]
      (repeat (first | with_reducible refine And.intro trivial ?_ | with_reducible refine And.intro rfl ?_ | (with_reducible refine And.intro ?_ ?_; focus ((repeat' (first | with_reducible exact trivial | with_reducible exact rfl | (with_reducible apply And.intro) | exact in64 (by omega) (by omega) | omega)); done)) | dsimp only [go_sem, Nat.reduceAdd, Nat.reduceSub, Option.map, bne, BEq.beq, nds, fcs, T.kids, ndsC, strs] | simp only [sS, Int.cast_ofNat_Int, Int.reduceEq, Int.reduceLT, Int.reduceLE, Int.reduceAdd, Int.reduceSub, Int.reduceToNat]))
      refine rndg (i + 1) (Gh.sub [0, 1, 2, 3] rfl rfl) ?_ ?_ ?_ ?_ (by omega) (by omega)
      · rfl
      · exact ⟨rfl, rfl, rfl, trivial⟩
      · exact ⟨by rw [en]; simp [step1]; rfl, rfl, trivial⟩
      · rfl
    · simp only [decide_eq_false_iff_not] at h1
      obtain rfl : i = (fs.filter (inl lab)).length := by omega
      rw [accM_end] at hacc
      (repeat (first | with_reducible refine And.intro trivial ?_ | with_reducible refine And.intro rfl ?_ | (with_reducible refine And.intro ?_ ?_; focus ((repeat' (first | with_reducible exact trivial | with_reducible exact rfl | (with_reducible apply And.intro) | exact in64 (by omega) (by omega) | omega)); done)) | dsimp only [go_sem, Nat.reduceAdd, Nat.reduceSub, Option.map, bne, BEq.beq, nds, fcs, T.kids, ndsC, strs] | simp only [sS, Int.cast_ofNat_Int, Int.reduceEq, Int.reduceLT, Int.reduceLE, Int.reduceAdd, Int.reduceSub, Int.reduceToNat]))
      refine fin0 ?_; (repeat (first | with_reducible refine And.intro trivial ?_ | with_reducible refine And.intro rfl ?_ | (with_reducible refine And.intro ?_ ?_; focus ((repeat' (first | with_reducible exact trivial | with_reducible exact rfl | (with_reducible apply And.intro) | exact in64 (by omega) (by omega) | omega)); done)) | dsimp only [go_sem, Nat.reduceAdd, Nat.reduceSub, Option.map, bne, BEq.beq, nds, fcs, T.kids, ndsC, strs] | simp only [sS, Int.cast_ofNat_Int, Int.reduceEq, Int.reduceLT, Int.reduceLE, Int.reduceAdd, Int.reduceSub, Int.reduceToNat]))
      rw [← hacc]; rfl
  · dsimp only [ir35]
    (repeat (first | with_reducible refine And.intro trivial ?_ | with_reducible refine And.intro rfl ?_ | (with_reducible refine And.intro ?_ ?_; focus ((repeat' (first | with_reducible exact trivial | with_reducible exact rfl | (with_reducible apply And.intro) | exact in64 (by omega) (by omega) | omega)); done)) | dsimp only [go_sem, Nat.reduceAdd, Nat.reduceSub, Option.map, bne, BEq.beq, nds, fcs, T.kids, ndsC, strs] | simp only [sS, Int.cast_ofNat_Int, Int.reduceEq, Int.reduceLT, Int.reduceLE, Int.reduceAdd, Int.reduceSub, Int.reduceToNat]))
    refine cpe [] (c61 [] ⟨2, s, tt⟩) rfl ?_
    dsimp only [ndC]
    (repeat (first | with_reducible refine And.intro trivial ?_ | with_reducible refine And.intro rfl ?_ | (with_reducible refine And.intro ?_ ?_; focus ((repeat' (first | with_reducible exact trivial | with_reducible exact rfl | (with_reducible apply And.intro) | exact in64 (by omega) (by omega) | omega)); done)) | dsimp only [go_sem, Nat.reduceAdd, Nat.reduceSub, Option.map, bne, BEq.beq, nds, fcs, T.kids, ndsC, strs] | simp only [sS, Int.cast_ofNat_Int, Int.reduceEq, Int.reduceLT, Int.reduceLE, Int.reduceAdd, Int.reduceSub, Int.reduceToNat]))
    refine cpe [] (c53 (.lf ⟨2, s, tt⟩) h (by simp [T.post])) rfl ?_
    (repeat (first | with_reducible refine And.intro trivial ?_ | with_reducible refine And.intro rfl ?_ | (with_reducible refine And.intro ?_ ?_; focus ((repeat' (first | with_reducible exact trivial | with_reducible exact rfl | (with_reducible apply And.intro) | exact in64 (by omega) (by omega) | omega)); done)) | dsimp only [go_sem, Nat.reduceAdd, Nat.reduceSub, Option.map, bne, BEq.beq, nds, fcs, T.kids, ndsC, strs] | simp only [sS, Int.cast_ofNat_Int, Int.reduceEq, Int.reduceLT, Int.reduceLE, Int.reduceAdd, Int.reduceSub, Int.reduceToNat]))
    refine cpe [] (c62 fs lab g hg hfs) rfl ?_
    (repeat (first | with_reducible refine And.intro trivial ?_ | with_reducible refine And.intro rfl ?_ | (with_reducible refine And.intro ?_ ?_; focus ((repeat' (first | with_reducible exact trivial | with_reducible exact rfl | (with_reducible apply And.intro) | exact in64 (by omega) (by omega) | omega)); done)) | dsimp only [go_sem, Nat.reduceAdd, Nat.reduceSub, Option.map, bne, BEq.beq, nds, fcs, T.kids, ndsC, strs] | simp only [sS, Int.cast_ofNat_Int, Int.reduceEq, Int.reduceLT, Int.reduceLE, Int.reduceAdd, Int.reduceSub, Int.reduceToNat]))
    refine lpg [9, 12, 14] (fun i : Nat => [(11, .g (strs (accM ⟨2, s, tt⟩ [] (fs.filter (inl lab)) i []))), (18, .g (.int .i64 i))]) (fun _ => [.cells [.g (.int .i64 2), .g (.str s), .g (.str tt)], .dead, .row false 1 [], .row false 1 []]) (fun i => i ≤ (fs.filter (inl lab)).length) (fun i => (fs.filter (inl lab)).length - i) 0 (Gh.trans (Gh.frz (.rw 1) 11 rfl) (Gh.sub [0, 1, 2, 3] rfl rfl)) ⟨rfl, rfl, trivial⟩ rfl (by omega) ?_
    intro i hi
    have hal := accM_len ⟨2, s, tt⟩ [] (fs.filter (inl lab)) i [] hfl
    try simp only [List.length_nil] at hal
    generalize hacc : accM ⟨2, s, tt⟩ [] (fs.filter (inl lab)) i [] = acc at *
    try dsimp only [strs] at *
    (repeat (first | with_reducible refine And.intro trivial ?_ | with_reducible refine And.intro rfl ?_ | (with_reducible refine And.intro ?_ ?_; focus ((repeat' (first | with_reducible exact trivial | with_reducible exact rfl | (with_reducible apply And.intro) | exact in64 (by omega) (by omega) | omega)); done)) | dsimp only [go_sem, Nat.reduceAdd, Nat.reduceSub, Option.map, bne, BEq.beq, nds, fcs, T.kids, ndsC, strs] | simp only [sS, Int.cast_ofNat_Int, Int.reduceEq, Int.reduceLT, Int.reduceLE, Int.reduceAdd, Int.reduceSub, Int.reduceToNat]))
    refine br (fun h1 => ?_) (fun h1 => ?_)
    · simp only [decide_eq_true_eq] at h1
      have hlt : i < (fs.filter (inl lab)).length := by omega
      have e1 := getD_at fcC (fs.filter (inl lab)) hlt
      have en := accM_next ⟨2, s, tt⟩ [] (fs.filter (inl lab)) [] hlt
      rw [hacc] at en
      generalize hf : (fs.filter (inl lab))[i] = f at *
      (repeat (first | with_reducible refine And.intro trivial ?_ | with_reducible refine And.intro rfl ?_ | (with_reducible refine And.intro ?_ ?_; focus ((repeat' (first | with_reducible exact trivial | with_reducible exact rfl | (with_reducible apply And.intro) | exact in64 (by omega) (by omega) | omega)); done)) | dsimp only [go_sem, Nat.reduceAdd, Nat.reduceSub, Option.map, bne, BEq.beq, nds, fcs, T.kids, ndsC, strs] | simp only [sS, Int.cast_ofNat_Int, Int.reduceEq, Int.reduceLT, Int.reduceLE, Int.reduceAdd, Int.reduceSub, Int.reduceToNat]))
      simp only [e1, fcC]
      (repeat (first | with_reducible refine And.intro trivial ?_ | with_reducible refine And.intro rfl ?_ | (with_reducible refine And.intro ?_ ?_; focus ((repeat' (first | with_reducible exact trivial | with_reducible exact rfl | (with_reducible apply And.intro) | exact in64 (by omega) (by omega) | omega)); done)) | dsimp only [go_sem, Nat.reduceAdd, Nat.reduceSub, Option.map, bne, BEq.beq, nds, fcs, T.kids, ndsC, strs] | simp only [sS, Int.cast_ofNat_Int, Int.reduceEq, Int.reduceLT, Int.reduceLE, Int.reduceAdd, Int.reduceSub, Int.reduceToNat]))
      have d1 : f.s = s ∨ f.s ≠ s := Decidable.em _
      have d2 : f.o = s ∨ f.o ≠ s := Decidable.em _
      rcases d1 with d1 | d1
      · have hd : decide (f.s = s) = true := by simpa using d1
        (repeat (simp only [hd]; (repeat (first | with_reducible refine And.intro trivial ?_ | with_reducible refine And.intro rfl ?_ | (with_reducible refine And.intro ?_ ?_; focus ((repeat' (first | with_reducible exact trivial | with_reducible exact rfl | (with_reducible apply And.intro) | exact in64 (by omega) (by omega) | omega)); done)) | dsimp only [go_sem, Nat.reduceAdd, Nat.reduceSub, Option.map, bne, BEq.beq, nds, fcs, T.kids, ndsC, strs] | simp only [sS, Int.cast_ofNat_Int, Int.reduceEq, Int.reduceLT, Int.reduceLE, Int.reduceAdd, Int.reduceSub, Int.reduceToNat]))))
        refine cpe [] (c64 acc s (by omega)) rfl ?_
        try dsimp only [strs]
        (repeat (first | with_reducible refine And.intro trivial ?_ | with_reducible refine And.intro rfl ?_ | (with_reducible refine And.intro ?_ ?_; focus ((repeat' (first | with_reducible exact trivial | with_reducible exact rfl | (with_reducible apply And.intro) | exact in64 (by omega) (by omega) | omega)); done)) | dsimp only [go_sem, Nat.reduceAdd, Nat.reduceSub, Option.map, bne, BEq.beq, nds, fcs, T.kids, ndsC, strs] | simp only [sS, Int.cast_ofNat_Int, Int.reduceEq, Int.reduceLT, Int.reduceLE, Int.reduceAdd, Int.reduceSub, Int.reduceToNat]))
        refine rndg (i + 1) (Gh.sub [0, 1, 2, 3] rfl rfl) ?_ ?_ ?_ ?_ (by omega) (by omega)
        · rfl
        · exact ⟨rfl, rfl, rfl, trivial⟩
        · exact ⟨by rw [en]; simp [step1, d1]; rfl, rfl, trivial⟩
        · rfl
      have hd : decide (f.s = s) = false := by simpa using d1
      rcases d2 with d2 | d2
      · have hd2 : decide (f.o = s) = true := by simpa using d2
        (repeat (simp only [hd, hd2]; (repeat (first | with_reducible refine And.intro trivial ?_ | with_reducible refine And.intro rfl ?_ | (with_reducible refine And.intro ?_ ?_; focus ((repeat' (first | with_reducible exact trivial | with_reducible exact rfl | (with_reducible apply And.intro) | exact in64 (by omega) (by omega) | omega)); done)) | dsimp only [go_sem, Nat.reduceAdd, Nat.reduceSub, Option.map, bne, BEq.beq, nds, fcs, T.kids, ndsC, strs] | simp only [sS, Int.cast_ofNat_Int, Int.reduceEq, Int.reduceLT, Int.reduceLE, Int.reduceAdd, Int.reduceSub, Int.reduceToNat]))))
        refine cpe [] (c64 acc s (by omega)) rfl ?_
        try dsimp only [strs]
        (repeat (first | with_reducible refine And.intro trivial ?_ | with_reducible refine And.intro rfl ?_ | (with_reducible refine And.intro ?_ ?_; focus ((repeat' (first | with_reducible exact trivial | with_reducible exact rfl | (with_reducible apply And.intro) | exact in64 (by omega) (by omega) | omega)); done)) | dsimp only [go_sem, Nat.reduceAdd, Nat.reduceSub, Option.map, bne, BEq.beq, nds, fcs, T.kids, ndsC, strs] | simp only [sS, Int.cast_ofNat_Int, Int.reduceEq, Int.reduceLT, Int.reduceLE, Int.reduceAdd, Int.reduceSub, Int.reduceToNat]))
        refine rndg (i + 1) (Gh.sub [0, 1, 2, 3] rfl rfl) ?_ ?_ ?_ ?_ (by omega) (by omega)
        · rfl
        · exact ⟨rfl, rfl, rfl, trivial⟩
        · exact ⟨by rw [en]; simp [step1, d2]; rfl, rfl, trivial⟩
        · rfl
      · have hd2 : decide (f.o = s) = false := by simpa using d2
        (repeat (simp only [hd, hd2]; (repeat (first | with_reducible refine And.intro trivial ?_ | with_reducible refine And.intro rfl ?_ | (with_reducible refine And.intro ?_ ?_; focus ((repeat' (first | with_reducible exact trivial | with_reducible exact rfl | (with_reducible apply And.intro) | exact in64 (by omega) (by omega) | omega)); done)) | dsimp only [go_sem, Nat.reduceAdd, Nat.reduceSub, Option.map, bne, BEq.beq, nds, fcs, T.kids, ndsC, strs] | simp only [sS, Int.cast_ofNat_Int, Int.reduceEq, Int.reduceLT, Int.reduceLE, Int.reduceAdd, Int.reduceSub, Int.reduceToNat]))))
        refine rndg (i + 1) (Gh.sub [0, 1, 2, 3] rfl rfl) ?_ ?_ ?_ ?_ (by omega) (by omega)
        · rfl
        · exact ⟨rfl, rfl, rfl, trivial⟩
        · exact ⟨by rw [en]; simp [step1, d1, d2]; rfl, rfl, trivial⟩
        · rfl
    · simp only [decide_eq_false_iff_not] at h1
      obtain rfl : i = (fs.filter (inl lab)).length := by omega
      rw [accM_end] at hacc
      (repeat (first | with_reducible refine And.intro trivial ?_ | with_reducible refine And.intro rfl ?_ | (with_reducible refine And.intro ?_ ?_; focus ((repeat' (first | with_reducible exact trivial | with_reducible exact rfl | (with_reducible apply And.intro) | exact in64 (by omega) (by omega) | omega)); done)) | dsimp only [go_sem, Nat.reduceAdd, Nat.reduceSub, Option.map, bne, BEq.beq, nds, fcs, T.kids, ndsC, strs] | simp only [sS, Int.cast_ofNat_Int, Int.reduceEq, Int.reduceLT, Int.reduceLE, Int.reduceAdd, Int.reduceSub, Int.reduceToNat]))
      refine fin0 ?_; (repeat (first | with_reducible refine And.intro trivial ?_ | with_reducible refine And.intro rfl ?_ | (with_reducible refine And.intro ?_ ?_; focus ((repeat' (first | with_reducible exact trivial | with_reducible exact rfl | (with_reducible apply And.intro) | exact in64 (by omega) (by omega) | omega)); done)) | dsimp only [go_sem, Nat.reduceAdd, Nat.reduceSub, Option.map, bne, BEq.beq, nds, fcs, T.kids, ndsC, strs] | simp only [sS, Int.cast_ofNat_Int, Int.reduceEq, Int.reduceLT, Int.reduceLE, Int.reduceAdd, Int.reduceSub, Int.reduceToNat]))
      rw [← hacc]; rfl
end Go.Av
