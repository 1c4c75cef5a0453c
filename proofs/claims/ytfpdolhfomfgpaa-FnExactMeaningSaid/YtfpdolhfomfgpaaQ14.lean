/-
  The law FnExactMeaning returns true for every input, and its arguments read behind the call as they read before. No condition.
-/
import Derived.Shelf.Sort.Plain
import Derived.Shelf.Slices.In.SortNone
import Derived.ProofKit
import Derived.SizedLaws
import Derived.Test.YtfpdolhfomfgpaaProg
import Derived.Test.YtfpdolhfomfgpaaRows
import Derived.Test.YtfpdolhfomfgpaaChecked
import Derived.Test.YtfpdolhfomfgpaaQ10
import Derived.Test.YtfpdolhfomfgpaaQ11
import Derived.Test.YtfpdolhfomfgpaaQ12
import Derived.Test.YtfpdolhfomfgpaaQ13
namespace Go.Av
set_option maxRecDepth 100000
/-- loop.example/s01136/laws.FnExactMeaning -/
def ir4 : IrF := ⟨.seq (.reg [
  ⟨(some 2), none, .box (.t 0)⟩,
  ⟨(some 4), none, .q (.mov (.c (.bool false)))⟩]) (
 .seq (.reg [
  ⟨(some 5), none, .q (.mov (.c (.int .i64 1048576)))⟩]) (
 .seq (.reg [
  ⟨(some 14), none, .q (.load (some 1) (.t 2))⟩,
  ⟨(some 15), none, .q (.mov (.t 5))⟩,
  ⟨(some 16), none, .callx 12 [(.t 14), (.t 15)]⟩,
  ⟨(some 5), none, .q (.mov (.t 16))⟩]) (
 .seq (.seq (.reg [
  ⟨(some 17), none, .q (.mov (.t 5))⟩,
  ⟨(some 18), none, .q (.bin .lss false (.t 17) (.c (.int .i64 0)))⟩]) (
 .cond 18 (
  .seq (.reg [
    ⟨(some 4), none, .q (.mov (.c (.bool true)))⟩]) (
  .ret)) (
  .skip))) (
 .seq (.reg [
  ⟨(some 19), none, .q (.mov (.t 1))⟩,
  ⟨(some 20), none, .q (.mov (.t 5))⟩,
  ⟨(some 21), none, .callx 13 [(.t 19), (.t 20)]⟩,
  ⟨(some 5), none, .q (.mov (.t 21))⟩]) (
 .seq (.seq (.reg [
  ⟨(some 22), none, .q (.mov (.t 5))⟩,
  ⟨(some 23), none, .q (.bin .lss false (.t 22) (.c (.int .i64 0)))⟩]) (
 .cond 23 (
  .seq (.reg [
    ⟨(some 4), none, .q (.mov (.c (.bool true)))⟩]) (
  .ret)) (
  .skip))) (
 .seq (.reg [
  ⟨(some 24), none, .q (.load (some 1) (.t 2))⟩,
  ⟨(some 25), none, .callx 14 [(.t 24)]⟩,
  ⟨(some 26), none, .q (.mov (.t 1))⟩,
  ⟨(some 27), none, .callx 15 [(.t 26)]⟩,
  ⟨(some 28), none, .callx 8 [(.t 25), (.t 27)]⟩,
  ⟨(some 6), none, .q (.mov (.t 28))⟩]) (
 .seq (.reg [
  ⟨(some 29), none, .q (.load (some 1) (.t 2))⟩,
  ⟨(some 30), none, .callx 14 [(.t 29)]⟩,
  ⟨(some 7), none, .alloc [.nils]⟩,
  ⟨none, none, .store 1 (.t 7) (.t 30)⟩]) (
 .seq (.reg [
  ⟨(some 31), none, .q (.mov (.t 1))⟩,
  ⟨(some 32), none, .callx 15 [(.t 31)]⟩,
  ⟨(some 8), none, .q (.mov (.t 32))⟩]) (
 .seq (.reg [
  ⟨(some 33), none, .q (.load (some 1) (.t 7))⟩,
  ⟨(some 34), none, .q (.mov (.t 8))⟩,
  ⟨(some 35), none, .callx 7 [(.t 33), (.t 34)]⟩,
  ⟨(some 9), none, .q (.mov (.t 35))⟩]) (
 .seq (.seq (.reg [
  ⟨(some 36), none, .q (.mov (.t 9))⟩,
  ⟨(some 37), none, .q (.mov (.t 6))⟩,
  ⟨(some 38), none, .callx 16 [(.t 36), (.t 37)]⟩,
  ⟨(some 39), none, .q (.not (.t 38))⟩]) (
 .cond 39 (
  .seq (.reg [
    ⟨(some 4), none, .q (.mov (.c (.bool false)))⟩]) (
  .ret)) (
  .skip))) (
 .seq (.seq (.reg [
  ⟨(some 40), none, .q (.load (some 1) (.t 7))⟩,
  ⟨(some 41), none, .q (.load (some 1) (.t 2))⟩,
  ⟨(some 42), none, .call 14 [(.t 41)]⟩,
  ⟨(some 43), none, .call 17 [(.t 40), (.t 42)]⟩,
  ⟨(some 44), none, .q (.not (.t 43))⟩]) (
 .cond 44 (
  .seq (.reg [
    ⟨(some 4), none, .q (.mov (.c (.bool false)))⟩]) (
  .ret)) (
  .skip))) (
 .seq (.seq (.reg [
  ⟨(some 45), none, .q (.mov (.t 8))⟩,
  ⟨(some 46), none, .q (.mov (.t 1))⟩,
  ⟨(some 47), none, .callx 15 [(.t 46)]⟩,
  ⟨(some 48), none, .callx 18 [(.t 45), (.t 47)]⟩,
  ⟨(some 49), none, .q (.not (.t 48))⟩]) (
 .cond 49 (
  .seq (.reg [
    ⟨(some 4), none, .q (.mov (.c (.bool false)))⟩]) (
  .ret)) (
  .skip))) (
 .seq (.reg [
  ⟨(some 10), none, .q (.mov (.c (.int .i64 1)))⟩]) (
 .seq (.reg [
  ⟨(some 50), none, .q (.load (some 1) (.t 7))⟩,
  ⟨(some 51), none, .q (.mov (.t 10))⟩,
  ⟨(some 52), none, .callx 19 [(.t 50), (.t 51)]⟩,
  ⟨(some 10), none, .q (.mov (.t 52))⟩]) (
 .seq (.reg [
  ⟨(some 53), none, .q (.mov (.t 8))⟩,
  ⟨(some 54), none, .q (.mov (.t 10))⟩,
  ⟨(some 55), none, .callx 20 [(.t 53), (.t 54)]⟩,
  ⟨(some 10), none, .q (.mov (.t 55))⟩]) (
 .seq (.seq (.reg [
  ⟨(some 56), none, .q (.mov (.t 10))⟩,
  ⟨(some 57), none, .q (.bin .lss false (.t 56) (.c (.int .i64 0)))⟩,
  ⟨(some 58), none, .q (.mov (.t 57))⟩,
  ⟨(some 59), (some (58, false)), .q (.mov (.t 9))⟩,
  ⟨(some 60), (some (58, false)), .q (.mov (.t 6))⟩,
  ⟨(some 61), (some (58, false)), .callx 16 [(.t 59), (.t 60)]⟩,
  ⟨(some 62), (some (58, false)), .q (.not (.t 61))⟩,
  ⟨(some 63), none, .q (.pick (.t 58) (.c (.bool true)) (.t 62))⟩]) (
 .cond 63 (
  .seq (.reg [
    ⟨(some 4), none, .q (.mov (.c (.bool false)))⟩]) (
  .ret)) (
  .skip))) (
 .seq (.reg [
  ⟨(some 11), none, .q (.mov (.c (.int .i64 1)))⟩]) (
 .seq (.reg [
  ⟨(some 64), none, .q (.mov (.t 9))⟩,
  ⟨(some 65), none, .q (.mov (.t 11))⟩,
  ⟨(some 66), none, .callx 21 [(.t 64), (.t 65)]⟩,
  ⟨(some 11), none, .q (.mov (.t 66))⟩]) (
 .seq (.reg [
  ⟨(some 12), none, .q (.mov (.c (.int .i64 1)))⟩]) (
 .seq (.reg [
  ⟨(some 67), none, .q (.mov (.t 9))⟩,
  ⟨(some 68), none, .q (.mov (.t 12))⟩,
  ⟨(some 69), none, .callx 22 [(.t 67), (.t 68)]⟩,
  ⟨(some 12), none, .q (.mov (.t 69))⟩]) (
 .seq (.seq (.reg [
  ⟨(some 70), none, .q (.mov (.t 12))⟩,
  ⟨(some 71), none, .q (.bin .lss false (.t 70) (.c (.int .i64 0)))⟩]) (
 .cond 71 (
  .seq (.reg [
    ⟨(some 4), none, .q (.mov (.c (.bool false)))⟩]) (
  .ret)) (
  .skip))) (
 .seq (.seq (.reg [
  ⟨(some 72), none, .q (.mov (.t 12))⟩,
  ⟨(some 73), none, .q (.mov (.t 11))⟩,
  ⟨(some 74), none, .q (.bin .neq false (.t 72) (.t 73))⟩]) (
 .cond 74 (
  .seq (.reg [
    ⟨(some 4), none, .q (.mov (.c (.bool false)))⟩]) (
  .ret)) (
  .skip))) (
 .seq (.reg [
  ⟨(some 75), none, .q (.load (some 1) (.t 2))⟩,
  ⟨(some 76), none, .callx 14 [(.t 75)]⟩,
  ⟨(some 77), none, .q (.mov (.t 1))⟩,
  ⟨(some 78), none, .callx 15 [(.t 77)]⟩,
  ⟨(some 79), none, .callx 7 [(.t 76), (.t 78)]⟩,
  ⟨(some 13), none, .q (.mov (.t 79))⟩]) (
 .seq (.seq (.reg [
  ⟨(some 80), none, .q (.mov (.t 13))⟩,
  ⟨(some 81), none, .q (.mov (.t 6))⟩,
  ⟨(some 82), none, .callx 16 [(.t 80), (.t 81)]⟩,
  ⟨(some 83), none, .q (.not (.t 82))⟩]) (
 .cond 83 (
  .seq (.reg [
    ⟨(some 4), none, .q (.mov (.c (.bool false)))⟩]) (
  .ret)) (
  .skip))) (
 .seq (.reg [
  ⟨(some 4), none, .q (.mov (.c (.bool true)))⟩]) (
 .ret)))))))))))))))))))))))))), 84, [.t 4]⟩
theorem comp4 : compF Go.Proofs.Try.prog [] wr64 4 = some ir4 := by kernel_rfl
end Go.Av

namespace Go.Av
set_option maxRecDepth 100000
set_option maxHeartbeats 8000000
set_option linter.unusedVariables false
set_option linter.unusedSimpArgs false

theorem c33_6 (o : Nat) (s tt : B) (a b : T) (fs : List Fc) (lab : Option B) (rs : List V)
    (hA : ∀ o lab rs, ACalls prog [] 33 [.g (.fptr (stepC o a)), .g (fcs fs), .g (labP lab rs)] [] (Q33 (M fs a lab)))
    (hB : ∀ o lab rs, ACalls prog [] 33 [.g (.fptr (stepC o b)), .g (fcs fs), .g (labP lab rs)] [] (Q33 (M fs b lab))) :
    ACalls prog [] 33 [.g (.fptr (stepC o (.bn ⟨6, s, tt⟩ a b))), .g (fcs fs), .g (labP lab rs)] [] (Q33 (M fs (.bn ⟨6, s, tt⟩ a b) lab)) := by
  generalize hM : M fs (.bn ⟨6, s, tt⟩ a b) lab = mm
  unfold M at hM
  refine ACalls.enter mixed comp33 ?_
  dsimp only [ir33]
  generalize hlv : labP lab rs = lv at *
  (repeat (first | with_reducible refine And.intro trivial ?_ | with_reducible refine And.intro rfl ?_ | (with_reducible refine And.intro ?_ ?_; focus ((repeat' (first | with_reducible exact trivial | with_reducible exact rfl | (with_reducible apply And.intro) | exact in64 (by omega) (by omega) | omega)); done)) | dsimp only [go_sem, Nat.reduceAdd, Nat.reduceSub, Option.map, bne, BEq.beq, nds, fcs, strs, stepC, keysOk, isKey, lkV, Option.getD] | simp only [sS, Int.cast_ofNat_Int, Int.reduceEq, Int.reduceLT, Int.reduceLE, Int.reduceAdd, Int.reduceSub, Int.reduceToNat]))
  refine ⟨[], [], [], _, rfl, hlv ▸ hA o lab rs, ?_⟩
  rintro r E ⟨rfl, A, rfl, hAn, hAs⟩
  (repeat (first | with_reducible refine And.intro trivial ?_ | with_reducible refine And.intro rfl ?_ | (with_reducible refine And.intro ?_ ?_; focus ((repeat' (first | with_reducible exact trivial | with_reducible exact rfl | (with_reducible apply And.intro) | exact in64 (by omega) (by omega) | omega)); done)) | dsimp only [go_sem, Nat.reduceAdd, Nat.reduceSub, Option.map, bne, BEq.beq, nds, fcs, strs, stepC, keysOk, isKey, lkV, Option.getD] | simp only [sS, Int.cast_ofNat_Int, Int.reduceEq, Int.reduceLT, Int.reduceLE, Int.reduceAdd, Int.reduceSub, Int.reduceToNat]))
  refine ⟨[], [], [], _, rfl, hlv ▸ hB (o + a.post.length) lab rs, ?_⟩
  rintro r E ⟨rfl, C, rfl, hCn, hCs⟩
  (repeat (first | with_reducible refine And.intro trivial ?_ | with_reducible refine And.intro rfl ?_ | (with_reducible refine And.intro ?_ ?_; focus ((repeat' (first | with_reducible exact trivial | with_reducible exact rfl | (with_reducible apply And.intro) | exact in64 (by omega) (by omega) | omega)); done)) | dsimp only [go_sem, Nat.reduceAdd, Nat.reduceSub, Option.map, bne, BEq.beq, nds, fcs, strs, stepC, keysOk, isKey, lkV, Option.getD] | simp only [sS, Int.cast_ofNat_Int, Int.reduceEq, Int.reduceLT, Int.reduceLE, Int.reduceAdd, Int.reduceSub, Int.reduceToNat]))
  refine lp [0, 7, 9, 69] (fun s : List Nat × List B => []) (fun s => [.map (mE s.2), .map (mE A), .map (mE C), .mit 1 (mE A).length s.1]) (fun s => Seen A s.1 ∧ s.2.Nodup ∧ Got A (fun x => decide (x ∈ C)) [] s.1 s.2) (fun s => A.length - s.1.length) ([], []) trivial rfl ⟨Seen.nil A, List.nodup_nil, Got.nil _ _ _⟩ ?_
  rintro ⟨seen, L⟩ ⟨hs, hn, hg⟩
  dsimp only at hs hn hg
  (repeat (first | with_reducible refine And.intro trivial ?_ | with_reducible refine And.intro rfl ?_ | (with_reducible refine And.intro ?_ ?_; focus ((repeat' (first | with_reducible exact trivial | with_reducible exact rfl | (with_reducible apply And.intro) | exact in64 (by omega) (by omega) | omega)); done)) | dsimp only [go_sem, Nat.reduceAdd, Nat.reduceSub, Option.map, bne, BEq.beq, nds, fcs, strs, stepC, keysOk, isKey, lkV, Option.getD] | simp only [sS, Int.cast_ofNat_Int, Int.reduceEq, Int.reduceLT, Int.reduceLE, Int.reduceAdd, Int.reduceSub, Int.reduceToNat]))
  refine ⟨rfl, rfl, fun i x hx hb => ?_, fun hall => ?_⟩
  · obtain ⟨hi, rfl⟩ := mE_at hx
    have hs' := hs.add hb hi
    have hl' := hs'.len
    simp only [List.length_append, List.length_cons, List.length_nil] at hl'
    have hh : decide (A[i] ∈ C) = true ∨ decide (A[i] ∈ C) = false := by cases decide (A[i] ∈ C) <;> simp
    (repeat (first | with_reducible refine And.intro trivial ?_ | with_reducible refine And.intro rfl ?_ | (with_reducible refine And.intro ?_ ?_; focus ((repeat' (first | with_reducible exact trivial | with_reducible exact rfl | (with_reducible apply And.intro) | exact in64 (by omega) (by omega) | omega)); done)) | dsimp only [go_sem, Nat.reduceAdd, Nat.reduceSub, Option.map, bne, BEq.beq, nds, fcs, strs, stepC, keysOk, isKey, lkV, Option.getD] | simp only [sS, Int.cast_ofNat_Int, Int.reduceEq, Int.reduceLT, Int.reduceLE, Int.reduceAdd, Int.reduceSub, Int.reduceToNat]))
    simp only [List.getLast?_concat, hx]
    (repeat (first | with_reducible refine And.intro trivial ?_ | with_reducible refine And.intro rfl ?_ | (with_reducible refine And.intro ?_ ?_; focus ((repeat' (first | with_reducible exact trivial | with_reducible exact rfl | (with_reducible apply And.intro) | exact in64 (by omega) (by omega) | omega)); done)) | dsimp only [go_sem, Nat.reduceAdd, Nat.reduceSub, Option.map, bne, BEq.beq, nds, fcs, strs, stepC, keysOk, isKey, lkV, Option.getD] | simp only [sS, Int.cast_ofNat_Int, Int.reduceEq, Int.reduceLT, Int.reduceLE, Int.reduceAdd, Int.reduceSub, Int.reduceToNat]))
    refine ⟨[2], _, rfl, rfl, rfl, c58 A[i] C, ?_⟩
    (repeat (first | with_reducible refine And.intro trivial ?_ | with_reducible refine And.intro rfl ?_ | (with_reducible refine And.intro ?_ ?_; focus ((repeat' (first | with_reducible exact trivial | with_reducible exact rfl | (with_reducible apply And.intro) | exact in64 (by omega) (by omega) | omega)); done)) | dsimp only [go_sem, Nat.reduceAdd, Nat.reduceSub, Option.map, bne, BEq.beq, nds, fcs, strs, stepC, keysOk, isKey, lkV, Option.getD] | simp only [sS, Int.cast_ofNat_Int, Int.reduceEq, Int.reduceLT, Int.reduceLE, Int.reduceAdd, Int.reduceSub, Int.reduceToNat]))
    rcases hh with hd | hd
    · (repeat (simp only [hd]; (repeat (first | with_reducible refine And.intro trivial ?_ | with_reducible refine And.intro rfl ?_ | (with_reducible refine And.intro ?_ ?_; focus ((repeat' (first | with_reducible exact trivial | with_reducible exact rfl | (with_reducible apply And.intro) | exact in64 (by omega) (by omega) | omega)); done)) | dsimp only [go_sem, Nat.reduceAdd, Nat.reduceSub, Option.map, bne, BEq.beq, nds, fcs, strs, stepC, keysOk, isKey, lkV, Option.getD] | simp only [sS, Int.cast_ofNat_Int, Int.reduceEq, Int.reduceLT, Int.reduceLE, Int.reduceAdd, Int.reduceSub, Int.reduceToNat])))); (repeat (first | with_reducible refine And.intro trivial ?_ | with_reducible refine And.intro rfl ?_ | (with_reducible refine And.intro ?_ ?_; focus ((repeat' (first | with_reducible exact trivial | with_reducible exact rfl | (with_reducible apply And.intro) | exact in64 (by omega) (by omega) | omega)); done)) | dsimp only [go_sem, Nat.reduceAdd, Nat.reduceSub, Option.map, bne, BEq.beq, nds, fcs, strs, stepC, keysOk, isKey, lkV, Option.getD] | simp only [sS, Int.cast_ofNat_Int, Int.reduceEq, Int.reduceLT, Int.reduceLE, Int.reduceAdd, Int.reduceSub, Int.reduceToNat]))
      refine ⟨⟨trivial, mE_keys L⟩, ?_⟩
      rw [ins_mE]
      refine rnd (seen ++ [i], insB L A[i]) rfl ⟨rfl, rfl, rfl, rfl, trivial⟩ trivial rfl ⟨hs', nodup_insB hn, hg.yes hi (by simp [hd])⟩ (by simp; omega)
    · (repeat (simp only [hd]; (repeat (first | with_reducible refine And.intro trivial ?_ | with_reducible refine And.intro rfl ?_ | (with_reducible refine And.intro ?_ ?_; focus ((repeat' (first | with_reducible exact trivial | with_reducible exact rfl | (with_reducible apply And.intro) | exact in64 (by omega) (by omega) | omega)); done)) | dsimp only [go_sem, Nat.reduceAdd, Nat.reduceSub, Option.map, bne, BEq.beq, nds, fcs, strs, stepC, keysOk, isKey, lkV, Option.getD] | simp only [sS, Int.cast_ofNat_Int, Int.reduceEq, Int.reduceLT, Int.reduceLE, Int.reduceAdd, Int.reduceSub, Int.reduceToNat])))); (repeat (first | with_reducible refine And.intro trivial ?_ | with_reducible refine And.intro rfl ?_ | (with_reducible refine And.intro ?_ ?_; focus ((repeat' (first | with_reducible exact trivial | with_reducible exact rfl | (with_reducible apply And.intro) | exact in64 (by omega) (by omega) | omega)); done)) | dsimp only [go_sem, Nat.reduceAdd, Nat.reduceSub, Option.map, bne, BEq.beq, nds, fcs, strs, stepC, keysOk, isKey, lkV, Option.getD] | simp only [sS, Int.cast_ofNat_Int, Int.reduceEq, Int.reduceLT, Int.reduceLE, Int.reduceAdd, Int.reduceSub, Int.reduceToNat]))
      refine rnd (seen ++ [i], L) rfl ⟨rfl, rfl, rfl, rfl, trivial⟩ trivial rfl ⟨hs', hn, hg.no hi (by simp [hd])⟩ (by simp; omega)
  · have hall' := hg.all hall
    (repeat (first | with_reducible refine And.intro trivial ?_ | with_reducible refine And.intro rfl ?_ | (with_reducible refine And.intro ?_ ?_; focus ((repeat' (first | with_reducible exact trivial | with_reducible exact rfl | (with_reducible apply And.intro) | exact in64 (by omega) (by omega) | omega)); done)) | dsimp only [go_sem, Nat.reduceAdd, Nat.reduceSub, Option.map, bne, BEq.beq, nds, fcs, strs, stepC, keysOk, isKey, lkV, Option.getD] | simp only [sS, Int.cast_ofNat_Int, Int.reduceEq, Int.reduceLT, Int.reduceLE, Int.reduceAdd, Int.reduceSub, Int.reduceToNat]))
    refine finA0 ?_; (repeat (first | with_reducible refine And.intro trivial ?_ | with_reducible refine And.intro rfl ?_ | (with_reducible refine And.intro ?_ ?_; focus ((repeat' (first | with_reducible exact trivial | with_reducible exact rfl | (with_reducible apply And.intro) | exact in64 (by omega) (by omega) | omega)); done)) | dsimp only [go_sem, Nat.reduceAdd, Nat.reduceSub, Option.map, bne, BEq.beq, nds, fcs, strs, stepC, keysOk, isKey, lkV, Option.getD] | simp only [sS, Int.cast_ofNat_Int, Int.reduceEq, Int.reduceLT, Int.reduceLE, Int.reduceAdd, Int.reduceSub, Int.reduceToNat]))
    refine ⟨false, [0], rfl, rfl, L, rfl, hn, fun x => ?_⟩
    rw [hall' x, ← hM]
    simp [hAs x, hCs x]

theorem c33_8 (o : Nat) (s tt : B) (a b : T) (fs : List Fc) (lab : Option B) (rs : List V)
    (hA : ∀ o lab rs, ACalls prog [] 33 [.g (.fptr (stepC o a)), .g (fcs fs), .g (labP lab rs)] [] (Q33 (M fs a lab)))
    (hB : ∀ o lab rs, ACalls prog [] 33 [.g (.fptr (stepC o b)), .g (fcs fs), .g (labP lab rs)] [] (Q33 (M fs b lab))) :
    ACalls prog [] 33 [.g (.fptr (stepC o (.bn ⟨8, s, tt⟩ a b))), .g (fcs fs), .g (labP lab rs)] [] (Q33 (M fs (.bn ⟨8, s, tt⟩ a b) lab)) := by
  generalize hM : M fs (.bn ⟨8, s, tt⟩ a b) lab = mm
  unfold M at hM
  refine ACalls.enter mixed comp33 ?_
  dsimp only [ir33]
  generalize hlv : labP lab rs = lv at *
  (repeat (first | with_reducible refine And.intro trivial ?_ | with_reducible refine And.intro rfl ?_ | (with_reducible refine And.intro ?_ ?_; focus ((repeat' (first | with_reducible exact trivial | with_reducible exact rfl | (with_reducible apply And.intro) | exact in64 (by omega) (by omega) | omega)); done)) | dsimp only [go_sem, Nat.reduceAdd, Nat.reduceSub, Option.map, bne, BEq.beq, nds, fcs, strs, stepC, keysOk, isKey, lkV, Option.getD] | simp only [sS, Int.cast_ofNat_Int, Int.reduceEq, Int.reduceLT, Int.reduceLE, Int.reduceAdd, Int.reduceSub, Int.reduceToNat]))
  refine ⟨[], [], [], _, rfl, hlv ▸ hA o lab rs, ?_⟩
  rintro r E ⟨rfl, A, rfl, hAn, hAs⟩
  (repeat (first | with_reducible refine And.intro trivial ?_ | with_reducible refine And.intro rfl ?_ | (with_reducible refine And.intro ?_ ?_; focus ((repeat' (first | with_reducible exact trivial | with_reducible exact rfl | (with_reducible apply And.intro) | exact in64 (by omega) (by omega) | omega)); done)) | dsimp only [go_sem, Nat.reduceAdd, Nat.reduceSub, Option.map, bne, BEq.beq, nds, fcs, strs, stepC, keysOk, isKey, lkV, Option.getD] | simp only [sS, Int.cast_ofNat_Int, Int.reduceEq, Int.reduceLT, Int.reduceLE, Int.reduceAdd, Int.reduceSub, Int.reduceToNat]))
  refine ⟨[], [], [], _, rfl, hlv ▸ hB (o + a.post.length) lab rs, ?_⟩
  rintro r E ⟨rfl, C, rfl, hCn, hCs⟩
  (repeat (first | with_reducible refine And.intro trivial ?_ | with_reducible refine And.intro rfl ?_ | (with_reducible refine And.intro ?_ ?_; focus ((repeat' (first | with_reducible exact trivial | with_reducible exact rfl | (with_reducible apply And.intro) | exact in64 (by omega) (by omega) | omega)); done)) | dsimp only [go_sem, Nat.reduceAdd, Nat.reduceSub, Option.map, bne, BEq.beq, nds, fcs, strs, stepC, keysOk, isKey, lkV, Option.getD] | simp only [sS, Int.cast_ofNat_Int, Int.reduceEq, Int.reduceLT, Int.reduceLE, Int.reduceAdd, Int.reduceSub, Int.reduceToNat]))
  refine lp [0, 7, 9, 69] (fun s : List Nat × List B => []) (fun s => [.map (mE s.2), .map (mE A), .map (mE C), .mit 1 (mE A).length s.1]) (fun s => Seen A s.1 ∧ s.2.Nodup ∧ Got A (fun x => !decide (x ∈ C)) [] s.1 s.2) (fun s => A.length - s.1.length) ([], []) trivial rfl ⟨Seen.nil A, List.nodup_nil, Got.nil _ _ _⟩ ?_
  rintro ⟨seen, L⟩ ⟨hs, hn, hg⟩
  dsimp only at hs hn hg
  (repeat (first | with_reducible refine And.intro trivial ?_ | with_reducible refine And.intro rfl ?_ | (with_reducible refine And.intro ?_ ?_; focus ((repeat' (first | with_reducible exact trivial | with_reducible exact rfl | (with_reducible apply And.intro) | exact in64 (by omega) (by omega) | omega)); done)) | dsimp only [go_sem, Nat.reduceAdd, Nat.reduceSub, Option.map, bne, BEq.beq, nds, fcs, strs, stepC, keysOk, isKey, lkV, Option.getD] | simp only [sS, Int.cast_ofNat_Int, Int.reduceEq, Int.reduceLT, Int.reduceLE, Int.reduceAdd, Int.reduceSub, Int.reduceToNat]))
  refine ⟨rfl, rfl, fun i x hx hb => ?_, fun hall => ?_⟩
  · obtain ⟨hi, rfl⟩ := mE_at hx
    have hs' := hs.add hb hi
    have hl' := hs'.len
    simp only [List.length_append, List.length_cons, List.length_nil] at hl'
    have hh : decide (A[i] ∈ C) = true ∨ decide (A[i] ∈ C) = false := by cases decide (A[i] ∈ C) <;> simp
    (repeat (first | with_reducible refine And.intro trivial ?_ | with_reducible refine And.intro rfl ?_ | (with_reducible refine And.intro ?_ ?_; focus ((repeat' (first | with_reducible exact trivial | with_reducible exact rfl | (with_reducible apply And.intro) | exact in64 (by omega) (by omega) | omega)); done)) | dsimp only [go_sem, Nat.reduceAdd, Nat.reduceSub, Option.map, bne, BEq.beq, nds, fcs, strs, stepC, keysOk, isKey, lkV, Option.getD] | simp only [sS, Int.cast_ofNat_Int, Int.reduceEq, Int.reduceLT, Int.reduceLE, Int.reduceAdd, Int.reduceSub, Int.reduceToNat]))
    simp only [List.getLast?_concat, hx]
    (repeat (first | with_reducible refine And.intro trivial ?_ | with_reducible refine And.intro rfl ?_ | (with_reducible refine And.intro ?_ ?_; focus ((repeat' (first | with_reducible exact trivial | with_reducible exact rfl | (with_reducible apply And.intro) | exact in64 (by omega) (by omega) | omega)); done)) | dsimp only [go_sem, Nat.reduceAdd, Nat.reduceSub, Option.map, bne, BEq.beq, nds, fcs, strs, stepC, keysOk, isKey, lkV, Option.getD] | simp only [sS, Int.cast_ofNat_Int, Int.reduceEq, Int.reduceLT, Int.reduceLE, Int.reduceAdd, Int.reduceSub, Int.reduceToNat]))
    refine ⟨[2], _, rfl, rfl, rfl, c58 A[i] C, ?_⟩
    (repeat (first | with_reducible refine And.intro trivial ?_ | with_reducible refine And.intro rfl ?_ | (with_reducible refine And.intro ?_ ?_; focus ((repeat' (first | with_reducible exact trivial | with_reducible exact rfl | (with_reducible apply And.intro) | exact in64 (by omega) (by omega) | omega)); done)) | dsimp only [go_sem, Nat.reduceAdd, Nat.reduceSub, Option.map, bne, BEq.beq, nds, fcs, strs, stepC, keysOk, isKey, lkV, Option.getD] | simp only [sS, Int.cast_ofNat_Int, Int.reduceEq, Int.reduceLT, Int.reduceLE, Int.reduceAdd, Int.reduceSub, Int.reduceToNat]))
    rcases hh with hd | hd
    · (repeat (simp only [hd]; (repeat (first | with_reducible refine And.intro trivial ?_ | with_reducible refine And.intro rfl ?_ | (with_reducible refine And.intro ?_ ?_; focus ((repeat' (first | with_reducible exact trivial | with_reducible exact rfl | (with_reducible apply And.intro) | exact in64 (by omega) (by omega) | omega)); done)) | dsimp only [go_sem, Nat.reduceAdd, Nat.reduceSub, Option.map, bne, BEq.beq, nds, fcs, strs, stepC, keysOk, isKey, lkV, Option.getD] | simp only [sS, Int.cast_ofNat_Int, Int.reduceEq, Int.reduceLT, Int.reduceLE, Int.reduceAdd, Int.reduceSub, Int.reduceToNat])))); (repeat (first | with_reducible refine And.intro trivial ?_ | with_reducible refine And.intro rfl ?_ | (with_reducible refine And.intro ?_ ?_; focus ((repeat' (first | with_reducible exact trivial | with_reducible exact rfl | (with_reducible apply And.intro) | exact in64 (by omega) (by omega) | omega)); done)) | dsimp only [go_sem, Nat.reduceAdd, Nat.reduceSub, Option.map, bne, BEq.beq, nds, fcs, strs, stepC, keysOk, isKey, lkV, Option.getD] | simp only [sS, Int.cast_ofNat_Int, Int.reduceEq, Int.reduceLT, Int.reduceLE, Int.reduceAdd, Int.reduceSub, Int.reduceToNat]))
      refine rnd (seen ++ [i], L) rfl ⟨rfl, rfl, rfl, rfl, trivial⟩ trivial rfl ⟨hs', hn, hg.no hi (by simp [hd])⟩ (by simp; omega)
    · (repeat (simp only [hd]; (repeat (first | with_reducible refine And.intro trivial ?_ | with_reducible refine And.intro rfl ?_ | (with_reducible refine And.intro ?_ ?_; focus ((repeat' (first | with_reducible exact trivial | with_reducible exact rfl | (with_reducible apply And.intro) | exact in64 (by omega) (by omega) | omega)); done)) | dsimp only [go_sem, Nat.reduceAdd, Nat.reduceSub, Option.map, bne, BEq.beq, nds, fcs, strs, stepC, keysOk, isKey, lkV, Option.getD] | simp only [sS, Int.cast_ofNat_Int, Int.reduceEq, Int.reduceLT, Int.reduceLE, Int.reduceAdd, Int.reduceSub, Int.reduceToNat])))); (repeat (first | with_reducible refine And.intro trivial ?_ | with_reducible refine And.intro rfl ?_ | (with_reducible refine And.intro ?_ ?_; focus ((repeat' (first | with_reducible exact trivial | with_reducible exact rfl | (with_reducible apply And.intro) | exact in64 (by omega) (by omega) | omega)); done)) | dsimp only [go_sem, Nat.reduceAdd, Nat.reduceSub, Option.map, bne, BEq.beq, nds, fcs, strs, stepC, keysOk, isKey, lkV, Option.getD] | simp only [sS, Int.cast_ofNat_Int, Int.reduceEq, Int.reduceLT, Int.reduceLE, Int.reduceAdd, Int.reduceSub, Int.reduceToNat]))
      refine ⟨⟨trivial, mE_keys L⟩, ?_⟩
      rw [ins_mE]
      refine rnd (seen ++ [i], insB L A[i]) rfl ⟨rfl, rfl, rfl, rfl, trivial⟩ trivial rfl ⟨hs', nodup_insB hn, hg.yes hi (by simp [hd])⟩ (by simp; omega)
  · have hall' := hg.all hall
    (repeat (first | with_reducible refine And.intro trivial ?_ | with_reducible refine And.intro rfl ?_ | (with_reducible refine And.intro ?_ ?_; focus ((repeat' (first | with_reducible exact trivial | with_reducible exact rfl | (with_reducible apply And.intro) | exact in64 (by omega) (by omega) | omega)); done)) | dsimp only [go_sem, Nat.reduceAdd, Nat.reduceSub, Option.map, bne, BEq.beq, nds, fcs, strs, stepC, keysOk, isKey, lkV, Option.getD] | simp only [sS, Int.cast_ofNat_Int, Int.reduceEq, Int.reduceLT, Int.reduceLE, Int.reduceAdd, Int.reduceSub, Int.reduceToNat]))
    refine finA0 ?_; (repeat (first | with_reducible refine And.intro trivial ?_ | with_reducible refine And.intro rfl ?_ | (with_reducible refine And.intro ?_ ?_; focus ((repeat' (first | with_reducible exact trivial | with_reducible exact rfl | (with_reducible apply And.intro) | exact in64 (by omega) (by omega) | omega)); done)) | dsimp only [go_sem, Nat.reduceAdd, Nat.reduceSub, Option.map, bne, BEq.beq, nds, fcs, strs, stepC, keysOk, isKey, lkV, Option.getD] | simp only [sS, Int.cast_ofNat_Int, Int.reduceEq, Int.reduceLT, Int.reduceLE, Int.reduceAdd, Int.reduceSub, Int.reduceToNat]))
    refine ⟨false, [0], rfl, rfl, L, rfl, hn, fun x => ?_⟩
    rw [hall' x, ← hM]
    simp [hAs x, hCs x]

theorem c33_7 (o : Nat) (s tt : B) (a b : T) (fs : List Fc) (lab : Option B) (rs : List V)
    (hA : ∀ o lab rs, ACalls prog [] 33 [.g (.fptr (stepC o a)), .g (fcs fs), .g (labP lab rs)] [] (Q33 (M fs a lab)))
    (hB : ∀ o lab rs, ACalls prog [] 33 [.g (.fptr (stepC o b)), .g (fcs fs), .g (labP lab rs)] [] (Q33 (M fs b lab))) :
    ACalls prog [] 33 [.g (.fptr (stepC o (.bn ⟨7, s, tt⟩ a b))), .g (fcs fs), .g (labP lab rs)] [] (Q33 (M fs (.bn ⟨7, s, tt⟩ a b) lab)) := by
  generalize hM : M fs (.bn ⟨7, s, tt⟩ a b) lab = mm
  unfold M at hM
  refine ACalls.enter mixed comp33 ?_
  dsimp only [ir33]
  generalize hlv : labP lab rs = lv at *
  (repeat (first | with_reducible refine And.intro trivial ?_ | with_reducible refine And.intro rfl ?_ | (with_reducible refine And.intro ?_ ?_; focus ((repeat' (first | with_reducible exact trivial | with_reducible exact rfl | (with_reducible apply And.intro) | exact in64 (by omega) (by omega) | omega)); done)) | dsimp only [go_sem, Nat.reduceAdd, Nat.reduceSub, Option.map, bne, BEq.beq, nds, fcs, strs, stepC, keysOk, isKey, lkV, Option.getD] | simp only [sS, Int.cast_ofNat_Int, Int.reduceEq, Int.reduceLT, Int.reduceLE, Int.reduceAdd, Int.reduceSub, Int.reduceToNat]))
  refine ⟨[], [], [], _, rfl, hlv ▸ hA o lab rs, ?_⟩
  rintro r E ⟨rfl, A, rfl, hAn, hAs⟩
  (repeat (first | with_reducible refine And.intro trivial ?_ | with_reducible refine And.intro rfl ?_ | (with_reducible refine And.intro ?_ ?_; focus ((repeat' (first | with_reducible exact trivial | with_reducible exact rfl | (with_reducible apply And.intro) | exact in64 (by omega) (by omega) | omega)); done)) | dsimp only [go_sem, Nat.reduceAdd, Nat.reduceSub, Option.map, bne, BEq.beq, nds, fcs, strs, stepC, keysOk, isKey, lkV, Option.getD] | simp only [sS, Int.cast_ofNat_Int, Int.reduceEq, Int.reduceLT, Int.reduceLE, Int.reduceAdd, Int.reduceSub, Int.reduceToNat]))
  refine ⟨[], [], [], _, rfl, hlv ▸ hB (o + a.post.length) lab rs, ?_⟩
  rintro r E ⟨rfl, C, rfl, hCn, hCs⟩
  (repeat (first | with_reducible refine And.intro trivial ?_ | with_reducible refine And.intro rfl ?_ | (with_reducible refine And.intro ?_ ?_; focus ((repeat' (first | with_reducible exact trivial | with_reducible exact rfl | (with_reducible apply And.intro) | exact in64 (by omega) (by omega) | omega)); done)) | dsimp only [go_sem, Nat.reduceAdd, Nat.reduceSub, Option.map, bne, BEq.beq, nds, fcs, strs, stepC, keysOk, isKey, lkV, Option.getD] | simp only [sS, Int.cast_ofNat_Int, Int.reduceEq, Int.reduceLT, Int.reduceLE, Int.reduceAdd, Int.reduceSub, Int.reduceToNat]))
  refine lp [8, 90] (fun s : List Nat × List B => []) (fun s => [.map [], .map (mE s.2), .map (mE C), .mit 2 (mE C).length s.1]) (fun s => Seen C s.1 ∧ s.2.Nodup ∧ Got C (fun x => true) A s.1 s.2) (fun s => C.length - s.1.length) ([], A) trivial rfl ⟨Seen.nil C, hAn, Got.nil _ _ _⟩ ?_
  rintro ⟨seen, L⟩ ⟨hs, hn, hg⟩
  dsimp only at hs hn hg
  (repeat (first | with_reducible refine And.intro trivial ?_ | with_reducible refine And.intro rfl ?_ | (with_reducible refine And.intro ?_ ?_; focus ((repeat' (first | with_reducible exact trivial | with_reducible exact rfl | (with_reducible apply And.intro) | exact in64 (by omega) (by omega) | omega)); done)) | dsimp only [go_sem, Nat.reduceAdd, Nat.reduceSub, Option.map, bne, BEq.beq, nds, fcs, strs, stepC, keysOk, isKey, lkV, Option.getD] | simp only [sS, Int.cast_ofNat_Int, Int.reduceEq, Int.reduceLT, Int.reduceLE, Int.reduceAdd, Int.reduceSub, Int.reduceToNat]))
  refine ⟨rfl, rfl, fun i x hx hb => ?_, fun hall => ?_⟩
  · obtain ⟨hi, rfl⟩ := mE_at hx
    have hs' := hs.add hb hi
    have hl' := hs'.len
    simp only [List.length_append, List.length_cons, List.length_nil] at hl'
    (repeat (first | with_reducible refine And.intro trivial ?_ | with_reducible refine And.intro rfl ?_ | (with_reducible refine And.intro ?_ ?_; focus ((repeat' (first | with_reducible exact trivial | with_reducible exact rfl | (with_reducible apply And.intro) | exact in64 (by omega) (by omega) | omega)); done)) | dsimp only [go_sem, Nat.reduceAdd, Nat.reduceSub, Option.map, bne, BEq.beq, nds, fcs, strs, stepC, keysOk, isKey, lkV, Option.getD] | simp only [sS, Int.cast_ofNat_Int, Int.reduceEq, Int.reduceLT, Int.reduceLE, Int.reduceAdd, Int.reduceSub, Int.reduceToNat]))
    simp only [List.getLast?_concat, hx]
    (repeat (first | with_reducible refine And.intro trivial ?_ | with_reducible refine And.intro rfl ?_ | (with_reducible refine And.intro ?_ ?_; focus ((repeat' (first | with_reducible exact trivial | with_reducible exact rfl | (with_reducible apply And.intro) | exact in64 (by omega) (by omega) | omega)); done)) | dsimp only [go_sem, Nat.reduceAdd, Nat.reduceSub, Option.map, bne, BEq.beq, nds, fcs, strs, stepC, keysOk, isKey, lkV, Option.getD] | simp only [sS, Int.cast_ofNat_Int, Int.reduceEq, Int.reduceLT, Int.reduceLE, Int.reduceAdd, Int.reduceSub, Int.reduceToNat]))
    refine ⟨⟨trivial, mE_keys L⟩, ?_⟩
    rw [ins_mE]
    refine rnd (seen ++ [i], insB L C[i]) rfl ⟨rfl, rfl, trivial⟩ trivial rfl ⟨hs', nodup_insB hn, hg.yes hi rfl⟩ (by simp; omega)
  · have hall' := hg.all hall
    (repeat (first | with_reducible refine And.intro trivial ?_ | with_reducible refine And.intro rfl ?_ | (with_reducible refine And.intro ?_ ?_; focus ((repeat' (first | with_reducible exact trivial | with_reducible exact rfl | (with_reducible apply And.intro) | exact in64 (by omega) (by omega) | omega)); done)) | dsimp only [go_sem, Nat.reduceAdd, Nat.reduceSub, Option.map, bne, BEq.beq, nds, fcs, strs, stepC, keysOk, isKey, lkV, Option.getD] | simp only [sS, Int.cast_ofNat_Int, Int.reduceEq, Int.reduceLT, Int.reduceLE, Int.reduceAdd, Int.reduceSub, Int.reduceToNat]))
    refine finA0 ?_; (repeat (first | with_reducible refine And.intro trivial ?_ | with_reducible refine And.intro rfl ?_ | (with_reducible refine And.intro ?_ ?_; focus ((repeat' (first | with_reducible exact trivial | with_reducible exact rfl | (with_reducible apply And.intro) | exact in64 (by omega) (by omega) | omega)); done)) | dsimp only [go_sem, Nat.reduceAdd, Nat.reduceSub, Option.map, bne, BEq.beq, nds, fcs, strs, stepC, keysOk, isKey, lkV, Option.getD] | simp only [sS, Int.cast_ofNat_Int, Int.reduceEq, Int.reduceLT, Int.reduceLE, Int.reduceAdd, Int.reduceSub, Int.reduceToNat]))
    refine ⟨false, [1], rfl, rfl, L, rfl, hn, fun x => ?_⟩
    rw [hall' x, ← hM, if_neg (by simp), if_neg (by simp), foldAdd_mem, hAs x, hCs x]
    simp

theorem c33_9 (o : Nat) (s tt : B) (a : T) (fs : List Fc) (lab : Option B) (rs : List V)
    (hA : ∀ o lab rs, ACalls prog [] 33 [.g (.fptr (stepC o a)), .g (fcs fs), .g (labP lab rs)] [] (Q33 (M fs a lab))) :
    ACalls prog [] 33 [.g (.fptr (stepC o (.un ⟨9, s, tt⟩ a))), .g (fcs fs), .g (labP lab rs)] [] (Q33 (M fs (.un ⟨9, s, tt⟩ a) lab)) := by
  generalize hM : M fs (.un ⟨9, s, tt⟩ a) lab = mm
  unfold M at hM
  refine ACalls.enter mixed comp33 ?_
  dsimp only [ir33]
  generalize hlv : labP lab rs = lv at *
  (repeat (first | with_reducible refine And.intro trivial ?_ | with_reducible refine And.intro rfl ?_ | (with_reducible refine And.intro ?_ ?_; focus ((repeat' (first | with_reducible exact trivial | with_reducible exact rfl | (with_reducible apply And.intro) | exact in64 (by omega) (by omega) | omega)); done)) | dsimp only [go_sem, Nat.reduceAdd, Nat.reduceSub, Option.map, bne, BEq.beq, nds, fcs, strs, stepC, keysOk, isKey, lkV, Option.getD] | simp only [sS, Int.cast_ofNat_Int, Int.reduceEq, Int.reduceLT, Int.reduceLE, Int.reduceAdd, Int.reduceSub, Int.reduceToNat]))
  refine ⟨[], [], [], _, rfl, hA o (some s) _, ?_⟩
  rintro r E ⟨rfl, A, rfl, hAn, hAs⟩
  (repeat (first | with_reducible refine And.intro trivial ?_ | with_reducible refine And.intro rfl ?_ | (with_reducible refine And.intro ?_ ?_; focus ((repeat' (first | with_reducible exact trivial | with_reducible exact rfl | (with_reducible apply And.intro) | exact in64 (by omega) (by omega) | omega)); done)) | dsimp only [go_sem, Nat.reduceAdd, Nat.reduceSub, Option.map, bne, BEq.beq, nds, fcs, strs, stepC, keysOk, isKey, lkV, Option.getD] | simp only [sS, Int.cast_ofNat_Int, Int.reduceEq, Int.reduceLT, Int.reduceLE, Int.reduceAdd, Int.reduceSub, Int.reduceToNat]))
  refine finA0 ?_; (repeat (first | with_reducible refine And.intro trivial ?_ | with_reducible refine And.intro rfl ?_ | (with_reducible refine And.intro ?_ ?_; focus ((repeat' (first | with_reducible exact trivial | with_reducible exact rfl | (with_reducible apply And.intro) | exact in64 (by omega) (by omega) | omega)); done)) | dsimp only [go_sem, Nat.reduceAdd, Nat.reduceSub, Option.map, bne, BEq.beq, nds, fcs, strs, stepC, keysOk, isKey, lkV, Option.getD] | simp only [sS, Int.cast_ofNat_Int, Int.reduceEq, Int.reduceLT, Int.reduceLE, Int.reduceAdd, Int.reduceSub, Int.reduceToNat]))
  refine ⟨false, [1], rfl, rfl, A, rfl, hAn, fun x => ?_⟩
  rw [hAs x, ← hM, if_pos rfl]

end Go.Av

namespace Go.Av
set_option maxRecDepth 100000
set_option maxHeartbeats 8000000
set_option linter.unusedVariables false
set_option linter.unusedSimpArgs false

theorem c33_1 (o : Nat) (s tt : B) (fs : List Fc) (hfs : fs.length ≤ 1000) (lab : Option B) (rs : List V) :
    ACalls prog [] 33 [.g (.fptr (stepC o (.lf ⟨1, s, tt⟩))), .g (fcs fs), .g (labP lab rs)] [] (Q33 (M fs (.lf ⟨1, s, tt⟩) lab)) := by
  generalize hM : M fs (.lf ⟨1, s, tt⟩) lab = mm
  unfold M at hM
  refine ACalls.enter mixed comp33 ?_
  dsimp only [ir33]
  cases lab with
  | none =>
    dsimp only [labP]
    (repeat (first | with_reducible refine And.intro trivial ?_ | with_reducible refine And.intro rfl ?_ | (with_reducible refine And.intro ?_ ?_; focus ((repeat' (first | with_reducible exact trivial | with_reducible exact rfl | (with_reducible apply And.intro) | exact in64 (by omega) (by omega) | omega)); done)) | dsimp only [go_sem, Nat.reduceAdd, Nat.reduceSub, Option.map, bne, BEq.beq, nds, fcs, strs, stepC, keysOk, isKey, lkV, Option.getD] | simp only [sS, Int.cast_ofNat_Int, Int.reduceEq, Int.reduceLT, Int.reduceLE, Int.reduceAdd, Int.reduceSub, Int.reduceToNat]))
    refine lp [0, 2, 7, 98, 99] (fun i : Nat => [(100, .g (.int .i64 i))]) (fun i => [.map (mE (acI ⟨1, s, tt⟩ [] none fs i))]) (fun i => i ≤ fs.length) (fun i => fs.length - i) 0 ⟨rfl, trivial⟩ rfl (by omega) ?_
    intro i hi
    generalize hL : acI ⟨1, s, tt⟩ [] none fs i = L at *
    (repeat (first | with_reducible refine And.intro trivial ?_ | with_reducible refine And.intro rfl ?_ | (with_reducible refine And.intro ?_ ?_; focus ((repeat' (first | with_reducible exact trivial | with_reducible exact rfl | (with_reducible apply And.intro) | exact in64 (by omega) (by omega) | omega)); done)) | dsimp only [go_sem, Nat.reduceAdd, Nat.reduceSub, Option.map, bne, BEq.beq, nds, fcs, strs, stepC, keysOk, isKey, lkV, Option.getD] | simp only [sS, Int.cast_ofNat_Int, Int.reduceEq, Int.reduceLT, Int.reduceLE, Int.reduceAdd, Int.reduceSub, Int.reduceToNat]))
    refine br (fun h1 => ?_) (fun h1 => ?_)
    · simp only [decide_eq_true_eq] at h1
      have hlt : i < fs.length := by omega
      have e1 := getD_at fcC fs hlt
      have en := acI_next ⟨1, s, tt⟩ [] none fs hlt
      rw [hL] at en
      generalize hf : fs[i] = f at *
      (repeat (first | with_reducible refine And.intro trivial ?_ | with_reducible refine And.intro rfl ?_ | (with_reducible refine And.intro ?_ ?_; focus ((repeat' (first | with_reducible exact trivial | with_reducible exact rfl | (with_reducible apply And.intro) | exact in64 (by omega) (by omega) | omega)); done)) | dsimp only [go_sem, Nat.reduceAdd, Nat.reduceSub, Option.map, bne, BEq.beq, nds, fcs, strs, stepC, keysOk, isKey, lkV, Option.getD] | simp only [sS, Int.cast_ofNat_Int, Int.reduceEq, Int.reduceLT, Int.reduceLE, Int.reduceAdd, Int.reduceSub, Int.reduceToNat]))
      simp only [e1, fcC]
      (repeat (first | with_reducible refine And.intro trivial ?_ | with_reducible refine And.intro rfl ?_ | (with_reducible refine And.intro ?_ ?_; focus ((repeat' (first | with_reducible exact trivial | with_reducible exact rfl | (with_reducible apply And.intro) | exact in64 (by omega) (by omega) | omega)); done)) | dsimp only [go_sem, Nat.reduceAdd, Nat.reduceSub, Option.map, bne, BEq.beq, nds, fcs, strs, stepC, keysOk, isKey, lkV, Option.getD] | simp only [sS, Int.cast_ofNat_Int, Int.reduceEq, Int.reduceLT, Int.reduceLE, Int.reduceAdd, Int.reduceSub, Int.reduceToNat]))
      refine ⟨⟨trivial, mE_keys _⟩, ?_⟩
      (repeat (simp only [ins_mE]; (repeat (first | with_reducible refine And.intro trivial ?_ | with_reducible refine And.intro rfl ?_ | (with_reducible refine And.intro ?_ ?_; focus ((repeat' (first | with_reducible exact trivial | with_reducible exact rfl | (with_reducible apply And.intro) | exact in64 (by omega) (by omega) | omega)); done)) | dsimp only [go_sem, Nat.reduceAdd, Nat.reduceSub, Option.map, bne, BEq.beq, nds, fcs, strs, stepC, keysOk, isKey, lkV, Option.getD] | simp only [sS, Int.cast_ofNat_Int, Int.reduceEq, Int.reduceLT, Int.reduceLE, Int.reduceAdd, Int.reduceSub, Int.reduceToNat])))); (repeat (first | with_reducible refine And.intro trivial ?_ | with_reducible refine And.intro rfl ?_ | (with_reducible refine And.intro ?_ ?_; focus ((repeat' (first | with_reducible exact trivial | with_reducible exact rfl | (with_reducible apply And.intro) | exact in64 (by omega) (by omega) | omega)); done)) | dsimp only [go_sem, Nat.reduceAdd, Nat.reduceSub, Option.map, bne, BEq.beq, nds, fcs, strs, stepC, keysOk, isKey, lkV, Option.getD] | simp only [sS, Int.cast_ofNat_Int, Int.reduceEq, Int.reduceLT, Int.reduceLE, Int.reduceAdd, Int.reduceSub, Int.reduceToNat]))
      refine ⟨⟨trivial, mE_keys _⟩, ?_⟩
      (repeat (simp only [ins_mE]; (repeat (first | with_reducible refine And.intro trivial ?_ | with_reducible refine And.intro rfl ?_ | (with_reducible refine And.intro ?_ ?_; focus ((repeat' (first | with_reducible exact trivial | with_reducible exact rfl | (with_reducible apply And.intro) | exact in64 (by omega) (by omega) | omega)); done)) | dsimp only [go_sem, Nat.reduceAdd, Nat.reduceSub, Option.map, bne, BEq.beq, nds, fcs, strs, stepC, keysOk, isKey, lkV, Option.getD] | simp only [sS, Int.cast_ofNat_Int, Int.reduceEq, Int.reduceLT, Int.reduceLE, Int.reduceAdd, Int.reduceSub, Int.reduceToNat])))); (repeat (first | with_reducible refine And.intro trivial ?_ | with_reducible refine And.intro rfl ?_ | (with_reducible refine And.intro ?_ ?_; focus ((repeat' (first | with_reducible exact trivial | with_reducible exact rfl | (with_reducible apply And.intro) | exact in64 (by omega) (by omega) | omega)); done)) | dsimp only [go_sem, Nat.reduceAdd, Nat.reduceSub, Option.map, bne, BEq.beq, nds, fcs, strs, stepC, keysOk, isKey, lkV, Option.getD] | simp only [sS, Int.cast_ofNat_Int, Int.reduceEq, Int.reduceLT, Int.reduceLE, Int.reduceAdd, Int.reduceSub, Int.reduceToNat]))
      refine rndg (i + 1) (Gh.sub [0] rfl rfl) ?_ ?_ ?_ ?_ (by omega) (by omega)
      · rfl
      · exact ⟨rfl, rfl, rfl, rfl, rfl, trivial⟩
      · exact ⟨rfl, trivial⟩
      · rw [en]; simp [inl, ins1]; try rfl
    · simp only [decide_eq_false_iff_not] at h1
      obtain rfl : i = fs.length := by omega
      (repeat (first | with_reducible refine And.intro trivial ?_ | with_reducible refine And.intro rfl ?_ | (with_reducible refine And.intro ?_ ?_; focus ((repeat' (first | with_reducible exact trivial | with_reducible exact rfl | (with_reducible apply And.intro) | exact in64 (by omega) (by omega) | omega)); done)) | dsimp only [go_sem, Nat.reduceAdd, Nat.reduceSub, Option.map, bne, BEq.beq, nds, fcs, strs, stepC, keysOk, isKey, lkV, Option.getD] | simp only [sS, Int.cast_ofNat_Int, Int.reduceEq, Int.reduceLT, Int.reduceLE, Int.reduceAdd, Int.reduceSub, Int.reduceToNat]))
      refine finA0 ?_; (repeat (first | with_reducible refine And.intro trivial ?_ | with_reducible refine And.intro rfl ?_ | (with_reducible refine And.intro ?_ ?_; focus ((repeat' (first | with_reducible exact trivial | with_reducible exact rfl | (with_reducible apply And.intro) | exact in64 (by omega) (by omega) | omega)); done)) | dsimp only [go_sem, Nat.reduceAdd, Nat.reduceSub, Option.map, bne, BEq.beq, nds, fcs, strs, stepC, keysOk, isKey, lkV, Option.getD] | simp only [sS, Int.cast_ofNat_Int, Int.reduceEq, Int.reduceLT, Int.reduceLE, Int.reduceAdd, Int.reduceSub, Int.reduceToNat]))
      refine ⟨false, [0], rfl, rfl, L, rfl, hL ▸ acI_nd _ _ _ _ _, ?_⟩
      rw [← hL, ← hM]
      exact acI_sm (fun x => Iff.rfl) _ fs
  | some g =>
    dsimp only [labP]
    (repeat (first | with_reducible refine And.intro trivial ?_ | with_reducible refine And.intro rfl ?_ | (with_reducible refine And.intro ?_ ?_; focus ((repeat' (first | with_reducible exact trivial | with_reducible exact rfl | (with_reducible apply And.intro) | exact in64 (by omega) (by omega) | omega)); done)) | dsimp only [go_sem, Nat.reduceAdd, Nat.reduceSub, Option.map, bne, BEq.beq, nds, fcs, strs, stepC, keysOk, isKey, lkV, Option.getD] | simp only [sS, Int.cast_ofNat_Int, Int.reduceEq, Int.reduceLT, Int.reduceLE, Int.reduceAdd, Int.reduceSub, Int.reduceToNat]))
    refine lp [0, 2, 7, 98, 99] (fun i : Nat => [(100, .g (.int .i64 i))]) (fun i => [.map (mE (acI ⟨1, s, tt⟩ [] (some g) fs i))]) (fun i => i ≤ fs.length) (fun i => fs.length - i) 0 ⟨rfl, trivial⟩ rfl (by omega) ?_
    intro i hi
    generalize hL : acI ⟨1, s, tt⟩ [] (some g) fs i = L at *
    (repeat (first | with_reducible refine And.intro trivial ?_ | with_reducible refine And.intro rfl ?_ | (with_reducible refine And.intro ?_ ?_; focus ((repeat' (first | with_reducible exact trivial | with_reducible exact rfl | (with_reducible apply And.intro) | exact in64 (by omega) (by omega) | omega)); done)) | dsimp only [go_sem, Nat.reduceAdd, Nat.reduceSub, Option.map, bne, BEq.beq, nds, fcs, strs, stepC, keysOk, isKey, lkV, Option.getD] | simp only [sS, Int.cast_ofNat_Int, Int.reduceEq, Int.reduceLT, Int.reduceLE, Int.reduceAdd, Int.reduceSub, Int.reduceToNat]))
    refine br (fun h1 => ?_) (fun h1 => ?_)
    · simp only [decide_eq_true_eq] at h1
      have hlt : i < fs.length := by omega
      have e1 := getD_at fcC fs hlt
      have en := acI_next ⟨1, s, tt⟩ [] (some g) fs hlt
      rw [hL] at en
      generalize hf : fs[i] = f at *
      (repeat (first | with_reducible refine And.intro trivial ?_ | with_reducible refine And.intro rfl ?_ | (with_reducible refine And.intro ?_ ?_; focus ((repeat' (first | with_reducible exact trivial | with_reducible exact rfl | (with_reducible apply And.intro) | exact in64 (by omega) (by omega) | omega)); done)) | dsimp only [go_sem, Nat.reduceAdd, Nat.reduceSub, Option.map, bne, BEq.beq, nds, fcs, strs, stepC, keysOk, isKey, lkV, Option.getD] | simp only [sS, Int.cast_ofNat_Int, Int.reduceEq, Int.reduceLT, Int.reduceLE, Int.reduceAdd, Int.reduceSub, Int.reduceToNat]))
      simp only [e1, fcC]
      (repeat (first | with_reducible refine And.intro trivial ?_ | with_reducible refine And.intro rfl ?_ | (with_reducible refine And.intro ?_ ?_; focus ((repeat' (first | with_reducible exact trivial | with_reducible exact rfl | (with_reducible apply And.intro) | exact in64 (by omega) (by omega) | omega)); done)) | dsimp only [go_sem, Nat.reduceAdd, Nat.reduceSub, Option.map, bne, BEq.beq, nds, fcs, strs, stepC, keysOk, isKey, lkV, Option.getD] | simp only [sS, Int.cast_ofNat_Int, Int.reduceEq, Int.reduceLT, Int.reduceLE, Int.reduceAdd, Int.reduceSub, Int.reduceToNat]))
      rcases Decidable.em (f.g = g) with d0 | d0
      · have hd : decide (f.g = g) = true := decide_eq_true d0
        (repeat (simp only [hd]; (repeat (first | with_reducible refine And.intro trivial ?_ | with_reducible refine And.intro rfl ?_ | (with_reducible refine And.intro ?_ ?_; focus ((repeat' (first | with_reducible exact trivial | with_reducible exact rfl | (with_reducible apply And.intro) | exact in64 (by omega) (by omega) | omega)); done)) | dsimp only [go_sem, Nat.reduceAdd, Nat.reduceSub, Option.map, bne, BEq.beq, nds, fcs, strs, stepC, keysOk, isKey, lkV, Option.getD] | simp only [sS, Int.cast_ofNat_Int, Int.reduceEq, Int.reduceLT, Int.reduceLE, Int.reduceAdd, Int.reduceSub, Int.reduceToNat])))); (repeat (first | with_reducible refine And.intro trivial ?_ | with_reducible refine And.intro rfl ?_ | (with_reducible refine And.intro ?_ ?_; focus ((repeat' (first | with_reducible exact trivial | with_reducible exact rfl | (with_reducible apply And.intro) | exact in64 (by omega) (by omega) | omega)); done)) | dsimp only [go_sem, Nat.reduceAdd, Nat.reduceSub, Option.map, bne, BEq.beq, nds, fcs, strs, stepC, keysOk, isKey, lkV, Option.getD] | simp only [sS, Int.cast_ofNat_Int, Int.reduceEq, Int.reduceLT, Int.reduceLE, Int.reduceAdd, Int.reduceSub, Int.reduceToNat]))
        refine ⟨⟨trivial, mE_keys _⟩, ?_⟩
        (repeat (simp only [ins_mE]; (repeat (first | with_reducible refine And.intro trivial ?_ | with_reducible refine And.intro rfl ?_ | (with_reducible refine And.intro ?_ ?_; focus ((repeat' (first | with_reducible exact trivial | with_reducible exact rfl | (with_reducible apply And.intro) | exact in64 (by omega) (by omega) | omega)); done)) | dsimp only [go_sem, Nat.reduceAdd, Nat.reduceSub, Option.map, bne, BEq.beq, nds, fcs, strs, stepC, keysOk, isKey, lkV, Option.getD] | simp only [sS, Int.cast_ofNat_Int, Int.reduceEq, Int.reduceLT, Int.reduceLE, Int.reduceAdd, Int.reduceSub, Int.reduceToNat])))); (repeat (first | with_reducible refine And.intro trivial ?_ | with_reducible refine And.intro rfl ?_ | (with_reducible refine And.intro ?_ ?_; focus ((repeat' (first | with_reducible exact trivial | with_reducible exact rfl | (with_reducible apply And.intro) | exact in64 (by omega) (by omega) | omega)); done)) | dsimp only [go_sem, Nat.reduceAdd, Nat.reduceSub, Option.map, bne, BEq.beq, nds, fcs, strs, stepC, keysOk, isKey, lkV, Option.getD] | simp only [sS, Int.cast_ofNat_Int, Int.reduceEq, Int.reduceLT, Int.reduceLE, Int.reduceAdd, Int.reduceSub, Int.reduceToNat]))
        refine ⟨⟨trivial, mE_keys _⟩, ?_⟩
        (repeat (simp only [ins_mE]; (repeat (first | with_reducible refine And.intro trivial ?_ | with_reducible refine And.intro rfl ?_ | (with_reducible refine And.intro ?_ ?_; focus ((repeat' (first | with_reducible exact trivial | with_reducible exact rfl | (with_reducible apply And.intro) | exact in64 (by omega) (by omega) | omega)); done)) | dsimp only [go_sem, Nat.reduceAdd, Nat.reduceSub, Option.map, bne, BEq.beq, nds, fcs, strs, stepC, keysOk, isKey, lkV, Option.getD] | simp only [sS, Int.cast_ofNat_Int, Int.reduceEq, Int.reduceLT, Int.reduceLE, Int.reduceAdd, Int.reduceSub, Int.reduceToNat])))); (repeat (first | with_reducible refine And.intro trivial ?_ | with_reducible refine And.intro rfl ?_ | (with_reducible refine And.intro ?_ ?_; focus ((repeat' (first | with_reducible exact trivial | with_reducible exact rfl | (with_reducible apply And.intro) | exact in64 (by omega) (by omega) | omega)); done)) | dsimp only [go_sem, Nat.reduceAdd, Nat.reduceSub, Option.map, bne, BEq.beq, nds, fcs, strs, stepC, keysOk, isKey, lkV, Option.getD] | simp only [sS, Int.cast_ofNat_Int, Int.reduceEq, Int.reduceLT, Int.reduceLE, Int.reduceAdd, Int.reduceSub, Int.reduceToNat]))
        refine rndg (i + 1) (Gh.sub [0] rfl rfl) ?_ ?_ ?_ ?_ (by omega) (by omega)
        · rfl
        · exact ⟨rfl, rfl, rfl, rfl, rfl, trivial⟩
        · exact ⟨rfl, trivial⟩
        · rw [en]; simp [inl, ins1, d0]; try rfl
      · have hd : decide (f.g = g) = false := decide_eq_false d0
        (repeat (simp only [hd]; (repeat (first | with_reducible refine And.intro trivial ?_ | with_reducible refine And.intro rfl ?_ | (with_reducible refine And.intro ?_ ?_; focus ((repeat' (first | with_reducible exact trivial | with_reducible exact rfl | (with_reducible apply And.intro) | exact in64 (by omega) (by omega) | omega)); done)) | dsimp only [go_sem, Nat.reduceAdd, Nat.reduceSub, Option.map, bne, BEq.beq, nds, fcs, strs, stepC, keysOk, isKey, lkV, Option.getD] | simp only [sS, Int.cast_ofNat_Int, Int.reduceEq, Int.reduceLT, Int.reduceLE, Int.reduceAdd, Int.reduceSub, Int.reduceToNat])))); (repeat (first | with_reducible refine And.intro trivial ?_ | with_reducible refine And.intro rfl ?_ | (with_reducible refine And.intro ?_ ?_; focus ((repeat' (first | with_reducible exact trivial | with_reducible exact rfl | (with_reducible apply And.intro) | exact in64 (by omega) (by omega) | omega)); done)) | dsimp only [go_sem, Nat.reduceAdd, Nat.reduceSub, Option.map, bne, BEq.beq, nds, fcs, strs, stepC, keysOk, isKey, lkV, Option.getD] | simp only [sS, Int.cast_ofNat_Int, Int.reduceEq, Int.reduceLT, Int.reduceLE, Int.reduceAdd, Int.reduceSub, Int.reduceToNat]))
        refine rndg (i + 1) (Gh.sub [0] rfl rfl) ?_ ?_ ?_ ?_ (by omega) (by omega)
        · rfl
        · exact ⟨rfl, rfl, rfl, rfl, rfl, trivial⟩
        · exact ⟨rfl, trivial⟩
        · rw [en]; simp [inl, ins1, d0]; try rfl
    · simp only [decide_eq_false_iff_not] at h1
      obtain rfl : i = fs.length := by omega
      (repeat (first | with_reducible refine And.intro trivial ?_ | with_reducible refine And.intro rfl ?_ | (with_reducible refine And.intro ?_ ?_; focus ((repeat' (first | with_reducible exact trivial | with_reducible exact rfl | (with_reducible apply And.intro) | exact in64 (by omega) (by omega) | omega)); done)) | dsimp only [go_sem, Nat.reduceAdd, Nat.reduceSub, Option.map, bne, BEq.beq, nds, fcs, strs, stepC, keysOk, isKey, lkV, Option.getD] | simp only [sS, Int.cast_ofNat_Int, Int.reduceEq, Int.reduceLT, Int.reduceLE, Int.reduceAdd, Int.reduceSub, Int.reduceToNat]))
      refine finA0 ?_; (repeat (first | with_reducible refine And.intro trivial ?_ | with_reducible refine And.intro rfl ?_ | (with_reducible refine And.intro ?_ ?_; focus ((repeat' (first | with_reducible exact trivial | with_reducible exact rfl | (with_reducible apply And.intro) | exact in64 (by omega) (by omega) | omega)); done)) | dsimp only [go_sem, Nat.reduceAdd, Nat.reduceSub, Option.map, bne, BEq.beq, nds, fcs, strs, stepC, keysOk, isKey, lkV, Option.getD] | simp only [sS, Int.cast_ofNat_Int, Int.reduceEq, Int.reduceLT, Int.reduceLE, Int.reduceAdd, Int.reduceSub, Int.reduceToNat]))
      refine ⟨false, [0], rfl, rfl, L, rfl, hL ▸ acI_nd _ _ _ _ _, ?_⟩
      rw [← hL, ← hM]
      exact acI_sm (fun x => Iff.rfl) _ fs

end Go.Av

namespace Go.Proofs
open Go.Shelf
def Try.lays190_ren : Go.Shelf.Ren := ⟨fun | 190 => 34 | 125 => 60 | 258 => 59 | 128 => 84 | 129 => 85 | 302 => 75 | 303 => 76 | 304 => 77 | 305 => 78 | 306 => 79 | 307 => 80 | 308 => 81 | 309 => 82 | 310 => 83 | 333 => 86 | 329 => 87 | 330 => 88 | 334 => 89 | 335 => 90 | 336 => 91 | 344 => 92 | n => n, fun | 31 => 30 | 9 => 9 | 3 => 3 | 46 => 98 | 0 => 0 | 51 => 121 | 53 => 123 | 4 => 4 | 183 => 113 | 182 => 112 | 131 => 118 | 5 => 5 | 218 => 124 | 222 => 128 | 228 => 130 | 229 => 131 | n => n, fun | n => n⟩
theorem Try.lays190 : Go.Proofs.Lays.n190 Try.prog Try.lays190_ren := {
  mixed := by kernel_rfl
  f125 := Try.func60.trans (congrArg some (by kernel_rfl))
  f128 := Try.func84.trans (congrArg some (by kernel_rfl))
  f129 := Try.func85.trans (congrArg some (by kernel_rfl))
  f190 := Try.func34.trans (congrArg some (by kernel_rfl))
  f258 := Try.func59.trans (congrArg some (by kernel_rfl))
  f302 := Try.func75.trans (congrArg some (by kernel_rfl))
  f303 := Try.func76.trans (congrArg some (by kernel_rfl))
  f304 := Try.func77.trans (congrArg some (by kernel_rfl))
  f305 := Try.func78.trans (congrArg some (by kernel_rfl))
  f306 := Try.func79.trans (congrArg some (by kernel_rfl))
  f307 := Try.func80.trans (congrArg some (by kernel_rfl))
  f308 := Try.func81.trans (congrArg some (by kernel_rfl))
  f309 := Try.func82.trans (congrArg some (by kernel_rfl))
  f310 := Try.func83.trans (congrArg some (by kernel_rfl))
  f329 := Try.func87.trans (congrArg some (by kernel_rfl))
  f330 := Try.func88.trans (congrArg some (by kernel_rfl))
  f333 := Try.func86.trans (congrArg some (by kernel_rfl))
  f334 := Try.func89.trans (congrArg some (by kernel_rfl))
  f335 := Try.func90.trans (congrArg some (by kernel_rfl))
  f336 := Try.func91.trans (congrArg some (by kernel_rfl))
  f344 := Try.func92.trans (congrArg some (by kernel_rfl))
  t0 := Try.underlying0
  a0 := Try.isAgg0
  z0 := Try.sizeOf0
  v0 := Try.zeroValue0
  t3 := Try.underlying3
  a3 := Try.isAgg3
  z3 := Try.sizeOf3
  v3 := Try.zeroValue3
  t4 := Try.underlying4
  a4 := Try.isAgg4
  z4 := Try.sizeOf4
  v4 := Try.zeroValue4
  t5 := Try.underlying5
  a5 := Try.isAgg5
  z5 := Try.sizeOf5
  v5 := Try.zeroValue5
  t9 := Try.underlying9
  a9 := Try.isAgg9
  z9 := Try.sizeOf9
  v9 := Try.zeroValue9
  t31 := Try.underlying30
  a31 := Try.isAgg30
  z31 := Try.sizeOf30
  v31 := Try.zeroValue30
  t46 := Try.underlying98
  a46 := Try.isAgg98
  z46 := Try.sizeOf98
  v46 := Try.zeroValue98
  t51 := Try.underlying121
  a51 := Try.isAgg121
  z51 := Try.sizeOf121
  v51 := Try.zeroValue121
  t53 := Try.underlying123
  a53 := Try.isAgg123
  z53 := Try.sizeOf123
  v53 := Try.zeroValue123
  t131 := Try.underlying118
  a131 := Try.isAgg118
  z131 := Try.sizeOf118
  v131 := Try.zeroValue118
  t182 := Try.underlying112
  a182 := Try.isAgg112
  z182 := Try.sizeOf112
  v182 := Try.zeroValue112
  t183 := Try.underlying113
  a183 := Try.isAgg113
  z183 := Try.sizeOf113
  v183 := Try.zeroValue113
  t218 := Try.underlying124
  a218 := Try.isAgg124
  z218 := Try.sizeOf124
  v218 := Try.zeroValue124
  t222 := Try.underlying128
  a222 := Try.isAgg128
  z222 := Try.sizeOf128
  v222 := Try.zeroValue128
  t228 := Try.underlying130
  a228 := Try.isAgg130
  z228 := Try.sizeOf130
  v228 := Try.zeroValue130
  t229 := Try.underlying131
  a229 := Try.isAgg131
  z229 := Try.sizeOf131
  v229 := Try.zeroValue131 }
end Go.Proofs

namespace Go.Av
open Go.Sort
set_option linter.unusedVariables false
set_option linter.unusedSimpArgs false

theorem row_strs {F : Fz} {arr : Array Value} : ∀ {L : List B} {o : Nat}, RepR F 1 arr (L.map strC) o → ∀ j (h : j < L.length), arr[o + j]? = some (Go.Proofs.encStr L[j])
  | x :: L, o, ⟨_, ⟨⟨y, h1, _, h2⟩, _⟩, h⟩, 0, _ => by
    simp only [Rep] at h2; subst h2; exact h1
  | x :: L, o, ⟨_, _, h⟩, j + 1, hj => by
    have := row_strs h j (by simpa using hj)
    rw [show o + 1 + j = o + (j + 1) from by omega] at this
    simpa using this
theorem strs_row {F : Fz} {arr : Array Value} : ∀ {L : List B} {o : Nat}, (∀ j (h : j < L.length), arr[o + j]? = some (Go.Proofs.encStr L[j])) → RepR F 1 arr (L.map strC) o
  | [], o, _ => trivial
  | x :: L, o, h => by
    refine ⟨rfl, ⟨⟨_, h 0 (by simp), rfl, ?_⟩, trivial⟩, strs_row fun j hj => ?_⟩
    · simp only [Rep]; rfl
    · have := h (j + 1) (by simpa using hj)
      rw [show o + 1 + j = o + (j + 1) from by omega]; simpa using this
/-- A list of texts in order. -/
def srt (L : List B) : List B := L.mergeSort fun x y => decide (x ≤ y)
theorem srt_len (L : List B) : (srt L).length = L.length := List.length_mergeSort L
theorem mem_srt (L : List B) (x : B) : x ∈ srt L ↔ x ∈ L := List.mem_mergeSort
theorem srt_sd {L : List B} (h : L.Nodup) : Sd (srt L) := by
  have h1 : (srt L).Pairwise fun x y => decide (x ≤ y) = true := List.pairwise_mergeSort (fun a b c h1 h2 => by simp only [decide_eq_true_eq] at *; exact List.le_trans h1 h2) (fun a b => by simp only [Bool.or_eq_true, decide_eq_true_eq]; exact List.le_total a b) L
  have h2 : (srt L).Nodup := (List.mergeSort_perm L _).nodup_iff.2 h
  unfold Sd
  have := h1.and h2
  refine this.imp fun {a b} ⟨h, hne⟩ => ?_
  simp only [decide_eq_true_eq] at h
  rcases B_tri a b with h3 | h3 | h3
  · exact h3
  · exact absurd h3 hne
  · exact absurd h3 (List.not_lt.2 h)

/-- One object, its place as it was. -/
theorem St.one {G : Gl} {F : Fz} {p : Pl} {ob o : Obj} {w w' : World} (hs : St G F [p] [ob] w) (hl : ob.live = true)
    (hsz : w.heap.size ≤ w'.heap.size) (hos : w'.os = w.os) (htp : w'.tape = w.tape) (hout : w'.output = w.output)
    (hw : ∀ b, b < w.heap.size → (∀ c, p.at_ ≠ some (b, c)) → w'.heap[b]? = w.heap[b]?)
    (ho : ObjOk F [p] w' o p) (hpin : pinOk o p) : St G F [p] [o] w' ∧ Step F [p] w F [p] w' := by
  constructor
  · refine ⟨fun b arr hb => ?_, hs.gl, rfl, ?_, ?_, ?_, ?_⟩
    · obtain ⟨e, z, h⟩ := hs.fz b arr hb
      refine ⟨e, z, ?_⟩
      rw [hw b (Array.getElem?_eq_some_iff.1 h).1 fun c hc => by rw [live_none hs (k := 0) rfl rfl hl hc] at hb; cases hb]
      exact h
    · intro k o' q h1 h2
      match k, h1, h2 with
      | 0, h1, h2 => obtain rfl := Option.some.inj h1; obtain rfl := Option.some.inj h2; exact ho
    · intro q hq b c hat
      exact Nat.lt_of_lt_of_le (hs.inside q hq b c hat) hsz
    · intro i j q1 q2 o1 o2 b c d e hij h1 h2 l1 l2 h3 h4
      match i, j, h1, h2 with
      | 0, 0, _, _ => exact absurd rfl hij
    · intro k o' q h1 h2
      match k, h1, h2 with
      | 0, h1, h2 => obtain rfl := Option.some.inj h1; obtain rfl := Option.some.inj h2; exact hpin
  · refine ⟨Fz.le_refl F, fun b hb => ?_, fun b h h' => absurd h h', fun q hq b c hat => .inr ⟨q, hq, c, hat⟩, hsz, hos, htp, hout, fun _ _ h _ => h, Nat.le_refl _⟩
    exact hw b (Nat.lt_of_not_le fun h => hb (.inl h)) fun c hc => hb (.inr ⟨p, by simp, c, hc⟩)
theorem c34 (pn : Bool) (L : List B) (hl : L.length ≤ 1000) : ACalls prog [] 34 [.rw 0] [.row pn 1 (L.map strC)] (fun r E => r = .g (.x (.tuple #[])) ∧ E = [.row pn 1 ((srt L).map strC)]) := by
  intro F σ w vals hs ha
  obtain ⟨p, rfl⟩ : ∃ p, σ = [p] := by
    have := hs.len
    match σ, this with
    | [p], _ => exact ⟨p, rfl⟩
  obtain ⟨y, r, hv, ⟨p', a, hp, rfl, hpa⟩, hr⟩ := ha
  obtain rfl : p = p' := by simpa using hp
  simp only [LRepL] at hr; subst hr
  obtain ⟨ps, plen, pcap, hrow⟩ := hs.obj 0 _ p rfl rfl
  have hpin : p.pin = pn := hs.pin 0 _ p rfl rfl
  have hvals : vals = #[.slice a p.len p.cap] := Array.ext' hv
  subst hvals
  simp only [List.length_map] at plen
  by_cases hnone : L = []
  · subst hnone
    simp only [List.length_nil] at plen
    have hc := Proofs.Any.slices_Sort_string_none Proofs.Try.lays190 a p.cap w
    rw [← plen]
    refine Calls.mono hc ?_
    rintro e w' ⟨rfl, rfl⟩
    refine ⟨_, _, _, F, [p], rfl, ⟨rfl, rfl⟩, rfl, ?_, .refl _ _ _⟩
    simpa [srt] using hs
  · have hpos : 0 < L.length := List.length_pos_iff.2 hnone
    rcases hrow with ⟨_, hc0⟩ | ⟨b, o, arr, el, z, hat, hF, hw, hfree, hsz, hrr⟩
    · omega
    rcases hpa with ⟨hno, _⟩ | ⟨b', o', hat', rfl⟩
    · rw [hat] at hno; cases hno
    rw [hat] at hat'; obtain ⟨rfl, rfl⟩ := Prod.mk.inj (Option.some.inj hat')
    have hcells := row_strs hrr
    have hlt : b < w.heap.size := (Array.getElem?_eq_some_iff.1 hw).1
    have hH : Holds Go.Proofs.encStr w b o L.toArray := by
      intro j hj
      have hj' : j < L.length := by simpa using hj
      have e1 := hcells j hj'
      refine ⟨?_, ?_⟩
      · simp only [World.cell?, hw, Option.isSome_none, Bool.false_eq_true, if_false, e1]
        simp [hj']
      · simp only [World.frozen?, hw]
        have h1 := hfree (o + j) (Array.getElem?_eq_some_iff.1 e1).1
        obtain ⟨z1, z2⟩ := z
        simp only at h1 ⊢
        exact Bool.eq_false_iff.2 fun hc => h1 (by simpa using hc)
    have hc := Proofs.Any.slices_Sort_string Proofs.Try.lays190 b o p.cap L w hH hlt (by omega)
    rw [← plen]
    refine Calls.mono hc ?_
    rintro e w' ⟨rfl, n, os, rfl⟩
    have hheap : (putRow Go.Proofs.encStr (Go.Sort.ahead w n) b o (srt L).toArray).heap = w.heap.modify b (onCells (putCells Go.Proofs.encStr o (srt L).toArray)) := rfl
    have hsz' : ((putRow Go.Proofs.encStr (Go.Sort.ahead w n) b o (srt L).toArray).heap).size = w.heap.size := by rw [hheap]; simp
    have hat0 : ∀ c, c < w.heap.size → (grow (putRow Go.Proofs.encStr (Go.Sort.ahead w n) b o (srt L).toArray) os).heap[c]? = (w.heap.modify b (onCells (putCells Go.Proofs.encStr o (srt L).toArray)))[c]? := by
      intro c hc
      show ((putRow Go.Proofs.encStr (Go.Sort.ahead w n) b o (srt L).toArray).heap ++ os)[c]? = _
      rw [Array.getElem?_append_left (by rw [hsz']; exact hc), hheap]
    have hsl := srt_len L
    have hobj : ObjOk F [p] (grow (putRow Go.Proofs.encStr (Go.Sort.ahead w n) b o (srt L).toArray) os) (.row pn 1 ((srt L).map strC)) p := by
      refine ⟨ps, by simp [hsl, plen], pcap, .inr ⟨b, o, putCells Go.Proofs.encStr o (srt L).toArray arr, el, z, hat, hF, ?_, ?_, ?_, ?_⟩⟩
      · rw [hat0 b hlt, Array.getElem?_modify, if_pos rfl, hw]; rfl
      · intro i hi; exact hfree i (by simpa [putCells] using hi)
      · simpa [putCells] using hsz
      · refine strs_row fun j hj => ?_
        have e1 := (Array.getElem?_eq_some_iff.1 (hcells j (by omega))).1
        simp only [putCells, Array.getElem?_mapIdx, Array.getElem?_eq_getElem e1, Option.map_some]
        rw [if_pos ⟨by omega, by simp; omega⟩, show o + j - o = j from by omega]
        simp [hj]
    have := hs.one (o := .row pn 1 ((srt L).map strC)) (w' := grow (putRow Go.Proofs.encStr (Go.Sort.ahead w n) b o (srt L).toArray) os) rfl
      (by show _ ≤ ((putRow Go.Proofs.encStr (Go.Sort.ahead w n) b o (srt L).toArray).heap ++ os).size; rw [Array.size_append, hsz']; omega) rfl rfl rfl
      (fun c hc hne => by rw [hat0 c hc, Array.getElem?_modify, if_neg (show ¬ b = c from fun e => hne o (by rw [← e]; exact hat))])
      hobj hpin
    exact ⟨_, _, _, F, _, rfl, ⟨rfl, rfl⟩, rfl, this.1, this.2⟩
end Go.Av

namespace Go.Av
set_option maxRecDepth 100000
set_option maxHeartbeats 8000000
set_option linter.unusedVariables false
set_option linter.unusedSimpArgs false

theorem c33 (fs : List Fc) (hfs : fs.length ≤ 1000) : ∀ (t : T), t.ok → ∀ o lab rs, ACalls prog [] 33 [.g (.fptr (stepC o t)), .g (fcs fs), .g (labP lab rs)] [] (Q33 (M fs t lab))
  | .lf ⟨k, s, tt⟩, h, o, lab, rs => by
    rcases h.2 with hk | hk <;> dsimp only at hk <;> subst hk
    · exact c33_1 o s tt fs hfs lab rs
    · exact c33_2 o s tt fs hfs lab rs
  | .un ⟨k, s, tt⟩ a, h, o, lab, rs => by
    have ih := c33 fs hfs a h.2.2
    rcases h.2.1 with hk | hk | hk | hk <;> dsimp only at hk <;> subst hk
    · exact c33_3 o s tt a fs hfs lab rs ih
    · exact c33_4 o s tt a fs hfs lab rs ih
    · exact c33_5 o s tt a fs hfs lab rs ih
    · exact c33_9 o s tt a fs lab rs ih
  | .bn ⟨k, s, tt⟩ a b, h, o, lab, rs => by
    have iha := c33 fs hfs a h.2.2.1
    have ihb := c33 fs hfs b h.2.2.2
    rcases h.2.1 with hk | hk | hk <;> dsimp only at hk <;> subst hk
    · exact c33_6 o s tt a b fs lab rs iha ihb
    · exact c33_7 o s tt a b fs lab rs iha ihb
    · exact c33_8 o s tt a b fs lab rs iha ihb
end Go.Av

namespace Go.Av
set_option linter.unusedVariables false
set_option linter.unusedSimpArgs false

def subO (js : List Nat) (O : List Obj) : Obj → Obj
  | .mit km since seen => match pos js km with
    | some i => .mit i since seen
    | none => .dead
  | .cells cs => .cells (unL js O cs)
  | .row pn s es => .row pn s es
  | .map es => .map es
  | _ => .dead
def subL (js : List Nat) (O : List Obj) : List Nat → List Obj
  | [] => []
  | j :: r => subO js O (og O j) :: subL js O r

section
variable {G : Gl} {F : Fz} {σ : List Pl} {O : List Obj} {w : World} {js : List Nat}
theorem subL_length : ∀ {ks : List Nat}, (subL js O ks).length = ks.length
  | [] => rfl
  | j :: ks => by simp [subL, subL_length]
theorem subL_get : ∀ {ks : List Nat} {i : Nat} {o : Obj}, (subL js O ks)[i]? = some o ↔ ∃ j, ks[i]? = some j ∧ o = subO js O (og O j)
  | [], i, q => by simp [subL]
  | j :: ks, 0, q => by simp [subL, eq_comm]
  | j :: ks, i + 1, q => by simpa [subL] using subL_get (ks := ks) (i := i) (o := q)
theorem asPin_nil (j : Nat) (p : Pl) : asPin [] j p = p := by simp [asPin, hasB]
theorem subO_live {o : Obj} (h : (subO js O o).live = true) : o.live = true := by
  cases o <;> simp only [subO] at h <;> first | rfl | exact h
theorem ObjOk.sub {p : Pl} {o : Obj} (hs : St G F σ O w) (h : ObjOk F σ w o p) : ObjOk F (lendP [] σ js) w (subO js O o) p := by
  by_cases hm : ∃ km since seen, o = .mit km since seen
  · obtain ⟨km, since, seen, rfl⟩ := hm
    obtain ⟨b, m, pm, ents, hat, hn, hw, e1, e2, e3, e4⟩ := h
    simp only [subO]
    cases hp : pos js km with
    | none => trivial
    | some i =>
      refine ⟨b, m, pm, ents, hat, hn, hw, e1, lendP_get.2 ⟨km, pos_some hp, ?_⟩, e3, e4⟩
      rw [asPin_nil, List.getD_eq_getElem?_getD, e2]; rfl
  · have h2 := ObjOk.un (js := js) (b := false) (p' := p) hs (lend_same' (ps := []) hs) ⟨rfl, rfl, rfl, rfl⟩ h
    cases o <;> first | exact h2 | exact absurd ⟨_, _, _, rfl⟩ hm
theorem St.sub (hl : okD O js = true) (hs : St G F σ O w) : St G F (lendP [] σ js) (subL js O js) w := by
  have hd := St.lendD (ps := []) hl hs
  obtain ⟨hnd, hlive⟩ := okD_nodup hl
  have at_ : ∀ {i : Nat} {o : Obj} {p : Pl}, (subL js O js)[i]? = some o → (lendP [] σ js)[i]? = some p → ∃ j o', js[i]? = some j ∧ O[j]? = some o' ∧ σ[j]? = some p ∧ o = subO js O o' := by
    intro i o p ho hp
    obtain ⟨j, hj, rfl⟩ := subL_get.1 ho
    obtain ⟨j', hj', rfl⟩ := lendP_get.1 hp
    rw [hj] at hj'; obtain rfl := Option.some.inj hj'
    have hjl := hlive j (List.mem_of_getElem? hj)
    have hlt : j < σ.length := by rw [← hs.len]; exact hjl
    refine ⟨j, O[j], hj, List.getElem?_eq_getElem hjl, ?_, by rw [og_eq, List.getD_eq_getElem?_getD, List.getElem?_eq_getElem hjl]; rfl⟩
    rw [asPin_nil, List.getD_eq_getElem?_getD, List.getElem?_eq_getElem hlt]; rfl
  refine ⟨hd.fz, hd.gl, by rw [lendP_length, subL_length], ?_, hd.inside, ?_, ?_⟩
  · intro i o p ho hp
    obtain ⟨j, o', hj, hO, hσ, rfl⟩ := at_ ho hp
    exact ObjOk.sub hs (hs.obj j o' p hO hσ)
  · intro i i' p p' o o' b c b' c' hne ho ho' l1 l2 hp hp' hat hat'
    obtain ⟨j, o1, hj, hO, hσ, rfl⟩ := at_ ho hp
    obtain ⟨j', o1', hj', hO', hσ', rfl⟩ := at_ ho' hp'
    refine hs.apart j j' p p' o1 o1' b c b' c' ?_ hO hO' (subO_live l1) (subO_live l2) hσ hσ' hat hat'
    intro e
    exact hne (nodup_inj hnd hj (e ▸ hj'))
  · intro i o p ho hp
    obtain ⟨j, o', hj, hO, hσ, rfl⟩ := at_ ho hp
    have := hs.pin j o' p hO hσ
    cases o' <;> simp only [subO] <;> first | exact this | trivial | skip
    split
    · exact this
    · trivial
end
theorem Gh.subm {G : Gl} {n : Nat} {fr : List LV} {O : List Obj} (js : List Nat) (hl : okD O js = true) (hk : keeps n 0 js = true) : Gh G n fr O (unL js O fr) (subL js O js) := by
  intro F σ w ys hs hf
  refine ⟨F, lendP [] σ js, hs.sub hl, unL_rep hs (lend_same' hs) hf, ⟨Fz.le_refl F, fun b h h' => absurd h h', ?_, ?_, ?_⟩⟩
  · intro p hp b o hat
    obtain ⟨j, hj, rfl⟩ := lendP_mem hp
    rw [asPin_nil, List.getD_eq_getElem?_getD] at hat
    cases hσ : σ[j]? with
    | none => rw [hσ] at hat; cases hat
    | some q => rw [hσ] at hat; exact .inr ⟨q, List.mem_of_getElem? hσ, o, hat⟩
  · intro k p hkn hp hpin
    refine lendP_get.2 ⟨k, by have := keeps_get hk k hkn; rwa [Nat.zero_add] at this, ?_⟩
    rw [asPin_nil, List.getD_eq_getElem?_getD, hp]; rfl
  · intro _
    rw [lendP_length]
    cases n with
    | zero => omega
    | succ m => have := (List.getElem?_eq_some_iff.1 (keeps_get hk m (by omega))).1; omega
end Go.Av

namespace Go.Av
set_option maxRecDepth 100000
set_option maxHeartbeats 8000000
set_option linter.unusedVariables false
set_option linter.unusedSimpArgs false

theorem smallA {P : Program} {G : Gl} {f : FuncId} {vs : List V} {K : LV → List Obj → Prop} (h : smallL vs → ACalls P G f (vs.map .g) [] K) : ACalls P G f (vs.map .g) [] K := by
  intro F σ w vals hs ha
  have hσ : σ = [] := by have := hs.len; simp only [List.length_nil] at this; exact List.eq_nil_of_length_eq_zero this.symm
  subst hσ
  exact h (repL_small (g_args ha)) F [] w vals hs ha
theorem c7 (c33 : ∀ (fs : List Fc), fs.length ≤ 1000 → ∀ (t : T), t.ok → ∀ o lab rs, ACalls prog [] 33 [.g (.fptr (stepC o t)), .g (fcs fs), .g (labP lab rs)] [] (Q33 (M fs t lab)))
    (ns : List Nd) (fs : List Fc) : ACalls prog [] 7 [.g (.agg [nds ns]), .g (fcs fs)] [] (fun r E => r = .rw 0 ∧ E = [.row false 1 ((mean ns fs).map strC)]) := by
  refine smallA (vs := [.agg [nds ns], fcs fs]) fun hsm => ?_
  have hx : fs.length ≤ 9223372036854775807 := by simpa [fcs] using hsm.2.1.1
  refine ACalls.enter mixed comp7 ?_
  dsimp only [ir7]
  (repeat (first | with_reducible refine And.intro trivial ?_ | with_reducible refine And.intro rfl ?_ | (with_reducible refine And.intro ?_ ?_; focus ((repeat' (first | with_reducible exact trivial | with_reducible exact rfl | (with_reducible apply And.intro) | exact in64 (by omega) (by omega) | omega)); done)) | dsimp only [go_sem, Nat.reduceAdd, Nat.reduceSub, Option.map, bne, BEq.beq, nds, fcs, strs, stepV, keysOk, isKey, lkV, Option.getD] | simp only [sS, Int.cast_ofNat_Int, Int.reduceEq, Int.reduceLT, Int.reduceLE, Int.reduceAdd, Int.reduceSub, Int.reduceToNat]))
  refine cpe [] (c32 ns) rfl ?_
  cases hp : pathT ns with
  | none =>
    (repeat (first | with_reducible refine And.intro trivial ?_ | with_reducible refine And.intro rfl ?_ | (with_reducible refine And.intro ?_ ?_; focus ((repeat' (first | with_reducible exact trivial | with_reducible exact rfl | (with_reducible apply And.intro) | exact in64 (by omega) (by omega) | omega)); done)) | dsimp only [go_sem, Nat.reduceAdd, Nat.reduceSub, Option.map, bne, BEq.beq, nds, fcs, strs, stepV, keysOk, isKey, lkV, Option.getD] | simp only [sS, Int.cast_ofNat_Int, Int.reduceEq, Int.reduceLT, Int.reduceLE, Int.reduceAdd, Int.reduceSub, Int.reduceToNat]))
    refine ⟨_, _, Gh.nil 4 1 rfl, ?_⟩
    (repeat (first | with_reducible refine And.intro trivial ?_ | with_reducible refine And.intro rfl ?_ | (with_reducible refine And.intro ?_ ?_; focus ((repeat' (first | with_reducible exact trivial | with_reducible exact rfl | (with_reducible apply And.intro) | exact in64 (by omega) (by omega) | omega)); done)) | dsimp only [go_sem, Nat.reduceAdd, Nat.reduceSub, Option.map, bne, BEq.beq, nds, fcs, strs, stepV, keysOk, isKey, lkV, Option.getD] | simp only [sS, Int.cast_ofNat_Int, Int.reduceEq, Int.reduceLT, Int.reduceLE, Int.reduceAdd, Int.reduceSub, Int.reduceToNat]))
    refine ⟨false, [1], rfl, ?_⟩
    (repeat (first | with_reducible refine And.intro trivial ?_ | with_reducible refine And.intro rfl ?_ | (with_reducible refine And.intro ?_ ?_; focus ((repeat' (first | with_reducible exact trivial | with_reducible exact rfl | (with_reducible apply And.intro) | exact in64 (by omega) (by omega) | omega)); done)) | dsimp only [go_sem, Nat.reduceAdd, Nat.reduceSub, Option.map, bne, BEq.beq, nds, fcs, strs, stepV, keysOk, isKey, lkV, Option.getD] | simp only [sS, Int.cast_ofNat_Int, Int.reduceEq, Int.reduceLT, Int.reduceLE, Int.reduceAdd, Int.reduceSub, Int.reduceToNat]))
    simp [mean, hp]
  | some t =>
    obtain ⟨c0, c1, c2, c3, c4, e3⟩ := stepC_ht 0 t
    dsimp only [stepV]
    obtain ⟨htok, rfl, hl⟩ := pathT_some hp
    (repeat (first | with_reducible refine And.intro trivial ?_ | with_reducible refine And.intro rfl ?_ | (with_reducible refine And.intro ?_ ?_; focus ((repeat' (first | with_reducible exact trivial | with_reducible exact rfl | (with_reducible apply And.intro) | exact in64 (by omega) (by omega) | omega)); done)) | dsimp only [go_sem, Nat.reduceAdd, Nat.reduceSub, Option.map, bne, BEq.beq, nds, fcs, strs, stepV, keysOk, isKey, lkV, Option.getD] | simp only [sS, Int.cast_ofNat_Int, Int.reduceEq, Int.reduceLT, Int.reduceLE, Int.reduceAdd, Int.reduceSub, Int.reduceToNat]))
    by_cases hf : 300 < fs.length
    · have hd : decide (300 < (fs.length : Int)) = true := by simp; omega
      (repeat (simp only [hd]; (repeat (first | with_reducible refine And.intro trivial ?_ | with_reducible refine And.intro rfl ?_ | (with_reducible refine And.intro ?_ ?_; focus ((repeat' (first | with_reducible exact trivial | with_reducible exact rfl | (with_reducible apply And.intro) | exact in64 (by omega) (by omega) | omega)); done)) | dsimp only [go_sem, Nat.reduceAdd, Nat.reduceSub, Option.map, bne, BEq.beq, nds, fcs, strs, stepV, keysOk, isKey, lkV, Option.getD] | simp only [sS, Int.cast_ofNat_Int, Int.reduceEq, Int.reduceLT, Int.reduceLE, Int.reduceAdd, Int.reduceSub, Int.reduceToNat]))))
      refine ⟨_, _, Gh.nil 4 1 rfl, ?_⟩
      (repeat (first | with_reducible refine And.intro trivial ?_ | with_reducible refine And.intro rfl ?_ | (with_reducible refine And.intro ?_ ?_; focus ((repeat' (first | with_reducible exact trivial | with_reducible exact rfl | (with_reducible apply And.intro) | exact in64 (by omega) (by omega) | omega)); done)) | dsimp only [go_sem, Nat.reduceAdd, Nat.reduceSub, Option.map, bne, BEq.beq, nds, fcs, strs, stepV, keysOk, isKey, lkV, Option.getD] | simp only [sS, Int.cast_ofNat_Int, Int.reduceEq, Int.reduceLT, Int.reduceLE, Int.reduceAdd, Int.reduceSub, Int.reduceToNat]))
      refine ⟨false, [1], rfl, ?_⟩
      (repeat (first | with_reducible refine And.intro trivial ?_ | with_reducible refine And.intro rfl ?_ | (with_reducible refine And.intro ?_ ?_; focus ((repeat' (first | with_reducible exact trivial | with_reducible exact rfl | (with_reducible apply And.intro) | exact in64 (by omega) (by omega) | omega)); done)) | dsimp only [go_sem, Nat.reduceAdd, Nat.reduceSub, Option.map, bne, BEq.beq, nds, fcs, strs, stepV, keysOk, isKey, lkV, Option.getD] | simp only [sS, Int.cast_ofNat_Int, Int.reduceEq, Int.reduceLT, Int.reduceLE, Int.reduceAdd, Int.reduceSub, Int.reduceToNat]))
      simp [mean, hp, show ¬ (fs.length ≤ 300) from by omega]
    have hd : decide (300 < (fs.length : Int)) = false := by simp; omega
    have hml := M_len fs t none
    (repeat (simp only [hd]; (repeat (first | with_reducible refine And.intro trivial ?_ | with_reducible refine And.intro rfl ?_ | (with_reducible refine And.intro ?_ ?_; focus ((repeat' (first | with_reducible exact trivial | with_reducible exact rfl | (with_reducible apply And.intro) | exact in64 (by omega) (by omega) | omega)); done)) | dsimp only [go_sem, Nat.reduceAdd, Nat.reduceSub, Option.map, bne, BEq.beq, nds, fcs, strs, stepV, keysOk, isKey, lkV, Option.getD] | simp only [sS, Int.cast_ofNat_Int, Int.reduceEq, Int.reduceLT, Int.reduceLE, Int.reduceAdd, Int.reduceSub, Int.reduceToNat]))))
    refine ⟨[], [], [], _, rfl, c33 fs (by omega) t htok 0 none [], ?_⟩
    rintro r E ⟨rfl, A, rfl, hAn, hAs⟩
    (repeat (first | with_reducible refine And.intro trivial ?_ | with_reducible refine And.intro rfl ?_ | (with_reducible refine And.intro ?_ ?_; focus ((repeat' (first | with_reducible exact trivial | with_reducible exact rfl | (with_reducible apply And.intro) | exact in64 (by omega) (by omega) | omega)); done)) | dsimp only [go_sem, Nat.reduceAdd, Nat.reduceSub, Option.map, bne, BEq.beq, nds, fcs, strs, stepV, keysOk, isKey, lkV, Option.getD] | simp only [sS, Int.cast_ofNat_Int, Int.reduceEq, Int.reduceLT, Int.reduceLE, Int.reduceAdd, Int.reduceSub, Int.reduceToNat]))
    have hAl : A.length ≤ 600 := by
      have := nodup_len hAn (b := M fs t none) fun x hx => (hAs x).1 hx
      omega
    refine lpg [20] (fun seen : List Nat => [(6, .rw 3)]) (fun seen => [.cells [.g (.fsl 3 (List.map ndC t.post))], .map (mE A), .mit 1 (mE A).length seen, .row false 1 ((seen.map fun i => A.getD i []).map strC)]) (fun seen => Seen A seen) (fun seen => A.length - seen.length) [] (Gh.nil 6 1 rfl) ⟨rfl, trivial⟩ rfl (Seen.nil A) ?_
    intro seen hs
    have hsl := hs.len
    (repeat (first | with_reducible refine And.intro trivial ?_ | with_reducible refine And.intro rfl ?_ | (with_reducible refine And.intro ?_ ?_; focus ((repeat' (first | with_reducible exact trivial | with_reducible exact rfl | (with_reducible apply And.intro) | exact in64 (by omega) (by omega) | omega)); done)) | dsimp only [go_sem, Nat.reduceAdd, Nat.reduceSub, Option.map, bne, BEq.beq, nds, fcs, strs, stepV, keysOk, isKey, lkV, Option.getD] | simp only [sS, Int.cast_ofNat_Int, Int.reduceEq, Int.reduceLT, Int.reduceLE, Int.reduceAdd, Int.reduceSub, Int.reduceToNat]))
    refine ⟨rfl, rfl, fun i x hx hb => ?_, fun hall => ?_⟩
    · obtain ⟨hi, rfl⟩ := mE_at hx
      have hs' := hs.add hb hi
      have hl' := hs'.len
      simp only [List.length_append, List.length_cons, List.length_nil] at hl'
      (repeat (first | with_reducible refine And.intro trivial ?_ | with_reducible refine And.intro rfl ?_ | (with_reducible refine And.intro ?_ ?_; focus ((repeat' (first | with_reducible exact trivial | with_reducible exact rfl | (with_reducible apply And.intro) | exact in64 (by omega) (by omega) | omega)); done)) | dsimp only [go_sem, Nat.reduceAdd, Nat.reduceSub, Option.map, bne, BEq.beq, nds, fcs, strs, stepV, keysOk, isKey, lkV, Option.getD] | simp only [sS, Int.cast_ofNat_Int, Int.reduceEq, Int.reduceLT, Int.reduceLE, Int.reduceAdd, Int.reduceSub, Int.reduceToNat]))
      simp only [List.getLast?_concat, hx]
      (repeat (first | with_reducible refine And.intro trivial ?_ | with_reducible refine And.intro rfl ?_ | (with_reducible refine And.intro ?_ ?_; focus ((repeat' (first | with_reducible exact trivial | with_reducible exact rfl | (with_reducible apply And.intro) | exact in64 (by omega) (by omega) | omega)); done)) | dsimp only [go_sem, Nat.reduceAdd, Nat.reduceSub, Option.map, bne, BEq.beq, nds, fcs, strs, stepV, keysOk, isKey, lkV, Option.getD] | simp only [sS, Int.cast_ofNat_Int, Int.reduceEq, Int.reduceLT, Int.reduceLE, Int.reduceAdd, Int.reduceSub, Int.reduceToNat]))
      refine rndg (seen ++ [i]) (Gh.subm [0, 1, 2, 3] rfl rfl) ?_ ?_ ?_ ?_ hs' (by simp; omega)
      · rfl
      · exact ⟨rfl, trivial⟩
      · exact ⟨rfl, trivial⟩
      · rw [List.map_append, List.map_append]
        simp only [List.map_cons, List.map_nil, strC, List.getD_eq_getElem?_getD, List.getElem?_eq_getElem hi, Option.getD_some]
        rfl
    · have hLn : (seen.map fun i => A.getD i []).Nodup := by
        unfold List.Nodup
        rw [List.pairwise_map]
        refine List.Pairwise.imp_of_mem ?_ hs.nd
        intro a b ha hb hne he
        have ha' := hs.lt a ha
        have hb' := hs.lt b hb
        simp only [List.getD_eq_getElem?_getD, List.getElem?_eq_getElem ha', List.getElem?_eq_getElem hb', Option.getD_some] at he
        have h1 := List.pairwise_iff_getElem.1 hAn
        rcases Nat.lt_trichotomy a b with h | h | h
        · exact h1 a b ha' hb' h he
        · exact hne h
        · exact h1 b a hb' ha' h he.symm
      have hLm : ∀ x, x ∈ (seen.map fun i => A.getD i []) ↔ x ∈ A := by
        intro x
        rw [List.mem_map]
        constructor
        · rintro ⟨i, hi, rfl⟩
          have hi' := hs.lt i hi
          simp only [List.getD_eq_getElem?_getD, List.getElem?_eq_getElem hi', Option.getD_some]
          exact List.getElem_mem hi'
        · intro hx
          obtain ⟨i, hi, rfl⟩ := List.mem_iff_getElem.1 hx
          exact ⟨i, (hasB_mem seen i).1 (hall i (by rw [mE_len]; exact hi)), by simp [hi]⟩
      have hLl : (seen.map fun i => A.getD i []).length ≤ 1000 := by simp; omega
      have hM : srt (seen.map fun i => A.getD i []) = mean t.post fs := by
        have : mean t.post fs = M fs t none := by simp [mean, hp, show fs.length ≤ 300 from by omega]
        rw [this]
        exact Sd_ext (srt_sd hLn) (M_sd fs t none) fun x => by rw [mem_srt, hLm, hAs]
      generalize (seen.map fun i => A.getD i []) = L at *
      (repeat (first | with_reducible refine And.intro trivial ?_ | with_reducible refine And.intro rfl ?_ | (with_reducible refine And.intro ?_ ?_; focus ((repeat' (first | with_reducible exact trivial | with_reducible exact rfl | (with_reducible apply And.intro) | exact in64 (by omega) (by omega) | omega)); done)) | dsimp only [go_sem, Nat.reduceAdd, Nat.reduceSub, Option.map, bne, BEq.beq, nds, fcs, strs, stepV, keysOk, isKey, lkV, Option.getD] | simp only [sS, Int.cast_ofNat_Int, Int.reduceEq, Int.reduceLT, Int.reduceLE, Int.reduceAdd, Int.reduceSub, Int.reduceToNat]))
      refine ⟨[], [3], [3], _, rfl, c34 true L hLl, ?_⟩
      rintro r E ⟨rfl, rfl⟩
      (repeat (first | with_reducible refine And.intro trivial ?_ | with_reducible refine And.intro rfl ?_ | (with_reducible refine And.intro ?_ ?_; focus ((repeat' (first | with_reducible exact trivial | with_reducible exact rfl | (with_reducible apply And.intro) | exact in64 (by omega) (by omega) | omega)); done)) | dsimp only [go_sem, Nat.reduceAdd, Nat.reduceSub, Option.map, bne, BEq.beq, nds, fcs, strs, stepV, keysOk, isKey, lkV, Option.getD] | simp only [sS, Int.cast_ofNat_Int, Int.reduceEq, Int.reduceLT, Int.reduceLE, Int.reduceAdd, Int.reduceSub, Int.reduceToNat]))
      refine finA0 ?_; (repeat (first | with_reducible refine And.intro trivial ?_ | with_reducible refine And.intro rfl ?_ | (with_reducible refine And.intro ?_ ?_; focus ((repeat' (first | with_reducible exact trivial | with_reducible exact rfl | (with_reducible apply And.intro) | exact in64 (by omega) (by omega) | omega)); done)) | dsimp only [go_sem, Nat.reduceAdd, Nat.reduceSub, Option.map, bne, BEq.beq, nds, fcs, strs, stepV, keysOk, isKey, lkV, Option.getD] | simp only [sS, Int.cast_ofNat_Int, Int.reduceEq, Int.reduceLT, Int.reduceLE, Int.reduceAdd, Int.reduceSub, Int.reduceToNat]))
      refine ⟨false, [3], rfl, ?_⟩
      (repeat (first | with_reducible refine And.intro trivial ?_ | with_reducible refine And.intro rfl ?_ | (with_reducible refine And.intro ?_ ?_; focus ((repeat' (first | with_reducible exact trivial | with_reducible exact rfl | (with_reducible apply And.intro) | exact in64 (by omega) (by omega) | omega)); done)) | dsimp only [go_sem, Nat.reduceAdd, Nat.reduceSub, Option.map, bne, BEq.beq, nds, fcs, strs, stepV, keysOk, isKey, lkV, Option.getD] | simp only [sS, Int.cast_ofNat_Int, Int.reduceEq, Int.reduceLT, Int.reduceLE, Int.reduceAdd, Int.reduceSub, Int.reduceToNat]))
      rw [hM]
end Go.Av

namespace Go.Av
set_option maxRecDepth 100000
set_option maxHeartbeats 8000000
set_option linter.unusedVariables false
set_option linter.unusedSimpArgs false

/-- A call with frozen arguments, all that it gives frozen. -/
theorem PCall.of {P : Program} {G : Gl} {f : FuncId} {vs : List V} {K : LV → List Obj → Prop} {K' : V → Prop} (hc : ACalls P G f (vs.map .g) [] K) (h : ∀ r E', K r E' → ∃ v, tv (frzO E') r = some v ∧ K' v) : PCall P G f vs K' := by
  intro F σ w vals hs ha
  have hσ : σ = [] := by have := hs.len; simp only [List.length_nil] at this; exact List.eq_nil_of_length_eq_zero this.symm
  subst hσ
  refine (hc F [] w vals hs ha).mono ?_
  rintro e w' ⟨y, r, E', F', σ', rfl, hK, hr, hs', st⟩
  obtain ⟨v, hv, hK'⟩ := h r E' hK
  obtain ⟨F2, hs2, st2⟩ := frz_all hs'
  have hR := tv_sound hs2 hv (hr.mono st2.le (fun _ _ h => h))
  have stt := st.trans st2
  exact ⟨y, .g v, [], F2, [], rfl, ⟨rfl, v, rfl, hK'⟩, hR, hs2.toNil,
    ⟨stt.le, stt.frame, stt.fnew, fun p hp => by simp at hp, stt.size, stt.os, stt.tape, stt.output, fun k p h => by simp at h, Nat.le_refl _⟩⟩
theorem c14f (ns : List Nd) (hb : ns.length * 40 ≤ 140737488351232) : PCall prog [] 14 [.agg [nds ns]] (· = .agg [nds ns]) :=
  PCall.of (c14 ns hb) (by rintro r E ⟨rfl, rfl⟩; exact ⟨_, rfl, rfl⟩)
theorem flat_nd (ns : List Nd) : ∀ e ∈ ns.map ndC, flatL e = true := by intro e he; obtain ⟨n, _, rfl⟩ := List.mem_map.1 he; rfl
theorem flat_fc (ns : List Fc) : ∀ e ∈ ns.map fcC, flatL e = true := by intro e he; obtain ⟨n, _, rfl⟩ := List.mem_map.1 he; rfl
theorem flat_str (ns : List B) : ∀ e ∈ ns.map strC, flatL e = true := by intro e he; obtain ⟨n, _, rfl⟩ := List.mem_map.1 he; rfl
theorem c7b (ns : List Nd) (fs : List Fc) {xa : List LV} {E : List Obj} (hv : tvL (frzO E) xa = some [.agg [nds ns], fcs fs]) : ACalls prog [] 7 xa E (fun r E' => r = .rw E.length ∧ E' = E ++ [.row false 1 ((mean ns fs).map strC)]) := by
  refine (ACalls.borrow hv (c7 (fun fs h => c33 fs h) ns fs) ?_).mono ?_
  · rintro r E' ⟨rfl, rfl⟩
    refine ⟨rfl, ?_⟩
    intro e he
    simp at he; subst he
    exact flat_str _
  · rintro r E' ⟨r', E2, ⟨rfl, rfl⟩, rfl, rfl⟩
    exact ⟨by simp [ren, hasB, nth], rfl⟩
theorem mean_len (ns : List Nd) (fs : List Fc) : (mean ns fs).length ≤ 600 := by
  unfold mean
  cases pathT ns with
  | none => simp
  | some t =>
    dsimp only
    split
    · have := M_len fs t none; omega
    · simp

theorem c4 (ns : List Nd) (fs : List Fc) (hns : ∀ n ∈ ns, okNd n) (hfs : ∀ f ∈ fs, okFc f) : PCall prog [] 4 [.agg [nds ns], fcs fs] (· = .bool true) := by
  refine PCall.enter mixed comp4 ?_
  dsimp only [ir4]
  have hn0 : 0 ≤ sum (ns.map ndSz) := sum_nonneg (by intro x hx; obtain ⟨y, _, rfl⟩ := List.mem_map.1 hx; unfold ndSz; omega)
  have hf0 : 0 ≤ sum (fs.map fcSz) := sum_nonneg (by intro x hx; obtain ⟨y, _, rfl⟩ := List.mem_map.1 hx; unfold fcSz; omega)
  (repeat (first | with_reducible refine And.intro trivial ?_ | with_reducible refine And.intro rfl ?_ | (with_reducible refine And.intro ?_ ?_; focus ((repeat' (first | with_reducible exact trivial | with_reducible exact rfl | (with_reducible apply And.intro) | exact in64 (by omega) (by omega) | omega)); done)) | dsimp only [go_sem, Nat.reduceAdd, Nat.reduceSub, Option.map, bne, BEq.beq, nds, fcs, strs] | simp only [sS, Int.cast_ofNat_Int, Int.reduceEq, Int.reduceLT, Int.reduceLE, Int.reduceAdd, Int.reduceSub, Int.reduceToNat]))
  refine cpe [] (c12 ns 1048576 (by omega) (by omega) hns) rfl ?_
  by_cases h1 : ndsSz ns ≤ 1048576
  · have e1 : szR 1048576 (ndsSz ns) = 1048576 - ndsSz ns := if_pos h1
    have hd1 : decide (1048576 - ndsSz ns < 0) = false := by simp; omega
    have hn1 : ns.length ≤ 1048576 := by unfold ndsSz at h1; omega
    have hnn : 0 ≤ ndsSz ns := by unfold ndsSz; omega
    rw [e1]
    (repeat (first | with_reducible refine And.intro trivial ?_ | with_reducible refine And.intro rfl ?_ | (with_reducible refine And.intro ?_ ?_; focus ((repeat' (first | with_reducible exact trivial | with_reducible exact rfl | (with_reducible apply And.intro) | exact in64 (by omega) (by omega) | omega)); done)) | dsimp only [go_sem, Nat.reduceAdd, Nat.reduceSub, Option.map, bne, BEq.beq, nds, fcs, strs] | simp only [sS, Int.cast_ofNat_Int, Int.reduceEq, Int.reduceLT, Int.reduceLE, Int.reduceAdd, Int.reduceSub, Int.reduceToNat]))
    (repeat (simp only [hd1]; (repeat (first | with_reducible refine And.intro trivial ?_ | with_reducible refine And.intro rfl ?_ | (with_reducible refine And.intro ?_ ?_; focus ((repeat' (first | with_reducible exact trivial | with_reducible exact rfl | (with_reducible apply And.intro) | exact in64 (by omega) (by omega) | omega)); done)) | dsimp only [go_sem, Nat.reduceAdd, Nat.reduceSub, Option.map, bne, BEq.beq, nds, fcs, strs] | simp only [sS, Int.cast_ofNat_Int, Int.reduceEq, Int.reduceLT, Int.reduceLE, Int.reduceAdd, Int.reduceSub, Int.reduceToNat]))))
    refine cpe [] (c13 fs (1048576 - ndsSz ns) (by omega) (by omega) hfs) rfl ?_
    by_cases h2 : fcsSz fs ≤ 1048576 - ndsSz ns
    · have e2 : szR (1048576 - ndsSz ns) (fcsSz fs) = 1048576 - ndsSz ns - fcsSz fs := if_pos h2
      have hd2 : decide (1048576 - ndsSz ns - fcsSz fs < 0) = false := by simp; omega
      have hf1 : fs.length ≤ 1048576 := by unfold fcsSz at h2; omega
      rw [e2]
      (repeat (first | with_reducible refine And.intro trivial ?_ | with_reducible refine And.intro rfl ?_ | (with_reducible refine And.intro ?_ ?_; focus ((repeat' (first | with_reducible exact trivial | with_reducible exact rfl | (with_reducible apply And.intro) | exact in64 (by omega) (by omega) | omega)); done)) | dsimp only [go_sem, Nat.reduceAdd, Nat.reduceSub, Option.map, bne, BEq.beq, nds, fcs, strs] | simp only [sS, Int.cast_ofNat_Int, Int.reduceEq, Int.reduceLT, Int.reduceLE, Int.reduceAdd, Int.reduceSub, Int.reduceToNat]))
      (repeat (simp only [hd2]; (repeat (first | with_reducible refine And.intro trivial ?_ | with_reducible refine And.intro rfl ?_ | (with_reducible refine And.intro ?_ ?_; focus ((repeat' (first | with_reducible exact trivial | with_reducible exact rfl | (with_reducible apply And.intro) | exact in64 (by omega) (by omega) | omega)); done)) | dsimp only [go_sem, Nat.reduceAdd, Nat.reduceSub, Option.map, bne, BEq.beq, nds, fcs, strs] | simp only [sS, Int.cast_ofNat_Int, Int.reduceEq, Int.reduceLT, Int.reduceLE, Int.reduceAdd, Int.reduceSub, Int.reduceToNat]))))
      refine cx [] [] [] rfl (c14 ns (by omega)) ?_
      rintro r E ⟨rfl, rfl⟩
      (repeat (first | with_reducible refine And.intro trivial ?_ | with_reducible refine And.intro rfl ?_ | (with_reducible refine And.intro ?_ ?_; focus ((repeat' (first | with_reducible exact trivial | with_reducible exact rfl | (with_reducible apply And.intro) | exact in64 (by omega) (by omega) | omega)); done)) | dsimp only [go_sem, Nat.reduceAdd, Nat.reduceSub, Option.map, bne, BEq.beq, nds, fcs, strs] | simp only [sS, Int.cast_ofNat_Int, Int.reduceEq, Int.reduceLT, Int.reduceLE, Int.reduceAdd, Int.reduceSub, Int.reduceToNat]))
      refine cx [] [] [] rfl (c15 fs (by omega)) ?_
      rintro r E ⟨rfl, rfl⟩
      (repeat (first | with_reducible refine And.intro trivial ?_ | with_reducible refine And.intro rfl ?_ | (with_reducible refine And.intro ?_ ?_; focus ((repeat' (first | with_reducible exact trivial | with_reducible exact rfl | (with_reducible apply And.intro) | exact in64 (by omega) (by omega) | omega)); done)) | dsimp only [go_sem, Nat.reduceAdd, Nat.reduceSub, Option.map, bne, BEq.beq, nds, fcs, strs] | simp only [sS, Int.cast_ofNat_Int, Int.reduceEq, Int.reduceLT, Int.reduceLE, Int.reduceAdd, Int.reduceSub, Int.reduceToNat]))
      refine cpe [0, 1] (c8 ns fs) rfl ?_
      (repeat (first | with_reducible refine And.intro trivial ?_ | with_reducible refine And.intro rfl ?_ | (with_reducible refine And.intro ?_ ?_; focus ((repeat' (first | with_reducible exact trivial | with_reducible exact rfl | (with_reducible apply And.intro) | exact in64 (by omega) (by omega) | omega)); done)) | dsimp only [go_sem, Nat.reduceAdd, Nat.reduceSub, Option.map, bne, BEq.beq, nds, fcs, strs] | simp only [sS, Int.cast_ofNat_Int, Int.reduceEq, Int.reduceLT, Int.reduceLE, Int.reduceAdd, Int.reduceSub, Int.reduceToNat]))
      refine cx [] [] [] rfl (c14 ns (by omega)) ?_
      rintro r E ⟨rfl, rfl⟩
      (repeat (first | with_reducible refine And.intro trivial ?_ | with_reducible refine And.intro rfl ?_ | (with_reducible refine And.intro ?_ ?_; focus ((repeat' (first | with_reducible exact trivial | with_reducible exact rfl | (with_reducible apply And.intro) | exact in64 (by omega) (by omega) | omega)); done)) | dsimp only [go_sem, Nat.reduceAdd, Nat.reduceSub, Option.map, bne, BEq.beq, nds, fcs, strs] | simp only [sS, Int.cast_ofNat_Int, Int.reduceEq, Int.reduceLT, Int.reduceLE, Int.reduceAdd, Int.reduceSub, Int.reduceToNat]))
      refine cx [] [] [] rfl (c15 fs (by omega)) ?_
      rintro r E ⟨rfl, rfl⟩
      (repeat (first | with_reducible refine And.intro trivial ?_ | with_reducible refine And.intro rfl ?_ | (with_reducible refine And.intro ?_ ?_; focus ((repeat' (first | with_reducible exact trivial | with_reducible exact rfl | (with_reducible apply And.intro) | exact in64 (by omega) (by omega) | omega)); done)) | dsimp only [go_sem, Nat.reduceAdd, Nat.reduceSub, Option.map, bne, BEq.beq, nds, fcs, strs] | simp only [sS, Int.cast_ofNat_Int, Int.reduceEq, Int.reduceLT, Int.reduceLE, Int.reduceAdd, Int.reduceSub, Int.reduceToNat]))
      refine cx [] [3, 5] [3, 5] rfl (c7b ns fs rfl) ?_
      rintro r E ⟨rfl, rfl⟩
      have hml := mean_len ns fs
      generalize hmm : mean ns fs = mm at *
      (repeat (first | with_reducible refine And.intro trivial ?_ | with_reducible refine And.intro rfl ?_ | (with_reducible refine And.intro ?_ ?_; focus ((repeat' (first | with_reducible exact trivial | with_reducible exact rfl | (with_reducible apply And.intro) | exact in64 (by omega) (by omega) | omega)); done)) | dsimp only [go_sem, Nat.reduceAdd, Nat.reduceSub, Option.map, bne, BEq.beq, nds, fcs, strs] | simp only [sS, Int.cast_ofNat_Int, Int.reduceEq, Int.reduceLT, Int.reduceLE, Int.reduceAdd, Int.reduceSub, Int.reduceToNat]))
      refine cpb [6] (c16 mm mm) rfl rfl rfl rfl ?_
      have hdm : decide (mm = mm) = true := by simp
      (repeat (simp only [hdm]; (repeat (first | with_reducible refine And.intro trivial ?_ | with_reducible refine And.intro rfl ?_ | (with_reducible refine And.intro ?_ ?_; focus ((repeat' (first | with_reducible exact trivial | with_reducible exact rfl | (with_reducible apply And.intro) | exact in64 (by omega) (by omega) | omega)); done)) | dsimp only [go_sem, Nat.reduceAdd, Nat.reduceSub, Option.map, bne, BEq.beq, nds, fcs, strs] | simp only [sS, Int.cast_ofNat_Int, Int.reduceEq, Int.reduceLT, Int.reduceLE, Int.reduceAdd, Int.reduceSub, Int.reduceToNat])))); (repeat (first | with_reducible refine And.intro trivial ?_ | with_reducible refine And.intro rfl ?_ | (with_reducible refine And.intro ?_ ?_; focus ((repeat' (first | with_reducible exact trivial | with_reducible exact rfl | (with_reducible apply And.intro) | exact in64 (by omega) (by omega) | omega)); done)) | dsimp only [go_sem, Nat.reduceAdd, Nat.reduceSub, Option.map, bne, BEq.beq, nds, fcs, strs] | simp only [sS, Int.cast_ofNat_Int, Int.reduceEq, Int.reduceLT, Int.reduceLE, Int.reduceAdd, Int.reduceSub, Int.reduceToNat]))
      refine cd (c14f ns (by omega)) rfl ?_
      (repeat (first | with_reducible refine And.intro trivial ?_ | with_reducible refine And.intro rfl ?_ | (with_reducible refine And.intro ?_ ?_; focus ((repeat' (first | with_reducible exact trivial | with_reducible exact rfl | (with_reducible apply And.intro) | exact in64 (by omega) (by omega) | omega)); done)) | dsimp only [go_sem, Nat.reduceAdd, Nat.reduceSub, Option.map, bne, BEq.beq, nds, fcs, strs] | simp only [sS, Int.cast_ofNat_Int, Int.reduceEq, Int.reduceLT, Int.reduceLE, Int.reduceAdd, Int.reduceSub, Int.reduceToNat]))
      refine cdb [3] (c17 ns ns) rfl rfl rfl rfl rfl ?_
      have hdn : decide (ns = ns) = true := by simp
      (repeat (simp only [hdn]; (repeat (first | with_reducible refine And.intro trivial ?_ | with_reducible refine And.intro rfl ?_ | (with_reducible refine And.intro ?_ ?_; focus ((repeat' (first | with_reducible exact trivial | with_reducible exact rfl | (with_reducible apply And.intro) | exact in64 (by omega) (by omega) | omega)); done)) | dsimp only [go_sem, Nat.reduceAdd, Nat.reduceSub, Option.map, bne, BEq.beq, nds, fcs, strs] | simp only [sS, Int.cast_ofNat_Int, Int.reduceEq, Int.reduceLT, Int.reduceLE, Int.reduceAdd, Int.reduceSub, Int.reduceToNat])))); (repeat (first | with_reducible refine And.intro trivial ?_ | with_reducible refine And.intro rfl ?_ | (with_reducible refine And.intro ?_ ?_; focus ((repeat' (first | with_reducible exact trivial | with_reducible exact rfl | (with_reducible apply And.intro) | exact in64 (by omega) (by omega) | omega)); done)) | dsimp only [go_sem, Nat.reduceAdd, Nat.reduceSub, Option.map, bne, BEq.beq, nds, fcs, strs] | simp only [sS, Int.cast_ofNat_Int, Int.reduceEq, Int.reduceLT, Int.reduceLE, Int.reduceAdd, Int.reduceSub, Int.reduceToNat]))
      refine cx [] [] [] rfl (c15 fs (by omega)) ?_
      rintro r E ⟨rfl, rfl⟩
      (repeat (first | with_reducible refine And.intro trivial ?_ | with_reducible refine And.intro rfl ?_ | (with_reducible refine And.intro ?_ ?_; focus ((repeat' (first | with_reducible exact trivial | with_reducible exact rfl | (with_reducible apply And.intro) | exact in64 (by omega) (by omega) | omega)); done)) | dsimp only [go_sem, Nat.reduceAdd, Nat.reduceSub, Option.map, bne, BEq.beq, nds, fcs, strs] | simp only [sS, Int.cast_ofNat_Int, Int.reduceEq, Int.reduceLT, Int.reduceLE, Int.reduceAdd, Int.reduceSub, Int.reduceToNat]))
      refine cpb [5, 7] (c18 fs fs) rfl rfl rfl rfl ?_
      have hdf : decide (fs = fs) = true := by simp
      (repeat (simp only [hdf]; (repeat (first | with_reducible refine And.intro trivial ?_ | with_reducible refine And.intro rfl ?_ | (with_reducible refine And.intro ?_ ?_; focus ((repeat' (first | with_reducible exact trivial | with_reducible exact rfl | (with_reducible apply And.intro) | exact in64 (by omega) (by omega) | omega)); done)) | dsimp only [go_sem, Nat.reduceAdd, Nat.reduceSub, Option.map, bne, BEq.beq, nds, fcs, strs] | simp only [sS, Int.cast_ofNat_Int, Int.reduceEq, Int.reduceLT, Int.reduceLE, Int.reduceAdd, Int.reduceSub, Int.reduceToNat])))); (repeat (first | with_reducible refine And.intro trivial ?_ | with_reducible refine And.intro rfl ?_ | (with_reducible refine And.intro ?_ ?_; focus ((repeat' (first | with_reducible exact trivial | with_reducible exact rfl | (with_reducible apply And.intro) | exact in64 (by omega) (by omega) | omega)); done)) | dsimp only [go_sem, Nat.reduceAdd, Nat.reduceSub, Option.map, bne, BEq.beq, nds, fcs, strs] | simp only [sS, Int.cast_ofNat_Int, Int.reduceEq, Int.reduceLT, Int.reduceLE, Int.reduceAdd, Int.reduceSub, Int.reduceToNat]))
      refine cx [] [3] [3] rfl (c19 (ns.map ndC) 1 (by omega) (by omega) (by simp; omega)) ?_
      rintro r E ⟨rfl, es1, rfl⟩
      (repeat (first | with_reducible refine And.intro trivial ?_ | with_reducible refine And.intro rfl ?_ | (with_reducible refine And.intro ?_ ?_; focus ((repeat' (first | with_reducible exact trivial | with_reducible exact rfl | (with_reducible apply And.intro) | exact in64 (by omega) (by omega) | omega)); done)) | dsimp only [go_sem, Nat.reduceAdd, Nat.reduceSub, Option.map, bne, BEq.beq, nds, fcs, strs] | simp only [sS, Int.cast_ofNat_Int, Int.reduceEq, Int.reduceLT, Int.reduceLE, Int.reduceAdd, Int.reduceSub, Int.reduceToNat]))
      refine cx [] [5] [5] rfl (c20 (fs.map fcC) _ (by omega) (by omega) (by simp; omega)) ?_
      rintro r E ⟨rfl, es2, rfl⟩
      (repeat (first | with_reducible refine And.intro trivial ?_ | with_reducible refine And.intro rfl ?_ | (with_reducible refine And.intro ?_ ?_; focus ((repeat' (first | with_reducible exact trivial | with_reducible exact rfl | (with_reducible apply And.intro) | exact in64 (by omega) (by omega) | omega)); done)) | dsimp only [go_sem, Nat.reduceAdd, Nat.reduceSub, Option.map, bne, BEq.beq, nds, fcs, strs] | simp only [sS, Int.cast_ofNat_Int, Int.reduceEq, Int.reduceLT, Int.reduceLE, Int.reduceAdd, Int.reduceSub, Int.reduceToNat]))
      have hd3 : decide (1 + 3 * (ns.length : Int) + 4 * (fs.length : Int) < 0) = false := by simp only [decide_eq_false_iff_not]; omega
      (repeat (simp only [hd3]; (repeat (first | with_reducible refine And.intro trivial ?_ | with_reducible refine And.intro rfl ?_ | (with_reducible refine And.intro ?_ ?_; focus ((repeat' (first | with_reducible exact trivial | with_reducible exact rfl | (with_reducible apply And.intro) | exact in64 (by omega) (by omega) | omega)); done)) | dsimp only [go_sem, Nat.reduceAdd, Nat.reduceSub, Option.map, bne, BEq.beq, nds, fcs, strs] | simp only [sS, Int.cast_ofNat_Int, Int.reduceEq, Int.reduceLT, Int.reduceLE, Int.reduceAdd, Int.reduceSub, Int.reduceToNat])))); (repeat (first | with_reducible refine And.intro trivial ?_ | with_reducible refine And.intro rfl ?_ | (with_reducible refine And.intro ?_ ?_; focus ((repeat' (first | with_reducible exact trivial | with_reducible exact rfl | (with_reducible apply And.intro) | exact in64 (by omega) (by omega) | omega)); done)) | dsimp only [go_sem, Nat.reduceAdd, Nat.reduceSub, Option.map, bne, BEq.beq, nds, fcs, strs] | simp only [sS, Int.cast_ofNat_Int, Int.reduceEq, Int.reduceLT, Int.reduceLE, Int.reduceAdd, Int.reduceSub, Int.reduceToNat]))
      refine cpb [6] (c16 mm mm) rfl rfl rfl rfl ?_
      (repeat (simp only [hdm]; (repeat (first | with_reducible refine And.intro trivial ?_ | with_reducible refine And.intro rfl ?_ | (with_reducible refine And.intro ?_ ?_; focus ((repeat' (first | with_reducible exact trivial | with_reducible exact rfl | (with_reducible apply And.intro) | exact in64 (by omega) (by omega) | omega)); done)) | dsimp only [go_sem, Nat.reduceAdd, Nat.reduceSub, Option.map, bne, BEq.beq, nds, fcs, strs] | simp only [sS, Int.cast_ofNat_Int, Int.reduceEq, Int.reduceLT, Int.reduceLE, Int.reduceAdd, Int.reduceSub, Int.reduceToNat])))); (repeat (first | with_reducible refine And.intro trivial ?_ | with_reducible refine And.intro rfl ?_ | (with_reducible refine And.intro ?_ ?_; focus ((repeat' (first | with_reducible exact trivial | with_reducible exact rfl | (with_reducible apply And.intro) | exact in64 (by omega) (by omega) | omega)); done)) | dsimp only [go_sem, Nat.reduceAdd, Nat.reduceSub, Option.map, bne, BEq.beq, nds, fcs, strs] | simp only [sS, Int.cast_ofNat_Int, Int.reduceEq, Int.reduceLT, Int.reduceLE, Int.reduceAdd, Int.reduceSub, Int.reduceToNat]))
      refine cx [] [6] [6] rfl (c21 (mm.map strC) 1 (by omega) (by omega) (by simp; omega) (by intro e he; obtain ⟨x, _, rfl⟩ := List.mem_map.1 he; rfl)) ?_
      rintro r E ⟨rfl, rfl⟩
      (repeat (first | with_reducible refine And.intro trivial ?_ | with_reducible refine And.intro rfl ?_ | (with_reducible refine And.intro ?_ ?_; focus ((repeat' (first | with_reducible exact trivial | with_reducible exact rfl | (with_reducible apply And.intro) | exact in64 (by omega) (by omega) | omega)); done)) | dsimp only [go_sem, Nat.reduceAdd, Nat.reduceSub, Option.map, bne, BEq.beq, nds, fcs, strs] | simp only [sS, Int.cast_ofNat_Int, Int.reduceEq, Int.reduceLT, Int.reduceLE, Int.reduceAdd, Int.reduceSub, Int.reduceToNat]))
      refine cpb [6] (c22 mm.length 1 (by omega) (by omega) (by omega)) rfl rfl rfl rfl ?_
      have hd4 : decide (1 + (mm.length : Int) < 0) = false := by simp only [decide_eq_false_iff_not]; omega
      have hd5 : decide (1 + (mm.length : Int) = 1 + (mm.length : Int)) = true := by simp
      (repeat (first | with_reducible refine And.intro trivial ?_ | with_reducible refine And.intro rfl ?_ | (with_reducible refine And.intro ?_ ?_; focus ((repeat' (first | with_reducible exact trivial | with_reducible exact rfl | (with_reducible apply And.intro) | exact in64 (by omega) (by omega) | omega)); done)) | dsimp only [go_sem, Nat.reduceAdd, Nat.reduceSub, Option.map, bne, BEq.beq, nds, fcs, strs] | simp only [sS, Int.cast_ofNat_Int, Int.reduceEq, Int.reduceLT, Int.reduceLE, Int.reduceAdd, Int.reduceSub, Int.reduceToNat]))
      (repeat (simp only [hd4, hd5]; (repeat (first | with_reducible refine And.intro trivial ?_ | with_reducible refine And.intro rfl ?_ | (with_reducible refine And.intro ?_ ?_; focus ((repeat' (first | with_reducible exact trivial | with_reducible exact rfl | (with_reducible apply And.intro) | exact in64 (by omega) (by omega) | omega)); done)) | dsimp only [go_sem, Nat.reduceAdd, Nat.reduceSub, Option.map, bne, BEq.beq, nds, fcs, strs] | simp only [sS, Int.cast_ofNat_Int, Int.reduceEq, Int.reduceLT, Int.reduceLE, Int.reduceAdd, Int.reduceSub, Int.reduceToNat])))); (repeat (first | with_reducible refine And.intro trivial ?_ | with_reducible refine And.intro rfl ?_ | (with_reducible refine And.intro ?_ ?_; focus ((repeat' (first | with_reducible exact trivial | with_reducible exact rfl | (with_reducible apply And.intro) | exact in64 (by omega) (by omega) | omega)); done)) | dsimp only [go_sem, Nat.reduceAdd, Nat.reduceSub, Option.map, bne, BEq.beq, nds, fcs, strs] | simp only [sS, Int.cast_ofNat_Int, Int.reduceEq, Int.reduceLT, Int.reduceLE, Int.reduceAdd, Int.reduceSub, Int.reduceToNat]))
      refine cx [] [] [] rfl (c14 ns (by omega)) ?_
      rintro r E ⟨rfl, rfl⟩
      (repeat (first | with_reducible refine And.intro trivial ?_ | with_reducible refine And.intro rfl ?_ | (with_reducible refine And.intro ?_ ?_; focus ((repeat' (first | with_reducible exact trivial | with_reducible exact rfl | (with_reducible apply And.intro) | exact in64 (by omega) (by omega) | omega)); done)) | dsimp only [go_sem, Nat.reduceAdd, Nat.reduceSub, Option.map, bne, BEq.beq, nds, fcs, strs] | simp only [sS, Int.cast_ofNat_Int, Int.reduceEq, Int.reduceLT, Int.reduceLE, Int.reduceAdd, Int.reduceSub, Int.reduceToNat]))
      refine cx [] [] [] rfl (c15 fs (by omega)) ?_
      rintro r E ⟨rfl, rfl⟩
      (repeat (first | with_reducible refine And.intro trivial ?_ | with_reducible refine And.intro rfl ?_ | (with_reducible refine And.intro ?_ ?_; focus ((repeat' (first | with_reducible exact trivial | with_reducible exact rfl | (with_reducible apply And.intro) | exact in64 (by omega) (by omega) | omega)); done)) | dsimp only [go_sem, Nat.reduceAdd, Nat.reduceSub, Option.map, bne, BEq.beq, nds, fcs, strs] | simp only [sS, Int.cast_ofNat_Int, Int.reduceEq, Int.reduceLT, Int.reduceLE, Int.reduceAdd, Int.reduceSub, Int.reduceToNat]))
      refine cx [0, 1] [] [] rfl (c7 (fun fs h => c33 fs h) ns fs) ?_
      rintro r E ⟨rfl, rfl⟩
      rw [hmm]
      (repeat (first | with_reducible refine And.intro trivial ?_ | with_reducible refine And.intro rfl ?_ | (with_reducible refine And.intro ?_ ?_; focus ((repeat' (first | with_reducible exact trivial | with_reducible exact rfl | (with_reducible apply And.intro) | exact in64 (by omega) (by omega) | omega)); done)) | dsimp only [go_sem, Nat.reduceAdd, Nat.reduceSub, Option.map, bne, BEq.beq, nds, fcs, strs] | simp only [sS, Int.cast_ofNat_Int, Int.reduceEq, Int.reduceLT, Int.reduceLE, Int.reduceAdd, Int.reduceSub, Int.reduceToNat]))
      refine cpb [10] (c16 mm mm) rfl rfl rfl rfl ?_
      (repeat (simp only [hdm]; (repeat (first | with_reducible refine And.intro trivial ?_ | with_reducible refine And.intro rfl ?_ | (with_reducible refine And.intro ?_ ?_; focus ((repeat' (first | with_reducible exact trivial | with_reducible exact rfl | (with_reducible apply And.intro) | exact in64 (by omega) (by omega) | omega)); done)) | dsimp only [go_sem, Nat.reduceAdd, Nat.reduceSub, Option.map, bne, BEq.beq, nds, fcs, strs] | simp only [sS, Int.cast_ofNat_Int, Int.reduceEq, Int.reduceLT, Int.reduceLE, Int.reduceAdd, Int.reduceSub, Int.reduceToNat])))); (repeat (first | with_reducible refine And.intro trivial ?_ | with_reducible refine And.intro rfl ?_ | (with_reducible refine And.intro ?_ ?_; focus ((repeat' (first | with_reducible exact trivial | with_reducible exact rfl | (with_reducible apply And.intro) | exact in64 (by omega) (by omega) | omega)); done)) | dsimp only [go_sem, Nat.reduceAdd, Nat.reduceSub, Option.map, bne, BEq.beq, nds, fcs, strs] | simp only [sS, Int.cast_ofNat_Int, Int.reduceEq, Int.reduceLT, Int.reduceLE, Int.reduceAdd, Int.reduceSub, Int.reduceToNat]))
      refine fin0 ?_; (repeat (first | with_reducible refine And.intro trivial ?_ | with_reducible refine And.intro rfl ?_ | (with_reducible refine And.intro ?_ ?_; focus ((repeat' (first | with_reducible exact trivial | with_reducible exact rfl | (with_reducible apply And.intro) | exact in64 (by omega) (by omega) | omega)); done)) | dsimp only [go_sem, Nat.reduceAdd, Nat.reduceSub, Option.map, bne, BEq.beq, nds, fcs, strs] | simp only [sS, Int.cast_ofNat_Int, Int.reduceEq, Int.reduceLT, Int.reduceLE, Int.reduceAdd, Int.reduceSub, Int.reduceToNat]))
    · have e2 : szR (1048576 - ndsSz ns) (fcsSz fs) = -1 := if_neg h2
      rw [e2]
      (repeat (first | with_reducible refine And.intro trivial ?_ | with_reducible refine And.intro rfl ?_ | (with_reducible refine And.intro ?_ ?_; focus ((repeat' (first | with_reducible exact trivial | with_reducible exact rfl | (with_reducible apply And.intro) | exact in64 (by omega) (by omega) | omega)); done)) | dsimp only [go_sem, Nat.reduceAdd, Nat.reduceSub, Option.map, bne, BEq.beq, nds, fcs, strs] | simp only [sS, Int.cast_ofNat_Int, Int.reduceEq, Int.reduceLT, Int.reduceLE, Int.reduceAdd, Int.reduceSub, Int.reduceToNat]))
      refine fin0 ?_; (repeat (first | with_reducible refine And.intro trivial ?_ | with_reducible refine And.intro rfl ?_ | (with_reducible refine And.intro ?_ ?_; focus ((repeat' (first | with_reducible exact trivial | with_reducible exact rfl | (with_reducible apply And.intro) | exact in64 (by omega) (by omega) | omega)); done)) | dsimp only [go_sem, Nat.reduceAdd, Nat.reduceSub, Option.map, bne, BEq.beq, nds, fcs, strs] | simp only [sS, Int.cast_ofNat_Int, Int.reduceEq, Int.reduceLT, Int.reduceLE, Int.reduceAdd, Int.reduceSub, Int.reduceToNat]))
  · have e1 : szR 1048576 (ndsSz ns) = -1 := if_neg h1
    rw [e1]
    (repeat (first | with_reducible refine And.intro trivial ?_ | with_reducible refine And.intro rfl ?_ | (with_reducible refine And.intro ?_ ?_; focus ((repeat' (first | with_reducible exact trivial | with_reducible exact rfl | (with_reducible apply And.intro) | exact in64 (by omega) (by omega) | omega)); done)) | dsimp only [go_sem, Nat.reduceAdd, Nat.reduceSub, Option.map, bne, BEq.beq, nds, fcs, strs] | simp only [sS, Int.cast_ofNat_Int, Int.reduceEq, Int.reduceLT, Int.reduceLE, Int.reduceAdd, Int.reduceSub, Int.reduceToNat]))
    refine fin0 ?_; (repeat (first | with_reducible refine And.intro trivial ?_ | with_reducible refine And.intro rfl ?_ | (with_reducible refine And.intro ?_ ?_; focus ((repeat' (first | with_reducible exact trivial | with_reducible exact rfl | (with_reducible apply And.intro) | exact in64 (by omega) (by omega) | omega)); done)) | dsimp only [go_sem, Nat.reduceAdd, Nat.reduceSub, Option.map, bne, BEq.beq, nds, fcs, strs] | simp only [sS, Int.cast_ofNat_Int, Int.reduceEq, Int.reduceLT, Int.reduceLE, Int.reduceAdd, Int.reduceSub, Int.reduceToNat]))
end Go.Av

namespace Go.Av
set_option linter.unusedVariables false
set_option linter.unusedSimpArgs false

/-- All blocks of cells, frozen as they are. -/
def fz0 (W : World) : Fz := fun b => match W.heap[b]? with
  | some (.cells arr _ _) => some arr
  | _ => none
theorem fz0_some {W : World} {b : Nat} {arr : Array Value} {e : TypeId} {z : Nat × Nat} (h : W.heap[b]? = some (.cells arr e z)) : fz0 W b = some arr := by simp [fz0, h]
theorem st0 (W : World) : St [] (fz0 W) [] [] W := by
  refine ⟨fun b arr h => ?_, fun x hx => by simp at hx, rfl, fun k o p h => by simp at h, fun p h => by simp at h, fun i j p q oi oj b c d e _ h => by simp at h, fun k o p h => by simp at h⟩
  unfold fz0 at h
  cases hw : W.heap[b]? with
  | none => rw [hw] at h; cases h
  | some o =>
    rw [hw] at h
    cases o with
    | cells c e z => obtain rfl := Option.some.inj h; exact ⟨e, z, rfl⟩
    | _ => cases h

/-- A cell that holds an int (true) or a string (false). -/
def fits1 : Bool → V → Prop
  | true, .int k _ => k = .i64
  | false, .str s => s.length ≤ 140737488351232
  | _, _ => False
def fits : List Bool → List V → Prop
  | [], vs => vs = []
  | k :: ks, vs => ∃ v r, vs = v :: r ∧ fits1 k v ∧ fits ks r
def kindT (P : Program) (t : TypeId) : Option Bool := match P.underlying t with
  | some (.int k) => match k with
    | .i64 => some true
    | _ => none
  | some .string => some false
  | _ => none
/-- A struct of so many such cells. -/
def flatB (P : Program) (t : TypeId) (ks : List Bool) : Bool := match P.underlying t with
  | some (.struct fs) => fs.size == ks.length && P.cellsOf t == ks.length && (List.range ks.length).all fun i => match fs[i]? with
    | some f => f.offset == i && P.cellsOf f.type == 1 && kindT P f.type == ks[i]?
    | none => false
  | _ => false

section
variable {H : Type} {enc : TypeId × Value → H} {P : Program} {w : World} {base : Nat} {spare : Nat → Bool} {held : Bool} {F : Fz}

theorem each_mem : ∀ {ts : List TypeId} {ds : List (DataW H)} {i : Nat} {t : TypeId} {d : DataW H} {m : Nat}, ts[i]? = some t → ds[i]? = some d → m ∈ d.weights P t → m ∈ DataW.weightsEach P ts ds
  | [], ds, i, t, d, m, h, _, _ => by simp at h
  | _ :: _, [], i, t, d, m, _, h, _ => by simp at h
  | t' :: ts, d' :: ds, 0, t, d, m, h, h', hm => by
    obtain rfl : t' = t := by simpa using h
    obtain rfl : d' = d := by simpa using h'
    simp only [DataW.weightsEach]; exact List.mem_append_left _ hm
  | t' :: ts, d' :: ds, i + 1, t, d, m, h, h', hm => by
    simp only [DataW.weightsEach]; exact List.mem_append_right _ (each_mem (i := i) (by simpa using h) (by simpa using h') hm)
theorem all_mem {e : TypeId} {d : DataW H} {m : Nat} : ∀ {ds : List (DataW H)}, d ∈ ds → m ∈ d.weights P e → m ∈ DataW.weightsAll P e ds
  | [], h, _ => by simp at h
  | d' :: ds, h, hm => by
    simp only [DataW.weightsAll]
    rcases List.mem_cons.1 h with rfl | h
    · exact List.mem_append_left _ hm
    · exact List.mem_append_right _ (all_mem h hm)
/-- All that is weighed in a reading is within reach. -/
def light (P : Program) (t : TypeId) (d : DataW H) : Prop := ∀ m ∈ d.weights P t, m ≤ 140737488351232
theorem read_cell {t : TypeId} {k : Bool} {n : Nat} {cs : List Value} {x : DataW H × List MemPlace} (hk : kindT P t = some k) (hw : light P t x.1) (h : DataW.trod enc P w base spare held n t cs = some x) : ∃ v y, cs = [y] ∧ Rep F v y ∧ fits1 k v ∧ oneC y = true := by
  unfold kindT at hk
  split at hk
  · rename_i j hu
    split at hk
    · obtain rfl := Option.some.inj hk
      obtain ⟨m, rfl, _, _⟩ := DataW.trod_int hu h
      exact ⟨.int .i64 m, _, rfl, rfl, rfl, rfl⟩
    · cases hk
  · rename_i hu
    obtain rfl := Option.some.inj hk
    obtain ⟨s, rfl, hx, _⟩ := DataW.trod_string hu h
    refine ⟨.str s.data.toList, _, rfl, ?_, ?_, rfl⟩
    · show Value.string s = .string ⟨s.data.toList.toArray⟩
      cases s; simp
    · subst hx
      exact hw _ (by simp only [DataW.weights]; exact List.mem_singleton.2 rfl)
  · cases hk
theorem build_flat : ∀ (ks : List Bool) (cs : List Value), cs.length = ks.length → (∀ (i : Nat) (k : Bool) (y : Value), ks[i]? = some k → cs[i]? = some y → ∃ v, Rep F v y ∧ fits1 k v ∧ oneC y = true) → ∃ vs, RepL F vs cs ∧ fits ks vs ∧ ∀ y ∈ cs, oneC y = true
  | [], [], _, _ => ⟨[], rfl, rfl, by simp⟩
  | [], _ :: _, h, _ => by simp at h
  | _ :: _, [], h, _ => by simp at h
  | k :: ks, y :: cs, h, hv => by
    obtain ⟨v, h1, h2, h3⟩ := hv 0 k y rfl rfl
    obtain ⟨vs, a1, a2, a3⟩ := build_flat ks cs (by simpa using h) fun i k y e1 e2 => hv (i + 1) k y (by simpa using e1) (by simpa using e2)
    refine ⟨v :: vs, ⟨y, cs, rfl, h1, a1⟩, ⟨v, vs, rfl, h2, a2⟩, ?_⟩
    intro z hz
    rcases List.mem_cons.1 hz with rfl | hz
    · exact h3
    · exact a3 z hz
theorem read_flat {t : TypeId} {ks : List Bool} {n : Nat} {cs : List Value} {x : DataW H × List MemPlace} (hb : flatB P t ks = true) (hw : light P t x.1) (h : DataW.trod enc P w base spare held n t cs = some x) : ∃ vs, RepL F vs cs ∧ fits ks vs ∧ ∀ y ∈ cs, oneC y = true := by
  unfold flatB at hb
  split at hb
  · rename_i fs hu
    simp only [Bool.and_eq_true, beq_iff_eq, List.all_eq_true, List.mem_range] at hb
    obtain ⟨⟨h1, h2⟩, h3⟩ := hb
    obtain ⟨xs, m, rfl, rfl, hl, hxl, hx⟩ := DataW.trod_struct hu h
    refine build_flat ks cs (by omega) fun i k y e1 e2 => ?_
    have hi := (List.getElem?_eq_some_iff.1 e1).1
    have := h3 i hi
    split at this
    · rename_i f hf
      simp only [Bool.and_eq_true, beq_iff_eq] at this
      obtain ⟨⟨ho, hc⟩, hk⟩ := this
      have hcell := hx i f hf
      have hxi : xs[i]? = some xs[i] := List.getElem?_eq_getElem (by omega)
      rw [ho, hc, hxi] at hcell
      have hdr : (cs.drop i).take 1 = [y] := by
        obtain ⟨hi', rfl⟩ := List.getElem?_eq_some_iff.1 e2
        rw [List.drop_eq_getElem_cons hi']; rfl
      rw [hdr] at hcell
      obtain ⟨v, y', e, a1, a2, a3⟩ := read_cell (F := F) (hk.trans e1) (fun m hm => hw m (by
        simp only [DataW.weights, hu]
        exact each_mem (i := i) (by rw [List.getElem?_map, Array.getElem?_toList, hf]; rfl) (by rw [List.getElem?_map, hxi]; rfl) hm)) hcell
      obtain rfl : y = y' := by simpa using e
      exact ⟨v, a1, a2, a3⟩
    · cases this
  · cases hb
theorem fits_length : ∀ {ks : List Bool} {vs : List V}, fits ks vs → vs.length = ks.length
  | [], vs, h => by simp only [fits] at h; simp [h]
  | k :: ks, vs, h => by obtain ⟨v, r, rfl, _, h⟩ := h; simp [fits_length h]
theorem repC_build {arr : Array Value} : ∀ {vs : List V} {cs : List Value} {o : Nat}, RepL F vs cs → (∀ y ∈ cs, oneC y = true) → (∀ j y, cs[j]? = some y → arr[o + j]? = some y) → RepC F arr vs o
  | [], cs, o, h, _, _ => trivial
  | v :: vs, cs, o, h, h1, h2 => by
    obtain ⟨y, r, rfl, hy, hr⟩ := h
    refine ⟨⟨y, h2 0 y rfl, h1 y (by simp), hy⟩, repC_build hr (fun z hz => h1 z (by simp [hz])) fun j z hz => ?_⟩
    have := h2 (j + 1) z (by simpa using hz)
    rw [show o + 1 + j = o + (j + 1) from by omega]; exact this
theorem repR_build {s : Nat} {arr : Array Value} : ∀ {es : List (List V)} {o : Nat}, (∀ i e, es[i]? = some e → e.length = s ∧ RepC F arr e (o + i * s)) → RepR F s arr es o
  | [], o, _ => trivial
  | e :: es, o, h => by
    have h0 := h 0 e rfl
    refine ⟨h0.1, by simpa using h0.2, repR_build fun i e' he => ?_⟩
    have := h (i + 1) e' (by simpa using he)
    rw [show o + s + i * s = o + (i + 1) * s from by rw [Nat.add_mul]; omega]; exact this
theorem cell_heap {a : Addr} {y : Value} (h : w.cell? a = some y) : a.spot = none ∧ ∃ arr e z, w.heap[a.block]? = some (.cells arr e z) ∧ arr[a.off]? = some y := by
  unfold World.cell? at h
  split at h
  · rename_i c e z hw
    split at h
    · cases h
    · rename_i hs
      exact ⟨by simpa using hs, c, e, z, hw, h⟩
  · cases h
theorem Addr.add_block (a : Addr) (n : Nat) : (a.add n).block = a.block := by unfold Addr.add; split <;> rfl
theorem Addr.add_off (a : Addr) (n : Nat) : (a.add n).off = a.off + n := by unfold Addr.add; split <;> simp_all
theorem list_of {α : Type} {p : Nat → α → Prop} : ∀ (n : Nat), (∀ i, i < n → ∃ x, p i x) → ∃ l : List α, l.length = n ∧ ∀ i x, l[i]? = some x → p i x
  | 0, _ => ⟨[], rfl, by simp⟩
  | n + 1, h => by
    obtain ⟨x, hx⟩ := h 0 (by omega)
    obtain ⟨l, h1, h2⟩ := list_of (p := fun i => p (i + 1)) n fun i hi => h (i + 1) (by omega)
    refine ⟨x :: l, by simp [h1], fun i y hy => ?_⟩
    cases i with
    | zero => obtain rfl : x = y := by simpa using hy
              exact hx
    | succ i => exact h2 i y (by simpa using hy)

theorem read_slice {t e : TypeId} {ks : List Bool} {n : Nat} {v : Value} {x : DataW H × List MemPlace} (ht : P.underlying t = some (.slice e)) (hb : flatB P e ks = true) (hks : ks ≠ []) (hw : light P t x.1) (h : DataW.trod enc P w base spare held n t [v] = some x) :
    ∃ es, Rep (fz0 w) (.fsl ks.length es) v ∧ ∀ e ∈ es, fits ks e := by
  have hpos : 0 < ks.length := List.length_pos_iff.2 hks
  have hcell : P.cellsOf e = ks.length := by
    unfold flatB at hb
    split at hb
    · simp only [Bool.and_eq_true, beq_iff_eq] at hb; exact hb.1.2
    · cases hb
  rcases DataW.trod_slice ht h with ⟨h0, _⟩ | ⟨a, len, cap, elems, rest, m, _, h0, hx0, hbl, hlc, hcm, hel, hget, _⟩
  · obtain rfl : v = .slice none 0 0 := by simpa using h0
    exact ⟨[], ⟨none, 0, rfl, by simp, .inl rfl⟩, by simp⟩
  · obtain rfl : v = .slice (some a) len cap := by simpa using h0
    -- an element's cells, as they lie
    have each : ∀ i, i < len → ∃ vs : List V, fits ks vs ∧ ∃ cs : List Value, RepL (fz0 w) vs cs ∧ (∀ y ∈ cs, oneC y = true) ∧ cs.length = ks.length ∧ ∀ j y, cs[j]? = some y → w.cell? ((a.add (i * ks.length)).add j) = some y := by
      intro i hi
      have h1 := hget i hi
      rw [List.getElem?_eq_getElem (by omega), hcell, Option.bind_eq_some_iff] at h1
      obtain ⟨cs, hcs, htr⟩ := h1
      obtain ⟨vs, a1, a2, a3⟩ := read_flat (F := fz0 w) hb (fun m hm => hw m (by
        subst hx0
        simp only [DataW.weights, ht]
        exact List.mem_cons_of_mem _ (List.mem_append_left _ (all_mem (List.mem_map.2 ⟨_, List.getElem_mem (show i < elems.length by omega), rfl⟩) hm)))) htr
      unfold World.cells? at hcs
      split at hcs
      · have hlen := mapM_some_length hcs
        simp only [List.length_range] at hlen
        refine ⟨vs, a2, cs, a1, a3, hlen, fun j y hj => ?_⟩
        have hj' := (List.getElem?_eq_some_iff.1 hj).1
        have := mapM_some_get hcs j j (by rw [List.getElem?_range (by omega)])
        rw [this]; exact hj
      · cases hcs
    obtain ⟨es, hesl, hes⟩ := list_of len each
    refine ⟨es, ?_, fun e' he' => ?_⟩
    · have hml : (maxLen : Nat) = 9223372036854775807 := rfl
      refine ⟨some a, cap, by rw [hesl], by omega, ?_⟩
      by_cases hz : len = 0
      · left; exact List.eq_nil_of_length_eq_zero (by omega)
      right
      obtain ⟨_, cs0, _, _, hl0, hc0⟩ := hes 0 es[0] (List.getElem?_eq_getElem (by omega))
      have hc00 := hc0 0 cs0[0] (List.getElem?_eq_getElem (by omega))
      obtain ⟨hsp, arr, el, z, hw0, _⟩ := cell_heap hc00
      have hsp' : a.spot = none := by rw [Nat.zero_mul] at hsp; exact hsp
      rw [Addr.add_block, Addr.add_block] at hw0
      refine ⟨a.block, a.off, arr, ?_, fz0_some hw0, ?_⟩
      · cases a; simp only at hsp'; subst hsp'; rfl
      · refine repR_build fun i e' he' => ?_
        obtain ⟨hf, cs, h1, h2, h3, h4⟩ := hes i e' he'
        refine ⟨fits_length hf, repC_build h1 h2 fun j y hj => ?_⟩
        obtain ⟨_, arr', el', z', hw', hy⟩ := cell_heap (h4 j y hj)
        rw [Addr.add_block, Addr.add_block, hw0] at hw'
        obtain ⟨rfl, _, _⟩ := Go.Obj.cells.inj (Option.some.inj hw')
        rwa [Addr.add_off, Addr.add_off] at hy
    · obtain ⟨i, hi⟩ := List.mem_iff_getElem?.1 he'
      exact (hes i e' hi).1
end
end Go.Av

namespace Go.Av
open Go.ChangeShapes Go.WideShapes Go.ChangeAt Go.RowKit
set_option linter.unusedVariables false
set_option linter.unusedSimpArgs false

section
variable {H : Type} {enc : TypeId × Value → H} {P : Program}

theorem below_of {W w' : World} {F F' : Fz} {σ' : List Pl} (st : Step F [] W F' σ' w') : Below W.heap.size W w' :=
  ⟨st.os, st.tape, st.output, st.size, fun k hk => st.frame k fun h => by
    rcases h with h | ⟨p, hp, _⟩
    · omega
    · simp at hp⟩
theorem all_below (hl : laidOutB P = true) {W W' : World} (hb : Below W.heap.size W W') : ∀ {ts : List TypeId} {vs : List Value} {ds : List (DataW H)} {ps : List MemPlace}, (∀ t ∈ ts, P.readableRec t = true ∧ t < P.types.size) →
    DataW.TrodAll enc P W 0 (fun _ => true) true ts vs ds ps → (∀ x ∈ ps, x.block < W.heap.size) → DataW.TrodAll enc P W' 0 (fun b => decide (b < W.heap.size)) true ts vs ds ps
  | [], [], [], ps, _, h, _ => h
  | t :: ts, v :: vs, d :: ds, ps, ht, h, hlt => by
    obtain ⟨p, q, h1, h2, rfl⟩ := h
    have h0 := ht t (by simp)
    exact ⟨p, q, Below.trod hl h0.1 h0.2 h1 hb (fun x hx => hlt x (List.mem_append_left _ hx)), all_below hl hb (fun t ht' => ht t (by simp [ht'])) h2 (fun x hx => hlt x (List.mem_append_right _ hx)), rfl⟩
  | [], _ :: _, _, _, _, h, _ => by simp only [DataW.TrodAll] at h
  | [], [], _ :: _, _, _, h, _ => by simp only [DataW.TrodAll] at h
  | _ :: _, [], _, _, _, h, _ => by simp only [DataW.TrodAll] at h
  | _ :: _, _ :: _, [], _, _, h, _ => by simp only [DataW.TrodAll] at h

/-- A law that always gives true, its arguments frozen. -/
theorem law_post {f : FuncId} {fn : Func} {s : ChangeSpec} {fresh handsOn : Bool} {W : World} {args : Array Value} {ds gs : List (DataW H)} {before : List MemPlace} {vs : List V} {tb : TypeId}
    (hvars : s.vars = []) (hlaid : laidOutB P = true) (hts : ∀ t ∈ fn.params.toList, P.readableRec t = true ∧ t < P.types.size) (hres : fn.resultTypes = #[tb]) (htb : P.underlying tb = some .bool)
    (hfn : s.fn H ds = { results := [.lit (.bool true)], args := ds })
    (hW : DataW.Whole enc P fn.params.toList s.vars false W args.toList ds gs before)
    (hv : RepL (fz0 W) vs args.toList) (hc : PCall P [] f vs (· = .bool true)) :
    Calls P f args W fun e W' => ∃ v, e = .returned v ∧ s.post enc P fn false fresh handsOn false W args v W' := by
  refine (hc (fz0 W) [] W args (st0 W) (args_g hv)).mono ?_
  rintro e W' ⟨v, r, E', F', σ', rfl, ⟨rfl, u, rfl, rfl⟩, hr, hs', st⟩
  simp only [LRep, Rep] at hr
  subst hr
  have hb := below_of st
  have hW' := hW
  obtain ⟨p, q, hA, hV, rfl, _, _⟩ := hW
  have hV' : DataW.TrodVars enc P W (fun _ => true) [] gs q := hvars ▸ hV
  obtain ⟨rfl, rfl⟩ := trodVars_none hV'
  refine ⟨_, rfl, ds, [], p ++ [], [], p, [], hW', ?_, ?_, ?_, hb.frame _, fun h => by cases h⟩
  · rw [List.append_nil, hfn, hres]
    exact ⟨[], [], ⟨1, by simp only [Value.cells]; unfold DataW.trod; rw [htb]⟩, rfl, rfl⟩
  · rw [List.append_nil, hfn]
    exact all_below hlaid hb hts hA fun x hx => by simpa using hW'.lt x (by simpa using hx)
  · rw [List.append_nil, hfn, hvars]
    exact rfl
end
end Go.Av

namespace Go.Av
set_option linter.unusedVariables false

theorem nds_of : ∀ {es : List (List V)}, (∀ e ∈ es, fits [true, false, false] e) → ∃ ns : List Nd, es = ns.map ndC ∧ ∀ n ∈ ns, okNd n
  | [], _ => ⟨[], rfl, by simp⟩
  | e :: es, h => by
    obtain ⟨ns, rfl, hns⟩ := nds_of (es := es) fun e he => h e (by simp [he])
    obtain ⟨v1, r1, rfl, h1, v2, r2, rfl, h2, v3, r3, rfl, h3, h4⟩ := h e (by simp)
    simp only [fits] at h4; subst h4
    cases v1 <;> simp only [fits1] at h1
    cases v2 <;> simp only [fits1] at h2
    cases v3 <;> simp only [fits1] at h3
    rename_i j k s t
    subst h1
    refine ⟨⟨k, s, t⟩ :: ns, rfl, fun n hn => ?_⟩
    rcases List.mem_cons.1 hn with rfl | hn
    · exact ⟨h2, h3⟩
    · exact hns n hn
theorem fcs_of : ∀ {es : List (List V)}, (∀ e ∈ es, fits [false, false, false, false] e) → ∃ ns : List Fc, es = ns.map fcC ∧ ∀ n ∈ ns, okFc n
  | [], _ => ⟨[], rfl, by simp⟩
  | e :: es, h => by
    obtain ⟨ns, rfl, hns⟩ := fcs_of (es := es) fun e he => h e (by simp [he])
    obtain ⟨v1, r1, rfl, h1, v2, r2, rfl, h2, v3, r3, rfl, h3, v4, r4, rfl, h4, h5⟩ := h e (by simp)
    simp only [fits] at h5; subst h5
    cases v1 <;> simp only [fits1] at h1
    cases v2 <;> simp only [fits1] at h2
    cases v3 <;> simp only [fits1] at h3
    cases v4 <;> simp only [fits1] at h4
    rename_i s1 s2 s3 s4
    refine ⟨⟨s1, s2, s3, s4⟩ :: ns, rfl, fun n hn => ?_⟩
    rcases List.mem_cons.1 hn with rfl | hn
    · exact ⟨h1, h2, h3, h4⟩
    · exact hns n hn
end Go.Av
namespace Go.Proofs.Ytfpdolhfomfgpaa.fnExactMeaning
open Go.ChangeShapes Go.WideShapes Go.ChangeAt Go.RowKit Go.Av
set_option linter.unusedVariables false

theorem own : ownKnob Try.prog.godebug = none := by kernel_rfl
theorem laidOut : laidOutB Try.prog = true := by kernel_rfl

set_option maxRecDepth 100000 in
theorem contract (H : Type) (enc : TypeId × Value → H) (W : World) (base : Nat) (args : Array Value) (ds gs : List (DataW H)) (before : List MemPlace)
    (hval : ∀ (j : Nat) t v, Try.f4.params[j]? = some t → args[j]? = some v → Value.okWide Try.prog W .any base t v)
    (hW : DataW.Whole enc Try.prog Try.f4.params.toList Rows.fnExactMeaningSpec.vars false W args.toList ds gs before)
    (hz : (DataW.weightsEach Try.prog (Try.f4.params.toList ++ Rows.fnExactMeaningSpec.plain.varTypes Try.prog) (ds ++ gs)).all (· ≤ reachBytes) = true) :
    Calls Try.prog 4 args W fun e W' => ∃ v, e = .returned v ∧ Rows.fnExactMeaningSpec.post enc Try.prog Try.f4 false true false false W args v W' := by
  have hW' := hW
  obtain ⟨p, q, hA0, hV, rfl, hfz, hnd⟩ := hW
  have hA : DataW.TrodAll enc Try.prog W 0 (fun _ => true) true Try.f4.params.toList args.toList ds p := hA0
  rw [Try.params4] at hA hval
  obtain ⟨v0, v1, d0, d1, p0, p1, rfl, rfl, rfl, h0, h1⟩ := trodAll_two hA
  obtain ⟨rfl, rfl⟩ := trodVars_none hV
  have hlight : ∀ {i : Nat} {t : TypeId} {d : DataW H}, (#[42, 43] : Array TypeId).toList[i]? = some t → [d0, d1][i]? = some d → light Try.prog t d := by
    intro i t d e1 e2 m hm
    have hm' : m ∈ DataW.weightsEach Try.prog (Try.f4.params.toList ++ Rows.fnExactMeaningSpec.plain.varTypes Try.prog) ([d0, d1] ++ []) := by
      refine each_mem (i := i) ?_ (by rw [List.append_nil]; exact e2) hm
      rw [Try.params4, List.getElem?_append_left (List.getElem?_eq_some_iff.1 e1).1]; exact e1
    have := List.all_eq_true.1 hz m hm'
    have hr : reachBytes = 140737488351232 := by kernel_rfl
    rw [hr] at this
    exact of_decide_eq_true this
  obtain ⟨cs, rfl, hcs⟩ := okWide_struct Try.underlying42 (hval 0 42 v0 rfl rfl)
  obtain ⟨sa, sl, sc, rfl⟩ := okWide_slice Try.underlying43 (hval 1 43 v1 rfl rfl)
  obtain ⟨n0, h0⟩ := h0
  obtain ⟨n1, h1⟩ := h1
  have l0 := hlight (i := 0) rfl rfl
  have l1 := hlight (i := 1) rfl rfl
  obtain ⟨es1, hr1, hf1⟩ := read_slice (ks := [false, false, false, false]) Try.underlying43 (by kernel_rfl) (by simp) l1 h1
  obtain ⟨xs, m, rfl, hx, hcl, hxl, hxs⟩ := DataW.trod_struct Try.underlying42 h0
  have hcell : Try.prog.cellsOf 42 = 1 := by kernel_rfl
  have hcell' : Try.prog.cellsOf 40 = 1 := by kernel_rfl
  have hx0 := hxs 0 _ rfl
  obtain ⟨sv, hsv⟩ : ∃ sv, cs.toList = [sv] := by
    have hl : cs.toList.length = 1 := by rw [← hcell]; exact hcl
    match hc : cs.toList, hl with
    | [sv], _ => exact ⟨sv, rfl⟩
  have hxl1 : xs.length = 1 := hxl
  rw [List.getElem?_eq_getElem (by omega)] at hx0
  change DataW.trod enc Try.prog W 0 (fun _ => true) true m 40 (((Value.agg cs).cells.toList.drop 0).take (Try.prog.cellsOf 40)) = _ at hx0
  rw [hcell', show (Value.agg cs).cells.toList = [sv] from hsv] at hx0
  obtain ⟨es0, hr0, hf0⟩ := read_slice (ks := [true, false, false]) Try.underlying40 (by kernel_rfl) (by simp) (fun mm hmm => l0 mm (by
    obtain ⟨rfl, _⟩ := Prod.mk.inj hx
    simp only [DataW.weights, Try.underlying42]
    refine each_mem (i := 0) (t := 40) rfl ?_ hmm
    rw [List.getElem?_map, List.getElem?_eq_getElem (by omega)]; rfl)) hx0
  obtain ⟨ns, rfl, hns⟩ := nds_of hf0
  obtain ⟨fs, rfl, hfs⟩ := fcs_of hf1
  exact law_post (tb := 4) rfl laidOut (by rw [Try.params4]; intro t ht; simp at ht; rcases ht with rfl | rfl <;> exact ⟨by kernel_rfl, of_decide_eq_true (by kernel_rfl)⟩) rfl Try.underlying4 rfl hW'
    (vs := [.agg [nds ns], fcs fs]) ⟨_, _, rfl, ⟨cs, rfl, by rw [hsv]; exact ⟨_, _, rfl, hr0, rfl⟩⟩, _, _, rfl, hr1, rfl⟩ (c4 ns fs hns hfs)

set_option maxRecDepth 100000 in
theorem lifted (os : Os) (started : os.Started) (H : Type) (enc : TypeId × Value → H) :
    ReturnsInHanded {} Try.checked os 4 .any (Rows.fnExactMeaningSpec.pre6 enc Try.prog Try.f4 Rows.fnExactMeaningRow.domain false) (Rows.fnExactMeaningSpec.post enc Try.prog Try.f4 false true false false) := by
  refine returnsInHanded_of_change_sized (C := Try.checked) own started (by kernel_rfl) Try.func4
    (ChangeSpec.witness6 (enc := enc) (C := Try.checked) false ⟨#[], #[.agg #[.slice none 0 0], .slice none 0 0], []⟩ 8 (by kernel_rfl) (by kernel_rfl) (by kernel_rfl) (by kernel_rfl)) ?_
  intro W base args ds gs before hval hW _ hz _
  exact contract H enc W base args ds gs before hval hW hz

theorem proved : Rows.FnExactMeaningSaid :=
  OpenClaim.holds_of_wide 4 Try.f4 rfl rfl rfl rfl rfl rfl rfl ⟨rfl, rfl, rfl, rfl, rfl⟩ rfl rfl rfl rfl rfl (by kernel_rfl) Try.func4 (by kernel_rfl)
    (of_decide_eq_true (by kernel_rfl)) (by unfold Func.isWrapper; first | (rw [if_pos (by decide +kernel)]; kernel_rfl) | (rw [if_neg (by decide +kernel)]; exact ⟨rfl, rfl⟩))
    (fun os started H enc _ => lifted os started H enc)
end Go.Proofs.Ytfpdolhfomfgpaa.fnExactMeaning
