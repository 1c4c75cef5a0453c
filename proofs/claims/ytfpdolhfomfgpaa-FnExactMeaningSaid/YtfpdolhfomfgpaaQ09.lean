/-
  Values at a distance from memory, states of a call, and contracts of functions over them. No condition.
-/
import Derived.Test.YtfpdolhfomfgpaaQ08
namespace Go.Av
set_option maxRecDepth 100000
set_option maxHeartbeats 8000000
set_option linter.unusedVariables false
set_option linter.unusedSimpArgs false


theorem c35_un (n : Nd) (a : T) (fs : List Fc) (lab : Option B) (g : B) (h : T.ok (.un n a)) (hl : (T.post (.un n a)).length ≤ 1000) (hfs : fs.length ≤ 1000) (hg : labS lab g)
    (ih : ∀ lab g, labS lab g → PCall prog [] 35 [nds a.post, fcs fs, labB lab, .str g] (· = strs (M fs a lab))) : PCall prog [] 35 [nds (a.post ++ [n]), fcs fs, labB lab, .str g] (· = strs (M fs (.un n a) lab)) := by
  refine PCall.enter mixed comp35 ?_
  have hfl : (fs.filter (inl lab)).length ≤ 1000 := Nat.le_trans (List.length_filter_le _ _) hfs
  have hML := M_len fs a lab
  obtain ⟨k, s, tt⟩ := n
  have hk := h.2.1
  dsimp only at hk
  rcases hk with rfl | rfl | rfl | rfl
  · dsimp only [ir35]
    (repeat (first | with_reducible refine And.intro trivial ?_ | with_reducible refine And.intro rfl ?_ | (with_reducible refine And.intro ?_ ?_; focus ((repeat' (first | with_reducible exact trivial | with_reducible exact rfl | (with_reducible apply And.intro) | exact in64 (by omega) (by omega) | omega)); done)) | dsimp only [go_sem, Nat.reduceAdd, Nat.reduceSub, Option.map, bne, BEq.beq, nds, fcs, T.kids, ndsC, strs] | simp only [sS, Int.cast_ofNat_Int, Int.reduceEq, Int.reduceLT, Int.reduceLE, Int.reduceAdd, Int.reduceSub, Int.reduceToNat]))
    refine cpe [] (c61 a.post ⟨3, s, tt⟩) rfl ?_
    dsimp only [ndC]
    (repeat (first | with_reducible refine And.intro trivial ?_ | with_reducible refine And.intro rfl ?_ | (with_reducible refine And.intro ?_ ?_; focus ((repeat' (first | with_reducible exact trivial | with_reducible exact rfl | (with_reducible apply And.intro) | exact in64 (by omega) (by omega) | omega)); done)) | dsimp only [go_sem, Nat.reduceAdd, Nat.reduceSub, Option.map, bne, BEq.beq, nds, fcs, T.kids, ndsC, strs] | simp only [sS, Int.cast_ofNat_Int, Int.reduceEq, Int.reduceLT, Int.reduceLE, Int.reduceAdd, Int.reduceSub, Int.reduceToNat]))
    refine cpe [] (c53 (.un ⟨3, s, tt⟩ a) h hl) rfl ?_
    (repeat (first | with_reducible refine And.intro trivial ?_ | with_reducible refine And.intro rfl ?_ | (with_reducible refine And.intro ?_ ?_; focus ((repeat' (first | with_reducible exact trivial | with_reducible exact rfl | (with_reducible apply And.intro) | exact in64 (by omega) (by omega) | omega)); done)) | dsimp only [go_sem, Nat.reduceAdd, Nat.reduceSub, Option.map, bne, BEq.beq, nds, fcs, T.kids, ndsC, strs] | simp only [sS, Int.cast_ofNat_Int, Int.reduceEq, Int.reduceLT, Int.reduceLE, Int.reduceAdd, Int.reduceSub, Int.reduceToNat]))
    refine cpe [] (ih lab g hg) rfl ?_
    (repeat (first | with_reducible refine And.intro trivial ?_ | with_reducible refine And.intro rfl ?_ | (with_reducible refine And.intro ?_ ?_; focus ((repeat' (first | with_reducible exact trivial | with_reducible exact rfl | (with_reducible apply And.intro) | exact in64 (by omega) (by omega) | omega)); done)) | dsimp only [go_sem, Nat.reduceAdd, Nat.reduceSub, Option.map, bne, BEq.beq, nds, fcs, T.kids, ndsC, strs] | simp only [sS, Int.cast_ofNat_Int, Int.reduceEq, Int.reduceLT, Int.reduceLE, Int.reduceAdd, Int.reduceSub, Int.reduceToNat]))
    refine cpe [] (c62 fs lab g hg hfs) rfl ?_
    (repeat (first | with_reducible refine And.intro trivial ?_ | with_reducible refine And.intro rfl ?_ | (with_reducible refine And.intro ?_ ?_; focus ((repeat' (first | with_reducible exact trivial | with_reducible exact rfl | (with_reducible apply And.intro) | exact in64 (by omega) (by omega) | omega)); done)) | dsimp only [go_sem, Nat.reduceAdd, Nat.reduceSub, Option.map, bne, BEq.beq, nds, fcs, T.kids, ndsC, strs] | simp only [sS, Int.cast_ofNat_Int, Int.reduceEq, Int.reduceLT, Int.reduceLE, Int.reduceAdd, Int.reduceSub, Int.reduceToNat]))
    have hM : M fs (.un ⟨3, s, tt⟩ a) lab = (fs.filter (inl lab)).foldl (step1 ⟨3, s, tt⟩ (M fs a lab)) [] := by rw [M]; simp
    generalize M fs a lab = A at *
    refine lpg [9, 12, 14] (fun i : Nat => [(11, .g (strs (accM ⟨3, s, tt⟩ A (fs.filter (inl lab)) i []))), (18, .g (.int .i64 i))]) (fun _ => [.cells [.g (.int .i64 3), .g (.str s), .g (.str tt)], .dead, .row false 1 [], .row false 1 []]) (fun i => i ≤ (fs.filter (inl lab)).length) (fun i => (fs.filter (inl lab)).length - i) 0 (Gh.trans (Gh.frz (.rw 1) 11 rfl) (Gh.sub [0, 1, 2, 3] rfl rfl)) ⟨rfl, rfl, trivial⟩ rfl (by omega) ?_
    intro i hi
    have hal := accM_len ⟨3, s, tt⟩ A (fs.filter (inl lab)) i [] hfl
    try simp only [List.length_nil] at hal
    generalize hacc : accM ⟨3, s, tt⟩ A (fs.filter (inl lab)) i [] = acc at *
    try dsimp only [strs] at *
    (repeat (first | with_reducible refine And.intro trivial ?_ | with_reducible refine And.intro rfl ?_ | (with_reducible refine And.intro ?_ ?_; focus ((repeat' (first | with_reducible exact trivial | with_reducible exact rfl | (with_reducible apply And.intro) | exact in64 (by omega) (by omega) | omega)); done)) | dsimp only [go_sem, Nat.reduceAdd, Nat.reduceSub, Option.map, bne, BEq.beq, nds, fcs, T.kids, ndsC, strs] | simp only [sS, Int.cast_ofNat_Int, Int.reduceEq, Int.reduceLT, Int.reduceLE, Int.reduceAdd, Int.reduceSub, Int.reduceToNat]))
    refine br (fun h1 => ?_) (fun h1 => ?_)
    · simp only [decide_eq_true_eq] at h1
      have hlt : i < (fs.filter (inl lab)).length := by omega
      have e1 := getD_at fcC (fs.filter (inl lab)) hlt
      have en := accM_next ⟨3, s, tt⟩ A (fs.filter (inl lab)) [] hlt
      rw [hacc] at en
      generalize hf : (fs.filter (inl lab))[i] = f at *
      (repeat (first | with_reducible refine And.intro trivial ?_ | with_reducible refine And.intro rfl ?_ | (with_reducible refine And.intro ?_ ?_; focus ((repeat' (first | with_reducible exact trivial | with_reducible exact rfl | (with_reducible apply And.intro) | exact in64 (by omega) (by omega) | omega)); done)) | dsimp only [go_sem, Nat.reduceAdd, Nat.reduceSub, Option.map, bne, BEq.beq, nds, fcs, T.kids, ndsC, strs] | simp only [sS, Int.cast_ofNat_Int, Int.reduceEq, Int.reduceLT, Int.reduceLE, Int.reduceAdd, Int.reduceSub, Int.reduceToNat]))
      simp only [e1, fcC]
      (repeat (first | with_reducible refine And.intro trivial ?_ | with_reducible refine And.intro rfl ?_ | (with_reducible refine And.intro ?_ ?_; focus ((repeat' (first | with_reducible exact trivial | with_reducible exact rfl | (with_reducible apply And.intro) | exact in64 (by omega) (by omega) | omega)); done)) | dsimp only [go_sem, Nat.reduceAdd, Nat.reduceSub, Option.map, bne, BEq.beq, nds, fcs, T.kids, ndsC, strs] | simp only [sS, Int.cast_ofNat_Int, Int.reduceEq, Int.reduceLT, Int.reduceLE, Int.reduceAdd, Int.reduceSub, Int.reduceToNat]))
      rcases (Decidable.em (f.p = s)) with d1 | d1
      · have hd : decide (f.p = s) = true := by simpa using d1
        (repeat (simp only [hd]; (repeat (first | with_reducible refine And.intro trivial ?_ | with_reducible refine And.intro rfl ?_ | (with_reducible refine And.intro ?_ ?_; focus ((repeat' (first | with_reducible exact trivial | with_reducible exact rfl | (with_reducible apply And.intro) | exact in64 (by omega) (by omega) | omega)); done)) | dsimp only [go_sem, Nat.reduceAdd, Nat.reduceSub, Option.map, bne, BEq.beq, nds, fcs, T.kids, ndsC, strs] | simp only [sS, Int.cast_ofNat_Int, Int.reduceEq, Int.reduceLT, Int.reduceLE, Int.reduceAdd, Int.reduceSub, Int.reduceToNat]))))
        refine cpe [] (c63 A f.s) rfl ?_
        (repeat (first | with_reducible refine And.intro trivial ?_ | with_reducible refine And.intro rfl ?_ | (with_reducible refine And.intro ?_ ?_; focus ((repeat' (first | with_reducible exact trivial | with_reducible exact rfl | (with_reducible apply And.intro) | exact in64 (by omega) (by omega) | omega)); done)) | dsimp only [go_sem, Nat.reduceAdd, Nat.reduceSub, Option.map, bne, BEq.beq, nds, fcs, T.kids, ndsC, strs] | simp only [sS, Int.cast_ofNat_Int, Int.reduceEq, Int.reduceLT, Int.reduceLE, Int.reduceAdd, Int.reduceSub, Int.reduceToNat]))
        rcases (Decidable.em (f.s ∈ A)) with d2 | d2
        · have hd2 : decide (f.s ∈ A) = true := by simpa using d2
          (repeat (simp only [hd, hd2]; (repeat (first | with_reducible refine And.intro trivial ?_ | with_reducible refine And.intro rfl ?_ | (with_reducible refine And.intro ?_ ?_; focus ((repeat' (first | with_reducible exact trivial | with_reducible exact rfl | (with_reducible apply And.intro) | exact in64 (by omega) (by omega) | omega)); done)) | dsimp only [go_sem, Nat.reduceAdd, Nat.reduceSub, Option.map, bne, BEq.beq, nds, fcs, T.kids, ndsC, strs] | simp only [sS, Int.cast_ofNat_Int, Int.reduceEq, Int.reduceLT, Int.reduceLE, Int.reduceAdd, Int.reduceSub, Int.reduceToNat]))))
          refine cpe [] (c64 acc f.o (by omega)) rfl ?_
          try dsimp only [strs]
          (repeat (first | with_reducible refine And.intro trivial ?_ | with_reducible refine And.intro rfl ?_ | (with_reducible refine And.intro ?_ ?_; focus ((repeat' (first | with_reducible exact trivial | with_reducible exact rfl | (with_reducible apply And.intro) | exact in64 (by omega) (by omega) | omega)); done)) | dsimp only [go_sem, Nat.reduceAdd, Nat.reduceSub, Option.map, bne, BEq.beq, nds, fcs, T.kids, ndsC, strs] | simp only [sS, Int.cast_ofNat_Int, Int.reduceEq, Int.reduceLT, Int.reduceLE, Int.reduceAdd, Int.reduceSub, Int.reduceToNat]))
          refine rndg (i + 1) (Gh.sub [0, 1, 2, 3] rfl rfl) ?_ ?_ ?_ ?_ (by omega) (by omega)
          · rfl
          · exact ⟨rfl, rfl, rfl, trivial⟩
          · exact ⟨by rw [en]; simp [step1, d1, d2]; rfl, rfl, trivial⟩
          · rfl
        · have hd2 : decide (f.s ∈ A) = false := by simpa using d2
          (repeat (simp only [hd, hd2]; (repeat (first | with_reducible refine And.intro trivial ?_ | with_reducible refine And.intro rfl ?_ | (with_reducible refine And.intro ?_ ?_; focus ((repeat' (first | with_reducible exact trivial | with_reducible exact rfl | (with_reducible apply And.intro) | exact in64 (by omega) (by omega) | omega)); done)) | dsimp only [go_sem, Nat.reduceAdd, Nat.reduceSub, Option.map, bne, BEq.beq, nds, fcs, T.kids, ndsC, strs] | simp only [sS, Int.cast_ofNat_Int, Int.reduceEq, Int.reduceLT, Int.reduceLE, Int.reduceAdd, Int.reduceSub, Int.reduceToNat]))))
          refine rndg (i + 1) (Gh.sub [0, 1, 2, 3] rfl rfl) ?_ ?_ ?_ ?_ (by omega) (by omega)
          · rfl
          · exact ⟨rfl, rfl, rfl, trivial⟩
          · exact ⟨by rw [en]; simp [step1, d1, d2]; rfl, rfl, trivial⟩
          · rfl
      · have hd : decide (f.p = s) = false := by simpa using d1
        (repeat (simp only [hd]; (repeat (first | with_reducible refine And.intro trivial ?_ | with_reducible refine And.intro rfl ?_ | (with_reducible refine And.intro ?_ ?_; focus ((repeat' (first | with_reducible exact trivial | with_reducible exact rfl | (with_reducible apply And.intro) | exact in64 (by omega) (by omega) | omega)); done)) | dsimp only [go_sem, Nat.reduceAdd, Nat.reduceSub, Option.map, bne, BEq.beq, nds, fcs, T.kids, ndsC, strs] | simp only [sS, Int.cast_ofNat_Int, Int.reduceEq, Int.reduceLT, Int.reduceLE, Int.reduceAdd, Int.reduceSub, Int.reduceToNat]))))
        refine rndg (i + 1) (Gh.sub [0, 1, 2, 3] rfl rfl) ?_ ?_ ?_ ?_ (by omega) (by omega)
        · rfl
        · exact ⟨rfl, rfl, rfl, trivial⟩
        · exact ⟨by rw [en]; simp [step1, d1]; rfl, rfl, trivial⟩
        · rfl
    · simp only [decide_eq_false_iff_not] at h1
      obtain rfl : i = (fs.filter (inl lab)).length := by omega
      rw [accM_end] at hacc
      (repeat (first | with_reducible refine And.intro trivial ?_ | with_reducible refine And.intro rfl ?_ | (with_reducible refine And.intro ?_ ?_; focus ((repeat' (first | with_reducible exact trivial | with_reducible exact rfl | (with_reducible apply And.intro) | exact in64 (by omega) (by omega) | omega)); done)) | dsimp only [go_sem, Nat.reduceAdd, Nat.reduceSub, Option.map, bne, BEq.beq, nds, fcs, T.kids, ndsC, strs] | simp only [sS, Int.cast_ofNat_Int, Int.reduceEq, Int.reduceLT, Int.reduceLE, Int.reduceAdd, Int.reduceSub, Int.reduceToNat]))
      refine fin0 ?_; (repeat (first | with_reducible refine And.intro trivial ?_ | with_reducible refine And.intro rfl ?_ | (with_reducible refine And.intro ?_ ?_; focus ((repeat' (first | with_reducible exact trivial | with_reducible exact rfl | (with_reducible apply And.intro) | exact in64 (by omega) (by omega) | omega)); done)) | dsimp only [go_sem, Nat.reduceAdd, Nat.reduceSub, Option.map, bne, BEq.beq, nds, fcs, T.kids, ndsC, strs] | simp only [sS, Int.cast_ofNat_Int, Int.reduceEq, Int.reduceLT, Int.reduceLE, Int.reduceAdd, Int.reduceSub, Int.reduceToNat]))
      rw [← hacc, hM]
  · dsimp only [ir35]
    (repeat (first | with_reducible refine And.intro trivial ?_ | with_reducible refine And.intro rfl ?_ | (with_reducible refine And.intro ?_ ?_; focus ((repeat' (first | with_reducible exact trivial | with_reducible exact rfl | (with_reducible apply And.intro) | exact in64 (by omega) (by omega) | omega)); done)) | dsimp only [go_sem, Nat.reduceAdd, Nat.reduceSub, Option.map, bne, BEq.beq, nds, fcs, T.kids, ndsC, strs] | simp only [sS, Int.cast_ofNat_Int, Int.reduceEq, Int.reduceLT, Int.reduceLE, Int.reduceAdd, Int.reduceSub, Int.reduceToNat]))
    refine cpe [] (c61 a.post ⟨4, s, tt⟩) rfl ?_
    dsimp only [ndC]
    (repeat (first | with_reducible refine And.intro trivial ?_ | with_reducible refine And.intro rfl ?_ | (with_reducible refine And.intro ?_ ?_; focus ((repeat' (first | with_reducible exact trivial | with_reducible exact rfl | (with_reducible apply And.intro) | exact in64 (by omega) (by omega) | omega)); done)) | dsimp only [go_sem, Nat.reduceAdd, Nat.reduceSub, Option.map, bne, BEq.beq, nds, fcs, T.kids, ndsC, strs] | simp only [sS, Int.cast_ofNat_Int, Int.reduceEq, Int.reduceLT, Int.reduceLE, Int.reduceAdd, Int.reduceSub, Int.reduceToNat]))
    refine cpe [] (c53 (.un ⟨4, s, tt⟩ a) h hl) rfl ?_
    (repeat (first | with_reducible refine And.intro trivial ?_ | with_reducible refine And.intro rfl ?_ | (with_reducible refine And.intro ?_ ?_; focus ((repeat' (first | with_reducible exact trivial | with_reducible exact rfl | (with_reducible apply And.intro) | exact in64 (by omega) (by omega) | omega)); done)) | dsimp only [go_sem, Nat.reduceAdd, Nat.reduceSub, Option.map, bne, BEq.beq, nds, fcs, T.kids, ndsC, strs] | simp only [sS, Int.cast_ofNat_Int, Int.reduceEq, Int.reduceLT, Int.reduceLE, Int.reduceAdd, Int.reduceSub, Int.reduceToNat]))
    refine cpe [] (ih lab g hg) rfl ?_
    (repeat (first | with_reducible refine And.intro trivial ?_ | with_reducible refine And.intro rfl ?_ | (with_reducible refine And.intro ?_ ?_; focus ((repeat' (first | with_reducible exact trivial | with_reducible exact rfl | (with_reducible apply And.intro) | exact in64 (by omega) (by omega) | omega)); done)) | dsimp only [go_sem, Nat.reduceAdd, Nat.reduceSub, Option.map, bne, BEq.beq, nds, fcs, T.kids, ndsC, strs] | simp only [sS, Int.cast_ofNat_Int, Int.reduceEq, Int.reduceLT, Int.reduceLE, Int.reduceAdd, Int.reduceSub, Int.reduceToNat]))
    refine cpe [] (c62 fs lab g hg hfs) rfl ?_
    (repeat (first | with_reducible refine And.intro trivial ?_ | with_reducible refine And.intro rfl ?_ | (with_reducible refine And.intro ?_ ?_; focus ((repeat' (first | with_reducible exact trivial | with_reducible exact rfl | (with_reducible apply And.intro) | exact in64 (by omega) (by omega) | omega)); done)) | dsimp only [go_sem, Nat.reduceAdd, Nat.reduceSub, Option.map, bne, BEq.beq, nds, fcs, T.kids, ndsC, strs] | simp only [sS, Int.cast_ofNat_Int, Int.reduceEq, Int.reduceLT, Int.reduceLE, Int.reduceAdd, Int.reduceSub, Int.reduceToNat]))
    have hM : M fs (.un ⟨4, s, tt⟩ a) lab = (fs.filter (inl lab)).foldl (step1 ⟨4, s, tt⟩ (M fs a lab)) [] := by rw [M]; simp
    generalize M fs a lab = A at *
    refine lpg [9, 12, 14] (fun i : Nat => [(11, .g (strs (accM ⟨4, s, tt⟩ A (fs.filter (inl lab)) i []))), (18, .g (.int .i64 i))]) (fun _ => [.cells [.g (.int .i64 4), .g (.str s), .g (.str tt)], .dead, .row false 1 [], .row false 1 []]) (fun i => i ≤ (fs.filter (inl lab)).length) (fun i => (fs.filter (inl lab)).length - i) 0 (Gh.trans (Gh.frz (.rw 1) 11 rfl) (Gh.sub [0, 1, 2, 3] rfl rfl)) ⟨rfl, rfl, trivial⟩ rfl (by omega) ?_
    intro i hi
    have hal := accM_len ⟨4, s, tt⟩ A (fs.filter (inl lab)) i [] hfl
    try simp only [List.length_nil] at hal
    generalize hacc : accM ⟨4, s, tt⟩ A (fs.filter (inl lab)) i [] = acc at *
    try dsimp only [strs] at *
    (repeat (first | with_reducible refine And.intro trivial ?_ | with_reducible refine And.intro rfl ?_ | (with_reducible refine And.intro ?_ ?_; focus ((repeat' (first | with_reducible exact trivial | with_reducible exact rfl | (with_reducible apply And.intro) | exact in64 (by omega) (by omega) | omega)); done)) | dsimp only [go_sem, Nat.reduceAdd, Nat.reduceSub, Option.map, bne, BEq.beq, nds, fcs, T.kids, ndsC, strs] | simp only [sS, Int.cast_ofNat_Int, Int.reduceEq, Int.reduceLT, Int.reduceLE, Int.reduceAdd, Int.reduceSub, Int.reduceToNat]))
    refine br (fun h1 => ?_) (fun h1 => ?_)
    · simp only [decide_eq_true_eq] at h1
      have hlt : i < (fs.filter (inl lab)).length := by omega
      have e1 := getD_at fcC (fs.filter (inl lab)) hlt
      have en := accM_next ⟨4, s, tt⟩ A (fs.filter (inl lab)) [] hlt
      rw [hacc] at en
      generalize hf : (fs.filter (inl lab))[i] = f at *
      (repeat (first | with_reducible refine And.intro trivial ?_ | with_reducible refine And.intro rfl ?_ | (with_reducible refine And.intro ?_ ?_; focus ((repeat' (first | with_reducible exact trivial | with_reducible exact rfl | (with_reducible apply And.intro) | exact in64 (by omega) (by omega) | omega)); done)) | dsimp only [go_sem, Nat.reduceAdd, Nat.reduceSub, Option.map, bne, BEq.beq, nds, fcs, T.kids, ndsC, strs] | simp only [sS, Int.cast_ofNat_Int, Int.reduceEq, Int.reduceLT, Int.reduceLE, Int.reduceAdd, Int.reduceSub, Int.reduceToNat]))
      simp only [e1, fcC]
      (repeat (first | with_reducible refine And.intro trivial ?_ | with_reducible refine And.intro rfl ?_ | (with_reducible refine And.intro ?_ ?_; focus ((repeat' (first | with_reducible exact trivial | with_reducible exact rfl | (with_reducible apply And.intro) | exact in64 (by omega) (by omega) | omega)); done)) | dsimp only [go_sem, Nat.reduceAdd, Nat.reduceSub, Option.map, bne, BEq.beq, nds, fcs, T.kids, ndsC, strs] | simp only [sS, Int.cast_ofNat_Int, Int.reduceEq, Int.reduceLT, Int.reduceLE, Int.reduceAdd, Int.reduceSub, Int.reduceToNat]))
      rcases (Decidable.em (f.p = s)) with d1 | d1
      · have hd : decide (f.p = s) = true := by simpa using d1
        (repeat (simp only [hd]; (repeat (first | with_reducible refine And.intro trivial ?_ | with_reducible refine And.intro rfl ?_ | (with_reducible refine And.intro ?_ ?_; focus ((repeat' (first | with_reducible exact trivial | with_reducible exact rfl | (with_reducible apply And.intro) | exact in64 (by omega) (by omega) | omega)); done)) | dsimp only [go_sem, Nat.reduceAdd, Nat.reduceSub, Option.map, bne, BEq.beq, nds, fcs, T.kids, ndsC, strs] | simp only [sS, Int.cast_ofNat_Int, Int.reduceEq, Int.reduceLT, Int.reduceLE, Int.reduceAdd, Int.reduceSub, Int.reduceToNat]))))
        refine cpe [] (c63 A f.o) rfl ?_
        (repeat (first | with_reducible refine And.intro trivial ?_ | with_reducible refine And.intro rfl ?_ | (with_reducible refine And.intro ?_ ?_; focus ((repeat' (first | with_reducible exact trivial | with_reducible exact rfl | (with_reducible apply And.intro) | exact in64 (by omega) (by omega) | omega)); done)) | dsimp only [go_sem, Nat.reduceAdd, Nat.reduceSub, Option.map, bne, BEq.beq, nds, fcs, T.kids, ndsC, strs] | simp only [sS, Int.cast_ofNat_Int, Int.reduceEq, Int.reduceLT, Int.reduceLE, Int.reduceAdd, Int.reduceSub, Int.reduceToNat]))
        rcases (Decidable.em (f.o ∈ A)) with d2 | d2
        · have hd2 : decide (f.o ∈ A) = true := by simpa using d2
          (repeat (simp only [hd, hd2]; (repeat (first | with_reducible refine And.intro trivial ?_ | with_reducible refine And.intro rfl ?_ | (with_reducible refine And.intro ?_ ?_; focus ((repeat' (first | with_reducible exact trivial | with_reducible exact rfl | (with_reducible apply And.intro) | exact in64 (by omega) (by omega) | omega)); done)) | dsimp only [go_sem, Nat.reduceAdd, Nat.reduceSub, Option.map, bne, BEq.beq, nds, fcs, T.kids, ndsC, strs] | simp only [sS, Int.cast_ofNat_Int, Int.reduceEq, Int.reduceLT, Int.reduceLE, Int.reduceAdd, Int.reduceSub, Int.reduceToNat]))))
          refine cpe [] (c64 acc f.s (by omega)) rfl ?_
          try dsimp only [strs]
          (repeat (first | with_reducible refine And.intro trivial ?_ | with_reducible refine And.intro rfl ?_ | (with_reducible refine And.intro ?_ ?_; focus ((repeat' (first | with_reducible exact trivial | with_reducible exact rfl | (with_reducible apply And.intro) | exact in64 (by omega) (by omega) | omega)); done)) | dsimp only [go_sem, Nat.reduceAdd, Nat.reduceSub, Option.map, bne, BEq.beq, nds, fcs, T.kids, ndsC, strs] | simp only [sS, Int.cast_ofNat_Int, Int.reduceEq, Int.reduceLT, Int.reduceLE, Int.reduceAdd, Int.reduceSub, Int.reduceToNat]))
          refine rndg (i + 1) (Gh.sub [0, 1, 2, 3] rfl rfl) ?_ ?_ ?_ ?_ (by omega) (by omega)
          · rfl
          · exact ⟨rfl, rfl, rfl, trivial⟩
          · exact ⟨by rw [en]; simp [step1, d1, d2]; rfl, rfl, trivial⟩
          · rfl
        · have hd2 : decide (f.o ∈ A) = false := by simpa using d2
          (repeat (simp only [hd, hd2]; (repeat (first | with_reducible refine And.intro trivial ?_ | with_reducible refine And.intro rfl ?_ | (with_reducible refine And.intro ?_ ?_; focus ((repeat' (first | with_reducible exact trivial | with_reducible exact rfl | (with_reducible apply And.intro) | exact in64 (by omega) (by omega) | omega)); done)) | dsimp only [go_sem, Nat.reduceAdd, Nat.reduceSub, Option.map, bne, BEq.beq, nds, fcs, T.kids, ndsC, strs] | simp only [sS, Int.cast_ofNat_Int, Int.reduceEq, Int.reduceLT, Int.reduceLE, Int.reduceAdd, Int.reduceSub, Int.reduceToNat]))))
          refine rndg (i + 1) (Gh.sub [0, 1, 2, 3] rfl rfl) ?_ ?_ ?_ ?_ (by omega) (by omega)
          · rfl
          · exact ⟨rfl, rfl, rfl, trivial⟩
          · exact ⟨by rw [en]; simp [step1, d1, d2]; rfl, rfl, trivial⟩
          · rfl
      · have hd : decide (f.p = s) = false := by simpa using d1
        (repeat (simp only [hd]; (repeat (first | with_reducible refine And.intro trivial ?_ | with_reducible refine And.intro rfl ?_ | (with_reducible refine And.intro ?_ ?_; focus ((repeat' (first | with_reducible exact trivial | with_reducible exact rfl | (with_reducible apply And.intro) | exact in64 (by omega) (by omega) | omega)); done)) | dsimp only [go_sem, Nat.reduceAdd, Nat.reduceSub, Option.map, bne, BEq.beq, nds, fcs, T.kids, ndsC, strs] | simp only [sS, Int.cast_ofNat_Int, Int.reduceEq, Int.reduceLT, Int.reduceLE, Int.reduceAdd, Int.reduceSub, Int.reduceToNat]))))
        refine rndg (i + 1) (Gh.sub [0, 1, 2, 3] rfl rfl) ?_ ?_ ?_ ?_ (by omega) (by omega)
        · rfl
        · exact ⟨rfl, rfl, rfl, trivial⟩
        · exact ⟨by rw [en]; simp [step1, d1]; rfl, rfl, trivial⟩
        · rfl
    · simp only [decide_eq_false_iff_not] at h1
      obtain rfl : i = (fs.filter (inl lab)).length := by omega
      rw [accM_end] at hacc
      (repeat (first | with_reducible refine And.intro trivial ?_ | with_reducible refine And.intro rfl ?_ | (with_reducible refine And.intro ?_ ?_; focus ((repeat' (first | with_reducible exact trivial | with_reducible exact rfl | (with_reducible apply And.intro) | exact in64 (by omega) (by omega) | omega)); done)) | dsimp only [go_sem, Nat.reduceAdd, Nat.reduceSub, Option.map, bne, BEq.beq, nds, fcs, T.kids, ndsC, strs] | simp only [sS, Int.cast_ofNat_Int, Int.reduceEq, Int.reduceLT, Int.reduceLE, Int.reduceAdd, Int.reduceSub, Int.reduceToNat]))
      refine fin0 ?_; (repeat (first | with_reducible refine And.intro trivial ?_ | with_reducible refine And.intro rfl ?_ | (with_reducible refine And.intro ?_ ?_; focus ((repeat' (first | with_reducible exact trivial | with_reducible exact rfl | (with_reducible apply And.intro) | exact in64 (by omega) (by omega) | omega)); done)) | dsimp only [go_sem, Nat.reduceAdd, Nat.reduceSub, Option.map, bne, BEq.beq, nds, fcs, T.kids, ndsC, strs] | simp only [sS, Int.cast_ofNat_Int, Int.reduceEq, Int.reduceLT, Int.reduceLE, Int.reduceAdd, Int.reduceSub, Int.reduceToNat]))
      rw [← hacc, hM]
  · dsimp only [ir35]
    (repeat (first | with_reducible refine And.intro trivial ?_ | with_reducible refine And.intro rfl ?_ | (with_reducible refine And.intro ?_ ?_; focus ((repeat' (first | with_reducible exact trivial | with_reducible exact rfl | (with_reducible apply And.intro) | exact in64 (by omega) (by omega) | omega)); done)) | dsimp only [go_sem, Nat.reduceAdd, Nat.reduceSub, Option.map, bne, BEq.beq, nds, fcs, T.kids, ndsC, strs] | simp only [sS, Int.cast_ofNat_Int, Int.reduceEq, Int.reduceLT, Int.reduceLE, Int.reduceAdd, Int.reduceSub, Int.reduceToNat]))
    refine cpe [] (c61 a.post ⟨5, s, tt⟩) rfl ?_
    dsimp only [ndC]
    (repeat (first | with_reducible refine And.intro trivial ?_ | with_reducible refine And.intro rfl ?_ | (with_reducible refine And.intro ?_ ?_; focus ((repeat' (first | with_reducible exact trivial | with_reducible exact rfl | (with_reducible apply And.intro) | exact in64 (by omega) (by omega) | omega)); done)) | dsimp only [go_sem, Nat.reduceAdd, Nat.reduceSub, Option.map, bne, BEq.beq, nds, fcs, T.kids, ndsC, strs] | simp only [sS, Int.cast_ofNat_Int, Int.reduceEq, Int.reduceLT, Int.reduceLE, Int.reduceAdd, Int.reduceSub, Int.reduceToNat]))
    refine cpe [] (c53 (.un ⟨5, s, tt⟩ a) h hl) rfl ?_
    (repeat (first | with_reducible refine And.intro trivial ?_ | with_reducible refine And.intro rfl ?_ | (with_reducible refine And.intro ?_ ?_; focus ((repeat' (first | with_reducible exact trivial | with_reducible exact rfl | (with_reducible apply And.intro) | exact in64 (by omega) (by omega) | omega)); done)) | dsimp only [go_sem, Nat.reduceAdd, Nat.reduceSub, Option.map, bne, BEq.beq, nds, fcs, T.kids, ndsC, strs] | simp only [sS, Int.cast_ofNat_Int, Int.reduceEq, Int.reduceLT, Int.reduceLE, Int.reduceAdd, Int.reduceSub, Int.reduceToNat]))
    refine cpe [] (ih lab g hg) rfl ?_
    (repeat (first | with_reducible refine And.intro trivial ?_ | with_reducible refine And.intro rfl ?_ | (with_reducible refine And.intro ?_ ?_; focus ((repeat' (first | with_reducible exact trivial | with_reducible exact rfl | (with_reducible apply And.intro) | exact in64 (by omega) (by omega) | omega)); done)) | dsimp only [go_sem, Nat.reduceAdd, Nat.reduceSub, Option.map, bne, BEq.beq, nds, fcs, T.kids, ndsC, strs] | simp only [sS, Int.cast_ofNat_Int, Int.reduceEq, Int.reduceLT, Int.reduceLE, Int.reduceAdd, Int.reduceSub, Int.reduceToNat]))
    refine cpe [] (c62 fs lab g hg hfs) rfl ?_
    (repeat (first | with_reducible refine And.intro trivial ?_ | with_reducible refine And.intro rfl ?_ | (with_reducible refine And.intro ?_ ?_; focus ((repeat' (first | with_reducible exact trivial | with_reducible exact rfl | (with_reducible apply And.intro) | exact in64 (by omega) (by omega) | omega)); done)) | dsimp only [go_sem, Nat.reduceAdd, Nat.reduceSub, Option.map, bne, BEq.beq, nds, fcs, T.kids, ndsC, strs] | simp only [sS, Int.cast_ofNat_Int, Int.reduceEq, Int.reduceLT, Int.reduceLE, Int.reduceAdd, Int.reduceSub, Int.reduceToNat]))
    have hM : M fs (.un ⟨5, s, tt⟩ a) lab = (fs.filter (inl lab)).foldl (step1 ⟨5, s, tt⟩ (M fs a lab)) [] := by rw [M]; simp
    generalize M fs a lab = A at *
    refine lpg [9, 12, 14] (fun i : Nat => [(11, .g (strs (accM ⟨5, s, tt⟩ A (fs.filter (inl lab)) i []))), (18, .g (.int .i64 i))]) (fun _ => [.cells [.g (.int .i64 5), .g (.str s), .g (.str tt)], .dead, .row false 1 [], .row false 1 []]) (fun i => i ≤ (fs.filter (inl lab)).length) (fun i => (fs.filter (inl lab)).length - i) 0 (Gh.trans (Gh.frz (.rw 1) 11 rfl) (Gh.sub [0, 1, 2, 3] rfl rfl)) ⟨rfl, rfl, trivial⟩ rfl (by omega) ?_
    intro i hi
    have hal := accM_len ⟨5, s, tt⟩ A (fs.filter (inl lab)) i [] hfl
    try simp only [List.length_nil] at hal
    generalize hacc : accM ⟨5, s, tt⟩ A (fs.filter (inl lab)) i [] = acc at *
    try dsimp only [strs] at *
    (repeat (first | with_reducible refine And.intro trivial ?_ | with_reducible refine And.intro rfl ?_ | (with_reducible refine And.intro ?_ ?_; focus ((repeat' (first | with_reducible exact trivial | with_reducible exact rfl | (with_reducible apply And.intro) | exact in64 (by omega) (by omega) | omega)); done)) | dsimp only [go_sem, Nat.reduceAdd, Nat.reduceSub, Option.map, bne, BEq.beq, nds, fcs, T.kids, ndsC, strs] | simp only [sS, Int.cast_ofNat_Int, Int.reduceEq, Int.reduceLT, Int.reduceLE, Int.reduceAdd, Int.reduceSub, Int.reduceToNat]))
    refine br (fun h1 => ?_) (fun h1 => ?_)
    · simp only [decide_eq_true_eq] at h1
      have hlt : i < (fs.filter (inl lab)).length := by omega
      have e1 := getD_at fcC (fs.filter (inl lab)) hlt
      have en := accM_next ⟨5, s, tt⟩ A (fs.filter (inl lab)) [] hlt
      rw [hacc] at en
      generalize hf : (fs.filter (inl lab))[i] = f at *
      (repeat (first | with_reducible refine And.intro trivial ?_ | with_reducible refine And.intro rfl ?_ | (with_reducible refine And.intro ?_ ?_; focus ((repeat' (first | with_reducible exact trivial | with_reducible exact rfl | (with_reducible apply And.intro) | exact in64 (by omega) (by omega) | omega)); done)) | dsimp only [go_sem, Nat.reduceAdd, Nat.reduceSub, Option.map, bne, BEq.beq, nds, fcs, T.kids, ndsC, strs] | simp only [sS, Int.cast_ofNat_Int, Int.reduceEq, Int.reduceLT, Int.reduceLE, Int.reduceAdd, Int.reduceSub, Int.reduceToNat]))
      simp only [e1, fcC]
      (repeat (first | with_reducible refine And.intro trivial ?_ | with_reducible refine And.intro rfl ?_ | (with_reducible refine And.intro ?_ ?_; focus ((repeat' (first | with_reducible exact trivial | with_reducible exact rfl | (with_reducible apply And.intro) | exact in64 (by omega) (by omega) | omega)); done)) | dsimp only [go_sem, Nat.reduceAdd, Nat.reduceSub, Option.map, bne, BEq.beq, nds, fcs, T.kids, ndsC, strs] | simp only [sS, Int.cast_ofNat_Int, Int.reduceEq, Int.reduceLT, Int.reduceLE, Int.reduceAdd, Int.reduceSub, Int.reduceToNat]))
      rcases (Decidable.em (f.p = s)) with d1 | d1
      · have hd : decide (f.p = s) = true := by simpa using d1
        (repeat (simp only [hd]; (repeat (first | with_reducible refine And.intro trivial ?_ | with_reducible refine And.intro rfl ?_ | (with_reducible refine And.intro ?_ ?_; focus ((repeat' (first | with_reducible exact trivial | with_reducible exact rfl | (with_reducible apply And.intro) | exact in64 (by omega) (by omega) | omega)); done)) | dsimp only [go_sem, Nat.reduceAdd, Nat.reduceSub, Option.map, bne, BEq.beq, nds, fcs, T.kids, ndsC, strs] | simp only [sS, Int.cast_ofNat_Int, Int.reduceEq, Int.reduceLT, Int.reduceLE, Int.reduceAdd, Int.reduceSub, Int.reduceToNat]))))
        rcases (Decidable.em (f.o = tt)) with d3 | d3
        · have hd3 : decide (f.o = tt) = true := by simpa using d3
          (repeat (simp only [hd, hd3]; (repeat (first | with_reducible refine And.intro trivial ?_ | with_reducible refine And.intro rfl ?_ | (with_reducible refine And.intro ?_ ?_; focus ((repeat' (first | with_reducible exact trivial | with_reducible exact rfl | (with_reducible apply And.intro) | exact in64 (by omega) (by omega) | omega)); done)) | dsimp only [go_sem, Nat.reduceAdd, Nat.reduceSub, Option.map, bne, BEq.beq, nds, fcs, T.kids, ndsC, strs] | simp only [sS, Int.cast_ofNat_Int, Int.reduceEq, Int.reduceLT, Int.reduceLE, Int.reduceAdd, Int.reduceSub, Int.reduceToNat]))))
          refine cpe [] (c63 A f.s) rfl ?_
          (repeat (first | with_reducible refine And.intro trivial ?_ | with_reducible refine And.intro rfl ?_ | (with_reducible refine And.intro ?_ ?_; focus ((repeat' (first | with_reducible exact trivial | with_reducible exact rfl | (with_reducible apply And.intro) | exact in64 (by omega) (by omega) | omega)); done)) | dsimp only [go_sem, Nat.reduceAdd, Nat.reduceSub, Option.map, bne, BEq.beq, nds, fcs, T.kids, ndsC, strs] | simp only [sS, Int.cast_ofNat_Int, Int.reduceEq, Int.reduceLT, Int.reduceLE, Int.reduceAdd, Int.reduceSub, Int.reduceToNat]))
          rcases (Decidable.em (f.s ∈ A)) with d2 | d2
          · have hd2 : decide (f.s ∈ A) = true := by simpa using d2
            (repeat (simp only [hd, hd2, hd3]; (repeat (first | with_reducible refine And.intro trivial ?_ | with_reducible refine And.intro rfl ?_ | (with_reducible refine And.intro ?_ ?_; focus ((repeat' (first | with_reducible exact trivial | with_reducible exact rfl | (with_reducible apply And.intro) | exact in64 (by omega) (by omega) | omega)); done)) | dsimp only [go_sem, Nat.reduceAdd, Nat.reduceSub, Option.map, bne, BEq.beq, nds, fcs, T.kids, ndsC, strs] | simp only [sS, Int.cast_ofNat_Int, Int.reduceEq, Int.reduceLT, Int.reduceLE, Int.reduceAdd, Int.reduceSub, Int.reduceToNat]))))
            refine cpe [] (c64 acc f.s (by omega)) rfl ?_
            try dsimp only [strs]
            (repeat (first | with_reducible refine And.intro trivial ?_ | with_reducible refine And.intro rfl ?_ | (with_reducible refine And.intro ?_ ?_; focus ((repeat' (first | with_reducible exact trivial | with_reducible exact rfl | (with_reducible apply And.intro) | exact in64 (by omega) (by omega) | omega)); done)) | dsimp only [go_sem, Nat.reduceAdd, Nat.reduceSub, Option.map, bne, BEq.beq, nds, fcs, T.kids, ndsC, strs] | simp only [sS, Int.cast_ofNat_Int, Int.reduceEq, Int.reduceLT, Int.reduceLE, Int.reduceAdd, Int.reduceSub, Int.reduceToNat]))
            refine rndg (i + 1) (Gh.sub [0, 1, 2, 3] rfl rfl) ?_ ?_ ?_ ?_ (by omega) (by omega)
            · rfl
            · exact ⟨rfl, rfl, rfl, trivial⟩
            · exact ⟨by rw [en]; simp [step1, d1, d2, d3]; rfl, rfl, trivial⟩
            · rfl
          · have hd2 : decide (f.s ∈ A) = false := by simpa using d2
            (repeat (simp only [hd, hd2, hd3]; (repeat (first | with_reducible refine And.intro trivial ?_ | with_reducible refine And.intro rfl ?_ | (with_reducible refine And.intro ?_ ?_; focus ((repeat' (first | with_reducible exact trivial | with_reducible exact rfl | (with_reducible apply And.intro) | exact in64 (by omega) (by omega) | omega)); done)) | dsimp only [go_sem, Nat.reduceAdd, Nat.reduceSub, Option.map, bne, BEq.beq, nds, fcs, T.kids, ndsC, strs] | simp only [sS, Int.cast_ofNat_Int, Int.reduceEq, Int.reduceLT, Int.reduceLE, Int.reduceAdd, Int.reduceSub, Int.reduceToNat]))))
            refine rndg (i + 1) (Gh.sub [0, 1, 2, 3] rfl rfl) ?_ ?_ ?_ ?_ (by omega) (by omega)
            · rfl
            · exact ⟨rfl, rfl, rfl, trivial⟩
            · exact ⟨by rw [en]; simp [step1, d1, d2, d3]; rfl, rfl, trivial⟩
            · rfl
        · have hd3 : decide (f.o = tt) = false := by simpa using d3
          (repeat (simp only [hd, hd3]; (repeat (first | with_reducible refine And.intro trivial ?_ | with_reducible refine And.intro rfl ?_ | (with_reducible refine And.intro ?_ ?_; focus ((repeat' (first | with_reducible exact trivial | with_reducible exact rfl | (with_reducible apply And.intro) | exact in64 (by omega) (by omega) | omega)); done)) | dsimp only [go_sem, Nat.reduceAdd, Nat.reduceSub, Option.map, bne, BEq.beq, nds, fcs, T.kids, ndsC, strs] | simp only [sS, Int.cast_ofNat_Int, Int.reduceEq, Int.reduceLT, Int.reduceLE, Int.reduceAdd, Int.reduceSub, Int.reduceToNat]))))
          refine rndg (i + 1) (Gh.sub [0, 1, 2, 3] rfl rfl) ?_ ?_ ?_ ?_ (by omega) (by omega)
          · rfl
          · exact ⟨rfl, rfl, rfl, trivial⟩
          · exact ⟨by rw [en]; simp [step1, d1, d3]; rfl, rfl, trivial⟩
          · rfl
      · have hd : decide (f.p = s) = false := by simpa using d1
        (repeat (simp only [hd]; (repeat (first | with_reducible refine And.intro trivial ?_ | with_reducible refine And.intro rfl ?_ | (with_reducible refine And.intro ?_ ?_; focus ((repeat' (first | with_reducible exact trivial | with_reducible exact rfl | (with_reducible apply And.intro) | exact in64 (by omega) (by omega) | omega)); done)) | dsimp only [go_sem, Nat.reduceAdd, Nat.reduceSub, Option.map, bne, BEq.beq, nds, fcs, T.kids, ndsC, strs] | simp only [sS, Int.cast_ofNat_Int, Int.reduceEq, Int.reduceLT, Int.reduceLE, Int.reduceAdd, Int.reduceSub, Int.reduceToNat]))))
        refine rndg (i + 1) (Gh.sub [0, 1, 2, 3] rfl rfl) ?_ ?_ ?_ ?_ (by omega) (by omega)
        · rfl
        · exact ⟨rfl, rfl, rfl, trivial⟩
        · exact ⟨by rw [en]; simp [step1, d1]; rfl, rfl, trivial⟩
        · rfl
    · simp only [decide_eq_false_iff_not] at h1
      obtain rfl : i = (fs.filter (inl lab)).length := by omega
      rw [accM_end] at hacc
      (repeat (first | with_reducible refine And.intro trivial ?_ | with_reducible refine And.intro rfl ?_ | (with_reducible refine And.intro ?_ ?_; focus ((repeat' (first | with_reducible exact trivial | with_reducible exact rfl | (with_reducible apply And.intro) | exact in64 (by omega) (by omega) | omega)); done)) | dsimp only [go_sem, Nat.reduceAdd, Nat.reduceSub, Option.map, bne, BEq.beq, nds, fcs, T.kids, ndsC, strs] | simp only [sS, Int.cast_ofNat_Int, Int.reduceEq, Int.reduceLT, Int.reduceLE, Int.reduceAdd, Int.reduceSub, Int.reduceToNat]))
      refine fin0 ?_; (repeat (first | with_reducible refine And.intro trivial ?_ | with_reducible refine And.intro rfl ?_ | (with_reducible refine And.intro ?_ ?_; focus ((repeat' (first | with_reducible exact trivial | with_reducible exact rfl | (with_reducible apply And.intro) | exact in64 (by omega) (by omega) | omega)); done)) | dsimp only [go_sem, Nat.reduceAdd, Nat.reduceSub, Option.map, bne, BEq.beq, nds, fcs, T.kids, ndsC, strs] | simp only [sS, Int.cast_ofNat_Int, Int.reduceEq, Int.reduceLT, Int.reduceLE, Int.reduceAdd, Int.reduceSub, Int.reduceToNat]))
      rw [← hacc, hM]
  · dsimp only [ir35]
    (repeat (first | with_reducible refine And.intro trivial ?_ | with_reducible refine And.intro rfl ?_ | (with_reducible refine And.intro ?_ ?_; focus ((repeat' (first | with_reducible exact trivial | with_reducible exact rfl | (with_reducible apply And.intro) | exact in64 (by omega) (by omega) | omega)); done)) | dsimp only [go_sem, Nat.reduceAdd, Nat.reduceSub, Option.map, bne, BEq.beq, nds, fcs, T.kids, ndsC, strs] | simp only [sS, Int.cast_ofNat_Int, Int.reduceEq, Int.reduceLT, Int.reduceLE, Int.reduceAdd, Int.reduceSub, Int.reduceToNat]))
    refine cpe [] (c61 a.post ⟨9, s, tt⟩) rfl ?_
    dsimp only [ndC]
    (repeat (first | with_reducible refine And.intro trivial ?_ | with_reducible refine And.intro rfl ?_ | (with_reducible refine And.intro ?_ ?_; focus ((repeat' (first | with_reducible exact trivial | with_reducible exact rfl | (with_reducible apply And.intro) | exact in64 (by omega) (by omega) | omega)); done)) | dsimp only [go_sem, Nat.reduceAdd, Nat.reduceSub, Option.map, bne, BEq.beq, nds, fcs, T.kids, ndsC, strs] | simp only [sS, Int.cast_ofNat_Int, Int.reduceEq, Int.reduceLT, Int.reduceLE, Int.reduceAdd, Int.reduceSub, Int.reduceToNat]))
    refine cpe [] (c53 (.un ⟨9, s, tt⟩ a) h hl) rfl ?_
    (repeat (first | with_reducible refine And.intro trivial ?_ | with_reducible refine And.intro rfl ?_ | (with_reducible refine And.intro ?_ ?_; focus ((repeat' (first | with_reducible exact trivial | with_reducible exact rfl | (with_reducible apply And.intro) | exact in64 (by omega) (by omega) | omega)); done)) | dsimp only [go_sem, Nat.reduceAdd, Nat.reduceSub, Option.map, bne, BEq.beq, nds, fcs, T.kids, ndsC, strs] | simp only [sS, Int.cast_ofNat_Int, Int.reduceEq, Int.reduceLT, Int.reduceLE, Int.reduceAdd, Int.reduceSub, Int.reduceToNat]))
    refine cd (ih (some s) s (fun x hx => (Option.some.inj hx))) rfl ?_
    (repeat (first | with_reducible refine And.intro trivial ?_ | with_reducible refine And.intro rfl ?_ | (with_reducible refine And.intro ?_ ?_; focus ((repeat' (first | with_reducible exact trivial | with_reducible exact rfl | (with_reducible apply And.intro) | exact in64 (by omega) (by omega) | omega)); done)) | dsimp only [go_sem, Nat.reduceAdd, Nat.reduceSub, Option.map, bne, BEq.beq, nds, fcs, T.kids, ndsC, strs] | simp only [sS, Int.cast_ofNat_Int, Int.reduceEq, Int.reduceLT, Int.reduceLE, Int.reduceAdd, Int.reduceSub, Int.reduceToNat]))
    refine fin0 ?_; (repeat (first | with_reducible refine And.intro trivial ?_ | with_reducible refine And.intro rfl ?_ | (with_reducible refine And.intro ?_ ?_; focus ((repeat' (first | with_reducible exact trivial | with_reducible exact rfl | (with_reducible apply And.intro) | exact in64 (by omega) (by omega) | omega)); done)) | dsimp only [go_sem, Nat.reduceAdd, Nat.reduceSub, Option.map, bne, BEq.beq, nds, fcs, T.kids, ndsC, strs] | simp only [sS, Int.cast_ofNat_Int, Int.reduceEq, Int.reduceLT, Int.reduceLE, Int.reduceAdd, Int.reduceSub, Int.reduceToNat]))
    rw [M]; simp
end Go.Av

namespace Go.Av
set_option maxRecDepth 100000
set_option maxHeartbeats 8000000
set_option linter.unusedVariables false
set_option linter.unusedSimpArgs false


theorem filter_take' (p : B → Bool) (xs : List B) {i : Nat} (h : i < xs.length) : (xs.take (i + 1)).filter p = (xs.take i).filter p ++ if p xs[i] then [xs[i]] else [] := filter_take p xs h
theorem foldl_take {α β : Type} (f : β → α → β) (b : β) (xs : List α) {i : Nat} (h : i < xs.length) : (xs.take (i + 1)).foldl f b = f ((xs.take i).foldl f b) xs[i] := by
  rw [List.take_succ_eq_append_getElem h, List.foldl_append]; rfl
theorem c35_bn (n : Nd) (a b : T) (fs : List Fc) (lab : Option B) (g : B) (h : T.ok (.bn n a b)) (hl : (T.post (.bn n a b)).length ≤ 1000) (hfs : fs.length ≤ 1000) (hg : labS lab g)
    (iha : ∀ lab g, labS lab g → PCall prog [] 35 [nds a.post, fcs fs, labB lab, .str g] (· = strs (M fs a lab)))
    (ihb : ∀ lab g, labS lab g → PCall prog [] 35 [nds b.post, fcs fs, labB lab, .str g] (· = strs (M fs b lab))) : PCall prog [] 35 [nds (a.post ++ b.post ++ [n]), fcs fs, labB lab, .str g] (· = strs (M fs (.bn n a b) lab)) := by
  refine PCall.enter mixed comp35 ?_
  have hfl : (fs.filter (inl lab)).length ≤ 1000 := Nat.le_trans (List.length_filter_le _ _) hfs
  have hMA := M_len fs a lab
  have hMB := M_len fs b lab
  obtain ⟨k, s, tt⟩ := n
  have hk := h.2.1
  dsimp only at hk
  rcases hk with rfl | rfl | rfl
  · dsimp only [ir35]
    (repeat (first | with_reducible refine And.intro trivial ?_ | with_reducible refine And.intro rfl ?_ | (with_reducible refine And.intro ?_ ?_; focus ((repeat' (first | with_reducible exact trivial | with_reducible exact rfl | (with_reducible apply And.intro) | exact in64 (by omega) (by omega) | omega)); done)) | dsimp only [go_sem, Nat.reduceAdd, Nat.reduceSub, Option.map, bne, BEq.beq, nds, fcs, T.kids, ndsC, strs] | simp only [sS, Int.cast_ofNat_Int, Int.reduceEq, Int.reduceLT, Int.reduceLE, Int.reduceAdd, Int.reduceSub, Int.reduceToNat]))
    refine cpe [] (c61 (a.post ++ b.post) ⟨6, s, tt⟩) rfl ?_
    dsimp only [ndC]
    (repeat (first | with_reducible refine And.intro trivial ?_ | with_reducible refine And.intro rfl ?_ | (with_reducible refine And.intro ?_ ?_; focus ((repeat' (first | with_reducible exact trivial | with_reducible exact rfl | (with_reducible apply And.intro) | exact in64 (by omega) (by omega) | omega)); done)) | dsimp only [go_sem, Nat.reduceAdd, Nat.reduceSub, Option.map, bne, BEq.beq, nds, fcs, T.kids, ndsC, strs] | simp only [sS, Int.cast_ofNat_Int, Int.reduceEq, Int.reduceLT, Int.reduceLE, Int.reduceAdd, Int.reduceSub, Int.reduceToNat]))
    refine cpe [] (c53 (.bn ⟨6, s, tt⟩ a b) h hl) rfl ?_
    (repeat (first | with_reducible refine And.intro trivial ?_ | with_reducible refine And.intro rfl ?_ | (with_reducible refine And.intro ?_ ?_; focus ((repeat' (first | with_reducible exact trivial | with_reducible exact rfl | (with_reducible apply And.intro) | exact in64 (by omega) (by omega) | omega)); done)) | dsimp only [go_sem, Nat.reduceAdd, Nat.reduceSub, Option.map, bne, BEq.beq, nds, fcs, T.kids, ndsC, strs] | simp only [sS, Int.cast_ofNat_Int, Int.reduceEq, Int.reduceLT, Int.reduceLE, Int.reduceAdd, Int.reduceSub, Int.reduceToNat]))
    refine cpe [] (iha lab g hg) rfl ?_
    (repeat (first | with_reducible refine And.intro trivial ?_ | with_reducible refine And.intro rfl ?_ | (with_reducible refine And.intro ?_ ?_; focus ((repeat' (first | with_reducible exact trivial | with_reducible exact rfl | (with_reducible apply And.intro) | exact in64 (by omega) (by omega) | omega)); done)) | dsimp only [go_sem, Nat.reduceAdd, Nat.reduceSub, Option.map, bne, BEq.beq, nds, fcs, T.kids, ndsC, strs] | simp only [sS, Int.cast_ofNat_Int, Int.reduceEq, Int.reduceLT, Int.reduceLE, Int.reduceAdd, Int.reduceSub, Int.reduceToNat]))
    refine cpe [] (ihb lab g hg) rfl ?_
    (repeat (first | with_reducible refine And.intro trivial ?_ | with_reducible refine And.intro rfl ?_ | (with_reducible refine And.intro ?_ ?_; focus ((repeat' (first | with_reducible exact trivial | with_reducible exact rfl | (with_reducible apply And.intro) | exact in64 (by omega) (by omega) | omega)); done)) | dsimp only [go_sem, Nat.reduceAdd, Nat.reduceSub, Option.map, bne, BEq.beq, nds, fcs, T.kids, ndsC, strs] | simp only [sS, Int.cast_ofNat_Int, Int.reduceEq, Int.reduceLT, Int.reduceLE, Int.reduceAdd, Int.reduceSub, Int.reduceToNat]))
    refine cpe [] (c62 fs lab g hg hfs) rfl ?_
    (repeat (first | with_reducible refine And.intro trivial ?_ | with_reducible refine And.intro rfl ?_ | (with_reducible refine And.intro ?_ ?_; focus ((repeat' (first | with_reducible exact trivial | with_reducible exact rfl | (with_reducible apply And.intro) | exact in64 (by omega) (by omega) | omega)); done)) | dsimp only [go_sem, Nat.reduceAdd, Nat.reduceSub, Option.map, bne, BEq.beq, nds, fcs, T.kids, ndsC, strs] | simp only [sS, Int.cast_ofNat_Int, Int.reduceEq, Int.reduceLT, Int.reduceLE, Int.reduceAdd, Int.reduceSub, Int.reduceToNat]))
    have hM : M fs (.bn ⟨6, s, tt⟩ a b) lab = (M fs a lab).filter (fun x => decide (x ∈ M fs b lab)) := by rw [M]; simp
    generalize M fs a lab = A at *
    generalize M fs b lab = C at *
    refine lp [9, 12, 13, 14] (fun i : Nat => [(11, .rw 1), (15, .g (.int .i64 i))]) (fun i => [.cells [.g (.int .i64 6), .g (.str s), .g (.str tt)], .row false 1 (((A.take i).filter (fun x => decide (x ∈ C))).map strC), .row false 1 [], .row false 1 []]) (fun i => i ≤ A.length) (fun i => A.length - i) 0 ⟨rfl, rfl, trivial⟩ rfl (by omega) ?_
    · intro i hi
      have hfl2 := Nat.le_trans (List.length_filter_le (fun x => decide (x ∈ C)) (A.take i)) (by simp; omega : (A.take i).length ≤ A.length)
      (repeat (first | with_reducible refine And.intro trivial ?_ | with_reducible refine And.intro rfl ?_ | (with_reducible refine And.intro ?_ ?_; focus ((repeat' (first | with_reducible exact trivial | with_reducible exact rfl | (with_reducible apply And.intro) | exact in64 (by omega) (by omega) | omega)); done)) | dsimp only [go_sem, Nat.reduceAdd, Nat.reduceSub, Option.map, bne, BEq.beq, nds, fcs, T.kids, ndsC, strs] | simp only [sS, Int.cast_ofNat_Int, Int.reduceEq, Int.reduceLT, Int.reduceLE, Int.reduceAdd, Int.reduceSub, Int.reduceToNat]))
      refine br (fun h1 => ?_) (fun h1 => ?_)
      · simp only [decide_eq_true_eq] at h1
        have hlt : i < A.length := by omega
        have e1 : (List.map strC A).getD i [] = [.str A[i]] := getD_at strC A hlt
        have ef := filter_take' (fun x => decide (x ∈ C)) A hlt
        (repeat (first | with_reducible refine And.intro trivial ?_ | with_reducible refine And.intro rfl ?_ | (with_reducible refine And.intro ?_ ?_; focus ((repeat' (first | with_reducible exact trivial | with_reducible exact rfl | (with_reducible apply And.intro) | exact in64 (by omega) (by omega) | omega)); done)) | dsimp only [go_sem, Nat.reduceAdd, Nat.reduceSub, Option.map, bne, BEq.beq, nds, fcs, T.kids, ndsC, strs] | simp only [sS, Int.cast_ofNat_Int, Int.reduceEq, Int.reduceLT, Int.reduceLE, Int.reduceAdd, Int.reduceSub, Int.reduceToNat]))
        simp only [e1]
        (repeat (first | with_reducible refine And.intro trivial ?_ | with_reducible refine And.intro rfl ?_ | (with_reducible refine And.intro ?_ ?_; focus ((repeat' (first | with_reducible exact trivial | with_reducible exact rfl | (with_reducible apply And.intro) | exact in64 (by omega) (by omega) | omega)); done)) | dsimp only [go_sem, Nat.reduceAdd, Nat.reduceSub, Option.map, bne, BEq.beq, nds, fcs, T.kids, ndsC, strs] | simp only [sS, Int.cast_ofNat_Int, Int.reduceEq, Int.reduceLT, Int.reduceLE, Int.reduceAdd, Int.reduceSub, Int.reduceToNat]))
        refine cpe [] (c63 C A[i]) rfl ?_
        try dsimp only [strs]
        (repeat (first | with_reducible refine And.intro trivial ?_ | with_reducible refine And.intro rfl ?_ | (with_reducible refine And.intro ?_ ?_; focus ((repeat' (first | with_reducible exact trivial | with_reducible exact rfl | (with_reducible apply And.intro) | exact in64 (by omega) (by omega) | omega)); done)) | dsimp only [go_sem, Nat.reduceAdd, Nat.reduceSub, Option.map, bne, BEq.beq, nds, fcs, T.kids, ndsC, strs] | simp only [sS, Int.cast_ofNat_Int, Int.reduceEq, Int.reduceLT, Int.reduceLE, Int.reduceAdd, Int.reduceSub, Int.reduceToNat]))
        rcases Decidable.em (A[i] ∈ C) with d1 | d1
        · have hd : decide (A[i] ∈ C) = true := by simpa using d1
          (repeat (simp only [hd, e1]; (repeat (first | with_reducible refine And.intro trivial ?_ | with_reducible refine And.intro rfl ?_ | (with_reducible refine And.intro ?_ ?_; focus ((repeat' (first | with_reducible exact trivial | with_reducible exact rfl | (with_reducible apply And.intro) | exact in64 (by omega) (by omega) | omega)); done)) | dsimp only [go_sem, Nat.reduceAdd, Nat.reduceSub, Option.map, bne, BEq.beq, nds, fcs, T.kids, ndsC, strs] | simp only [sS, Int.cast_ofNat_Int, Int.reduceEq, Int.reduceLT, Int.reduceLE, Int.reduceAdd, Int.reduceSub, Int.reduceToNat]))))
          refine rndg (i + 1) (Gh.sub [0, 1, 2, 3] rfl rfl) ?_ ?_ ?_ ?_ (by omega) (by omega)
          · rfl
          · exact ⟨rfl, rfl, rfl, rfl, trivial⟩
          · exact ⟨rfl, rfl, trivial⟩
          · rw [ef]; simp [hd, strC]; rfl
        · have hd : decide (A[i] ∈ C) = false := by simpa using d1
          (repeat (simp only [hd, e1]; (repeat (first | with_reducible refine And.intro trivial ?_ | with_reducible refine And.intro rfl ?_ | (with_reducible refine And.intro ?_ ?_; focus ((repeat' (first | with_reducible exact trivial | with_reducible exact rfl | (with_reducible apply And.intro) | exact in64 (by omega) (by omega) | omega)); done)) | dsimp only [go_sem, Nat.reduceAdd, Nat.reduceSub, Option.map, bne, BEq.beq, nds, fcs, T.kids, ndsC, strs] | simp only [sS, Int.cast_ofNat_Int, Int.reduceEq, Int.reduceLT, Int.reduceLE, Int.reduceAdd, Int.reduceSub, Int.reduceToNat]))))
          refine rndg (i + 1) (Gh.sub [0, 1, 2, 3] rfl rfl) ?_ ?_ ?_ ?_ (by omega) (by omega)
          · rfl
          · exact ⟨rfl, rfl, rfl, rfl, trivial⟩
          · exact ⟨rfl, rfl, trivial⟩
          · rw [ef]; simp [hd, strC]; rfl
      · simp only [decide_eq_false_iff_not] at h1
        obtain rfl : i = A.length := by omega
        rw [List.take_length] at *
        (repeat (first | with_reducible refine And.intro trivial ?_ | with_reducible refine And.intro rfl ?_ | (with_reducible refine And.intro ?_ ?_; focus ((repeat' (first | with_reducible exact trivial | with_reducible exact rfl | (with_reducible apply And.intro) | exact in64 (by omega) (by omega) | omega)); done)) | dsimp only [go_sem, Nat.reduceAdd, Nat.reduceSub, Option.map, bne, BEq.beq, nds, fcs, T.kids, ndsC, strs] | simp only [sS, Int.cast_ofNat_Int, Int.reduceEq, Int.reduceLT, Int.reduceLE, Int.reduceAdd, Int.reduceSub, Int.reduceToNat]))
        generalize hO : A.filter (fun x => decide (x ∈ C)) = out0 at *
        refine lpg [9, 12, 14] (fun i : Nat => [(11, .g (strs (accM ⟨6, s, tt⟩ A (fs.filter (inl lab)) i out0))), (18, .g (.int .i64 i))]) (fun _ => [.cells [.g (.int .i64 6), .g (.str s), .g (.str tt)], .dead, .row false 1 [], .row false 1 []]) (fun i => i ≤ (fs.filter (inl lab)).length) (fun i => (fs.filter (inl lab)).length - i) 0 (Gh.trans (Gh.frz (.rw 1) 11 rfl) (Gh.sub [0, 1, 2, 3] rfl rfl)) ⟨rfl, rfl, trivial⟩ rfl (by omega) ?_
        intro i hi
        have hal := accM_len ⟨6, s, tt⟩ A (fs.filter (inl lab)) i out0 hfl
        try simp only [List.length_nil] at hal
        generalize hacc : accM ⟨6, s, tt⟩ A (fs.filter (inl lab)) i out0 = acc at *
        try dsimp only [strs] at *
        (repeat (first | with_reducible refine And.intro trivial ?_ | with_reducible refine And.intro rfl ?_ | (with_reducible refine And.intro ?_ ?_; focus ((repeat' (first | with_reducible exact trivial | with_reducible exact rfl | (with_reducible apply And.intro) | exact in64 (by omega) (by omega) | omega)); done)) | dsimp only [go_sem, Nat.reduceAdd, Nat.reduceSub, Option.map, bne, BEq.beq, nds, fcs, T.kids, ndsC, strs] | simp only [sS, Int.cast_ofNat_Int, Int.reduceEq, Int.reduceLT, Int.reduceLE, Int.reduceAdd, Int.reduceSub, Int.reduceToNat]))
        refine br (fun h1 => ?_) (fun h1 => ?_)
        · simp only [decide_eq_true_eq] at h1
          have hlt : i < (fs.filter (inl lab)).length := by omega
          have e1 := getD_at fcC (fs.filter (inl lab)) hlt
          have en := accM_next ⟨6, s, tt⟩ A (fs.filter (inl lab)) out0 hlt
          rw [hacc] at en
          generalize hf : (fs.filter (inl lab))[i] = f at *
          (repeat (first | with_reducible refine And.intro trivial ?_ | with_reducible refine And.intro rfl ?_ | (with_reducible refine And.intro ?_ ?_; focus ((repeat' (first | with_reducible exact trivial | with_reducible exact rfl | (with_reducible apply And.intro) | exact in64 (by omega) (by omega) | omega)); done)) | dsimp only [go_sem, Nat.reduceAdd, Nat.reduceSub, Option.map, bne, BEq.beq, nds, fcs, T.kids, ndsC, strs] | simp only [sS, Int.cast_ofNat_Int, Int.reduceEq, Int.reduceLT, Int.reduceLE, Int.reduceAdd, Int.reduceSub, Int.reduceToNat]))
          simp only [e1, fcC]
          (repeat (first | with_reducible refine And.intro trivial ?_ | with_reducible refine And.intro rfl ?_ | (with_reducible refine And.intro ?_ ?_; focus ((repeat' (first | with_reducible exact trivial | with_reducible exact rfl | (with_reducible apply And.intro) | exact in64 (by omega) (by omega) | omega)); done)) | dsimp only [go_sem, Nat.reduceAdd, Nat.reduceSub, Option.map, bne, BEq.beq, nds, fcs, T.kids, ndsC, strs] | simp only [sS, Int.cast_ofNat_Int, Int.reduceEq, Int.reduceLT, Int.reduceLE, Int.reduceAdd, Int.reduceSub, Int.reduceToNat]))
          refine rndg (i + 1) (Gh.sub [0, 1, 2, 3] rfl rfl) ?_ ?_ ?_ ?_ (by omega) (by omega)
          · rfl
          · exact ⟨rfl, rfl, rfl, trivial⟩
          · exact ⟨by rw [en]; simp [step1]; rfl, rfl, trivial⟩
          · rfl
        · simp only [decide_eq_false_iff_not] at h1
          obtain rfl : i = (fs.filter (inl lab)).length := by omega
          rw [accM_end] at hacc
          (repeat (first | with_reducible refine And.intro trivial ?_ | with_reducible refine And.intro rfl ?_ | (with_reducible refine And.intro ?_ ?_; focus ((repeat' (first | with_reducible exact trivial | with_reducible exact rfl | (with_reducible apply And.intro) | exact in64 (by omega) (by omega) | omega)); done)) | dsimp only [go_sem, Nat.reduceAdd, Nat.reduceSub, Option.map, bne, BEq.beq, nds, fcs, T.kids, ndsC, strs] | simp only [sS, Int.cast_ofNat_Int, Int.reduceEq, Int.reduceLT, Int.reduceLE, Int.reduceAdd, Int.reduceSub, Int.reduceToNat]))
          refine fin0 ?_; (repeat (first | with_reducible refine And.intro trivial ?_ | with_reducible refine And.intro rfl ?_ | (with_reducible refine And.intro ?_ ?_; focus ((repeat' (first | with_reducible exact trivial | with_reducible exact rfl | (with_reducible apply And.intro) | exact in64 (by omega) (by omega) | omega)); done)) | dsimp only [go_sem, Nat.reduceAdd, Nat.reduceSub, Option.map, bne, BEq.beq, nds, fcs, T.kids, ndsC, strs] | simp only [sS, Int.cast_ofNat_Int, Int.reduceEq, Int.reduceLT, Int.reduceLE, Int.reduceAdd, Int.reduceSub, Int.reduceToNat]))
          rw [← hacc, hM, step1_none _ _ (by simp)]
  · dsimp only [ir35]
    (repeat (first | with_reducible refine And.intro trivial ?_ | with_reducible refine And.intro rfl ?_ | (with_reducible refine And.intro ?_ ?_; focus ((repeat' (first | with_reducible exact trivial | with_reducible exact rfl | (with_reducible apply And.intro) | exact in64 (by omega) (by omega) | omega)); done)) | dsimp only [go_sem, Nat.reduceAdd, Nat.reduceSub, Option.map, bne, BEq.beq, nds, fcs, T.kids, ndsC, strs] | simp only [sS, Int.cast_ofNat_Int, Int.reduceEq, Int.reduceLT, Int.reduceLE, Int.reduceAdd, Int.reduceSub, Int.reduceToNat]))
    refine cpe [] (c61 (a.post ++ b.post) ⟨7, s, tt⟩) rfl ?_
    dsimp only [ndC]
    (repeat (first | with_reducible refine And.intro trivial ?_ | with_reducible refine And.intro rfl ?_ | (with_reducible refine And.intro ?_ ?_; focus ((repeat' (first | with_reducible exact trivial | with_reducible exact rfl | (with_reducible apply And.intro) | exact in64 (by omega) (by omega) | omega)); done)) | dsimp only [go_sem, Nat.reduceAdd, Nat.reduceSub, Option.map, bne, BEq.beq, nds, fcs, T.kids, ndsC, strs] | simp only [sS, Int.cast_ofNat_Int, Int.reduceEq, Int.reduceLT, Int.reduceLE, Int.reduceAdd, Int.reduceSub, Int.reduceToNat]))
    refine cpe [] (c53 (.bn ⟨7, s, tt⟩ a b) h hl) rfl ?_
    (repeat (first | with_reducible refine And.intro trivial ?_ | with_reducible refine And.intro rfl ?_ | (with_reducible refine And.intro ?_ ?_; focus ((repeat' (first | with_reducible exact trivial | with_reducible exact rfl | (with_reducible apply And.intro) | exact in64 (by omega) (by omega) | omega)); done)) | dsimp only [go_sem, Nat.reduceAdd, Nat.reduceSub, Option.map, bne, BEq.beq, nds, fcs, T.kids, ndsC, strs] | simp only [sS, Int.cast_ofNat_Int, Int.reduceEq, Int.reduceLT, Int.reduceLE, Int.reduceAdd, Int.reduceSub, Int.reduceToNat]))
    refine cpe [] (iha lab g hg) rfl ?_
    (repeat (first | with_reducible refine And.intro trivial ?_ | with_reducible refine And.intro rfl ?_ | (with_reducible refine And.intro ?_ ?_; focus ((repeat' (first | with_reducible exact trivial | with_reducible exact rfl | (with_reducible apply And.intro) | exact in64 (by omega) (by omega) | omega)); done)) | dsimp only [go_sem, Nat.reduceAdd, Nat.reduceSub, Option.map, bne, BEq.beq, nds, fcs, T.kids, ndsC, strs] | simp only [sS, Int.cast_ofNat_Int, Int.reduceEq, Int.reduceLT, Int.reduceLE, Int.reduceAdd, Int.reduceSub, Int.reduceToNat]))
    refine cpe [] (ihb lab g hg) rfl ?_
    (repeat (first | with_reducible refine And.intro trivial ?_ | with_reducible refine And.intro rfl ?_ | (with_reducible refine And.intro ?_ ?_; focus ((repeat' (first | with_reducible exact trivial | with_reducible exact rfl | (with_reducible apply And.intro) | exact in64 (by omega) (by omega) | omega)); done)) | dsimp only [go_sem, Nat.reduceAdd, Nat.reduceSub, Option.map, bne, BEq.beq, nds, fcs, T.kids, ndsC, strs] | simp only [sS, Int.cast_ofNat_Int, Int.reduceEq, Int.reduceLT, Int.reduceLE, Int.reduceAdd, Int.reduceSub, Int.reduceToNat]))
    refine cpe [] (c62 fs lab g hg hfs) rfl ?_
    (repeat (first | with_reducible refine And.intro trivial ?_ | with_reducible refine And.intro rfl ?_ | (with_reducible refine And.intro ?_ ?_; focus ((repeat' (first | with_reducible exact trivial | with_reducible exact rfl | (with_reducible apply And.intro) | exact in64 (by omega) (by omega) | omega)); done)) | dsimp only [go_sem, Nat.reduceAdd, Nat.reduceSub, Option.map, bne, BEq.beq, nds, fcs, T.kids, ndsC, strs] | simp only [sS, Int.cast_ofNat_Int, Int.reduceEq, Int.reduceLT, Int.reduceLE, Int.reduceAdd, Int.reduceSub, Int.reduceToNat]))
    have hM : M fs (.bn ⟨7, s, tt⟩ a b) lab = (M fs b lab).foldl addS (M fs a lab) := by rw [M]; simp
    generalize M fs a lab = A at *
    generalize M fs b lab = C at *
    refine lp [9, 12, 13, 14] (fun i : Nat => [(11, .g (strs ((C.take i).foldl addS A))), (17, .g (.int .i64 i))]) (fun _ => [.cells [.g (.int .i64 7), .g (.str s), .g (.str tt)], .row false 1 [], .row false 1 [], .row false 1 []]) (fun i => i ≤ C.length) (fun i => C.length - i) 0 ⟨rfl, rfl, trivial⟩ rfl (by omega) ?_
    · intro i hi
      have hfl2 := foldl_len addS 1 addS_len (C.take i) A
      have hfl3 : (C.take i).length ≤ C.length := by simp; omega
      try dsimp only [strs]
      (repeat (first | with_reducible refine And.intro trivial ?_ | with_reducible refine And.intro rfl ?_ | (with_reducible refine And.intro ?_ ?_; focus ((repeat' (first | with_reducible exact trivial | with_reducible exact rfl | (with_reducible apply And.intro) | exact in64 (by omega) (by omega) | omega)); done)) | dsimp only [go_sem, Nat.reduceAdd, Nat.reduceSub, Option.map, bne, BEq.beq, nds, fcs, T.kids, ndsC, strs] | simp only [sS, Int.cast_ofNat_Int, Int.reduceEq, Int.reduceLT, Int.reduceLE, Int.reduceAdd, Int.reduceSub, Int.reduceToNat]))
      refine br (fun h1 => ?_) (fun h1 => ?_)
      · simp only [decide_eq_true_eq] at h1
        have hlt : i < C.length := by omega
        have e1 : (List.map strC C).getD i [] = [.str C[i]] := getD_at strC C hlt
        have ef := foldl_take addS A C hlt
        (repeat (first | with_reducible refine And.intro trivial ?_ | with_reducible refine And.intro rfl ?_ | (with_reducible refine And.intro ?_ ?_; focus ((repeat' (first | with_reducible exact trivial | with_reducible exact rfl | (with_reducible apply And.intro) | exact in64 (by omega) (by omega) | omega)); done)) | dsimp only [go_sem, Nat.reduceAdd, Nat.reduceSub, Option.map, bne, BEq.beq, nds, fcs, T.kids, ndsC, strs] | simp only [sS, Int.cast_ofNat_Int, Int.reduceEq, Int.reduceLT, Int.reduceLE, Int.reduceAdd, Int.reduceSub, Int.reduceToNat]))
        simp only [e1]
        (repeat (first | with_reducible refine And.intro trivial ?_ | with_reducible refine And.intro rfl ?_ | (with_reducible refine And.intro ?_ ?_; focus ((repeat' (first | with_reducible exact trivial | with_reducible exact rfl | (with_reducible apply And.intro) | exact in64 (by omega) (by omega) | omega)); done)) | dsimp only [go_sem, Nat.reduceAdd, Nat.reduceSub, Option.map, bne, BEq.beq, nds, fcs, T.kids, ndsC, strs] | simp only [sS, Int.cast_ofNat_Int, Int.reduceEq, Int.reduceLT, Int.reduceLE, Int.reduceAdd, Int.reduceSub, Int.reduceToNat]))
        refine cpe [] (c64 ((C.take i).foldl addS A) C[i] (by omega)) rfl ?_
        try dsimp only [strs]
        (repeat (first | with_reducible refine And.intro trivial ?_ | with_reducible refine And.intro rfl ?_ | (with_reducible refine And.intro ?_ ?_; focus ((repeat' (first | with_reducible exact trivial | with_reducible exact rfl | (with_reducible apply And.intro) | exact in64 (by omega) (by omega) | omega)); done)) | dsimp only [go_sem, Nat.reduceAdd, Nat.reduceSub, Option.map, bne, BEq.beq, nds, fcs, T.kids, ndsC, strs] | simp only [sS, Int.cast_ofNat_Int, Int.reduceEq, Int.reduceLT, Int.reduceLE, Int.reduceAdd, Int.reduceSub, Int.reduceToNat]))
        refine rnd (i + 1) rfl ⟨rfl, rfl, rfl, rfl, trivial⟩ ⟨by rw [ef]; rfl, rfl, trivial⟩ rfl (by omega) (by omega)
      · simp only [decide_eq_false_iff_not] at h1
        obtain rfl : i = C.length := by omega
        rw [List.take_length] at *
        (repeat (first | with_reducible refine And.intro trivial ?_ | with_reducible refine And.intro rfl ?_ | (with_reducible refine And.intro ?_ ?_; focus ((repeat' (first | with_reducible exact trivial | with_reducible exact rfl | (with_reducible apply And.intro) | exact in64 (by omega) (by omega) | omega)); done)) | dsimp only [go_sem, Nat.reduceAdd, Nat.reduceSub, Option.map, bne, BEq.beq, nds, fcs, T.kids, ndsC, strs] | simp only [sS, Int.cast_ofNat_Int, Int.reduceEq, Int.reduceLT, Int.reduceLE, Int.reduceAdd, Int.reduceSub, Int.reduceToNat]))
        generalize hO : C.foldl addS A = out0 at *
        have hfl : (fs.filter (inl lab)).length ≤ 1000 := hfl
        refine lpg [9, 12, 14] (fun i : Nat => [(11, .g (strs (accM ⟨7, s, tt⟩ A (fs.filter (inl lab)) i out0))), (18, .g (.int .i64 i))]) (fun _ => [.cells [.g (.int .i64 7), .g (.str s), .g (.str tt)], .row false 1 [], .row false 1 [], .row false 1 []]) (fun i => i ≤ (fs.filter (inl lab)).length) (fun i => (fs.filter (inl lab)).length - i) 0 Gh.refl ⟨rfl, rfl, trivial⟩ rfl (by omega) ?_
        intro i hi
        have hal := accM_len ⟨7, s, tt⟩ A (fs.filter (inl lab)) i out0 hfl
        try simp only [List.length_nil] at hal
        generalize hacc : accM ⟨7, s, tt⟩ A (fs.filter (inl lab)) i out0 = acc at *
        try dsimp only [strs] at *
        (repeat (first | with_reducible refine And.intro trivial ?_ | with_reducible refine And.intro rfl ?_ | (with_reducible refine And.intro ?_ ?_; focus ((repeat' (first | with_reducible exact trivial | with_reducible exact rfl | (with_reducible apply And.intro) | exact in64 (by omega) (by omega) | omega)); done)) | dsimp only [go_sem, Nat.reduceAdd, Nat.reduceSub, Option.map, bne, BEq.beq, nds, fcs, T.kids, ndsC, strs] | simp only [sS, Int.cast_ofNat_Int, Int.reduceEq, Int.reduceLT, Int.reduceLE, Int.reduceAdd, Int.reduceSub, Int.reduceToNat]))
        refine br (fun h1 => ?_) (fun h1 => ?_)
        · simp only [decide_eq_true_eq] at h1
          have hlt : i < (fs.filter (inl lab)).length := by omega
          have e1 := getD_at fcC (fs.filter (inl lab)) hlt
          have en := accM_next ⟨7, s, tt⟩ A (fs.filter (inl lab)) out0 hlt
          rw [hacc] at en
          generalize hf : (fs.filter (inl lab))[i] = f at *
          (repeat (first | with_reducible refine And.intro trivial ?_ | with_reducible refine And.intro rfl ?_ | (with_reducible refine And.intro ?_ ?_; focus ((repeat' (first | with_reducible exact trivial | with_reducible exact rfl | (with_reducible apply And.intro) | exact in64 (by omega) (by omega) | omega)); done)) | dsimp only [go_sem, Nat.reduceAdd, Nat.reduceSub, Option.map, bne, BEq.beq, nds, fcs, T.kids, ndsC, strs] | simp only [sS, Int.cast_ofNat_Int, Int.reduceEq, Int.reduceLT, Int.reduceLE, Int.reduceAdd, Int.reduceSub, Int.reduceToNat]))
          simp only [e1, fcC]
          (repeat (first | with_reducible refine And.intro trivial ?_ | with_reducible refine And.intro rfl ?_ | (with_reducible refine And.intro ?_ ?_; focus ((repeat' (first | with_reducible exact trivial | with_reducible exact rfl | (with_reducible apply And.intro) | exact in64 (by omega) (by omega) | omega)); done)) | dsimp only [go_sem, Nat.reduceAdd, Nat.reduceSub, Option.map, bne, BEq.beq, nds, fcs, T.kids, ndsC, strs] | simp only [sS, Int.cast_ofNat_Int, Int.reduceEq, Int.reduceLT, Int.reduceLE, Int.reduceAdd, Int.reduceSub, Int.reduceToNat]))
          refine rndg (i + 1) (Gh.sub [0, 1, 2, 3] rfl rfl) ?_ ?_ ?_ ?_ (by omega) (by omega)
          · rfl
          · exact ⟨rfl, rfl, rfl, trivial⟩
          · exact ⟨by rw [en]; simp [step1]; rfl, rfl, trivial⟩
          · rfl
        · simp only [decide_eq_false_iff_not] at h1
          obtain rfl : i = (fs.filter (inl lab)).length := by omega
          rw [accM_end] at hacc
          (repeat (first | with_reducible refine And.intro trivial ?_ | with_reducible refine And.intro rfl ?_ | (with_reducible refine And.intro ?_ ?_; focus ((repeat' (first | with_reducible exact trivial | with_reducible exact rfl | (with_reducible apply And.intro) | exact in64 (by omega) (by omega) | omega)); done)) | dsimp only [go_sem, Nat.reduceAdd, Nat.reduceSub, Option.map, bne, BEq.beq, nds, fcs, T.kids, ndsC, strs] | simp only [sS, Int.cast_ofNat_Int, Int.reduceEq, Int.reduceLT, Int.reduceLE, Int.reduceAdd, Int.reduceSub, Int.reduceToNat]))
          refine fin0 ?_; (repeat (first | with_reducible refine And.intro trivial ?_ | with_reducible refine And.intro rfl ?_ | (with_reducible refine And.intro ?_ ?_; focus ((repeat' (first | with_reducible exact trivial | with_reducible exact rfl | (with_reducible apply And.intro) | exact in64 (by omega) (by omega) | omega)); done)) | dsimp only [go_sem, Nat.reduceAdd, Nat.reduceSub, Option.map, bne, BEq.beq, nds, fcs, T.kids, ndsC, strs] | simp only [sS, Int.cast_ofNat_Int, Int.reduceEq, Int.reduceLT, Int.reduceLE, Int.reduceAdd, Int.reduceSub, Int.reduceToNat]))
          rw [← hacc, hM, step1_none _ _ (by simp)]
  · dsimp only [ir35]
    (repeat (first | with_reducible refine And.intro trivial ?_ | with_reducible refine And.intro rfl ?_ | (with_reducible refine And.intro ?_ ?_; focus ((repeat' (first | with_reducible exact trivial | with_reducible exact rfl | (with_reducible apply And.intro) | exact in64 (by omega) (by omega) | omega)); done)) | dsimp only [go_sem, Nat.reduceAdd, Nat.reduceSub, Option.map, bne, BEq.beq, nds, fcs, T.kids, ndsC, strs] | simp only [sS, Int.cast_ofNat_Int, Int.reduceEq, Int.reduceLT, Int.reduceLE, Int.reduceAdd, Int.reduceSub, Int.reduceToNat]))
    refine cpe [] (c61 (a.post ++ b.post) ⟨8, s, tt⟩) rfl ?_
    dsimp only [ndC]
    (repeat (first | with_reducible refine And.intro trivial ?_ | with_reducible refine And.intro rfl ?_ | (with_reducible refine And.intro ?_ ?_; focus ((repeat' (first | with_reducible exact trivial | with_reducible exact rfl | (with_reducible apply And.intro) | exact in64 (by omega) (by omega) | omega)); done)) | dsimp only [go_sem, Nat.reduceAdd, Nat.reduceSub, Option.map, bne, BEq.beq, nds, fcs, T.kids, ndsC, strs] | simp only [sS, Int.cast_ofNat_Int, Int.reduceEq, Int.reduceLT, Int.reduceLE, Int.reduceAdd, Int.reduceSub, Int.reduceToNat]))
    refine cpe [] (c53 (.bn ⟨8, s, tt⟩ a b) h hl) rfl ?_
    (repeat (first | with_reducible refine And.intro trivial ?_ | with_reducible refine And.intro rfl ?_ | (with_reducible refine And.intro ?_ ?_; focus ((repeat' (first | with_reducible exact trivial | with_reducible exact rfl | (with_reducible apply And.intro) | exact in64 (by omega) (by omega) | omega)); done)) | dsimp only [go_sem, Nat.reduceAdd, Nat.reduceSub, Option.map, bne, BEq.beq, nds, fcs, T.kids, ndsC, strs] | simp only [sS, Int.cast_ofNat_Int, Int.reduceEq, Int.reduceLT, Int.reduceLE, Int.reduceAdd, Int.reduceSub, Int.reduceToNat]))
    refine cpe [] (iha lab g hg) rfl ?_
    (repeat (first | with_reducible refine And.intro trivial ?_ | with_reducible refine And.intro rfl ?_ | (with_reducible refine And.intro ?_ ?_; focus ((repeat' (first | with_reducible exact trivial | with_reducible exact rfl | (with_reducible apply And.intro) | exact in64 (by omega) (by omega) | omega)); done)) | dsimp only [go_sem, Nat.reduceAdd, Nat.reduceSub, Option.map, bne, BEq.beq, nds, fcs, T.kids, ndsC, strs] | simp only [sS, Int.cast_ofNat_Int, Int.reduceEq, Int.reduceLT, Int.reduceLE, Int.reduceAdd, Int.reduceSub, Int.reduceToNat]))
    refine cpe [] (ihb lab g hg) rfl ?_
    (repeat (first | with_reducible refine And.intro trivial ?_ | with_reducible refine And.intro rfl ?_ | (with_reducible refine And.intro ?_ ?_; focus ((repeat' (first | with_reducible exact trivial | with_reducible exact rfl | (with_reducible apply And.intro) | exact in64 (by omega) (by omega) | omega)); done)) | dsimp only [go_sem, Nat.reduceAdd, Nat.reduceSub, Option.map, bne, BEq.beq, nds, fcs, T.kids, ndsC, strs] | simp only [sS, Int.cast_ofNat_Int, Int.reduceEq, Int.reduceLT, Int.reduceLE, Int.reduceAdd, Int.reduceSub, Int.reduceToNat]))
    refine cpe [] (c62 fs lab g hg hfs) rfl ?_
    (repeat (first | with_reducible refine And.intro trivial ?_ | with_reducible refine And.intro rfl ?_ | (with_reducible refine And.intro ?_ ?_; focus ((repeat' (first | with_reducible exact trivial | with_reducible exact rfl | (with_reducible apply And.intro) | exact in64 (by omega) (by omega) | omega)); done)) | dsimp only [go_sem, Nat.reduceAdd, Nat.reduceSub, Option.map, bne, BEq.beq, nds, fcs, T.kids, ndsC, strs] | simp only [sS, Int.cast_ofNat_Int, Int.reduceEq, Int.reduceLT, Int.reduceLE, Int.reduceAdd, Int.reduceSub, Int.reduceToNat]))
    have hM : M fs (.bn ⟨8, s, tt⟩ a b) lab = (M fs a lab).filter (fun x => !decide (x ∈ M fs b lab)) := by rw [M]; simp
    generalize M fs a lab = A at *
    generalize M fs b lab = C at *
    refine lp [9, 12, 13, 14] (fun i : Nat => [(11, .rw 1), (16, .g (.int .i64 i))]) (fun i => [.cells [.g (.int .i64 8), .g (.str s), .g (.str tt)], .row false 1 (((A.take i).filter (fun x => !decide (x ∈ C))).map strC), .row false 1 [], .row false 1 []]) (fun i => i ≤ A.length) (fun i => A.length - i) 0 ⟨rfl, rfl, trivial⟩ rfl (by omega) ?_
    · intro i hi
      have hfl2 := Nat.le_trans (List.length_filter_le (fun x => !decide (x ∈ C)) (A.take i)) (by simp; omega : (A.take i).length ≤ A.length)
      (repeat (first | with_reducible refine And.intro trivial ?_ | with_reducible refine And.intro rfl ?_ | (with_reducible refine And.intro ?_ ?_; focus ((repeat' (first | with_reducible exact trivial | with_reducible exact rfl | (with_reducible apply And.intro) | exact in64 (by omega) (by omega) | omega)); done)) | dsimp only [go_sem, Nat.reduceAdd, Nat.reduceSub, Option.map, bne, BEq.beq, nds, fcs, T.kids, ndsC, strs] | simp only [sS, Int.cast_ofNat_Int, Int.reduceEq, Int.reduceLT, Int.reduceLE, Int.reduceAdd, Int.reduceSub, Int.reduceToNat]))
      refine br (fun h1 => ?_) (fun h1 => ?_)
      · simp only [decide_eq_true_eq] at h1
        have hlt : i < A.length := by omega
        have e1 : (List.map strC A).getD i [] = [.str A[i]] := getD_at strC A hlt
        have ef := filter_take' (fun x => !decide (x ∈ C)) A hlt
        (repeat (first | with_reducible refine And.intro trivial ?_ | with_reducible refine And.intro rfl ?_ | (with_reducible refine And.intro ?_ ?_; focus ((repeat' (first | with_reducible exact trivial | with_reducible exact rfl | (with_reducible apply And.intro) | exact in64 (by omega) (by omega) | omega)); done)) | dsimp only [go_sem, Nat.reduceAdd, Nat.reduceSub, Option.map, bne, BEq.beq, nds, fcs, T.kids, ndsC, strs] | simp only [sS, Int.cast_ofNat_Int, Int.reduceEq, Int.reduceLT, Int.reduceLE, Int.reduceAdd, Int.reduceSub, Int.reduceToNat]))
        simp only [e1]
        (repeat (first | with_reducible refine And.intro trivial ?_ | with_reducible refine And.intro rfl ?_ | (with_reducible refine And.intro ?_ ?_; focus ((repeat' (first | with_reducible exact trivial | with_reducible exact rfl | (with_reducible apply And.intro) | exact in64 (by omega) (by omega) | omega)); done)) | dsimp only [go_sem, Nat.reduceAdd, Nat.reduceSub, Option.map, bne, BEq.beq, nds, fcs, T.kids, ndsC, strs] | simp only [sS, Int.cast_ofNat_Int, Int.reduceEq, Int.reduceLT, Int.reduceLE, Int.reduceAdd, Int.reduceSub, Int.reduceToNat]))
        refine cpe [] (c63 C A[i]) rfl ?_
        try dsimp only [strs]
        (repeat (first | with_reducible refine And.intro trivial ?_ | with_reducible refine And.intro rfl ?_ | (with_reducible refine And.intro ?_ ?_; focus ((repeat' (first | with_reducible exact trivial | with_reducible exact rfl | (with_reducible apply And.intro) | exact in64 (by omega) (by omega) | omega)); done)) | dsimp only [go_sem, Nat.reduceAdd, Nat.reduceSub, Option.map, bne, BEq.beq, nds, fcs, T.kids, ndsC, strs] | simp only [sS, Int.cast_ofNat_Int, Int.reduceEq, Int.reduceLT, Int.reduceLE, Int.reduceAdd, Int.reduceSub, Int.reduceToNat]))
        rcases Decidable.em (A[i] ∈ C) with d1 | d1
        · have hd : decide (A[i] ∈ C) = true := by simpa using d1
          (repeat (simp only [hd, e1]; (repeat (first | with_reducible refine And.intro trivial ?_ | with_reducible refine And.intro rfl ?_ | (with_reducible refine And.intro ?_ ?_; focus ((repeat' (first | with_reducible exact trivial | with_reducible exact rfl | (with_reducible apply And.intro) | exact in64 (by omega) (by omega) | omega)); done)) | dsimp only [go_sem, Nat.reduceAdd, Nat.reduceSub, Option.map, bne, BEq.beq, nds, fcs, T.kids, ndsC, strs] | simp only [sS, Int.cast_ofNat_Int, Int.reduceEq, Int.reduceLT, Int.reduceLE, Int.reduceAdd, Int.reduceSub, Int.reduceToNat]))))
          refine rndg (i + 1) (Gh.sub [0, 1, 2, 3] rfl rfl) ?_ ?_ ?_ ?_ (by omega) (by omega)
          · rfl
          · exact ⟨rfl, rfl, rfl, rfl, trivial⟩
          · exact ⟨rfl, rfl, trivial⟩
          · rw [ef]; simp [hd, strC]; rfl
        · have hd : decide (A[i] ∈ C) = false := by simpa using d1
          (repeat (simp only [hd, e1]; (repeat (first | with_reducible refine And.intro trivial ?_ | with_reducible refine And.intro rfl ?_ | (with_reducible refine And.intro ?_ ?_; focus ((repeat' (first | with_reducible exact trivial | with_reducible exact rfl | (with_reducible apply And.intro) | exact in64 (by omega) (by omega) | omega)); done)) | dsimp only [go_sem, Nat.reduceAdd, Nat.reduceSub, Option.map, bne, BEq.beq, nds, fcs, T.kids, ndsC, strs] | simp only [sS, Int.cast_ofNat_Int, Int.reduceEq, Int.reduceLT, Int.reduceLE, Int.reduceAdd, Int.reduceSub, Int.reduceToNat]))))
          refine rndg (i + 1) (Gh.sub [0, 1, 2, 3] rfl rfl) ?_ ?_ ?_ ?_ (by omega) (by omega)
          · rfl
          · exact ⟨rfl, rfl, rfl, rfl, trivial⟩
          · exact ⟨rfl, rfl, trivial⟩
          · rw [ef]; simp [hd, strC]; rfl
      · simp only [decide_eq_false_iff_not] at h1
        obtain rfl : i = A.length := by omega
        rw [List.take_length] at *
        (repeat (first | with_reducible refine And.intro trivial ?_ | with_reducible refine And.intro rfl ?_ | (with_reducible refine And.intro ?_ ?_; focus ((repeat' (first | with_reducible exact trivial | with_reducible exact rfl | (with_reducible apply And.intro) | exact in64 (by omega) (by omega) | omega)); done)) | dsimp only [go_sem, Nat.reduceAdd, Nat.reduceSub, Option.map, bne, BEq.beq, nds, fcs, T.kids, ndsC, strs] | simp only [sS, Int.cast_ofNat_Int, Int.reduceEq, Int.reduceLT, Int.reduceLE, Int.reduceAdd, Int.reduceSub, Int.reduceToNat]))
        generalize hO : A.filter (fun x => !decide (x ∈ C)) = out0 at *
        refine lpg [9, 12, 14] (fun i : Nat => [(11, .g (strs (accM ⟨8, s, tt⟩ A (fs.filter (inl lab)) i out0))), (18, .g (.int .i64 i))]) (fun _ => [.cells [.g (.int .i64 8), .g (.str s), .g (.str tt)], .dead, .row false 1 [], .row false 1 []]) (fun i => i ≤ (fs.filter (inl lab)).length) (fun i => (fs.filter (inl lab)).length - i) 0 (Gh.trans (Gh.frz (.rw 1) 11 rfl) (Gh.sub [0, 1, 2, 3] rfl rfl)) ⟨rfl, rfl, trivial⟩ rfl (by omega) ?_
        intro i hi
        have hal := accM_len ⟨8, s, tt⟩ A (fs.filter (inl lab)) i out0 hfl
        try simp only [List.length_nil] at hal
        generalize hacc : accM ⟨8, s, tt⟩ A (fs.filter (inl lab)) i out0 = acc at *
        try dsimp only [strs] at *
        (repeat (first | with_reducible refine And.intro trivial ?_ | with_reducible refine And.intro rfl ?_ | (with_reducible refine And.intro ?_ ?_; focus ((repeat' (first | with_reducible exact trivial | with_reducible exact rfl | (with_reducible apply And.intro) | exact in64 (by omega) (by omega) | omega)); done)) | dsimp only [go_sem, Nat.reduceAdd, Nat.reduceSub, Option.map, bne, BEq.beq, nds, fcs, T.kids, ndsC, strs] | simp only [sS, Int.cast_ofNat_Int, Int.reduceEq, Int.reduceLT, Int.reduceLE, Int.reduceAdd, Int.reduceSub, Int.reduceToNat]))
        refine br (fun h1 => ?_) (fun h1 => ?_)
        · simp only [decide_eq_true_eq] at h1
          have hlt : i < (fs.filter (inl lab)).length := by omega
          have e1 := getD_at fcC (fs.filter (inl lab)) hlt
          have en := accM_next ⟨8, s, tt⟩ A (fs.filter (inl lab)) out0 hlt
          rw [hacc] at en
          generalize hf : (fs.filter (inl lab))[i] = f at *
          (repeat (first | with_reducible refine And.intro trivial ?_ | with_reducible refine And.intro rfl ?_ | (with_reducible refine And.intro ?_ ?_; focus ((repeat' (first | with_reducible exact trivial | with_reducible exact rfl | (with_reducible apply And.intro) | exact in64 (by omega) (by omega) | omega)); done)) | dsimp only [go_sem, Nat.reduceAdd, Nat.reduceSub, Option.map, bne, BEq.beq, nds, fcs, T.kids, ndsC, strs] | simp only [sS, Int.cast_ofNat_Int, Int.reduceEq, Int.reduceLT, Int.reduceLE, Int.reduceAdd, Int.reduceSub, Int.reduceToNat]))
          simp only [e1, fcC]
          (repeat (first | with_reducible refine And.intro trivial ?_ | with_reducible refine And.intro rfl ?_ | (with_reducible refine And.intro ?_ ?_; focus ((repeat' (first | with_reducible exact trivial | with_reducible exact rfl | (with_reducible apply And.intro) | exact in64 (by omega) (by omega) | omega)); done)) | dsimp only [go_sem, Nat.reduceAdd, Nat.reduceSub, Option.map, bne, BEq.beq, nds, fcs, T.kids, ndsC, strs] | simp only [sS, Int.cast_ofNat_Int, Int.reduceEq, Int.reduceLT, Int.reduceLE, Int.reduceAdd, Int.reduceSub, Int.reduceToNat]))
          refine rndg (i + 1) (Gh.sub [0, 1, 2, 3] rfl rfl) ?_ ?_ ?_ ?_ (by omega) (by omega)
          · rfl
          · exact ⟨rfl, rfl, rfl, trivial⟩
          · exact ⟨by rw [en]; simp [step1]; rfl, rfl, trivial⟩
          · rfl
        · simp only [decide_eq_false_iff_not] at h1
          obtain rfl : i = (fs.filter (inl lab)).length := by omega
          rw [accM_end] at hacc
          (repeat (first | with_reducible refine And.intro trivial ?_ | with_reducible refine And.intro rfl ?_ | (with_reducible refine And.intro ?_ ?_; focus ((repeat' (first | with_reducible exact trivial | with_reducible exact rfl | (with_reducible apply And.intro) | exact in64 (by omega) (by omega) | omega)); done)) | dsimp only [go_sem, Nat.reduceAdd, Nat.reduceSub, Option.map, bne, BEq.beq, nds, fcs, T.kids, ndsC, strs] | simp only [sS, Int.cast_ofNat_Int, Int.reduceEq, Int.reduceLT, Int.reduceLE, Int.reduceAdd, Int.reduceSub, Int.reduceToNat]))
          refine fin0 ?_; (repeat (first | with_reducible refine And.intro trivial ?_ | with_reducible refine And.intro rfl ?_ | (with_reducible refine And.intro ?_ ?_; focus ((repeat' (first | with_reducible exact trivial | with_reducible exact rfl | (with_reducible apply And.intro) | exact in64 (by omega) (by omega) | omega)); done)) | dsimp only [go_sem, Nat.reduceAdd, Nat.reduceSub, Option.map, bne, BEq.beq, nds, fcs, T.kids, ndsC, strs] | simp only [sS, Int.cast_ofNat_Int, Int.reduceEq, Int.reduceLT, Int.reduceLE, Int.reduceAdd, Int.reduceSub, Int.reduceToNat]))
          rw [← hacc, hM, step1_none _ _ (by simp)]
end Go.Av

namespace Go.Av
set_option maxRecDepth 100000
set_option maxHeartbeats 4000000
set_option linter.unusedVariables false
set_option linter.unusedSimpArgs false

theorem c35 (fs : List Fc) (hfs : fs.length ≤ 1000) : ∀ (t : T), t.ok → t.post.length ≤ 1000 → ∀ lab g, labS lab g → PCall prog [] 35 [nds t.post, fcs fs, labB lab, .str g] (· = strs (M fs t lab))
  | .lf n, h, hl, lab, g, hg => c35_lf n fs lab g h hfs hg
  | .un n a, h, hl, lab, g, hg => c35_un n a fs lab g h hl hfs hg fun lab g hg => c35 fs hfs a h.2.2 (by simp [T.post] at hl; omega) lab g hg
  | .bn n a b, h, hl, lab, g, hg => c35_bn n a b fs lab g h hl hfs hg (fun lab g hg => c35 fs hfs a h.2.2.1 (by simp [T.post] at hl; omega) lab g hg) (fun lab g hg => c35 fs hfs b h.2.2.2 (by simp [T.post] at hl; omega) lab g hg)
/-- What both sides say. -/
def mean (ns : List Nd) (fs : List Fc) : List B :=
  match pathT ns with
  | some t => if fs.length ≤ 300 then M fs t none else []
  | none => []
theorem pathT_some {ns : List Nd} {t : T} (h : pathT ns = some t) : t.ok ∧ t.post = ns ∧ ns.length ≤ 100 := by
  unfold pathT at h
  split at h
  · rename_i hc
    obtain ⟨h1, h2, h3⟩ := hc
    split at h
    · rename_i t' ht
      split at h
      · obtain rfl := Option.some.inj h
        obtain ⟨a, b⟩ := parse_some h3 ht
        exact ⟨a, b, h2⟩
      · cases h
    · cases h
  · cases h
theorem c8 (ns : List Nd) (fs : List Fc) : PCall prog [] 8 [.agg [nds ns], fcs fs] (· = strs (mean ns fs)) := by
  refine PCall.small fun hsm => PCall.enter mixed comp8 ?_
  have hx : fs.length ≤ 9223372036854775807 := by simpa [fcs] using hsm.2.1.1
  dsimp only [ir8]
  (repeat (first | with_reducible refine And.intro trivial ?_ | with_reducible refine And.intro rfl ?_ | (with_reducible refine And.intro ?_ ?_; focus ((repeat' (first | with_reducible exact trivial | with_reducible exact rfl | (with_reducible apply And.intro) | exact in64 (by omega) (by omega) | omega)); done)) | dsimp only [go_sem, Nat.reduceAdd, Nat.reduceSub, Option.map, bne, BEq.beq, nds, fcs, strs] | simp only [sS, Int.cast_ofNat_Int, Int.reduceEq, Int.reduceLT, Int.reduceLE, Int.reduceAdd, Int.reduceSub, Int.reduceToNat]))
  refine cpe [] (c6 ns) rfl ?_
  (repeat (first | with_reducible refine And.intro trivial ?_ | with_reducible refine And.intro rfl ?_ | (with_reducible refine And.intro ?_ ?_; focus ((repeat' (first | with_reducible exact trivial | with_reducible exact rfl | (with_reducible apply And.intro) | exact in64 (by omega) (by omega) | omega)); done)) | dsimp only [go_sem, Nat.reduceAdd, Nat.reduceSub, Option.map, bne, BEq.beq, nds, fcs, strs] | simp only [sS, Int.cast_ofNat_Int, Int.reduceEq, Int.reduceLT, Int.reduceLE, Int.reduceAdd, Int.reduceSub, Int.reduceToNat]))
  cases hp : pathT ns with
  | none =>
    dsimp only [Option.isSome]
    (repeat (first | with_reducible refine And.intro trivial ?_ | with_reducible refine And.intro rfl ?_ | (with_reducible refine And.intro ?_ ?_; focus ((repeat' (first | with_reducible exact trivial | with_reducible exact rfl | (with_reducible apply And.intro) | exact in64 (by omega) (by omega) | omega)); done)) | dsimp only [go_sem, Nat.reduceAdd, Nat.reduceSub, Option.map, bne, BEq.beq, nds, fcs, strs] | simp only [sS, Int.cast_ofNat_Int, Int.reduceEq, Int.reduceLT, Int.reduceLE, Int.reduceAdd, Int.reduceSub, Int.reduceToNat]))
    refine fin0 ?_; (repeat (first | with_reducible refine And.intro trivial ?_ | with_reducible refine And.intro rfl ?_ | (with_reducible refine And.intro ?_ ?_; focus ((repeat' (first | with_reducible exact trivial | with_reducible exact rfl | (with_reducible apply And.intro) | exact in64 (by omega) (by omega) | omega)); done)) | dsimp only [go_sem, Nat.reduceAdd, Nat.reduceSub, Option.map, bne, BEq.beq, nds, fcs, strs] | simp only [sS, Int.cast_ofNat_Int, Int.reduceEq, Int.reduceLT, Int.reduceLE, Int.reduceAdd, Int.reduceSub, Int.reduceToNat]))
    simp [mean, hp]
  | some t =>
    obtain ⟨htok, rfl, hl⟩ := pathT_some hp
    dsimp only [Option.isSome]
    (repeat (first | with_reducible refine And.intro trivial ?_ | with_reducible refine And.intro rfl ?_ | (with_reducible refine And.intro ?_ ?_; focus ((repeat' (first | with_reducible exact trivial | with_reducible exact rfl | (with_reducible apply And.intro) | exact in64 (by omega) (by omega) | omega)); done)) | dsimp only [go_sem, Nat.reduceAdd, Nat.reduceSub, Option.map, bne, BEq.beq, nds, fcs, strs] | simp only [sS, Int.cast_ofNat_Int, Int.reduceEq, Int.reduceLT, Int.reduceLE, Int.reduceAdd, Int.reduceSub, Int.reduceToNat]))
    by_cases hf : 300 < fs.length
    · have hd : decide (300 < (fs.length : Int)) = true := by simp; omega
      (repeat (simp only [hd]; (repeat (first | with_reducible refine And.intro trivial ?_ | with_reducible refine And.intro rfl ?_ | (with_reducible refine And.intro ?_ ?_; focus ((repeat' (first | with_reducible exact trivial | with_reducible exact rfl | (with_reducible apply And.intro) | exact in64 (by omega) (by omega) | omega)); done)) | dsimp only [go_sem, Nat.reduceAdd, Nat.reduceSub, Option.map, bne, BEq.beq, nds, fcs, strs] | simp only [sS, Int.cast_ofNat_Int, Int.reduceEq, Int.reduceLT, Int.reduceLE, Int.reduceAdd, Int.reduceSub, Int.reduceToNat]))))
      refine fin0 ?_; (repeat (first | with_reducible refine And.intro trivial ?_ | with_reducible refine And.intro rfl ?_ | (with_reducible refine And.intro ?_ ?_; focus ((repeat' (first | with_reducible exact trivial | with_reducible exact rfl | (with_reducible apply And.intro) | exact in64 (by omega) (by omega) | omega)); done)) | dsimp only [go_sem, Nat.reduceAdd, Nat.reduceSub, Option.map, bne, BEq.beq, nds, fcs, strs] | simp only [sS, Int.cast_ofNat_Int, Int.reduceEq, Int.reduceLT, Int.reduceLE, Int.reduceAdd, Int.reduceSub, Int.reduceToNat]))
      simp [mean, hp, show ¬ (fs.length ≤ 300) from by omega]
    · have hd : decide (300 < (fs.length : Int)) = false := by simp; omega
      have hm := M_len fs t none
      (repeat (simp only [hd]; (repeat (first | with_reducible refine And.intro trivial ?_ | with_reducible refine And.intro rfl ?_ | (with_reducible refine And.intro ?_ ?_; focus ((repeat' (first | with_reducible exact trivial | with_reducible exact rfl | (with_reducible apply And.intro) | exact in64 (by omega) (by omega) | omega)); done)) | dsimp only [go_sem, Nat.reduceAdd, Nat.reduceSub, Option.map, bne, BEq.beq, nds, fcs, strs] | simp only [sS, Int.cast_ofNat_Int, Int.reduceEq, Int.reduceLT, Int.reduceLE, Int.reduceAdd, Int.reduceSub, Int.reduceToNat]))))
      refine cpe [] (c35 fs (by omega) t htok (by omega) none [] (fun x h => by cases h)) rfl ?_
      (repeat (first | with_reducible refine And.intro trivial ?_ | with_reducible refine And.intro rfl ?_ | (with_reducible refine And.intro ?_ ?_; focus ((repeat' (first | with_reducible exact trivial | with_reducible exact rfl | (with_reducible apply And.intro) | exact in64 (by omega) (by omega) | omega)); done)) | dsimp only [go_sem, Nat.reduceAdd, Nat.reduceSub, Option.map, bne, BEq.beq, nds, fcs, strs] | simp only [sS, Int.cast_ofNat_Int, Int.reduceEq, Int.reduceLT, Int.reduceLE, Int.reduceAdd, Int.reduceSub, Int.reduceToNat]))
      refine fin0 ?_; (repeat (first | with_reducible refine And.intro trivial ?_ | with_reducible refine And.intro rfl ?_ | (with_reducible refine And.intro ?_ ?_; focus ((repeat' (first | with_reducible exact trivial | with_reducible exact rfl | (with_reducible apply And.intro) | exact in64 (by omega) (by omega) | omega)); done)) | dsimp only [go_sem, Nat.reduceAdd, Nat.reduceSub, Option.map, bne, BEq.beq, nds, fcs, strs] | simp only [sS, Int.cast_ofNat_Int, Int.reduceEq, Int.reduceLT, Int.reduceLE, Int.reduceAdd, Int.reduceSub, Int.reduceToNat]))
      simp [mean, hp, show fs.length ≤ 300 from by omega]
end Go.Av

namespace Go.Av
set_option maxRecDepth 100000
set_option maxHeartbeats 8000000
set_option linter.unusedVariables false
set_option linter.unusedSimpArgs false

theorem pathT_big {ns : List Nd} (h : 100 < ns.length) : pathT ns = none := by unfold pathT; rw [if_neg (by omega)]
theorem pathT_bad {ns : List Nd} (h : (ns.all goodN) = false) : pathT ns = none := by
  unfold pathT; rw [if_neg]; rintro ⟨_, _, h3⟩
  have : ns.all goodN = true := by simpa using h3
  rw [h] at this; cases this
theorem pathT_ok {ns : List Nd} (h1 : ns.length ≤ 100) (h : (ns.all goodN) = true) : pathT ns = match parse ns with | some t => if t.ht ≤ 64 then some t else none | none => none := by
  unfold pathT
  by_cases h0 : 1 ≤ ns.length
  · rw [if_pos ⟨h0, h1, by simpa using h⟩]
    cases parse ns <;> rfl
  · rw [if_neg (by omega)]
    have : ns = [] := List.length_eq_zero_iff.1 (by omega)
    subst this; rfl
theorem c32 (ns : List Nd) : PCall prog [] 32 [.agg [nds ns]] (· = stepV (pathT ns)) := by
  refine PCall.small fun hsm => PCall.enter mixed comp32 ?_
  have hx : ns.length ≤ 9223372036854775807 := by simpa [nds] using hsm.1.1.1
  dsimp only [ir32]
  (repeat (first | with_reducible refine And.intro trivial ?_ | with_reducible refine And.intro rfl ?_ | (with_reducible refine And.intro ?_ ?_; focus ((repeat' (first | with_reducible exact trivial | with_reducible exact rfl | (with_reducible apply And.intro) | exact in64 (by omega) (by omega) | omega)); done)) | dsimp only [go_sem, Nat.reduceAdd, Nat.reduceSub, Option.map, bne, BEq.beq, nds, fcs, strs, stepV, stepC, keysOk, isKey, lkV, Option.getD] | simp only [sS, Int.cast_ofNat_Int, Int.reduceEq, Int.reduceLT, Int.reduceLE, Int.reduceAdd, Int.reduceSub, Int.reduceToNat]))
  by_cases hc : 100 < ns.length
  · have hd : decide (100 < (ns.length : Int)) = true := by simp only [decide_eq_true_eq]; omega
    (repeat (simp only [hd]; (repeat (first | with_reducible refine And.intro trivial ?_ | with_reducible refine And.intro rfl ?_ | (with_reducible refine And.intro ?_ ?_; focus ((repeat' (first | with_reducible exact trivial | with_reducible exact rfl | (with_reducible apply And.intro) | exact in64 (by omega) (by omega) | omega)); done)) | dsimp only [go_sem, Nat.reduceAdd, Nat.reduceSub, Option.map, bne, BEq.beq, nds, fcs, strs, stepV, stepC, keysOk, isKey, lkV, Option.getD] | simp only [sS, Int.cast_ofNat_Int, Int.reduceEq, Int.reduceLT, Int.reduceLE, Int.reduceAdd, Int.reduceSub, Int.reduceToNat]))))
    refine fin0 ?_; (repeat (first | with_reducible refine And.intro trivial ?_ | with_reducible refine And.intro rfl ?_ | (with_reducible refine And.intro ?_ ?_; focus ((repeat' (first | with_reducible exact trivial | with_reducible exact rfl | (with_reducible apply And.intro) | exact in64 (by omega) (by omega) | omega)); done)) | dsimp only [go_sem, Nat.reduceAdd, Nat.reduceSub, Option.map, bne, BEq.beq, nds, fcs, strs, stepV, stepC, keysOk, isKey, lkV, Option.getD] | simp only [sS, Int.cast_ofNat_Int, Int.reduceEq, Int.reduceLT, Int.reduceLE, Int.reduceAdd, Int.reduceSub, Int.reduceToNat]))
    rw [pathT_big hc]
  have hd : decide (100 < (ns.length : Int)) = false := by simp only [decide_eq_false_iff_not]; omega
  (repeat (simp only [hd]; (repeat (first | with_reducible refine And.intro trivial ?_ | with_reducible refine And.intro rfl ?_ | (with_reducible refine And.intro ?_ ?_; focus ((repeat' (first | with_reducible exact trivial | with_reducible exact rfl | (with_reducible apply And.intro) | exact in64 (by omega) (by omega) | omega)); done)) | dsimp only [go_sem, Nat.reduceAdd, Nat.reduceSub, Option.map, bne, BEq.beq, nds, fcs, strs, stepV, stepC, keysOk, isKey, lkV, Option.getD] | simp only [sS, Int.cast_ofNat_Int, Int.reduceEq, Int.reduceLT, Int.reduceLE, Int.reduceAdd, Int.reduceSub, Int.reduceToNat]))))
  refine cpe [] (c54 ns) rfl ?_
  (repeat (first | with_reducible refine And.intro trivial ?_ | with_reducible refine And.intro rfl ?_ | (with_reducible refine And.intro ?_ ?_; focus ((repeat' (first | with_reducible exact trivial | with_reducible exact rfl | (with_reducible apply And.intro) | exact in64 (by omega) (by omega) | omega)); done)) | dsimp only [go_sem, Nat.reduceAdd, Nat.reduceSub, Option.map, bne, BEq.beq, nds, fcs, strs, stepV, stepC, keysOk, isKey, lkV, Option.getD] | simp only [sS, Int.cast_ofNat_Int, Int.reduceEq, Int.reduceLT, Int.reduceLE, Int.reduceAdd, Int.reduceSub, Int.reduceToNat]))
  cases hg : ns.all goodN with
  | false =>
    dsimp only [Bool.not]
    (repeat (first | with_reducible refine And.intro trivial ?_ | with_reducible refine And.intro rfl ?_ | (with_reducible refine And.intro ?_ ?_; focus ((repeat' (first | with_reducible exact trivial | with_reducible exact rfl | (with_reducible apply And.intro) | exact in64 (by omega) (by omega) | omega)); done)) | dsimp only [go_sem, Nat.reduceAdd, Nat.reduceSub, Option.map, bne, BEq.beq, nds, fcs, strs, stepV, stepC, keysOk, isKey, lkV, Option.getD] | simp only [sS, Int.cast_ofNat_Int, Int.reduceEq, Int.reduceLT, Int.reduceLE, Int.reduceAdd, Int.reduceSub, Int.reduceToNat]))
    refine fin0 ?_; (repeat (first | with_reducible refine And.intro trivial ?_ | with_reducible refine And.intro rfl ?_ | (with_reducible refine And.intro ?_ ?_; focus ((repeat' (first | with_reducible exact trivial | with_reducible exact rfl | (with_reducible apply And.intro) | exact in64 (by omega) (by omega) | omega)); done)) | dsimp only [go_sem, Nat.reduceAdd, Nat.reduceSub, Option.map, bne, BEq.beq, nds, fcs, strs, stepV, stepC, keysOk, isKey, lkV, Option.getD] | simp only [sS, Int.cast_ofNat_Int, Int.reduceEq, Int.reduceLT, Int.reduceLE, Int.reduceAdd, Int.reduceSub, Int.reduceToNat]))
    rw [pathT_bad hg]
  | true =>
    dsimp only [Bool.not]
    (repeat (first | with_reducible refine And.intro trivial ?_ | with_reducible refine And.intro rfl ?_ | (with_reducible refine And.intro ?_ ?_; focus ((repeat' (first | with_reducible exact trivial | with_reducible exact rfl | (with_reducible apply And.intro) | exact in64 (by omega) (by omega) | omega)); done)) | dsimp only [go_sem, Nat.reduceAdd, Nat.reduceSub, Option.map, bne, BEq.beq, nds, fcs, strs, stepV, stepC, keysOk, isKey, lkV, Option.getD] | simp only [sS, Int.cast_ofNat_Int, Int.reduceEq, Int.reduceLT, Int.reduceLE, Int.reduceAdd, Int.reduceSub, Int.reduceToNat]))
    refine cpe [] (c57 ns (by omega)) rfl ?_
    rw [pathT_ok (by omega) hg]
    cases hp : parse ns with
    | none =>
      (repeat (first | with_reducible refine And.intro trivial ?_ | with_reducible refine And.intro rfl ?_ | (with_reducible refine And.intro ?_ ?_; focus ((repeat' (first | with_reducible exact trivial | with_reducible exact rfl | (with_reducible apply And.intro) | exact in64 (by omega) (by omega) | omega)); done)) | dsimp only [go_sem, Nat.reduceAdd, Nat.reduceSub, Option.map, bne, BEq.beq, nds, fcs, strs, stepV, stepC, keysOk, isKey, lkV, Option.getD] | simp only [sS, Int.cast_ofNat_Int, Int.reduceEq, Int.reduceLT, Int.reduceLE, Int.reduceAdd, Int.reduceSub, Int.reduceToNat]))
      (try simp only [show decide (true = false) = false from rfl, show decide (false = false) = true from rfl]); (repeat (first | with_reducible refine And.intro trivial ?_ | with_reducible refine And.intro rfl ?_ | (with_reducible refine And.intro ?_ ?_; focus ((repeat' (first | with_reducible exact trivial | with_reducible exact rfl | (with_reducible apply And.intro) | exact in64 (by omega) (by omega) | omega)); done)) | dsimp only [go_sem, Nat.reduceAdd, Nat.reduceSub, Option.map, bne, BEq.beq, nds, fcs, strs, stepV, stepC, keysOk, isKey, lkV, Option.getD] | simp only [sS, Int.cast_ofNat_Int, Int.reduceEq, Int.reduceLT, Int.reduceLE, Int.reduceAdd, Int.reduceSub, Int.reduceToNat]))
      refine fin0 ?_; (repeat (first | with_reducible refine And.intro trivial ?_ | with_reducible refine And.intro rfl ?_ | (with_reducible refine And.intro ?_ ?_; focus ((repeat' (first | with_reducible exact trivial | with_reducible exact rfl | (with_reducible apply And.intro) | exact in64 (by omega) (by omega) | omega)); done)) | dsimp only [go_sem, Nat.reduceAdd, Nat.reduceSub, Option.map, bne, BEq.beq, nds, fcs, strs, stepV, stepC, keysOk, isKey, lkV, Option.getD] | simp only [sS, Int.cast_ofNat_Int, Int.reduceEq, Int.reduceLT, Int.reduceLE, Int.reduceAdd, Int.reduceSub, Int.reduceToNat]))
    | some t =>
      obtain ⟨c0, c1, c2, c3, c4, e3⟩ := stepC_ht 0 t
      dsimp only [stepV]
      rw [e3]
      (repeat (first | with_reducible refine And.intro trivial ?_ | with_reducible refine And.intro rfl ?_ | (with_reducible refine And.intro ?_ ?_; focus ((repeat' (first | with_reducible exact trivial | with_reducible exact rfl | (with_reducible apply And.intro) | exact in64 (by omega) (by omega) | omega)); done)) | dsimp only [go_sem, Nat.reduceAdd, Nat.reduceSub, Option.map, bne, BEq.beq, nds, fcs, strs, stepV, stepC, keysOk, isKey, lkV, Option.getD] | simp only [sS, Int.cast_ofNat_Int, Int.reduceEq, Int.reduceLT, Int.reduceLE, Int.reduceAdd, Int.reduceSub, Int.reduceToNat]))
      (try simp only [show decide (true = false) = false from rfl, show decide (false = false) = true from rfl]); (repeat (first | with_reducible refine And.intro trivial ?_ | with_reducible refine And.intro rfl ?_ | (with_reducible refine And.intro ?_ ?_; focus ((repeat' (first | with_reducible exact trivial | with_reducible exact rfl | (with_reducible apply And.intro) | exact in64 (by omega) (by omega) | omega)); done)) | dsimp only [go_sem, Nat.reduceAdd, Nat.reduceSub, Option.map, bne, BEq.beq, nds, fcs, strs, stepV, stepC, keysOk, isKey, lkV, Option.getD] | simp only [sS, Int.cast_ofNat_Int, Int.reduceEq, Int.reduceLT, Int.reduceLE, Int.reduceAdd, Int.reduceSub, Int.reduceToNat]))
      by_cases h64 : t.ht ≤ 64
      · have hd2 : decide (64 < (t.ht : Int)) = false := by simp only [decide_eq_false_iff_not]; omega
        (repeat (simp only [hd2]; (repeat (first | with_reducible refine And.intro trivial ?_ | with_reducible refine And.intro rfl ?_ | (with_reducible refine And.intro ?_ ?_; focus ((repeat' (first | with_reducible exact trivial | with_reducible exact rfl | (with_reducible apply And.intro) | exact in64 (by omega) (by omega) | omega)); done)) | dsimp only [go_sem, Nat.reduceAdd, Nat.reduceSub, Option.map, bne, BEq.beq, nds, fcs, strs, stepV, stepC, keysOk, isKey, lkV, Option.getD] | simp only [sS, Int.cast_ofNat_Int, Int.reduceEq, Int.reduceLT, Int.reduceLE, Int.reduceAdd, Int.reduceSub, Int.reduceToNat]))))
        refine fin0 ?_; (repeat (first | with_reducible refine And.intro trivial ?_ | with_reducible refine And.intro rfl ?_ | (with_reducible refine And.intro ?_ ?_; focus ((repeat' (first | with_reducible exact trivial | with_reducible exact rfl | (with_reducible apply And.intro) | exact in64 (by omega) (by omega) | omega)); done)) | dsimp only [go_sem, Nat.reduceAdd, Nat.reduceSub, Option.map, bne, BEq.beq, nds, fcs, strs, stepV, stepC, keysOk, isKey, lkV, Option.getD] | simp only [sS, Int.cast_ofNat_Int, Int.reduceEq, Int.reduceLT, Int.reduceLE, Int.reduceAdd, Int.reduceSub, Int.reduceToNat]))
        simp [h64, e3]
      · have hd2 : decide (64 < (t.ht : Int)) = true := by simp only [decide_eq_true_eq]; omega
        (repeat (simp only [hd2]; (repeat (first | with_reducible refine And.intro trivial ?_ | with_reducible refine And.intro rfl ?_ | (with_reducible refine And.intro ?_ ?_; focus ((repeat' (first | with_reducible exact trivial | with_reducible exact rfl | (with_reducible apply And.intro) | exact in64 (by omega) (by omega) | omega)); done)) | dsimp only [go_sem, Nat.reduceAdd, Nat.reduceSub, Option.map, bne, BEq.beq, nds, fcs, strs, stepV, stepC, keysOk, isKey, lkV, Option.getD] | simp only [sS, Int.cast_ofNat_Int, Int.reduceEq, Int.reduceLT, Int.reduceLE, Int.reduceAdd, Int.reduceSub, Int.reduceToNat]))))
        refine fin0 ?_; (repeat (first | with_reducible refine And.intro trivial ?_ | with_reducible refine And.intro rfl ?_ | (with_reducible refine And.intro ?_ ?_; focus ((repeat' (first | with_reducible exact trivial | with_reducible exact rfl | (with_reducible apply And.intro) | exact in64 (by omega) (by omega) | omega)); done)) | dsimp only [go_sem, Nat.reduceAdd, Nat.reduceSub, Option.map, bne, BEq.beq, nds, fcs, strs, stepV, stepC, keysOk, isKey, lkV, Option.getD] | simp only [sS, Int.cast_ofNat_Int, Int.reduceEq, Int.reduceLT, Int.reduceLE, Int.reduceAdd, Int.reduceSub, Int.reduceToNat]))
        simp [h64]

/-- A set of texts as a map. -/
def mE (L : List B) : List (V × V) := L.map fun x => (.str x, .int .i64 1)
theorem mE_keys (L : List B) : ∀ x ∈ mE L, isKey none x.1 := by
  intro x hx; obtain ⟨y, _, rfl⟩ := List.mem_map.1 hx; trivial
theorem look_mE (x : B) (L : List B) : lookM (.str x) (mE L) = if x ∈ L then some (.int .i64 1) else none := by
  induction L with
  | nil => rfl
  | cons y L ih =>
    simp only [mE, List.map_cons, lookM, eqK]
    by_cases h : x = y
    · simp [h]
    · simp only [decide_eq_false h]
      rw [show List.map (fun x => (V.str x, V.int .i64 1)) L = mE L from rfl, ih]
      simp [h]
def insB (L : List B) (x : B) : List B := if x ∈ L then L else L ++ [x]
theorem ins_mE (x : B) (L : List B) : insM (.str x) (.int .i64 1) (mE L) = mE (insB L x) := by
  induction L with
  | nil => rfl
  | cons y L ih =>
    simp only [mE, List.map_cons, insM, eqK]
    by_cases h : x = y
    · subst h; simp [insB]
    · simp only [decide_eq_false h]
      rw [show List.map (fun x => (V.str x, V.int .i64 1)) L = mE L from rfl, ih]
      unfold insB
      by_cases h2 : x ∈ L <;> simp [h, h2, mE]
theorem mem_insB {L : List B} {x y : B} : y ∈ insB L x ↔ y = x ∨ y ∈ L := by
  unfold insB; split
  · rename_i h; constructor
    · exact .inr
    · rintro (rfl | h'); exact h; exact h'
  · simp [or_comm]
theorem nodup_insB {L : List B} {x : B} (h : L.Nodup) : (insB L x).Nodup := by
  unfold insB; split
  · exact h
  · rename_i hx
    rw [List.nodup_append]
    exact ⟨h, by simp, by rintro a ha b hb rfl; simp at hb; exact hx (hb ▸ ha)⟩
theorem mE_len (L : List B) : (mE L).length = L.length := by simp [mE]

theorem c58 (x : B) (L : List B) : ACalls prog [] 58 [.mp 0, .g (.str x)] [.map (mE L)] (fun r E => r = .g (.bool (decide (x ∈ L))) ∧ E = [.map (mE L)]) := by
  refine ACalls.enter mixed comp58 ?_
  dsimp only [ir58]
  (repeat (first | with_reducible refine And.intro trivial ?_ | with_reducible refine And.intro rfl ?_ | (with_reducible refine And.intro ?_ ?_; focus ((repeat' (first | with_reducible exact trivial | with_reducible exact rfl | (with_reducible apply And.intro) | exact in64 (by omega) (by omega) | omega)); done)) | dsimp only [go_sem, Nat.reduceAdd, Nat.reduceSub, Option.map, bne, BEq.beq, nds, fcs, strs, stepV, stepC, keysOk, isKey, lkV, Option.getD] | simp only [sS, Int.cast_ofNat_Int, Int.reduceEq, Int.reduceLT, Int.reduceLE, Int.reduceAdd, Int.reduceSub, Int.reduceToNat]))
  refine ⟨⟨trivial, mE_keys L⟩, ?_⟩
  rw [look_mE]
  by_cases h : x ∈ L
  · simp only [h, if_true, Option.getD]
    (repeat (first | with_reducible refine And.intro trivial ?_ | with_reducible refine And.intro rfl ?_ | (with_reducible refine And.intro ?_ ?_; focus ((repeat' (first | with_reducible exact trivial | with_reducible exact rfl | (with_reducible apply And.intro) | exact in64 (by omega) (by omega) | omega)); done)) | dsimp only [go_sem, Nat.reduceAdd, Nat.reduceSub, Option.map, bne, BEq.beq, nds, fcs, strs, stepV, stepC, keysOk, isKey, lkV, Option.getD] | simp only [sS, Int.cast_ofNat_Int, Int.reduceEq, Int.reduceLT, Int.reduceLE, Int.reduceAdd, Int.reduceSub, Int.reduceToNat]))
    refine finA0 ?_; (repeat (first | with_reducible refine And.intro trivial ?_ | with_reducible refine And.intro rfl ?_ | (with_reducible refine And.intro ?_ ?_; focus ((repeat' (first | with_reducible exact trivial | with_reducible exact rfl | (with_reducible apply And.intro) | exact in64 (by omega) (by omega) | omega)); done)) | dsimp only [go_sem, Nat.reduceAdd, Nat.reduceSub, Option.map, bne, BEq.beq, nds, fcs, strs, stepV, stepC, keysOk, isKey, lkV, Option.getD] | simp only [sS, Int.cast_ofNat_Int, Int.reduceEq, Int.reduceLT, Int.reduceLE, Int.reduceAdd, Int.reduceSub, Int.reduceToNat]))
    refine ⟨true, [], rfl, ?_⟩
    (repeat (first | with_reducible refine And.intro trivial ?_ | with_reducible refine And.intro rfl ?_ | (with_reducible refine And.intro ?_ ?_; focus ((repeat' (first | with_reducible exact trivial | with_reducible exact rfl | (with_reducible apply And.intro) | exact in64 (by omega) (by omega) | omega)); done)) | dsimp only [go_sem, Nat.reduceAdd, Nat.reduceSub, Option.map, bne, BEq.beq, nds, fcs, strs, stepV, stepC, keysOk, isKey, lkV, Option.getD] | simp only [sS, Int.cast_ofNat_Int, Int.reduceEq, Int.reduceLT, Int.reduceLE, Int.reduceAdd, Int.reduceSub, Int.reduceToNat]))
  · simp only [h, if_false, Option.getD]
    (repeat (first | with_reducible refine And.intro trivial ?_ | with_reducible refine And.intro rfl ?_ | (with_reducible refine And.intro ?_ ?_; focus ((repeat' (first | with_reducible exact trivial | with_reducible exact rfl | (with_reducible apply And.intro) | exact in64 (by omega) (by omega) | omega)); done)) | dsimp only [go_sem, Nat.reduceAdd, Nat.reduceSub, Option.map, bne, BEq.beq, nds, fcs, strs, stepV, stepC, keysOk, isKey, lkV, Option.getD] | simp only [sS, Int.cast_ofNat_Int, Int.reduceEq, Int.reduceLT, Int.reduceLE, Int.reduceAdd, Int.reduceSub, Int.reduceToNat]))
    refine finA0 ?_; (repeat (first | with_reducible refine And.intro trivial ?_ | with_reducible refine And.intro rfl ?_ | (with_reducible refine And.intro ?_ ?_; focus ((repeat' (first | with_reducible exact trivial | with_reducible exact rfl | (with_reducible apply And.intro) | exact in64 (by omega) (by omega) | omega)); done)) | dsimp only [go_sem, Nat.reduceAdd, Nat.reduceSub, Option.map, bne, BEq.beq, nds, fcs, strs, stepV, stepC, keysOk, isKey, lkV, Option.getD] | simp only [sS, Int.cast_ofNat_Int, Int.reduceEq, Int.reduceLT, Int.reduceLE, Int.reduceAdd, Int.reduceSub, Int.reduceToNat]))
    refine ⟨true, [], rfl, ?_⟩
    (repeat (first | with_reducible refine And.intro trivial ?_ | with_reducible refine And.intro rfl ?_ | (with_reducible refine And.intro ?_ ?_; focus ((repeat' (first | with_reducible exact trivial | with_reducible exact rfl | (with_reducible apply And.intro) | exact in64 (by omega) (by omega) | omega)); done)) | dsimp only [go_sem, Nat.reduceAdd, Nat.reduceSub, Option.map, bne, BEq.beq, nds, fcs, strs, stepV, stepC, keysOk, isKey, lkV, Option.getD] | simp only [sS, Int.cast_ofNat_Int, Int.reduceEq, Int.reduceLT, Int.reduceLE, Int.reduceAdd, Int.reduceSub, Int.reduceToNat]))
theorem c58n (x : B) : PCall prog [] 58 [.x (.map none), .str x] (· = .bool false) := by
  refine PCall.enter mixed comp58 ?_
  dsimp only [ir58]
  (repeat (first | with_reducible refine And.intro trivial ?_ | with_reducible refine And.intro rfl ?_ | (with_reducible refine And.intro ?_ ?_; focus ((repeat' (first | with_reducible exact trivial | with_reducible exact rfl | (with_reducible apply And.intro) | exact in64 (by omega) (by omega) | omega)); done)) | dsimp only [go_sem, Nat.reduceAdd, Nat.reduceSub, Option.map, bne, BEq.beq, nds, fcs, strs, stepV, stepC, keysOk, isKey, lkV, Option.getD] | simp only [sS, Int.cast_ofNat_Int, Int.reduceEq, Int.reduceLT, Int.reduceLE, Int.reduceAdd, Int.reduceSub, Int.reduceToNat]))
  refine fin0 ?_; (repeat (first | with_reducible refine And.intro trivial ?_ | with_reducible refine And.intro rfl ?_ | (with_reducible refine And.intro ?_ ?_; focus ((repeat' (first | with_reducible exact trivial | with_reducible exact rfl | (with_reducible apply And.intro) | exact in64 (by omega) (by omega) | omega)); done)) | dsimp only [go_sem, Nat.reduceAdd, Nat.reduceSub, Option.map, bne, BEq.beq, nds, fcs, strs, stepV, stepC, keysOk, isKey, lkV, Option.getD] | simp only [sS, Int.cast_ofNat_Int, Int.reduceEq, Int.reduceLT, Int.reduceLE, Int.reduceAdd, Int.reduceSub, Int.reduceToNat]))
end Go.Av

namespace Go.Av
set_option linter.unusedVariables false
set_option linter.unusedSimpArgs false

def Sm (L M : List B) : Prop := ∀ x, x ∈ L ↔ x ∈ M
/-- What a fact adds to a set. -/
def ins1 (n : Nd) (a : List B) (out : List B) (f : Fc) : List B :=
  if n.k = 1 then insB (insB out f.s) f.o
  else if n.k = 2 then (if f.s = n.s ∨ f.o = n.s then insB out n.s else out)
  else if n.k = 3 then (if f.p = n.s ∧ f.s ∈ a then insB out f.o else out)
  else if n.k = 4 then (if f.p = n.s ∧ f.o ∈ a then insB out f.s else out)
  else if n.k = 5 then (if f.p = n.s ∧ f.o = n.t ∧ f.s ∈ a then insB out f.s else out)
  else out
theorem ins_add {L M : List B} (h : Sm L M) (x : B) : Sm (insB L x) (addS M x) := fun y => by rw [mem_insB, mem_addS, h y]
theorem ins1_sm {n : Nd} {a a' : List B} (ha : Sm a a') {L M : List B} (h : Sm L M) (f : Fc) : Sm (ins1 n a L f) (step1 n a' M f) := by
  unfold ins1 step1
  have e1 := ha f.s
  have e2 := ha f.o
  simp only [e1, e2]
  (repeat' split) <;> first | exact h | exact ins_add h _ | exact ins_add (ins_add h _) _ | (exfalso; simp_all)
theorem ins1_nd {n : Nd} {a L : List B} (h : L.Nodup) (f : Fc) : (ins1 n a L f).Nodup := by
  unfold ins1
  (repeat' split) <;> first | exact h | exact nodup_insB h | exact nodup_insB (nodup_insB h)
/-- The set after i facts. -/
def acI (n : Nd) (a : List B) (lab : Option B) (fs : List Fc) (i : Nat) : List B := ((fs.take i).filter (inl lab)).foldl (ins1 n a) []
theorem acI_next (n : Nd) (a : List B) (lab : Option B) (fs : List Fc) {i : Nat} (h : i < fs.length) : acI n a lab fs (i + 1) = if inl lab fs[i] = true then ins1 n a (acI n a lab fs i) fs[i] else acI n a lab fs i := by
  unfold acI
  rw [List.take_succ_eq_append_getElem h, List.filter_append, List.foldl_append]
  by_cases hi : inl lab fs[i] = true <;> simp [hi]
theorem fold_sm {n : Nd} {a a' : List B} (ha : Sm a a') : ∀ (fs : List Fc) {L M : List B}, Sm L M → Sm (fs.foldl (ins1 n a) L) (fs.foldl (step1 n a') M)
  | [], L, M, h => h
  | f :: fs, L, M, h => fold_sm ha fs (ins1_sm ha h f)
theorem fold_nd {n : Nd} {a : List B} : ∀ (fs : List Fc) {L : List B}, L.Nodup → (fs.foldl (ins1 n a) L).Nodup
  | [], L, h => h
  | f :: fs, L, h => fold_nd fs (ins1_nd h f)
theorem acI_nd (n : Nd) (a : List B) (lab : Option B) (fs : List Fc) (i : Nat) : (acI n a lab fs i).Nodup := fold_nd _ List.nodup_nil
theorem acI_sm {n : Nd} {a a' : List B} (ha : Sm a a') (lab : Option B) (fs : List Fc) : Sm (acI n a lab fs fs.length) ((fs.filter (inl lab)).foldl (step1 n a') []) := by
  unfold acI; rw [List.take_length]; exact fold_sm ha _ fun x => Iff.rfl

/-- Indices seen of a set that is gone over. -/
structure Seen (A : List B) (seen : List Nat) : Prop where
  nd : seen.Nodup
  lt : ∀ i ∈ seen, i < A.length
theorem Seen.nil (A : List B) : Seen A [] := ⟨List.nodup_nil, by simp⟩
theorem hasB_mem (l : List Nat) (i : Nat) : hasB l i = true ↔ i ∈ l := by
  induction l with
  | nil => simp [hasB]
  | cons a l ih =>
    unfold hasB
    split
    · rename_i hb
      have := Nat.eq_of_beq_eq_true hb
      simp [this]
    · rename_i hb
      have := Nat.ne_of_beq_eq_false hb
      rw [ih]
      simp [Ne.symm this]
theorem Seen.add {A : List B} {seen : List Nat} (h : Seen A seen) {i : Nat} (hn : hasB seen i = false) (hi : i < A.length) : Seen A (seen ++ [i]) := by
  have hm : i ∉ seen := fun hc => by rw [(hasB_mem seen i).2 hc] at hn; cases hn
  refine ⟨?_, ?_⟩
  · rw [List.nodup_append]
    exact ⟨h.nd, by simp, by rintro a ha b hb rfl; simp at hb; exact hm (hb ▸ ha)⟩
  · intro j hj
    rcases List.mem_append.1 hj with hj | hj
    · exact h.lt j hj
    · simp at hj; omega
theorem nodup_lenN {a b : List Nat} (h : a.Nodup) (hs : ∀ x ∈ a, x ∈ b) : a.length ≤ b.length := by
  induction a generalizing b with
  | nil => simp
  | cons x a ih =>
    obtain ⟨h1, h2⟩ := List.nodup_cons.1 h
    have hx := hs x (by simp)
    have := ih (b := b.erase x) h2 fun y hy => by
      have : y ≠ x := fun e => h1 (e ▸ hy)
      exact (List.mem_erase_of_ne this).2 (hs y (by simp [hy]))
    rw [List.length_erase_of_mem hx] at this
    have := List.length_pos_of_mem hx
    simp; omega
theorem Seen.len {A : List B} {seen : List Nat} (h : Seen A seen) : seen.length ≤ A.length := by
  have := nodup_lenN (b := List.range A.length) h.nd fun i hi => List.mem_range.2 (h.lt i hi)
  simpa using this
theorem mE_at {A : List B} {i : Nat} {x : V × V} (h : (mE A)[i]? = some x) : ∃ hi : i < A.length, x = (.str A[i], .int .i64 1) := by
  unfold mE at h
  rw [List.getElem?_map] at h
  cases hA : A[i]? with
  | none => rw [hA] at h; cases h
  | some y =>
    obtain ⟨hi, rfl⟩ := List.getElem?_eq_some_iff.1 hA
    rw [hA] at h
    exact ⟨hi, (Option.some.inj h).symm⟩
/-- The texts seen that are kept, put into a set. -/
def Got (A : List B) (q : B → Bool) (L0 : List B) (seen : List Nat) (L : List B) : Prop := ∀ x, x ∈ L ↔ x ∈ L0 ∨ ∃ i ∈ seen, A[i]? = some x ∧ q x = true
theorem Got.nil (A : List B) (q : B → Bool) (L0 : List B) : Got A q L0 [] L0 := fun x => by simp
theorem Got.yes {A : List B} {q : B → Bool} {L0 L : List B} {seen : List Nat} (h : Got A q L0 seen L) {i : Nat} (hi : i < A.length) (hq : q A[i] = true) : Got A q L0 (seen ++ [i]) (insB L A[i]) := fun x => by
  rw [mem_insB, h x]
  constructor
  · rintro (rfl | h | ⟨j, h1, h2, h3⟩)
    · exact .inr ⟨i, by simp, List.getElem?_eq_getElem hi, hq⟩
    · exact .inl h
    · exact .inr ⟨j, by simp [h1], h2, h3⟩
  · rintro (h | ⟨j, h1, h2, h3⟩)
    · exact .inr (.inl h)
    · rcases List.mem_append.1 h1 with h1 | h1
      · exact .inr (.inr ⟨j, h1, h2, h3⟩)
      · simp at h1; subst h1
        rw [List.getElem?_eq_getElem hi] at h2
        exact .inl (Option.some.inj h2).symm
theorem Got.no {A : List B} {q : B → Bool} {L0 L : List B} {seen : List Nat} (h : Got A q L0 seen L) {i : Nat} (hi : i < A.length) (hq : q A[i] = false) : Got A q L0 (seen ++ [i]) L := fun x => by
  rw [h x]
  constructor
  · rintro (h | ⟨j, h1, h2, h3⟩)
    · exact .inl h
    · exact .inr ⟨j, by simp [h1], h2, h3⟩
  · rintro (h | ⟨j, h1, h2, h3⟩)
    · exact .inl h
    · rcases List.mem_append.1 h1 with h1 | h1
      · exact .inr ⟨j, h1, h2, h3⟩
      · simp at h1; subst h1
        rw [List.getElem?_eq_getElem hi] at h2
        rw [← Option.some.inj h2, hq] at h3; cases h3
theorem Got.all {A : List B} {q : B → Bool} {L0 L : List B} {seen : List Nat} (h : Got A q L0 seen L) (hs : ∀ i, i < (mE A).length → hasB seen i = true) : ∀ x, x ∈ L ↔ x ∈ L0 ∨ (x ∈ A ∧ q x = true) := fun x => by
  rw [h x]
  constructor
  · rintro (h | ⟨j, h1, h2, h3⟩)
    · exact .inl h
    · obtain ⟨hj, rfl⟩ := List.getElem?_eq_some_iff.1 h2
      exact .inr ⟨List.getElem_mem hj, h3⟩
  · rintro (h | ⟨h1, h2⟩)
    · exact .inl h
    · obtain ⟨j, hj, rfl⟩ := List.mem_iff_getElem.1 h1
      exact .inr ⟨j, (hasB_mem seen j).1 (hs j (by rw [mE_len]; exact hj)), List.getElem?_eq_getElem hj, h2⟩
/-- A label as the program holds it. -/
def labP (lab : Option B) (r : List V) : V := match lab with
  | none => .x (.pointer none)
  | some g => .fptr (.str g :: r)
/-- A set's map that holds a meaning. -/
def Q33 (m : List B) (r : LV) (E : List Obj) : Prop := r = .mp 0 ∧ ∃ L, E = [.map (mE L)] ∧ L.Nodup ∧ Sm L m
theorem foldAdd_mem (b : List B) : ∀ (a : List B) (x : B), x ∈ b.foldl addS a ↔ x ∈ a ∨ x ∈ b := by
  induction b with
  | nil => intro a x; simp
  | cons y b ih => intro a x; rw [List.foldl_cons, ih, mem_addS]; simp only [List.mem_cons]; exact ⟨fun h => h.elim (fun h => h.elim (fun h => .inr (.inl h)) .inl) (fun h => .inr (.inr h)), fun h => h.elim (fun h => .inl (.inr h)) fun h => h.elim (fun h => .inl (.inl h)) .inr⟩
end Go.Av
