/-
  Values at a distance from memory, states of a call, and contracts of functions over them. No condition.
-/
import Derived.Test.YtfpdolhfomfgpaaQ04
namespace Go.Av
set_option maxRecDepth 100000
theorem mixed : Go.Proofs.Try.prog.follows .mixedOrders = true := by kernel_rfl
/-- loop.example/s01136/laws.eqStringS -/
def ir16 : IrF := ⟨.seq (.reg [
  ⟨(some 4), none, .q (.mov (.c (.bool false)))⟩]) (
 .seq (.seq (.reg [
  ⟨(some 6), none, .q (.mov (.t 0))⟩,
  ⟨(some 7), none, .q (.len (.t 6))⟩,
  ⟨(some 8), none, .q (.mov (.t 1))⟩,
  ⟨(some 9), none, .q (.len (.t 8))⟩,
  ⟨(some 10), none, .q (.bin .neq false (.t 7) (.t 9))⟩]) (
 .cond 10 (
  .seq (.reg [
    ⟨(some 4), none, .q (.mov (.c (.bool false)))⟩]) (
  .ret)) (
  .skip))) (
 .seq (.seq (.reg [
  ⟨(some 5), none, .q (.mov (.c (.int .i64 0)))⟩]) (
 .block (
  .loop (
    .seq (.seq (.reg [
      ⟨(some 11), none, .q (.mov (.t 5))⟩,
      ⟨(some 12), none, .q (.mov (.t 0))⟩,
      ⟨(some 13), none, .q (.len (.t 12))⟩,
      ⟨(some 14), none, .q (.bin .lss false (.t 11) (.t 13))⟩]) (
    .cond 14 (
      .skip) (
      .exit 0))) (
    .seq (.block (
      .seq (.reg [
        ⟨(some 17), none, .q (.mov (.t 0))⟩,
        ⟨(some 18), none, .q (.mov (.t 5))⟩,
        ⟨(some 19), none, .q (.ia 1 (.t 17) (.t 18))⟩,
        ⟨(some 20), none, .q (.load none (.t 19))⟩,
        ⟨(some 21), none, .q (.mov (.t 1))⟩,
        ⟨(some 22), none, .q (.mov (.t 5))⟩,
        ⟨(some 23), none, .q (.ia 1 (.t 21) (.t 22))⟩,
        ⟨(some 24), none, .q (.load none (.t 23))⟩,
        ⟨(some 25), none, .q (.bin .neq false (.t 20) (.t 24))⟩]) (
      .cond 25 (
        .seq (.reg [
          ⟨(some 4), none, .q (.mov (.c (.bool false)))⟩]) (
        .ret)) (
        .skip)))) (
    .reg [
      ⟨(some 15), none, .q (.mov (.t 5))⟩,
      ⟨(some 16), none, .q (.bin .add false (.t 15) (.c (.int .i64 1)))⟩,
      ⟨(some 5), none, .q (.mov (.t 16))⟩])))))) (
 .seq (.reg [
  ⟨(some 4), none, .q (.mov (.c (.bool true)))⟩]) (
 .ret)))), 26, [.t 4]⟩
theorem comp16 : compF Go.Proofs.Try.prog [] wr64 16 = some ir16 := by kernel_rfl
/-- loop.example/s01136/laws.szFactS -/
def ir13 : IrF := ⟨.seq (.reg [
  ⟨(some 4), none, .q (.mov (.c (.int .i64 0)))⟩]) (
 .seq (.reg [
  ⟨(some 6), none, .q (.mov (.t 1))⟩,
  ⟨(some 7), none, .q (.mov (.t 0))⟩,
  ⟨(some 8), none, .q (.len (.t 7))⟩,
  ⟨(some 9), none, .q (.bin .sub false (.t 6) (.t 8))⟩,
  ⟨(some 1), none, .q (.mov (.t 9))⟩]) (
 .seq (.seq (.reg [
  ⟨(some 10), none, .q (.mov (.t 1))⟩,
  ⟨(some 11), none, .q (.bin .lss false (.t 10) (.c (.int .i64 0)))⟩]) (
 .cond 11 (
  .seq (.reg [
    ⟨(some 4), none, .q (.mov (.c (.int .i64 (-1))))⟩]) (
  .ret)) (
  .skip))) (
 .seq (.seq (.reg [
  ⟨(some 5), none, .q (.mov (.c (.int .i64 0)))⟩]) (
 .block (
  .loop (
    .seq (.seq (.reg [
      ⟨(some 12), none, .q (.mov (.t 5))⟩,
      ⟨(some 13), none, .q (.mov (.t 0))⟩,
      ⟨(some 14), none, .q (.len (.t 13))⟩,
      ⟨(some 15), none, .q (.bin .lss false (.t 12) (.t 14))⟩]) (
    .cond 15 (
      .skip) (
      .exit 0))) (
    .seq (.block (
      .seq (.reg [
        ⟨(some 18), none, .q (.mov (.t 0))⟩,
        ⟨(some 19), none, .q (.mov (.t 5))⟩,
        ⟨(some 20), none, .q (.ia 4 (.t 18) (.t 19))⟩,
        ⟨(some 21), none, .q (.load (some 4) (.t 20))⟩,
        ⟨(some 22), none, .q (.mov (.t 1))⟩,
        ⟨(some 23), none, .callx 37 [(.t 21), (.t 22)]⟩,
        ⟨(some 1), none, .q (.mov (.t 23))⟩]) (
      .seq (.reg [
        ⟨(some 24), none, .q (.mov (.t 1))⟩,
        ⟨(some 25), none, .q (.bin .lss false (.t 24) (.c (.int .i64 0)))⟩]) (
      .cond 25 (
        .seq (.reg [
          ⟨(some 4), none, .q (.mov (.c (.int .i64 (-1))))⟩]) (
        .ret)) (
        .skip))))) (
    .reg [
      ⟨(some 16), none, .q (.mov (.t 5))⟩,
      ⟨(some 17), none, .q (.bin .add false (.t 16) (.c (.int .i64 1)))⟩,
      ⟨(some 5), none, .q (.mov (.t 17))⟩])))))) (
 .seq (.reg [
  ⟨(some 26), none, .q (.mov (.t 1))⟩,
  ⟨(some 4), none, .q (.mov (.t 26))⟩]) (
 .ret))))), 27, [.t 4]⟩
theorem comp13 : compF Go.Proofs.Try.prog [] wr64 13 = some ir13 := by kernel_rfl
/-- loop.example/s01136/laws.szPNodeS -/
def ir36 : IrF := ⟨.seq (.reg [
  ⟨(some 4), none, .q (.mov (.c (.int .i64 0)))⟩]) (
 .seq (.reg [
  ⟨(some 6), none, .q (.mov (.t 1))⟩,
  ⟨(some 7), none, .q (.mov (.t 0))⟩,
  ⟨(some 8), none, .q (.len (.t 7))⟩,
  ⟨(some 9), none, .q (.bin .sub false (.t 6) (.t 8))⟩,
  ⟨(some 1), none, .q (.mov (.t 9))⟩]) (
 .seq (.seq (.reg [
  ⟨(some 10), none, .q (.mov (.t 1))⟩,
  ⟨(some 11), none, .q (.bin .lss false (.t 10) (.c (.int .i64 0)))⟩]) (
 .cond 11 (
  .seq (.reg [
    ⟨(some 4), none, .q (.mov (.c (.int .i64 (-1))))⟩]) (
  .ret)) (
  .skip))) (
 .seq (.seq (.reg [
  ⟨(some 5), none, .q (.mov (.c (.int .i64 0)))⟩]) (
 .block (
  .loop (
    .seq (.seq (.reg [
      ⟨(some 12), none, .q (.mov (.t 5))⟩,
      ⟨(some 13), none, .q (.mov (.t 0))⟩,
      ⟨(some 14), none, .q (.len (.t 13))⟩,
      ⟨(some 15), none, .q (.bin .lss false (.t 12) (.t 14))⟩]) (
    .cond 15 (
      .skip) (
      .exit 0))) (
    .seq (.block (
      .seq (.reg [
        ⟨(some 18), none, .q (.mov (.t 0))⟩,
        ⟨(some 19), none, .q (.mov (.t 5))⟩,
        ⟨(some 20), none, .q (.ia 3 (.t 18) (.t 19))⟩,
        ⟨(some 21), none, .q (.load (some 3) (.t 20))⟩,
        ⟨(some 22), none, .q (.mov (.t 1))⟩,
        ⟨(some 23), none, .callx 65 [(.t 21), (.t 22)]⟩,
        ⟨(some 1), none, .q (.mov (.t 23))⟩]) (
      .seq (.reg [
        ⟨(some 24), none, .q (.mov (.t 1))⟩,
        ⟨(some 25), none, .q (.bin .lss false (.t 24) (.c (.int .i64 0)))⟩]) (
      .cond 25 (
        .seq (.reg [
          ⟨(some 4), none, .q (.mov (.c (.int .i64 (-1))))⟩]) (
        .ret)) (
        .skip))))) (
    .reg [
      ⟨(some 16), none, .q (.mov (.t 5))⟩,
      ⟨(some 17), none, .q (.bin .add false (.t 16) (.c (.int .i64 1)))⟩,
      ⟨(some 5), none, .q (.mov (.t 17))⟩])))))) (
 .seq (.reg [
  ⟨(some 26), none, .q (.mov (.t 1))⟩,
  ⟨(some 4), none, .q (.mov (.t 26))⟩]) (
 .ret))))), 27, [.t 4]⟩
theorem comp36 : compF Go.Proofs.Try.prog [] wr64 36 = some ir36 := by kernel_rfl
/-- loop.example/s01136/laws.szFact -/
def ir37 : IrF := ⟨.seq (.reg [
  ⟨(some 2), none, .box (.t 0)⟩,
  ⟨(some 4), none, .q (.mov (.c (.int .i64 0)))⟩]) (
 .seq (.reg [
  ⟨(some 5), none, .q (.mov (.t 1))⟩,
  ⟨(some 6), none, .q (.fa 0 (.t 2))⟩,
  ⟨(some 7), none, .q (.load none (.t 6))⟩,
  ⟨(some 8), none, .q (.slen (.t 7))⟩,
  ⟨(some 9), none, .q (.bin .sub false (.t 5) (.t 8))⟩,
  ⟨(some 1), none, .q (.mov (.t 9))⟩]) (
 .seq (.seq (.reg [
  ⟨(some 10), none, .q (.mov (.t 1))⟩,
  ⟨(some 11), none, .q (.bin .lss false (.t 10) (.c (.int .i64 0)))⟩]) (
 .cond 11 (
  .seq (.reg [
    ⟨(some 4), none, .q (.mov (.c (.int .i64 (-1))))⟩]) (
  .ret)) (
  .skip))) (
 .seq (.reg [
  ⟨(some 12), none, .q (.mov (.t 1))⟩,
  ⟨(some 13), none, .q (.fa 1 (.t 2))⟩,
  ⟨(some 14), none, .q (.load none (.t 13))⟩,
  ⟨(some 15), none, .q (.slen (.t 14))⟩,
  ⟨(some 16), none, .q (.bin .sub false (.t 12) (.t 15))⟩,
  ⟨(some 1), none, .q (.mov (.t 16))⟩]) (
 .seq (.seq (.reg [
  ⟨(some 17), none, .q (.mov (.t 1))⟩,
  ⟨(some 18), none, .q (.bin .lss false (.t 17) (.c (.int .i64 0)))⟩]) (
 .cond 18 (
  .seq (.reg [
    ⟨(some 4), none, .q (.mov (.c (.int .i64 (-1))))⟩]) (
  .ret)) (
  .skip))) (
 .seq (.reg [
  ⟨(some 19), none, .q (.mov (.t 1))⟩,
  ⟨(some 20), none, .q (.fa 2 (.t 2))⟩,
  ⟨(some 21), none, .q (.load none (.t 20))⟩,
  ⟨(some 22), none, .q (.slen (.t 21))⟩,
  ⟨(some 23), none, .q (.bin .sub false (.t 19) (.t 22))⟩,
  ⟨(some 1), none, .q (.mov (.t 23))⟩]) (
 .seq (.seq (.reg [
  ⟨(some 24), none, .q (.mov (.t 1))⟩,
  ⟨(some 25), none, .q (.bin .lss false (.t 24) (.c (.int .i64 0)))⟩]) (
 .cond 25 (
  .seq (.reg [
    ⟨(some 4), none, .q (.mov (.c (.int .i64 (-1))))⟩]) (
  .ret)) (
  .skip))) (
 .seq (.reg [
  ⟨(some 26), none, .q (.mov (.t 1))⟩,
  ⟨(some 27), none, .q (.fa 3 (.t 2))⟩,
  ⟨(some 28), none, .q (.load none (.t 27))⟩,
  ⟨(some 29), none, .q (.slen (.t 28))⟩,
  ⟨(some 30), none, .q (.bin .sub false (.t 26) (.t 29))⟩,
  ⟨(some 1), none, .q (.mov (.t 30))⟩]) (
 .seq (.seq (.reg [
  ⟨(some 31), none, .q (.mov (.t 1))⟩,
  ⟨(some 32), none, .q (.bin .lss false (.t 31) (.c (.int .i64 0)))⟩]) (
 .cond 32 (
  .seq (.reg [
    ⟨(some 4), none, .q (.mov (.c (.int .i64 (-1))))⟩]) (
  .ret)) (
  .skip))) (
 .seq (.reg [
  ⟨(some 33), none, .q (.mov (.t 1))⟩,
  ⟨(some 4), none, .q (.mov (.t 33))⟩]) (
 .ret)))))))))), 34, [.t 4]⟩
theorem comp37 : compF Go.Proofs.Try.prog [] wr64 37 = some ir37 := by kernel_rfl
/-- loop.example/s01136/laws.szPNode -/
def ir65 : IrF := ⟨.seq (.reg [
  ⟨(some 2), none, .box (.t 0)⟩,
  ⟨(some 4), none, .q (.mov (.c (.int .i64 0)))⟩]) (
 .seq (.reg [
  ⟨(some 5), none, .q (.mov (.t 1))⟩,
  ⟨(some 6), none, .q (.fa 1 (.t 2))⟩,
  ⟨(some 7), none, .q (.load none (.t 6))⟩,
  ⟨(some 8), none, .q (.slen (.t 7))⟩,
  ⟨(some 9), none, .q (.bin .sub false (.t 5) (.t 8))⟩,
  ⟨(some 1), none, .q (.mov (.t 9))⟩]) (
 .seq (.seq (.reg [
  ⟨(some 10), none, .q (.mov (.t 1))⟩,
  ⟨(some 11), none, .q (.bin .lss false (.t 10) (.c (.int .i64 0)))⟩]) (
 .cond 11 (
  .seq (.reg [
    ⟨(some 4), none, .q (.mov (.c (.int .i64 (-1))))⟩]) (
  .ret)) (
  .skip))) (
 .seq (.reg [
  ⟨(some 12), none, .q (.mov (.t 1))⟩,
  ⟨(some 13), none, .q (.fa 2 (.t 2))⟩,
  ⟨(some 14), none, .q (.load none (.t 13))⟩,
  ⟨(some 15), none, .q (.slen (.t 14))⟩,
  ⟨(some 16), none, .q (.bin .sub false (.t 12) (.t 15))⟩,
  ⟨(some 1), none, .q (.mov (.t 16))⟩]) (
 .seq (.seq (.reg [
  ⟨(some 17), none, .q (.mov (.t 1))⟩,
  ⟨(some 18), none, .q (.bin .lss false (.t 17) (.c (.int .i64 0)))⟩]) (
 .cond 18 (
  .seq (.reg [
    ⟨(some 4), none, .q (.mov (.c (.int .i64 (-1))))⟩]) (
  .ret)) (
  .skip))) (
 .seq (.reg [
  ⟨(some 19), none, .q (.mov (.t 1))⟩,
  ⟨(some 4), none, .q (.mov (.t 19))⟩]) (
 .ret)))))), 20, [.t 4]⟩
theorem comp65 : compF Go.Proofs.Try.prog [] wr64 65 = some ir65 := by kernel_rfl
/-- loop.example/s01136/laws.szPath -/
def ir12 : IrF := ⟨.seq (.reg [
  ⟨(some 2), none, .box (.t 0)⟩,
  ⟨(some 4), none, .q (.mov (.c (.int .i64 0)))⟩]) (
 .seq (.reg [
  ⟨(some 5), none, .q (.fa 0 (.t 2))⟩,
  ⟨(some 6), none, .q (.load none (.t 5))⟩,
  ⟨(some 7), none, .q (.mov (.t 1))⟩,
  ⟨(some 8), none, .callx 36 [(.t 6), (.t 7)]⟩,
  ⟨(some 1), none, .q (.mov (.t 8))⟩]) (
 .seq (.seq (.reg [
  ⟨(some 9), none, .q (.mov (.t 1))⟩,
  ⟨(some 10), none, .q (.bin .lss false (.t 9) (.c (.int .i64 0)))⟩]) (
 .cond 10 (
  .seq (.reg [
    ⟨(some 4), none, .q (.mov (.c (.int .i64 (-1))))⟩]) (
  .ret)) (
  .skip))) (
 .seq (.reg [
  ⟨(some 11), none, .q (.mov (.t 1))⟩,
  ⟨(some 4), none, .q (.mov (.t 11))⟩]) (
 .ret)))), 12, [.t 4]⟩
theorem comp12 : compF Go.Proofs.Try.prog [] wr64 12 = some ir12 := by kernel_rfl
/-- loop.example/s01136/laws.toPath -/
def ir14 : IrF := ⟨.seq (.reg [
  ⟨(some 1), none, .box (.t 0)⟩,
  ⟨(some 2), none, .alloc [.nils]⟩]) (
 .seq (.reg [
  ⟨(some 3), none, .alloc [.nils]⟩]) (
 .seq (.reg [
  ⟨(some 4), none, .q (.fa 0 (.t 1))⟩,
  ⟨(some 5), none, .q (.load none (.t 4))⟩,
  ⟨(some 6), none, .callx 38 [(.t 5)]⟩,
  ⟨(some 7), none, .q (.fa 0 (.t 3))⟩,
  ⟨none, none, .store 1 (.t 7) (.t 6)⟩]) (
 .seq (.reg [
  ⟨(some 8), none, .q (.load (some 1) (.t 3))⟩,
  ⟨none, none, .store 1 (.t 2) (.t 8)⟩]) (
 .ret)))), 9, [.c 2 (some 1)]⟩
theorem comp14 : compF Go.Proofs.Try.prog [] wr64 14 = some ir14 := by kernel_rfl
/-- loop.example/s01136/laws.toFactS -/
def ir15 : IrF := ⟨.seq (.reg [
  ⟨(some 2), none, .q (.mov (.c .nils))⟩]) (
 .seq (.reg [
  ⟨(some 5), none, .q (.mov (.t 0))⟩,
  ⟨(some 6), none, .q (.len (.t 5))⟩,
  ⟨(some 7), none, .mks 4 64 [(.str []), (.str []), (.str []), (.str [])] (.t 6) (.t 6)⟩,
  ⟨(some 3), none, .q (.mov (.t 7))⟩]) (
 .seq (.seq (.reg [
  ⟨(some 4), none, .q (.mov (.c (.int .i64 0)))⟩]) (
 .block (
  .loop (
    .seq (.seq (.reg [
      ⟨(some 8), none, .q (.mov (.t 4))⟩,
      ⟨(some 9), none, .q (.mov (.t 0))⟩,
      ⟨(some 10), none, .q (.len (.t 9))⟩,
      ⟨(some 11), none, .q (.bin .lss false (.t 8) (.t 10))⟩]) (
    .cond 11 (
      .skip) (
      .exit 0))) (
    .seq (.block (
      .reg [
        ⟨(some 14), none, .q (.mov (.t 3))⟩,
        ⟨(some 15), none, .q (.mov (.t 4))⟩,
        ⟨(some 16), none, .q (.mov (.t 0))⟩,
        ⟨(some 17), none, .q (.mov (.t 4))⟩,
        ⟨(some 18), none, .q (.ia 4 (.t 16) (.t 17))⟩,
        ⟨(some 19), none, .q (.load (some 4) (.t 18))⟩,
        ⟨(some 20), none, .callx 39 [(.t 19)]⟩,
        ⟨(some 21), none, .q (.ia 4 (.t 14) (.t 15))⟩,
        ⟨none, none, .store 4 (.t 21) (.t 20)⟩])) (
    .reg [
      ⟨(some 12), none, .q (.mov (.t 4))⟩,
      ⟨(some 13), none, .q (.bin .add false (.t 12) (.c (.int .i64 1)))⟩,
      ⟨(some 4), none, .q (.mov (.t 13))⟩])))))) (
 .seq (.reg [
  ⟨(some 22), none, .q (.mov (.t 3))⟩,
  ⟨(some 2), none, .q (.mov (.t 22))⟩]) (
 .ret)))), 23, [.t 2]⟩
theorem comp15 : compF Go.Proofs.Try.prog [] wr64 15 = some ir15 := by kernel_rfl
/-- loop.example/s01136/laws.toPNodeS -/
def ir38 : IrF := ⟨.seq (.reg [
  ⟨(some 2), none, .q (.mov (.c .nils))⟩]) (
 .seq (.reg [
  ⟨(some 5), none, .q (.mov (.t 0))⟩,
  ⟨(some 6), none, .q (.len (.t 5))⟩,
  ⟨(some 7), none, .mks 3 40 [(.int .i64 0), (.str []), (.str [])] (.t 6) (.t 6)⟩,
  ⟨(some 3), none, .q (.mov (.t 7))⟩]) (
 .seq (.seq (.reg [
  ⟨(some 4), none, .q (.mov (.c (.int .i64 0)))⟩]) (
 .block (
  .loop (
    .seq (.seq (.reg [
      ⟨(some 8), none, .q (.mov (.t 4))⟩,
      ⟨(some 9), none, .q (.mov (.t 0))⟩,
      ⟨(some 10), none, .q (.len (.t 9))⟩,
      ⟨(some 11), none, .q (.bin .lss false (.t 8) (.t 10))⟩]) (
    .cond 11 (
      .skip) (
      .exit 0))) (
    .seq (.block (
      .reg [
        ⟨(some 14), none, .q (.mov (.t 3))⟩,
        ⟨(some 15), none, .q (.mov (.t 4))⟩,
        ⟨(some 16), none, .q (.mov (.t 0))⟩,
        ⟨(some 17), none, .q (.mov (.t 4))⟩,
        ⟨(some 18), none, .q (.ia 3 (.t 16) (.t 17))⟩,
        ⟨(some 19), none, .q (.load (some 3) (.t 18))⟩,
        ⟨(some 20), none, .callx 66 [(.t 19)]⟩,
        ⟨(some 21), none, .q (.ia 3 (.t 14) (.t 15))⟩,
        ⟨none, none, .store 3 (.t 21) (.t 20)⟩])) (
    .reg [
      ⟨(some 12), none, .q (.mov (.t 4))⟩,
      ⟨(some 13), none, .q (.bin .add false (.t 12) (.c (.int .i64 1)))⟩,
      ⟨(some 4), none, .q (.mov (.t 13))⟩])))))) (
 .seq (.reg [
  ⟨(some 22), none, .q (.mov (.t 3))⟩,
  ⟨(some 2), none, .q (.mov (.t 22))⟩]) (
 .ret)))), 23, [.t 2]⟩
theorem comp38 : compF Go.Proofs.Try.prog [] wr64 38 = some ir38 := by kernel_rfl
/-- loop.example/s01136/laws.toFact -/
def ir39 : IrF := ⟨.seq (.reg [
  ⟨(some 1), none, .box (.t 0)⟩,
  ⟨(some 2), none, .alloc [(.str []), (.str []), (.str []), (.str [])]⟩]) (
 .seq (.reg [
  ⟨(some 3), none, .alloc [(.str []), (.str []), (.str []), (.str [])]⟩]) (
 .seq (.reg [
  ⟨(some 4), none, .q (.fa 0 (.t 1))⟩,
  ⟨(some 5), none, .q (.load none (.t 4))⟩,
  ⟨(some 6), none, .q (.fa 0 (.t 3))⟩,
  ⟨none, none, .store 1 (.t 6) (.t 5)⟩]) (
 .seq (.reg [
  ⟨(some 7), none, .q (.fa 1 (.t 1))⟩,
  ⟨(some 8), none, .q (.load none (.t 7))⟩,
  ⟨(some 9), none, .q (.fa 1 (.t 3))⟩,
  ⟨none, none, .store 1 (.t 9) (.t 8)⟩]) (
 .seq (.reg [
  ⟨(some 10), none, .q (.fa 2 (.t 1))⟩,
  ⟨(some 11), none, .q (.load none (.t 10))⟩,
  ⟨(some 12), none, .q (.fa 2 (.t 3))⟩,
  ⟨none, none, .store 1 (.t 12) (.t 11)⟩]) (
 .seq (.reg [
  ⟨(some 13), none, .q (.fa 3 (.t 1))⟩,
  ⟨(some 14), none, .q (.load none (.t 13))⟩,
  ⟨(some 15), none, .q (.fa 3 (.t 3))⟩,
  ⟨none, none, .store 1 (.t 15) (.t 14)⟩]) (
 .seq (.reg [
  ⟨(some 16), none, .q (.load (some 4) (.t 3))⟩,
  ⟨none, none, .store 4 (.t 2) (.t 16)⟩]) (
 .ret))))))), 17, [.c 2 (some 4)]⟩
theorem comp39 : compF Go.Proofs.Try.prog [] wr64 39 = some ir39 := by kernel_rfl
/-- loop.example/s01136/laws.toPNode -/
def ir66 : IrF := ⟨.seq (.reg [
  ⟨(some 1), none, .box (.t 0)⟩,
  ⟨(some 2), none, .alloc [(.int .i64 0), (.str []), (.str [])]⟩]) (
 .seq (.reg [
  ⟨(some 3), none, .alloc [(.int .i64 0), (.str []), (.str [])]⟩]) (
 .seq (.reg [
  ⟨(some 4), none, .q (.fa 0 (.t 1))⟩,
  ⟨(some 5), none, .q (.load none (.t 4))⟩,
  ⟨(some 6), none, .q (.fa 0 (.t 3))⟩,
  ⟨none, none, .store 1 (.t 6) (.t 5)⟩]) (
 .seq (.reg [
  ⟨(some 7), none, .q (.fa 1 (.t 1))⟩,
  ⟨(some 8), none, .q (.load none (.t 7))⟩,
  ⟨(some 9), none, .q (.fa 1 (.t 3))⟩,
  ⟨none, none, .store 1 (.t 9) (.t 8)⟩]) (
 .seq (.reg [
  ⟨(some 10), none, .q (.fa 2 (.t 1))⟩,
  ⟨(some 11), none, .q (.load none (.t 10))⟩,
  ⟨(some 12), none, .q (.fa 2 (.t 3))⟩,
  ⟨none, none, .store 1 (.t 12) (.t 11)⟩]) (
 .seq (.reg [
  ⟨(some 13), none, .q (.load (some 3) (.t 3))⟩,
  ⟨none, none, .store 3 (.t 2) (.t 13)⟩]) (
 .ret)))))), 14, [.c 2 (some 3)]⟩
theorem comp66 : compF Go.Proofs.Try.prog [] wr64 66 = some ir66 := by kernel_rfl
/-- loop.example/s01136/laws.eqPNodeS -/
def ir40 : IrF := ⟨.seq (.reg [
  ⟨(some 4), none, .q (.mov (.c (.bool false)))⟩]) (
 .seq (.seq (.reg [
  ⟨(some 6), none, .q (.mov (.t 0))⟩,
  ⟨(some 7), none, .q (.len (.t 6))⟩,
  ⟨(some 8), none, .q (.mov (.t 1))⟩,
  ⟨(some 9), none, .q (.len (.t 8))⟩,
  ⟨(some 10), none, .q (.bin .neq false (.t 7) (.t 9))⟩]) (
 .cond 10 (
  .seq (.reg [
    ⟨(some 4), none, .q (.mov (.c (.bool false)))⟩]) (
  .ret)) (
  .skip))) (
 .seq (.seq (.reg [
  ⟨(some 5), none, .q (.mov (.c (.int .i64 0)))⟩]) (
 .block (
  .loop (
    .seq (.seq (.reg [
      ⟨(some 11), none, .q (.mov (.t 5))⟩,
      ⟨(some 12), none, .q (.mov (.t 0))⟩,
      ⟨(some 13), none, .q (.len (.t 12))⟩,
      ⟨(some 14), none, .q (.bin .lss false (.t 11) (.t 13))⟩]) (
    .cond 14 (
      .skip) (
      .exit 0))) (
    .seq (.block (
      .seq (.reg [
        ⟨(some 17), none, .q (.mov (.t 0))⟩,
        ⟨(some 18), none, .q (.mov (.t 5))⟩,
        ⟨(some 19), none, .q (.ia 3 (.t 17) (.t 18))⟩,
        ⟨(some 20), none, .q (.load (some 3) (.t 19))⟩,
        ⟨(some 21), none, .q (.mov (.t 1))⟩,
        ⟨(some 22), none, .q (.mov (.t 5))⟩,
        ⟨(some 23), none, .q (.ia 3 (.t 21) (.t 22))⟩,
        ⟨(some 24), none, .q (.load (some 3) (.t 23))⟩,
        ⟨(some 25), none, .call 67 [(.t 20), (.t 24)]⟩,
        ⟨(some 26), none, .q (.not (.t 25))⟩]) (
      .cond 26 (
        .seq (.reg [
          ⟨(some 4), none, .q (.mov (.c (.bool false)))⟩]) (
        .ret)) (
        .skip)))) (
    .reg [
      ⟨(some 15), none, .q (.mov (.t 5))⟩,
      ⟨(some 16), none, .q (.bin .add false (.t 15) (.c (.int .i64 1)))⟩,
      ⟨(some 5), none, .q (.mov (.t 16))⟩])))))) (
 .seq (.reg [
  ⟨(some 4), none, .q (.mov (.c (.bool true)))⟩]) (
 .ret)))), 27, [.t 4]⟩
theorem comp40 : compF Go.Proofs.Try.prog [] wr64 40 = some ir40 := by kernel_rfl
/-- loop.example/s01136/laws.eqFact -/
def ir41 : IrF := ⟨.seq (.reg [
  ⟨(some 2), none, .box (.t 0)⟩,
  ⟨(some 3), none, .box (.t 1)⟩,
  ⟨(some 4), none, .q (.mov (.c (.bool false)))⟩]) (
 .seq (.seq (.reg [
  ⟨(some 5), none, .q (.fa 0 (.t 2))⟩,
  ⟨(some 6), none, .q (.load none (.t 5))⟩,
  ⟨(some 7), none, .q (.fa 0 (.t 3))⟩,
  ⟨(some 8), none, .q (.load none (.t 7))⟩,
  ⟨(some 9), none, .q (.bin .neq false (.t 6) (.t 8))⟩]) (
 .cond 9 (
  .seq (.reg [
    ⟨(some 4), none, .q (.mov (.c (.bool false)))⟩]) (
  .ret)) (
  .skip))) (
 .seq (.seq (.reg [
  ⟨(some 10), none, .q (.fa 1 (.t 2))⟩,
  ⟨(some 11), none, .q (.load none (.t 10))⟩,
  ⟨(some 12), none, .q (.fa 1 (.t 3))⟩,
  ⟨(some 13), none, .q (.load none (.t 12))⟩,
  ⟨(some 14), none, .q (.bin .neq false (.t 11) (.t 13))⟩]) (
 .cond 14 (
  .seq (.reg [
    ⟨(some 4), none, .q (.mov (.c (.bool false)))⟩]) (
  .ret)) (
  .skip))) (
 .seq (.seq (.reg [
  ⟨(some 15), none, .q (.fa 2 (.t 2))⟩,
  ⟨(some 16), none, .q (.load none (.t 15))⟩,
  ⟨(some 17), none, .q (.fa 2 (.t 3))⟩,
  ⟨(some 18), none, .q (.load none (.t 17))⟩,
  ⟨(some 19), none, .q (.bin .neq false (.t 16) (.t 18))⟩]) (
 .cond 19 (
  .seq (.reg [
    ⟨(some 4), none, .q (.mov (.c (.bool false)))⟩]) (
  .ret)) (
  .skip))) (
 .seq (.seq (.reg [
  ⟨(some 20), none, .q (.fa 3 (.t 2))⟩,
  ⟨(some 21), none, .q (.load none (.t 20))⟩,
  ⟨(some 22), none, .q (.fa 3 (.t 3))⟩,
  ⟨(some 23), none, .q (.load none (.t 22))⟩,
  ⟨(some 24), none, .q (.bin .neq false (.t 21) (.t 23))⟩]) (
 .cond 24 (
  .seq (.reg [
    ⟨(some 4), none, .q (.mov (.c (.bool false)))⟩]) (
  .ret)) (
  .skip))) (
 .seq (.reg [
  ⟨(some 4), none, .q (.mov (.c (.bool true)))⟩]) (
 .ret)))))), 25, [.t 4]⟩
theorem comp41 : compF Go.Proofs.Try.prog [] wr64 41 = some ir41 := by kernel_rfl
/-- loop.example/s01136/laws.eqPNode -/
def ir67 : IrF := ⟨.seq (.reg [
  ⟨(some 2), none, .box (.t 0)⟩,
  ⟨(some 3), none, .box (.t 1)⟩,
  ⟨(some 4), none, .q (.mov (.c (.bool false)))⟩]) (
 .seq (.seq (.reg [
  ⟨(some 5), none, .q (.fa 0 (.t 2))⟩,
  ⟨(some 6), none, .q (.load none (.t 5))⟩,
  ⟨(some 7), none, .q (.fa 0 (.t 3))⟩,
  ⟨(some 8), none, .q (.load none (.t 7))⟩,
  ⟨(some 9), none, .q (.bin .neq false (.t 6) (.t 8))⟩]) (
 .cond 9 (
  .seq (.reg [
    ⟨(some 4), none, .q (.mov (.c (.bool false)))⟩]) (
  .ret)) (
  .skip))) (
 .seq (.seq (.reg [
  ⟨(some 10), none, .q (.fa 1 (.t 2))⟩,
  ⟨(some 11), none, .q (.load none (.t 10))⟩,
  ⟨(some 12), none, .q (.fa 1 (.t 3))⟩,
  ⟨(some 13), none, .q (.load none (.t 12))⟩,
  ⟨(some 14), none, .q (.bin .neq false (.t 11) (.t 13))⟩]) (
 .cond 14 (
  .seq (.reg [
    ⟨(some 4), none, .q (.mov (.c (.bool false)))⟩]) (
  .ret)) (
  .skip))) (
 .seq (.seq (.reg [
  ⟨(some 15), none, .q (.fa 2 (.t 2))⟩,
  ⟨(some 16), none, .q (.load none (.t 15))⟩,
  ⟨(some 17), none, .q (.fa 2 (.t 3))⟩,
  ⟨(some 18), none, .q (.load none (.t 17))⟩,
  ⟨(some 19), none, .q (.bin .neq false (.t 16) (.t 18))⟩]) (
 .cond 19 (
  .seq (.reg [
    ⟨(some 4), none, .q (.mov (.c (.bool false)))⟩]) (
  .ret)) (
  .skip))) (
 .seq (.reg [
  ⟨(some 4), none, .q (.mov (.c (.bool true)))⟩]) (
 .ret))))), 20, [.t 4]⟩
theorem comp67 : compF Go.Proofs.Try.prog [] wr64 67 = some ir67 := by kernel_rfl
/-- loop.example/s01136/laws.eqPath -/
def ir17 : IrF := ⟨.seq (.reg [
  ⟨(some 2), none, .box (.t 0)⟩,
  ⟨(some 3), none, .box (.t 1)⟩,
  ⟨(some 4), none, .q (.mov (.c (.bool false)))⟩]) (
 .seq (.seq (.reg [
  ⟨(some 5), none, .q (.fa 0 (.t 2))⟩,
  ⟨(some 6), none, .q (.load none (.t 5))⟩,
  ⟨(some 7), none, .q (.fa 0 (.t 3))⟩,
  ⟨(some 8), none, .q (.load none (.t 7))⟩,
  ⟨(some 9), none, .callx 40 [(.t 6), (.t 8)]⟩,
  ⟨(some 10), none, .q (.not (.t 9))⟩]) (
 .cond 10 (
  .seq (.reg [
    ⟨(some 4), none, .q (.mov (.c (.bool false)))⟩]) (
  .ret)) (
  .skip))) (
 .seq (.reg [
  ⟨(some 4), none, .q (.mov (.c (.bool true)))⟩]) (
 .ret))), 11, [.t 4]⟩
theorem comp17 : compF Go.Proofs.Try.prog [] wr64 17 = some ir17 := by kernel_rfl
/-- loop.example/s01136/laws.eqFactS -/
def ir18 : IrF := ⟨.seq (.reg [
  ⟨(some 4), none, .q (.mov (.c (.bool false)))⟩]) (
 .seq (.seq (.reg [
  ⟨(some 6), none, .q (.mov (.t 0))⟩,
  ⟨(some 7), none, .q (.len (.t 6))⟩,
  ⟨(some 8), none, .q (.mov (.t 1))⟩,
  ⟨(some 9), none, .q (.len (.t 8))⟩,
  ⟨(some 10), none, .q (.bin .neq false (.t 7) (.t 9))⟩]) (
 .cond 10 (
  .seq (.reg [
    ⟨(some 4), none, .q (.mov (.c (.bool false)))⟩]) (
  .ret)) (
  .skip))) (
 .seq (.seq (.reg [
  ⟨(some 5), none, .q (.mov (.c (.int .i64 0)))⟩]) (
 .block (
  .loop (
    .seq (.seq (.reg [
      ⟨(some 11), none, .q (.mov (.t 5))⟩,
      ⟨(some 12), none, .q (.mov (.t 0))⟩,
      ⟨(some 13), none, .q (.len (.t 12))⟩,
      ⟨(some 14), none, .q (.bin .lss false (.t 11) (.t 13))⟩]) (
    .cond 14 (
      .skip) (
      .exit 0))) (
    .seq (.block (
      .seq (.reg [
        ⟨(some 17), none, .q (.mov (.t 0))⟩,
        ⟨(some 18), none, .q (.mov (.t 5))⟩,
        ⟨(some 19), none, .q (.ia 4 (.t 17) (.t 18))⟩,
        ⟨(some 20), none, .q (.load (some 4) (.t 19))⟩,
        ⟨(some 21), none, .q (.mov (.t 1))⟩,
        ⟨(some 22), none, .q (.mov (.t 5))⟩,
        ⟨(some 23), none, .q (.ia 4 (.t 21) (.t 22))⟩,
        ⟨(some 24), none, .q (.load (some 4) (.t 23))⟩,
        ⟨(some 25), none, .call 41 [(.t 20), (.t 24)]⟩,
        ⟨(some 26), none, .q (.not (.t 25))⟩]) (
      .cond 26 (
        .seq (.reg [
          ⟨(some 4), none, .q (.mov (.c (.bool false)))⟩]) (
        .ret)) (
        .skip)))) (
    .reg [
      ⟨(some 15), none, .q (.mov (.t 5))⟩,
      ⟨(some 16), none, .q (.bin .add false (.t 15) (.c (.int .i64 1)))⟩,
      ⟨(some 5), none, .q (.mov (.t 16))⟩])))))) (
 .seq (.reg [
  ⟨(some 4), none, .q (.mov (.c (.bool true)))⟩]) (
 .ret)))), 27, [.t 4]⟩
theorem comp18 : compF Go.Proofs.Try.prog [] wr64 18 = some ir18 := by kernel_rfl
/-- loop.example/s01136/laws.markPath -/
def ir19 : IrF := ⟨.seq (.reg [
  ⟨(some 2), none, .box (.t 0)⟩,
  ⟨(some 4), none, .q (.mov (.c (.int .i64 0)))⟩]) (
 .seq (.reg [
  ⟨(some 5), none, .q (.fa 0 (.t 2))⟩,
  ⟨(some 6), none, .q (.load none (.t 5))⟩,
  ⟨(some 7), none, .q (.mov (.t 1))⟩,
  ⟨(some 8), none, .callx 42 [(.t 6), (.t 7)]⟩,
  ⟨(some 1), none, .q (.mov (.t 8))⟩]) (
 .seq (.reg [
  ⟨(some 9), none, .q (.mov (.t 1))⟩,
  ⟨(some 4), none, .q (.mov (.t 9))⟩]) (
 .ret))), 10, [.t 4]⟩
theorem comp19 : compF Go.Proofs.Try.prog [] wr64 19 = some ir19 := by kernel_rfl
/-- loop.example/s01136/laws.markFactS -/
def ir20 : IrF := ⟨.seq (.reg [
  ⟨(some 4), none, .q (.mov (.c (.int .i64 0)))⟩]) (
 .seq (.seq (.reg [
  ⟨(some 5), none, .q (.mov (.c (.int .i64 0)))⟩]) (
 .block (
  .loop (
    .seq (.seq (.reg [
      ⟨(some 6), none, .q (.mov (.t 5))⟩,
      ⟨(some 7), none, .q (.mov (.t 0))⟩,
      ⟨(some 8), none, .q (.len (.t 7))⟩,
      ⟨(some 9), none, .q (.bin .lss false (.t 6) (.t 8))⟩]) (
    .cond 9 (
      .skip) (
      .exit 0))) (
    .seq (.block (
      .seq (.reg [
        ⟨(some 12), none, .q (.mov (.t 0))⟩,
        ⟨(some 13), none, .q (.mov (.t 5))⟩,
        ⟨(some 14), none, .q (.mov (.t 1))⟩,
        ⟨(some 15), none, .callx 43 [(.t 14)]⟩,
        ⟨(some 16), none, .q (.ia 4 (.t 12) (.t 13))⟩,
        ⟨(some 17), none, .q (.fa 0 (.t 16))⟩,
        ⟨none, none, .store 1 (.t 17) (.t 15)⟩]) (
      .seq (.reg [
        ⟨(some 18), none, .q (.mov (.t 1))⟩,
        ⟨(some 19), none, .q (.bin .add false (.t 18) (.c (.int .i64 1)))⟩,
        ⟨(some 1), none, .q (.mov (.t 19))⟩]) (
      .seq (.reg [
        ⟨(some 20), none, .q (.mov (.t 0))⟩,
        ⟨(some 21), none, .q (.mov (.t 5))⟩,
        ⟨(some 22), none, .q (.mov (.t 1))⟩,
        ⟨(some 23), none, .callx 43 [(.t 22)]⟩,
        ⟨(some 24), none, .q (.ia 4 (.t 20) (.t 21))⟩,
        ⟨(some 25), none, .q (.fa 1 (.t 24))⟩,
        ⟨none, none, .store 1 (.t 25) (.t 23)⟩]) (
      .seq (.reg [
        ⟨(some 26), none, .q (.mov (.t 1))⟩,
        ⟨(some 27), none, .q (.bin .add false (.t 26) (.c (.int .i64 1)))⟩,
        ⟨(some 1), none, .q (.mov (.t 27))⟩]) (
      .seq (.reg [
        ⟨(some 28), none, .q (.mov (.t 0))⟩,
        ⟨(some 29), none, .q (.mov (.t 5))⟩,
        ⟨(some 30), none, .q (.mov (.t 1))⟩,
        ⟨(some 31), none, .callx 43 [(.t 30)]⟩,
        ⟨(some 32), none, .q (.ia 4 (.t 28) (.t 29))⟩,
        ⟨(some 33), none, .q (.fa 2 (.t 32))⟩,
        ⟨none, none, .store 1 (.t 33) (.t 31)⟩]) (
      .seq (.reg [
        ⟨(some 34), none, .q (.mov (.t 1))⟩,
        ⟨(some 35), none, .q (.bin .add false (.t 34) (.c (.int .i64 1)))⟩,
        ⟨(some 1), none, .q (.mov (.t 35))⟩]) (
      .seq (.reg [
        ⟨(some 36), none, .q (.mov (.t 0))⟩,
        ⟨(some 37), none, .q (.mov (.t 5))⟩,
        ⟨(some 38), none, .q (.mov (.t 1))⟩,
        ⟨(some 39), none, .callx 43 [(.t 38)]⟩,
        ⟨(some 40), none, .q (.ia 4 (.t 36) (.t 37))⟩,
        ⟨(some 41), none, .q (.fa 3 (.t 40))⟩,
        ⟨none, none, .store 1 (.t 41) (.t 39)⟩]) (
      .reg [
        ⟨(some 42), none, .q (.mov (.t 1))⟩,
        ⟨(some 43), none, .q (.bin .add false (.t 42) (.c (.int .i64 1)))⟩,
        ⟨(some 1), none, .q (.mov (.t 43))⟩]))))))))) (
    .reg [
      ⟨(some 10), none, .q (.mov (.t 5))⟩,
      ⟨(some 11), none, .q (.bin .add false (.t 10) (.c (.int .i64 1)))⟩,
      ⟨(some 5), none, .q (.mov (.t 11))⟩])))))) (
 .seq (.reg [
  ⟨(some 44), none, .q (.mov (.t 1))⟩,
  ⟨(some 4), none, .q (.mov (.t 44))⟩]) (
 .ret))), 45, [.t 4]⟩
theorem comp20 : compF Go.Proofs.Try.prog [] wr64 20 = some ir20 := by kernel_rfl
/-- loop.example/s01136/laws.markStringS -/
def ir21 : IrF := ⟨.seq (.reg [
  ⟨(some 4), none, .q (.mov (.c (.int .i64 0)))⟩]) (
 .seq (.seq (.reg [
  ⟨(some 5), none, .q (.mov (.c (.int .i64 0)))⟩]) (
 .block (
  .loop (
    .seq (.seq (.reg [
      ⟨(some 6), none, .q (.mov (.t 5))⟩,
      ⟨(some 7), none, .q (.mov (.t 0))⟩,
      ⟨(some 8), none, .q (.len (.t 7))⟩,
      ⟨(some 9), none, .q (.bin .lss false (.t 6) (.t 8))⟩]) (
    .cond 9 (
      .skip) (
      .exit 0))) (
    .seq (.block (
      .seq (.reg [
        ⟨(some 12), none, .q (.mov (.t 0))⟩,
        ⟨(some 13), none, .q (.mov (.t 5))⟩,
        ⟨(some 14), none, .q (.mov (.t 1))⟩,
        ⟨(some 15), none, .callx 43 [(.t 14)]⟩,
        ⟨(some 16), none, .q (.ia 1 (.t 12) (.t 13))⟩,
        ⟨none, none, .store 1 (.t 16) (.t 15)⟩]) (
      .reg [
        ⟨(some 17), none, .q (.mov (.t 1))⟩,
        ⟨(some 18), none, .q (.bin .add false (.t 17) (.c (.int .i64 1)))⟩,
        ⟨(some 1), none, .q (.mov (.t 18))⟩]))) (
    .reg [
      ⟨(some 10), none, .q (.mov (.t 5))⟩,
      ⟨(some 11), none, .q (.bin .add false (.t 10) (.c (.int .i64 1)))⟩,
      ⟨(some 5), none, .q (.mov (.t 11))⟩])))))) (
 .seq (.reg [
  ⟨(some 19), none, .q (.mov (.t 1))⟩,
  ⟨(some 4), none, .q (.mov (.t 19))⟩]) (
 .ret))), 20, [.t 4]⟩
theorem comp21 : compF Go.Proofs.Try.prog [] wr64 21 = some ir21 := by kernel_rfl
/-- loop.example/s01136/laws.heldStringS -/
def ir22 : IrF := ⟨.seq (.reg [
  ⟨(some 4), none, .q (.mov (.c (.int .i64 0)))⟩]) (
 .seq (.seq (.reg [
  ⟨(some 5), none, .q (.mov (.c (.int .i64 0)))⟩]) (
 .block (
  .loop (
    .seq (.seq (.reg [
      ⟨(some 6), none, .q (.mov (.t 5))⟩,
      ⟨(some 7), none, .q (.mov (.t 0))⟩,
      ⟨(some 8), none, .q (.len (.t 7))⟩,
      ⟨(some 9), none, .q (.bin .lss false (.t 6) (.t 8))⟩]) (
    .cond 9 (
      .skip) (
      .exit 0))) (
    .seq (.block (
      .seq (.seq (.reg [
        ⟨(some 12), none, .q (.mov (.t 0))⟩,
        ⟨(some 13), none, .q (.mov (.t 5))⟩,
        ⟨(some 14), none, .q (.ia 1 (.t 12) (.t 13))⟩,
        ⟨(some 15), none, .q (.load none (.t 14))⟩,
        ⟨(some 16), none, .q (.mov (.t 1))⟩,
        ⟨(some 17), none, .call 43 [(.t 16)]⟩,
        ⟨(some 18), none, .q (.bin .neq false (.t 15) (.t 17))⟩]) (
      .cond 18 (
        .seq (.reg [
          ⟨(some 4), none, .q (.mov (.c (.int .i64 (-1))))⟩]) (
        .ret)) (
        .skip))) (
      .reg [
        ⟨(some 19), none, .q (.mov (.t 1))⟩,
        ⟨(some 20), none, .q (.bin .add false (.t 19) (.c (.int .i64 1)))⟩,
        ⟨(some 1), none, .q (.mov (.t 20))⟩]))) (
    .reg [
      ⟨(some 10), none, .q (.mov (.t 5))⟩,
      ⟨(some 11), none, .q (.bin .add false (.t 10) (.c (.int .i64 1)))⟩,
      ⟨(some 5), none, .q (.mov (.t 11))⟩])))))) (
 .seq (.reg [
  ⟨(some 21), none, .q (.mov (.t 1))⟩,
  ⟨(some 4), none, .q (.mov (.t 21))⟩]) (
 .ret))), 22, [.t 4]⟩
theorem comp22 : compF Go.Proofs.Try.prog [] wr64 22 = some ir22 := by kernel_rfl
/-- loop.example/s01136/laws.markPNodeS -/
def ir42 : IrF := ⟨.seq (.reg [
  ⟨(some 4), none, .q (.mov (.c (.int .i64 0)))⟩]) (
 .seq (.seq (.reg [
  ⟨(some 5), none, .q (.mov (.c (.int .i64 0)))⟩]) (
 .block (
  .loop (
    .seq (.seq (.reg [
      ⟨(some 6), none, .q (.mov (.t 5))⟩,
      ⟨(some 7), none, .q (.mov (.t 0))⟩,
      ⟨(some 8), none, .q (.len (.t 7))⟩,
      ⟨(some 9), none, .q (.bin .lss false (.t 6) (.t 8))⟩]) (
    .cond 9 (
      .skip) (
      .exit 0))) (
    .seq (.block (
      .seq (.reg [
        ⟨(some 12), none, .q (.mov (.t 0))⟩,
        ⟨(some 13), none, .q (.mov (.t 5))⟩,
        ⟨(some 14), none, .q (.mov (.t 1))⟩,
        ⟨(some 15), none, .q (.ia 3 (.t 12) (.t 13))⟩,
        ⟨(some 16), none, .q (.fa 0 (.t 15))⟩,
        ⟨none, none, .store 1 (.t 16) (.t 14)⟩]) (
      .seq (.reg [
        ⟨(some 17), none, .q (.mov (.t 1))⟩,
        ⟨(some 18), none, .q (.bin .add false (.t 17) (.c (.int .i64 1)))⟩,
        ⟨(some 1), none, .q (.mov (.t 18))⟩]) (
      .seq (.reg [
        ⟨(some 19), none, .q (.mov (.t 0))⟩,
        ⟨(some 20), none, .q (.mov (.t 5))⟩,
        ⟨(some 21), none, .q (.mov (.t 1))⟩,
        ⟨(some 22), none, .callx 43 [(.t 21)]⟩,
        ⟨(some 23), none, .q (.ia 3 (.t 19) (.t 20))⟩,
        ⟨(some 24), none, .q (.fa 1 (.t 23))⟩,
        ⟨none, none, .store 1 (.t 24) (.t 22)⟩]) (
      .seq (.reg [
        ⟨(some 25), none, .q (.mov (.t 1))⟩,
        ⟨(some 26), none, .q (.bin .add false (.t 25) (.c (.int .i64 1)))⟩,
        ⟨(some 1), none, .q (.mov (.t 26))⟩]) (
      .seq (.reg [
        ⟨(some 27), none, .q (.mov (.t 0))⟩,
        ⟨(some 28), none, .q (.mov (.t 5))⟩,
        ⟨(some 29), none, .q (.mov (.t 1))⟩,
        ⟨(some 30), none, .callx 43 [(.t 29)]⟩,
        ⟨(some 31), none, .q (.ia 3 (.t 27) (.t 28))⟩,
        ⟨(some 32), none, .q (.fa 2 (.t 31))⟩,
        ⟨none, none, .store 1 (.t 32) (.t 30)⟩]) (
      .reg [
        ⟨(some 33), none, .q (.mov (.t 1))⟩,
        ⟨(some 34), none, .q (.bin .add false (.t 33) (.c (.int .i64 1)))⟩,
        ⟨(some 1), none, .q (.mov (.t 34))⟩]))))))) (
    .reg [
      ⟨(some 10), none, .q (.mov (.t 5))⟩,
      ⟨(some 11), none, .q (.bin .add false (.t 10) (.c (.int .i64 1)))⟩,
      ⟨(some 5), none, .q (.mov (.t 11))⟩])))))) (
 .seq (.reg [
  ⟨(some 35), none, .q (.mov (.t 1))⟩,
  ⟨(some 4), none, .q (.mov (.t 35))⟩]) (
 .ret))), 36, [.t 4]⟩
theorem comp42 : compF Go.Proofs.Try.prog [] wr64 42 = some ir42 := by kernel_rfl
/-- loop.example/s01136/laws.markText -/
def ir43 : IrF := ⟨.seq (.reg [
  ⟨(some 2), none, .q (.mov (.c (.str [])))⟩]) (
 .seq (.seq (.reg [
  ⟨(some 4), none, .q (.mov (.t 0))⟩,
  ⟨(some 5), none, .q (.bin .leq false (.t 4) (.c (.int .i64 0)))⟩]) (
 .cond 5 (
  .seq (.reg [
    ⟨(some 2), none, .q (.mov (.c (.str [109, 48])))⟩]) (
  .ret)) (
  .skip))) (
 .seq (.reg [
  ⟨(some 3), none, .q (.mov (.c (.str [])))⟩]) (
 .seq (.block (
  .loop (
    .seq (.seq (.reg [
      ⟨(some 6), none, .q (.mov (.t 0))⟩,
      ⟨(some 7), none, .q (.bin .gtr false (.t 6) (.c (.int .i64 0)))⟩]) (
    .cond 7 (
      .skip) (
      .exit 0))) (
    .block (
      .seq (.reg [
        ⟨(some 8), none, .q (.mov (.t 0))⟩,
        ⟨(some 9), none, .q (.bin .rem false (.t 8) (.c (.int .i64 10)))⟩,
        ⟨(some 10), none, .q (.bin .add false (.c (.int .i64 48)) (.t 9))⟩,
        ⟨(some 11), none, .q (.conv .u8 true (.t 10))⟩,
        ⟨(some 12), none, .bslx 1 1 [(.int .u8 0)] [(0, (.t 11))]⟩,
        ⟨(some 13), none, .b2s (.t 12)⟩,
        ⟨(some 14), none, .q (.mov (.t 3))⟩,
        ⟨(some 15), none, .q (.bin .add false (.t 13) (.t 14))⟩,
        ⟨(some 3), none, .q (.mov (.t 15))⟩]) (
      .reg [
        ⟨(some 16), none, .q (.mov (.t 0))⟩,
        ⟨(some 17), none, .q (.bin .quo false (.t 16) (.c (.int .i64 10)))⟩,
        ⟨(some 0), none, .q (.mov (.t 17))⟩])))))) (
 .seq (.reg [
  ⟨(some 18), none, .q (.mov (.t 3))⟩,
  ⟨(some 19), none, .q (.bin .add false (.c (.str [109])) (.t 18))⟩,
  ⟨(some 2), none, .q (.mov (.t 19))⟩]) (
 .ret))))), 20, [.t 2]⟩
theorem comp43 : compF Go.Proofs.Try.prog [] wr64 43 = some ir43 := by kernel_rfl
end Go.Av

namespace Go.Av
set_option maxRecDepth 100000
set_option maxHeartbeats 4000000
set_option linter.unusedVariables false
set_option linter.unusedSimpArgs false
noncomputable abbrev prog : Program := Go.Proofs.Try.prog
def strC (s : List UInt8) : List V := [.str s]
def strs (xs : List (List UInt8)) : V := .fsl 1 (xs.map strC)

theorem c16 (xs ys : List (List UInt8)) : PCall prog [] 16 [strs xs, strs ys] (· = .bool (decide (xs = ys))) := by
  refine PCall.small fun hsm => PCall.enter mixed comp16 ?_
  have hx : xs.length ≤ 9223372036854775807 := by simpa [strs] using hsm.1.1
  have hy : ys.length ≤ 9223372036854775807 := by simpa [strs] using hsm.2.1.1
  dsimp only [ir16, strs]
  (repeat (first | with_reducible refine And.intro trivial ?_ | with_reducible refine And.intro rfl ?_ | (with_reducible refine And.intro ?_ ?_; focus ((repeat' (first | with_reducible exact trivial | with_reducible exact rfl | (with_reducible apply And.intro) | exact in64 (by omega) (by omega) | omega)); done)) | dsimp only [go_sem, Nat.reduceAdd, Nat.reduceSub, Option.map, bne, BEq.beq] | simp only [sS, Int.cast_ofNat_Int, Int.reduceEq, Int.reduceLT, Int.reduceLE, Int.reduceAdd, Int.reduceSub, Int.reduceToNat]))
  refine br (fun h => ?_) (fun h => ?_)
  · (repeat (first | with_reducible refine And.intro trivial ?_ | with_reducible refine And.intro rfl ?_ | (with_reducible refine And.intro ?_ ?_; focus ((repeat' (first | with_reducible exact trivial | with_reducible exact rfl | (with_reducible apply And.intro) | exact in64 (by omega) (by omega) | omega)); done)) | dsimp only [go_sem, Nat.reduceAdd, Nat.reduceSub, Option.map, bne, BEq.beq] | simp only [sS, Int.cast_ofNat_Int, Int.reduceEq, Int.reduceLT, Int.reduceLE, Int.reduceAdd, Int.reduceSub, Int.reduceToNat]))
    refine fin0 ?_; (repeat (first | with_reducible refine And.intro trivial ?_ | with_reducible refine And.intro rfl ?_ | (with_reducible refine And.intro ?_ ?_; focus ((repeat' (first | with_reducible exact trivial | with_reducible exact rfl | (with_reducible apply And.intro) | exact in64 (by omega) (by omega) | omega)); done)) | dsimp only [go_sem, Nat.reduceAdd, Nat.reduceSub, Option.map, bne, BEq.beq] | simp only [sS, Int.cast_ofNat_Int, Int.reduceEq, Int.reduceLT, Int.reduceLE, Int.reduceAdd, Int.reduceSub, Int.reduceToNat]))
    have : xs ≠ ys := by rintro rfl; simp at h
    simp [this]
  have hl : xs.length = ys.length := by simp at h; omega
  (repeat (first | with_reducible refine And.intro trivial ?_ | with_reducible refine And.intro rfl ?_ | (with_reducible refine And.intro ?_ ?_; focus ((repeat' (first | with_reducible exact trivial | with_reducible exact rfl | (with_reducible apply And.intro) | exact in64 (by omega) (by omega) | omega)); done)) | dsimp only [go_sem, Nat.reduceAdd, Nat.reduceSub, Option.map, bne, BEq.beq] | simp only [sS, Int.cast_ofNat_Int, Int.reduceEq, Int.reduceLT, Int.reduceLE, Int.reduceAdd, Int.reduceSub, Int.reduceToNat]))
  refine lp [0, 1] (fun i : Nat => [(4, .g (.bool false)), (5, .g (.int .i64 i))]) (fun _ => []) (fun i => i ≤ xs.length ∧ xs.take i = ys.take i) (fun i => xs.length - i) 0 ⟨rfl, rfl, trivial⟩ rfl ⟨by omega, rfl⟩ ?_
  rintro i ⟨hi, hj⟩
  (repeat (first | with_reducible refine And.intro trivial ?_ | with_reducible refine And.intro rfl ?_ | (with_reducible refine And.intro ?_ ?_; focus ((repeat' (first | with_reducible exact trivial | with_reducible exact rfl | (with_reducible apply And.intro) | exact in64 (by omega) (by omega) | omega)); done)) | dsimp only [go_sem, Nat.reduceAdd, Nat.reduceSub, Option.map, bne, BEq.beq] | simp only [sS, Int.cast_ofNat_Int, Int.reduceEq, Int.reduceLT, Int.reduceLE, Int.reduceAdd, Int.reduceSub, Int.reduceToNat]))
  refine br (fun h => ?_) (fun h => ?_)
  · have hlt : i < xs.length := by simpa using h
    have e1 := getD_at strC xs hlt
    have e2 := getD_at strC ys (hl ▸ hlt)
    (repeat (first | with_reducible refine And.intro trivial ?_ | with_reducible refine And.intro rfl ?_ | (with_reducible refine And.intro ?_ ?_; focus ((repeat' (first | with_reducible exact trivial | with_reducible exact rfl | (with_reducible apply And.intro) | exact in64 (by omega) (by omega) | omega)); done)) | dsimp only [go_sem, Nat.reduceAdd, Nat.reduceSub, Option.map, bne, BEq.beq] | simp only [sS, Int.cast_ofNat_Int, Int.reduceEq, Int.reduceLT, Int.reduceLE, Int.reduceAdd, Int.reduceSub, Int.reduceToNat]))
    simp only [Int.toNat_natCast, e1, e2, strC]
    (repeat (first | with_reducible refine And.intro trivial ?_ | with_reducible refine And.intro rfl ?_ | (with_reducible refine And.intro ?_ ?_; focus ((repeat' (first | with_reducible exact trivial | with_reducible exact rfl | (with_reducible apply And.intro) | exact in64 (by omega) (by omega) | omega)); done)) | dsimp only [go_sem, Nat.reduceAdd, Nat.reduceSub, Option.map, bne, BEq.beq] | simp only [sS, Int.cast_ofNat_Int, Int.reduceEq, Int.reduceLT, Int.reduceLE, Int.reduceAdd, Int.reduceSub, Int.reduceToNat]))
    refine br (fun h => ?_) (fun h => ?_)
    · (repeat (first | with_reducible refine And.intro trivial ?_ | with_reducible refine And.intro rfl ?_ | (with_reducible refine And.intro ?_ ?_; focus ((repeat' (first | with_reducible exact trivial | with_reducible exact rfl | (with_reducible apply And.intro) | exact in64 (by omega) (by omega) | omega)); done)) | dsimp only [go_sem, Nat.reduceAdd, Nat.reduceSub, Option.map, bne, BEq.beq] | simp only [sS, Int.cast_ofNat_Int, Int.reduceEq, Int.reduceLT, Int.reduceLE, Int.reduceAdd, Int.reduceSub, Int.reduceToNat]))
      refine fin0 ?_; (repeat (first | with_reducible refine And.intro trivial ?_ | with_reducible refine And.intro rfl ?_ | (with_reducible refine And.intro ?_ ?_; focus ((repeat' (first | with_reducible exact trivial | with_reducible exact rfl | (with_reducible apply And.intro) | exact in64 (by omega) (by omega) | omega)); done)) | dsimp only [go_sem, Nat.reduceAdd, Nat.reduceSub, Option.map, bne, BEq.beq] | simp only [sS, Int.cast_ofNat_Int, Int.reduceEq, Int.reduceLT, Int.reduceLE, Int.reduceAdd, Int.reduceSub, Int.reduceToNat]))
      have : xs ≠ ys := by rintro rfl; simp at h
      simp [this]
    · (repeat (first | with_reducible refine And.intro trivial ?_ | with_reducible refine And.intro rfl ?_ | (with_reducible refine And.intro ?_ ?_; focus ((repeat' (first | with_reducible exact trivial | with_reducible exact rfl | (with_reducible apply And.intro) | exact in64 (by omega) (by omega) | omega)); done)) | dsimp only [go_sem, Nat.reduceAdd, Nat.reduceSub, Option.map, bne, BEq.beq] | simp only [sS, Int.cast_ofNat_Int, Int.reduceEq, Int.reduceLT, Int.reduceLE, Int.reduceAdd, Int.reduceSub, Int.reduceToNat]))
      refine rnd (i + 1) rfl ⟨rfl, rfl, trivial⟩ ⟨rfl, rfl, trivial⟩ rfl ⟨by omega, ?_⟩ (by omega)
      have h' : xs[i] = ys[i] := by simpa using h
      rw [List.take_succ_eq_append_getElem hlt, hj, h', List.take_succ_eq_append_getElem (hl ▸ hlt : i < ys.length)]
  · (repeat (first | with_reducible refine And.intro trivial ?_ | with_reducible refine And.intro rfl ?_ | (with_reducible refine And.intro ?_ ?_; focus ((repeat' (first | with_reducible exact trivial | with_reducible exact rfl | (with_reducible apply And.intro) | exact in64 (by omega) (by omega) | omega)); done)) | dsimp only [go_sem, Nat.reduceAdd, Nat.reduceSub, Option.map, bne, BEq.beq] | simp only [sS, Int.cast_ofNat_Int, Int.reduceEq, Int.reduceLT, Int.reduceLE, Int.reduceAdd, Int.reduceSub, Int.reduceToNat]))
    refine fin0 ?_; (repeat (first | with_reducible refine And.intro trivial ?_ | with_reducible refine And.intro rfl ?_ | (with_reducible refine And.intro ?_ ?_; focus ((repeat' (first | with_reducible exact trivial | with_reducible exact rfl | (with_reducible apply And.intro) | exact in64 (by omega) (by omega) | omega)); done)) | dsimp only [go_sem, Nat.reduceAdd, Nat.reduceSub, Option.map, bne, BEq.beq] | simp only [sS, Int.cast_ofNat_Int, Int.reduceEq, Int.reduceLT, Int.reduceLE, Int.reduceAdd, Int.reduceSub, Int.reduceToNat]))
    obtain rfl : i = xs.length := by simp at h; omega
    rw [List.take_length, hl, List.take_length] at hj
    simp [hj]
end Go.Av

namespace Go.Av
set_option maxRecDepth 100000
set_option maxHeartbeats 4000000
set_option linter.unusedVariables false
set_option linter.unusedSimpArgs false

structure Nd where
  k : Int
  s : List UInt8
  t : List UInt8
  deriving DecidableEq
structure Fc where
  s : List UInt8
  p : List UInt8
  o : List UInt8
  g : List UInt8
  deriving DecidableEq
def ndC (n : Nd) : List V := [.int .i64 n.k, .str n.s, .str n.t]
def fcC (f : Fc) : List V := [.str f.s, .str f.p, .str f.o, .str f.g]
def nds (ns : List Nd) : V := .fsl 3 (ns.map ndC)
def fcs (fs : List Fc) : V := .fsl 4 (fs.map fcC)
def ndSz (n : Nd) : Int := n.s.length + n.t.length
def fcSz (f : Fc) : Int := f.s.length + f.p.length + f.o.length + f.g.length
/-- The room left, or -1. -/
def szR (left total : Int) : Int := if total ≤ left then left - total else -1

theorem c65 (n : Nd) (left : Int) (h0 : 0 ≤ left) (h1 : left ≤ 1048576) (hs : n.s.length ≤ 140737488351232) (ht : n.t.length ≤ 140737488351232) :
    PCall prog [] 65 [.agg (ndC n), .int .i64 left] (· = .int .i64 (szR left (ndSz n))) := by
  refine PCall.enter mixed comp65 ?_
  dsimp only [ir65, ndC]
  (repeat (first | with_reducible refine And.intro trivial ?_ | with_reducible refine And.intro rfl ?_ | (with_reducible refine And.intro ?_ ?_; focus ((repeat' (first | with_reducible exact trivial | with_reducible exact rfl | (with_reducible apply And.intro) | exact in64 (by omega) (by omega) | omega)); done)) | dsimp only [go_sem, Nat.reduceAdd, Nat.reduceSub, Option.map, bne, BEq.beq, nds, fcs] | simp only [sS, Int.cast_ofNat_Int, Int.reduceEq, Int.reduceLT, Int.reduceLE, Int.reduceAdd, Int.reduceSub, Int.reduceToNat]))
  refine br (fun h => ?_) (fun h => ?_)
  · (repeat (first | with_reducible refine And.intro trivial ?_ | with_reducible refine And.intro rfl ?_ | (with_reducible refine And.intro ?_ ?_; focus ((repeat' (first | with_reducible exact trivial | with_reducible exact rfl | (with_reducible apply And.intro) | exact in64 (by omega) (by omega) | omega)); done)) | dsimp only [go_sem, Nat.reduceAdd, Nat.reduceSub, Option.map, bne, BEq.beq, nds, fcs] | simp only [sS, Int.cast_ofNat_Int, Int.reduceEq, Int.reduceLT, Int.reduceLE, Int.reduceAdd, Int.reduceSub, Int.reduceToNat]))
    refine fin0 ?_; (repeat (first | with_reducible refine And.intro trivial ?_ | with_reducible refine And.intro rfl ?_ | (with_reducible refine And.intro ?_ ?_; focus ((repeat' (first | with_reducible exact trivial | with_reducible exact rfl | (with_reducible apply And.intro) | exact in64 (by omega) (by omega) | omega)); done)) | dsimp only [go_sem, Nat.reduceAdd, Nat.reduceSub, Option.map, bne, BEq.beq, nds, fcs] | simp only [sS, Int.cast_ofNat_Int, Int.reduceEq, Int.reduceLT, Int.reduceLE, Int.reduceAdd, Int.reduceSub, Int.reduceToNat]))
    simp [szR, ndSz] at h ⊢; omega
  (repeat (first | with_reducible refine And.intro trivial ?_ | with_reducible refine And.intro rfl ?_ | (with_reducible refine And.intro ?_ ?_; focus ((repeat' (first | with_reducible exact trivial | with_reducible exact rfl | (with_reducible apply And.intro) | exact in64 (by omega) (by omega) | omega)); done)) | dsimp only [go_sem, Nat.reduceAdd, Nat.reduceSub, Option.map, bne, BEq.beq, nds, fcs] | simp only [sS, Int.cast_ofNat_Int, Int.reduceEq, Int.reduceLT, Int.reduceLE, Int.reduceAdd, Int.reduceSub, Int.reduceToNat]))
  simp only [decide_eq_false_iff_not] at h
  (repeat (first | with_reducible refine And.intro trivial ?_ | with_reducible refine And.intro rfl ?_ | (with_reducible refine And.intro ?_ ?_; focus ((repeat' (first | with_reducible exact trivial | with_reducible exact rfl | (with_reducible apply And.intro) | exact in64 (by omega) (by omega) | omega)); done)) | dsimp only [go_sem, Nat.reduceAdd, Nat.reduceSub, Option.map, bne, BEq.beq, nds, fcs] | simp only [sS, Int.cast_ofNat_Int, Int.reduceEq, Int.reduceLT, Int.reduceLE, Int.reduceAdd, Int.reduceSub, Int.reduceToNat]))
  refine br (fun h2 => ?_) (fun h2 => ?_)
  · (repeat (first | with_reducible refine And.intro trivial ?_ | with_reducible refine And.intro rfl ?_ | (with_reducible refine And.intro ?_ ?_; focus ((repeat' (first | with_reducible exact trivial | with_reducible exact rfl | (with_reducible apply And.intro) | exact in64 (by omega) (by omega) | omega)); done)) | dsimp only [go_sem, Nat.reduceAdd, Nat.reduceSub, Option.map, bne, BEq.beq, nds, fcs] | simp only [sS, Int.cast_ofNat_Int, Int.reduceEq, Int.reduceLT, Int.reduceLE, Int.reduceAdd, Int.reduceSub, Int.reduceToNat]))
    refine fin0 ?_; (repeat (first | with_reducible refine And.intro trivial ?_ | with_reducible refine And.intro rfl ?_ | (with_reducible refine And.intro ?_ ?_; focus ((repeat' (first | with_reducible exact trivial | with_reducible exact rfl | (with_reducible apply And.intro) | exact in64 (by omega) (by omega) | omega)); done)) | dsimp only [go_sem, Nat.reduceAdd, Nat.reduceSub, Option.map, bne, BEq.beq, nds, fcs] | simp only [sS, Int.cast_ofNat_Int, Int.reduceEq, Int.reduceLT, Int.reduceLE, Int.reduceAdd, Int.reduceSub, Int.reduceToNat]))
    simp [szR, ndSz] at h2 ⊢; omega
  · (repeat (first | with_reducible refine And.intro trivial ?_ | with_reducible refine And.intro rfl ?_ | (with_reducible refine And.intro ?_ ?_; focus ((repeat' (first | with_reducible exact trivial | with_reducible exact rfl | (with_reducible apply And.intro) | exact in64 (by omega) (by omega) | omega)); done)) | dsimp only [go_sem, Nat.reduceAdd, Nat.reduceSub, Option.map, bne, BEq.beq, nds, fcs] | simp only [sS, Int.cast_ofNat_Int, Int.reduceEq, Int.reduceLT, Int.reduceLE, Int.reduceAdd, Int.reduceSub, Int.reduceToNat]))
    refine fin0 ?_; (repeat (first | with_reducible refine And.intro trivial ?_ | with_reducible refine And.intro rfl ?_ | (with_reducible refine And.intro ?_ ?_; focus ((repeat' (first | with_reducible exact trivial | with_reducible exact rfl | (with_reducible apply And.intro) | exact in64 (by omega) (by omega) | omega)); done)) | dsimp only [go_sem, Nat.reduceAdd, Nat.reduceSub, Option.map, bne, BEq.beq, nds, fcs] | simp only [sS, Int.cast_ofNat_Int, Int.reduceEq, Int.reduceLT, Int.reduceLE, Int.reduceAdd, Int.reduceSub, Int.reduceToNat]))
    simp [szR, ndSz] at h2 ⊢; omega
theorem c37 (n : Fc) (left : Int) (h0 : 0 ≤ left) (h1 : left ≤ 1048576) (hs : n.s.length ≤ 140737488351232) (hp : n.p.length ≤ 140737488351232) (ho : n.o.length ≤ 140737488351232) (hg : n.g.length ≤ 140737488351232) :
    PCall prog [] 37 [.agg (fcC n), .int .i64 left] (· = .int .i64 (szR left (fcSz n))) := by
  refine PCall.enter mixed comp37 ?_
  dsimp only [ir37, fcC]
  (repeat (first | with_reducible refine And.intro trivial ?_ | with_reducible refine And.intro rfl ?_ | (with_reducible refine And.intro ?_ ?_; focus ((repeat' (first | with_reducible exact trivial | with_reducible exact rfl | (with_reducible apply And.intro) | exact in64 (by omega) (by omega) | omega)); done)) | dsimp only [go_sem, Nat.reduceAdd, Nat.reduceSub, Option.map, bne, BEq.beq, nds, fcs] | simp only [sS, Int.cast_ofNat_Int, Int.reduceEq, Int.reduceLT, Int.reduceLE, Int.reduceAdd, Int.reduceSub, Int.reduceToNat]))
  refine br (fun h => ?_) (fun h => ?_)
  · (repeat (first | with_reducible refine And.intro trivial ?_ | with_reducible refine And.intro rfl ?_ | (with_reducible refine And.intro ?_ ?_; focus ((repeat' (first | with_reducible exact trivial | with_reducible exact rfl | (with_reducible apply And.intro) | exact in64 (by omega) (by omega) | omega)); done)) | dsimp only [go_sem, Nat.reduceAdd, Nat.reduceSub, Option.map, bne, BEq.beq, nds, fcs] | simp only [sS, Int.cast_ofNat_Int, Int.reduceEq, Int.reduceLT, Int.reduceLE, Int.reduceAdd, Int.reduceSub, Int.reduceToNat]))
    refine fin0 ?_; (repeat (first | with_reducible refine And.intro trivial ?_ | with_reducible refine And.intro rfl ?_ | (with_reducible refine And.intro ?_ ?_; focus ((repeat' (first | with_reducible exact trivial | with_reducible exact rfl | (with_reducible apply And.intro) | exact in64 (by omega) (by omega) | omega)); done)) | dsimp only [go_sem, Nat.reduceAdd, Nat.reduceSub, Option.map, bne, BEq.beq, nds, fcs] | simp only [sS, Int.cast_ofNat_Int, Int.reduceEq, Int.reduceLT, Int.reduceLE, Int.reduceAdd, Int.reduceSub, Int.reduceToNat]))
    simp [szR, fcSz] at h ⊢; omega
  simp only [decide_eq_false_iff_not] at h
  (repeat (first | with_reducible refine And.intro trivial ?_ | with_reducible refine And.intro rfl ?_ | (with_reducible refine And.intro ?_ ?_; focus ((repeat' (first | with_reducible exact trivial | with_reducible exact rfl | (with_reducible apply And.intro) | exact in64 (by omega) (by omega) | omega)); done)) | dsimp only [go_sem, Nat.reduceAdd, Nat.reduceSub, Option.map, bne, BEq.beq, nds, fcs] | simp only [sS, Int.cast_ofNat_Int, Int.reduceEq, Int.reduceLT, Int.reduceLE, Int.reduceAdd, Int.reduceSub, Int.reduceToNat]))
  refine br (fun h2 => ?_) (fun h2 => ?_)
  · (repeat (first | with_reducible refine And.intro trivial ?_ | with_reducible refine And.intro rfl ?_ | (with_reducible refine And.intro ?_ ?_; focus ((repeat' (first | with_reducible exact trivial | with_reducible exact rfl | (with_reducible apply And.intro) | exact in64 (by omega) (by omega) | omega)); done)) | dsimp only [go_sem, Nat.reduceAdd, Nat.reduceSub, Option.map, bne, BEq.beq, nds, fcs] | simp only [sS, Int.cast_ofNat_Int, Int.reduceEq, Int.reduceLT, Int.reduceLE, Int.reduceAdd, Int.reduceSub, Int.reduceToNat]))
    refine fin0 ?_; (repeat (first | with_reducible refine And.intro trivial ?_ | with_reducible refine And.intro rfl ?_ | (with_reducible refine And.intro ?_ ?_; focus ((repeat' (first | with_reducible exact trivial | with_reducible exact rfl | (with_reducible apply And.intro) | exact in64 (by omega) (by omega) | omega)); done)) | dsimp only [go_sem, Nat.reduceAdd, Nat.reduceSub, Option.map, bne, BEq.beq, nds, fcs] | simp only [sS, Int.cast_ofNat_Int, Int.reduceEq, Int.reduceLT, Int.reduceLE, Int.reduceAdd, Int.reduceSub, Int.reduceToNat]))
    simp [szR, fcSz] at h2 ⊢; omega
  simp only [decide_eq_false_iff_not] at h2
  (repeat (first | with_reducible refine And.intro trivial ?_ | with_reducible refine And.intro rfl ?_ | (with_reducible refine And.intro ?_ ?_; focus ((repeat' (first | with_reducible exact trivial | with_reducible exact rfl | (with_reducible apply And.intro) | exact in64 (by omega) (by omega) | omega)); done)) | dsimp only [go_sem, Nat.reduceAdd, Nat.reduceSub, Option.map, bne, BEq.beq, nds, fcs] | simp only [sS, Int.cast_ofNat_Int, Int.reduceEq, Int.reduceLT, Int.reduceLE, Int.reduceAdd, Int.reduceSub, Int.reduceToNat]))
  refine br (fun h3 => ?_) (fun h3 => ?_)
  · (repeat (first | with_reducible refine And.intro trivial ?_ | with_reducible refine And.intro rfl ?_ | (with_reducible refine And.intro ?_ ?_; focus ((repeat' (first | with_reducible exact trivial | with_reducible exact rfl | (with_reducible apply And.intro) | exact in64 (by omega) (by omega) | omega)); done)) | dsimp only [go_sem, Nat.reduceAdd, Nat.reduceSub, Option.map, bne, BEq.beq, nds, fcs] | simp only [sS, Int.cast_ofNat_Int, Int.reduceEq, Int.reduceLT, Int.reduceLE, Int.reduceAdd, Int.reduceSub, Int.reduceToNat]))
    refine fin0 ?_; (repeat (first | with_reducible refine And.intro trivial ?_ | with_reducible refine And.intro rfl ?_ | (with_reducible refine And.intro ?_ ?_; focus ((repeat' (first | with_reducible exact trivial | with_reducible exact rfl | (with_reducible apply And.intro) | exact in64 (by omega) (by omega) | omega)); done)) | dsimp only [go_sem, Nat.reduceAdd, Nat.reduceSub, Option.map, bne, BEq.beq, nds, fcs] | simp only [sS, Int.cast_ofNat_Int, Int.reduceEq, Int.reduceLT, Int.reduceLE, Int.reduceAdd, Int.reduceSub, Int.reduceToNat]))
    simp [szR, fcSz] at h3 ⊢; omega
  simp only [decide_eq_false_iff_not] at h3
  (repeat (first | with_reducible refine And.intro trivial ?_ | with_reducible refine And.intro rfl ?_ | (with_reducible refine And.intro ?_ ?_; focus ((repeat' (first | with_reducible exact trivial | with_reducible exact rfl | (with_reducible apply And.intro) | exact in64 (by omega) (by omega) | omega)); done)) | dsimp only [go_sem, Nat.reduceAdd, Nat.reduceSub, Option.map, bne, BEq.beq, nds, fcs] | simp only [sS, Int.cast_ofNat_Int, Int.reduceEq, Int.reduceLT, Int.reduceLE, Int.reduceAdd, Int.reduceSub, Int.reduceToNat]))
  refine br (fun h4 => ?_) (fun h4 => ?_)
  · (repeat (first | with_reducible refine And.intro trivial ?_ | with_reducible refine And.intro rfl ?_ | (with_reducible refine And.intro ?_ ?_; focus ((repeat' (first | with_reducible exact trivial | with_reducible exact rfl | (with_reducible apply And.intro) | exact in64 (by omega) (by omega) | omega)); done)) | dsimp only [go_sem, Nat.reduceAdd, Nat.reduceSub, Option.map, bne, BEq.beq, nds, fcs] | simp only [sS, Int.cast_ofNat_Int, Int.reduceEq, Int.reduceLT, Int.reduceLE, Int.reduceAdd, Int.reduceSub, Int.reduceToNat]))
    refine fin0 ?_; (repeat (first | with_reducible refine And.intro trivial ?_ | with_reducible refine And.intro rfl ?_ | (with_reducible refine And.intro ?_ ?_; focus ((repeat' (first | with_reducible exact trivial | with_reducible exact rfl | (with_reducible apply And.intro) | exact in64 (by omega) (by omega) | omega)); done)) | dsimp only [go_sem, Nat.reduceAdd, Nat.reduceSub, Option.map, bne, BEq.beq, nds, fcs] | simp only [sS, Int.cast_ofNat_Int, Int.reduceEq, Int.reduceLT, Int.reduceLE, Int.reduceAdd, Int.reduceSub, Int.reduceToNat]))
    simp [szR, fcSz] at h4 ⊢; omega
  · (repeat (first | with_reducible refine And.intro trivial ?_ | with_reducible refine And.intro rfl ?_ | (with_reducible refine And.intro ?_ ?_; focus ((repeat' (first | with_reducible exact trivial | with_reducible exact rfl | (with_reducible apply And.intro) | exact in64 (by omega) (by omega) | omega)); done)) | dsimp only [go_sem, Nat.reduceAdd, Nat.reduceSub, Option.map, bne, BEq.beq, nds, fcs] | simp only [sS, Int.cast_ofNat_Int, Int.reduceEq, Int.reduceLT, Int.reduceLE, Int.reduceAdd, Int.reduceSub, Int.reduceToNat]))
    refine fin0 ?_; (repeat (first | with_reducible refine And.intro trivial ?_ | with_reducible refine And.intro rfl ?_ | (with_reducible refine And.intro ?_ ?_; focus ((repeat' (first | with_reducible exact trivial | with_reducible exact rfl | (with_reducible apply And.intro) | exact in64 (by omega) (by omega) | omega)); done)) | dsimp only [go_sem, Nat.reduceAdd, Nat.reduceSub, Option.map, bne, BEq.beq, nds, fcs] | simp only [sS, Int.cast_ofNat_Int, Int.reduceEq, Int.reduceLT, Int.reduceLE, Int.reduceAdd, Int.reduceSub, Int.reduceToNat]))
    simp [szR, fcSz] at h4 ⊢; omega

def okNd (n : Nd) : Prop := n.s.length ≤ 140737488351232 ∧ n.t.length ≤ 140737488351232
def okFc (n : Fc) : Prop := n.s.length ≤ 140737488351232 ∧ n.p.length ≤ 140737488351232 ∧ n.o.length ≤ 140737488351232 ∧ n.g.length ≤ 140737488351232
def sum (l : List Int) : Int := l.foldr (· + ·) 0
theorem sum_nonneg : ∀ {l : List Int}, (∀ x ∈ l, 0 ≤ x) → 0 ≤ sum l
  | [], _ => by simp [sum]
  | x :: l, h => by have := sum_nonneg (l := l) fun y hy => h y (by simp [hy]); have := h x (by simp); simp [sum] at *; omega
theorem sum_append (a b : List Int) : sum (a ++ b) = sum a + sum b := by
  induction a with
  | nil => simp [sum]
  | cons x a ih => simp [sum] at *; omega
def ndsSz (ns : List Nd) : Int := ns.length + sum (ns.map ndSz)
def fcsSz (fs : List Fc) : Int := fs.length + sum (fs.map fcSz)
theorem sum_take {α : Type} (f : α → Int) (xs : List α) {i : Nat} (h : i < xs.length) : sum ((xs.take (i + 1)).map f) = sum ((xs.take i).map f) + f xs[i] := by
  rw [List.take_succ_eq_append_getElem h, List.map_append, sum_append]; simp [sum]

theorem sum_split {α : Type} (f : α → Int) (hf : ∀ x, 0 ≤ f x) (xs : List α) (i : Nat) : sum ((xs.take i).map f) ≤ sum (xs.map f) := by
  conv => rhs; rw [← List.take_append_drop i xs, List.map_append, sum_append]
  have := sum_nonneg (l := (xs.drop i).map f) (by intro x hx; obtain ⟨y, _, rfl⟩ := List.mem_map.1 hx; exact hf y)
  omega

theorem c36 (ns : List Nd) (left : Int) (h0 : 0 ≤ left) (h1 : left ≤ 1048576) (hns : ∀ n ∈ ns, okNd n) : PCall prog [] 36 [nds ns, .int .i64 left] (· = .int .i64 (szR left (ndsSz ns))) := by
  refine PCall.small fun hsm => PCall.enter mixed comp36 ?_
  have hx : ns.length ≤ 9223372036854775807 := by simpa [nds] using hsm.1.1
  have hf : ∀ n, 0 ≤ ndSz n := by intro n; unfold ndSz; omega
  have htot := sum_nonneg (l := ns.map ndSz) (by intro x hx; obtain ⟨y, _, rfl⟩ := List.mem_map.1 hx; exact hf y)
  dsimp only [ir36, nds]
  (repeat (first | with_reducible refine And.intro trivial ?_ | with_reducible refine And.intro rfl ?_ | (with_reducible refine And.intro ?_ ?_; focus ((repeat' (first | with_reducible exact trivial | with_reducible exact rfl | (with_reducible apply And.intro) | exact in64 (by omega) (by omega) | omega)); done)) | dsimp only [go_sem, Nat.reduceAdd, Nat.reduceSub, Option.map, bne, BEq.beq, nds, fcs] | simp only [sS, Int.cast_ofNat_Int, Int.reduceEq, Int.reduceLT, Int.reduceLE, Int.reduceAdd, Int.reduceSub, Int.reduceToNat]))
  refine br (fun h => ?_) (fun h => ?_)
  · (repeat (first | with_reducible refine And.intro trivial ?_ | with_reducible refine And.intro rfl ?_ | (with_reducible refine And.intro ?_ ?_; focus ((repeat' (first | with_reducible exact trivial | with_reducible exact rfl | (with_reducible apply And.intro) | exact in64 (by omega) (by omega) | omega)); done)) | dsimp only [go_sem, Nat.reduceAdd, Nat.reduceSub, Option.map, bne, BEq.beq, nds, fcs] | simp only [sS, Int.cast_ofNat_Int, Int.reduceEq, Int.reduceLT, Int.reduceLE, Int.reduceAdd, Int.reduceSub, Int.reduceToNat]))
    refine fin0 ?_; (repeat (first | with_reducible refine And.intro trivial ?_ | with_reducible refine And.intro rfl ?_ | (with_reducible refine And.intro ?_ ?_; focus ((repeat' (first | with_reducible exact trivial | with_reducible exact rfl | (with_reducible apply And.intro) | exact in64 (by omega) (by omega) | omega)); done)) | dsimp only [go_sem, Nat.reduceAdd, Nat.reduceSub, Option.map, bne, BEq.beq, nds, fcs] | simp only [sS, Int.cast_ofNat_Int, Int.reduceEq, Int.reduceLT, Int.reduceLE, Int.reduceAdd, Int.reduceSub, Int.reduceToNat]))
    simp [szR, ndsSz] at h ⊢; omega
  simp only [decide_eq_false_iff_not, List.length_map] at h
  (repeat (first | with_reducible refine And.intro trivial ?_ | with_reducible refine And.intro rfl ?_ | (with_reducible refine And.intro ?_ ?_; focus ((repeat' (first | with_reducible exact trivial | with_reducible exact rfl | (with_reducible apply And.intro) | exact in64 (by omega) (by omega) | omega)); done)) | dsimp only [go_sem, Nat.reduceAdd, Nat.reduceSub, Option.map, bne, BEq.beq, nds, fcs] | simp only [sS, Int.cast_ofNat_Int, Int.reduceEq, Int.reduceLT, Int.reduceLE, Int.reduceAdd, Int.reduceSub, Int.reduceToNat]))
  refine lp [0] (fun i : Nat => [(1, .g (.int .i64 (left - ns.length - sum ((ns.take i).map ndSz)))), (5, .g (.int .i64 i))]) (fun _ => []) (fun i => i ≤ ns.length ∧ ns.length + sum ((ns.take i).map ndSz) ≤ left) (fun i => ns.length - i) 0 ⟨by show LV.g (.int .i64 (left - ns.length)) = _; simp [sum], rfl, trivial⟩ rfl ⟨by omega, by simp [sum]; omega⟩ ?_
  rintro i ⟨hi, hj⟩
  have hnn := sum_nonneg (l := (ns.take i).map ndSz) (by intro x hx; obtain ⟨y, _, rfl⟩ := List.mem_map.1 hx; exact hf y)
  (repeat (first | with_reducible refine And.intro trivial ?_ | with_reducible refine And.intro rfl ?_ | (with_reducible refine And.intro ?_ ?_; focus ((repeat' (first | with_reducible exact trivial | with_reducible exact rfl | (with_reducible apply And.intro) | exact in64 (by omega) (by omega) | omega)); done)) | dsimp only [go_sem, Nat.reduceAdd, Nat.reduceSub, Option.map, bne, BEq.beq, nds, fcs] | simp only [sS, Int.cast_ofNat_Int, Int.reduceEq, Int.reduceLT, Int.reduceLE, Int.reduceAdd, Int.reduceSub, Int.reduceToNat]))
  refine br (fun h => ?_) (fun h => ?_)
  · have hlt : i < ns.length := by simpa using h
    have e1 := getD_at ndC ns hlt
    have hok := hns ns[i] (List.getElem_mem hlt)
    (repeat (first | with_reducible refine And.intro trivial ?_ | with_reducible refine And.intro rfl ?_ | (with_reducible refine And.intro ?_ ?_; focus ((repeat' (first | with_reducible exact trivial | with_reducible exact rfl | (with_reducible apply And.intro) | exact in64 (by omega) (by omega) | omega)); done)) | dsimp only [go_sem, Nat.reduceAdd, Nat.reduceSub, Option.map, bne, BEq.beq, nds, fcs] | simp only [sS, Int.cast_ofNat_Int, Int.reduceEq, Int.reduceLT, Int.reduceLE, Int.reduceAdd, Int.reduceSub, Int.reduceToNat]))
    simp only [Int.toNat_natCast, e1, ndC]
    (repeat (first | with_reducible refine And.intro trivial ?_ | with_reducible refine And.intro rfl ?_ | (with_reducible refine And.intro ?_ ?_; focus ((repeat' (first | with_reducible exact trivial | with_reducible exact rfl | (with_reducible apply And.intro) | exact in64 (by omega) (by omega) | omega)); done)) | dsimp only [go_sem, Nat.reduceAdd, Nat.reduceSub, Option.map, bne, BEq.beq, nds, fcs] | simp only [sS, Int.cast_ofNat_Int, Int.reduceEq, Int.reduceLT, Int.reduceLE, Int.reduceAdd, Int.reduceSub, Int.reduceToNat]))
    refine cpe [] (c65 ns[i] _ (by omega) (by omega) hok.1 hok.2) rfl ?_
    have hst := sum_take ndSz ns hlt
    have hsp := sum_split ndSz hf ns (i + 1)
    have hfi := hf ns[i]
    have hr : szR (left - ns.length - sum ((ns.take i).map ndSz)) (ndSz ns[i]) < 0 ∧ left < ns.length + sum ((ns.take (i + 1)).map ndSz) ∨ szR (left - ns.length - sum ((ns.take i).map ndSz)) (ndSz ns[i]) = left - ns.length - sum ((ns.take (i + 1)).map ndSz) ∧ ns.length + sum ((ns.take (i + 1)).map ndSz) ≤ left := by
      unfold szR; split
      · right; omega
      · left; omega
    (repeat (first | with_reducible refine And.intro trivial ?_ | with_reducible refine And.intro rfl ?_ | (with_reducible refine And.intro ?_ ?_; focus ((repeat' (first | with_reducible exact trivial | with_reducible exact rfl | (with_reducible apply And.intro) | exact in64 (by omega) (by omega) | omega)); done)) | dsimp only [go_sem, Nat.reduceAdd, Nat.reduceSub, Option.map, bne, BEq.beq, nds, fcs] | simp only [sS, Int.cast_ofNat_Int, Int.reduceEq, Int.reduceLT, Int.reduceLE, Int.reduceAdd, Int.reduceSub, Int.reduceToNat]))
    refine br (fun h2 => ?_) (fun h2 => ?_)
    · (repeat (first | with_reducible refine And.intro trivial ?_ | with_reducible refine And.intro rfl ?_ | (with_reducible refine And.intro ?_ ?_; focus ((repeat' (first | with_reducible exact trivial | with_reducible exact rfl | (with_reducible apply And.intro) | exact in64 (by omega) (by omega) | omega)); done)) | dsimp only [go_sem, Nat.reduceAdd, Nat.reduceSub, Option.map, bne, BEq.beq, nds, fcs] | simp only [sS, Int.cast_ofNat_Int, Int.reduceEq, Int.reduceLT, Int.reduceLE, Int.reduceAdd, Int.reduceSub, Int.reduceToNat]))
      refine fin0 ?_; (repeat (first | with_reducible refine And.intro trivial ?_ | with_reducible refine And.intro rfl ?_ | (with_reducible refine And.intro ?_ ?_; focus ((repeat' (first | with_reducible exact trivial | with_reducible exact rfl | (with_reducible apply And.intro) | exact in64 (by omega) (by omega) | omega)); done)) | dsimp only [go_sem, Nat.reduceAdd, Nat.reduceSub, Option.map, bne, BEq.beq, nds, fcs] | simp only [sS, Int.cast_ofNat_Int, Int.reduceEq, Int.reduceLT, Int.reduceLE, Int.reduceAdd, Int.reduceSub, Int.reduceToNat]))
      have : ¬ (ndsSz ns ≤ left) := by simp only [decide_eq_true_eq] at h2; unfold ndsSz; omega
      simp [szR, this]
    · have h2' : ¬ (szR (left - ns.length - sum ((ns.take i).map ndSz)) (ndSz ns[i]) < 0)   := by simpa only [decide_eq_false_iff_not] using h2
      have h3 : szR (left - ns.length - sum ((ns.take i).map ndSz)) (ndSz ns[i]) = left - ns.length - sum ((ns.take (i + 1)).map ndSz) := by omega
      (repeat (first | with_reducible refine And.intro trivial ?_ | with_reducible refine And.intro rfl ?_ | (with_reducible refine And.intro ?_ ?_; focus ((repeat' (first | with_reducible exact trivial | with_reducible exact rfl | (with_reducible apply And.intro) | exact in64 (by omega) (by omega) | omega)); done)) | dsimp only [go_sem, Nat.reduceAdd, Nat.reduceSub, Option.map, bne, BEq.beq, nds, fcs] | simp only [sS, Int.cast_ofNat_Int, Int.reduceEq, Int.reduceLT, Int.reduceLE, Int.reduceAdd, Int.reduceSub, Int.reduceToNat]))
      exact rnd (i + 1) rfl ⟨rfl, trivial⟩ ⟨by show LV.g (.int .i64 (szR _ _)) = _; rw [h3], rfl, trivial⟩ rfl ⟨by omega, by omega⟩ (by omega)
  · (repeat (first | with_reducible refine And.intro trivial ?_ | with_reducible refine And.intro rfl ?_ | (with_reducible refine And.intro ?_ ?_; focus ((repeat' (first | with_reducible exact trivial | with_reducible exact rfl | (with_reducible apply And.intro) | exact in64 (by omega) (by omega) | omega)); done)) | dsimp only [go_sem, Nat.reduceAdd, Nat.reduceSub, Option.map, bne, BEq.beq, nds, fcs] | simp only [sS, Int.cast_ofNat_Int, Int.reduceEq, Int.reduceLT, Int.reduceLE, Int.reduceAdd, Int.reduceSub, Int.reduceToNat]))
    refine fin0 ?_; (repeat (first | with_reducible refine And.intro trivial ?_ | with_reducible refine And.intro rfl ?_ | (with_reducible refine And.intro ?_ ?_; focus ((repeat' (first | with_reducible exact trivial | with_reducible exact rfl | (with_reducible apply And.intro) | exact in64 (by omega) (by omega) | omega)); done)) | dsimp only [go_sem, Nat.reduceAdd, Nat.reduceSub, Option.map, bne, BEq.beq, nds, fcs] | simp only [sS, Int.cast_ofNat_Int, Int.reduceEq, Int.reduceLT, Int.reduceLE, Int.reduceAdd, Int.reduceSub, Int.reduceToNat]))
    obtain rfl : i = ns.length := by simp at h; omega
    rw [List.take_length] at hj ⊢
    simp [szR, ndsSz]; omega
theorem c13 (ns : List Fc) (left : Int) (h0 : 0 ≤ left) (h1 : left ≤ 1048576) (hns : ∀ n ∈ ns, okFc n) : PCall prog [] 13 [fcs ns, .int .i64 left] (· = .int .i64 (szR left (fcsSz ns))) := by
  refine PCall.small fun hsm => PCall.enter mixed comp13 ?_
  have hx : ns.length ≤ 9223372036854775807 := by simpa [fcs] using hsm.1.1
  have hf : ∀ n, 0 ≤ fcSz n := by intro n; unfold fcSz; omega
  have htot := sum_nonneg (l := ns.map fcSz) (by intro x hx; obtain ⟨y, _, rfl⟩ := List.mem_map.1 hx; exact hf y)
  dsimp only [ir13, fcs]
  (repeat (first | with_reducible refine And.intro trivial ?_ | with_reducible refine And.intro rfl ?_ | (with_reducible refine And.intro ?_ ?_; focus ((repeat' (first | with_reducible exact trivial | with_reducible exact rfl | (with_reducible apply And.intro) | exact in64 (by omega) (by omega) | omega)); done)) | dsimp only [go_sem, Nat.reduceAdd, Nat.reduceSub, Option.map, bne, BEq.beq, nds, fcs] | simp only [sS, Int.cast_ofNat_Int, Int.reduceEq, Int.reduceLT, Int.reduceLE, Int.reduceAdd, Int.reduceSub, Int.reduceToNat]))
  refine br (fun h => ?_) (fun h => ?_)
  · (repeat (first | with_reducible refine And.intro trivial ?_ | with_reducible refine And.intro rfl ?_ | (with_reducible refine And.intro ?_ ?_; focus ((repeat' (first | with_reducible exact trivial | with_reducible exact rfl | (with_reducible apply And.intro) | exact in64 (by omega) (by omega) | omega)); done)) | dsimp only [go_sem, Nat.reduceAdd, Nat.reduceSub, Option.map, bne, BEq.beq, nds, fcs] | simp only [sS, Int.cast_ofNat_Int, Int.reduceEq, Int.reduceLT, Int.reduceLE, Int.reduceAdd, Int.reduceSub, Int.reduceToNat]))
    refine fin0 ?_; (repeat (first | with_reducible refine And.intro trivial ?_ | with_reducible refine And.intro rfl ?_ | (with_reducible refine And.intro ?_ ?_; focus ((repeat' (first | with_reducible exact trivial | with_reducible exact rfl | (with_reducible apply And.intro) | exact in64 (by omega) (by omega) | omega)); done)) | dsimp only [go_sem, Nat.reduceAdd, Nat.reduceSub, Option.map, bne, BEq.beq, nds, fcs] | simp only [sS, Int.cast_ofNat_Int, Int.reduceEq, Int.reduceLT, Int.reduceLE, Int.reduceAdd, Int.reduceSub, Int.reduceToNat]))
    simp [szR, fcsSz] at h ⊢; omega
  simp only [decide_eq_false_iff_not, List.length_map] at h
  (repeat (first | with_reducible refine And.intro trivial ?_ | with_reducible refine And.intro rfl ?_ | (with_reducible refine And.intro ?_ ?_; focus ((repeat' (first | with_reducible exact trivial | with_reducible exact rfl | (with_reducible apply And.intro) | exact in64 (by omega) (by omega) | omega)); done)) | dsimp only [go_sem, Nat.reduceAdd, Nat.reduceSub, Option.map, bne, BEq.beq, nds, fcs] | simp only [sS, Int.cast_ofNat_Int, Int.reduceEq, Int.reduceLT, Int.reduceLE, Int.reduceAdd, Int.reduceSub, Int.reduceToNat]))
  refine lp [0] (fun i : Nat => [(1, .g (.int .i64 (left - ns.length - sum ((ns.take i).map fcSz)))), (5, .g (.int .i64 i))]) (fun _ => []) (fun i => i ≤ ns.length ∧ ns.length + sum ((ns.take i).map fcSz) ≤ left) (fun i => ns.length - i) 0 ⟨by show LV.g (.int .i64 (left - ns.length)) = _; simp [sum], rfl, trivial⟩ rfl ⟨by omega, by simp [sum]; omega⟩ ?_
  rintro i ⟨hi, hj⟩
  have hnn := sum_nonneg (l := (ns.take i).map fcSz) (by intro x hx; obtain ⟨y, _, rfl⟩ := List.mem_map.1 hx; exact hf y)
  (repeat (first | with_reducible refine And.intro trivial ?_ | with_reducible refine And.intro rfl ?_ | (with_reducible refine And.intro ?_ ?_; focus ((repeat' (first | with_reducible exact trivial | with_reducible exact rfl | (with_reducible apply And.intro) | exact in64 (by omega) (by omega) | omega)); done)) | dsimp only [go_sem, Nat.reduceAdd, Nat.reduceSub, Option.map, bne, BEq.beq, nds, fcs] | simp only [sS, Int.cast_ofNat_Int, Int.reduceEq, Int.reduceLT, Int.reduceLE, Int.reduceAdd, Int.reduceSub, Int.reduceToNat]))
  refine br (fun h => ?_) (fun h => ?_)
  · have hlt : i < ns.length := by simpa using h
    have e1 := getD_at fcC ns hlt
    have hok := hns ns[i] (List.getElem_mem hlt)
    (repeat (first | with_reducible refine And.intro trivial ?_ | with_reducible refine And.intro rfl ?_ | (with_reducible refine And.intro ?_ ?_; focus ((repeat' (first | with_reducible exact trivial | with_reducible exact rfl | (with_reducible apply And.intro) | exact in64 (by omega) (by omega) | omega)); done)) | dsimp only [go_sem, Nat.reduceAdd, Nat.reduceSub, Option.map, bne, BEq.beq, nds, fcs] | simp only [sS, Int.cast_ofNat_Int, Int.reduceEq, Int.reduceLT, Int.reduceLE, Int.reduceAdd, Int.reduceSub, Int.reduceToNat]))
    simp only [Int.toNat_natCast, e1, fcC]
    (repeat (first | with_reducible refine And.intro trivial ?_ | with_reducible refine And.intro rfl ?_ | (with_reducible refine And.intro ?_ ?_; focus ((repeat' (first | with_reducible exact trivial | with_reducible exact rfl | (with_reducible apply And.intro) | exact in64 (by omega) (by omega) | omega)); done)) | dsimp only [go_sem, Nat.reduceAdd, Nat.reduceSub, Option.map, bne, BEq.beq, nds, fcs] | simp only [sS, Int.cast_ofNat_Int, Int.reduceEq, Int.reduceLT, Int.reduceLE, Int.reduceAdd, Int.reduceSub, Int.reduceToNat]))
    refine cpe [] (c37 ns[i] _ (by omega) (by omega) hok.1 hok.2.1 hok.2.2.1 hok.2.2.2) rfl ?_
    have hst := sum_take fcSz ns hlt
    have hsp := sum_split fcSz hf ns (i + 1)
    have hfi := hf ns[i]
    have hr : szR (left - ns.length - sum ((ns.take i).map fcSz)) (fcSz ns[i]) < 0 ∧ left < ns.length + sum ((ns.take (i + 1)).map fcSz) ∨ szR (left - ns.length - sum ((ns.take i).map fcSz)) (fcSz ns[i]) = left - ns.length - sum ((ns.take (i + 1)).map fcSz) ∧ ns.length + sum ((ns.take (i + 1)).map fcSz) ≤ left := by
      unfold szR; split
      · right; omega
      · left; omega
    (repeat (first | with_reducible refine And.intro trivial ?_ | with_reducible refine And.intro rfl ?_ | (with_reducible refine And.intro ?_ ?_; focus ((repeat' (first | with_reducible exact trivial | with_reducible exact rfl | (with_reducible apply And.intro) | exact in64 (by omega) (by omega) | omega)); done)) | dsimp only [go_sem, Nat.reduceAdd, Nat.reduceSub, Option.map, bne, BEq.beq, nds, fcs] | simp only [sS, Int.cast_ofNat_Int, Int.reduceEq, Int.reduceLT, Int.reduceLE, Int.reduceAdd, Int.reduceSub, Int.reduceToNat]))
    refine br (fun h2 => ?_) (fun h2 => ?_)
    · (repeat (first | with_reducible refine And.intro trivial ?_ | with_reducible refine And.intro rfl ?_ | (with_reducible refine And.intro ?_ ?_; focus ((repeat' (first | with_reducible exact trivial | with_reducible exact rfl | (with_reducible apply And.intro) | exact in64 (by omega) (by omega) | omega)); done)) | dsimp only [go_sem, Nat.reduceAdd, Nat.reduceSub, Option.map, bne, BEq.beq, nds, fcs] | simp only [sS, Int.cast_ofNat_Int, Int.reduceEq, Int.reduceLT, Int.reduceLE, Int.reduceAdd, Int.reduceSub, Int.reduceToNat]))
      refine fin0 ?_; (repeat (first | with_reducible refine And.intro trivial ?_ | with_reducible refine And.intro rfl ?_ | (with_reducible refine And.intro ?_ ?_; focus ((repeat' (first | with_reducible exact trivial | with_reducible exact rfl | (with_reducible apply And.intro) | exact in64 (by omega) (by omega) | omega)); done)) | dsimp only [go_sem, Nat.reduceAdd, Nat.reduceSub, Option.map, bne, BEq.beq, nds, fcs] | simp only [sS, Int.cast_ofNat_Int, Int.reduceEq, Int.reduceLT, Int.reduceLE, Int.reduceAdd, Int.reduceSub, Int.reduceToNat]))
      have : ¬ (fcsSz ns ≤ left) := by simp only [decide_eq_true_eq] at h2; unfold fcsSz; omega
      simp [szR, this]
    · have h2' : ¬ (szR (left - ns.length - sum ((ns.take i).map fcSz)) (fcSz ns[i]) < 0)   := by simpa only [decide_eq_false_iff_not] using h2
      have h3 : szR (left - ns.length - sum ((ns.take i).map fcSz)) (fcSz ns[i]) = left - ns.length - sum ((ns.take (i + 1)).map fcSz) := by omega
      (repeat (first | with_reducible refine And.intro trivial ?_ | with_reducible refine And.intro rfl ?_ | (with_reducible refine And.intro ?_ ?_; focus ((repeat' (first | with_reducible exact trivial | with_reducible exact rfl | (with_reducible apply And.intro) | exact in64 (by omega) (by omega) | omega)); done)) | dsimp only [go_sem, Nat.reduceAdd, Nat.reduceSub, Option.map, bne, BEq.beq, nds, fcs] | simp only [sS, Int.cast_ofNat_Int, Int.reduceEq, Int.reduceLT, Int.reduceLE, Int.reduceAdd, Int.reduceSub, Int.reduceToNat]))
      exact rnd (i + 1) rfl ⟨rfl, trivial⟩ ⟨by show LV.g (.int .i64 (szR _ _)) = _; rw [h3], rfl, trivial⟩ rfl ⟨by omega, by omega⟩ (by omega)
  · (repeat (first | with_reducible refine And.intro trivial ?_ | with_reducible refine And.intro rfl ?_ | (with_reducible refine And.intro ?_ ?_; focus ((repeat' (first | with_reducible exact trivial | with_reducible exact rfl | (with_reducible apply And.intro) | exact in64 (by omega) (by omega) | omega)); done)) | dsimp only [go_sem, Nat.reduceAdd, Nat.reduceSub, Option.map, bne, BEq.beq, nds, fcs] | simp only [sS, Int.cast_ofNat_Int, Int.reduceEq, Int.reduceLT, Int.reduceLE, Int.reduceAdd, Int.reduceSub, Int.reduceToNat]))
    refine fin0 ?_; (repeat (first | with_reducible refine And.intro trivial ?_ | with_reducible refine And.intro rfl ?_ | (with_reducible refine And.intro ?_ ?_; focus ((repeat' (first | with_reducible exact trivial | with_reducible exact rfl | (with_reducible apply And.intro) | exact in64 (by omega) (by omega) | omega)); done)) | dsimp only [go_sem, Nat.reduceAdd, Nat.reduceSub, Option.map, bne, BEq.beq, nds, fcs] | simp only [sS, Int.cast_ofNat_Int, Int.reduceEq, Int.reduceLT, Int.reduceLE, Int.reduceAdd, Int.reduceSub, Int.reduceToNat]))
    obtain rfl : i = ns.length := by simp at h; omega
    rw [List.take_length] at hj ⊢
    simp [szR, fcsSz]; omega
theorem c12 (ns : List Nd) (left : Int) (h0 : 0 ≤ left) (h1 : left ≤ 1048576) (hns : ∀ n ∈ ns, okNd n) : PCall prog [] 12 [.agg [nds ns], .int .i64 left] (· = .int .i64 (szR left (ndsSz ns))) := by
  refine PCall.enter mixed comp12 ?_
  dsimp only [ir12]
  (repeat (first | with_reducible refine And.intro trivial ?_ | with_reducible refine And.intro rfl ?_ | (with_reducible refine And.intro ?_ ?_; focus ((repeat' (first | with_reducible exact trivial | with_reducible exact rfl | (with_reducible apply And.intro) | exact in64 (by omega) (by omega) | omega)); done)) | dsimp only [go_sem, Nat.reduceAdd, Nat.reduceSub, Option.map, bne, BEq.beq, nds, fcs] | simp only [sS, Int.cast_ofNat_Int, Int.reduceEq, Int.reduceLT, Int.reduceLE, Int.reduceAdd, Int.reduceSub, Int.reduceToNat]))
  refine cpe [] (c36 ns left h0 h1 hns) rfl ?_
  (repeat (first | with_reducible refine And.intro trivial ?_ | with_reducible refine And.intro rfl ?_ | (with_reducible refine And.intro ?_ ?_; focus ((repeat' (first | with_reducible exact trivial | with_reducible exact rfl | (with_reducible apply And.intro) | exact in64 (by omega) (by omega) | omega)); done)) | dsimp only [go_sem, Nat.reduceAdd, Nat.reduceSub, Option.map, bne, BEq.beq, nds, fcs] | simp only [sS, Int.cast_ofNat_Int, Int.reduceEq, Int.reduceLT, Int.reduceLE, Int.reduceAdd, Int.reduceSub, Int.reduceToNat]))
  refine br (fun h => ?_) (fun h => ?_)
  · (repeat (first | with_reducible refine And.intro trivial ?_ | with_reducible refine And.intro rfl ?_ | (with_reducible refine And.intro ?_ ?_; focus ((repeat' (first | with_reducible exact trivial | with_reducible exact rfl | (with_reducible apply And.intro) | exact in64 (by omega) (by omega) | omega)); done)) | dsimp only [go_sem, Nat.reduceAdd, Nat.reduceSub, Option.map, bne, BEq.beq, nds, fcs] | simp only [sS, Int.cast_ofNat_Int, Int.reduceEq, Int.reduceLT, Int.reduceLE, Int.reduceAdd, Int.reduceSub, Int.reduceToNat]))
    refine fin0 ?_; (repeat (first | with_reducible refine And.intro trivial ?_ | with_reducible refine And.intro rfl ?_ | (with_reducible refine And.intro ?_ ?_; focus ((repeat' (first | with_reducible exact trivial | with_reducible exact rfl | (with_reducible apply And.intro) | exact in64 (by omega) (by omega) | omega)); done)) | dsimp only [go_sem, Nat.reduceAdd, Nat.reduceSub, Option.map, bne, BEq.beq, nds, fcs] | simp only [sS, Int.cast_ofNat_Int, Int.reduceEq, Int.reduceLT, Int.reduceLE, Int.reduceAdd, Int.reduceSub, Int.reduceToNat]))
    simp only [decide_eq_true_eq] at h; unfold szR at *; split at h
    · omega
    · rename_i hh; rw [if_neg hh]
  · (repeat (first | with_reducible refine And.intro trivial ?_ | with_reducible refine And.intro rfl ?_ | (with_reducible refine And.intro ?_ ?_; focus ((repeat' (first | with_reducible exact trivial | with_reducible exact rfl | (with_reducible apply And.intro) | exact in64 (by omega) (by omega) | omega)); done)) | dsimp only [go_sem, Nat.reduceAdd, Nat.reduceSub, Option.map, bne, BEq.beq, nds, fcs] | simp only [sS, Int.cast_ofNat_Int, Int.reduceEq, Int.reduceLT, Int.reduceLE, Int.reduceAdd, Int.reduceSub, Int.reduceToNat]))
    refine fin0 ?_; (repeat (first | with_reducible refine And.intro trivial ?_ | with_reducible refine And.intro rfl ?_ | (with_reducible refine And.intro ?_ ?_; focus ((repeat' (first | with_reducible exact trivial | with_reducible exact rfl | (with_reducible apply And.intro) | exact in64 (by omega) (by omega) | omega)); done)) | dsimp only [go_sem, Nat.reduceAdd, Nat.reduceSub, Option.map, bne, BEq.beq, nds, fcs] | simp only [sS, Int.cast_ofNat_Int, Int.reduceEq, Int.reduceLT, Int.reduceLE, Int.reduceAdd, Int.reduceSub, Int.reduceToNat]))
end Go.Av

namespace Go.Av
set_option linter.unusedVariables false
set_option linter.unusedSimpArgs false

mutual
/-- No memory is looked at. -/
def flatV : V → Bool
  | .int _ _ => true
  | .bool _ => true
  | .str _ => true
  | .x _ => true
  | .nils => true
  | .agg cs => flatL cs
  | .fsl _ es => match es with
    | [] => true
    | _ :: _ => false
  | .fptr _ => false
  | .iface _ v => flatV v
  | .func _ cs => flatL cs
  | .tup vs => flatL vs
def flatL : List V → Bool
  | [] => true
  | v :: vs => match flatV v with
    | true => flatL vs
    | false => false
end
mutual
theorem flat_rep {F F' : Fz} : ∀ {v : V} {y : Value}, flatV v = true → Rep F v y → Rep F' v y
  | .int _ _, y, h, r => r
  | .bool _, y, h, r => r
  | .str _, y, h, r => r
  | .x _, y, h, r => r
  | .nils, y, h, r => r
  | .agg cs, y, h, ⟨ys, e, r⟩ => ⟨ys, e, flatL_rep h r⟩
  | .fsl s [], y, h, ⟨a, cap, e, hc, r⟩ => ⟨a, cap, e, hc, .inl rfl⟩
  | .fsl s (x :: xs), y, h, r => by simp only [flatV] at h; cases h
  | .fptr _, y, h, r => by simp only [flatV] at h; cases h
  | .iface t v, y, h, ⟨u, e, r⟩ => ⟨u, e, flat_rep h r⟩
  | .func f cs, y, h, ⟨ys, e, r⟩ => ⟨ys, e, flatL_rep h r⟩
  | .tup cs, y, h, ⟨ys, e, r⟩ => ⟨ys, e, flatL_rep h r⟩
theorem flatL_rep {F F' : Fz} : ∀ {vs : List V} {ys : List Value}, flatL vs = true → RepL F vs ys → RepL F' vs ys
  | [], ys, h, r => r
  | v :: vs, ys, h, ⟨y, rr, e, h1, h2⟩ => by
    simp only [flatL] at h
    split at h
    · rename_i hv; exact ⟨y, rr, e, flat_rep hv h1, flatL_rep h h2⟩
    · cases h
end
theorem flatC_rep {F F' : Fz} {arr : Array Value} : ∀ {vs : List V} {o : Nat}, flatL vs = true → RepC F arr vs o → RepC F' arr vs o
  | [], o, h, r => trivial
  | v :: vs, o, h, ⟨⟨y, e, h1, h2⟩, h3⟩ => by
    simp only [flatL] at h
    split at h
    · rename_i hv; exact ⟨⟨y, e, h1, flat_rep hv h2⟩, flatC_rep h h3⟩
    · cases h
theorem flatR_rep {F F' : Fz} {arr : Array Value} {s : Nat} : ∀ {es : List (List V)} {o : Nat}, (∀ e ∈ es, flatL e = true) → RepR F s arr es o → RepR F' s arr es o
  | [], o, h, r => trivial
  | e :: es, o, h, ⟨h1, h2, h3⟩ => ⟨h1, flatC_rep (h e (by simp)) h2, flatR_rep (fun x hx => h x (by simp [hx])) h3⟩
theorem flatM_rep {F F' : Fz} : ∀ {es : List (V × V)} {ents : List MapEntry} {n : Nat}, (∀ e ∈ es, flatV e.1 = true ∧ flatV e.2 = true) → RepM F es ents n → RepM F' es ents n
  | [], ents, n, h, r => r
  | x :: xs, ents, n, h, ⟨e, rr, h1, h2, h3, h4, h5⟩ => ⟨e, rr, h1, h2, flat_rep (h x (by simp)).1 h3, flat_rep (h x (by simp)).2 h4, flatM_rep (fun y hy => h y (by simp [hy])) h5⟩

mutual
def flatLV : LV → Bool
  | .g v => flatV v
  | .agg cs => flatLVs cs
  | .iface _ v => flatLV v
  | .func _ cs => flatLVs cs
  | .tup cs => flatLVs cs
  | .loc _ _ => true
  | .elt _ _ _ => true
  | .rw _ => true
  | .lsl _ _ _ => true
  | .mp _ => true
  | .any => true
def flatLVs : List LV → Bool
  | [] => true
  | v :: vs => match flatLV v with
    | true => flatLVs vs
    | false => false
end
mutual
theorem flatLV_rep {F F' : Fz} {σ : List Pl} : ∀ {v : LV} {y : Value}, flatLV v = true → LRep F σ v y → LRep F' σ v y
  | .g v, y, h, r => by simp only [LRep] at r ⊢; exact flat_rep h r
  | .agg cs, y, h, ⟨ys, e, r⟩ => ⟨ys, e, flatLVs_rep h r⟩
  | .iface t v, y, h, ⟨u, e, r⟩ => ⟨u, e, flatLV_rep h r⟩
  | .func f cs, y, h, ⟨ys, e, r⟩ => ⟨ys, e, flatLVs_rep h r⟩
  | .tup cs, y, h, ⟨ys, e, r⟩ => ⟨ys, e, flatLVs_rep h r⟩
  | .loc _ _, y, h, r => r
  | .elt _ _ _, y, h, r => r
  | .rw _, y, h, r => r
  | .lsl _ _ _, y, h, r => r
  | .mp _, y, h, r => r
  | .any, y, h, r => r
theorem flatLVs_rep {F F' : Fz} {σ : List Pl} : ∀ {vs : List LV} {ys : List Value}, flatLVs vs = true → LRepL F σ vs ys → LRepL F' σ vs ys
  | [], ys, h, r => r
  | v :: vs, ys, h, ⟨y, rr, e, h1, h2⟩ => by
    simp only [flatLVs] at h
    split at h
    · rename_i hv; exact ⟨y, rr, e, flatLV_rep hv h1, flatLVs_rep h h2⟩
    · cases h
end
def flatO : Obj → Prop
  | .cells cs => flatLVs cs = true
  | .row _ _ es => ∀ e ∈ es, flatL e = true
  | .map es => ∀ e ∈ es, flatV e.1 = true ∧ flatV e.2 = true
  | .dead => True
  | _ => False

/-- Rows seen as frozen ones. -/
def frzO : List Obj → List Obj
  | [] => []
  | .row _ s es :: r => .frow s es :: frzO r
  | o :: r => o :: frzO r
theorem frzO_eq : ∀ (O : List Obj), frzO O = O.map fun o => match o with | .row _ s es => .frow s es | o => o
  | [] => rfl
  | o :: r => by cases o <;> simp [frzO, frzO_eq r]

section
variable {P : Program} {G : Gl} {F : Fz} {σ : List Pl} {O : List Obj} {w : World}

theorem frz_upto (hs : St G F σ O w) : ∀ n, n ≤ O.length → ∃ F', St G F' σ (frzO (O.take n) ++ O.drop n) w ∧ Step F σ w F' σ w
  | 0, _ => ⟨F, by simpa [frzO] using hs, .refl F σ w⟩
  | n + 1, hn => by
    obtain ⟨F1, hs1, st1⟩ := frz_upto hs n (by omega)
    have hlen : (frzO (O.take n)).length = n := by rw [frzO_eq]; simp; omega
    have hdrop : O.drop n = O[n] :: O.drop (n + 1) := List.drop_eq_getElem_cons (by omega)
    have htake : O.take (n + 1) = O.take n ++ [O[n]] := List.take_succ_eq_append_getElem (by omega)
    have happ : ∀ a b : List Obj, frzO (a ++ b) = frzO a ++ frzO b := by intro a b; rw [frzO_eq, frzO_eq, frzO_eq, List.map_append]
    rw [htake, happ]
    rw [hdrop] at hs1
    by_cases h : ∃ pn s es, O[n] = .row pn s es
    · obtain ⟨pn, s, es, he⟩ := h
      have hk : (frzO (O.take n) ++ O[n] :: O.drop (n + 1))[n]? = some (.row pn s es) := by
        rw [List.getElem?_append_right (by omega), hlen]; simp [he]
      obtain ⟨F2, hs2, st2⟩ := frz_row hs1 hk
      refine ⟨F2, ?_, st1.trans st2⟩
      rw [List.set_append, if_neg (by omega), hlen] at hs2
      simpa [he, frzO] using hs2
    · refine ⟨F1, ?_, st1⟩
      have : frzO [O[n]] = [O[n]] := by
        cases ho : O[n] <;> first | rfl | skip
        exact absurd ⟨_, _, _, ho⟩ h
      rw [this]; simpa using hs1
theorem frz_all (hs : St G F σ O w) : ∃ F', St G F' σ (frzO O) w ∧ Step F σ w F' σ w := by
  have := frz_upto hs O.length (Nat.le_refl _)
  simpa using this

theorem may_nil {b : Nat} (h : May [] w b) : w.heap.size ≤ b := by
  rcases h with h | ⟨p, hp, _⟩
  · exact h
  · simp at hp

theorem ObjOk.flat {F' : Fz} {σ' : List Pl} {n : Nat} {w' : World} {e : Obj} {p : Pl} (hp : ∀ (i : Nat) (p : Pl), σ'[i]? = some p → ∃ p', σ[nth [] n i]? = some p' ∧ same p p') (hf : flatO e) (hn : ∀ b c, p.at_ = some (b, c) → F b = none) (h : ObjOk F' σ' w' e p) : ObjOk F σ w' (renO [] n e) p := by
  cases e with
  | cells cs =>
    obtain ⟨b, arr, e, z, hat, _, hw, hfr, h1, hr⟩ := h
    exact ⟨b, arr, e, z, hat, hn b 0 hat, hw, hfr, h1, renL_rep hp (flatLVs_rep hf hr)⟩
  | row pn s es =>
    obtain ⟨hps, hl, hc, hr⟩ := h
    refine ⟨hps, hl, hc, hr.imp id ?_⟩
    rintro ⟨b, off, arr, e, z, hat, _, hw, hfr, hle, hr⟩
    exact ⟨b, off, arr, e, z, hat, hn b off hat, hw, hfr, hle, flatR_rep hf hr⟩
  | map es =>
    obtain ⟨b, ents, hat, _, hw, hr⟩ := h
    exact ⟨b, ents, hat, hn b 0 hat, hw, flatM_rep hf hr⟩
  | dead => trivial
  | _ => exact hf.elim

/-- A call with frozen arguments, rows lent in their place: what it gives looks at no memory but its own. -/
theorem ACalls.borrow {f : FuncId} {xa : List LV} {vs : List V} {E : List Obj} {K : LV → List Obj → Prop} (hv : tvL (frzO E) xa = some vs) (hc : ACalls P G f (vs.map .g) [] K) (hflat : ∀ r E', K r E' → flatLV r = true ∧ ∀ e ∈ E', flatO e) :
    ACalls P G f xa E (fun r E'' => ∃ r' E', K r' E' ∧ r = ren [] E.length r' ∧ E'' = E ++ renLO [] E.length E') := by
  intro F σ w vals hs ha
  obtain ⟨F1, hs1, st1⟩ := frz_all hs
  have hR := tvL_sound hs1 hv (ha.mono st1.le (fun _ _ h => h))
  refine (hc F1 [] w vals hs1.toNil (args_g hR)).mono ?_
  rintro e w' ⟨v, r, E', F', σ', rfl, hK, hr, hs', st⟩
  obtain ⟨hfr, hfE⟩ := hflat r E' hK
  have hlen := hs.len
  have hold : ∀ b, b < w.heap.size → w'.heap[b]? = w.heap[b]? := fun b hb => st.frame b fun h => by have := may_nil h; omega
  have hren : ∀ (i : Nat) (p : Pl), σ'[i]? = some p → ∃ p', (σ ++ σ')[nth [] E.length i]? = some p' ∧ same p p' := by
    intro i p hp
    simp only [nth]
    rw [List.getElem?_append_right (by omega), hlen, Nat.add_sub_cancel_left]
    exact ⟨p, hp, .refl p⟩
  have hext : ∀ (k : Nat) (p : Pl), σ[k]? = some p → (σ ++ σ')[k]? = some p := by
    intro k p hp; rw [List.getElem?_append_left (List.getElem?_eq_some_iff.1 hp).1]; exact hp
  have hnew : ∀ p ∈ σ', ∀ b c, p.at_ = some (b, c) → w.heap.size ≤ b := fun p hp b c hat => may_nil (st.pnew p hp b c hat)
  have part : ∀ {k : Nat} {o : Obj} {p : Pl}, (E ++ renLO [] E.length E')[k]? = some o → (σ ++ σ')[k]? = some p → (E[k]? = some o ∧ σ[k]? = some p ∧ k < E.length) ∨ ∃ i e, k = E.length + i ∧ E'[i]? = some e ∧ o = renO [] E.length e ∧ σ'[i]? = some p := by
    intro k o p ho hp
    by_cases hk : k < E.length
    · rw [List.getElem?_append_left hk] at ho
      rw [List.getElem?_append_left (by omega)] at hp
      exact .inl ⟨ho, hp, hk⟩
    · rw [List.getElem?_append_right (by omega), renLO_get, Option.map_eq_some_iff] at ho
      rw [List.getElem?_append_right (by omega), ← hlen] at hp
      obtain ⟨e, he, rfl⟩ := ho
      exact .inr ⟨k - E.length, e, by omega, he, rfl, hp⟩
  refine ⟨v, ren [] E.length r, E ++ renLO [] E.length E', F, σ ++ σ', rfl, ⟨r, E', hK, rfl, rfl⟩, ren_rep hren (flatLV_rep hfr hr), ?_, ?_⟩
  · refine ⟨?_, hs.gl, ?_, ?_, ?_, ?_, ?_⟩
    · intro b arr hb
      exact hs'.fz b arr (st.le _ _ (st1.le _ _ hb))
    · rw [List.length_append, renLO_length, List.length_append, hs.len, hs'.len]
    · intro k o p ho hp
      rcases part ho hp with ⟨h1, h2, _⟩ | ⟨i, e, hk, h1, rfl, h2⟩
      · exact (hs.obj k o p h1 h2).keep (Fz.le_refl F) hext fun b c _ hat => ⟨hold b (hs.lt h2 hat), id⟩
      · exact ObjOk.flat hren (hfE e (List.mem_of_getElem? h1)) (fun b c hat => hs.none_new (hnew p (List.mem_of_getElem? h2) b c hat)) (hs'.obj i e p h1 h2)
    · intro p hp b c hat
      rcases List.mem_append.1 hp with hp | hp
      · exact Nat.lt_of_lt_of_le (hs.inside p hp b c hat) st.size
      · exact hs'.inside p hp b c hat
    · intro i j p q oi oj b c d e hij hi hj li lj hpi hpj ha hb
      rcases part hi hpi with ⟨a1, a2, a3⟩ | ⟨i', e1, a1, a2, rfl, a3⟩ <;> rcases part hj hpj with ⟨b1, b2, b3⟩ | ⟨j', e2, b1, b2, rfl, b3⟩
      · exact hs.apart i j p q oi oj b c d e hij a1 b1 li lj a2 b2 ha hb
      · have h1 := hs.lt a2 ha; have h2 := hnew q (List.mem_of_getElem? b3) d e hb; omega
      · have h1 := hs.lt b2 hb; have h2 := hnew p (List.mem_of_getElem? a3) b c ha; omega
      · exact hs'.apart i' j' p q e1 e2 b c d e (by omega) a2 b2 (renO_live li) (renO_live lj) a3 b3 ha hb
    · intro k o p ho hp
      rcases part ho hp with ⟨h1, h2, _⟩ | ⟨i, e, hk, h1, rfl, h2⟩
      · exact hs.pin k o p h1 h2
      · have := hs'.pin i e p h1 h2
        cases e <;> first | trivial | exact this
  · refine ⟨Fz.le_refl F, ?_, fun b h h' => absurd h h', ?_, st.size, st.os, st.tape, st.output, fun k p h _ => hext k p h, by simp⟩
    · intro b hb
      exact st.frame b fun h => hb (.inl (may_nil h))
    · intro p hp b c hat
      rcases List.mem_append.1 hp with hp | hp
      · exact .inr ⟨p, hp, c, hat⟩
      · exact .inl (hnew p hp b c hat)

theorem PCall.borrow {f : FuncId} {xa : List LV} {vs : List V} {E : List Obj} {u : V} (hc : PCall P G f vs (· = u)) (hv : tvL (frzO E) xa = some vs) (hflat : flatV u = true) : ACalls P G f xa E (fun r E' => r = .g u ∧ E' = E) := by
  have := ACalls.borrow hv hc (by rintro r E' ⟨rfl, v, rfl, rfl⟩; exact ⟨hflat, by simp⟩)
  refine this.mono ?_
  rintro r E'' ⟨r', E', ⟨rfl, v, rfl, rfl⟩, rfl, rfl⟩
  exact ⟨rfl, by simp [renLO]⟩
/-- In any order: rows lent to a call. -/
theorem cdb {xs : List LV} {dst : Option Nat} {N : Next'} {fr : List LV} {f : FuncId} (js : List Nat) {vs : List V} {u : V} (hc : PCall P G f vs (· = u)) (hv : tvL (frzO (lendO js js O js)) (unL js O xs) = some vs) (hflat : flatV u = true) (hl : okL O js = true) (hp : plains O js = true) (hsol : solL (unL js O xs) = true)
    (hN : N (pt fr dst (.g u)) O) : doCall P G f xs dst N fr O :=
  ⟨js, u, hl, hp, hsol, hc.borrow hv hflat, hN⟩
/-- Rows lent to a call. -/
theorem cpb {xs : List LV} {dst : Option Nat} {N : Next'} {fr : List LV} {f : FuncId} (js : List Nat) {vs : List V} {u : V} (hc : PCall P G f vs (· = u)) (hv : tvL (frzO (lendO js js O js)) (unL js O xs) = some vs) (hflat : flatV u = true) (hl : okL O js = true) (hp : plains O js = true)
    (hN : N (pt fr dst (.g u)) O) : doCallx P G f xs dst N fr O := by
  refine ⟨[], js, js, _, hl, hc.borrow hv hflat, ?_⟩
  rintro r E' ⟨rfl, rfl⟩
  show N (pt (killF (turns O js js) fr) dst (.g u)) (backL js (turns O js js) O (lendO js js O js))
  rw [turns_self (fun j h => h), back_same hl hp]
  exact hN
end
end Go.Av
