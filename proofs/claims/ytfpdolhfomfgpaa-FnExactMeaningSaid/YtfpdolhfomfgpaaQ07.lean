/-
  Values at a distance from memory, states of a call, and contracts of functions over them. No condition.
-/
import Derived.Test.YtfpdolhfomfgpaaQ06
namespace Go.Av
set_option maxRecDepth 100000
/-- loop.example/s01136/spec.l6Text -/
def ir51 : IrF := ⟨.seq (.reg [
  ⟨(some 2), none, .q (.mov (.c (.bool false)))⟩]) (
 .seq (.reg [
  ⟨(some 3), none, .q (.mov (.t 0))⟩,
  ⟨(some 4), none, .q (.slen (.t 3))⟩,
  ⟨(some 5), none, .q (.bin .geq false (.t 4) (.c (.int .i64 1)))⟩,
  ⟨(some 6), none, .q (.mov (.t 5))⟩,
  ⟨(some 7), (some (6, true)), .q (.mov (.t 0))⟩,
  ⟨(some 8), (some (6, true)), .q (.slen (.t 7))⟩,
  ⟨(some 9), (some (6, true)), .q (.bin .leq false (.t 8) (.c (.int .i64 30)))⟩,
  ⟨(some 10), none, .q (.pick (.t 6) (.t 9) (.c (.bool false)))⟩,
  ⟨(some 2), none, .q (.mov (.t 10))⟩]) (
 .ret)), 11, [.t 2]⟩
theorem comp51 : compF Go.Proofs.Try.prog [] wr64 51 = some ir51 := by kernel_rfl
/-- loop.example/s01136/spec.l6Arity -/
def ir52 : IrF := ⟨.seq (.reg [
  ⟨(some 2), none, .q (.mov (.c (.int .i64 0)))⟩]) (
 .seq (.seq (.reg [
  ⟨(some 3), none, .q (.mov (.t 0))⟩,
  ⟨(some 4), none, .q (.bin .leq false (.t 3) (.c (.int .i64 2)))⟩]) (
 .cond 4 (
  .seq (.reg [
    ⟨(some 2), none, .q (.mov (.c (.int .i64 0)))⟩]) (
  .ret)) (
  .skip))) (
 .seq (.seq (.reg [
  ⟨(some 5), none, .q (.mov (.t 0))⟩,
  ⟨(some 6), none, .q (.bin .geq false (.t 5) (.c (.int .i64 6)))⟩,
  ⟨(some 7), none, .q (.mov (.t 6))⟩,
  ⟨(some 8), (some (7, true)), .q (.mov (.t 0))⟩,
  ⟨(some 9), (some (7, true)), .q (.bin .leq false (.t 8) (.c (.int .i64 8)))⟩,
  ⟨(some 10), none, .q (.pick (.t 7) (.t 9) (.c (.bool false)))⟩]) (
 .cond 10 (
  .seq (.reg [
    ⟨(some 2), none, .q (.mov (.c (.int .i64 2)))⟩]) (
  .ret)) (
  .skip))) (
 .seq (.reg [
  ⟨(some 2), none, .q (.mov (.c (.int .i64 1)))⟩]) (
 .ret)))), 11, [.t 2]⟩
theorem comp52 : compF Go.Proofs.Try.prog [] wr64 52 = some ir52 := by kernel_rfl
/-- loop.example/s01136/spec.l6Root -/
def ir61 : IrF := ⟨.seq (.reg [
  ⟨(some 2), none, .alloc [(.int .i64 0), (.str []), (.str [])]⟩]) (
 .seq (.reg [
  ⟨(some 3), none, .q (.mov (.t 0))⟩,
  ⟨(some 4), none, .q (.mov (.t 0))⟩,
  ⟨(some 5), none, .q (.len (.t 4))⟩,
  ⟨(some 6), none, .q (.bin .sub false (.t 5) (.c (.int .i64 1)))⟩,
  ⟨(some 7), none, .q (.ia 3 (.t 3) (.t 6))⟩,
  ⟨(some 8), none, .q (.load (some 3) (.t 7))⟩,
  ⟨none, none, .store 3 (.t 2) (.t 8)⟩]) (
 .ret)), 9, [.c 2 (some 3)]⟩
theorem comp61 : compF Go.Proofs.Try.prog [] wr64 61 = some ir61 := by kernel_rfl
/-- loop.example/s01136/spec.l6GoodNode -/
def ir29 : IrF := ⟨.seq (.reg [
  ⟨(some 1), none, .box (.t 0)⟩,
  ⟨(some 2), none, .q (.mov (.c (.bool false)))⟩]) (
 .seq (.seq (.reg [
  ⟨(some 3), none, .q (.fa 0 (.t 1))⟩,
  ⟨(some 4), none, .q (.load none (.t 3))⟩]) (
 .block (
  .seq (.seq (.reg [
    ⟨(some 6), none, .q (.bin .eql false (.t 4) (.c (.int .i64 1)))⟩,
    ⟨(some 5), none, .q (.mov (.t 6))⟩]) (
  .cond 5 (
    .skip) (
    .seq (.reg [
      ⟨(some 7), none, .q (.bin .eql false (.t 4) (.c (.int .i64 6)))⟩,
      ⟨(some 5), none, .q (.mov (.t 7))⟩]) (
    .cond 5 (
      .skip) (
      .seq (.reg [
        ⟨(some 8), none, .q (.bin .eql false (.t 4) (.c (.int .i64 7)))⟩,
        ⟨(some 5), none, .q (.mov (.t 8))⟩]) (
      .cond 5 (
        .skip) (
        .reg [
          ⟨(some 9), none, .q (.bin .eql false (.t 4) (.c (.int .i64 8)))⟩,
          ⟨(some 5), none, .q (.mov (.t 9))⟩]))))))) (
  .cond 5 (
    .seq (.reg [
      ⟨(some 10), none, .q (.fa 1 (.t 1))⟩,
      ⟨(some 11), none, .q (.load none (.t 10))⟩,
      ⟨(some 12), none, .q (.bin .eql false (.t 11) (.c (.str [])))⟩,
      ⟨(some 13), none, .q (.mov (.t 12))⟩,
      ⟨(some 14), (some (13, true)), .q (.fa 2 (.t 1))⟩,
      ⟨(some 15), (some (13, true)), .q (.load none (.t 14))⟩,
      ⟨(some 16), (some (13, true)), .q (.bin .eql false (.t 15) (.c (.str [])))⟩,
      ⟨(some 17), none, .q (.pick (.t 13) (.t 16) (.c (.bool false)))⟩,
      ⟨(some 2), none, .q (.mov (.t 17))⟩]) (
    .ret)) (
    .seq (.seq (.reg [
      ⟨(some 19), none, .q (.bin .eql false (.t 4) (.c (.int .i64 2)))⟩,
      ⟨(some 18), none, .q (.mov (.t 19))⟩]) (
    .cond 18 (
      .skip) (
      .seq (.reg [
        ⟨(some 20), none, .q (.bin .eql false (.t 4) (.c (.int .i64 3)))⟩,
        ⟨(some 18), none, .q (.mov (.t 20))⟩]) (
      .cond 18 (
        .skip) (
        .seq (.reg [
          ⟨(some 21), none, .q (.bin .eql false (.t 4) (.c (.int .i64 4)))⟩,
          ⟨(some 18), none, .q (.mov (.t 21))⟩]) (
        .cond 18 (
          .skip) (
          .reg [
            ⟨(some 22), none, .q (.bin .eql false (.t 4) (.c (.int .i64 9)))⟩,
            ⟨(some 18), none, .q (.mov (.t 22))⟩]))))))) (
    .cond 18 (
      .seq (.reg [
        ⟨(some 23), none, .q (.fa 1 (.t 1))⟩,
        ⟨(some 24), none, .q (.load none (.t 23))⟩,
        ⟨(some 25), none, .callx 51 [(.t 24)]⟩,
        ⟨(some 26), none, .q (.mov (.t 25))⟩,
        ⟨(some 27), (some (26, true)), .q (.fa 2 (.t 1))⟩,
        ⟨(some 28), (some (26, true)), .q (.load none (.t 27))⟩,
        ⟨(some 29), (some (26, true)), .q (.bin .eql false (.t 28) (.c (.str [])))⟩,
        ⟨(some 30), none, .q (.pick (.t 26) (.t 29) (.c (.bool false)))⟩,
        ⟨(some 2), none, .q (.mov (.t 30))⟩]) (
      .ret)) (
      .seq (.reg [
        ⟨(some 32), none, .q (.bin .eql false (.t 4) (.c (.int .i64 5)))⟩,
        ⟨(some 31), none, .q (.mov (.t 32))⟩]) (
      .cond 31 (
        .seq (.reg [
          ⟨(some 33), none, .q (.fa 1 (.t 1))⟩,
          ⟨(some 34), none, .q (.load none (.t 33))⟩,
          ⟨(some 35), none, .callx 51 [(.t 34)]⟩,
          ⟨(some 36), none, .q (.mov (.t 35))⟩,
          ⟨(some 37), (some (36, true)), .q (.fa 2 (.t 1))⟩,
          ⟨(some 38), (some (36, true)), .q (.load none (.t 37))⟩,
          ⟨(some 39), (some (36, true)), .callx 51 [(.t 38)]⟩,
          ⟨(some 40), none, .q (.pick (.t 36) (.t 39) (.c (.bool false)))⟩,
          ⟨(some 2), none, .q (.mov (.t 40))⟩]) (
        .ret)) (
        .skip))))))))) (
 .seq (.reg [
  ⟨(some 2), none, .q (.mov (.c (.bool false)))⟩]) (
 .ret))), 41, [.t 2]⟩
theorem comp29 : compF Go.Proofs.Try.prog [] wr64 29 = some ir29 := by kernel_rfl
/-- loop.example/s01136/spec.l6From -/
def ir30 : IrF := ⟨.seq (.reg [
  ⟨(some 2), none, .q (.mov (.c (.int .i64 0)))⟩]) (
 .seq (.reg [
  ⟨(some 3), none, .q (.mov (.c (.int .i64 1)))⟩]) (
 .seq (.reg [
  ⟨(some 5), none, .q (.mov (.t 0))⟩,
  ⟨(some 6), none, .q (.len (.t 5))⟩,
  ⟨(some 4), none, .q (.mov (.t 6))⟩]) (
 .seq (.block (
  .loop (
    .seq (.seq (.reg [
      ⟨(some 7), none, .q (.mov (.t 3))⟩,
      ⟨(some 8), none, .q (.bin .gtr false (.t 7) (.c (.int .i64 0)))⟩]) (
    .cond 8 (
      .skip) (
      .exit 0))) (
    .block (
      .seq (.reg [
        ⟨(some 9), none, .q (.mov (.t 4))⟩,
        ⟨(some 10), none, .q (.bin .sub false (.t 9) (.c (.int .i64 1)))⟩,
        ⟨(some 4), none, .q (.mov (.t 10))⟩]) (
      .seq (.seq (.reg [
        ⟨(some 11), none, .q (.mov (.t 4))⟩,
        ⟨(some 12), none, .q (.bin .lss false (.t 11) (.c (.int .i64 0)))⟩]) (
      .cond 12 (
        .seq (.reg [
          ⟨(some 2), none, .q (.mov (.c (.int .i64 (-1))))⟩]) (
        .ret)) (
        .skip))) (
      .reg [
        ⟨(some 13), none, .q (.mov (.t 3))⟩,
        ⟨(some 14), none, .q (.bin .sub false (.t 13) (.c (.int .i64 1)))⟩,
        ⟨(some 15), none, .q (.mov (.t 0))⟩,
        ⟨(some 16), none, .q (.mov (.t 4))⟩,
        ⟨(some 17), none, .q (.ia 3 (.t 15) (.t 16))⟩,
        ⟨(some 18), none, .q (.fa 0 (.t 17))⟩,
        ⟨(some 19), none, .q (.load none (.t 18))⟩,
        ⟨(some 20), none, .callx 52 [(.t 19)]⟩,
        ⟨(some 21), none, .q (.bin .add false (.t 14) (.t 20))⟩,
        ⟨(some 3), none, .q (.mov (.t 21))⟩]))))))) (
 .seq (.reg [
  ⟨(some 22), none, .q (.mov (.t 4))⟩,
  ⟨(some 2), none, .q (.mov (.t 22))⟩]) (
 .ret))))), 23, [.t 2]⟩
theorem comp30 : compF Go.Proofs.Try.prog [] wr64 30 = some ir30 := by kernel_rfl
/-- loop.example/s01136/spec.l6Height -/
def ir31 : IrF := ⟨.seq (.reg [
  ⟨(some 2), none, .q (.mov (.c (.int .i64 0)))⟩]) (
 .seq (.reg [
  ⟨(some 7), none, .q (.mov (.t 0))⟩,
  ⟨(some 8), none, .callx 53 [(.t 7)]⟩,
  ⟨(some 3), none, .q (.mov (.t 8))⟩]) (
 .seq (.reg [
  ⟨(some 4), none, .q (.mov (.c (.int .i64 0)))⟩]) (
 .seq (.seq (.reg [
  ⟨(some 5), none, .q (.mov (.c (.int .i64 0)))⟩]) (
 .block (
  .loop (
    .seq (.seq (.reg [
      ⟨(some 9), none, .q (.mov (.t 5))⟩,
      ⟨(some 10), none, .q (.mov (.t 3))⟩,
      ⟨(some 11), none, .q (.len (.t 10))⟩,
      ⟨(some 12), none, .q (.bin .lss false (.t 9) (.t 11))⟩]) (
    .cond 12 (
      .skip) (
      .exit 0))) (
    .seq (.block (
      .seq (.reg [
        ⟨(some 15), none, .q (.mov (.t 3))⟩,
        ⟨(some 16), none, .q (.mov (.t 5))⟩,
        ⟨(some 17), none, .q (.ia 1 (.t 15) (.t 16))⟩,
        ⟨(some 18), none, .q (.load none (.t 17))⟩,
        ⟨(some 19), none, .callx 31 [(.t 18)]⟩,
        ⟨(some 6), none, .q (.mov (.t 19))⟩]) (
      .seq (.reg [
        ⟨(some 20), none, .q (.mov (.t 6))⟩,
        ⟨(some 21), none, .q (.mov (.t 4))⟩,
        ⟨(some 22), none, .q (.bin .gtr false (.t 20) (.t 21))⟩]) (
      .cond 22 (
        .reg [
          ⟨(some 23), none, .q (.mov (.t 6))⟩,
          ⟨(some 4), none, .q (.mov (.t 23))⟩]) (
        .skip))))) (
    .reg [
      ⟨(some 13), none, .q (.mov (.t 5))⟩,
      ⟨(some 14), none, .q (.bin .add false (.t 13) (.c (.int .i64 1)))⟩,
      ⟨(some 5), none, .q (.mov (.t 14))⟩])))))) (
 .seq (.reg [
  ⟨(some 24), none, .q (.mov (.t 4))⟩,
  ⟨(some 25), none, .q (.bin .add false (.t 24) (.c (.int .i64 1)))⟩,
  ⟨(some 2), none, .q (.mov (.t 25))⟩]) (
 .ret))))), 26, [.t 2]⟩
theorem comp31 : compF Go.Proofs.Try.prog [] wr64 31 = some ir31 := by kernel_rfl
/-- loop.example/s01136/spec.l6Kids -/
def ir53 : IrF := ⟨.seq (.reg [
  ⟨(some 2), none, .q (.mov (.c .nils))⟩]) (
 .seq (.reg [
  ⟨(some 7), none, .q (.mov (.t 0))⟩,
  ⟨(some 8), none, .q (.mov (.t 0))⟩,
  ⟨(some 9), none, .q (.len (.t 8))⟩,
  ⟨(some 10), none, .q (.bin .sub false (.t 9) (.c (.int .i64 1)))⟩,
  ⟨(some 11), none, .q (.slc 3 (.t 7) none (some (.t 10)))⟩,
  ⟨(some 3), none, .q (.mov (.t 11))⟩]) (
 .seq (.reg [
  ⟨(some 12), none, .bslx 1 0 [.nils] []⟩,
  ⟨(some 4), none, .q (.mov (.t 12))⟩]) (
 .seq (.seq (.reg [
  ⟨(some 13), none, .q (.mov (.t 0))⟩,
  ⟨(some 14), none, .q (.mov (.t 0))⟩,
  ⟨(some 15), none, .q (.len (.t 14))⟩,
  ⟨(some 16), none, .q (.bin .sub false (.t 15) (.c (.int .i64 1)))⟩,
  ⟨(some 17), none, .q (.ia 3 (.t 13) (.t 16))⟩,
  ⟨(some 18), none, .q (.fa 0 (.t 17))⟩,
  ⟨(some 19), none, .q (.load none (.t 18))⟩,
  ⟨(some 20), none, .callx 52 [(.t 19)]⟩,
  ⟨(some 5), none, .q (.mov (.t 20))⟩]) (
 .block (
  .loop (
    .seq (.seq (.reg [
      ⟨(some 21), none, .q (.mov (.t 5))⟩,
      ⟨(some 22), none, .q (.bin .gtr false (.t 21) (.c (.int .i64 0)))⟩]) (
    .cond 22 (
      .skip) (
      .exit 0))) (
    .seq (.block (
      .seq (.reg [
        ⟨(some 25), none, .q (.mov (.t 3))⟩,
        ⟨(some 26), none, .callx 30 [(.t 25)]⟩,
        ⟨(some 6), none, .q (.mov (.t 26))⟩]) (
      .seq (.reg [
        ⟨(some 27), none, .q (.mov (.t 3))⟩,
        ⟨(some 28), none, .q (.mov (.t 6))⟩,
        ⟨(some 29), none, .q (.slc 3 (.t 27) (some (.t 28)) none)⟩,
        ⟨(some 30), none, .bslx 1 1 [.nils] [(0, (.t 29))]⟩,
        ⟨(some 31), none, .q (.mov (.t 4))⟩,
        ⟨(some 32), none, .app 1 24 (.t 30) (.t 31)⟩,
        ⟨(some 4), none, .q (.mov (.t 32))⟩]) (
      .reg [
        ⟨(some 33), none, .q (.mov (.t 3))⟩,
        ⟨(some 34), none, .q (.mov (.t 6))⟩,
        ⟨(some 35), none, .q (.slc 3 (.t 33) none (some (.t 34)))⟩,
        ⟨(some 3), none, .q (.mov (.t 35))⟩])))) (
    .reg [
      ⟨(some 23), none, .q (.mov (.t 5))⟩,
      ⟨(some 24), none, .q (.bin .sub false (.t 23) (.c (.int .i64 1)))⟩,
      ⟨(some 5), none, .q (.mov (.t 24))⟩])))))) (
 .seq (.reg [
  ⟨(some 36), none, .q (.mov (.t 4))⟩,
  ⟨(some 2), none, .q (.mov (.t 36))⟩]) (
 .ret))))), 37, [.t 2]⟩
theorem comp53 : compF Go.Proofs.Try.prog [] wr64 53 = some ir53 := by kernel_rfl
/-- loop.example/s01136/spec.ValidPath -/
def ir6 : IrF := ⟨.seq (.reg [
  ⟨(some 1), none, .box (.t 0)⟩,
  ⟨(some 2), none, .q (.mov (.c (.bool false)))⟩]) (
 .seq (.seq (.reg [
  ⟨(some 4), none, .q (.fa 0 (.t 1))⟩,
  ⟨(some 5), none, .q (.load none (.t 4))⟩,
  ⟨(some 6), none, .q (.len (.t 5))⟩,
  ⟨(some 7), none, .q (.bin .lss false (.t 6) (.c (.int .i64 1)))⟩,
  ⟨(some 8), none, .q (.mov (.t 7))⟩,
  ⟨(some 9), (some (8, false)), .q (.fa 0 (.t 1))⟩,
  ⟨(some 10), (some (8, false)), .q (.load none (.t 9))⟩,
  ⟨(some 11), (some (8, false)), .q (.len (.t 10))⟩,
  ⟨(some 12), (some (8, false)), .q (.bin .gtr false (.t 11) (.c (.int .i64 100)))⟩,
  ⟨(some 13), none, .q (.pick (.t 8) (.c (.bool true)) (.t 12))⟩]) (
 .cond 13 (
  .seq (.reg [
    ⟨(some 2), none, .q (.mov (.c (.bool false)))⟩]) (
  .ret)) (
  .skip))) (
 .seq (.seq (.reg [
  ⟨(some 3), none, .q (.mov (.c (.int .i64 0)))⟩]) (
 .block (
  .loop (
    .seq (.seq (.reg [
      ⟨(some 14), none, .q (.mov (.t 3))⟩,
      ⟨(some 15), none, .q (.fa 0 (.t 1))⟩,
      ⟨(some 16), none, .q (.load none (.t 15))⟩,
      ⟨(some 17), none, .q (.len (.t 16))⟩,
      ⟨(some 18), none, .q (.bin .lss false (.t 14) (.t 17))⟩]) (
    .cond 18 (
      .skip) (
      .exit 0))) (
    .seq (.block (
      .seq (.reg [
        ⟨(some 21), none, .q (.fa 0 (.t 1))⟩,
        ⟨(some 22), none, .q (.load none (.t 21))⟩,
        ⟨(some 23), none, .q (.mov (.t 3))⟩,
        ⟨(some 24), none, .q (.ia 3 (.t 22) (.t 23))⟩,
        ⟨(some 25), none, .q (.load (some 3) (.t 24))⟩,
        ⟨(some 26), none, .callx 29 [(.t 25)]⟩,
        ⟨(some 27), none, .q (.not (.t 26))⟩]) (
      .cond 27 (
        .seq (.reg [
          ⟨(some 2), none, .q (.mov (.c (.bool false)))⟩]) (
        .ret)) (
        .skip)))) (
    .reg [
      ⟨(some 19), none, .q (.mov (.t 3))⟩,
      ⟨(some 20), none, .q (.bin .add false (.t 19) (.c (.int .i64 1)))⟩,
      ⟨(some 3), none, .q (.mov (.t 20))⟩])))))) (
 .seq (.reg [
  ⟨(some 28), none, .q (.fa 0 (.t 1))⟩,
  ⟨(some 29), none, .q (.load none (.t 28))⟩,
  ⟨(some 30), none, .callx 30 [(.t 29)]⟩,
  ⟨(some 31), none, .q (.bin .eql false (.t 30) (.c (.int .i64 0)))⟩,
  ⟨(some 32), none, .q (.mov (.t 31))⟩,
  ⟨(some 33), (some (32, true)), .q (.fa 0 (.t 1))⟩,
  ⟨(some 34), (some (32, true)), .q (.load none (.t 33))⟩,
  ⟨(some 35), (some (32, true)), .callx 31 [(.t 34)]⟩,
  ⟨(some 36), (some (32, true)), .q (.bin .leq false (.t 35) (.c (.int .i64 64)))⟩,
  ⟨(some 37), none, .q (.pick (.t 32) (.t 36) (.c (.bool false)))⟩,
  ⟨(some 2), none, .q (.mov (.t 37))⟩]) (
 .ret)))), 38, [.t 2]⟩
theorem comp6 : compF Go.Proofs.Try.prog [] wr64 6 = some ir6 := by kernel_rfl
/-- loop.example/s01136/spec.l6Facts -/
def ir62 : IrF := ⟨.seq (.reg [
  ⟨(some 6), none, .q (.mov (.c .nils))⟩]) (
 .seq (.reg [
  ⟨(some 9), none, .bslx 4 0 [(.str []), (.str []), (.str []), (.str [])] []⟩,
  ⟨(some 7), none, .q (.mov (.t 9))⟩]) (
 .seq (.seq (.reg [
  ⟨(some 8), none, .q (.mov (.c (.int .i64 0)))⟩]) (
 .block (
  .loop (
    .seq (.seq (.reg [
      ⟨(some 10), none, .q (.mov (.t 8))⟩,
      ⟨(some 11), none, .q (.mov (.t 0))⟩,
      ⟨(some 12), none, .q (.len (.t 11))⟩,
      ⟨(some 13), none, .q (.bin .lss false (.t 10) (.t 12))⟩]) (
    .cond 13 (
      .skip) (
      .exit 0))) (
    .seq (.block (
      .seq (.reg [
        ⟨(some 16), none, .q (.mov (.t 1))⟩,
        ⟨(some 17), none, .q (.not (.t 16))⟩,
        ⟨(some 18), none, .q (.mov (.t 17))⟩,
        ⟨(some 19), (some (18, false)), .q (.mov (.t 0))⟩,
        ⟨(some 20), (some (18, false)), .q (.mov (.t 8))⟩,
        ⟨(some 21), (some (18, false)), .q (.ia 4 (.t 19) (.t 20))⟩,
        ⟨(some 22), (some (18, false)), .q (.fa 3 (.t 21))⟩,
        ⟨(some 23), (some (18, false)), .q (.load none (.t 22))⟩,
        ⟨(some 24), (some (18, false)), .q (.mov (.t 2))⟩,
        ⟨(some 25), (some (18, false)), .q (.bin .eql false (.t 23) (.t 24))⟩,
        ⟨(some 26), none, .q (.pick (.t 18) (.c (.bool true)) (.t 25))⟩]) (
      .cond 26 (
        .reg [
          ⟨(some 27), none, .q (.mov (.t 7))⟩,
          ⟨(some 28), none, .q (.mov (.t 0))⟩,
          ⟨(some 29), none, .q (.mov (.t 8))⟩,
          ⟨(some 30), none, .q (.ia 4 (.t 28) (.t 29))⟩,
          ⟨(some 31), none, .q (.load (some 4) (.t 30))⟩,
          ⟨(some 32), none, .bslx 4 1 [(.str []), (.str []), (.str []), (.str [])] [(0, (.t 31))]⟩,
          ⟨(some 33), none, .app 4 64 (.t 27) (.t 32)⟩,
          ⟨(some 7), none, .q (.mov (.t 33))⟩]) (
        .skip)))) (
    .reg [
      ⟨(some 14), none, .q (.mov (.t 8))⟩,
      ⟨(some 15), none, .q (.bin .add false (.t 14) (.c (.int .i64 1)))⟩,
      ⟨(some 8), none, .q (.mov (.t 15))⟩])))))) (
 .seq (.reg [
  ⟨(some 34), none, .q (.mov (.t 7))⟩,
  ⟨(some 6), none, .q (.mov (.t 34))⟩]) (
 .ret)))), 35, [.t 6]⟩
theorem comp62 : compF Go.Proofs.Try.prog [] wr64 62 = some ir62 := by kernel_rfl
/-- loop.example/s01136/spec.l6In -/
def ir63 : IrF := ⟨.seq (.reg [
  ⟨(some 4), none, .q (.mov (.c (.bool false)))⟩]) (
 .seq (.seq (.reg [
  ⟨(some 5), none, .q (.mov (.c (.int .i64 0)))⟩]) (
 .block (
  .loop (
    .seq (.seq (.reg [
      ⟨(some 6), none, .q (.mov (.t 5))⟩,
      ⟨(some 7), none, .q (.mov (.t 0))⟩,
      ⟨(some 8), none, .q (.len (.t 7))⟩,
      ⟨(some 9), none, .q (.bin .lss false (.t 6) (.t 8))⟩]) (
    .cond 9 (
      .skip) (
      .exit 0))) (
    .seq (.block (
      .seq (.reg [
        ⟨(some 12), none, .q (.mov (.t 0))⟩,
        ⟨(some 13), none, .q (.mov (.t 5))⟩,
        ⟨(some 14), none, .q (.ia 1 (.t 12) (.t 13))⟩,
        ⟨(some 15), none, .q (.load none (.t 14))⟩,
        ⟨(some 16), none, .q (.mov (.t 1))⟩,
        ⟨(some 17), none, .q (.bin .eql false (.t 15) (.t 16))⟩]) (
      .cond 17 (
        .seq (.reg [
          ⟨(some 4), none, .q (.mov (.c (.bool true)))⟩]) (
        .ret)) (
        .skip)))) (
    .reg [
      ⟨(some 10), none, .q (.mov (.t 5))⟩,
      ⟨(some 11), none, .q (.bin .add false (.t 10) (.c (.int .i64 1)))⟩,
      ⟨(some 5), none, .q (.mov (.t 11))⟩])))))) (
 .seq (.reg [
  ⟨(some 4), none, .q (.mov (.c (.bool false)))⟩]) (
 .ret))), 18, [.t 4]⟩
theorem comp63 : compF Go.Proofs.Try.prog [] wr64 63 = some ir63 := by kernel_rfl
/-- loop.example/s01136/spec.l6Add -/
def ir64 : IrF := ⟨.seq (.reg [
  ⟨(some 4), none, .q (.mov (.c .nils))⟩]) (
 .seq (.seq (.reg [
  ⟨(some 7), none, .q (.mov (.t 0))⟩,
  ⟨(some 8), none, .q (.mov (.t 1))⟩,
  ⟨(some 9), none, .callx 63 [(.t 7), (.t 8)]⟩]) (
 .cond 9 (
  .seq (.reg [
    ⟨(some 10), none, .q (.mov (.t 0))⟩,
    ⟨(some 4), none, .q (.mov (.t 10))⟩]) (
  .ret)) (
  .skip))) (
 .seq (.reg [
  ⟨(some 5), none, .q (.mov (.c (.int .i64 0)))⟩]) (
 .seq (.block (
  .loop (
    .seq (.seq (.reg [
      ⟨(some 11), none, .q (.mov (.t 5))⟩,
      ⟨(some 12), none, .q (.mov (.t 0))⟩,
      ⟨(some 13), none, .q (.len (.t 12))⟩,
      ⟨(some 14), none, .q (.bin .lss false (.t 11) (.t 13))⟩,
      ⟨(some 15), none, .q (.mov (.t 14))⟩,
      ⟨(some 16), (some (15, true)), .q (.mov (.t 0))⟩,
      ⟨(some 17), (some (15, true)), .q (.mov (.t 5))⟩,
      ⟨(some 18), (some (15, true)), .q (.ia 1 (.t 16) (.t 17))⟩,
      ⟨(some 19), (some (15, true)), .q (.load none (.t 18))⟩,
      ⟨(some 20), (some (15, true)), .q (.mov (.t 1))⟩,
      ⟨(some 21), (some (15, true)), .q (.bin .lss false (.t 19) (.t 20))⟩,
      ⟨(some 22), none, .q (.pick (.t 15) (.t 21) (.c (.bool false)))⟩]) (
    .cond 22 (
      .skip) (
      .exit 0))) (
    .block (
      .reg [
        ⟨(some 23), none, .q (.mov (.t 5))⟩,
        ⟨(some 24), none, .q (.bin .add false (.t 23) (.c (.int .i64 1)))⟩,
        ⟨(some 5), none, .q (.mov (.t 24))⟩]))))) (
 .seq (.reg [
  ⟨(some 25), none, .bslx 1 0 [(.str [])] []⟩,
  ⟨(some 26), none, .q (.mov (.t 0))⟩,
  ⟨(some 27), none, .q (.mov (.t 5))⟩,
  ⟨(some 28), none, .q (.slc 1 (.t 26) none (some (.t 27)))⟩,
  ⟨(some 29), none, .app 1 16 (.t 25) (.t 28)⟩,
  ⟨(some 6), none, .q (.mov (.t 29))⟩]) (
 .seq (.reg [
  ⟨(some 30), none, .q (.mov (.t 6))⟩,
  ⟨(some 31), none, .q (.mov (.t 1))⟩,
  ⟨(some 32), none, .bslx 1 1 [(.str [])] [(0, (.t 31))]⟩,
  ⟨(some 33), none, .app 1 16 (.t 30) (.t 32)⟩,
  ⟨(some 6), none, .q (.mov (.t 33))⟩]) (
 .seq (.reg [
  ⟨(some 34), none, .q (.mov (.t 6))⟩,
  ⟨(some 35), none, .q (.mov (.t 0))⟩,
  ⟨(some 36), none, .q (.mov (.t 5))⟩,
  ⟨(some 37), none, .q (.slc 1 (.t 35) (some (.t 36)) none)⟩,
  ⟨(some 38), none, .app 1 16 (.t 34) (.t 37)⟩,
  ⟨(some 4), none, .q (.mov (.t 38))⟩]) (
 .ret))))))), 39, [.t 4]⟩
theorem comp64 : compF Go.Proofs.Try.prog [] wr64 64 = some ir64 := by kernel_rfl
/-- loop.example/s01136/spec.l6Mean -/
def ir35 : IrF := ⟨.seq (.reg [
  ⟨(some 8), none, .q (.mov (.c .nils))⟩]) (
 .seq (.reg [
  ⟨(some 20), none, .q (.mov (.t 0))⟩,
  ⟨(some 21), none, .callx 61 [(.t 20)]⟩,
  ⟨(some 9), none, .alloc [(.int .i64 0), (.str []), (.str [])]⟩,
  ⟨none, none, .store 3 (.t 9) (.t 21)⟩]) (
 .seq (.reg [
  ⟨(some 22), none, .q (.mov (.t 0))⟩,
  ⟨(some 23), none, .callx 53 [(.t 22)]⟩,
  ⟨(some 10), none, .q (.mov (.t 23))⟩]) (
 .seq (.reg [
  ⟨(some 24), none, .bslx 1 0 [(.str [])] []⟩,
  ⟨(some 11), none, .q (.mov (.t 24))⟩]) (
 .seq (.seq (.reg [
  ⟨(some 25), none, .q (.fa 0 (.t 9))⟩,
  ⟨(some 26), none, .q (.load none (.t 25))⟩,
  ⟨(some 27), none, .q (.bin .eql false (.t 26) (.c (.int .i64 9)))⟩]) (
 .cond 27 (
  .seq (.reg [
    ⟨(some 28), none, .q (.mov (.t 10))⟩,
    ⟨(some 29), none, .q (.ia 1 (.t 28) (.c (.int .i64 0)))⟩,
    ⟨(some 30), none, .q (.load none (.t 29))⟩,
    ⟨(some 31), none, .q (.mov (.t 1))⟩,
    ⟨(some 32), none, .q (.fa 1 (.t 9))⟩,
    ⟨(some 33), none, .q (.load none (.t 32))⟩,
    ⟨(some 34), none, .call 35 [(.t 30), (.t 31), (.c (.bool true)), (.t 33)]⟩,
    ⟨(some 8), none, .q (.mov (.t 34))⟩]) (
  .ret)) (
  .skip))) (
 .seq (.reg [
  ⟨(some 35), none, .bslx 1 0 [(.str [])] []⟩,
  ⟨(some 12), none, .q (.mov (.t 35))⟩]) (
 .seq (.reg [
  ⟨(some 36), none, .bslx 1 0 [(.str [])] []⟩,
  ⟨(some 13), none, .q (.mov (.t 36))⟩]) (
 .seq (.seq (.reg [
  ⟨(some 37), none, .q (.mov (.t 10))⟩,
  ⟨(some 38), none, .q (.len (.t 37))⟩,
  ⟨(some 39), none, .q (.bin .gtr false (.t 38) (.c (.int .i64 0)))⟩]) (
 .cond 39 (
  .reg [
    ⟨(some 40), none, .q (.mov (.t 10))⟩,
    ⟨(some 41), none, .q (.ia 1 (.t 40) (.c (.int .i64 0)))⟩,
    ⟨(some 42), none, .q (.load none (.t 41))⟩,
    ⟨(some 43), none, .q (.mov (.t 1))⟩,
    ⟨(some 44), none, .q (.mov (.t 2))⟩,
    ⟨(some 45), none, .q (.mov (.t 3))⟩,
    ⟨(some 46), none, .callx 35 [(.t 42), (.t 43), (.t 44), (.t 45)]⟩,
    ⟨(some 12), none, .q (.mov (.t 46))⟩]) (
  .skip))) (
 .seq (.seq (.reg [
  ⟨(some 47), none, .q (.mov (.t 10))⟩,
  ⟨(some 48), none, .q (.len (.t 47))⟩,
  ⟨(some 49), none, .q (.bin .gtr false (.t 48) (.c (.int .i64 1)))⟩]) (
 .cond 49 (
  .reg [
    ⟨(some 50), none, .q (.mov (.t 10))⟩,
    ⟨(some 51), none, .q (.ia 1 (.t 50) (.c (.int .i64 1)))⟩,
    ⟨(some 52), none, .q (.load none (.t 51))⟩,
    ⟨(some 53), none, .q (.mov (.t 1))⟩,
    ⟨(some 54), none, .q (.mov (.t 2))⟩,
    ⟨(some 55), none, .q (.mov (.t 3))⟩,
    ⟨(some 56), none, .callx 35 [(.t 52), (.t 53), (.t 54), (.t 55)]⟩,
    ⟨(some 13), none, .q (.mov (.t 56))⟩]) (
  .skip))) (
 .seq (.reg [
  ⟨(some 57), none, .q (.mov (.t 1))⟩,
  ⟨(some 58), none, .q (.mov (.t 2))⟩,
  ⟨(some 59), none, .q (.mov (.t 3))⟩,
  ⟨(some 60), none, .callx 62 [(.t 57), (.t 58), (.t 59)]⟩,
  ⟨(some 14), none, .q (.mov (.t 60))⟩]) (
 .seq (.seq (.reg [
  ⟨(some 61), none, .q (.fa 0 (.t 9))⟩,
  ⟨(some 62), none, .q (.load none (.t 61))⟩]) (
 .block (
  .seq (.reg [
    ⟨(some 64), none, .q (.bin .eql false (.t 62) (.c (.int .i64 6)))⟩,
    ⟨(some 63), none, .q (.mov (.t 64))⟩]) (
  .cond 63 (
    .seq (.reg [
      ⟨(some 15), none, .q (.mov (.c (.int .i64 0)))⟩]) (
    .block (
      .loop (
        .seq (.seq (.reg [
          ⟨(some 65), none, .q (.mov (.t 15))⟩,
          ⟨(some 66), none, .q (.mov (.t 12))⟩,
          ⟨(some 67), none, .q (.len (.t 66))⟩,
          ⟨(some 68), none, .q (.bin .lss false (.t 65) (.t 67))⟩]) (
        .cond 68 (
          .skip) (
          .exit 0))) (
        .seq (.block (
          .seq (.reg [
            ⟨(some 71), none, .q (.mov (.t 13))⟩,
            ⟨(some 72), none, .q (.mov (.t 12))⟩,
            ⟨(some 73), none, .q (.mov (.t 15))⟩,
            ⟨(some 74), none, .q (.ia 1 (.t 72) (.t 73))⟩,
            ⟨(some 75), none, .q (.load none (.t 74))⟩,
            ⟨(some 76), none, .callx 63 [(.t 71), (.t 75)]⟩]) (
          .cond 76 (
            .reg [
              ⟨(some 77), none, .q (.mov (.t 11))⟩,
              ⟨(some 78), none, .q (.mov (.t 12))⟩,
              ⟨(some 79), none, .q (.mov (.t 15))⟩,
              ⟨(some 80), none, .q (.ia 1 (.t 78) (.t 79))⟩,
              ⟨(some 81), none, .q (.load none (.t 80))⟩,
              ⟨(some 82), none, .bslx 1 1 [(.str [])] [(0, (.t 81))]⟩,
              ⟨(some 83), none, .app 1 16 (.t 77) (.t 82)⟩,
              ⟨(some 11), none, .q (.mov (.t 83))⟩]) (
            .skip)))) (
        .reg [
          ⟨(some 69), none, .q (.mov (.t 15))⟩,
          ⟨(some 70), none, .q (.bin .add false (.t 69) (.c (.int .i64 1)))⟩,
          ⟨(some 15), none, .q (.mov (.t 70))⟩])))))) (
    .seq (.reg [
      ⟨(some 85), none, .q (.bin .eql false (.t 62) (.c (.int .i64 8)))⟩,
      ⟨(some 84), none, .q (.mov (.t 85))⟩]) (
    .cond 84 (
      .seq (.reg [
        ⟨(some 16), none, .q (.mov (.c (.int .i64 0)))⟩]) (
      .block (
        .loop (
          .seq (.seq (.reg [
            ⟨(some 86), none, .q (.mov (.t 16))⟩,
            ⟨(some 87), none, .q (.mov (.t 12))⟩,
            ⟨(some 88), none, .q (.len (.t 87))⟩,
            ⟨(some 89), none, .q (.bin .lss false (.t 86) (.t 88))⟩]) (
          .cond 89 (
            .skip) (
            .exit 0))) (
          .seq (.block (
            .seq (.reg [
              ⟨(some 92), none, .q (.mov (.t 13))⟩,
              ⟨(some 93), none, .q (.mov (.t 12))⟩,
              ⟨(some 94), none, .q (.mov (.t 16))⟩,
              ⟨(some 95), none, .q (.ia 1 (.t 93) (.t 94))⟩,
              ⟨(some 96), none, .q (.load none (.t 95))⟩,
              ⟨(some 97), none, .callx 63 [(.t 92), (.t 96)]⟩,
              ⟨(some 98), none, .q (.not (.t 97))⟩]) (
            .cond 98 (
              .reg [
                ⟨(some 99), none, .q (.mov (.t 11))⟩,
                ⟨(some 100), none, .q (.mov (.t 12))⟩,
                ⟨(some 101), none, .q (.mov (.t 16))⟩,
                ⟨(some 102), none, .q (.ia 1 (.t 100) (.t 101))⟩,
                ⟨(some 103), none, .q (.load none (.t 102))⟩,
                ⟨(some 104), none, .bslx 1 1 [(.str [])] [(0, (.t 103))]⟩,
                ⟨(some 105), none, .app 1 16 (.t 99) (.t 104)⟩,
                ⟨(some 11), none, .q (.mov (.t 105))⟩]) (
              .skip)))) (
          .reg [
            ⟨(some 90), none, .q (.mov (.t 16))⟩,
            ⟨(some 91), none, .q (.bin .add false (.t 90) (.c (.int .i64 1)))⟩,
            ⟨(some 16), none, .q (.mov (.t 91))⟩])))))) (
      .seq (.reg [
        ⟨(some 107), none, .q (.bin .eql false (.t 62) (.c (.int .i64 7)))⟩,
        ⟨(some 106), none, .q (.mov (.t 107))⟩]) (
      .cond 106 (
        .seq (.reg [
          ⟨(some 108), none, .q (.mov (.t 12))⟩,
          ⟨(some 11), none, .q (.mov (.t 108))⟩]) (
        .seq (.reg [
          ⟨(some 17), none, .q (.mov (.c (.int .i64 0)))⟩]) (
        .block (
          .loop (
            .seq (.seq (.reg [
              ⟨(some 109), none, .q (.mov (.t 17))⟩,
              ⟨(some 110), none, .q (.mov (.t 13))⟩,
              ⟨(some 111), none, .q (.len (.t 110))⟩,
              ⟨(some 112), none, .q (.bin .lss false (.t 109) (.t 111))⟩]) (
            .cond 112 (
              .skip) (
              .exit 0))) (
            .seq (.block (
              .reg [
                ⟨(some 115), none, .q (.mov (.t 11))⟩,
                ⟨(some 116), none, .q (.mov (.t 13))⟩,
                ⟨(some 117), none, .q (.mov (.t 17))⟩,
                ⟨(some 118), none, .q (.ia 1 (.t 116) (.t 117))⟩,
                ⟨(some 119), none, .q (.load none (.t 118))⟩,
                ⟨(some 120), none, .callx 64 [(.t 115), (.t 119)]⟩,
                ⟨(some 11), none, .q (.mov (.t 120))⟩])) (
            .reg [
              ⟨(some 113), none, .q (.mov (.t 17))⟩,
              ⟨(some 114), none, .q (.bin .add false (.t 113) (.c (.int .i64 1)))⟩,
              ⟨(some 17), none, .q (.mov (.t 114))⟩]))))))) (
        .skip))))))))) (
 .seq (.seq (.reg [
  ⟨(some 18), none, .q (.mov (.c (.int .i64 0)))⟩]) (
 .block (
  .loop (
    .seq (.seq (.reg [
      ⟨(some 121), none, .q (.mov (.t 18))⟩,
      ⟨(some 122), none, .q (.mov (.t 14))⟩,
      ⟨(some 123), none, .q (.len (.t 122))⟩,
      ⟨(some 124), none, .q (.bin .lss false (.t 121) (.t 123))⟩]) (
    .cond 124 (
      .skip) (
      .exit 0))) (
    .seq (.block (
      .seq (.reg [
        ⟨(some 127), none, .q (.mov (.t 14))⟩,
        ⟨(some 128), none, .q (.mov (.t 18))⟩,
        ⟨(some 129), none, .q (.ia 4 (.t 127) (.t 128))⟩,
        ⟨(some 130), none, .q (.load (some 4) (.t 129))⟩,
        ⟨(some 19), none, .alloc [(.str []), (.str []), (.str []), (.str [])]⟩,
        ⟨none, none, .store 4 (.t 19) (.t 130)⟩]) (
      .seq (.seq (.reg [
        ⟨(some 131), none, .q (.fa 0 (.t 9))⟩,
        ⟨(some 132), none, .q (.load none (.t 131))⟩,
        ⟨(some 133), none, .q (.bin .eql false (.t 132) (.c (.int .i64 1)))⟩]) (
      .cond 133 (
        .reg [
          ⟨(some 134), none, .q (.mov (.t 11))⟩,
          ⟨(some 135), none, .q (.fa 0 (.t 19))⟩,
          ⟨(some 136), none, .q (.load none (.t 135))⟩,
          ⟨(some 137), none, .call 64 [(.t 134), (.t 136)]⟩,
          ⟨(some 138), none, .q (.fa 2 (.t 19))⟩,
          ⟨(some 139), none, .q (.load none (.t 138))⟩,
          ⟨(some 140), none, .call 64 [(.t 137), (.t 139)]⟩,
          ⟨(some 11), none, .q (.mov (.t 140))⟩]) (
        .skip))) (
      .seq (.seq (.reg [
        ⟨(some 141), none, .q (.fa 0 (.t 9))⟩,
        ⟨(some 142), none, .q (.load none (.t 141))⟩,
        ⟨(some 143), none, .q (.bin .eql false (.t 142) (.c (.int .i64 2)))⟩,
        ⟨(some 144), none, .q (.mov (.t 143))⟩,
        ⟨(some 145), (some (144, true)), .q (.fa 0 (.t 19))⟩,
        ⟨(some 146), (some (144, true)), .q (.load none (.t 145))⟩,
        ⟨(some 147), (some (144, true)), .q (.fa 1 (.t 9))⟩,
        ⟨(some 148), (some (144, true)), .q (.load none (.t 147))⟩,
        ⟨(some 149), (some (144, true)), .q (.bin .eql false (.t 146) (.t 148))⟩,
        ⟨(some 150), (some (144, true)), .q (.mov (.t 149))⟩,
        ⟨(some 151), (some (150, false)), .q (.fa 2 (.t 19))⟩,
        ⟨(some 152), (some (150, false)), .q (.load none (.t 151))⟩,
        ⟨(some 153), (some (150, false)), .q (.fa 1 (.t 9))⟩,
        ⟨(some 154), (some (150, false)), .q (.load none (.t 153))⟩,
        ⟨(some 155), (some (150, false)), .q (.bin .eql false (.t 152) (.t 154))⟩,
        ⟨(some 156), (some (144, true)), .q (.pick (.t 150) (.c (.bool true)) (.t 155))⟩,
        ⟨(some 157), none, .q (.pick (.t 144) (.t 156) (.c (.bool false)))⟩]) (
      .cond 157 (
        .reg [
          ⟨(some 158), none, .q (.mov (.t 11))⟩,
          ⟨(some 159), none, .q (.fa 1 (.t 9))⟩,
          ⟨(some 160), none, .q (.load none (.t 159))⟩,
          ⟨(some 161), none, .callx 64 [(.t 158), (.t 160)]⟩,
          ⟨(some 11), none, .q (.mov (.t 161))⟩]) (
        .skip))) (
      .seq (.seq (.reg [
        ⟨(some 162), none, .q (.fa 0 (.t 9))⟩,
        ⟨(some 163), none, .q (.load none (.t 162))⟩,
        ⟨(some 164), none, .q (.bin .eql false (.t 163) (.c (.int .i64 3)))⟩,
        ⟨(some 165), none, .q (.mov (.t 164))⟩,
        ⟨(some 166), (some (165, true)), .q (.fa 1 (.t 19))⟩,
        ⟨(some 167), (some (165, true)), .q (.load none (.t 166))⟩,
        ⟨(some 168), (some (165, true)), .q (.fa 1 (.t 9))⟩,
        ⟨(some 169), (some (165, true)), .q (.load none (.t 168))⟩,
        ⟨(some 170), (some (165, true)), .q (.bin .eql false (.t 167) (.t 169))⟩,
        ⟨(some 171), none, .q (.pick (.t 165) (.t 170) (.c (.bool false)))⟩,
        ⟨(some 172), none, .q (.mov (.t 171))⟩,
        ⟨(some 173), (some (172, true)), .q (.mov (.t 12))⟩,
        ⟨(some 174), (some (172, true)), .q (.fa 0 (.t 19))⟩,
        ⟨(some 175), (some (172, true)), .q (.load none (.t 174))⟩,
        ⟨(some 176), (some (172, true)), .callx 63 [(.t 173), (.t 175)]⟩,
        ⟨(some 177), none, .q (.pick (.t 172) (.t 176) (.c (.bool false)))⟩]) (
      .cond 177 (
        .reg [
          ⟨(some 178), none, .q (.mov (.t 11))⟩,
          ⟨(some 179), none, .q (.fa 2 (.t 19))⟩,
          ⟨(some 180), none, .q (.load none (.t 179))⟩,
          ⟨(some 181), none, .callx 64 [(.t 178), (.t 180)]⟩,
          ⟨(some 11), none, .q (.mov (.t 181))⟩]) (
        .skip))) (
      .seq (.seq (.reg [
        ⟨(some 182), none, .q (.fa 0 (.t 9))⟩,
        ⟨(some 183), none, .q (.load none (.t 182))⟩,
        ⟨(some 184), none, .q (.bin .eql false (.t 183) (.c (.int .i64 4)))⟩,
        ⟨(some 185), none, .q (.mov (.t 184))⟩,
        ⟨(some 186), (some (185, true)), .q (.fa 1 (.t 19))⟩,
        ⟨(some 187), (some (185, true)), .q (.load none (.t 186))⟩,
        ⟨(some 188), (some (185, true)), .q (.fa 1 (.t 9))⟩,
        ⟨(some 189), (some (185, true)), .q (.load none (.t 188))⟩,
        ⟨(some 190), (some (185, true)), .q (.bin .eql false (.t 187) (.t 189))⟩,
        ⟨(some 191), none, .q (.pick (.t 185) (.t 190) (.c (.bool false)))⟩,
        ⟨(some 192), none, .q (.mov (.t 191))⟩,
        ⟨(some 193), (some (192, true)), .q (.mov (.t 12))⟩,
        ⟨(some 194), (some (192, true)), .q (.fa 2 (.t 19))⟩,
        ⟨(some 195), (some (192, true)), .q (.load none (.t 194))⟩,
        ⟨(some 196), (some (192, true)), .callx 63 [(.t 193), (.t 195)]⟩,
        ⟨(some 197), none, .q (.pick (.t 192) (.t 196) (.c (.bool false)))⟩]) (
      .cond 197 (
        .reg [
          ⟨(some 198), none, .q (.mov (.t 11))⟩,
          ⟨(some 199), none, .q (.fa 0 (.t 19))⟩,
          ⟨(some 200), none, .q (.load none (.t 199))⟩,
          ⟨(some 201), none, .callx 64 [(.t 198), (.t 200)]⟩,
          ⟨(some 11), none, .q (.mov (.t 201))⟩]) (
        .skip))) (
      .seq (.reg [
        ⟨(some 202), none, .q (.fa 0 (.t 9))⟩,
        ⟨(some 203), none, .q (.load none (.t 202))⟩,
        ⟨(some 204), none, .q (.bin .eql false (.t 203) (.c (.int .i64 5)))⟩,
        ⟨(some 205), none, .q (.mov (.t 204))⟩,
        ⟨(some 206), (some (205, true)), .q (.fa 1 (.t 19))⟩,
        ⟨(some 207), (some (205, true)), .q (.load none (.t 206))⟩,
        ⟨(some 208), (some (205, true)), .q (.fa 1 (.t 9))⟩,
        ⟨(some 209), (some (205, true)), .q (.load none (.t 208))⟩,
        ⟨(some 210), (some (205, true)), .q (.bin .eql false (.t 207) (.t 209))⟩,
        ⟨(some 211), none, .q (.pick (.t 205) (.t 210) (.c (.bool false)))⟩,
        ⟨(some 212), none, .q (.mov (.t 211))⟩,
        ⟨(some 213), (some (212, true)), .q (.fa 2 (.t 19))⟩,
        ⟨(some 214), (some (212, true)), .q (.load none (.t 213))⟩,
        ⟨(some 215), (some (212, true)), .q (.fa 2 (.t 9))⟩,
        ⟨(some 216), (some (212, true)), .q (.load none (.t 215))⟩,
        ⟨(some 217), (some (212, true)), .q (.bin .eql false (.t 214) (.t 216))⟩,
        ⟨(some 218), none, .q (.pick (.t 212) (.t 217) (.c (.bool false)))⟩,
        ⟨(some 219), none, .q (.mov (.t 218))⟩,
        ⟨(some 220), (some (219, true)), .q (.mov (.t 12))⟩,
        ⟨(some 221), (some (219, true)), .q (.fa 0 (.t 19))⟩,
        ⟨(some 222), (some (219, true)), .q (.load none (.t 221))⟩,
        ⟨(some 223), (some (219, true)), .callx 63 [(.t 220), (.t 222)]⟩,
        ⟨(some 224), none, .q (.pick (.t 219) (.t 223) (.c (.bool false)))⟩]) (
      .cond 224 (
        .reg [
          ⟨(some 225), none, .q (.mov (.t 11))⟩,
          ⟨(some 226), none, .q (.fa 0 (.t 19))⟩,
          ⟨(some 227), none, .q (.load none (.t 226))⟩,
          ⟨(some 228), none, .callx 64 [(.t 225), (.t 227)]⟩,
          ⟨(some 11), none, .q (.mov (.t 228))⟩]) (
        .skip))))))))) (
    .reg [
      ⟨(some 125), none, .q (.mov (.t 18))⟩,
      ⟨(some 126), none, .q (.bin .add false (.t 125) (.c (.int .i64 1)))⟩,
      ⟨(some 18), none, .q (.mov (.t 126))⟩])))))) (
 .seq (.reg [
  ⟨(some 229), none, .q (.mov (.t 11))⟩,
  ⟨(some 8), none, .q (.mov (.t 229))⟩]) (
 .ret))))))))))))), 230, [.t 8]⟩
theorem comp35 : compF Go.Proofs.Try.prog [] wr64 35 = some ir35 := by kernel_rfl
/-- loop.example/s01136/spec.Meaning -/
def ir8 : IrF := ⟨.seq (.reg [
  ⟨(some 2), none, .box (.t 0)⟩,
  ⟨(some 4), none, .q (.mov (.c .nils))⟩]) (
 .seq (.seq (.reg [
  ⟨(some 5), none, .q (.load (some 1) (.t 2))⟩,
  ⟨(some 6), none, .callx 6 [(.t 5)]⟩,
  ⟨(some 7), none, .q (.not (.t 6))⟩,
  ⟨(some 8), none, .q (.mov (.t 7))⟩,
  ⟨(some 9), (some (8, false)), .q (.mov (.t 1))⟩,
  ⟨(some 10), (some (8, false)), .q (.len (.t 9))⟩,
  ⟨(some 11), (some (8, false)), .q (.bin .gtr false (.t 10) (.c (.int .i64 300)))⟩,
  ⟨(some 12), none, .q (.pick (.t 8) (.c (.bool true)) (.t 11))⟩]) (
 .cond 12 (
  .seq (.reg [
    ⟨(some 13), none, .bslx 1 0 [(.str [])] []⟩,
    ⟨(some 4), none, .q (.mov (.t 13))⟩]) (
  .ret)) (
  .skip))) (
 .seq (.reg [
  ⟨(some 14), none, .bslx 1 0 [(.str [])] []⟩,
  ⟨(some 15), none, .q (.fa 0 (.t 2))⟩,
  ⟨(some 16), none, .q (.load none (.t 15))⟩,
  ⟨(some 17), none, .q (.mov (.t 1))⟩,
  ⟨(some 18), none, .callx 35 [(.t 16), (.t 17), (.c (.bool false)), (.c (.str []))]⟩,
  ⟨(some 19), none, .app 1 16 (.t 14) (.t 18)⟩,
  ⟨(some 4), none, .q (.mov (.t 19))⟩]) (
 .ret))), 20, [.t 4]⟩
theorem comp8 : compF Go.Proofs.Try.prog [] wr64 8 = some ir8 := by kernel_rfl
/-- loop.example/s01136/impl.goodText -/
def ir72 : IrF := ⟨.seq (.reg [
  ⟨(some 2), none, .q (.mov (.c (.bool false)))⟩]) (
 .seq (.reg [
  ⟨(some 3), none, .q (.mov (.t 0))⟩,
  ⟨(some 4), none, .q (.slen (.t 3))⟩,
  ⟨(some 5), none, .q (.bin .geq false (.t 4) (.c (.int .i64 1)))⟩,
  ⟨(some 6), none, .q (.mov (.t 5))⟩,
  ⟨(some 7), (some (6, true)), .q (.mov (.t 0))⟩,
  ⟨(some 8), (some (6, true)), .q (.slen (.t 7))⟩,
  ⟨(some 9), (some (6, true)), .q (.bin .leq false (.t 8) (.c (.int .i64 30)))⟩,
  ⟨(some 10), none, .q (.pick (.t 6) (.t 9) (.c (.bool false)))⟩,
  ⟨(some 2), none, .q (.mov (.t 10))⟩]) (
 .ret)), 11, [.t 2]⟩
theorem comp72 : compF Go.Proofs.Try.prog [] wr64 72 = some ir72 := by kernel_rfl
/-- (loop.example/s01136/impl.PNode).arity -/
def ir73 : IrF := ⟨.seq (.reg [
  ⟨(some 1), none, .box (.t 0)⟩,
  ⟨(some 2), none, .q (.mov (.c (.int .i64 0)))⟩]) (
 .seq (.seq (.reg [
  ⟨(some 3), none, .q (.fa 0 (.t 1))⟩,
  ⟨(some 4), none, .q (.load none (.t 3))⟩]) (
 .block (
  .seq (.seq (.reg [
    ⟨(some 6), none, .q (.bin .eql false (.t 4) (.c (.int .i64 3)))⟩,
    ⟨(some 5), none, .q (.mov (.t 6))⟩]) (
  .cond 5 (
    .skip) (
    .seq (.reg [
      ⟨(some 7), none, .q (.bin .eql false (.t 4) (.c (.int .i64 4)))⟩,
      ⟨(some 5), none, .q (.mov (.t 7))⟩]) (
    .cond 5 (
      .skip) (
      .seq (.reg [
        ⟨(some 8), none, .q (.bin .eql false (.t 4) (.c (.int .i64 5)))⟩,
        ⟨(some 5), none, .q (.mov (.t 8))⟩]) (
      .cond 5 (
        .skip) (
        .reg [
          ⟨(some 9), none, .q (.bin .eql false (.t 4) (.c (.int .i64 9)))⟩,
          ⟨(some 5), none, .q (.mov (.t 9))⟩]))))))) (
  .cond 5 (
    .seq (.reg [
      ⟨(some 2), none, .q (.mov (.c (.int .i64 1)))⟩]) (
    .ret)) (
    .seq (.seq (.reg [
      ⟨(some 11), none, .q (.bin .eql false (.t 4) (.c (.int .i64 6)))⟩,
      ⟨(some 10), none, .q (.mov (.t 11))⟩]) (
    .cond 10 (
      .skip) (
      .seq (.reg [
        ⟨(some 12), none, .q (.bin .eql false (.t 4) (.c (.int .i64 7)))⟩,
        ⟨(some 10), none, .q (.mov (.t 12))⟩]) (
      .cond 10 (
        .skip) (
        .reg [
          ⟨(some 13), none, .q (.bin .eql false (.t 4) (.c (.int .i64 8)))⟩,
          ⟨(some 10), none, .q (.mov (.t 13))⟩]))))) (
    .cond 10 (
      .seq (.reg [
        ⟨(some 2), none, .q (.mov (.c (.int .i64 2)))⟩]) (
      .ret)) (
      .skip))))))) (
 .seq (.reg [
  ⟨(some 2), none, .q (.mov (.c (.int .i64 0)))⟩]) (
 .ret))), 14, [.t 2]⟩
theorem comp73 : compF Go.Proofs.Try.prog [] wr64 73 = some ir73 := by kernel_rfl
/-- (loop.example/s01136/impl.PNode).good -/
def ir56 : IrF := ⟨.seq (.reg [
  ⟨(some 1), none, .box (.t 0)⟩,
  ⟨(some 2), none, .q (.mov (.c (.bool false)))⟩]) (
 .seq (.seq (.reg [
  ⟨(some 3), none, .q (.fa 0 (.t 1))⟩,
  ⟨(some 4), none, .q (.load none (.t 3))⟩]) (
 .block (
  .seq (.seq (.reg [
    ⟨(some 6), none, .q (.bin .eql false (.t 4) (.c (.int .i64 1)))⟩,
    ⟨(some 5), none, .q (.mov (.t 6))⟩]) (
  .cond 5 (
    .skip) (
    .seq (.reg [
      ⟨(some 7), none, .q (.bin .eql false (.t 4) (.c (.int .i64 6)))⟩,
      ⟨(some 5), none, .q (.mov (.t 7))⟩]) (
    .cond 5 (
      .skip) (
      .seq (.reg [
        ⟨(some 8), none, .q (.bin .eql false (.t 4) (.c (.int .i64 7)))⟩,
        ⟨(some 5), none, .q (.mov (.t 8))⟩]) (
      .cond 5 (
        .skip) (
        .reg [
          ⟨(some 9), none, .q (.bin .eql false (.t 4) (.c (.int .i64 8)))⟩,
          ⟨(some 5), none, .q (.mov (.t 9))⟩]))))))) (
  .cond 5 (
    .seq (.reg [
      ⟨(some 10), none, .q (.fa 1 (.t 1))⟩,
      ⟨(some 11), none, .q (.load none (.t 10))⟩,
      ⟨(some 12), none, .q (.bin .eql false (.t 11) (.c (.str [])))⟩,
      ⟨(some 13), none, .q (.mov (.t 12))⟩,
      ⟨(some 14), (some (13, true)), .q (.fa 2 (.t 1))⟩,
      ⟨(some 15), (some (13, true)), .q (.load none (.t 14))⟩,
      ⟨(some 16), (some (13, true)), .q (.bin .eql false (.t 15) (.c (.str [])))⟩,
      ⟨(some 17), none, .q (.pick (.t 13) (.t 16) (.c (.bool false)))⟩,
      ⟨(some 2), none, .q (.mov (.t 17))⟩]) (
    .ret)) (
    .seq (.seq (.reg [
      ⟨(some 19), none, .q (.bin .eql false (.t 4) (.c (.int .i64 2)))⟩,
      ⟨(some 18), none, .q (.mov (.t 19))⟩]) (
    .cond 18 (
      .skip) (
      .seq (.reg [
        ⟨(some 20), none, .q (.bin .eql false (.t 4) (.c (.int .i64 3)))⟩,
        ⟨(some 18), none, .q (.mov (.t 20))⟩]) (
      .cond 18 (
        .skip) (
        .seq (.reg [
          ⟨(some 21), none, .q (.bin .eql false (.t 4) (.c (.int .i64 4)))⟩,
          ⟨(some 18), none, .q (.mov (.t 21))⟩]) (
        .cond 18 (
          .skip) (
          .reg [
            ⟨(some 22), none, .q (.bin .eql false (.t 4) (.c (.int .i64 9)))⟩,
            ⟨(some 18), none, .q (.mov (.t 22))⟩]))))))) (
    .cond 18 (
      .seq (.reg [
        ⟨(some 23), none, .q (.fa 1 (.t 1))⟩,
        ⟨(some 24), none, .q (.load none (.t 23))⟩,
        ⟨(some 25), none, .callx 72 [(.t 24)]⟩,
        ⟨(some 26), none, .q (.mov (.t 25))⟩,
        ⟨(some 27), (some (26, true)), .q (.fa 2 (.t 1))⟩,
        ⟨(some 28), (some (26, true)), .q (.load none (.t 27))⟩,
        ⟨(some 29), (some (26, true)), .q (.bin .eql false (.t 28) (.c (.str [])))⟩,
        ⟨(some 30), none, .q (.pick (.t 26) (.t 29) (.c (.bool false)))⟩,
        ⟨(some 2), none, .q (.mov (.t 30))⟩]) (
      .ret)) (
      .seq (.reg [
        ⟨(some 32), none, .q (.bin .eql false (.t 4) (.c (.int .i64 5)))⟩,
        ⟨(some 31), none, .q (.mov (.t 32))⟩]) (
      .cond 31 (
        .seq (.reg [
          ⟨(some 33), none, .q (.fa 1 (.t 1))⟩,
          ⟨(some 34), none, .q (.load none (.t 33))⟩,
          ⟨(some 35), none, .callx 72 [(.t 34)]⟩,
          ⟨(some 36), none, .q (.mov (.t 35))⟩,
          ⟨(some 37), (some (36, true)), .q (.fa 2 (.t 1))⟩,
          ⟨(some 38), (some (36, true)), .q (.load none (.t 37))⟩,
          ⟨(some 39), (some (36, true)), .callx 72 [(.t 38)]⟩,
          ⟨(some 40), none, .q (.pick (.t 36) (.t 39) (.c (.bool false)))⟩,
          ⟨(some 2), none, .q (.mov (.t 40))⟩]) (
        .ret)) (
        .skip))))))))) (
 .seq (.reg [
  ⟨(some 2), none, .q (.mov (.c (.bool false)))⟩]) (
 .ret))), 41, [.t 2]⟩
theorem comp56 : compF Go.Proofs.Try.prog [] wr64 56 = some ir56 := by kernel_rfl
/-- (loop.example/s01136/impl.Path).valid$1 -/
def ir55 : IrF := ⟨.seq (.reg [
  ⟨(some 1), none, .box (.t 0)⟩,
  ⟨(some 2), none, .q (.mov (.c (.bool false)))⟩]) (
 .seq (.reg [
  ⟨(some 3), none, .q (.load (some 3) (.t 1))⟩,
  ⟨(some 4), none, .callx 56 [(.t 3)]⟩,
  ⟨(some 5), none, .q (.not (.t 4))⟩,
  ⟨(some 2), none, .q (.mov (.t 5))⟩]) (
 .ret)), 6, [.t 2]⟩
theorem comp55 : compF Go.Proofs.Try.prog [] wr64 55 = some ir55 := by kernel_rfl
/-- slices.IndexFunc[[]loop.example/s01136/impl.PNode,loop.example/s01136/impl.PNode] -/
def ir71 : IrF := ⟨.seq (.reg [
  ⟨(some 4), none, .q (.mov (.c (.int .i64 0)))⟩]) (
 .seq (.seq (.reg [
  ⟨(some 6), none, .q (.mov (.t 0))⟩,
  ⟨(some 7), none, .q (.len (.t 6))⟩,
  ⟨(some 8), none, .q (.mov (.c (.int .i64 0)))⟩]) (
 .block (
  .loop (
    .seq (.reg [
      ⟨(some 9), none, .q (.bin .lss false (.t 8) (.t 7))⟩]) (
    .seq (.cond 9 (
      .skip) (
      .exit 0)) (
    .seq (.block (
      .seq (.reg [
        ⟨(some 10), none, .q (.mov (.t 8))⟩,
        ⟨(some 5), none, .q (.mov (.t 10))⟩]) (
      .seq (.reg [
        ⟨(some 11), none, .q (.mov (.t 1))⟩,
        ⟨(some 12), none, .q (.mov (.t 0))⟩,
        ⟨(some 13), none, .q (.mov (.t 5))⟩,
        ⟨(some 14), none, .q (.ia 3 (.t 12) (.t 13))⟩,
        ⟨(some 15), none, .q (.load (some 3) (.t 14))⟩,
        ⟨(some 16), none, .callvx (.t 11) [(.t 15)]⟩]) (
      .cond 16 (
        .seq (.reg [
          ⟨(some 17), none, .q (.mov (.t 5))⟩,
          ⟨(some 4), none, .q (.mov (.t 17))⟩]) (
        .ret)) (
        .skip))))) (
    .reg [
      ⟨(some 18), none, .q (.bin .add false (.t 8) (.c (.int .i64 1)))⟩,
      ⟨(some 8), none, .q (.mov (.t 18))⟩]))))))) (
 .seq (.reg [
  ⟨(some 4), none, .q (.mov (.c (.int .i64 (-1))))⟩]) (
 .ret))), 19, [.t 4]⟩
theorem comp71 : compF Go.Proofs.Try.prog [] wr64 71 = some ir71 := by kernel_rfl
/-- slices.ContainsFunc[[]loop.example/s01136/impl.PNode,loop.example/s01136/impl.PNode] -/
def ir54 : IrF := ⟨.seq (.reg [
  ⟨(some 4), none, .q (.mov (.c (.bool false)))⟩]) (
 .seq (.reg [
  ⟨(some 5), none, .q (.mov (.t 0))⟩,
  ⟨(some 6), none, .q (.mov (.t 1))⟩,
  ⟨(some 7), none, .callx 71 [(.t 5), (.t 6)]⟩,
  ⟨(some 8), none, .q (.bin .geq false (.t 7) (.c (.int .i64 0)))⟩,
  ⟨(some 4), none, .q (.mov (.t 8))⟩]) (
 .ret)), 9, [.t 4]⟩
theorem comp54 : compF Go.Proofs.Try.prog [] wr64 54 = some ir54 := by kernel_rfl
/-- slices.Clone[[]*loop.example/s01136/impl.step,*loop.example/s01136/impl.step] -/
def ir74 : IrF := ⟨.seq (.reg [
  ⟨(some 2), none, .q (.mov (.c .nils))⟩]) (
 .seq (.seq (.reg [
  ⟨(some 3), none, .q (.mov (.t 0))⟩,
  ⟨(some 4), none, .snil false (.t 3)⟩]) (
 .cond 4 (
  .seq (.reg [
    ⟨(some 2), none, .q (.mov (.c .nils))⟩]) (
  .ret)) (
  .skip))) (
 .seq (.reg [
  ⟨(some 5), none, .bslx 1 0 [(.x (.pointer none))] []⟩,
  ⟨(some 6), none, .q (.mov (.t 0))⟩,
  ⟨(some 7), none, .app 1 8 (.t 5) (.t 6)⟩,
  ⟨(some 2), none, .q (.mov (.t 7))⟩]) (
 .ret))), 8, [.t 2]⟩
theorem comp74 : compF Go.Proofs.Try.prog [] wr64 74 = some ir74 := by kernel_rfl
/-- loop.example/s01136/impl.steps -/
def ir57 : IrF := ⟨.seq (.reg [
  ⟨(some 2), none, .q (.mov (.c (.x (.pointer none))))⟩]) (
 .seq (.reg [
  ⟨(some 3), none, .q (.mov (.c .nils))⟩]) (
 .seq (.seq (.reg [
  ⟨(some 10), none, .q (.mov (.t 0))⟩,
  ⟨(some 11), none, .q (.len (.t 10))⟩,
  ⟨(some 12), none, .q (.mov (.c (.int .i64 0)))⟩]) (
 .block (
  .loop (
    .seq (.reg [
      ⟨(some 13), none, .q (.bin .lss false (.t 12) (.t 11))⟩]) (
    .seq (.cond 13 (
      .skip) (
      .exit 0)) (
    .seq (.block (
      .seq (.reg [
        ⟨(some 14), none, .q (.mov (.t 12))⟩,
        ⟨(some 15), none, .q (.ia 3 (.t 10) (.t 12))⟩,
        ⟨(some 16), none, .q (.load (some 3) (.t 15))⟩,
        ⟨(some 5), none, .alloc [(.int .i64 0), (.str []), (.str [])]⟩,
        ⟨(some 4), none, .q (.mov (.t 14))⟩,
        ⟨none, none, .store 3 (.t 5) (.t 16)⟩]) (
      .seq (.reg [
        ⟨(some 17), none, .q (.mov (.t 3))⟩,
        ⟨(some 18), none, .q (.len (.t 17))⟩,
        ⟨(some 19), none, .q (.load (some 3) (.t 5))⟩,
        ⟨(some 20), none, .callx 73 [(.t 19)]⟩,
        ⟨(some 21), none, .q (.bin .sub false (.t 18) (.t 20))⟩,
        ⟨(some 6), none, .q (.mov (.t 21))⟩]) (
      .seq (.seq (.reg [
        ⟨(some 22), none, .q (.mov (.t 6))⟩,
        ⟨(some 23), none, .q (.bin .lss false (.t 22) (.c (.int .i64 0)))⟩]) (
      .cond 23 (
        .seq (.reg [
          ⟨(some 2), none, .q (.mov (.c (.x (.pointer none))))⟩]) (
        .ret)) (
        .skip))) (
      .seq (.reg [
        ⟨(some 24), none, .q (.load (some 3) (.t 5))⟩,
        ⟨(some 25), none, .q (.mov (.t 3))⟩,
        ⟨(some 26), none, .q (.mov (.t 6))⟩,
        ⟨(some 27), none, .q (.slc 1 (.t 25) (some (.t 26)) none)⟩,
        ⟨(some 28), none, .call 74 [(.t 27)]⟩,
        ⟨(some 29), none, .q (.mov (.t 4))⟩,
        ⟨(some 30), none, .q (.build [(.int .i64 0), (.str []), (.str []), .nils, (.int .i64 0), (.int .i64 0)] [(0, 3, (.t 24)), (3, 1, (.t 28)), (4, 1, (.t 29)), (5, 1, (.c (.int .i64 1)))])⟩,
        ⟨(some 31), none, .box (.t 30)⟩,
        ⟨(some 7), none, .q (.mov (.t 31))⟩]) (
      .seq (.seq (.reg [
        ⟨(some 32), none, .q (.mov (.t 7))⟩,
        ⟨(some 33), none, .q (.nilck (.t 32))⟩,
        ⟨(some 34), none, .q (.fa 3 (.t 33))⟩,
        ⟨(some 35), none, .q (.load none (.t 34))⟩,
        ⟨(some 36), none, .q (.len (.t 35))⟩,
        ⟨(some 37), none, .q (.mov (.c (.int .i64 0)))⟩]) (
      .block (
        .loop (
          .seq (.reg [
            ⟨(some 38), none, .q (.bin .lss false (.t 37) (.t 36))⟩]) (
          .seq (.cond 38 (
            .skip) (
            .exit 0)) (
          .seq (.block (
            .seq (.reg [
              ⟨(some 39), none, .q (.ia 1 (.t 35) (.t 37))⟩,
              ⟨(some 40), none, .q (.load none (.t 39))⟩,
              ⟨(some 9), none, .q (.mov (.t 40))⟩]) (
            .reg [
              ⟨(some 41), none, .q (.mov (.t 7))⟩,
              ⟨(some 42), none, .q (.mov (.t 7))⟩,
              ⟨(some 43), none, .q (.nilck (.t 42))⟩,
              ⟨(some 44), none, .q (.fa 5 (.t 43))⟩,
              ⟨(some 45), none, .q (.load none (.t 44))⟩,
              ⟨(some 46), none, .q (.mov (.t 9))⟩,
              ⟨(some 47), none, .q (.nilck (.t 46))⟩,
              ⟨(some 48), none, .q (.fa 5 (.t 47))⟩,
              ⟨(some 49), none, .q (.load none (.t 48))⟩,
              ⟨(some 50), none, .q (.bin .add false (.t 49) (.c (.int .i64 1)))⟩,
              ⟨(some 51), none, .mx (.t 45) (.t 50)⟩,
              ⟨(some 52), none, .q (.nilck (.t 41))⟩,
              ⟨(some 53), none, .q (.fa 5 (.t 52))⟩,
              ⟨none, none, .store 1 (.t 53) (.t 51)⟩]))) (
          .reg [
            ⟨(some 54), none, .q (.bin .add false (.t 37) (.c (.int .i64 1)))⟩,
            ⟨(some 37), none, .q (.mov (.t 54))⟩]))))))) (
      .reg [
        ⟨(some 55), none, .q (.mov (.t 3))⟩,
        ⟨(some 56), none, .q (.mov (.t 6))⟩,
        ⟨(some 57), none, .q (.slc 1 (.t 55) none (some (.t 56)))⟩,
        ⟨(some 58), none, .q (.mov (.t 7))⟩,
        ⟨(some 59), none, .bslx 1 1 [(.x (.pointer none))] [(0, (.t 58))]⟩,
        ⟨(some 60), none, .app 1 8 (.t 57) (.t 59)⟩,
        ⟨(some 3), none, .q (.mov (.t 60))⟩]))))))) (
    .reg [
      ⟨(some 61), none, .q (.bin .add false (.t 12) (.c (.int .i64 1)))⟩,
      ⟨(some 12), none, .q (.mov (.t 61))⟩]))))))) (
 .seq (.seq (.reg [
  ⟨(some 62), none, .q (.mov (.t 3))⟩,
  ⟨(some 63), none, .q (.len (.t 62))⟩,
  ⟨(some 64), none, .q (.bin .neq false (.t 63) (.c (.int .i64 1)))⟩]) (
 .cond 64 (
  .seq (.reg [
    ⟨(some 2), none, .q (.mov (.c (.x (.pointer none))))⟩]) (
  .ret)) (
  .skip))) (
 .seq (.reg [
  ⟨(some 65), none, .q (.mov (.t 3))⟩,
  ⟨(some 66), none, .q (.ia 1 (.t 65) (.c (.int .i64 0)))⟩,
  ⟨(some 67), none, .q (.load none (.t 66))⟩,
  ⟨(some 2), none, .q (.mov (.t 67))⟩]) (
 .ret))))), 68, [.t 2]⟩
theorem comp57 : compF Go.Proofs.Try.prog [] wr64 57 = some ir57 := by kernel_rfl
/-- (loop.example/s01136/impl.Path).valid -/
def ir32 : IrF := ⟨.seq (.reg [
  ⟨(some 1), none, .box (.t 0)⟩,
  ⟨(some 2), none, .q (.mov (.c (.x (.pointer none))))⟩]) (
 .seq (.seq (.reg [
  ⟨(some 4), none, .q (.fa 0 (.t 1))⟩,
  ⟨(some 5), none, .q (.load none (.t 4))⟩,
  ⟨(some 6), none, .q (.len (.t 5))⟩,
  ⟨(some 7), none, .q (.bin .gtr false (.t 6) (.c (.int .i64 100)))⟩,
  ⟨(some 8), none, .q (.mov (.t 7))⟩,
  ⟨(some 9), (some (8, false)), .q (.fa 0 (.t 1))⟩,
  ⟨(some 10), (some (8, false)), .q (.load none (.t 9))⟩,
  ⟨(some 11), (some (8, false)), .callx 54 [(.t 10), (.c (.func (.func 55) []))]⟩,
  ⟨(some 12), none, .q (.pick (.t 8) (.c (.bool true)) (.t 11))⟩]) (
 .cond 12 (
  .seq (.reg [
    ⟨(some 2), none, .q (.mov (.c (.x (.pointer none))))⟩]) (
  .ret)) (
  .skip))) (
 .seq (.reg [
  ⟨(some 13), none, .q (.fa 0 (.t 1))⟩,
  ⟨(some 14), none, .q (.load none (.t 13))⟩,
  ⟨(some 15), none, .callx 57 [(.t 14)]⟩,
  ⟨(some 3), none, .q (.mov (.t 15))⟩]) (
 .seq (.seq (.reg [
  ⟨(some 16), none, .q (.mov (.t 3))⟩,
  ⟨(some 17), none, .q (.isnil .ptr false (.t 16))⟩,
  ⟨(some 18), none, .q (.mov (.t 17))⟩,
  ⟨(some 19), (some (18, false)), .q (.mov (.t 3))⟩,
  ⟨(some 20), (some (18, false)), .q (.nilck (.t 19))⟩,
  ⟨(some 21), (some (18, false)), .q (.fa 5 (.t 20))⟩,
  ⟨(some 22), (some (18, false)), .q (.load none (.t 21))⟩,
  ⟨(some 23), (some (18, false)), .q (.bin .gtr false (.t 22) (.c (.int .i64 64)))⟩,
  ⟨(some 24), none, .q (.pick (.t 18) (.c (.bool true)) (.t 23))⟩]) (
 .cond 24 (
  .seq (.reg [
    ⟨(some 2), none, .q (.mov (.c (.x (.pointer none))))⟩]) (
  .ret)) (
  .skip))) (
 .seq (.reg [
  ⟨(some 25), none, .q (.mov (.t 3))⟩,
  ⟨(some 2), none, .q (.mov (.t 25))⟩]) (
 .ret))))), 26, [.t 2]⟩
theorem comp32 : compF Go.Proofs.Try.prog [] wr64 32 = some ir32 := by kernel_rfl
/-- (loop.example/s01136/impl.terms).has -/
def ir58 : IrF := ⟨.seq (.reg [
  ⟨(some 4), none, .q (.mov (.c (.bool false)))⟩]) (
 .seq (.reg [
  ⟨(some 5), none, .q (.mov (.t 0))⟩,
  ⟨(some 6), none, .q (.mov (.t 1))⟩,
  ⟨(some 7), none, .lkp none false (.int .i64 0) (.t 5) (.t 6)⟩,
  ⟨(some 8), none, .q (.bin .gtr false (.t 7) (.c (.int .i64 0)))⟩,
  ⟨(some 4), none, .q (.mov (.t 8))⟩]) (
 .ret)), 9, [.t 4]⟩
theorem comp58 : compF Go.Proofs.Try.prog [] wr64 58 = some ir58 := by kernel_rfl
/-- (*loop.example/s01136/impl.step).mean -/
def ir33 : IrF := ⟨.seq (.reg [
  ⟨(some 6), none, .q (.mov (.c (.x (.map none))))⟩]) (
 .seq (.reg [
  ⟨(some 15), none, .mkmap⟩,
  ⟨(some 7), none, .q (.mov (.t 15))⟩]) (
 .seq (.reg [
  ⟨(some 8), none, .q (.mov (.c (.x (.map none))))⟩,
  ⟨(some 9), none, .q (.mov (.c (.x (.map none))))⟩]) (
 .seq (.reg [
  ⟨(some 16), none, .q (.mov (.t 2))⟩,
  ⟨(some 10), none, .q (.mov (.t 16))⟩]) (
 .seq (.seq (.reg [
  ⟨(some 17), none, .q (.mov (.t 0))⟩,
  ⟨(some 18), none, .q (.nilck (.t 17))⟩,
  ⟨(some 19), none, .q (.fa 0 (.t 18))⟩,
  ⟨(some 20), none, .q (.fa 0 (.t 19))⟩,
  ⟨(some 21), none, .q (.load none (.t 20))⟩,
  ⟨(some 22), none, .q (.bin .eql false (.t 21) (.c (.int .i64 9)))⟩]) (
 .cond 22 (
  .reg [
    ⟨(some 23), none, .q (.mov (.t 0))⟩,
    ⟨(some 24), none, .q (.nilck (.t 23))⟩,
    ⟨(some 25), none, .q (.fa 0 (.t 24))⟩,
    ⟨(some 26), none, .q (.fa 1 (.t 25))⟩,
    ⟨(some 10), none, .q (.mov (.t 26))⟩]) (
  .skip))) (
 .seq (.seq (.reg [
  ⟨(some 27), none, .q (.mov (.t 0))⟩,
  ⟨(some 28), none, .q (.nilck (.t 27))⟩,
  ⟨(some 29), none, .q (.fa 3 (.t 28))⟩,
  ⟨(some 30), none, .q (.load none (.t 29))⟩,
  ⟨(some 31), none, .q (.len (.t 30))⟩,
  ⟨(some 32), none, .q (.bin .gtr false (.t 31) (.c (.int .i64 0)))⟩]) (
 .cond 32 (
  .reg [
    ⟨(some 33), none, .q (.mov (.t 0))⟩,
    ⟨(some 34), none, .q (.nilck (.t 33))⟩,
    ⟨(some 35), none, .q (.fa 3 (.t 34))⟩,
    ⟨(some 36), none, .q (.load none (.t 35))⟩,
    ⟨(some 37), none, .q (.ia 1 (.t 36) (.c (.int .i64 0)))⟩,
    ⟨(some 38), none, .q (.load none (.t 37))⟩,
    ⟨(some 39), none, .q (.mov (.t 1))⟩,
    ⟨(some 40), none, .q (.mov (.t 10))⟩,
    ⟨(some 41), none, .callx 33 [(.t 38), (.t 39), (.t 40)]⟩,
    ⟨(some 8), none, .q (.mov (.t 41))⟩]) (
  .skip))) (
 .seq (.seq (.reg [
  ⟨(some 42), none, .q (.mov (.t 0))⟩,
  ⟨(some 43), none, .q (.nilck (.t 42))⟩,
  ⟨(some 44), none, .q (.fa 3 (.t 43))⟩,
  ⟨(some 45), none, .q (.load none (.t 44))⟩,
  ⟨(some 46), none, .q (.len (.t 45))⟩,
  ⟨(some 47), none, .q (.bin .gtr false (.t 46) (.c (.int .i64 1)))⟩]) (
 .cond 47 (
  .reg [
    ⟨(some 48), none, .q (.mov (.t 0))⟩,
    ⟨(some 49), none, .q (.nilck (.t 48))⟩,
    ⟨(some 50), none, .q (.fa 3 (.t 49))⟩,
    ⟨(some 51), none, .q (.load none (.t 50))⟩,
    ⟨(some 52), none, .q (.ia 1 (.t 51) (.c (.int .i64 1)))⟩,
    ⟨(some 53), none, .q (.load none (.t 52))⟩,
    ⟨(some 54), none, .q (.mov (.t 1))⟩,
    ⟨(some 55), none, .q (.mov (.t 10))⟩,
    ⟨(some 56), none, .callx 33 [(.t 53), (.t 54), (.t 55)]⟩,
    ⟨(some 9), none, .q (.mov (.t 56))⟩]) (
  .skip))) (
 .seq (.seq (.reg [
  ⟨(some 57), none, .q (.mov (.t 0))⟩,
  ⟨(some 58), none, .q (.nilck (.t 57))⟩,
  ⟨(some 59), none, .q (.fa 0 (.t 58))⟩,
  ⟨(some 60), none, .q (.fa 0 (.t 59))⟩,
  ⟨(some 61), none, .q (.load none (.t 60))⟩]) (
 .block (
  .seq (.reg [
    ⟨(some 63), none, .q (.bin .eql false (.t 61) (.c (.int .i64 9)))⟩,
    ⟨(some 62), none, .q (.mov (.t 63))⟩]) (
  .cond 62 (
    .seq (.reg [
      ⟨(some 64), none, .q (.mov (.t 8))⟩,
      ⟨(some 6), none, .q (.mov (.t 64))⟩]) (
    .ret)) (
    .seq (.seq (.reg [
      ⟨(some 66), none, .q (.bin .eql false (.t 61) (.c (.int .i64 6)))⟩,
      ⟨(some 65), none, .q (.mov (.t 66))⟩]) (
    .cond 65 (
      .skip) (
      .reg [
        ⟨(some 67), none, .q (.bin .eql false (.t 61) (.c (.int .i64 8)))⟩,
        ⟨(some 65), none, .q (.mov (.t 67))⟩]))) (
    .cond 65 (
      .seq (.seq (.reg [
        ⟨(some 68), none, .q (.mov (.t 8))⟩,
        ⟨(some 69), none, .mrange (.t 68)⟩]) (
      .block (
        .loop (
          .seq (.reg [
            ⟨(some 70), none, .mnext (.t 69)⟩,
            ⟨(some 71), none, .q (.ext 0 (.t 70))⟩]) (
          .seq (.cond 71 (
            .skip) (
            .exit 0)) (
          .block (
            .seq (.reg [
              ⟨(some 72), none, .ment (.t 69)⟩,
              ⟨(some 73), none, .q (.ext 0 (.t 72))⟩,
              ⟨(some 11), none, .q (.mov (.t 73))⟩]) (
            .seq (.reg [
              ⟨(some 74), none, .q (.mov (.t 9))⟩,
              ⟨(some 75), none, .q (.mov (.t 11))⟩,
              ⟨(some 76), none, .call 58 [(.t 74), (.t 75)]⟩,
              ⟨(some 77), none, .q (.mov (.t 0))⟩,
              ⟨(some 78), none, .q (.nilck (.t 77))⟩,
              ⟨(some 79), none, .q (.fa 0 (.t 78))⟩,
              ⟨(some 80), none, .q (.fa 0 (.t 79))⟩,
              ⟨(some 81), none, .q (.load none (.t 80))⟩,
              ⟨(some 82), none, .q (.bin .eql false (.t 81) (.c (.int .i64 6)))⟩,
              ⟨(some 83), none, .q (.beq false (.t 76) (.t 82))⟩]) (
            .cond 83 (
              .reg [
                ⟨(some 84), none, .q (.mov (.t 7))⟩,
                ⟨(some 85), none, .q (.mov (.t 11))⟩,
                ⟨none, none, .mupd none (.t 84) (.t 85) (.c (.int .i64 1))⟩]) (
              .skip)))))))))) (
      .seq (.reg [
        ⟨(some 86), none, .q (.mov (.t 7))⟩,
        ⟨(some 6), none, .q (.mov (.t 86))⟩]) (
      .ret))) (
      .seq (.reg [
        ⟨(some 88), none, .q (.bin .eql false (.t 61) (.c (.int .i64 7)))⟩,
        ⟨(some 87), none, .q (.mov (.t 88))⟩]) (
      .cond 87 (
        .seq (.seq (.reg [
          ⟨(some 89), none, .q (.mov (.t 9))⟩,
          ⟨(some 90), none, .mrange (.t 89)⟩]) (
        .block (
          .loop (
            .seq (.reg [
              ⟨(some 91), none, .mnext (.t 90)⟩,
              ⟨(some 92), none, .q (.ext 0 (.t 91))⟩]) (
            .seq (.cond 92 (
              .skip) (
              .exit 0)) (
            .block (
              .seq (.reg [
                ⟨(some 93), none, .ment (.t 90)⟩,
                ⟨(some 94), none, .q (.ext 0 (.t 93))⟩,
                ⟨(some 12), none, .q (.mov (.t 94))⟩]) (
              .reg [
                ⟨(some 95), none, .q (.mov (.t 8))⟩,
                ⟨(some 96), none, .q (.mov (.t 12))⟩,
                ⟨none, none, .mupd none (.t 95) (.t 96) (.c (.int .i64 1))⟩])))))))) (
        .seq (.reg [
          ⟨(some 97), none, .q (.mov (.t 8))⟩,
          ⟨(some 6), none, .q (.mov (.t 97))⟩]) (
        .ret))) (
        .skip))))))))) (
 .seq (.seq (.reg [
  ⟨(some 98), none, .q (.mov (.t 1))⟩,
  ⟨(some 99), none, .q (.len (.t 98))⟩,
  ⟨(some 100), none, .q (.mov (.c (.int .i64 0)))⟩]) (
 .block (
  .loop (
    .seq (.reg [
      ⟨(some 101), none, .q (.bin .lss false (.t 100) (.t 99))⟩]) (
    .seq (.cond 101 (
      .skip) (
      .exit 0)) (
    .seq (.block (
      .seq (.reg [
        ⟨(some 102), none, .q (.ia 4 (.t 98) (.t 100))⟩,
        ⟨(some 103), none, .q (.load (some 4) (.t 102))⟩,
        ⟨(some 14), none, .alloc [(.str []), (.str []), (.str []), (.str [])]⟩,
        ⟨none, none, .store 4 (.t 14) (.t 103)⟩]) (
      .seq (.seq (.reg [
        ⟨(some 104), none, .q (.mov (.t 2))⟩,
        ⟨(some 105), none, .q (.isnil .ptr true (.t 104))⟩,
        ⟨(some 106), none, .q (.mov (.t 105))⟩,
        ⟨(some 107), (some (106, true)), .q (.fa 3 (.t 14))⟩,
        ⟨(some 108), (some (106, true)), .q (.load none (.t 107))⟩,
        ⟨(some 109), (some (106, true)), .q (.mov (.t 2))⟩,
        ⟨(some 110), (some (106, true)), .q (.nilck (.t 109))⟩,
        ⟨(some 111), (some (106, true)), .q (.load none (.t 110))⟩,
        ⟨(some 112), (some (106, true)), .q (.bin .neq false (.t 108) (.t 111))⟩,
        ⟨(some 113), none, .q (.pick (.t 106) (.t 112) (.c (.bool false)))⟩]) (
      .cond 113 (
        .exit 0) (
        .skip))) (
      .block (
        .seq (.reg [
          ⟨(some 115), none, .q (.mov (.t 0))⟩,
          ⟨(some 116), none, .q (.nilck (.t 115))⟩,
          ⟨(some 117), none, .q (.fa 0 (.t 116))⟩,
          ⟨(some 118), none, .q (.fa 0 (.t 117))⟩,
          ⟨(some 119), none, .q (.load none (.t 118))⟩,
          ⟨(some 120), none, .q (.bin .eql false (.t 119) (.c (.int .i64 1)))⟩,
          ⟨(some 114), none, .q (.mov (.t 120))⟩]) (
        .cond 114 (
          .reg [
            ⟨(some 121), none, .q (.mov (.t 7))⟩,
            ⟨(some 122), none, .q (.fa 0 (.t 14))⟩,
            ⟨(some 123), none, .q (.load none (.t 122))⟩,
            ⟨(some 124), none, .q (.mov (.t 7))⟩,
            ⟨(some 125), none, .q (.fa 2 (.t 14))⟩,
            ⟨(some 126), none, .q (.load none (.t 125))⟩,
            ⟨none, none, .mupd none (.t 121) (.t 123) (.c (.int .i64 1))⟩,
            ⟨none, none, .mupd none (.t 124) (.t 126) (.c (.int .i64 1))⟩]) (
          .seq (.reg [
            ⟨(some 128), none, .q (.mov (.t 0))⟩,
            ⟨(some 129), none, .q (.nilck (.t 128))⟩,
            ⟨(some 130), none, .q (.fa 0 (.t 129))⟩,
            ⟨(some 131), none, .q (.fa 0 (.t 130))⟩,
            ⟨(some 132), none, .q (.load none (.t 131))⟩,
            ⟨(some 133), none, .q (.bin .eql false (.t 132) (.c (.int .i64 2)))⟩,
            ⟨(some 134), none, .q (.mov (.t 133))⟩,
            ⟨(some 135), (some (134, true)), .q (.fa 0 (.t 14))⟩,
            ⟨(some 136), (some (134, true)), .q (.load none (.t 135))⟩,
            ⟨(some 137), (some (134, true)), .q (.mov (.t 0))⟩,
            ⟨(some 138), (some (134, true)), .q (.nilck (.t 137))⟩,
            ⟨(some 139), (some (134, true)), .q (.fa 0 (.t 138))⟩,
            ⟨(some 140), (some (134, true)), .q (.fa 1 (.t 139))⟩,
            ⟨(some 141), (some (134, true)), .q (.load none (.t 140))⟩,
            ⟨(some 142), (some (134, true)), .q (.bin .eql false (.t 136) (.t 141))⟩,
            ⟨(some 143), (some (134, true)), .q (.mov (.t 142))⟩,
            ⟨(some 144), (some (143, false)), .q (.fa 2 (.t 14))⟩,
            ⟨(some 145), (some (143, false)), .q (.load none (.t 144))⟩,
            ⟨(some 146), (some (143, false)), .q (.mov (.t 0))⟩,
            ⟨(some 147), (some (143, false)), .q (.nilck (.t 146))⟩,
            ⟨(some 148), (some (143, false)), .q (.fa 0 (.t 147))⟩,
            ⟨(some 149), (some (143, false)), .q (.fa 1 (.t 148))⟩,
            ⟨(some 150), (some (143, false)), .q (.load none (.t 149))⟩,
            ⟨(some 151), (some (143, false)), .q (.bin .eql false (.t 145) (.t 150))⟩,
            ⟨(some 152), (some (134, true)), .q (.pick (.t 143) (.c (.bool true)) (.t 151))⟩,
            ⟨(some 153), none, .q (.pick (.t 134) (.t 152) (.c (.bool false)))⟩,
            ⟨(some 127), none, .q (.mov (.t 153))⟩]) (
          .cond 127 (
            .reg [
              ⟨(some 154), none, .q (.mov (.t 7))⟩,
              ⟨(some 155), none, .q (.mov (.t 0))⟩,
              ⟨(some 156), none, .q (.nilck (.t 155))⟩,
              ⟨(some 157), none, .q (.fa 0 (.t 156))⟩,
              ⟨(some 158), none, .q (.fa 1 (.t 157))⟩,
              ⟨(some 159), none, .q (.load none (.t 158))⟩,
              ⟨none, none, .mupd none (.t 154) (.t 159) (.c (.int .i64 1))⟩]) (
            .seq (.reg [
              ⟨(some 161), none, .q (.mov (.t 0))⟩,
              ⟨(some 162), none, .q (.nilck (.t 161))⟩,
              ⟨(some 163), none, .q (.fa 0 (.t 162))⟩,
              ⟨(some 164), none, .q (.fa 0 (.t 163))⟩,
              ⟨(some 165), none, .q (.load none (.t 164))⟩,
              ⟨(some 166), none, .q (.bin .eql false (.t 165) (.c (.int .i64 3)))⟩,
              ⟨(some 167), none, .q (.mov (.t 166))⟩,
              ⟨(some 168), (some (167, true)), .q (.fa 1 (.t 14))⟩,
              ⟨(some 169), (some (167, true)), .q (.load none (.t 168))⟩,
              ⟨(some 170), (some (167, true)), .q (.mov (.t 0))⟩,
              ⟨(some 171), (some (167, true)), .q (.nilck (.t 170))⟩,
              ⟨(some 172), (some (167, true)), .q (.fa 0 (.t 171))⟩,
              ⟨(some 173), (some (167, true)), .q (.fa 1 (.t 172))⟩,
              ⟨(some 174), (some (167, true)), .q (.load none (.t 173))⟩,
              ⟨(some 175), (some (167, true)), .q (.bin .eql false (.t 169) (.t 174))⟩,
              ⟨(some 176), none, .q (.pick (.t 167) (.t 175) (.c (.bool false)))⟩,
              ⟨(some 177), none, .q (.mov (.t 176))⟩,
              ⟨(some 178), (some (177, true)), .q (.mov (.t 8))⟩,
              ⟨(some 179), (some (177, true)), .q (.fa 0 (.t 14))⟩,
              ⟨(some 180), (some (177, true)), .q (.load none (.t 179))⟩,
              ⟨(some 181), (some (177, true)), .call 58 [(.t 178), (.t 180)]⟩,
              ⟨(some 182), none, .q (.pick (.t 177) (.t 181) (.c (.bool false)))⟩,
              ⟨(some 160), none, .q (.mov (.t 182))⟩]) (
            .cond 160 (
              .reg [
                ⟨(some 183), none, .q (.mov (.t 7))⟩,
                ⟨(some 184), none, .q (.fa 2 (.t 14))⟩,
                ⟨(some 185), none, .q (.load none (.t 184))⟩,
                ⟨none, none, .mupd none (.t 183) (.t 185) (.c (.int .i64 1))⟩]) (
              .seq (.reg [
                ⟨(some 187), none, .q (.mov (.t 0))⟩,
                ⟨(some 188), none, .q (.nilck (.t 187))⟩,
                ⟨(some 189), none, .q (.fa 0 (.t 188))⟩,
                ⟨(some 190), none, .q (.fa 0 (.t 189))⟩,
                ⟨(some 191), none, .q (.load none (.t 190))⟩,
                ⟨(some 192), none, .q (.bin .eql false (.t 191) (.c (.int .i64 4)))⟩,
                ⟨(some 193), none, .q (.mov (.t 192))⟩,
                ⟨(some 194), (some (193, true)), .q (.fa 1 (.t 14))⟩,
                ⟨(some 195), (some (193, true)), .q (.load none (.t 194))⟩,
                ⟨(some 196), (some (193, true)), .q (.mov (.t 0))⟩,
                ⟨(some 197), (some (193, true)), .q (.nilck (.t 196))⟩,
                ⟨(some 198), (some (193, true)), .q (.fa 0 (.t 197))⟩,
                ⟨(some 199), (some (193, true)), .q (.fa 1 (.t 198))⟩,
                ⟨(some 200), (some (193, true)), .q (.load none (.t 199))⟩,
                ⟨(some 201), (some (193, true)), .q (.bin .eql false (.t 195) (.t 200))⟩,
                ⟨(some 202), none, .q (.pick (.t 193) (.t 201) (.c (.bool false)))⟩,
                ⟨(some 203), none, .q (.mov (.t 202))⟩,
                ⟨(some 204), (some (203, true)), .q (.mov (.t 8))⟩,
                ⟨(some 205), (some (203, true)), .q (.fa 2 (.t 14))⟩,
                ⟨(some 206), (some (203, true)), .q (.load none (.t 205))⟩,
                ⟨(some 207), (some (203, true)), .call 58 [(.t 204), (.t 206)]⟩,
                ⟨(some 208), none, .q (.pick (.t 203) (.t 207) (.c (.bool false)))⟩,
                ⟨(some 186), none, .q (.mov (.t 208))⟩]) (
              .cond 186 (
                .reg [
                  ⟨(some 209), none, .q (.mov (.t 7))⟩,
                  ⟨(some 210), none, .q (.fa 0 (.t 14))⟩,
                  ⟨(some 211), none, .q (.load none (.t 210))⟩,
                  ⟨none, none, .mupd none (.t 209) (.t 211) (.c (.int .i64 1))⟩]) (
                .seq (.reg [
                  ⟨(some 213), none, .q (.mov (.t 0))⟩,
                  ⟨(some 214), none, .q (.nilck (.t 213))⟩,
                  ⟨(some 215), none, .q (.fa 0 (.t 214))⟩,
                  ⟨(some 216), none, .q (.fa 0 (.t 215))⟩,
                  ⟨(some 217), none, .q (.load none (.t 216))⟩,
                  ⟨(some 218), none, .q (.bin .eql false (.t 217) (.c (.int .i64 5)))⟩,
                  ⟨(some 219), none, .q (.mov (.t 218))⟩,
                  ⟨(some 220), (some (219, true)), .q (.fa 1 (.t 14))⟩,
                  ⟨(some 221), (some (219, true)), .q (.load none (.t 220))⟩,
                  ⟨(some 222), (some (219, true)), .q (.mov (.t 0))⟩,
                  ⟨(some 223), (some (219, true)), .q (.nilck (.t 222))⟩,
                  ⟨(some 224), (some (219, true)), .q (.fa 0 (.t 223))⟩,
                  ⟨(some 225), (some (219, true)), .q (.fa 1 (.t 224))⟩,
                  ⟨(some 226), (some (219, true)), .q (.load none (.t 225))⟩,
                  ⟨(some 227), (some (219, true)), .q (.bin .eql false (.t 221) (.t 226))⟩,
                  ⟨(some 228), none, .q (.pick (.t 219) (.t 227) (.c (.bool false)))⟩,
                  ⟨(some 229), none, .q (.mov (.t 228))⟩,
                  ⟨(some 230), (some (229, true)), .q (.fa 2 (.t 14))⟩,
                  ⟨(some 231), (some (229, true)), .q (.load none (.t 230))⟩,
                  ⟨(some 232), (some (229, true)), .q (.mov (.t 0))⟩,
                  ⟨(some 233), (some (229, true)), .q (.nilck (.t 232))⟩,
                  ⟨(some 234), (some (229, true)), .q (.fa 0 (.t 233))⟩,
                  ⟨(some 235), (some (229, true)), .q (.fa 2 (.t 234))⟩,
                  ⟨(some 236), (some (229, true)), .q (.load none (.t 235))⟩,
                  ⟨(some 237), (some (229, true)), .q (.bin .eql false (.t 231) (.t 236))⟩,
                  ⟨(some 238), none, .q (.pick (.t 229) (.t 237) (.c (.bool false)))⟩,
                  ⟨(some 239), none, .q (.mov (.t 238))⟩,
                  ⟨(some 240), (some (239, true)), .q (.mov (.t 8))⟩,
                  ⟨(some 241), (some (239, true)), .q (.fa 0 (.t 14))⟩,
                  ⟨(some 242), (some (239, true)), .q (.load none (.t 241))⟩,
                  ⟨(some 243), (some (239, true)), .call 58 [(.t 240), (.t 242)]⟩,
                  ⟨(some 244), none, .q (.pick (.t 239) (.t 243) (.c (.bool false)))⟩,
                  ⟨(some 212), none, .q (.mov (.t 244))⟩]) (
                .cond 212 (
                  .reg [
                    ⟨(some 245), none, .q (.mov (.t 7))⟩,
                    ⟨(some 246), none, .q (.fa 0 (.t 14))⟩,
                    ⟨(some 247), none, .q (.load none (.t 246))⟩,
                    ⟨none, none, .mupd none (.t 245) (.t 247) (.c (.int .i64 1))⟩]) (
                  .skip))))))))))))))) (
    .reg [
      ⟨(some 248), none, .q (.bin .add false (.t 100) (.c (.int .i64 1)))⟩,
      ⟨(some 100), none, .q (.mov (.t 248))⟩]))))))) (
 .seq (.reg [
  ⟨(some 249), none, .q (.mov (.t 7))⟩,
  ⟨(some 6), none, .q (.mov (.t 249))⟩]) (
 .ret)))))))))), 250, [.t 6]⟩
theorem comp33 : compF Go.Proofs.Try.prog [] wr64 33 = some ir33 := by kernel_rfl
/-- loop.example/s01136/impl.Meaning -/
def ir7 : IrF := ⟨.seq (.reg [
  ⟨(some 2), none, .box (.t 0)⟩,
  ⟨(some 4), none, .q (.mov (.c .nils))⟩]) (
 .seq (.reg [
  ⟨(some 8), none, .q (.load (some 1) (.t 2))⟩,
  ⟨(some 9), none, .callx 32 [(.t 8)]⟩,
  ⟨(some 5), none, .q (.mov (.t 9))⟩]) (
 .seq (.seq (.reg [
  ⟨(some 10), none, .q (.mov (.t 5))⟩,
  ⟨(some 11), none, .q (.isnil .ptr false (.t 10))⟩,
  ⟨(some 12), none, .q (.mov (.t 11))⟩,
  ⟨(some 13), (some (12, false)), .q (.mov (.t 1))⟩,
  ⟨(some 14), (some (12, false)), .q (.len (.t 13))⟩,
  ⟨(some 15), (some (12, false)), .q (.bin .gtr false (.t 14) (.c (.int .i64 300)))⟩,
  ⟨(some 16), none, .q (.pick (.t 12) (.c (.bool true)) (.t 15))⟩]) (
 .cond 16 (
  .seq (.reg [
    ⟨(some 4), none, .q (.mov (.c .nils))⟩]) (
  .ret)) (
  .skip))) (
 .seq (.reg [
  ⟨(some 6), none, .q (.mov (.c .nils))⟩]) (
 .seq (.seq (.reg [
  ⟨(some 17), none, .q (.mov (.t 5))⟩,
  ⟨(some 18), none, .q (.mov (.t 1))⟩,
  ⟨(some 19), none, .callx 33 [(.t 17), (.t 18), (.c (.x (.pointer none)))]⟩,
  ⟨(some 20), none, .mrange (.t 19)⟩]) (
 .block (
  .loop (
    .seq (.reg [
      ⟨(some 21), none, .mnext (.t 20)⟩,
      ⟨(some 22), none, .q (.ext 0 (.t 21))⟩]) (
    .seq (.cond 22 (
      .skip) (
      .exit 0)) (
    .block (
      .seq (.reg [
        ⟨(some 23), none, .ment (.t 20)⟩,
        ⟨(some 24), none, .q (.ext 0 (.t 23))⟩,
        ⟨(some 7), none, .q (.mov (.t 24))⟩]) (
      .reg [
        ⟨(some 25), none, .q (.mov (.t 6))⟩,
        ⟨(some 26), none, .q (.mov (.t 7))⟩,
        ⟨(some 27), none, .bslx 1 1 [(.str [])] [(0, (.t 26))]⟩,
        ⟨(some 28), none, .app 1 16 (.t 25) (.t 27)⟩,
        ⟨(some 6), none, .q (.mov (.t 28))⟩])))))))) (
 .seq (.reg [
  ⟨(some 29), none, .q (.mov (.t 6))⟩,
  ⟨(some 30), none, .callx 34 [(.t 29)]⟩]) (
 .seq (.reg [
  ⟨(some 31), none, .q (.mov (.t 6))⟩,
  ⟨(some 4), none, .q (.mov (.t 31))⟩]) (
 .ret))))))), 32, [.t 4]⟩
theorem comp7 : compF Go.Proofs.Try.prog [] wr64 7 = some ir7 := by kernel_rfl
end Go.Av

namespace Go.Av
set_option maxRecDepth 100000
set_option maxHeartbeats 4000000
set_option linter.unusedVariables false
set_option linter.unusedSimpArgs false

def tx (s : List UInt8) : Bool := decide (1 ≤ s.length ∧ s.length ≤ 30)
theorem c51 (s : List UInt8) : PCall prog [] 51 [.str s] (· = .bool (tx s)) := by
  refine PCall.enter mixed comp51 ?_
  dsimp only [ir51]
  (repeat (first | with_reducible refine And.intro trivial ?_ | with_reducible refine And.intro rfl ?_ | (with_reducible refine And.intro ?_ ?_; focus ((repeat' (first | with_reducible exact trivial | with_reducible exact rfl | (with_reducible apply And.intro) | exact in64 (by omega) (by omega) | omega)); done)) | dsimp only [go_sem, Nat.reduceAdd, Nat.reduceSub, Option.map, bne, BEq.beq, nds, fcs] | simp only [sS, Int.cast_ofNat_Int, Int.reduceEq, Int.reduceLT, Int.reduceLE, Int.reduceAdd, Int.reduceSub, Int.reduceToNat]))
  refine gb (fun h => ?_) (fun h => ?_)
  · simp only [h]
    (repeat (first | with_reducible refine And.intro trivial ?_ | with_reducible refine And.intro rfl ?_ | (with_reducible refine And.intro ?_ ?_; focus ((repeat' (first | with_reducible exact trivial | with_reducible exact rfl | (with_reducible apply And.intro) | exact in64 (by omega) (by omega) | omega)); done)) | dsimp only [go_sem, Nat.reduceAdd, Nat.reduceSub, Option.map, bne, BEq.beq, nds, fcs] | simp only [sS, Int.cast_ofNat_Int, Int.reduceEq, Int.reduceLT, Int.reduceLE, Int.reduceAdd, Int.reduceSub, Int.reduceToNat]))
    refine fin0 ?_; (repeat (first | with_reducible refine And.intro trivial ?_ | with_reducible refine And.intro rfl ?_ | (with_reducible refine And.intro ?_ ?_; focus ((repeat' (first | with_reducible exact trivial | with_reducible exact rfl | (with_reducible apply And.intro) | exact in64 (by omega) (by omega) | omega)); done)) | dsimp only [go_sem, Nat.reduceAdd, Nat.reduceSub, Option.map, bne, BEq.beq, nds, fcs] | simp only [sS, Int.cast_ofNat_Int, Int.reduceEq, Int.reduceLT, Int.reduceLE, Int.reduceAdd, Int.reduceSub, Int.reduceToNat]))
    simp only [decide_eq_true_eq] at h
    rw [tx, V.bool.injEq, decide_eq_decide]; omega
  · simp only [h]
    (repeat (first | with_reducible refine And.intro trivial ?_ | with_reducible refine And.intro rfl ?_ | (with_reducible refine And.intro ?_ ?_; focus ((repeat' (first | with_reducible exact trivial | with_reducible exact rfl | (with_reducible apply And.intro) | exact in64 (by omega) (by omega) | omega)); done)) | dsimp only [go_sem, Nat.reduceAdd, Nat.reduceSub, Option.map, bne, BEq.beq, nds, fcs] | simp only [sS, Int.cast_ofNat_Int, Int.reduceEq, Int.reduceLT, Int.reduceLE, Int.reduceAdd, Int.reduceSub, Int.reduceToNat]))
    refine fin0 ?_; (repeat (first | with_reducible refine And.intro trivial ?_ | with_reducible refine And.intro rfl ?_ | (with_reducible refine And.intro ?_ ?_; focus ((repeat' (first | with_reducible exact trivial | with_reducible exact rfl | (with_reducible apply And.intro) | exact in64 (by omega) (by omega) | omega)); done)) | dsimp only [go_sem, Nat.reduceAdd, Nat.reduceSub, Option.map, bne, BEq.beq, nds, fcs] | simp only [sS, Int.cast_ofNat_Int, Int.reduceEq, Int.reduceLT, Int.reduceLE, Int.reduceAdd, Int.reduceSub, Int.reduceToNat]))
    rw [tx, V.bool.injEq, eq_comm, decide_eq_false_iff_not]; simp only [decide_eq_false_iff_not] at h; omega
theorem c72 (s : List UInt8) : PCall prog [] 72 [.str s] (· = .bool (tx s)) := by
  refine PCall.enter mixed comp72 ?_
  dsimp only [ir72]
  (repeat (first | with_reducible refine And.intro trivial ?_ | with_reducible refine And.intro rfl ?_ | (with_reducible refine And.intro ?_ ?_; focus ((repeat' (first | with_reducible exact trivial | with_reducible exact rfl | (with_reducible apply And.intro) | exact in64 (by omega) (by omega) | omega)); done)) | dsimp only [go_sem, Nat.reduceAdd, Nat.reduceSub, Option.map, bne, BEq.beq, nds, fcs] | simp only [sS, Int.cast_ofNat_Int, Int.reduceEq, Int.reduceLT, Int.reduceLE, Int.reduceAdd, Int.reduceSub, Int.reduceToNat]))
  refine gb (fun h => ?_) (fun h => ?_)
  · simp only [h]
    (repeat (first | with_reducible refine And.intro trivial ?_ | with_reducible refine And.intro rfl ?_ | (with_reducible refine And.intro ?_ ?_; focus ((repeat' (first | with_reducible exact trivial | with_reducible exact rfl | (with_reducible apply And.intro) | exact in64 (by omega) (by omega) | omega)); done)) | dsimp only [go_sem, Nat.reduceAdd, Nat.reduceSub, Option.map, bne, BEq.beq, nds, fcs] | simp only [sS, Int.cast_ofNat_Int, Int.reduceEq, Int.reduceLT, Int.reduceLE, Int.reduceAdd, Int.reduceSub, Int.reduceToNat]))
    refine fin0 ?_; (repeat (first | with_reducible refine And.intro trivial ?_ | with_reducible refine And.intro rfl ?_ | (with_reducible refine And.intro ?_ ?_; focus ((repeat' (first | with_reducible exact trivial | with_reducible exact rfl | (with_reducible apply And.intro) | exact in64 (by omega) (by omega) | omega)); done)) | dsimp only [go_sem, Nat.reduceAdd, Nat.reduceSub, Option.map, bne, BEq.beq, nds, fcs] | simp only [sS, Int.cast_ofNat_Int, Int.reduceEq, Int.reduceLT, Int.reduceLE, Int.reduceAdd, Int.reduceSub, Int.reduceToNat]))
    simp only [decide_eq_true_eq] at h
    rw [tx, V.bool.injEq, decide_eq_decide]; omega
  · simp only [h]
    (repeat (first | with_reducible refine And.intro trivial ?_ | with_reducible refine And.intro rfl ?_ | (with_reducible refine And.intro ?_ ?_; focus ((repeat' (first | with_reducible exact trivial | with_reducible exact rfl | (with_reducible apply And.intro) | exact in64 (by omega) (by omega) | omega)); done)) | dsimp only [go_sem, Nat.reduceAdd, Nat.reduceSub, Option.map, bne, BEq.beq, nds, fcs] | simp only [sS, Int.cast_ofNat_Int, Int.reduceEq, Int.reduceLT, Int.reduceLE, Int.reduceAdd, Int.reduceSub, Int.reduceToNat]))
    refine fin0 ?_; (repeat (first | with_reducible refine And.intro trivial ?_ | with_reducible refine And.intro rfl ?_ | (with_reducible refine And.intro ?_ ?_; focus ((repeat' (first | with_reducible exact trivial | with_reducible exact rfl | (with_reducible apply And.intro) | exact in64 (by omega) (by omega) | omega)); done)) | dsimp only [go_sem, Nat.reduceAdd, Nat.reduceSub, Option.map, bne, BEq.beq, nds, fcs] | simp only [sS, Int.cast_ofNat_Int, Int.reduceEq, Int.reduceLT, Int.reduceLE, Int.reduceAdd, Int.reduceSub, Int.reduceToNat]))
    rw [tx, V.bool.injEq, eq_comm, decide_eq_false_iff_not]; simp only [decide_eq_false_iff_not] at h; omega
def ar (k : Int) : Nat := if k ≤ 2 then 0 else if 6 ≤ k ∧ k ≤ 8 then 2 else 1
theorem c52 (k : Int) : PCall prog [] 52 [.int .i64 k] (· = .int .i64 (ar k)) := by
  refine PCall.enter mixed comp52 ?_
  dsimp only [ir52]
  (repeat (first | with_reducible refine And.intro trivial ?_ | with_reducible refine And.intro rfl ?_ | (with_reducible refine And.intro ?_ ?_; focus ((repeat' (first | with_reducible exact trivial | with_reducible exact rfl | (with_reducible apply And.intro) | exact in64 (by omega) (by omega) | omega)); done)) | dsimp only [go_sem, Nat.reduceAdd, Nat.reduceSub, Option.map, bne, BEq.beq, nds, fcs] | simp only [sS, Int.cast_ofNat_Int, Int.reduceEq, Int.reduceLT, Int.reduceLE, Int.reduceAdd, Int.reduceSub, Int.reduceToNat]))
  refine br (fun h => ?_) (fun h => ?_)
  · (repeat (first | with_reducible refine And.intro trivial ?_ | with_reducible refine And.intro rfl ?_ | (with_reducible refine And.intro ?_ ?_; focus ((repeat' (first | with_reducible exact trivial | with_reducible exact rfl | (with_reducible apply And.intro) | exact in64 (by omega) (by omega) | omega)); done)) | dsimp only [go_sem, Nat.reduceAdd, Nat.reduceSub, Option.map, bne, BEq.beq, nds, fcs] | simp only [sS, Int.cast_ofNat_Int, Int.reduceEq, Int.reduceLT, Int.reduceLE, Int.reduceAdd, Int.reduceSub, Int.reduceToNat])); refine fin0 ?_; (repeat (first | with_reducible refine And.intro trivial ?_ | with_reducible refine And.intro rfl ?_ | (with_reducible refine And.intro ?_ ?_; focus ((repeat' (first | with_reducible exact trivial | with_reducible exact rfl | (with_reducible apply And.intro) | exact in64 (by omega) (by omega) | omega)); done)) | dsimp only [go_sem, Nat.reduceAdd, Nat.reduceSub, Option.map, bne, BEq.beq, nds, fcs] | simp only [sS, Int.cast_ofNat_Int, Int.reduceEq, Int.reduceLT, Int.reduceLE, Int.reduceAdd, Int.reduceSub, Int.reduceToNat])); simp only [decide_eq_true_eq] at h; simp [ar, h]
  simp only [decide_eq_false_iff_not] at h
  (repeat (first | with_reducible refine And.intro trivial ?_ | with_reducible refine And.intro rfl ?_ | (with_reducible refine And.intro ?_ ?_; focus ((repeat' (first | with_reducible exact trivial | with_reducible exact rfl | (with_reducible apply And.intro) | exact in64 (by omega) (by omega) | omega)); done)) | dsimp only [go_sem, Nat.reduceAdd, Nat.reduceSub, Option.map, bne, BEq.beq, nds, fcs] | simp only [sS, Int.cast_ofNat_Int, Int.reduceEq, Int.reduceLT, Int.reduceLE, Int.reduceAdd, Int.reduceSub, Int.reduceToNat]))
  refine gb (fun h2 => ?_) (fun h2 => ?_)
  · simp only [h2]
    (repeat (first | with_reducible refine And.intro trivial ?_ | with_reducible refine And.intro rfl ?_ | (with_reducible refine And.intro ?_ ?_; focus ((repeat' (first | with_reducible exact trivial | with_reducible exact rfl | (with_reducible apply And.intro) | exact in64 (by omega) (by omega) | omega)); done)) | dsimp only [go_sem, Nat.reduceAdd, Nat.reduceSub, Option.map, bne, BEq.beq, nds, fcs] | simp only [sS, Int.cast_ofNat_Int, Int.reduceEq, Int.reduceLT, Int.reduceLE, Int.reduceAdd, Int.reduceSub, Int.reduceToNat]))
    simp only [decide_eq_true_eq] at h2
    refine br (fun h3 => ?_) (fun h3 => ?_)
    · (repeat (first | with_reducible refine And.intro trivial ?_ | with_reducible refine And.intro rfl ?_ | (with_reducible refine And.intro ?_ ?_; focus ((repeat' (first | with_reducible exact trivial | with_reducible exact rfl | (with_reducible apply And.intro) | exact in64 (by omega) (by omega) | omega)); done)) | dsimp only [go_sem, Nat.reduceAdd, Nat.reduceSub, Option.map, bne, BEq.beq, nds, fcs] | simp only [sS, Int.cast_ofNat_Int, Int.reduceEq, Int.reduceLT, Int.reduceLE, Int.reduceAdd, Int.reduceSub, Int.reduceToNat])); refine fin0 ?_; (repeat (first | with_reducible refine And.intro trivial ?_ | with_reducible refine And.intro rfl ?_ | (with_reducible refine And.intro ?_ ?_; focus ((repeat' (first | with_reducible exact trivial | with_reducible exact rfl | (with_reducible apply And.intro) | exact in64 (by omega) (by omega) | omega)); done)) | dsimp only [go_sem, Nat.reduceAdd, Nat.reduceSub, Option.map, bne, BEq.beq, nds, fcs] | simp only [sS, Int.cast_ofNat_Int, Int.reduceEq, Int.reduceLT, Int.reduceLE, Int.reduceAdd, Int.reduceSub, Int.reduceToNat])); simp only [decide_eq_true_eq] at h3; simp [ar, h, h2, h3]
    · (repeat (first | with_reducible refine And.intro trivial ?_ | with_reducible refine And.intro rfl ?_ | (with_reducible refine And.intro ?_ ?_; focus ((repeat' (first | with_reducible exact trivial | with_reducible exact rfl | (with_reducible apply And.intro) | exact in64 (by omega) (by omega) | omega)); done)) | dsimp only [go_sem, Nat.reduceAdd, Nat.reduceSub, Option.map, bne, BEq.beq, nds, fcs] | simp only [sS, Int.cast_ofNat_Int, Int.reduceEq, Int.reduceLT, Int.reduceLE, Int.reduceAdd, Int.reduceSub, Int.reduceToNat])); refine fin0 ?_; (repeat (first | with_reducible refine And.intro trivial ?_ | with_reducible refine And.intro rfl ?_ | (with_reducible refine And.intro ?_ ?_; focus ((repeat' (first | with_reducible exact trivial | with_reducible exact rfl | (with_reducible apply And.intro) | exact in64 (by omega) (by omega) | omega)); done)) | dsimp only [go_sem, Nat.reduceAdd, Nat.reduceSub, Option.map, bne, BEq.beq, nds, fcs] | simp only [sS, Int.cast_ofNat_Int, Int.reduceEq, Int.reduceLT, Int.reduceLE, Int.reduceAdd, Int.reduceSub, Int.reduceToNat])); simp only [decide_eq_false_iff_not] at h3; simp [ar, h, h2, h3]
  · simp only [h2]
    (repeat (first | with_reducible refine And.intro trivial ?_ | with_reducible refine And.intro rfl ?_ | (with_reducible refine And.intro ?_ ?_; focus ((repeat' (first | with_reducible exact trivial | with_reducible exact rfl | (with_reducible apply And.intro) | exact in64 (by omega) (by omega) | omega)); done)) | dsimp only [go_sem, Nat.reduceAdd, Nat.reduceSub, Option.map, bne, BEq.beq, nds, fcs] | simp only [sS, Int.cast_ofNat_Int, Int.reduceEq, Int.reduceLT, Int.reduceLE, Int.reduceAdd, Int.reduceSub, Int.reduceToNat]))
    simp only [decide_eq_false_iff_not] at h2
    refine fin0 ?_; (repeat (first | with_reducible refine And.intro trivial ?_ | with_reducible refine And.intro rfl ?_ | (with_reducible refine And.intro ?_ ?_; focus ((repeat' (first | with_reducible exact trivial | with_reducible exact rfl | (with_reducible apply And.intro) | exact in64 (by omega) (by omega) | omega)); done)) | dsimp only [go_sem, Nat.reduceAdd, Nat.reduceSub, Option.map, bne, BEq.beq, nds, fcs] | simp only [sS, Int.cast_ofNat_Int, Int.reduceEq, Int.reduceLT, Int.reduceLE, Int.reduceAdd, Int.reduceSub, Int.reduceToNat])); simp [ar, h, h2]
theorem c61 (ns : List Nd) (n : Nd) : PCall prog [] 61 [nds (ns ++ [n])] (· = .agg (ndC n)) := by
  refine PCall.small fun hsm => PCall.enter mixed comp61 ?_
  have hx : (ns ++ [n]).length ≤ 9223372036854775807 := by simpa [nds] using hsm.1.1
  simp only [List.length_append, List.length_cons, List.length_nil] at hx
  dsimp only [ir61]
  have e1 : (List.map ndC (ns ++ [n])).getD (((ns.length + 1 : Nat) : Int) - 1).toNat [] = [.int .i64 n.k, .str n.s, .str n.t] := by
    rw [show (((ns.length + 1 : Nat) : Int) - 1).toNat = ns.length from by omega, List.getD_eq_getElem?_getD]; simp [ndC]
  (repeat (first | with_reducible refine And.intro trivial ?_ | with_reducible refine And.intro rfl ?_ | (with_reducible refine And.intro ?_ ?_; focus ((repeat' (first | with_reducible exact trivial | with_reducible exact rfl | (with_reducible apply And.intro) | exact in64 (by omega) (by omega) | omega)); done)) | dsimp only [go_sem, Nat.reduceAdd, Nat.reduceSub, Option.map, bne, BEq.beq, nds, fcs] | simp only [sS, Int.cast_ofNat_Int, Int.reduceEq, Int.reduceLT, Int.reduceLE, Int.reduceAdd, Int.reduceSub, Int.reduceToNat]))
  simp only [e1]
  (repeat (first | with_reducible refine And.intro trivial ?_ | with_reducible refine And.intro rfl ?_ | (with_reducible refine And.intro ?_ ?_; focus ((repeat' (first | with_reducible exact trivial | with_reducible exact rfl | (with_reducible apply And.intro) | exact in64 (by omega) (by omega) | omega)); done)) | dsimp only [go_sem, Nat.reduceAdd, Nat.reduceSub, Option.map, bne, BEq.beq, nds, fcs] | simp only [sS, Int.cast_ofNat_Int, Int.reduceEq, Int.reduceLT, Int.reduceLE, Int.reduceAdd, Int.reduceSub, Int.reduceToNat]))
  refine fin0 ?_; (repeat (first | with_reducible refine And.intro trivial ?_ | with_reducible refine And.intro rfl ?_ | (with_reducible refine And.intro ?_ ?_; focus ((repeat' (first | with_reducible exact trivial | with_reducible exact rfl | (with_reducible apply And.intro) | exact in64 (by omega) (by omega) | omega)); done)) | dsimp only [go_sem, Nat.reduceAdd, Nat.reduceSub, Option.map, bne, BEq.beq, nds, fcs] | simp only [sS, Int.cast_ofNat_Int, Int.reduceEq, Int.reduceLT, Int.reduceLE, Int.reduceAdd, Int.reduceSub, Int.reduceToNat]))
  try rfl
def goodN (n : Nd) : Bool :=
  if n.k = 1 ∨ n.k = 6 ∨ n.k = 7 ∨ n.k = 8 then decide (n.s = []) && decide (n.t = [])
  else if n.k = 2 ∨ n.k = 3 ∨ n.k = 4 ∨ n.k = 9 then tx n.s && decide (n.t = [])
  else if n.k = 5 then tx n.s && tx n.t else false
theorem c29 (n : Nd) : PCall prog [] 29 [.agg (ndC n)] (· = .bool (goodN n)) := by
  refine PCall.enter mixed comp29 ?_
  obtain ⟨k, s, t⟩ := n
  have h1 : (k = 1 ∨ k = 6 ∨ k = 7 ∨ k = 8) ∨ (k = 2 ∨ k = 3 ∨ k = 4 ∨ k = 9) ∨ k = 5 ∨ (k ≠ 1 ∧ k ≠ 6 ∧ k ≠ 7 ∧ k ≠ 8 ∧ k ≠ 2 ∧ k ≠ 3 ∧ k ≠ 4 ∧ k ≠ 9 ∧ k ≠ 5) := by omega
  rcases h1 with (rfl | rfl | rfl | rfl) | (rfl | rfl | rfl | rfl) | rfl | ⟨h1, h2, h3, h4, h5, h6, h7, h8, h9⟩
  iterate 4
    · dsimp only [ir29, ndC]
      (repeat (first | with_reducible refine And.intro trivial ?_ | with_reducible refine And.intro rfl ?_ | (with_reducible refine And.intro ?_ ?_; focus ((repeat' (first | with_reducible exact trivial | with_reducible exact rfl | (with_reducible apply And.intro) | exact in64 (by omega) (by omega) | omega)); done)) | dsimp only [go_sem, Nat.reduceAdd, Nat.reduceSub, Option.map, bne, BEq.beq, nds, fcs] | simp only [sS, Int.cast_ofNat_Int, Int.reduceEq, Int.reduceLT, Int.reduceLE, Int.reduceAdd, Int.reduceSub, Int.reduceToNat]))
      refine gb (fun h => ?_) (fun h => ?_)
      · simp only [h]
        (repeat (first | with_reducible refine And.intro trivial ?_ | with_reducible refine And.intro rfl ?_ | (with_reducible refine And.intro ?_ ?_; focus ((repeat' (first | with_reducible exact trivial | with_reducible exact rfl | (with_reducible apply And.intro) | exact in64 (by omega) (by omega) | omega)); done)) | dsimp only [go_sem, Nat.reduceAdd, Nat.reduceSub, Option.map, bne, BEq.beq, nds, fcs] | simp only [sS, Int.cast_ofNat_Int, Int.reduceEq, Int.reduceLT, Int.reduceLE, Int.reduceAdd, Int.reduceSub, Int.reduceToNat]))
        refine fin0 ?_; (repeat (first | with_reducible refine And.intro trivial ?_ | with_reducible refine And.intro rfl ?_ | (with_reducible refine And.intro ?_ ?_; focus ((repeat' (first | with_reducible exact trivial | with_reducible exact rfl | (with_reducible apply And.intro) | exact in64 (by omega) (by omega) | omega)); done)) | dsimp only [go_sem, Nat.reduceAdd, Nat.reduceSub, Option.map, bne, BEq.beq, nds, fcs] | simp only [sS, Int.cast_ofNat_Int, Int.reduceEq, Int.reduceLT, Int.reduceLE, Int.reduceAdd, Int.reduceSub, Int.reduceToNat]))
        simp at h; simp [goodN, h]
      · simp only [h]
        (repeat (first | with_reducible refine And.intro trivial ?_ | with_reducible refine And.intro rfl ?_ | (with_reducible refine And.intro ?_ ?_; focus ((repeat' (first | with_reducible exact trivial | with_reducible exact rfl | (with_reducible apply And.intro) | exact in64 (by omega) (by omega) | omega)); done)) | dsimp only [go_sem, Nat.reduceAdd, Nat.reduceSub, Option.map, bne, BEq.beq, nds, fcs] | simp only [sS, Int.cast_ofNat_Int, Int.reduceEq, Int.reduceLT, Int.reduceLE, Int.reduceAdd, Int.reduceSub, Int.reduceToNat]))
        refine fin0 ?_; (repeat (first | with_reducible refine And.intro trivial ?_ | with_reducible refine And.intro rfl ?_ | (with_reducible refine And.intro ?_ ?_; focus ((repeat' (first | with_reducible exact trivial | with_reducible exact rfl | (with_reducible apply And.intro) | exact in64 (by omega) (by omega) | omega)); done)) | dsimp only [go_sem, Nat.reduceAdd, Nat.reduceSub, Option.map, bne, BEq.beq, nds, fcs] | simp only [sS, Int.cast_ofNat_Int, Int.reduceEq, Int.reduceLT, Int.reduceLE, Int.reduceAdd, Int.reduceSub, Int.reduceToNat]))
        simp at h; simp [goodN, h]
  iterate 4
    · dsimp only [ir29, ndC]
      (repeat (first | with_reducible refine And.intro trivial ?_ | with_reducible refine And.intro rfl ?_ | (with_reducible refine And.intro ?_ ?_; focus ((repeat' (first | with_reducible exact trivial | with_reducible exact rfl | (with_reducible apply And.intro) | exact in64 (by omega) (by omega) | omega)); done)) | dsimp only [go_sem, Nat.reduceAdd, Nat.reduceSub, Option.map, bne, BEq.beq, nds, fcs] | simp only [sS, Int.cast_ofNat_Int, Int.reduceEq, Int.reduceLT, Int.reduceLE, Int.reduceAdd, Int.reduceSub, Int.reduceToNat]))
      refine cpe [] (c51 s) rfl ?_
      (repeat (first | with_reducible refine And.intro trivial ?_ | with_reducible refine And.intro rfl ?_ | (with_reducible refine And.intro ?_ ?_; focus ((repeat' (first | with_reducible exact trivial | with_reducible exact rfl | (with_reducible apply And.intro) | exact in64 (by omega) (by omega) | omega)); done)) | dsimp only [go_sem, Nat.reduceAdd, Nat.reduceSub, Option.map, bne, BEq.beq, nds, fcs] | simp only [sS, Int.cast_ofNat_Int, Int.reduceEq, Int.reduceLT, Int.reduceLE, Int.reduceAdd, Int.reduceSub, Int.reduceToNat]))
      refine gb (fun h => ?_) (fun h => ?_)
      · simp only [h]
        (repeat (first | with_reducible refine And.intro trivial ?_ | with_reducible refine And.intro rfl ?_ | (with_reducible refine And.intro ?_ ?_; focus ((repeat' (first | with_reducible exact trivial | with_reducible exact rfl | (with_reducible apply And.intro) | exact in64 (by omega) (by omega) | omega)); done)) | dsimp only [go_sem, Nat.reduceAdd, Nat.reduceSub, Option.map, bne, BEq.beq, nds, fcs] | simp only [sS, Int.cast_ofNat_Int, Int.reduceEq, Int.reduceLT, Int.reduceLE, Int.reduceAdd, Int.reduceSub, Int.reduceToNat]))
        refine fin0 ?_; (repeat (first | with_reducible refine And.intro trivial ?_ | with_reducible refine And.intro rfl ?_ | (with_reducible refine And.intro ?_ ?_; focus ((repeat' (first | with_reducible exact trivial | with_reducible exact rfl | (with_reducible apply And.intro) | exact in64 (by omega) (by omega) | omega)); done)) | dsimp only [go_sem, Nat.reduceAdd, Nat.reduceSub, Option.map, bne, BEq.beq, nds, fcs] | simp only [sS, Int.cast_ofNat_Int, Int.reduceEq, Int.reduceLT, Int.reduceLE, Int.reduceAdd, Int.reduceSub, Int.reduceToNat]))
        simp [goodN, h]
      · simp only [h]
        (repeat (first | with_reducible refine And.intro trivial ?_ | with_reducible refine And.intro rfl ?_ | (with_reducible refine And.intro ?_ ?_; focus ((repeat' (first | with_reducible exact trivial | with_reducible exact rfl | (with_reducible apply And.intro) | exact in64 (by omega) (by omega) | omega)); done)) | dsimp only [go_sem, Nat.reduceAdd, Nat.reduceSub, Option.map, bne, BEq.beq, nds, fcs] | simp only [sS, Int.cast_ofNat_Int, Int.reduceEq, Int.reduceLT, Int.reduceLE, Int.reduceAdd, Int.reduceSub, Int.reduceToNat]))
        refine fin0 ?_; (repeat (first | with_reducible refine And.intro trivial ?_ | with_reducible refine And.intro rfl ?_ | (with_reducible refine And.intro ?_ ?_; focus ((repeat' (first | with_reducible exact trivial | with_reducible exact rfl | (with_reducible apply And.intro) | exact in64 (by omega) (by omega) | omega)); done)) | dsimp only [go_sem, Nat.reduceAdd, Nat.reduceSub, Option.map, bne, BEq.beq, nds, fcs] | simp only [sS, Int.cast_ofNat_Int, Int.reduceEq, Int.reduceLT, Int.reduceLE, Int.reduceAdd, Int.reduceSub, Int.reduceToNat]))
        simp [goodN, h]
  · dsimp only [ir29, ndC]
    (repeat (first | with_reducible refine And.intro trivial ?_ | with_reducible refine And.intro rfl ?_ | (with_reducible refine And.intro ?_ ?_; focus ((repeat' (first | with_reducible exact trivial | with_reducible exact rfl | (with_reducible apply And.intro) | exact in64 (by omega) (by omega) | omega)); done)) | dsimp only [go_sem, Nat.reduceAdd, Nat.reduceSub, Option.map, bne, BEq.beq, nds, fcs] | simp only [sS, Int.cast_ofNat_Int, Int.reduceEq, Int.reduceLT, Int.reduceLE, Int.reduceAdd, Int.reduceSub, Int.reduceToNat]))
    refine cpe [] (c51 s) rfl ?_
    (repeat (first | with_reducible refine And.intro trivial ?_ | with_reducible refine And.intro rfl ?_ | (with_reducible refine And.intro ?_ ?_; focus ((repeat' (first | with_reducible exact trivial | with_reducible exact rfl | (with_reducible apply And.intro) | exact in64 (by omega) (by omega) | omega)); done)) | dsimp only [go_sem, Nat.reduceAdd, Nat.reduceSub, Option.map, bne, BEq.beq, nds, fcs] | simp only [sS, Int.cast_ofNat_Int, Int.reduceEq, Int.reduceLT, Int.reduceLE, Int.reduceAdd, Int.reduceSub, Int.reduceToNat]))
    refine gb (fun h => ?_) (fun h => ?_)
    · simp only [h]
      (repeat (first | with_reducible refine And.intro trivial ?_ | with_reducible refine And.intro rfl ?_ | (with_reducible refine And.intro ?_ ?_; focus ((repeat' (first | with_reducible exact trivial | with_reducible exact rfl | (with_reducible apply And.intro) | exact in64 (by omega) (by omega) | omega)); done)) | dsimp only [go_sem, Nat.reduceAdd, Nat.reduceSub, Option.map, bne, BEq.beq, nds, fcs] | simp only [sS, Int.cast_ofNat_Int, Int.reduceEq, Int.reduceLT, Int.reduceLE, Int.reduceAdd, Int.reduceSub, Int.reduceToNat]))
      refine cpe [] (c51 t) rfl ?_
      (repeat (first | with_reducible refine And.intro trivial ?_ | with_reducible refine And.intro rfl ?_ | (with_reducible refine And.intro ?_ ?_; focus ((repeat' (first | with_reducible exact trivial | with_reducible exact rfl | (with_reducible apply And.intro) | exact in64 (by omega) (by omega) | omega)); done)) | dsimp only [go_sem, Nat.reduceAdd, Nat.reduceSub, Option.map, bne, BEq.beq, nds, fcs] | simp only [sS, Int.cast_ofNat_Int, Int.reduceEq, Int.reduceLT, Int.reduceLE, Int.reduceAdd, Int.reduceSub, Int.reduceToNat]))
      refine fin0 ?_; (repeat (first | with_reducible refine And.intro trivial ?_ | with_reducible refine And.intro rfl ?_ | (with_reducible refine And.intro ?_ ?_; focus ((repeat' (first | with_reducible exact trivial | with_reducible exact rfl | (with_reducible apply And.intro) | exact in64 (by omega) (by omega) | omega)); done)) | dsimp only [go_sem, Nat.reduceAdd, Nat.reduceSub, Option.map, bne, BEq.beq, nds, fcs] | simp only [sS, Int.cast_ofNat_Int, Int.reduceEq, Int.reduceLT, Int.reduceLE, Int.reduceAdd, Int.reduceSub, Int.reduceToNat]))
      simp [goodN, h]
    · simp only [h]
      (repeat (first | with_reducible refine And.intro trivial ?_ | with_reducible refine And.intro rfl ?_ | (with_reducible refine And.intro ?_ ?_; focus ((repeat' (first | with_reducible exact trivial | with_reducible exact rfl | (with_reducible apply And.intro) | exact in64 (by omega) (by omega) | omega)); done)) | dsimp only [go_sem, Nat.reduceAdd, Nat.reduceSub, Option.map, bne, BEq.beq, nds, fcs] | simp only [sS, Int.cast_ofNat_Int, Int.reduceEq, Int.reduceLT, Int.reduceLE, Int.reduceAdd, Int.reduceSub, Int.reduceToNat]))
      refine fin0 ?_; (repeat (first | with_reducible refine And.intro trivial ?_ | with_reducible refine And.intro rfl ?_ | (with_reducible refine And.intro ?_ ?_; focus ((repeat' (first | with_reducible exact trivial | with_reducible exact rfl | (with_reducible apply And.intro) | exact in64 (by omega) (by omega) | omega)); done)) | dsimp only [go_sem, Nat.reduceAdd, Nat.reduceSub, Option.map, bne, BEq.beq, nds, fcs] | simp only [sS, Int.cast_ofNat_Int, Int.reduceEq, Int.reduceLT, Int.reduceLE, Int.reduceAdd, Int.reduceSub, Int.reduceToNat]))
      simp [goodN, h]
  · dsimp only [ir29, ndC]
    (repeat (first | with_reducible refine And.intro trivial ?_ | with_reducible refine And.intro rfl ?_ | (with_reducible refine And.intro ?_ ?_; focus ((repeat' (first | with_reducible exact trivial | with_reducible exact rfl | (with_reducible apply And.intro) | exact in64 (by omega) (by omega) | omega)); done)) | dsimp only [go_sem, Nat.reduceAdd, Nat.reduceSub, Option.map, bne, BEq.beq, nds, fcs] | simp only [sS, Int.cast_ofNat_Int, Int.reduceEq, Int.reduceLT, Int.reduceLE, Int.reduceAdd, Int.reduceSub, Int.reduceToNat]))
    (repeat (simp only [h1, h2, h3, h4, h5, h6, h7, h8, h9]; (repeat (first | with_reducible refine And.intro trivial ?_ | with_reducible refine And.intro rfl ?_ | (with_reducible refine And.intro ?_ ?_; focus ((repeat' (first | with_reducible exact trivial | with_reducible exact rfl | (with_reducible apply And.intro) | exact in64 (by omega) (by omega) | omega)); done)) | dsimp only [go_sem, Nat.reduceAdd, Nat.reduceSub, Option.map, bne, BEq.beq, nds, fcs] | simp only [sS, Int.cast_ofNat_Int, Int.reduceEq, Int.reduceLT, Int.reduceLE, Int.reduceAdd, Int.reduceSub, Int.reduceToNat]))))
    refine fin0 ?_; (repeat (first | with_reducible refine And.intro trivial ?_ | with_reducible refine And.intro rfl ?_ | (with_reducible refine And.intro ?_ ?_; focus ((repeat' (first | with_reducible exact trivial | with_reducible exact rfl | (with_reducible apply And.intro) | exact in64 (by omega) (by omega) | omega)); done)) | dsimp only [go_sem, Nat.reduceAdd, Nat.reduceSub, Option.map, bne, BEq.beq, nds, fcs] | simp only [sS, Int.cast_ofNat_Int, Int.reduceEq, Int.reduceLT, Int.reduceLE, Int.reduceAdd, Int.reduceSub, Int.reduceToNat]))
    simp [goodN, h1, h2, h3, h4, h5, h6, h7, h8, h9]
theorem c56 (n : Nd) : PCall prog [] 56 [.agg (ndC n)] (· = .bool (goodN n)) := by
  refine PCall.enter mixed comp56 ?_
  obtain ⟨k, s, t⟩ := n
  have h1 : (k = 1 ∨ k = 6 ∨ k = 7 ∨ k = 8) ∨ (k = 2 ∨ k = 3 ∨ k = 4 ∨ k = 9) ∨ k = 5 ∨ (k ≠ 1 ∧ k ≠ 6 ∧ k ≠ 7 ∧ k ≠ 8 ∧ k ≠ 2 ∧ k ≠ 3 ∧ k ≠ 4 ∧ k ≠ 9 ∧ k ≠ 5) := by omega
  rcases h1 with (rfl | rfl | rfl | rfl) | (rfl | rfl | rfl | rfl) | rfl | ⟨h1, h2, h3, h4, h5, h6, h7, h8, h9⟩
  iterate 4
    · dsimp only [ir56, ndC]
      (repeat (first | with_reducible refine And.intro trivial ?_ | with_reducible refine And.intro rfl ?_ | (with_reducible refine And.intro ?_ ?_; focus ((repeat' (first | with_reducible exact trivial | with_reducible exact rfl | (with_reducible apply And.intro) | exact in64 (by omega) (by omega) | omega)); done)) | dsimp only [go_sem, Nat.reduceAdd, Nat.reduceSub, Option.map, bne, BEq.beq, nds, fcs] | simp only [sS, Int.cast_ofNat_Int, Int.reduceEq, Int.reduceLT, Int.reduceLE, Int.reduceAdd, Int.reduceSub, Int.reduceToNat]))
      refine gb (fun h => ?_) (fun h => ?_)
      · simp only [h]
        (repeat (first | with_reducible refine And.intro trivial ?_ | with_reducible refine And.intro rfl ?_ | (with_reducible refine And.intro ?_ ?_; focus ((repeat' (first | with_reducible exact trivial | with_reducible exact rfl | (with_reducible apply And.intro) | exact in64 (by omega) (by omega) | omega)); done)) | dsimp only [go_sem, Nat.reduceAdd, Nat.reduceSub, Option.map, bne, BEq.beq, nds, fcs] | simp only [sS, Int.cast_ofNat_Int, Int.reduceEq, Int.reduceLT, Int.reduceLE, Int.reduceAdd, Int.reduceSub, Int.reduceToNat]))
        refine fin0 ?_; (repeat (first | with_reducible refine And.intro trivial ?_ | with_reducible refine And.intro rfl ?_ | (with_reducible refine And.intro ?_ ?_; focus ((repeat' (first | with_reducible exact trivial | with_reducible exact rfl | (with_reducible apply And.intro) | exact in64 (by omega) (by omega) | omega)); done)) | dsimp only [go_sem, Nat.reduceAdd, Nat.reduceSub, Option.map, bne, BEq.beq, nds, fcs] | simp only [sS, Int.cast_ofNat_Int, Int.reduceEq, Int.reduceLT, Int.reduceLE, Int.reduceAdd, Int.reduceSub, Int.reduceToNat]))
        simp at h; simp [goodN, h]
      · simp only [h]
        (repeat (first | with_reducible refine And.intro trivial ?_ | with_reducible refine And.intro rfl ?_ | (with_reducible refine And.intro ?_ ?_; focus ((repeat' (first | with_reducible exact trivial | with_reducible exact rfl | (with_reducible apply And.intro) | exact in64 (by omega) (by omega) | omega)); done)) | dsimp only [go_sem, Nat.reduceAdd, Nat.reduceSub, Option.map, bne, BEq.beq, nds, fcs] | simp only [sS, Int.cast_ofNat_Int, Int.reduceEq, Int.reduceLT, Int.reduceLE, Int.reduceAdd, Int.reduceSub, Int.reduceToNat]))
        refine fin0 ?_; (repeat (first | with_reducible refine And.intro trivial ?_ | with_reducible refine And.intro rfl ?_ | (with_reducible refine And.intro ?_ ?_; focus ((repeat' (first | with_reducible exact trivial | with_reducible exact rfl | (with_reducible apply And.intro) | exact in64 (by omega) (by omega) | omega)); done)) | dsimp only [go_sem, Nat.reduceAdd, Nat.reduceSub, Option.map, bne, BEq.beq, nds, fcs] | simp only [sS, Int.cast_ofNat_Int, Int.reduceEq, Int.reduceLT, Int.reduceLE, Int.reduceAdd, Int.reduceSub, Int.reduceToNat]))
        simp at h; simp [goodN, h]
  iterate 4
    · dsimp only [ir56, ndC]
      (repeat (first | with_reducible refine And.intro trivial ?_ | with_reducible refine And.intro rfl ?_ | (with_reducible refine And.intro ?_ ?_; focus ((repeat' (first | with_reducible exact trivial | with_reducible exact rfl | (with_reducible apply And.intro) | exact in64 (by omega) (by omega) | omega)); done)) | dsimp only [go_sem, Nat.reduceAdd, Nat.reduceSub, Option.map, bne, BEq.beq, nds, fcs] | simp only [sS, Int.cast_ofNat_Int, Int.reduceEq, Int.reduceLT, Int.reduceLE, Int.reduceAdd, Int.reduceSub, Int.reduceToNat]))
      refine cpe [] (c72 s) rfl ?_
      (repeat (first | with_reducible refine And.intro trivial ?_ | with_reducible refine And.intro rfl ?_ | (with_reducible refine And.intro ?_ ?_; focus ((repeat' (first | with_reducible exact trivial | with_reducible exact rfl | (with_reducible apply And.intro) | exact in64 (by omega) (by omega) | omega)); done)) | dsimp only [go_sem, Nat.reduceAdd, Nat.reduceSub, Option.map, bne, BEq.beq, nds, fcs] | simp only [sS, Int.cast_ofNat_Int, Int.reduceEq, Int.reduceLT, Int.reduceLE, Int.reduceAdd, Int.reduceSub, Int.reduceToNat]))
      refine gb (fun h => ?_) (fun h => ?_)
      · simp only [h]
        (repeat (first | with_reducible refine And.intro trivial ?_ | with_reducible refine And.intro rfl ?_ | (with_reducible refine And.intro ?_ ?_; focus ((repeat' (first | with_reducible exact trivial | with_reducible exact rfl | (with_reducible apply And.intro) | exact in64 (by omega) (by omega) | omega)); done)) | dsimp only [go_sem, Nat.reduceAdd, Nat.reduceSub, Option.map, bne, BEq.beq, nds, fcs] | simp only [sS, Int.cast_ofNat_Int, Int.reduceEq, Int.reduceLT, Int.reduceLE, Int.reduceAdd, Int.reduceSub, Int.reduceToNat]))
        refine fin0 ?_; (repeat (first | with_reducible refine And.intro trivial ?_ | with_reducible refine And.intro rfl ?_ | (with_reducible refine And.intro ?_ ?_; focus ((repeat' (first | with_reducible exact trivial | with_reducible exact rfl | (with_reducible apply And.intro) | exact in64 (by omega) (by omega) | omega)); done)) | dsimp only [go_sem, Nat.reduceAdd, Nat.reduceSub, Option.map, bne, BEq.beq, nds, fcs] | simp only [sS, Int.cast_ofNat_Int, Int.reduceEq, Int.reduceLT, Int.reduceLE, Int.reduceAdd, Int.reduceSub, Int.reduceToNat]))
        simp [goodN, h]
      · simp only [h]
        (repeat (first | with_reducible refine And.intro trivial ?_ | with_reducible refine And.intro rfl ?_ | (with_reducible refine And.intro ?_ ?_; focus ((repeat' (first | with_reducible exact trivial | with_reducible exact rfl | (with_reducible apply And.intro) | exact in64 (by omega) (by omega) | omega)); done)) | dsimp only [go_sem, Nat.reduceAdd, Nat.reduceSub, Option.map, bne, BEq.beq, nds, fcs] | simp only [sS, Int.cast_ofNat_Int, Int.reduceEq, Int.reduceLT, Int.reduceLE, Int.reduceAdd, Int.reduceSub, Int.reduceToNat]))
        refine fin0 ?_; (repeat (first | with_reducible refine And.intro trivial ?_ | with_reducible refine And.intro rfl ?_ | (with_reducible refine And.intro ?_ ?_; focus ((repeat' (first | with_reducible exact trivial | with_reducible exact rfl | (with_reducible apply And.intro) | exact in64 (by omega) (by omega) | omega)); done)) | dsimp only [go_sem, Nat.reduceAdd, Nat.reduceSub, Option.map, bne, BEq.beq, nds, fcs] | simp only [sS, Int.cast_ofNat_Int, Int.reduceEq, Int.reduceLT, Int.reduceLE, Int.reduceAdd, Int.reduceSub, Int.reduceToNat]))
        simp [goodN, h]
  · dsimp only [ir56, ndC]
    (repeat (first | with_reducible refine And.intro trivial ?_ | with_reducible refine And.intro rfl ?_ | (with_reducible refine And.intro ?_ ?_; focus ((repeat' (first | with_reducible exact trivial | with_reducible exact rfl | (with_reducible apply And.intro) | exact in64 (by omega) (by omega) | omega)); done)) | dsimp only [go_sem, Nat.reduceAdd, Nat.reduceSub, Option.map, bne, BEq.beq, nds, fcs] | simp only [sS, Int.cast_ofNat_Int, Int.reduceEq, Int.reduceLT, Int.reduceLE, Int.reduceAdd, Int.reduceSub, Int.reduceToNat]))
    refine cpe [] (c72 s) rfl ?_
    (repeat (first | with_reducible refine And.intro trivial ?_ | with_reducible refine And.intro rfl ?_ | (with_reducible refine And.intro ?_ ?_; focus ((repeat' (first | with_reducible exact trivial | with_reducible exact rfl | (with_reducible apply And.intro) | exact in64 (by omega) (by omega) | omega)); done)) | dsimp only [go_sem, Nat.reduceAdd, Nat.reduceSub, Option.map, bne, BEq.beq, nds, fcs] | simp only [sS, Int.cast_ofNat_Int, Int.reduceEq, Int.reduceLT, Int.reduceLE, Int.reduceAdd, Int.reduceSub, Int.reduceToNat]))
    refine gb (fun h => ?_) (fun h => ?_)
    · simp only [h]
      (repeat (first | with_reducible refine And.intro trivial ?_ | with_reducible refine And.intro rfl ?_ | (with_reducible refine And.intro ?_ ?_; focus ((repeat' (first | with_reducible exact trivial | with_reducible exact rfl | (with_reducible apply And.intro) | exact in64 (by omega) (by omega) | omega)); done)) | dsimp only [go_sem, Nat.reduceAdd, Nat.reduceSub, Option.map, bne, BEq.beq, nds, fcs] | simp only [sS, Int.cast_ofNat_Int, Int.reduceEq, Int.reduceLT, Int.reduceLE, Int.reduceAdd, Int.reduceSub, Int.reduceToNat]))
      refine cpe [] (c72 t) rfl ?_
      (repeat (first | with_reducible refine And.intro trivial ?_ | with_reducible refine And.intro rfl ?_ | (with_reducible refine And.intro ?_ ?_; focus ((repeat' (first | with_reducible exact trivial | with_reducible exact rfl | (with_reducible apply And.intro) | exact in64 (by omega) (by omega) | omega)); done)) | dsimp only [go_sem, Nat.reduceAdd, Nat.reduceSub, Option.map, bne, BEq.beq, nds, fcs] | simp only [sS, Int.cast_ofNat_Int, Int.reduceEq, Int.reduceLT, Int.reduceLE, Int.reduceAdd, Int.reduceSub, Int.reduceToNat]))
      refine fin0 ?_; (repeat (first | with_reducible refine And.intro trivial ?_ | with_reducible refine And.intro rfl ?_ | (with_reducible refine And.intro ?_ ?_; focus ((repeat' (first | with_reducible exact trivial | with_reducible exact rfl | (with_reducible apply And.intro) | exact in64 (by omega) (by omega) | omega)); done)) | dsimp only [go_sem, Nat.reduceAdd, Nat.reduceSub, Option.map, bne, BEq.beq, nds, fcs] | simp only [sS, Int.cast_ofNat_Int, Int.reduceEq, Int.reduceLT, Int.reduceLE, Int.reduceAdd, Int.reduceSub, Int.reduceToNat]))
      simp [goodN, h]
    · simp only [h]
      (repeat (first | with_reducible refine And.intro trivial ?_ | with_reducible refine And.intro rfl ?_ | (with_reducible refine And.intro ?_ ?_; focus ((repeat' (first | with_reducible exact trivial | with_reducible exact rfl | (with_reducible apply And.intro) | exact in64 (by omega) (by omega) | omega)); done)) | dsimp only [go_sem, Nat.reduceAdd, Nat.reduceSub, Option.map, bne, BEq.beq, nds, fcs] | simp only [sS, Int.cast_ofNat_Int, Int.reduceEq, Int.reduceLT, Int.reduceLE, Int.reduceAdd, Int.reduceSub, Int.reduceToNat]))
      refine fin0 ?_; (repeat (first | with_reducible refine And.intro trivial ?_ | with_reducible refine And.intro rfl ?_ | (with_reducible refine And.intro ?_ ?_; focus ((repeat' (first | with_reducible exact trivial | with_reducible exact rfl | (with_reducible apply And.intro) | exact in64 (by omega) (by omega) | omega)); done)) | dsimp only [go_sem, Nat.reduceAdd, Nat.reduceSub, Option.map, bne, BEq.beq, nds, fcs] | simp only [sS, Int.cast_ofNat_Int, Int.reduceEq, Int.reduceLT, Int.reduceLE, Int.reduceAdd, Int.reduceSub, Int.reduceToNat]))
      simp [goodN, h]
  · dsimp only [ir56, ndC]
    (repeat (first | with_reducible refine And.intro trivial ?_ | with_reducible refine And.intro rfl ?_ | (with_reducible refine And.intro ?_ ?_; focus ((repeat' (first | with_reducible exact trivial | with_reducible exact rfl | (with_reducible apply And.intro) | exact in64 (by omega) (by omega) | omega)); done)) | dsimp only [go_sem, Nat.reduceAdd, Nat.reduceSub, Option.map, bne, BEq.beq, nds, fcs] | simp only [sS, Int.cast_ofNat_Int, Int.reduceEq, Int.reduceLT, Int.reduceLE, Int.reduceAdd, Int.reduceSub, Int.reduceToNat]))
    (repeat (simp only [h1, h2, h3, h4, h5, h6, h7, h8, h9]; (repeat (first | with_reducible refine And.intro trivial ?_ | with_reducible refine And.intro rfl ?_ | (with_reducible refine And.intro ?_ ?_; focus ((repeat' (first | with_reducible exact trivial | with_reducible exact rfl | (with_reducible apply And.intro) | exact in64 (by omega) (by omega) | omega)); done)) | dsimp only [go_sem, Nat.reduceAdd, Nat.reduceSub, Option.map, bne, BEq.beq, nds, fcs] | simp only [sS, Int.cast_ofNat_Int, Int.reduceEq, Int.reduceLT, Int.reduceLE, Int.reduceAdd, Int.reduceSub, Int.reduceToNat]))))
    refine fin0 ?_; (repeat (first | with_reducible refine And.intro trivial ?_ | with_reducible refine And.intro rfl ?_ | (with_reducible refine And.intro ?_ ?_; focus ((repeat' (first | with_reducible exact trivial | with_reducible exact rfl | (with_reducible apply And.intro) | exact in64 (by omega) (by omega) | omega)); done)) | dsimp only [go_sem, Nat.reduceAdd, Nat.reduceSub, Option.map, bne, BEq.beq, nds, fcs] | simp only [sS, Int.cast_ofNat_Int, Int.reduceEq, Int.reduceLT, Int.reduceLE, Int.reduceAdd, Int.reduceSub, Int.reduceToNat]))
    simp [goodN, h1, h2, h3, h4, h5, h6, h7, h8, h9]

def ari (k : Int) : Nat := if k = 3 ∨ k = 4 ∨ k = 5 ∨ k = 9 then 1 else if k = 6 ∨ k = 7 ∨ k = 8 then 2 else 0
theorem c73 (n : Nd) : PCall prog [] 73 [.agg (ndC n)] (· = .int .i64 (ari n.k)) := by
  refine PCall.enter mixed comp73 ?_
  obtain ⟨k, s, t⟩ := n
  have h1 : (k = 3 ∨ k = 4 ∨ k = 5 ∨ k = 9) ∨ (k = 6 ∨ k = 7 ∨ k = 8) ∨ (k ≠ 3 ∧ k ≠ 4 ∧ k ≠ 5 ∧ k ≠ 9 ∧ k ≠ 6 ∧ k ≠ 7 ∧ k ≠ 8) := by omega
  rcases h1 with (rfl | rfl | rfl | rfl) | (rfl | rfl | rfl) | ⟨h1, h2, h3, h4, h5, h6, h7⟩
  iterate 7
    · dsimp only [ir73, ndC]
      (repeat (first | with_reducible refine And.intro trivial ?_ | with_reducible refine And.intro rfl ?_ | (with_reducible refine And.intro ?_ ?_; focus ((repeat' (first | with_reducible exact trivial | with_reducible exact rfl | (with_reducible apply And.intro) | exact in64 (by omega) (by omega) | omega)); done)) | dsimp only [go_sem, Nat.reduceAdd, Nat.reduceSub, Option.map, bne, BEq.beq, nds, fcs] | simp only [sS, Int.cast_ofNat_Int, Int.reduceEq, Int.reduceLT, Int.reduceLE, Int.reduceAdd, Int.reduceSub, Int.reduceToNat]))
      refine fin0 ?_; (repeat (first | with_reducible refine And.intro trivial ?_ | with_reducible refine And.intro rfl ?_ | (with_reducible refine And.intro ?_ ?_; focus ((repeat' (first | with_reducible exact trivial | with_reducible exact rfl | (with_reducible apply And.intro) | exact in64 (by omega) (by omega) | omega)); done)) | dsimp only [go_sem, Nat.reduceAdd, Nat.reduceSub, Option.map, bne, BEq.beq, nds, fcs] | simp only [sS, Int.cast_ofNat_Int, Int.reduceEq, Int.reduceLT, Int.reduceLE, Int.reduceAdd, Int.reduceSub, Int.reduceToNat]))
      try simp [ari]
  · dsimp only [ir73, ndC]
    (repeat (first | with_reducible refine And.intro trivial ?_ | with_reducible refine And.intro rfl ?_ | (with_reducible refine And.intro ?_ ?_; focus ((repeat' (first | with_reducible exact trivial | with_reducible exact rfl | (with_reducible apply And.intro) | exact in64 (by omega) (by omega) | omega)); done)) | dsimp only [go_sem, Nat.reduceAdd, Nat.reduceSub, Option.map, bne, BEq.beq, nds, fcs] | simp only [sS, Int.cast_ofNat_Int, Int.reduceEq, Int.reduceLT, Int.reduceLE, Int.reduceAdd, Int.reduceSub, Int.reduceToNat]))
    (repeat (simp only [h1, h2, h3, h4, h5, h6, h7]; (repeat (first | with_reducible refine And.intro trivial ?_ | with_reducible refine And.intro rfl ?_ | (with_reducible refine And.intro ?_ ?_; focus ((repeat' (first | with_reducible exact trivial | with_reducible exact rfl | (with_reducible apply And.intro) | exact in64 (by omega) (by omega) | omega)); done)) | dsimp only [go_sem, Nat.reduceAdd, Nat.reduceSub, Option.map, bne, BEq.beq, nds, fcs] | simp only [sS, Int.cast_ofNat_Int, Int.reduceEq, Int.reduceLT, Int.reduceLE, Int.reduceAdd, Int.reduceSub, Int.reduceToNat]))))
    refine fin0 ?_; (repeat (first | with_reducible refine And.intro trivial ?_ | with_reducible refine And.intro rfl ?_ | (with_reducible refine And.intro ?_ ?_; focus ((repeat' (first | with_reducible exact trivial | with_reducible exact rfl | (with_reducible apply And.intro) | exact in64 (by omega) (by omega) | omega)); done)) | dsimp only [go_sem, Nat.reduceAdd, Nat.reduceSub, Option.map, bne, BEq.beq, nds, fcs] | simp only [sS, Int.cast_ofNat_Int, Int.reduceEq, Int.reduceLT, Int.reduceLE, Int.reduceAdd, Int.reduceSub, Int.reduceToNat]))
    simp [ari, h1, h2, h3, h4, h5, h6, h7]
theorem c55 (n : Nd) : PCall prog [] 55 [.agg (ndC n)] (· = .bool (!goodN n)) := by
  refine PCall.enter mixed comp55 ?_
  dsimp only [ir55, ndC]
  (repeat (first | with_reducible refine And.intro trivial ?_ | with_reducible refine And.intro rfl ?_ | (with_reducible refine And.intro ?_ ?_; focus ((repeat' (first | with_reducible exact trivial | with_reducible exact rfl | (with_reducible apply And.intro) | exact in64 (by omega) (by omega) | omega)); done)) | dsimp only [go_sem, Nat.reduceAdd, Nat.reduceSub, Option.map, bne, BEq.beq, nds, fcs] | simp only [sS, Int.cast_ofNat_Int, Int.reduceEq, Int.reduceLT, Int.reduceLE, Int.reduceAdd, Int.reduceSub, Int.reduceToNat]))
  refine cpe [] (c56 n) rfl ?_
  (repeat (first | with_reducible refine And.intro trivial ?_ | with_reducible refine And.intro rfl ?_ | (with_reducible refine And.intro ?_ ?_; focus ((repeat' (first | with_reducible exact trivial | with_reducible exact rfl | (with_reducible apply And.intro) | exact in64 (by omega) (by omega) | omega)); done)) | dsimp only [go_sem, Nat.reduceAdd, Nat.reduceSub, Option.map, bne, BEq.beq, nds, fcs] | simp only [sS, Int.cast_ofNat_Int, Int.reduceEq, Int.reduceLT, Int.reduceLE, Int.reduceAdd, Int.reduceSub, Int.reduceToNat]))
  refine fin0 ?_; (repeat (first | with_reducible refine And.intro trivial ?_ | with_reducible refine And.intro rfl ?_ | (with_reducible refine And.intro ?_ ?_; focus ((repeat' (first | with_reducible exact trivial | with_reducible exact rfl | (with_reducible apply And.intro) | exact in64 (by omega) (by omega) | omega)); done)) | dsimp only [go_sem, Nat.reduceAdd, Nat.reduceSub, Option.map, bne, BEq.beq, nds, fcs] | simp only [sS, Int.cast_ofNat_Int, Int.reduceEq, Int.reduceLT, Int.reduceLE, Int.reduceAdd, Int.reduceSub, Int.reduceToNat]))
  try rfl
end Go.Av

namespace Go.Av
set_option linter.unusedVariables false
set_option linter.unusedSimpArgs false

inductive T where
  | lf (n : Nd)
  | un (n : Nd) (a : T)
  | bn (n : Nd) (a b : T)
def T.post : T → List Nd
  | .lf n => [n]
  | .un n a => a.post ++ [n]
  | .bn n a b => a.post ++ b.post ++ [n]
def T.root : T → Nd
  | .lf n => n
  | .un n _ => n
  | .bn n _ _ => n
def T.kids : T → List T
  | .lf _ => []
  | .un _ a => [a]
  | .bn _ a b => [a, b]
def T.ht : T → Nat
  | .lf _ => 1
  | .un _ a => a.ht + 1
  | .bn _ a b => max a.ht b.ht + 1
/-- Good nodes, each with as many operands as it has. -/
def T.ok : T → Prop
  | .lf n => goodN n = true ∧ (n.k = 1 ∨ n.k = 2)
  | .un n a => goodN n = true ∧ (n.k = 3 ∨ n.k = 4 ∨ n.k = 5 ∨ n.k = 9) ∧ a.ok
  | .bn n a b => goodN n = true ∧ (n.k = 6 ∨ n.k = 7 ∨ n.k = 8) ∧ a.ok ∧ b.ok
theorem T.post_ne (t : T) : t.post ≠ [] := by cases t <;> simp [T.post]
theorem T.post_pos (t : T) : 0 < t.post.length := List.length_pos_iff.2 t.post_ne
theorem T.post_root : ∀ t : T, ∃ l, t.post = l ++ [t.root]
  | .lf n => ⟨[], rfl⟩
  | .un n a => ⟨a.post, rfl⟩
  | .bn n a b => ⟨a.post ++ b.post, rfl⟩
theorem goodN_k {n : Nd} (h : goodN n = true) : 1 ≤ n.k ∧ n.k ≤ 9 := by
  unfold goodN at h
  split at h
  · omega
  · split at h
    · omega
    · split at h
      · omega
      · cases h
theorem ar_ari {k : Int} (h1 : 1 ≤ k) (h2 : k ≤ 9) : ar k = ari k := by unfold ar ari; (repeat' split) <;> omega

/-- The first of the nodes that make 'need' trees, read from the end. -/
def fromGo (ns : List Nd) : Nat → Nat → Int
  | i, 0 => i
  | 0, _ + 1 => -1
  | i + 1, need + 1 => fromGo ns i (need + ar (ns.getD i ⟨0, [], []⟩).k)

theorem getD_at' {α : Type} (a : List α) (x d : α) (b : List α) : (a ++ x :: b).getD a.length d = x := by
  rw [List.getD_eq_getElem?_getD, List.getElem?_append_right (Nat.le_refl _)]; simp
theorem from_post : ∀ (t : T), t.ok → ∀ (pre suf : List Nd) (m : Nat), fromGo (pre ++ t.post ++ suf) (pre.length + t.post.length) (m + 1) = fromGo (pre ++ t.post ++ suf) pre.length m
  | .lf n, h, pre, suf, m => by
    have hk : ar n.k = 0 := by unfold ar; rw [if_pos (by have := h.2; omega)]
    show fromGo (pre ++ [n] ++ suf) (pre.length + 1) (m + 1) = _
    have : (pre ++ [n] ++ suf).getD pre.length ⟨0, [], []⟩ = n := by rw [List.append_assoc]; exact getD_at' pre n _ suf
    rw [fromGo, this, hk]; rfl
  | .un n a, h, pre, suf, m => by
    have hk : ar n.k = 1 := by unfold ar; rw [if_neg (by have := h.2.1; omega), if_neg (by have := h.2.1; omega)]
    have e : pre ++ (a.post ++ [n]) ++ suf = pre ++ a.post ++ (n :: suf) := by simp
    show fromGo (pre ++ (a.post ++ [n]) ++ suf) (pre.length + (a.post ++ [n]).length) (m + 1) = fromGo (pre ++ (a.post ++ [n]) ++ suf) pre.length m
    rw [e, List.length_append, List.length_singleton, ← Nat.add_assoc, fromGo]
    have : (pre ++ a.post ++ (n :: suf)).getD (pre.length + a.post.length) ⟨0, [], []⟩ = n := by
      rw [← List.length_append]; exact getD_at' (pre ++ a.post) n _ suf
    rw [this, hk]
    exact from_post a h.2.2 pre (n :: suf) m
  | .bn n a b, h, pre, suf, m => by
    have hk : ar n.k = 2 := by unfold ar; rw [if_neg (by have := h.2.1; omega), if_pos (by have := h.2.1; omega)]
    have e : pre ++ (a.post ++ b.post ++ [n]) ++ suf = (pre ++ a.post) ++ b.post ++ (n :: suf) := by simp
    show fromGo (pre ++ (a.post ++ b.post ++ [n]) ++ suf) (pre.length + (a.post ++ b.post ++ [n]).length) (m + 1) = fromGo (pre ++ (a.post ++ b.post ++ [n]) ++ suf) pre.length m
    rw [e, show pre.length + (a.post ++ b.post ++ [n]).length = (pre ++ a.post).length + b.post.length + 1 from by simp; omega, fromGo]
    have : ((pre ++ a.post) ++ b.post ++ (n :: suf)).getD ((pre ++ a.post).length + b.post.length) ⟨0, [], []⟩ = n := by
      rw [← List.length_append]; exact getD_at' (pre ++ a.post ++ b.post) n _ suf
    rw [this, hk, show m + 2 = (m + 1) + 1 from rfl, from_post b h.2.2.2 (pre ++ a.post) (n :: suf) (m + 1)]
    have e2 : (pre ++ a.post) ++ b.post ++ (n :: suf) = pre ++ a.post ++ (b.post ++ (n :: suf)) := by simp
    rw [e2, List.length_append]
    exact from_post a h.2.2.1 pre _ m

/-- Trees read one after another. -/
def stk : List T → List Nd → Option (List T)
  | st, [] => some st
  | st, n :: ns => match ari n.k, st with
    | 0, st => stk (.lf n :: st) ns
    | 1, a :: st => stk (.un n a :: st) ns
    | 2, b :: a :: st => stk (.bn n a b :: st) ns
    | _, _ => none
def posts (ts : List T) : List Nd := ts.reverse.flatMap T.post
theorem posts_cons (t : T) (ts : List T) : posts (t :: ts) = posts ts ++ t.post := by simp [posts]
theorem stk_append (a b : List Nd) : ∀ st, stk st (a ++ b) = (stk st a).bind fun st' => stk st' b := by
  induction a with
  | nil => intro st; simp [stk]
  | cons n a ih =>
    intro st
    simp only [List.cons_append, stk]
    split <;> first | exact ih _ | rfl
theorem stk_post : ∀ (t : T), t.ok → ∀ st, stk st t.post = some (t :: st)
  | .lf n, h, st => by
    have hk : ari n.k = 0 := by have := h.2; unfold ari; rw [if_neg (by omega), if_neg (by omega)]
    simp [T.post, stk, hk]
  | .un n a, h, st => by
    have hk : ari n.k = 1 := by have := h.2.1; unfold ari; rw [if_pos (by omega)]
    rw [T.post, stk_append, stk_post a h.2.2]
    simp [stk, hk]
  | .bn n a b, h, st => by
    have hk : ari n.k = 2 := by have := h.2.1; unfold ari; rw [if_neg (by omega), if_pos (by omega)]
    rw [T.post, stk_append, stk_append, stk_post a h.2.2.1]
    simp only [Option.bind_some]
    rw [stk_post b h.2.2.2]
    simp [stk, hk]
theorem stk_ok : ∀ (ns : List Nd) (sk : List T), (∀ n ∈ ns, goodN n = true) → (∀ t ∈ sk, t.ok) → ∀ sk', stk sk ns = some sk' → (∀ t ∈ sk', t.ok) ∧ posts sk' = posts sk ++ ns
  | [], sk, _, h, sk', he => by
    simp only [stk, Option.some.injEq] at he; subst he
    exact ⟨h, by simp⟩
  | n :: ns, sk, hg, h, sk', he => by
    have hn := hg n (by simp)
    have hk := goodN_k hn
    simp only [stk] at he
    split at he
    · rename_i sk _ _ h0
      have := stk_ok ns (.lf n :: sk) (fun m hm => hg m (by simp [hm])) (by
        intro t ht
        rcases List.mem_cons.1 ht with rfl | ht
        · refine ⟨hn, ?_⟩; unfold ari at h0; split at h0
          · cases h0
          · split at h0
            · cases h0
            · omega
        · exact h t ht) sk' he
      refine ⟨this.1, ?_⟩
      rw [this.2, posts_cons]; simp [T.post]
    · rename_i a st1 h0
      have := stk_ok ns (.un n a :: st1) (fun m hm => hg m (by simp [hm])) (by
        intro t ht
        rcases List.mem_cons.1 ht with rfl | ht
        · refine ⟨hn, ?_, h a (by simp)⟩; unfold ari at h0; split at h0
          · assumption
          · split at h0 <;> cases h0
        · exact h t (by simp [ht])) sk' he
      refine ⟨this.1, ?_⟩
      rw [this.2, posts_cons, posts_cons]; simp [T.post]
    · rename_i b a st1 h0
      have := stk_ok ns (.bn n a b :: st1) (fun m hm => hg m (by simp [hm])) (by
        intro t ht
        rcases List.mem_cons.1 ht with rfl | ht
        · refine ⟨hn, ?_, h a (by simp), h b (by simp)⟩; unfold ari at h0; split at h0
          · cases h0
          · split at h0
            · assumption
            · cases h0
        · exact h t (by simp [ht])) sk' he
      refine ⟨this.1, ?_⟩
      rw [this.2, posts_cons, posts_cons, posts_cons]; simp [T.post]
    · cases he
def parse (ns : List Nd) : Option T :=
  match stk [] ns with
  | some [t] => some t
  | _ => none
theorem parse_some {ns : List Nd} {t : T} (hg : ∀ n ∈ ns, goodN n = true) (h : parse ns = some t) : t.ok ∧ t.post = ns := by
  unfold parse at h
  split at h
  · rename_i t' ht
    obtain rfl := Option.some.inj h
    obtain ⟨h1, h2⟩ := stk_ok ns [] hg (by simp) _ ht
    exact ⟨h1 _ (by simp), by simpa [posts] using h2⟩
  · cases h
theorem parse_post {t : T} (h : t.ok) : parse t.post = some t := by
  unfold parse; rw [stk_post t h]
theorem T.post_good : ∀ (t : T), t.ok → ∀ n ∈ t.post, goodN n = true
  | .lf n, h, m, hm => by simp [T.post] at hm; subst hm; exact h.1
  | .un n a, h, m, hm => by
    simp only [T.post, List.mem_append, List.mem_singleton] at hm
    rcases hm with hm | rfl
    · exact a.post_good h.2.2 m hm
    · exact h.1
  | .bn n a b, h, m, hm => by
    simp only [T.post, List.mem_append, List.mem_singleton] at hm
    rcases hm with (hm | hm) | rfl
    · exact a.post_good h.2.2.1 m hm
    · exact b.post_good h.2.2.2 m hm
    · exact h.1

/-- Read from the end: whole trees. -/
theorem from_trees (ns : List Nd) (hg : ∀ n ∈ ns, goodN n = true) : ∀ (i need : Nat), i ≤ ns.length → ∀ j : Int, fromGo ns i need = j → 0 ≤ j → ∃ ts : List T, ts.length = need ∧ (∀ t ∈ ts, t.ok) ∧ ns.take i = ns.take j.toNat ++ ts.flatMap T.post
  | i, 0, hi, j, h, hj => by
    have h' : fromGo ns i 0 = (i : Int) := by cases i <;> rfl
    rw [h'] at h; subst h
    exact ⟨[], rfl, by simp, by simp⟩
  | 0, need + 1, hi, j, h, hj => by simp only [fromGo] at h; omega
  | i + 1, need + 1, hi, j, h, hj => by
    simp only [fromGo] at h
    have hget : ns.getD i ⟨0, [], []⟩ = ns[i] := by rw [List.getD_eq_getElem?_getD, List.getElem?_eq_getElem (by omega)]; rfl
    rw [hget] at h
    obtain ⟨ts, h1, h2, h3⟩ := from_trees ns hg i _ (by omega) j h hj
    have hn := hg ns[i] (List.getElem_mem (by omega))
    have hk := goodN_k hn
    have hts : ts = ts.take need ++ ts.drop need := (List.take_append_drop _ _).symm
    have hl : (ts.drop need).length = ar ns[i].k := by simp; omega
    have ht : ns.take (i + 1) = ns.take i ++ [ns[i]] := List.take_succ_eq_append_getElem (by omega)
    have hok : ∀ t ∈ ts.drop need, t.ok := fun t ht => h2 t (List.mem_of_mem_drop ht)
    have hok' : ∀ t ∈ ts.take need, t.ok := fun t ht => h2 t (List.mem_of_mem_take ht)
    have key : ∀ t : T, t.ok → t.post = (ts.drop need).flatMap T.post ++ [ns[i]] → ∃ ts' : List T, ts'.length = need + 1 ∧ (∀ t ∈ ts', t.ok) ∧ ns.take (i + 1) = ns.take j.toNat ++ ts'.flatMap T.post := by
      intro t htok htp
      refine ⟨ts.take need ++ [t], by simp; omega, ?_, ?_⟩
      · intro u hu
        rcases List.mem_append.1 hu with hu | hu
        · exact hok' u hu
        · simp at hu; subst hu; exact htok
      · rw [ht, h3]
        conv => lhs; rw [hts]
        rw [List.flatMap_append, List.flatMap_append]
        simp [htp]
    match hd : ts.drop need, hl with
    | [], hl =>
      refine key (.lf ns[i]) ⟨hn, ?_⟩ (by rw [hd]; rfl)
      simp only [List.length_nil] at hl
      unfold ar at hl; split at hl
      · omega
      · split at hl <;> omega
    | [a], hl =>
      refine key (.un ns[i] a) ⟨hn, ?_, hok a (by rw [hd]; simp)⟩ (by rw [hd]; simp [T.post])
      simp only [List.length_singleton] at hl
      unfold ar at hl; split at hl
      · omega
      · split at hl <;> omega
    | [a, b], hl =>
      refine key (.bn ns[i] a b) ⟨hn, ?_, hok a (by rw [hd]; simp), hok b (by rw [hd]; simp)⟩ (by rw [hd]; simp [T.post])
      simp only [List.length_cons, List.length_nil] at hl
      unfold ar at hl; split at hl
      · omega
      · split at hl <;> omega
    | a :: b :: c :: r, hl =>
      simp only [List.length_cons] at hl
      unfold ar at hl; (repeat' split at hl) <;> omega
theorem from_zero {ns : List Nd} (hg : ∀ n ∈ ns, goodN n = true) : fromGo ns ns.length 1 = 0 ↔ (parse ns).isSome := by
  constructor
  · intro h
    obtain ⟨ts, h1, h2, h3⟩ := from_trees ns hg ns.length 1 (Nat.le_refl _) 0 h (by omega)
    match ts, h1 with
    | [t], _ =>
      have : ns = t.post := by simpa using h3
      rw [this, parse_post (h2 t (by simp))]; rfl
  · intro h
    obtain ⟨t, ht⟩ := Option.isSome_iff_exists.1 h
    obtain ⟨h1, h2⟩ := parse_some hg ht
    have := from_post t h1 [] [] 0
    simp only [List.nil_append, List.append_nil, List.length_nil, Nat.zero_add] at this
    rw [h2] at this
    rw [this]; cases ns <;> rfl
end Go.Av
