/- Walks of this program by an abstract machine: the text SA0. No conditions. -/
import Derived.Test.YtnbiilpcidglpaaAwD
import Derived.Test.YtnbiilpcidglpaaProg
import Derived.KernelRfl
set_option linter.unusedSimpArgs false
set_option linter.unusedVariables false

namespace Go.Aw
open Go.Proofs
@[reducible] def n_law52_ShadowCompares : FuncId := 3
@[reducible] def n_law52_examples : FuncId := 15
@[reducible] def n_law52_count : FuncId := 16
@[reducible] def n_law52_agree : FuncId := 17
@[reducible] def n_law52_begin : FuncId := 18
@[reducible] def n_law52_stream1 : FuncId := 19
@[reducible] def n_shadow_Settled : FuncId := 20
@[reducible] def n_shadow_Agree : FuncId := 76
@[reducible] def n_EqualFunc___Stream___Stream_Stream_Stream_ : FuncId := 77
@[reducible] def n_shadow_Settled_1 : FuncId := 78
@[reducible] def n_shadow_Agree_1 : FuncId := 141
@[reducible] def n_shadow_first_Stream_ : FuncId := 142
@[reducible] def n_shadow_difference : FuncId := 143
@[reducible] def n_IndexFunc___Stream_Stream_ : FuncId := 183

/-- Walked into: functions that share their caller's memory. -/
def inl0 (f : FuncId) : Bool := [117, 119, 120, 163, 172, 190, 191, 212, 230, 231, 234].contains f
/-- Copies of rows. -/
def own0 (f : FuncId) : Option Ty :=
  if f = 140 then some ⟨1, false, 8, [.int .i64 0]⟩ else if f = 210 then some ⟨2, true, 48, [.nil, .nil]⟩ else if f = 211 then some ⟨1, false, 24, [.nil]⟩ else none
noncomputable def EE (ext : FuncId → List AV → Option AV) : Env := ⟨tabOf Try.prog, ext, inl0, own0⟩

/-- Which functions are walked into, which copy a row. -/
theorem es {ext : FuncId → List AV → Option AV} : (EE ext).inl n_law52_ShadowCompares = false ∧ (EE ext).own n_law52_ShadowCompares = none ∧ (EE ext).inl n_law52_examples = false ∧ (EE ext).own n_law52_examples = none ∧ (EE ext).inl n_law52_count = false ∧ (EE ext).own n_law52_count = none ∧ (EE ext).inl n_law52_agree = false ∧ (EE ext).own n_law52_agree = none ∧ (EE ext).inl n_law52_begin = false ∧ (EE ext).own n_law52_begin = none ∧ (EE ext).inl n_law52_stream1 = false ∧ (EE ext).own n_law52_stream1 = none ∧ (EE ext).inl n_shadow_Settled = false ∧ (EE ext).own n_shadow_Settled = none ∧ (EE ext).inl n_shadow_Agree = false ∧ (EE ext).own n_shadow_Agree = none ∧ (EE ext).inl n_EqualFunc___Stream___Stream_Stream_Stream_ = false ∧ (EE ext).own n_EqualFunc___Stream___Stream_Stream_Stream_ = none ∧ (EE ext).inl n_shadow_Settled_1 = false ∧ (EE ext).own n_shadow_Settled_1 = none ∧ (EE ext).inl n_shadow_Agree_1 = false ∧ (EE ext).own n_shadow_Agree_1 = none ∧ (EE ext).inl n_shadow_first_Stream_ = false ∧ (EE ext).own n_shadow_first_Stream_ = none ∧ (EE ext).inl n_shadow_difference = false ∧ (EE ext).own n_shadow_difference = none ∧ (EE ext).inl n_IndexFunc___Stream_Stream_ = false ∧ (EE ext).own n_IndexFunc___Stream_Stream_ = none :=
  ⟨rfl, rfl, rfl, rfl, rfl, rfl, rfl, rfl, rfl, rfl, rfl, rfl, rfl, rfl, rfl, rfl, rfl, rfl, rfl, rfl, rfl, rfl, rfl, rfl, rfl, rfl, rfl, rfl⟩

-- 3 wireloom/wireloomlaw52.ShadowCompares
def c_law52_ShadowCompares : AFunc :=
  ⟨3, 124, [.tmp 6],
  .seq (
   .region [
     ⟨some 5, .box (.t 2), none, 0⟩,
     ⟨some 6, .mov (.c (.bool false)), none, 0⟩] false) (
  .seq (
   .region [
     ⟨some 12, .call n_law52_examples [], none, 0⟩,
     ⟨some 7, .mov (.t 12), none, 1⟩] false) (
  .seq (
   .seq (
    .region [
      ⟨some 13, .mov (.t 7), none, 0⟩,
      ⟨some 14, .un .not (.t 13), none, 1⟩] false) (
   .cond (.t 14) (
    .seq (
     .region [
       ⟨some 6, .mov (.c (.bool false)), none, 0⟩] false) (
    .ret)) (
    .skip))) (
  .seq (
   .seq (
    .region [
      ⟨some 15, .mov (.t 0), none, 0⟩,
      ⟨some 16, .call n_law52_count [(.t 15)], none, 1⟩,
      ⟨some 17, .mov (.t 1), none, 0⟩,
      ⟨some 18, .call n_law52_count [(.t 17)], none, 7⟩,
      ⟨some 19, .bin .add (.t 16) (.t 18), none, 15⟩,
      ⟨some 20, .bin .gtr (.t 19) (.c (.int .i64 300)), none, 31⟩] false) (
   .cond (.t 20) (
    .seq (
     .region [
       ⟨some 21, .mov (.t 7), none, 0⟩,
       ⟨some 6, .mov (.t 21), none, 1⟩] false) (
    .ret)) (
    .skip))) (
  .seq (
   .region [
     ⟨some 22, .mov (.t 0), none, 0⟩,
     ⟨some 23, .mov (.t 1), none, 0⟩,
     ⟨some 24, .call n_law52_agree [(.t 22), (.t 23)], none, 3⟩,
     ⟨some 25, .mov (.t 1), none, 0⟩,
     ⟨some 26, .mov (.t 0), none, 0⟩,
     ⟨some 27, .call n_law52_agree [(.t 25), (.t 26)], none, 31⟩,
     ⟨some 8, .alloc ⟨3, true, 32, [(.str ⟨#[]⟩), (.int .i64 0), (.bool false)]⟩, none, 0⟩,
     ⟨some 9, .alloc ⟨3, true, 32, [(.str ⟨#[]⟩), (.int .i64 0), (.bool false)]⟩, none, 0⟩,
     ⟨none, .store 3 (.t 8) (.t 24), none, 255⟩,
     ⟨none, .store 3 (.t 9) (.t 27), none, 511⟩] false) (
  .seq (
   .region [
     ⟨some 28, .mov (.t 0), none, 0⟩,
     ⟨some 29, .iaddr 1 (some 2) (.t 5) (.c (.int .i64 0)), none, 0⟩,
     ⟨some 30, .load 1 false (.t 29), none, 2⟩,
     ⟨some 31, .bin .rem (.t 30) (.c (.int .u8 8)), none, 6⟩,
     ⟨some 32, .conv .i64 (.t 31), none, 14⟩,
     ⟨some 33, .call n_law52_begin [(.t 28), (.t 32)], none, 31⟩,
     ⟨some 34, .mov (.t 1), none, 0⟩,
     ⟨some 35, .iaddr 1 (some 2) (.t 5) (.c (.int .i64 1)), none, 0⟩,
     ⟨some 36, .load 1 false (.t 35), none, 128⟩,
     ⟨some 37, .bin .rem (.t 36) (.c (.int .u8 8)), none, 384⟩,
     ⟨some 38, .conv .i64 (.t 37), none, 896⟩,
     ⟨some 39, .call n_law52_begin [(.t 34), (.t 38)], none, 2047⟩,
     ⟨some 10, .mov (.t 33), none, 4095⟩,
     ⟨some 11, .mov (.t 39), none, 8191⟩] true) (
  .seq (
   .seq (
    .region [
      ⟨some 40, .faddr 2 (.t 8), none, 0⟩,
      ⟨some 41, .load 1 false (.t 40), none, 1⟩,
      ⟨some 42, .faddr 2 (.t 9), none, 0⟩,
      ⟨some 43, .load 1 false (.t 42), none, 4⟩,
      ⟨some 44, .binb true (.t 41) (.t 43), none, 15⟩,
      ⟨some 45, .mov (.t 44), none, 31⟩,
      ⟨some 46, .mov (.t 0), some (45, false), 63⟩,
      ⟨some 47, .mov (.t 0), some (45, false), 63⟩,
      ⟨some 48, .call n_law52_agree [(.t 46), (.t 47)], some (45, false), 255⟩,
      ⟨some 49, .field 2 1 false (.t 48), some (45, false), 511⟩,
      ⟨some 50, .un .not (.t 49), some (45, false), 1023⟩,
      ⟨some 51, .pick (.t 45) (.c (.bool true)) (.t 50), none, 2047⟩,
      ⟨some 52, .mov (.t 51), none, 4095⟩,
      ⟨some 53, .faddr 2 (.t 8), some (52, false), 8191⟩,
      ⟨some 54, .load 1 false (.t 53), some (52, false), 16383⟩,
      ⟨some 55, .mov (.t 54), some (52, false), 32767⟩,
      ⟨some 56, .mov (.t 10), some (55, true), 65535⟩,
      ⟨some 57, .mov (.t 11), some (55, true), 65535⟩,
      ⟨some 58, .call n_law52_agree [(.t 56), (.t 57)], some (55, true), 262143⟩,
      ⟨some 59, .field 2 1 false (.t 58), some (55, true), 524287⟩,
      ⟨some 60, .un .not (.t 59), some (55, true), 1048575⟩,
      ⟨some 61, .mov (.t 60), some (55, true), 2097151⟩,
      ⟨some 62, .mov (.t 10), some (61, false), 4194303⟩,
      ⟨some 63, .mov (.t 1), some (61, false), 4194303⟩,
      ⟨some 64, .call n_law52_agree [(.t 62), (.t 63)], some (61, false), 16777215⟩,
      ⟨some 65, .field 2 1 false (.t 64), some (61, false), 33554431⟩,
      ⟨some 66, .un .not (.t 65), some (61, false), 67108863⟩,
      ⟨some 67, .pick (.t 61) (.c (.bool true)) (.t 66), some (55, true), 134217727⟩,
      ⟨some 68, .pick (.t 55) (.t 67) (.c (.bool false)), some (52, false), 268435455⟩,
      ⟨some 69, .pick (.t 52) (.c (.bool true)) (.t 68), none, 536870911⟩,
      ⟨some 70, .mov (.t 69), none, 1073741823⟩,
      ⟨some 71, .mov (.t 0), some (70, false), 2147483647⟩,
      ⟨some 72, .call n_law52_begin [(.t 71), (.c (.int .i64 0))], some (70, false), 4294967295⟩,
      ⟨some 73, .mov (.t 1), some (70, false), 2147483647⟩,
      ⟨some 74, .call n_law52_agree [(.t 72), (.t 73)], some (70, false), 17179869183⟩,
      ⟨some 75, .field 2 1 false (.t 74), some (70, false), 34359738367⟩,
      ⟨some 76, .un .not (.t 75), some (70, false), 68719476735⟩,
      ⟨some 77, .pick (.t 70) (.c (.bool true)) (.t 76), none, 137438953471⟩] false) (
   .cond (.t 77) (
    .seq (
     .region [
       ⟨some 6, .mov (.c (.bool false)), none, 0⟩] false) (
    .ret)) (
    .skip))) (
  .seq (
   .seq (
    .region [
      ⟨some 78, .faddr 2 (.t 8), none, 0⟩,
      ⟨some 79, .load 1 false (.t 78), none, 1⟩] false) (
   .cond (.t 79) (
    .seq (
     .region [
       ⟨some 80, .load 3 true (.t 8), none, 0⟩,
       ⟨some 81, .build [(.str ⟨#[]⟩), (.int .i64 0), (.bool false)] [(2, 1, (.c (.bool true)))], none, 0⟩,
       ⟨some 82, .eqs false [(0, 2), (1, 0), (2, 1)] (.t 80) (.t 81), none, 3⟩,
       ⟨some 83, .mov (.t 82), none, 7⟩,
       ⟨some 84, .mov (.t 7), some (83, true), 15⟩,
       ⟨some 85, .pick (.t 83) (.t 84) (.c (.bool false)), none, 31⟩,
       ⟨some 6, .mov (.t 85), none, 63⟩] false) (
    .ret)) (
    .skip))) (
  .seq (
   .region [
     ⟨some 86, .faddr 1 (.t 8), none, 0⟩,
     ⟨some 87, .load 1 false (.t 86), none, 1⟩,
     ⟨some 88, .bin .geq (.t 87) (.c (.int .i64 0)), none, 3⟩,
     ⟨some 89, .mov (.t 88), none, 7⟩,
     ⟨some 90, .mov (.t 0), some (89, true), 15⟩,
     ⟨some 91, .faddr 0 (.t 8), some (89, true), 15⟩,
     ⟨some 92, .load 1 false (.t 91), some (89, true), 47⟩,
     ⟨some 93, .call n_law52_stream1 [(.t 90), (.t 92)], some (89, true), 127⟩,
     ⟨some 94, .faddr 1 (.t 8), some (89, true), 15⟩,
     ⟨some 95, .load 1 false (.t 94), some (89, true), 271⟩,
     ⟨some 96, .call n_law52_begin [(.t 93), (.t 95)], some (89, true), 1023⟩,
     ⟨some 97, .mov (.t 1), some (89, true), 15⟩,
     ⟨some 98, .call n_law52_agree [(.t 96), (.t 97)], some (89, true), 4095⟩,
     ⟨some 99, .field 2 1 false (.t 98), some (89, true), 8191⟩,
     ⟨some 100, .pick (.t 89) (.t 99) (.c (.bool false)), none, 16383⟩,
     ⟨some 101, .mov (.t 100), none, 32767⟩,
     ⟨some 102, .mov (.t 0), some (101, true), 65535⟩,
     ⟨some 103, .faddr 0 (.t 8), some (101, true), 65535⟩,
     ⟨some 104, .load 1 false (.t 103), some (101, true), 196607⟩,
     ⟨some 105, .call n_law52_stream1 [(.t 102), (.t 104)], some (101, true), 524287⟩,
     ⟨some 106, .faddr 1 (.t 8), some (101, true), 65535⟩,
     ⟨some 107, .load 1 false (.t 106), some (101, true), 1114111⟩,
     ⟨some 108, .bin .add (.t 107) (.c (.int .i64 1)), some (101, true), 3211263⟩,
     ⟨some 109, .call n_law52_begin [(.t 105), (.t 108)], some (101, true), 8388607⟩,
     ⟨some 110, .mov (.t 1), some (101, true), 65535⟩,
     ⟨some 111, .call n_law52_agree [(.t 109), (.t 110)], some (101, true), 33554431⟩,
     ⟨some 112, .field 2 1 false (.t 111), some (101, true), 67108863⟩,
     ⟨some 113, .un .not (.t 112), some (101, true), 134217727⟩,
     ⟨some 114, .pick (.t 101) (.t 113) (.c (.bool false)), none, 268435455⟩,
     ⟨some 115, .mov (.t 114), none, 536870911⟩,
     ⟨some 116, .mov (.t 0), some (115, true), 1073741823⟩,
     ⟨some 117, .mov (.t 1), some (115, true), 1073741823⟩,
     ⟨some 118, .call n_shadow_Settled [(.t 116), (.t 117)], some (115, true), 4294967295⟩,
     ⟨some 119, .un .not (.t 118), some (115, true), 8589934591⟩,
     ⟨some 120, .pick (.t 115) (.t 119) (.c (.bool false)), none, 17179869183⟩,
     ⟨some 121, .mov (.t 120), none, 34359738367⟩,
     ⟨some 122, .mov (.t 7), some (121, true), 68719476735⟩,
     ⟨some 123, .pick (.t 121) (.t 122) (.c (.bool false)), none, 137438953471⟩,
     ⟨some 6, .mov (.t 123), none, 274877906943⟩] true) (
  .ret)))))))))⟩
theorem t_law52_ShadowCompares : tabOf Try.prog n_law52_ShadowCompares = some c_law52_ShadowCompares := by kernel_rfl

-- 16 wireloom/wireloomlaw52.count
def c_law52_count : AFunc :=
  ⟨1, 29, [.tmp 2],
  .seq (
   .region [
     ⟨some 2, .mov (.c (.int .i64 0)), none, 0⟩] false) (
  .seq (
   .region [
     ⟨some 5, .mov (.t 0), none, 0⟩,
     ⟨some 6, .len (.t 5), none, 1⟩,
     ⟨some 3, .mov (.t 6), none, 3⟩] false) (
  .seq (
   .seq (
    .region [
      ⟨some 4, .mov (.c (.int .i64 0)), none, 0⟩] false) (
   .block 0 (
    .loop (
     .seq (
      .seq (
       .region [
         ⟨some 7, .mov (.t 4), none, 0⟩,
         ⟨some 8, .mov (.t 0), none, 0⟩,
         ⟨some 9, .len (.t 8), none, 2⟩,
         ⟨some 10, .bin .lss (.t 7) (.t 9), none, 7⟩] false) (
      .cond (.t 10) (
       .skip) (
       .exit 0))) (
     .seq (
      .block 1 (
       .region [
         ⟨some 13, .mov (.t 3), none, 0⟩,
         ⟨some 14, .mov (.t 0), none, 0⟩,
         ⟨some 15, .mov (.t 4), none, 0⟩,
         ⟨some 16, .iaddr 2 none (.t 14) (.t 15), none, 6⟩,
         ⟨some 17, .faddr 0 (.t 16), none, 14⟩,
         ⟨some 18, .load 1 false (.t 17), none, 30⟩,
         ⟨some 19, .slen (.t 18), none, 62⟩,
         ⟨some 20, .mov (.t 0), none, 0⟩,
         ⟨some 21, .mov (.t 4), none, 0⟩,
         ⟨some 22, .iaddr 2 none (.t 20) (.t 21), none, 384⟩,
         ⟨some 23, .faddr 1 (.t 22), none, 896⟩,
         ⟨some 24, .load 1 false (.t 23), none, 1920⟩,
         ⟨some 25, .len (.t 24), none, 3968⟩,
         ⟨some 26, .bin .add (.t 19) (.t 25), none, 8190⟩,
         ⟨some 27, .bin .add (.t 13) (.t 26), none, 16383⟩,
         ⟨some 3, .mov (.t 27), none, 32767⟩] true)) (
     .region [
       ⟨some 11, .mov (.t 4), none, 0⟩,
       ⟨some 12, .bin .add (.t 11) (.c (.int .i64 1)), none, 1⟩,
       ⟨some 4, .mov (.t 12), none, 3⟩] false)))))) (
  .seq (
   .region [
     ⟨some 28, .mov (.t 3), none, 0⟩,
     ⟨some 2, .mov (.t 28), none, 1⟩] false) (
  .ret))))⟩
theorem t_law52_count : tabOf Try.prog n_law52_count = some c_law52_count := by kernel_rfl

-- 17 wireloom/wireloomlaw52.agree
def c_law52_agree : AFunc :=
  ⟨2, 19, [.cell 4 3 true],
  .seq (
   .region [
     ⟨some 4, .alloc ⟨3, true, 32, [(.str ⟨#[]⟩), (.int .i64 0), (.bool false)]⟩, none, 0⟩] false) (
  .seq (
   .region [
     ⟨some 9, .mov (.t 0), none, 0⟩,
     ⟨some 10, .mov (.t 1), none, 0⟩,
     ⟨some 11, .call n_shadow_Agree [(.t 9), (.t 10)], none, 3⟩,
     ⟨some 8, .mov (.t 11), none, 7⟩,
     ⟨some 12, .extract (.t 8) 0, none, 15⟩,
     ⟨some 13, .extract (.t 8) 1, none, 15⟩,
     ⟨some 14, .extract (.t 8) 2, none, 15⟩,
     ⟨some 5, .mov (.t 12), none, 31⟩,
     ⟨some 6, .mov (.t 13), none, 191⟩,
     ⟨some 7, .mov (.t 14), none, 511⟩] false) (
  .seq (
   .region [
     ⟨some 15, .mov (.t 5), none, 0⟩,
     ⟨some 16, .mov (.t 6), none, 0⟩,
     ⟨some 17, .mov (.t 7), none, 0⟩,
     ⟨some 18, .build [(.str ⟨#[]⟩), (.int .i64 0), (.bool false)] [(0, 1, (.t 15)), (1, 1, (.t 16)), (2, 1, (.t 17))], none, 7⟩,
     ⟨none, .store 3 (.t 4) (.t 18), none, 15⟩] false) (
  .ret)))⟩
theorem t_law52_agree : tabOf Try.prog n_law52_agree = some c_law52_agree := by kernel_rfl

-- 18 wireloom/wireloomlaw52.begin
def c_law52_begin : AFunc :=
  ⟨2, 38, [.tmp 4],
  .seq (
   .region [
     ⟨some 4, .mov (.c .nil), none, 0⟩] false) (
  .seq (
   .region [
     ⟨some 7, .bslice ⟨2, true, 40, [(.str ⟨#[]⟩), .nil]⟩ 0 [], none, 0⟩,
     ⟨some 5, .mov (.t 7), none, 1⟩] false) (
  .seq (
   .seq (
    .region [
      ⟨some 6, .mov (.c (.int .i64 0)), none, 0⟩] false) (
   .block 0 (
    .loop (
     .seq (
      .seq (
       .region [
         ⟨some 8, .mov (.t 6), none, 0⟩,
         ⟨some 9, .mov (.t 0), none, 0⟩,
         ⟨some 10, .len (.t 9), none, 2⟩,
         ⟨some 11, .bin .lss (.t 8) (.t 10), none, 7⟩] false) (
      .cond (.t 11) (
       .skip) (
       .exit 0))) (
     .seq (
      .block 1 (
       .region [
         ⟨some 14, .mov (.t 5), none, 0⟩,
         ⟨some 15, .mov (.t 0), none, 0⟩,
         ⟨some 16, .mov (.t 6), none, 0⟩,
         ⟨some 17, .iaddr 2 none (.t 15) (.t 16), none, 6⟩,
         ⟨some 18, .faddr 0 (.t 17), none, 14⟩,
         ⟨some 19, .load 1 false (.t 18), none, 30⟩,
         ⟨some 20, .mov (.t 0), none, 0⟩,
         ⟨some 21, .mov (.t 6), none, 0⟩,
         ⟨some 22, .iaddr 2 none (.t 20) (.t 21), none, 192⟩,
         ⟨some 23, .faddr 1 (.t 22), none, 448⟩,
         ⟨some 24, .load 1 false (.t 23), none, 960⟩,
         ⟨some 25, .mov (.t 0), none, 0⟩,
         ⟨some 26, .mov (.t 6), none, 0⟩,
         ⟨some 27, .iaddr 2 none (.t 25) (.t 26), none, 6144⟩,
         ⟨some 28, .faddr 1 (.t 27), none, 14336⟩,
         ⟨some 29, .load 1 false (.t 28), none, 30720⟩,
         ⟨some 30, .len (.t 29), none, 63488⟩,
         ⟨some 31, .mov (.t 1), none, 0⟩,
         ⟨some 32, .min (.t 30) [(.t 31)], none, 260096⟩,
         ⟨some 33, .slice ⟨1, false, 8, [(.int .i64 0)]⟩ (.t 24) none (some (.t 32)), none, 524224⟩,
         ⟨some 34, .build [(.str ⟨#[]⟩), .nil] [(0, 1, (.t 19)), (1, 1, (.t 33))], none, 1048574⟩,
         ⟨some 35, .bslice ⟨2, true, 40, [(.str ⟨#[]⟩), .nil]⟩ 1 [(0, (.t 34))], none, 2097150⟩,
         ⟨some 36, .append ⟨2, true, 40, [(.str ⟨#[]⟩), .nil]⟩ (.t 14) (.t 35), none, 4194303⟩,
         ⟨some 5, .mov (.t 36), none, 8388607⟩] true)) (
     .region [
       ⟨some 12, .mov (.t 6), none, 0⟩,
       ⟨some 13, .bin .add (.t 12) (.c (.int .i64 1)), none, 1⟩,
       ⟨some 6, .mov (.t 13), none, 3⟩] false)))))) (
  .seq (
   .region [
     ⟨some 37, .mov (.t 5), none, 0⟩,
     ⟨some 4, .mov (.t 37), none, 1⟩] false) (
  .ret))))⟩
theorem t_law52_begin : tabOf Try.prog n_law52_begin = some c_law52_begin := by kernel_rfl

-- 19 wireloom/wireloomlaw52.stream1
def c_law52_stream1 : AFunc :=
  ⟨2, 24, [.tmp 4],
  .seq (
   .region [
     ⟨some 4, .mov (.c .nil), none, 0⟩] false) (
  .seq (
   .seq (
    .region [
      ⟨some 5, .mov (.c (.int .i64 0)), none, 0⟩] false) (
   .block 0 (
    .loop (
     .seq (
      .seq (
       .region [
         ⟨some 6, .mov (.t 5), none, 0⟩,
         ⟨some 7, .mov (.t 0), none, 0⟩,
         ⟨some 8, .len (.t 7), none, 2⟩,
         ⟨some 9, .bin .lss (.t 6) (.t 8), none, 7⟩] false) (
      .cond (.t 9) (
       .skip) (
       .exit 0))) (
     .seq (
      .block 1 (
       .seq (
        .region [
          ⟨some 12, .mov (.t 0), none, 0⟩,
          ⟨some 13, .mov (.t 5), none, 0⟩,
          ⟨some 14, .iaddr 2 none (.t 12) (.t 13), none, 3⟩,
          ⟨some 15, .faddr 0 (.t 14), none, 7⟩,
          ⟨some 16, .load 1 false (.t 15), none, 15⟩,
          ⟨some 17, .mov (.t 1), none, 0⟩,
          ⟨some 18, .bin .eql (.t 16) (.t 17), none, 63⟩] false) (
       .cond (.t 18) (
        .seq (
         .region [
           ⟨some 19, .mov (.t 0), none, 0⟩,
           ⟨some 20, .mov (.t 5), none, 0⟩,
           ⟨some 21, .mov (.t 5), none, 0⟩,
           ⟨some 22, .bin .add (.t 21) (.c (.int .i64 1)), none, 4⟩,
           ⟨some 23, .slice ⟨2, true, 40, [(.str ⟨#[]⟩), .nil]⟩ (.t 19) (some (.t 20)) (some (.t 22)), none, 15⟩,
           ⟨some 4, .mov (.t 23), none, 31⟩] false) (
        .ret)) (
        .skip)))) (
     .region [
       ⟨some 10, .mov (.t 5), none, 0⟩,
       ⟨some 11, .bin .add (.t 10) (.c (.int .i64 1)), none, 1⟩,
       ⟨some 5, .mov (.t 11), none, 3⟩] false)))))) (
  .seq (
   .region [
     ⟨some 4, .mov (.c .nil), none, 0⟩] false) (
  .ret)))⟩
theorem t_law52_stream1 : tabOf Try.prog n_law52_stream1 = some c_law52_stream1 := by kernel_rfl

-- 20 wireloom/shadow.Settled
def c_shadow_Settled : AFunc :=
  ⟨2, 21, [.tmp 4],
  .seq (
   .region [
     ⟨some 4, .mov (.c (.bool false)), none, 0⟩] false) (
  .seq (
   .region [
     ⟨some 9, .mov (.t 0), none, 0⟩,
     ⟨some 10, .mov (.t 1), none, 0⟩,
     ⟨some 11, .call n_shadow_Agree [(.t 9), (.t 10)], none, 3⟩,
     ⟨some 8, .mov (.t 11), none, 7⟩,
     ⟨some 12, .extract (.t 8) 0, none, 15⟩,
     ⟨some 13, .extract (.t 8) 1, none, 15⟩,
     ⟨some 14, .extract (.t 8) 2, none, 15⟩,
     ⟨some 5, .mov (.t 12), none, 31⟩,
     ⟨some 6, .mov (.t 13), none, 191⟩,
     ⟨some 7, .mov (.t 14), none, 511⟩] false) (
  .seq (
   .region [
     ⟨some 15, .mov (.t 7), none, 0⟩,
     ⟨some 16, .mov (.t 15), none, 1⟩,
     ⟨some 17, .mov (.t 0), some (16, true), 3⟩,
     ⟨some 18, .mov (.t 1), some (16, true), 3⟩,
     ⟨some 19, .call n_EqualFunc___Stream___Stream_Stream_Stream_ [(.t 17), (.t 18), (.c (.fn n_shadow_Settled_1 []))], some (16, true), 15⟩,
     ⟨some 20, .pick (.t 16) (.t 19) (.c (.bool false)), none, 31⟩,
     ⟨some 4, .mov (.t 20), none, 63⟩] false) (
  .ret)))⟩
theorem t_shadow_Settled : tabOf Try.prog n_shadow_Settled = some c_shadow_Settled := by kernel_rfl

-- 76 wireloom/shadow.Agree
def c_shadow_Agree : AFunc :=
  ⟨2, 53, [.tmp 4, .tmp 5, .tmp 6],
  .seq (
   .region [
     ⟨some 4, .mov (.c (.str ⟨#[]⟩)), none, 0⟩,
     ⟨some 5, .mov (.c (.int .i64 0)), none, 1⟩,
     ⟨some 6, .mov (.c (.bool false)), none, 3⟩] false) (
  .seq (
   .seq (
    .region [
      ⟨some 15, .mov (.t 0), none, 0⟩,
      ⟨some 16, .len (.t 15), none, 1⟩,
      ⟨some 17, .mov (.c (.int .i64 0)), none, 0⟩] false) (
   .block 0 (
    .loop (
     .seq (
      .region [
        ⟨some 18, .bin .lss (.t 17) (.t 16), none, 0⟩] false) (
     .seq (
      .cond (.t 18) (
       .skip) (
       .exit 0)) (
     .seq (
      .block 1 (
       .seq (
        .region [
          ⟨some 19, .mov (.t 17), none, 0⟩,
          ⟨some 20, .iaddr 2 none (.t 15) (.t 17), none, 0⟩,
          ⟨some 21, .load 2 true (.t 20), none, 2⟩,
          ⟨some 8, .alloc ⟨2, true, 40, [(.str ⟨#[]⟩), .nil]⟩, none, 0⟩,
          ⟨some 7, .mov (.t 19), none, 15⟩,
          ⟨none, .store 2 (.t 8) (.t 21), none, 31⟩] false) (
       .seq (
        .region [
          ⟨some 22, .mkfn n_shadow_Agree_1 [(.t 8)], none, 0⟩,
          ⟨some 9, .mov (.t 22), none, 1⟩] false) (
       .seq (
        .region [
          ⟨some 24, .mov (.t 1), none, 0⟩,
          ⟨some 25, .mov (.t 9), none, 0⟩,
          ⟨some 26, .call n_shadow_first_Stream_ [(.t 24), (.t 25)], none, 3⟩,
          ⟨some 23, .mov (.t 26), none, 7⟩,
          ⟨some 27, .extract (.t 23) 0, none, 15⟩,
          ⟨some 28, .extract (.t 23) 1, none, 15⟩,
          ⟨some 10, .alloc ⟨2, true, 40, [(.str ⟨#[]⟩), .nil]⟩, none, 0⟩,
          ⟨none, .store 2 (.t 10) (.t 27), none, 95⟩,
          ⟨some 11, .mov (.t 28), none, 255⟩] false) (
       .seq (
        .seq (
         .region [
           ⟨some 30, .mov (.t 0), none, 0⟩,
           ⟨some 31, .mov (.t 9), none, 0⟩,
           ⟨some 32, .call n_shadow_first_Stream_ [(.t 30), (.t 31)], none, 3⟩,
           ⟨some 29, .mov (.t 32), none, 7⟩,
           ⟨some 33, .extract (.t 29) 0, none, 15⟩,
           ⟨some 34, .extract (.t 29) 1, none, 15⟩,
           ⟨some 12, .alloc ⟨2, true, 40, [(.str ⟨#[]⟩), .nil]⟩, none, 0⟩,
           ⟨none, .store 2 (.t 12) (.t 33), none, 95⟩,
           ⟨some 13, .mov (.t 34), none, 255⟩] false) (
        .seq (
         .region [
           ⟨some 35, .mov (.t 13), none, 0⟩,
           ⟨some 36, .mov (.t 7), none, 0⟩,
           ⟨some 37, .bin .neq (.t 35) (.t 36), none, 3⟩,
           ⟨some 38, .mov (.t 37), none, 7⟩,
           ⟨some 39, .mov (.t 11), some (38, false), 15⟩,
           ⟨some 40, .bin .lss (.t 39) (.c (.int .i64 0)), some (38, false), 31⟩,
           ⟨some 41, .pick (.t 38) (.c (.bool true)) (.t 40), none, 63⟩] false) (
        .cond (.t 41) (
         .exit 1) (
         .skip)))) (
       .seq (
        .region [
          ⟨some 42, .faddr 1 (.t 8), none, 0⟩,
          ⟨some 43, .load 1 false (.t 42), none, 1⟩,
          ⟨some 44, .faddr 1 (.t 10), none, 0⟩,
          ⟨some 45, .load 1 false (.t 44), none, 4⟩,
          ⟨some 46, .call n_shadow_difference [(.t 43), (.t 45)], none, 15⟩,
          ⟨some 14, .mov (.t 46), none, 31⟩] false) (
       .seq (
        .region [
          ⟨some 47, .mov (.t 14), none, 0⟩,
          ⟨some 48, .bin .geq (.t 47) (.c (.int .i64 0)), none, 1⟩] false) (
       .cond (.t 48) (
        .seq (
         .region [
           ⟨some 49, .faddr 0 (.t 8), none, 0⟩,
           ⟨some 50, .load 1 false (.t 49), none, 1⟩,
           ⟨some 51, .mov (.t 14), none, 0⟩,
           ⟨some 4, .mov (.t 50), none, 3⟩,
           ⟨some 5, .mov (.t 51), none, 15⟩,
           ⟨some 6, .mov (.c (.bool false)), none, 31⟩] false) (
        .ret)) (
        .skip))))))))) (
     .region [
       ⟨some 52, .bin .add (.t 17) (.c (.int .i64 1)), none, 0⟩,
       ⟨some 17, .mov (.t 52), none, 1⟩] false))))))) (
  .seq (
   .region [
     ⟨some 4, .mov (.c (.str ⟨#[]⟩)), none, 0⟩,
     ⟨some 5, .mov (.c (.int .i64 0)), none, 1⟩,
     ⟨some 6, .mov (.c (.bool true)), none, 3⟩] false) (
  .ret)))⟩
theorem t_shadow_Agree : tabOf Try.prog n_shadow_Agree = some c_shadow_Agree := by kernel_rfl

-- 77 slices.EqualFunc[[]wireloom/api.Stream,[]wireloom/api.Stream,wireloom/api.Stream,wireloom/api.Stream]
def c_EqualFunc___Stream___Stream_Stream_Stream_ : AFunc :=
  ⟨3, 32, [.tmp 6],
  .seq (
   .region [
     ⟨some 6, .mov (.c (.bool false)), none, 0⟩] false) (
  .seq (
   .seq (
    .region [
      ⟨some 10, .mov (.t 0), none, 0⟩,
      ⟨some 11, .len (.t 10), none, 1⟩,
      ⟨some 12, .mov (.t 1), none, 0⟩,
      ⟨some 13, .len (.t 12), none, 4⟩,
      ⟨some 14, .bin .neq (.t 11) (.t 13), none, 15⟩] false) (
   .cond (.t 14) (
    .seq (
     .region [
       ⟨some 6, .mov (.c (.bool false)), none, 0⟩] false) (
    .ret)) (
    .skip))) (
  .seq (
   .seq (
    .region [
      ⟨some 15, .mov (.t 0), none, 0⟩,
      ⟨some 16, .len (.t 15), none, 1⟩,
      ⟨some 17, .mov (.c (.int .i64 0)), none, 0⟩] false) (
   .block 0 (
    .loop (
     .seq (
      .region [
        ⟨some 18, .bin .lss (.t 17) (.t 16), none, 0⟩] false) (
     .seq (
      .cond (.t 18) (
       .skip) (
       .exit 0)) (
     .seq (
      .block 1 (
       .seq (
        .region [
          ⟨some 19, .mov (.t 17), none, 0⟩,
          ⟨some 20, .iaddr 2 none (.t 15) (.t 17), none, 0⟩,
          ⟨some 21, .load 2 true (.t 20), none, 2⟩,
          ⟨some 8, .alloc ⟨2, true, 40, [(.str ⟨#[]⟩), .nil]⟩, none, 0⟩,
          ⟨some 7, .mov (.t 19), none, 15⟩,
          ⟨none, .store 2 (.t 8) (.t 21), none, 31⟩] false) (
       .seq (
        .region [
          ⟨some 22, .mov (.t 1), none, 0⟩,
          ⟨some 23, .mov (.t 7), none, 0⟩,
          ⟨some 24, .iaddr 2 none (.t 22) (.t 23), none, 3⟩,
          ⟨some 25, .load 2 true (.t 24), none, 7⟩,
          ⟨some 9, .alloc ⟨2, true, 40, [(.str ⟨#[]⟩), .nil]⟩, none, 0⟩,
          ⟨none, .store 2 (.t 9) (.t 25), none, 31⟩] false) (
       .seq (
        .region [
          ⟨some 26, .mov (.t 2), none, 0⟩,
          ⟨some 27, .load 2 true (.t 8), none, 0⟩,
          ⟨some 28, .load 2 true (.t 9), none, 0⟩,
          ⟨some 29, .callv (.t 26) [(.t 27), (.t 28)], none, 7⟩,
          ⟨some 30, .un .not (.t 29), none, 15⟩] false) (
       .cond (.t 30) (
        .seq (
         .region [
           ⟨some 6, .mov (.c (.bool false)), none, 0⟩] false) (
        .ret)) (
        .skip)))))) (
     .region [
       ⟨some 31, .bin .add (.t 17) (.c (.int .i64 1)), none, 0⟩,
       ⟨some 17, .mov (.t 31), none, 1⟩] false))))))) (
  .seq (
   .region [
     ⟨some 6, .mov (.c (.bool true)), none, 0⟩] false) (
  .ret))))⟩
theorem t_EqualFunc___Stream___Stream_Stream_Stream_ : tabOf Try.prog n_EqualFunc___Stream___Stream_Stream_Stream_ = some c_EqualFunc___Stream___Stream_Stream_Stream_ := by kernel_rfl

-- 78 wireloom/shadow.Settled$1
def c_shadow_Settled_1 : AFunc :=
  ⟨2, 19, [.tmp 4],
  .seq (
   .region [
     ⟨some 2, .box (.t 0), none, 0⟩,
     ⟨some 3, .box (.t 1), none, 0⟩,
     ⟨some 4, .mov (.c (.bool false)), none, 0⟩] false) (
  .seq (
   .region [
     ⟨some 5, .faddr 0 (.t 2), none, 0⟩,
     ⟨some 6, .load 1 false (.t 5), none, 1⟩,
     ⟨some 7, .faddr 0 (.t 3), none, 0⟩,
     ⟨some 8, .load 1 false (.t 7), none, 4⟩,
     ⟨some 9, .bin .eql (.t 6) (.t 8), none, 15⟩,
     ⟨some 10, .mov (.t 9), none, 31⟩,
     ⟨some 11, .faddr 1 (.t 2), some (10, true), 63⟩,
     ⟨some 12, .load 1 false (.t 11), some (10, true), 127⟩,
     ⟨some 13, .len (.t 12), some (10, true), 255⟩,
     ⟨some 14, .faddr 1 (.t 3), some (10, true), 63⟩,
     ⟨some 15, .load 1 false (.t 14), some (10, true), 575⟩,
     ⟨some 16, .len (.t 15), some (10, true), 1599⟩,
     ⟨some 17, .bin .eql (.t 13) (.t 16), some (10, true), 4095⟩,
     ⟨some 18, .pick (.t 10) (.t 17) (.c (.bool false)), none, 8191⟩,
     ⟨some 4, .mov (.t 18), none, 16383⟩] false) (
  .ret))⟩
theorem t_shadow_Settled_1 : tabOf Try.prog n_shadow_Settled_1 = some c_shadow_Settled_1 := by kernel_rfl

-- 141 wireloom/shadow.Agree$1
def c_shadow_Agree_1 : AFunc :=
  ⟨2, 9, [.tmp 3],
  .seq (
   .region [
     ⟨some 2, .box (.t 0), none, 0⟩,
     ⟨some 3, .mov (.c (.bool false)), none, 0⟩] false) (
  .seq (
   .region [
     ⟨some 4, .faddr 0 (.t 2), none, 0⟩,
     ⟨some 5, .load 1 false (.t 4), none, 1⟩,
     ⟨some 6, .faddr 0 (.t 1), none, 0⟩,
     ⟨some 7, .load 1 false (.t 6), none, 4⟩,
     ⟨some 8, .bin .eql (.t 5) (.t 7), none, 15⟩,
     ⟨some 3, .mov (.t 8), none, 31⟩] false) (
  .ret))⟩
theorem t_shadow_Agree_1 : tabOf Try.prog n_shadow_Agree_1 = some c_shadow_Agree_1 := by kernel_rfl

-- 142 wireloom/shadow.first[wireloom/api.Stream]
def c_shadow_first_Stream_ : AFunc :=
  ⟨2, 20, [.cell 4 2 true, .tmp 5],
  .seq (
   .region [
     ⟨some 4, .alloc ⟨2, true, 40, [(.str ⟨#[]⟩), .nil]⟩, none, 0⟩,
     ⟨some 5, .mov (.c (.int .i64 0)), none, 0⟩] false) (
  .seq (
   .region [
     ⟨some 8, .mov (.t 0), none, 0⟩,
     ⟨some 9, .mov (.t 1), none, 0⟩,
     ⟨some 10, .call n_IndexFunc___Stream_Stream_ [(.t 8), (.t 9)], none, 3⟩,
     ⟨some 6, .mov (.t 10), none, 7⟩] false) (
  .seq (
   .seq (
    .region [
      ⟨some 11, .mov (.t 6), none, 0⟩,
      ⟨some 12, .bin .lss (.t 11) (.c (.int .i64 0)), none, 1⟩] false) (
   .cond (.t 12) (
    .seq (
     .region [
       ⟨some 7, .alloc ⟨2, true, 40, [(.str ⟨#[]⟩), .nil]⟩, none, 0⟩] false) (
    .seq (
     .region [
       ⟨some 13, .load 2 true (.t 7), none, 0⟩,
       ⟨some 14, .mov (.t 6), none, 0⟩,
       ⟨none, .store 2 (.t 4) (.t 13), none, 1⟩,
       ⟨some 5, .mov (.t 14), none, 7⟩] false) (
    .ret))) (
    .skip))) (
  .seq (
   .region [
     ⟨some 15, .mov (.t 0), none, 0⟩,
     ⟨some 16, .mov (.t 6), none, 0⟩,
     ⟨some 17, .iaddr 2 none (.t 15) (.t 16), none, 3⟩,
     ⟨some 18, .load 2 true (.t 17), none, 7⟩,
     ⟨some 19, .mov (.t 6), none, 0⟩,
     ⟨none, .store 2 (.t 4) (.t 18), none, 15⟩,
     ⟨some 5, .mov (.t 19), none, 63⟩] false) (
  .ret))))⟩
theorem t_shadow_first_Stream_ : tabOf Try.prog n_shadow_first_Stream_ = some c_shadow_first_Stream_ := by kernel_rfl

-- 143 wireloom/shadow.difference
def c_shadow_difference : AFunc :=
  ⟨2, 25, [.tmp 4],
  .seq (
   .region [
     ⟨some 4, .mov (.c (.int .i64 0)), none, 0⟩] false) (
  .seq (
   .seq (
    .region [
      ⟨some 6, .mov (.t 0), none, 0⟩,
      ⟨some 7, .len (.t 6), none, 1⟩,
      ⟨some 8, .mov (.t 1), none, 0⟩,
      ⟨some 9, .len (.t 8), none, 4⟩,
      ⟨some 10, .min (.t 7) [(.t 9)], none, 15⟩,
      ⟨some 11, .mov (.c (.int .i64 0)), none, 0⟩] false) (
   .block 0 (
    .loop (
     .seq (
      .region [
        ⟨some 12, .bin .lss (.t 11) (.t 10), none, 0⟩] false) (
     .seq (
      .cond (.t 12) (
       .skip) (
       .exit 0)) (
     .seq (
      .block 1 (
       .seq (
        .region [
          ⟨some 13, .mov (.t 11), none, 0⟩,
          ⟨some 5, .mov (.t 13), none, 1⟩] false) (
       .seq (
        .region [
          ⟨some 14, .mov (.t 0), none, 0⟩,
          ⟨some 15, .mov (.t 5), none, 0⟩,
          ⟨some 16, .iaddr 1 none (.t 14) (.t 15), none, 3⟩,
          ⟨some 17, .load 1 false (.t 16), none, 7⟩,
          ⟨some 18, .mov (.t 1), none, 0⟩,
          ⟨some 19, .mov (.t 5), none, 0⟩,
          ⟨some 20, .iaddr 1 none (.t 18) (.t 19), none, 48⟩,
          ⟨some 21, .load 1 false (.t 20), none, 112⟩,
          ⟨some 22, .bin .neq (.t 17) (.t 21), none, 255⟩] true) (
       .cond (.t 22) (
        .seq (
         .region [
           ⟨some 23, .mov (.t 5), none, 0⟩,
           ⟨some 4, .mov (.t 23), none, 1⟩] false) (
        .ret)) (
        .skip))))) (
     .region [
       ⟨some 24, .bin .add (.t 11) (.c (.int .i64 1)), none, 0⟩,
       ⟨some 11, .mov (.t 24), none, 1⟩] false))))))) (
  .seq (
   .region [
     ⟨some 4, .mov (.c (.int .i64 (-1))), none, 0⟩] false) (
  .ret)))⟩
theorem t_shadow_difference : tabOf Try.prog n_shadow_difference = some c_shadow_difference := by kernel_rfl

-- 183 slices.IndexFunc[[]wireloom/api.Stream,wireloom/api.Stream]
def c_IndexFunc___Stream_Stream_ : AFunc :=
  ⟨2, 19, [.tmp 4],
  .seq (
   .region [
     ⟨some 4, .mov (.c (.int .i64 0)), none, 0⟩] false) (
  .seq (
   .seq (
    .region [
      ⟨some 6, .mov (.t 0), none, 0⟩,
      ⟨some 7, .len (.t 6), none, 1⟩,
      ⟨some 8, .mov (.c (.int .i64 0)), none, 0⟩] false) (
   .block 0 (
    .loop (
     .seq (
      .region [
        ⟨some 9, .bin .lss (.t 8) (.t 7), none, 0⟩] false) (
     .seq (
      .cond (.t 9) (
       .skip) (
       .exit 0)) (
     .seq (
      .block 1 (
       .seq (
        .region [
          ⟨some 10, .mov (.t 8), none, 0⟩,
          ⟨some 5, .mov (.t 10), none, 1⟩] false) (
       .seq (
        .region [
          ⟨some 11, .mov (.t 1), none, 0⟩,
          ⟨some 12, .mov (.t 0), none, 0⟩,
          ⟨some 13, .mov (.t 5), none, 0⟩,
          ⟨some 14, .iaddr 2 none (.t 12) (.t 13), none, 6⟩,
          ⟨some 15, .load 2 true (.t 14), none, 14⟩,
          ⟨some 16, .callv (.t 11) [(.t 15)], none, 31⟩] false) (
       .cond (.t 16) (
        .seq (
         .region [
           ⟨some 17, .mov (.t 5), none, 0⟩,
           ⟨some 4, .mov (.t 17), none, 1⟩] false) (
        .ret)) (
        .skip))))) (
     .region [
       ⟨some 18, .bin .add (.t 8) (.c (.int .i64 1)), none, 0⟩,
       ⟨some 8, .mov (.t 18), none, 1⟩] false))))))) (
  .seq (
   .region [
     ⟨some 4, .mov (.c (.int .i64 (-1))), none, 0⟩] false) (
  .ret)))⟩
theorem t_IndexFunc___Stream_Stream_ : tabOf Try.prog n_IndexFunc___Stream_Stream_ = some c_IndexFunc___Stream_Stream_ := by kernel_rfl

end Go.Aw
