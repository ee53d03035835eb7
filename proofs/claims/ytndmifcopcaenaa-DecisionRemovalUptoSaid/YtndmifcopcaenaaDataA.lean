/- What the functions of this program give, on the abstract machine. -/
import Derived.Test.YtndmifcopcaenaaMachineB
set_option linter.unusedVariables false
set_option linter.unusedSimpArgs false
set_option linter.unusedSectionVars false
set_option maxRecDepth 100000
namespace Go.AM.IR
open Go Go.AM

/-- routing/routinglaw40.DecisionCost -/
def f1x0 : List AOper := [
  ⟨(some 3), .box (.t 1), none, []⟩,
  ⟨(some 4), .mv (.c (.bool false)), none, []⟩]
def f1x1 : List AOper := [
  ⟨(some 9), .mv (.t 0), none, []⟩,
  ⟨(some 10), .len false (.t 9), none, []⟩,
  ⟨(some 11), .bin .gtr (.t 10) (.c (.int .i64 3000)), none, []⟩]
def f1x2 : List AOper := [
  ⟨(some 12), .call (.c (.fn 8 [])) [], none, []⟩,
  ⟨(some 4), .mv (.t 12), none, []⟩]
def f1x3 : List AOper := [
  ⟨(some 14), .mv (.t 0), none, []⟩,
  ⟨(some 15), .load (some 22) (.t 3), none, []⟩,
  ⟨(some 16), .call (.c (.fn 9 [])) [(.t 14), (.t 15)], none, []⟩,
  ⟨(some 13), .mv (.t 16), none, []⟩,
  ⟨(some 17), .ext (.t 13) 0, none, []⟩,
  ⟨(some 18), .ext (.t 13) 1, none, []⟩,
  ⟨(some 5), .mv (.t 17), none, []⟩,
  ⟨(some 6), .mv (.t 18), none, []⟩]
def f1x4 : List AOper := [
  ⟨(some 20), .mv (.t 0), none, []⟩,
  ⟨(some 21), .load (some 22) (.t 3), none, []⟩,
  ⟨(some 22), .call (.c (.fn 10 [])) [(.t 20), (.t 21)], none, []⟩,
  ⟨(some 19), .mv (.t 22), none, []⟩,
  ⟨(some 23), .ext (.t 19) 0, none, []⟩,
  ⟨(some 24), .ext (.t 19) 1, none, []⟩,
  ⟨(some 7), .mv (.t 23), none, []⟩,
  ⟨(some 8), .mv (.t 24), none, []⟩]
def f1x5 : List AOper := [
  ⟨(some 25), .mv (.t 5), none, []⟩,
  ⟨(some 26), .mv (.t 7), none, []⟩,
  ⟨(some 27), .bin .eql (.t 25) (.t 26), none, []⟩,
  ⟨(some 28), .mv (.t 27), none, []⟩,
  ⟨(some 29), .mv (.t 6), (some (28, true)), []⟩,
  ⟨(some 30), .mv (.t 8), (some (28, true)), []⟩,
  ⟨(some 31), .eqb false (.t 29) (.t 30), (some (28, true)), []⟩,
  ⟨(some 32), .pick (.t 28) (.t 31) (.c (.bool false)), none, []⟩,
  ⟨(some 33), .mv (.t 32), none, []⟩,
  ⟨(some 34), .call (.c (.fn 8 [])) [], (some (33, true)), []⟩,
  ⟨(some 35), .pick (.t 33) (.t 34) (.c (.bool false)), none, []⟩,
  ⟨(some 4), .mv (.t 35), none, []⟩]
def f1 : AFunc := ⟨36, 2, false, [.t 4], (.seq (.region f1x0 false) (.seq (.seq (.region f1x1 false) (.cond (.t 11) (.seq (.region f1x2 false) .ret) .skip)) (.seq (.region f1x3 false) (.seq (.region f1x4 false) (.seq (.region f1x5 false) .ret)))))⟩

/-- routing/routinglaw40.DecisionCompare -/
def f2x0 : List AOper := [
  ⟨(some 3), .box (.t 0), none, []⟩,
  ⟨(some 4), .box (.t 1), none, []⟩,
  ⟨(some 6), .mv (.c (.bool false)), none, []⟩]
def f2x1 : List AOper := [
  ⟨(some 13), .load (some 22) (.t 3), none, []⟩,
  ⟨(some 14), .load (some 22) (.t 4), none, []⟩,
  ⟨(some 15), .bsl 22 [.int .u32 0, .int .i64 0, .int .i64 0, .con (.slice none 0 0), .int .u32 0, .bool false, .int .i64 0, .bool false, .int .i64 0, .bool false, .bool false, .int .i64 0, .int .u32 0, .con (.slice none 0 0), .bool false, .int .u32 0, .con (.slice none 0 0), .con (.slice none 0 0), .int .i64 0, .int .i64 0, .int .u32 0, .bool false] 2 [0, 1] [(.t 13), (.t 14)], none, []⟩,
  ⟨(some 16), .call (.c (.fn 11 [])) [(.t 15)], none, []⟩,
  ⟨(some 17), .mv (.t 16), none, []⟩,
  ⟨(some 18), .mv (.t 2), (some (17, false)), []⟩,
  ⟨(some 19), .len false (.t 18), (some (17, false)), []⟩,
  ⟨(some 20), .bin .gtr (.t 19) (.c (.int .i64 3000)), (some (17, false)), []⟩,
  ⟨(some 21), .pick (.t 17) (.c (.bool true)) (.t 20), none, []⟩]
def f2x2 : List AOper := [
  ⟨(some 22), .call (.c (.fn 8 [])) [], none, []⟩,
  ⟨(some 6), .mv (.t 22), none, []⟩]
def f2x3 : List AOper := [
  ⟨(some 24), .load (some 22) (.t 3), none, []⟩,
  ⟨(some 25), .load (some 22) (.t 4), none, []⟩,
  ⟨(some 26), .mv (.t 2), none, []⟩,
  ⟨(some 27), .call (.c (.fn 12 [])) [(.t 24), (.t 25), (.t 26)], none, []⟩,
  ⟨(some 23), .mv (.t 27), none, []⟩,
  ⟨(some 28), .ext (.t 23) 0, none, []⟩,
  ⟨(some 29), .ext (.t 23) 1, none, []⟩,
  ⟨(some 7), .mv (.t 28), none, []⟩,
  ⟨(some 8), .mv (.t 29), none, []⟩]
def f2x4 : List AOper := [
  ⟨(some 31), .load (some 22) (.t 3), none, []⟩,
  ⟨(some 32), .load (some 22) (.t 4), none, []⟩,
  ⟨(some 33), .mv (.t 2), none, []⟩,
  ⟨(some 34), .call (.c (.fn 13 [])) [(.t 31), (.t 32), (.t 33)], none, []⟩,
  ⟨(some 30), .mv (.t 34), none, []⟩,
  ⟨(some 35), .ext (.t 30) 0, none, []⟩,
  ⟨(some 36), .ext (.t 30) 1, none, []⟩,
  ⟨(some 9), .mv (.t 35), none, []⟩,
  ⟨(some 10), .mv (.t 36), none, []⟩]
def f2x5 : List AOper := [
  ⟨(some 38), .load (some 22) (.t 4), none, []⟩,
  ⟨(some 39), .load (some 22) (.t 3), none, []⟩,
  ⟨(some 40), .mv (.t 2), none, []⟩,
  ⟨(some 41), .call (.c (.fn 12 [])) [(.t 38), (.t 39), (.t 40)], none, []⟩,
  ⟨(some 37), .mv (.t 41), none, []⟩,
  ⟨(some 42), .ext (.t 37) 0, none, []⟩,
  ⟨(some 43), .ext (.t 37) 1, none, []⟩,
  ⟨(some 11), .mv (.t 42), none, []⟩,
  ⟨(some 12), .mv (.t 43), none, []⟩]
def f2x6 : List AOper := [
  ⟨(some 44), .mv (.t 7), none, []⟩,
  ⟨(some 45), .mv (.t 9), none, []⟩,
  ⟨(some 46), .bin .eql (.t 44) (.t 45), none, []⟩,
  ⟨(some 47), .mv (.t 46), none, []⟩,
  ⟨(some 48), .mv (.t 8), (some (47, true)), []⟩,
  ⟨(some 49), .mv (.t 10), (some (47, true)), []⟩,
  ⟨(some 50), .bin .eql (.t 48) (.t 49), (some (47, true)), []⟩,
  ⟨(some 51), .pick (.t 47) (.t 50) (.c (.bool false)), none, []⟩,
  ⟨(some 52), .mv (.t 51), none, []⟩,
  ⟨(some 53), .mv (.t 11), (some (52, true)), []⟩,
  ⟨(some 54), .mv (.t 7), (some (52, true)), []⟩,
  ⟨(some 55), .un .neg (.t 54), (some (52, true)), []⟩,
  ⟨(some 56), .bin .eql (.t 53) (.t 55), (some (52, true)), []⟩,
  ⟨(some 57), .pick (.t 52) (.t 56) (.c (.bool false)), none, []⟩,
  ⟨(some 58), .mv (.t 57), none, []⟩,
  ⟨(some 59), .mv (.t 12), (some (58, true)), []⟩,
  ⟨(some 60), .mv (.t 8), (some (58, true)), []⟩,
  ⟨(some 61), .bin .eql (.t 59) (.t 60), (some (58, true)), []⟩,
  ⟨(some 62), .pick (.t 58) (.t 61) (.c (.bool false)), none, []⟩,
  ⟨(some 63), .mv (.t 62), none, []⟩,
  ⟨(some 64), .call (.c (.fn 8 [])) [], (some (63, true)), []⟩,
  ⟨(some 65), .pick (.t 63) (.t 64) (.c (.bool false)), none, []⟩,
  ⟨(some 6), .mv (.t 65), none, []⟩]
def f2 : AFunc := ⟨66, 3, false, [.t 6], (.seq (.region f2x0 false) (.seq (.seq (.region f2x1 false) (.cond (.t 21) (.seq (.region f2x2 false) .ret) .skip)) (.seq (.region f2x3 false) (.seq (.region f2x4 false) (.seq (.region f2x5 false) (.seq (.region f2x6 false) .ret))))))⟩

/-- routing/routinglaw40.DecisionBest -/
def f3x0 : List AOper := [
  ⟨(some 4), .mv (.c (.bool false)), none, []⟩]
def f3x1 : List AOper := [
  ⟨(some 9), .mv (.t 0), none, []⟩,
  ⟨(some 10), .call (.c (.fn 11 [])) [(.t 9)], none, []⟩,
  ⟨(some 11), .mv (.t 10), none, []⟩,
  ⟨(some 12), .mv (.t 0), (some (11, false)), []⟩,
  ⟨(some 13), .len false (.t 12), (some (11, false)), []⟩,
  ⟨(some 14), .bin .gtr (.t 13) (.c (.int .i64 40)), (some (11, false)), []⟩,
  ⟨(some 15), .pick (.t 11) (.c (.bool true)) (.t 14), none, []⟩,
  ⟨(some 16), .mv (.t 15), none, []⟩,
  ⟨(some 17), .mv (.t 1), (some (16, false)), []⟩,
  ⟨(some 18), .len false (.t 17), (some (16, false)), []⟩,
  ⟨(some 19), .bin .gtr (.t 18) (.c (.int .i64 3000)), (some (16, false)), []⟩,
  ⟨(some 20), .pick (.t 16) (.c (.bool true)) (.t 19), none, []⟩]
def f3x2 : List AOper := [
  ⟨(some 21), .call (.c (.fn 8 [])) [], none, []⟩,
  ⟨(some 4), .mv (.t 21), none, []⟩]
def f3x3 : List AOper := [
  ⟨(some 23), .mv (.t 0), none, []⟩,
  ⟨(some 24), .mv (.t 1), none, []⟩,
  ⟨(some 25), .call (.c (.fn 14 [])) [(.t 23), (.t 24)], none, []⟩,
  ⟨(some 22), .mv (.t 25), none, []⟩,
  ⟨(some 26), .ext (.t 22) 0, none, []⟩,
  ⟨(some 27), .ext (.t 22) 1, none, []⟩,
  ⟨(some 5), .mv (.t 26), none, []⟩,
  ⟨(some 6), .mv (.t 27), none, []⟩]
def f3x4 : List AOper := [
  ⟨(some 29), .mv (.t 0), none, []⟩,
  ⟨(some 30), .mv (.t 1), none, []⟩,
  ⟨(some 31), .call (.c (.fn 15 [])) [(.t 29), (.t 30)], none, []⟩,
  ⟨(some 28), .mv (.t 31), none, []⟩,
  ⟨(some 32), .ext (.t 28) 0, none, []⟩,
  ⟨(some 33), .ext (.t 28) 1, none, []⟩,
  ⟨(some 7), .mv (.t 32), none, []⟩,
  ⟨(some 8), .mv (.t 33), none, []⟩]
def f3x5 : List AOper := [
  ⟨(some 34), .mv (.t 5), none, []⟩,
  ⟨(some 35), .mv (.t 7), none, []⟩,
  ⟨(some 36), .bin .eql (.t 34) (.t 35), none, []⟩,
  ⟨(some 37), .mv (.t 36), none, []⟩,
  ⟨(some 38), .mv (.t 6), (some (37, true)), []⟩,
  ⟨(some 39), .mv (.t 8), (some (37, true)), []⟩,
  ⟨(some 40), .eqb false (.t 38) (.t 39), (some (37, true)), []⟩,
  ⟨(some 41), .pick (.t 37) (.t 40) (.c (.bool false)), none, []⟩,
  ⟨(some 42), .mv (.t 41), none, []⟩,
  ⟨(some 43), .call (.c (.fn 8 [])) [], (some (42, true)), []⟩,
  ⟨(some 44), .pick (.t 42) (.t 43) (.c (.bool false)), none, []⟩,
  ⟨(some 4), .mv (.t 44), none, []⟩]
def f3 : AFunc := ⟨45, 2, false, [.t 4], (.seq (.region f3x0 false) (.seq (.seq (.region f3x1 false) (.cond (.t 20) (.seq (.region f3x2 false) .ret) .skip)) (.seq (.region f3x3 false) (.seq (.region f3x4 false) (.seq (.region f3x5 false) .ret)))))⟩

/-- routing/routinglaw40.DecisionEqual -/
def f4x0 : List AOper := [
  ⟨(some 6), .mv (.c (.bool false)), none, []⟩]
def f4x1 : List AOper := [
  ⟨(some 10), .mv (.t 0), none, []⟩,
  ⟨(some 11), .call (.c (.fn 11 [])) [(.t 10)], none, []⟩,
  ⟨(some 12), .mv (.t 11), none, []⟩,
  ⟨(some 13), .mv (.t 0), (some (12, false)), []⟩,
  ⟨(some 14), .len false (.t 13), (some (12, false)), []⟩,
  ⟨(some 15), .bin .gtr (.t 14) (.c (.int .i64 40)), (some (12, false)), []⟩,
  ⟨(some 16), .pick (.t 12) (.c (.bool true)) (.t 15), none, []⟩,
  ⟨(some 17), .mv (.t 16), none, []⟩,
  ⟨(some 18), .mv (.t 1), (some (17, false)), []⟩,
  ⟨(some 19), .len false (.t 18), (some (17, false)), []⟩,
  ⟨(some 20), .bin .gtr (.t 19) (.c (.int .i64 3000)), (some (17, false)), []⟩,
  ⟨(some 21), .pick (.t 17) (.c (.bool true)) (.t 20), none, []⟩]
def f4x2 : List AOper := [
  ⟨(some 22), .call (.c (.fn 8 [])) [], none, []⟩,
  ⟨(some 6), .mv (.t 22), none, []⟩]
def f4x3 : List AOper := [
  ⟨(some 23), .mv (.t 0), none, []⟩,
  ⟨(some 24), .mv (.t 1), none, []⟩,
  ⟨(some 25), .mv (.t 2), none, []⟩,
  ⟨(some 26), .call (.c (.fn 16 [])) [(.t 23), (.t 24), (.t 25)], none, []⟩,
  ⟨(some 27), .mv (.t 0), none, []⟩,
  ⟨(some 28), .mv (.t 1), none, []⟩,
  ⟨(some 29), .mv (.t 2), none, []⟩,
  ⟨(some 30), .call (.c (.fn 17 [])) [(.t 27), (.t 28), (.t 29)], none, []⟩,
  ⟨(some 7), .mv (.t 26), none, []⟩,
  ⟨(some 8), .mv (.t 30), none, []⟩]
def f4x4 : List AOper := [
  ⟨(some 31), .mv (.t 7), none, []⟩,
  ⟨(some 32), .len false (.t 31), none, []⟩,
  ⟨(some 33), .mv (.t 8), none, []⟩,
  ⟨(some 34), .len false (.t 33), none, []⟩,
  ⟨(some 35), .bin .neq (.t 32) (.t 34), none, []⟩]
def f4x5 : List AOper := [
  ⟨(some 6), .mv (.c (.bool false)), none, []⟩]
def f4x6 : List AOper := [
  ⟨(some 36), .mv (.t 7), none, []⟩,
  ⟨(some 37), .len false (.t 36), none, []⟩,
  ⟨(some 38), .mv (.c (.int .i64 0)), none, []⟩]
def f4x7 : List AOper := [
  ⟨(some 39), .bin .lss (.t 38) (.t 37), none, []⟩]
def f4x8 : List AOper := [
  ⟨(some 40), .mv (.t 38), none, []⟩,
  ⟨(some 9), .mv (.t 40), none, []⟩]
def f4x9 : List AOper := [
  ⟨(some 41), .mv (.t 7), none, []⟩,
  ⟨(some 42), .mv (.t 9), none, []⟩,
  ⟨(some 43), .iadr 1 (.t 41) (.t 42), none, []⟩,
  ⟨(some 44), .load none (.t 43), none, [2]⟩,
  ⟨(some 45), .mv (.t 8), none, []⟩,
  ⟨(some 46), .mv (.t 9), none, []⟩,
  ⟨(some 47), .iadr 1 (.t 45) (.t 46), none, []⟩,
  ⟨(some 48), .load none (.t 47), none, [6]⟩,
  ⟨(some 49), .bin .neq (.t 44) (.t 48), none, []⟩]
def f4x10 : List AOper := [
  ⟨(some 6), .mv (.c (.bool false)), none, []⟩]
def f4x11 : List AOper := [
  ⟨(some 50), .bin .add (.t 38) (.c (.int .i64 1)), none, []⟩,
  ⟨(some 38), .mv (.t 50), none, []⟩]
def f4x12L : ACode := (.seq (.region f4x7 false) (.seq (.cond (.t 39) .skip (.exit 0)) (.seq (.block 1 (.seq (.region f4x8 false) (.seq (.region f4x9 true) (.cond (.t 49) (.seq (.region f4x10 false) .ret) .skip)))) (.region f4x11 false))))
def f4x13 : List AOper := [
  ⟨(some 51), .call (.c (.fn 8 [])) [], none, []⟩,
  ⟨(some 6), .mv (.t 51), none, []⟩]
def f4 : AFunc := ⟨52, 3, false, [.t 6], (.seq (.region f4x0 false) (.seq (.seq (.region f4x1 false) (.cond (.t 21) (.seq (.region f4x2 false) .ret) .skip)) (.seq (.region f4x3 false) (.seq (.seq (.region f4x4 false) (.cond (.t 35) (.seq (.region f4x5 false) .ret) .skip)) (.seq (.seq (.region f4x6 false) (.block 0 (.loop f4x12L))) (.seq (.region f4x13 false) .ret))))))⟩

/-- routing/routinglaw40.DecisionOrder -/
def f5x0 : List AOper := [
  ⟨(some 6), .mv (.c (.bool false)), none, []⟩]
def f5x1 : List AOper := [
  ⟨(some 15), .mv (.t 0), none, []⟩,
  ⟨(some 16), .call (.c (.fn 11 [])) [(.t 15)], none, []⟩,
  ⟨(some 17), .mv (.t 16), none, []⟩,
  ⟨(some 18), .mv (.t 0), (some (17, false)), []⟩,
  ⟨(some 19), .len false (.t 18), (some (17, false)), []⟩,
  ⟨(some 20), .bin .gtr (.t 19) (.c (.int .i64 40)), (some (17, false)), []⟩,
  ⟨(some 21), .pick (.t 17) (.c (.bool true)) (.t 20), none, []⟩,
  ⟨(some 22), .mv (.t 21), none, []⟩,
  ⟨(some 23), .mv (.t 2), (some (22, false)), []⟩,
  ⟨(some 24), .len false (.t 23), (some (22, false)), []⟩,
  ⟨(some 25), .bin .gtr (.t 24) (.c (.int .i64 3000)), (some (22, false)), []⟩,
  ⟨(some 26), .pick (.t 22) (.c (.bool true)) (.t 25), none, []⟩,
  ⟨(some 27), .mv (.t 26), none, []⟩,
  ⟨(some 28), .mv (.t 1), (some (27, false)), []⟩,
  ⟨(some 29), .len false (.t 28), (some (27, false)), []⟩,
  ⟨(some 30), .mv (.t 0), (some (27, false)), []⟩,
  ⟨(some 31), .len false (.t 30), (some (27, false)), []⟩,
  ⟨(some 32), .bin .neq (.t 29) (.t 31), (some (27, false)), []⟩,
  ⟨(some 33), .pick (.t 27) (.c (.bool true)) (.t 32), none, []⟩,
  ⟨(some 34), .mv (.t 33), none, []⟩,
  ⟨(some 35), .mv (.t 0), (some (34, false)), []⟩,
  ⟨(some 36), .call (.c (.fn 18 [])) [(.t 35)], (some (34, false)), []⟩,
  ⟨(some 37), .un .not (.t 36), (some (34, false)), []⟩,
  ⟨(some 38), .pick (.t 34) (.c (.bool true)) (.t 37), none, []⟩]
def f5x2 : List AOper := [
  ⟨(some 39), .call (.c (.fn 8 [])) [], none, []⟩,
  ⟨(some 6), .mv (.t 39), none, []⟩]
def f5x3 : List AOper := [
  ⟨(some 7), .mv (.c (.con (.slice none 0 0))), none, []⟩]
def f5x4 : List AOper := [
  ⟨(some 40), .mv (.t 0), none, []⟩,
  ⟨(some 41), .len false (.t 40), none, []⟩,
  ⟨(some 42), .mksl 1 1 [.bool false] (.t 41) (.t 41), none, []⟩,
  ⟨(some 8), .mv (.t 42), none, []⟩]
def f5x5 : List AOper := [
  ⟨(some 43), .mv (.t 1), none, []⟩,
  ⟨(some 44), .len false (.t 43), none, []⟩,
  ⟨(some 45), .mv (.c (.int .i64 0)), none, []⟩]
def f5x6 : List AOper := [
  ⟨(some 46), .bin .lss (.t 45) (.t 44), none, []⟩]
def f5x7 : List AOper := [
  ⟨(some 47), .iadr 1 (.t 43) (.t 45), none, []⟩,
  ⟨(some 48), .load none (.t 47), none, []⟩,
  ⟨(some 10), .mv (.t 48), none, []⟩]
def f5x8 : List AOper := [
  ⟨(some 49), .mv (.t 10), none, []⟩,
  ⟨(some 50), .bin .lss (.t 49) (.c (.int .i64 0)), none, []⟩,
  ⟨(some 51), .mv (.t 50), none, []⟩,
  ⟨(some 52), .mv (.t 10), (some (51, false)), []⟩,
  ⟨(some 53), .mv (.t 0), (some (51, false)), []⟩,
  ⟨(some 54), .len false (.t 53), (some (51, false)), []⟩,
  ⟨(some 55), .bin .geq (.t 52) (.t 54), (some (51, false)), []⟩,
  ⟨(some 56), .pick (.t 51) (.c (.bool true)) (.t 55), none, []⟩,
  ⟨(some 57), .mv (.t 56), none, []⟩,
  ⟨(some 58), .mv (.t 8), (some (57, false)), []⟩,
  ⟨(some 59), .mv (.t 10), (some (57, false)), []⟩,
  ⟨(some 60), .iadr 1 (.t 58) (.t 59), (some (57, false)), []⟩,
  ⟨(some 61), .load none (.t 60), (some (57, false)), []⟩,
  ⟨(some 62), .pick (.t 57) (.c (.bool true)) (.t 61), none, []⟩]
def f5x9 : List AOper := [
  ⟨(some 63), .call (.c (.fn 8 [])) [], none, []⟩,
  ⟨(some 6), .mv (.t 63), none, []⟩]
def f5x10 : List AOper := [
  ⟨(some 64), .mv (.t 8), none, []⟩,
  ⟨(some 65), .mv (.t 10), none, []⟩,
  ⟨(some 66), .iadr 1 (.t 64) (.t 65), none, []⟩,
  ⟨none, .store 1 (.t 66) (.c (.bool true)), none, []⟩]
def f5x11 : List AOper := [
  ⟨(some 67), .mv (.t 7), none, []⟩,
  ⟨(some 68), .mv (.t 0), none, []⟩,
  ⟨(some 69), .mv (.t 10), none, []⟩,
  ⟨(some 70), .iadr 22 (.t 68) (.t 69), none, []⟩,
  ⟨(some 71), .load (some 22) (.t 70), none, []⟩,
  ⟨(some 72), .bsl 22 [.int .u32 0, .int .i64 0, .int .i64 0, .con (.slice none 0 0), .int .u32 0, .bool false, .int .i64 0, .bool false, .int .i64 0, .bool false, .bool false, .int .i64 0, .int .u32 0, .con (.slice none 0 0), .bool false, .int .u32 0, .con (.slice none 0 0), .con (.slice none 0 0), .int .i64 0, .int .i64 0, .int .u32 0, .bool false] 1 [0] [(.t 71)], none, []⟩,
  ⟨(some 73), .app 22 208 (.t 67) (.t 72), none, []⟩,
  ⟨(some 7), .mv (.t 73), none, []⟩]
def f5x12 : List AOper := [
  ⟨(some 74), .bin .add (.t 45) (.c (.int .i64 1)), none, []⟩,
  ⟨(some 45), .mv (.t 74), none, []⟩]
def f5x13L : ACode := (.seq (.region f5x6 false) (.seq (.cond (.t 46) .skip (.exit 0)) (.seq (.block 1 (.seq (.region f5x7 false) (.seq (.seq (.region f5x8 false) (.cond (.t 62) (.seq (.region f5x9 false) .ret) .skip)) (.seq (.region f5x10 false) (.region f5x11 false))))) (.region f5x12 false))))
def f5x14 : List AOper := [
  ⟨(some 76), .mv (.t 0), none, []⟩,
  ⟨(some 77), .mv (.t 2), none, []⟩,
  ⟨(some 78), .call (.c (.fn 14 [])) [(.t 76), (.t 77)], none, []⟩,
  ⟨(some 75), .mv (.t 78), none, []⟩,
  ⟨(some 79), .ext (.t 75) 0, none, []⟩,
  ⟨(some 80), .ext (.t 75) 1, none, []⟩,
  ⟨(some 11), .mv (.t 79), none, []⟩,
  ⟨(some 12), .mv (.t 80), none, []⟩]
def f5x15 : List AOper := [
  ⟨(some 82), .mv (.t 7), none, []⟩,
  ⟨(some 83), .mv (.t 2), none, []⟩,
  ⟨(some 84), .call (.c (.fn 14 [])) [(.t 82), (.t 83)], none, []⟩,
  ⟨(some 81), .mv (.t 84), none, []⟩,
  ⟨(some 85), .ext (.t 81) 0, none, []⟩,
  ⟨(some 86), .ext (.t 81) 1, none, []⟩,
  ⟨(some 13), .mv (.t 85), none, []⟩,
  ⟨(some 14), .mv (.t 86), none, []⟩]
def f5x16 : List AOper := [
  ⟨(some 87), .mv (.t 12), none, []⟩,
  ⟨(some 88), .mv (.t 14), none, []⟩,
  ⟨(some 89), .eqb true (.t 87) (.t 88), none, []⟩]
def f5x17 : List AOper := [
  ⟨(some 6), .mv (.c (.bool false)), none, []⟩]
def f5x18 : List AOper := [
  ⟨(some 90), .mv (.t 12), none, []⟩,
  ⟨(some 91), .un .not (.t 90), none, []⟩,
  ⟨(some 92), .mv (.t 91), none, []⟩,
  ⟨(some 93), .mv (.t 0), (some (92, false)), []⟩,
  ⟨(some 94), .mv (.t 11), (some (92, false)), []⟩,
  ⟨(some 95), .iadr 22 (.t 93) (.t 94), (some (92, false)), []⟩,
  ⟨(some 96), .fadr 18 (.t 95), (some (92, false)), []⟩,
  ⟨(some 97), .load none (.t 96), (some (92, false)), [5]⟩,
  ⟨(some 98), .mv (.t 7), (some (92, false)), []⟩,
  ⟨(some 99), .mv (.t 13), (some (92, false)), []⟩,
  ⟨(some 100), .iadr 22 (.t 98) (.t 99), (some (92, false)), []⟩,
  ⟨(some 101), .fadr 18 (.t 100), (some (92, false)), []⟩,
  ⟨(some 102), .load none (.t 101), (some (92, false)), [10]⟩,
  ⟨(some 103), .bin .eql (.t 97) (.t 102), (some (92, false)), []⟩,
  ⟨(some 104), .pick (.t 92) (.c (.bool true)) (.t 103), none, []⟩,
  ⟨(some 105), .mv (.t 104), none, []⟩,
  ⟨(some 106), .call (.c (.fn 8 [])) [], (some (105, true)), [7, 12, 5, 10]⟩,
  ⟨(some 107), .pick (.t 105) (.t 106) (.c (.bool false)), none, []⟩,
  ⟨(some 6), .mv (.t 107), none, []⟩]
def f5 : AFunc := ⟨108, 3, false, [.t 6], (.seq (.region f5x0 false) (.seq (.seq (.region f5x1 false) (.cond (.t 38) (.seq (.region f5x2 false) .ret) .skip)) (.seq (.region f5x3 false) (.seq (.region f5x4 false) (.seq (.seq (.region f5x5 false) (.block 0 (.loop f5x13L))) (.seq (.region f5x14 false) (.seq (.region f5x15 false) (.seq (.seq (.region f5x16 false) (.cond (.t 89) (.seq (.region f5x17 false) .ret) .skip)) (.seq (.region f5x18 true) .ret)))))))))⟩

/-- routing/routinglaw40.DecisionRemoval -/
def f6x0 : List AOper := [
  ⟨(some 6), .mv (.c (.bool false)), none, []⟩]
def f6x1 : List AOper := [
  ⟨(some 21), .mv (.t 0), none, []⟩,
  ⟨(some 22), .call (.c (.fn 11 [])) [(.t 21)], none, []⟩,
  ⟨(some 23), .mv (.t 22), none, []⟩,
  ⟨(some 24), .mv (.t 0), (some (23, false)), []⟩,
  ⟨(some 25), .len false (.t 24), (some (23, false)), []⟩,
  ⟨(some 26), .bin .gtr (.t 25) (.c (.int .i64 40)), (some (23, false)), []⟩,
  ⟨(some 27), .pick (.t 23) (.c (.bool true)) (.t 26), none, []⟩,
  ⟨(some 28), .mv (.t 27), none, []⟩,
  ⟨(some 29), .mv (.t 2), (some (28, false)), []⟩,
  ⟨(some 30), .len false (.t 29), (some (28, false)), []⟩,
  ⟨(some 31), .bin .gtr (.t 30) (.c (.int .i64 3000)), (some (28, false)), []⟩,
  ⟨(some 32), .pick (.t 28) (.c (.bool true)) (.t 31), none, []⟩,
  ⟨(some 33), .mv (.t 32), none, []⟩,
  ⟨(some 34), .mv (.t 1), (some (33, false)), []⟩,
  ⟨(some 35), .bin .lss (.t 34) (.c (.int .i64 0)), (some (33, false)), []⟩,
  ⟨(some 36), .pick (.t 33) (.c (.bool true)) (.t 35), none, []⟩,
  ⟨(some 37), .mv (.t 36), none, []⟩,
  ⟨(some 38), .mv (.t 1), (some (37, false)), []⟩,
  ⟨(some 39), .mv (.t 0), (some (37, false)), []⟩,
  ⟨(some 40), .len false (.t 39), (some (37, false)), []⟩,
  ⟨(some 41), .bin .geq (.t 38) (.t 40), (some (37, false)), []⟩,
  ⟨(some 42), .pick (.t 37) (.c (.bool true)) (.t 41), none, []⟩,
  ⟨(some 43), .mv (.t 42), none, []⟩,
  ⟨(some 44), .mv (.t 0), (some (43, false)), []⟩,
  ⟨(some 45), .call (.c (.fn 18 [])) [(.t 44)], (some (43, false)), []⟩,
  ⟨(some 46), .un .not (.t 45), (some (43, false)), []⟩,
  ⟨(some 47), .pick (.t 43) (.c (.bool true)) (.t 46), none, []⟩]
def f6x2 : List AOper := [
  ⟨(some 48), .call (.c (.fn 8 [])) [], none, []⟩,
  ⟨(some 6), .mv (.t 48), none, []⟩]
def f6x3 : List AOper := [
  ⟨(some 50), .mv (.t 0), none, []⟩,
  ⟨(some 51), .mv (.t 2), none, []⟩,
  ⟨(some 52), .call (.c (.fn 14 [])) [(.t 50), (.t 51)], none, []⟩,
  ⟨(some 49), .mv (.t 52), none, []⟩,
  ⟨(some 53), .ext (.t 49) 0, none, []⟩,
  ⟨(some 54), .ext (.t 49) 1, none, []⟩,
  ⟨(some 7), .mv (.t 53), none, []⟩,
  ⟨(some 8), .mv (.t 54), none, []⟩]
def f6x4 : List AOper := [
  ⟨(some 55), .mv (.t 8), none, []⟩,
  ⟨(some 56), .un .not (.t 55), none, []⟩,
  ⟨(some 57), .mv (.t 56), none, []⟩,
  ⟨(some 58), .mv (.t 7), (some (57, false)), []⟩,
  ⟨(some 59), .mv (.t 1), (some (57, false)), []⟩,
  ⟨(some 60), .bin .eql (.t 58) (.t 59), (some (57, false)), []⟩,
  ⟨(some 61), .pick (.t 57) (.c (.bool true)) (.t 60), none, []⟩]
def f6x5 : List AOper := [
  ⟨(some 62), .call (.c (.fn 8 [])) [], none, []⟩,
  ⟨(some 6), .mv (.t 62), none, []⟩]
def f6x6 : List AOper := [
  ⟨(some 9), .mv (.c (.con (.slice none 0 0))), none, []⟩]
def f6x7 : List AOper := [
  ⟨(some 64), .mv (.t 0), none, []⟩,
  ⟨(some 65), .mv (.t 1), none, []⟩,
  ⟨(some 66), .iadr 22 (.t 64) (.t 65), none, []⟩,
  ⟨(some 67), .fadr 2 (.t 66), none, []⟩,
  ⟨(some 68), .fadr 1 (.t 67), none, []⟩,
  ⟨(some 69), .load none (.t 68), none, []⟩,
  ⟨(some 70), .call (.c (.fn 19 [])) [(.t 69)], none, []⟩,
  ⟨(some 63), .mv (.t 70), none, []⟩,
  ⟨(some 71), .ext (.t 63) 0, none, []⟩,
  ⟨(some 72), .ext (.t 63) 1, none, []⟩,
  ⟨(some 10), .mv (.t 71), none, []⟩,
  ⟨(some 11), .mv (.t 72), none, []⟩]
def f6x8 : List AOper := [
  ⟨(some 73), .mv (.t 0), none, []⟩,
  ⟨(some 74), .len false (.t 73), none, []⟩,
  ⟨(some 75), .mv (.c (.int .i64 0)), none, []⟩]
def f6x9 : List AOper := [
  ⟨(some 76), .bin .lss (.t 75) (.t 74), none, []⟩]
def f6x10 : List AOper := [
  ⟨(some 77), .iadr 22 (.t 73) (.t 75), none, []⟩,
  ⟨(some 78), .load (some 22) (.t 77), none, []⟩,
  ⟨(some 13), .alloc (.agg [.int .u32 0, .int .i64 0, .int .i64 0, .con (.slice none 0 0), .int .u32 0, .bool false, .int .i64 0, .bool false, .int .i64 0, .bool false, .bool false, .int .i64 0, .int .u32 0, .con (.slice none 0 0), .bool false, .int .u32 0, .con (.slice none 0 0), .con (.slice none 0 0), .int .i64 0, .int .i64 0, .int .u32 0, .bool false]), none, []⟩,
  ⟨none, .store 22 (.t 13) (.t 78), none, []⟩]
def f6x11 : List AOper := [
  ⟨(some 80), .fadr 2 (.t 13), none, []⟩,
  ⟨(some 81), .fadr 1 (.t 80), none, []⟩,
  ⟨(some 82), .load none (.t 81), none, []⟩,
  ⟨(some 83), .call (.c (.fn 19 [])) [(.t 82)], none, []⟩,
  ⟨(some 79), .mv (.t 83), none, []⟩,
  ⟨(some 84), .ext (.t 79) 0, none, []⟩,
  ⟨(some 85), .ext (.t 79) 1, none, []⟩,
  ⟨(some 14), .mv (.t 84), none, []⟩,
  ⟨(some 15), .mv (.t 85), none, []⟩]
def f6x12 : List AOper := [
  ⟨(some 86), .mv (.t 11), none, []⟩,
  ⟨(some 87), .mv (.t 15), none, []⟩,
  ⟨(some 88), .eqb false (.t 86) (.t 87), none, []⟩,
  ⟨(some 89), .mv (.t 88), none, []⟩,
  ⟨(some 90), .mv (.t 10), (some (89, true)), []⟩,
  ⟨(some 91), .mv (.t 14), (some (89, true)), []⟩,
  ⟨(some 92), .bin .eql (.t 90) (.t 91), (some (89, true)), []⟩,
  ⟨(some 93), .pick (.t 89) (.t 92) (.c (.bool false)), none, []⟩]
def f6x13 : List AOper := [
  ⟨(some 94), .mv (.t 9), none, []⟩,
  ⟨(some 95), .load (some 22) (.t 13), none, []⟩,
  ⟨(some 96), .bsl 22 [.int .u32 0, .int .i64 0, .int .i64 0, .con (.slice none 0 0), .int .u32 0, .bool false, .int .i64 0, .bool false, .int .i64 0, .bool false, .bool false, .int .i64 0, .int .u32 0, .con (.slice none 0 0), .bool false, .int .u32 0, .con (.slice none 0 0), .con (.slice none 0 0), .int .i64 0, .int .i64 0, .int .u32 0, .bool false] 1 [0] [(.t 95)], none, []⟩,
  ⟨(some 97), .app 22 208 (.t 94) (.t 96), none, []⟩,
  ⟨(some 9), .mv (.t 97), none, []⟩]
def f6x14 : List AOper := [
  ⟨(some 98), .bin .add (.t 75) (.c (.int .i64 1)), none, []⟩,
  ⟨(some 75), .mv (.t 98), none, []⟩]
def f6x15L : ACode := (.seq (.region f6x9 false) (.seq (.cond (.t 76) .skip (.exit 0)) (.seq (.block 1 (.seq (.region f6x10 false) (.seq (.region f6x11 false) (.seq (.region f6x12 false) (.cond (.t 93) (.region f6x13 false) .skip))))) (.region f6x14 false))))
def f6x16 : List AOper := [
  ⟨(some 100), .mv (.t 9), none, []⟩,
  ⟨(some 101), .mv (.t 2), none, []⟩,
  ⟨(some 102), .call (.c (.fn 14 [])) [(.t 100), (.t 101)], none, []⟩,
  ⟨(some 99), .mv (.t 102), none, []⟩,
  ⟨(some 103), .ext (.t 99) 0, none, []⟩,
  ⟨(some 104), .ext (.t 99) 1, none, []⟩,
  ⟨(some 16), .mv (.t 103), none, []⟩,
  ⟨(some 17), .mv (.t 104), none, []⟩]
def f6x17 : List AOper := [
  ⟨(some 105), .mv (.t 17), none, []⟩,
  ⟨(some 106), .mv (.t 105), none, []⟩,
  ⟨(some 107), .mv (.t 9), (some (106, true)), []⟩,
  ⟨(some 108), .mv (.t 16), (some (106, true)), []⟩,
  ⟨(some 109), .iadr 22 (.t 107) (.t 108), (some (106, true)), []⟩,
  ⟨(some 110), .fadr 18 (.t 109), (some (106, true)), []⟩,
  ⟨(some 111), .load none (.t 110), (some (106, true)), [4]⟩,
  ⟨(some 112), .mv (.t 0), (some (106, true)), []⟩,
  ⟨(some 113), .mv (.t 1), (some (106, true)), []⟩,
  ⟨(some 114), .iadr 22 (.t 112) (.t 113), (some (106, true)), []⟩,
  ⟨(some 115), .fadr 18 (.t 114), (some (106, true)), []⟩,
  ⟨(some 116), .load none (.t 115), (some (106, true)), [9]⟩,
  ⟨(some 117), .bin .eql (.t 111) (.t 116), (some (106, true)), []⟩,
  ⟨(some 118), .pick (.t 106) (.t 117) (.c (.bool false)), none, []⟩]
def f6x18 : List AOper := [
  ⟨(some 119), .call (.c (.fn 8 [])) [], none, []⟩,
  ⟨(some 6), .mv (.t 119), none, []⟩]
def f6x19 : List AOper := [
  ⟨(some 120), .bsl 22 [.int .u32 0, .int .i64 0, .int .i64 0, .con (.slice none 0 0), .int .u32 0, .bool false, .int .i64 0, .bool false, .int .i64 0, .bool false, .bool false, .int .i64 0, .int .u32 0, .con (.slice none 0 0), .bool false, .int .u32 0, .con (.slice none 0 0), .con (.slice none 0 0), .int .i64 0, .int .i64 0, .int .u32 0, .bool false] 0 [] [], none, []⟩,
  ⟨(some 121), .mv (.t 0), none, []⟩,
  ⟨(some 122), .mv (.t 1), none, []⟩,
  ⟨(some 123), .slc 22 (.t 121) none (some (.t 122)) none, none, []⟩,
  ⟨(some 124), .app 22 208 (.t 120) (.t 123), none, [0, 3]⟩,
  ⟨(some 125), .mv (.t 0), none, []⟩,
  ⟨(some 126), .mv (.t 1), none, []⟩,
  ⟨(some 127), .bin .add (.t 126) (.c (.int .i64 1)), none, []⟩,
  ⟨(some 128), .slc 22 (.t 125) (some (.t 127)) none none, none, []⟩,
  ⟨(some 129), .app 22 208 (.t 124) (.t 128), none, [8, 4, 0, 3]⟩,
  ⟨(some 18), .mv (.t 129), none, []⟩]
def f6x20 : List AOper := [
  ⟨(some 131), .mv (.t 18), none, []⟩,
  ⟨(some 132), .mv (.t 2), none, []⟩,
  ⟨(some 133), .call (.c (.fn 14 [])) [(.t 131), (.t 132)], none, []⟩,
  ⟨(some 130), .mv (.t 133), none, []⟩,
  ⟨(some 134), .ext (.t 130) 0, none, []⟩,
  ⟨(some 135), .ext (.t 130) 1, none, []⟩,
  ⟨(some 19), .mv (.t 134), none, []⟩,
  ⟨(some 20), .mv (.t 135), none, []⟩]
def f6x21 : List AOper := [
  ⟨(some 136), .mv (.t 20), none, []⟩,
  ⟨(some 137), .mv (.t 136), none, []⟩,
  ⟨(some 138), .mv (.t 18), (some (137, true)), []⟩,
  ⟨(some 139), .mv (.t 19), (some (137, true)), []⟩,
  ⟨(some 140), .iadr 22 (.t 138) (.t 139), (some (137, true)), []⟩,
  ⟨(some 141), .fadr 18 (.t 140), (some (137, true)), []⟩,
  ⟨(some 142), .load none (.t 141), (some (137, true)), [4]⟩,
  ⟨(some 143), .mv (.t 0), (some (137, true)), []⟩,
  ⟨(some 144), .mv (.t 7), (some (137, true)), []⟩,
  ⟨(some 145), .iadr 22 (.t 143) (.t 144), (some (137, true)), []⟩,
  ⟨(some 146), .fadr 18 (.t 145), (some (137, true)), []⟩,
  ⟨(some 147), .load none (.t 146), (some (137, true)), [9]⟩,
  ⟨(some 148), .bin .eql (.t 142) (.t 147), (some (137, true)), []⟩,
  ⟨(some 149), .pick (.t 137) (.t 148) (.c (.bool false)), none, []⟩,
  ⟨(some 150), .mv (.t 149), none, []⟩,
  ⟨(some 151), .call (.c (.fn 8 [])) [], (some (150, true)), [6, 11, 4, 9]⟩,
  ⟨(some 152), .pick (.t 150) (.t 151) (.c (.bool false)), none, []⟩,
  ⟨(some 6), .mv (.t 152), none, []⟩]
def f6 : AFunc := ⟨153, 3, false, [.t 6], (.seq (.region f6x0 false) (.seq (.seq (.region f6x1 false) (.cond (.t 47) (.seq (.region f6x2 false) .ret) .skip)) (.seq (.region f6x3 false) (.seq (.seq (.region f6x4 false) (.cond (.t 61) (.seq (.region f6x5 false) .ret) .skip)) (.seq (.region f6x6 false) (.seq (.region f6x7 false) (.seq (.seq (.region f6x8 false) (.block 0 (.loop f6x15L))) (.seq (.seq (.region f6x16 false) (.seq (.region f6x17 true) (.cond (.t 118) (.seq (.region f6x18 false) .ret) .skip))) (.seq (.region f6x19 true) (.seq (.region f6x20 false) (.seq (.region f6x21 true) .ret)))))))))))⟩

/-- routing/routinglaw40.DecisionTransitive -/
def f7x0 : List AOper := [
  ⟨(some 3), .box (.t 0), none, []⟩,
  ⟨(some 4), .box (.t 1), none, []⟩,
  ⟨(some 5), .box (.t 2), none, []⟩,
  ⟨(some 6), .mv (.c (.bool false)), none, []⟩]
def f7x1 : List AOper := [
  ⟨(some 21), .load (some 22) (.t 3), none, []⟩,
  ⟨(some 22), .load (some 22) (.t 4), none, []⟩,
  ⟨(some 23), .load (some 22) (.t 5), none, []⟩,
  ⟨(some 24), .bsl 22 [.int .u32 0, .int .i64 0, .int .i64 0, .con (.slice none 0 0), .int .u32 0, .bool false, .int .i64 0, .bool false, .int .i64 0, .bool false, .bool false, .int .i64 0, .int .u32 0, .con (.slice none 0 0), .bool false, .int .u32 0, .con (.slice none 0 0), .con (.slice none 0 0), .int .i64 0, .int .i64 0, .int .u32 0, .bool false] 3 [0, 1, 2] [(.t 21), (.t 22), (.t 23)], none, []⟩,
  ⟨(some 7), .mv (.t 24), none, []⟩]
def f7x2 : List AOper := [
  ⟨(some 25), .mv (.t 7), none, []⟩,
  ⟨(some 26), .call (.c (.fn 11 [])) [(.t 25)], none, []⟩]
def f7x3 : List AOper := [
  ⟨(some 27), .call (.c (.fn 8 [])) [], none, []⟩,
  ⟨(some 6), .mv (.t 27), none, []⟩]
def f7x4 : List AOper := [
  ⟨(some 29), .fadr 2 (.t 3), none, []⟩,
  ⟨(some 30), .fadr 1 (.t 29), none, []⟩,
  ⟨(some 31), .load none (.t 30), none, []⟩,
  ⟨(some 32), .call (.c (.fn 19 [])) [(.t 31)], none, []⟩,
  ⟨(some 28), .mv (.t 32), none, []⟩,
  ⟨(some 33), .ext (.t 28) 0, none, []⟩,
  ⟨(some 34), .ext (.t 28) 1, none, []⟩,
  ⟨(some 8), .mv (.t 33), none, []⟩,
  ⟨(some 9), .mv (.t 34), none, []⟩]
def f7x5 : List AOper := [
  ⟨(some 35), .mv (.t 7), none, []⟩,
  ⟨(some 36), .len false (.t 35), none, []⟩,
  ⟨(some 37), .mv (.c (.int .i64 0)), none, []⟩]
def f7x6 : List AOper := [
  ⟨(some 38), .bin .lss (.t 37) (.t 36), none, []⟩]
def f7x7 : List AOper := [
  ⟨(some 39), .iadr 22 (.t 35) (.t 37), none, []⟩,
  ⟨(some 40), .load (some 22) (.t 39), none, []⟩,
  ⟨(some 11), .alloc (.agg [.int .u32 0, .int .i64 0, .int .i64 0, .con (.slice none 0 0), .int .u32 0, .bool false, .int .i64 0, .bool false, .int .i64 0, .bool false, .bool false, .int .i64 0, .int .u32 0, .con (.slice none 0 0), .bool false, .int .u32 0, .con (.slice none 0 0), .con (.slice none 0 0), .int .i64 0, .int .i64 0, .int .u32 0, .bool false]), none, []⟩,
  ⟨none, .store 22 (.t 11) (.t 40), none, []⟩]
def f7x8 : List AOper := [
  ⟨(some 42), .fadr 2 (.t 11), none, []⟩,
  ⟨(some 43), .fadr 1 (.t 42), none, []⟩,
  ⟨(some 44), .load none (.t 43), none, []⟩,
  ⟨(some 45), .call (.c (.fn 19 [])) [(.t 44)], none, []⟩,
  ⟨(some 41), .mv (.t 45), none, []⟩,
  ⟨(some 46), .ext (.t 41) 0, none, []⟩,
  ⟨(some 47), .ext (.t 41) 1, none, []⟩,
  ⟨(some 12), .mv (.t 46), none, []⟩,
  ⟨(some 13), .mv (.t 47), none, []⟩]
def f7x9 : List AOper := [
  ⟨(some 48), .mv (.t 9), none, []⟩,
  ⟨(some 49), .mv (.t 13), none, []⟩,
  ⟨(some 50), .eqb true (.t 48) (.t 49), none, []⟩,
  ⟨(some 51), .mv (.t 50), none, []⟩,
  ⟨(some 52), .mv (.t 8), (some (51, false)), []⟩,
  ⟨(some 53), .mv (.t 12), (some (51, false)), []⟩,
  ⟨(some 54), .bin .neq (.t 52) (.t 53), (some (51, false)), []⟩,
  ⟨(some 55), .pick (.t 51) (.c (.bool true)) (.t 54), none, []⟩]
def f7x10 : List AOper := [
  ⟨(some 56), .call (.c (.fn 8 [])) [], none, []⟩,
  ⟨(some 6), .mv (.t 56), none, []⟩]
def f7x11 : List AOper := [
  ⟨(some 57), .bin .add (.t 37) (.c (.int .i64 1)), none, []⟩,
  ⟨(some 37), .mv (.t 57), none, []⟩]
def f7x12L : ACode := (.seq (.region f7x6 false) (.seq (.cond (.t 38) .skip (.exit 0)) (.seq (.block 1 (.seq (.region f7x7 false) (.seq (.region f7x8 false) (.seq (.region f7x9 false) (.cond (.t 55) (.seq (.region f7x10 false) .ret) .skip))))) (.region f7x11 false))))
def f7x13 : List AOper := [
  ⟨(some 58), .fadr 2 (.t 3), none, []⟩,
  ⟨(some 59), .fadr 2 (.t 58), none, []⟩,
  ⟨(some 60), .load none (.t 59), none, []⟩,
  ⟨(some 61), .build [.int .u32 0, .int .i64 0] [(0, 1), (1, 1)] [(.t 60), (.c (.int .i64 3))], none, []⟩,
  ⟨(some 62), .fadr 2 (.t 4), none, []⟩,
  ⟨(some 63), .fadr 2 (.t 62), none, []⟩,
  ⟨(some 64), .load none (.t 63), none, []⟩,
  ⟨(some 65), .build [.int .u32 0, .int .i64 0] [(0, 1), (1, 1)] [(.t 64), (.c (.int .i64 3))], none, []⟩,
  ⟨(some 66), .bsl 2 [.int .u32 0, .int .i64 0] 2 [0, 1] [(.t 61), (.t 65)], none, []⟩,
  ⟨(some 14), .mv (.t 66), none, []⟩]
def f7x14 : List AOper := [
  ⟨(some 68), .load (some 22) (.t 3), none, []⟩,
  ⟨(some 69), .load (some 22) (.t 4), none, []⟩,
  ⟨(some 70), .mv (.t 14), none, []⟩,
  ⟨(some 71), .call (.c (.fn 12 [])) [(.t 68), (.t 69), (.t 70)], none, []⟩,
  ⟨(some 67), .mv (.t 71), none, []⟩,
  ⟨(some 72), .ext (.t 67) 0, none, []⟩,
  ⟨(some 73), .ext (.t 67) 1, none, []⟩,
  ⟨(some 15), .mv (.t 72), none, []⟩,
  ⟨(some 16), .mv (.t 73), none, []⟩]
def f7x15 : List AOper := [
  ⟨(some 75), .load (some 22) (.t 4), none, []⟩,
  ⟨(some 76), .load (some 22) (.t 5), none, []⟩,
  ⟨(some 77), .mv (.t 14), none, []⟩,
  ⟨(some 78), .call (.c (.fn 12 [])) [(.t 75), (.t 76), (.t 77)], none, []⟩,
  ⟨(some 74), .mv (.t 78), none, []⟩,
  ⟨(some 79), .ext (.t 74) 0, none, []⟩,
  ⟨(some 80), .ext (.t 74) 1, none, []⟩,
  ⟨(some 17), .mv (.t 79), none, []⟩,
  ⟨(some 18), .mv (.t 80), none, []⟩]
def f7x16 : List AOper := [
  ⟨(some 82), .load (some 22) (.t 3), none, []⟩,
  ⟨(some 83), .load (some 22) (.t 5), none, []⟩,
  ⟨(some 84), .mv (.t 14), none, []⟩,
  ⟨(some 85), .call (.c (.fn 12 [])) [(.t 82), (.t 83), (.t 84)], none, []⟩,
  ⟨(some 81), .mv (.t 85), none, []⟩,
  ⟨(some 86), .ext (.t 81) 0, none, []⟩,
  ⟨(some 87), .ext (.t 81) 1, none, []⟩,
  ⟨(some 19), .mv (.t 86), none, []⟩,
  ⟨(some 20), .mv (.t 87), none, []⟩]
def f7x17 : List AOper := [
  ⟨(some 88), .mv (.t 15), none, []⟩,
  ⟨(some 89), .bin .gtr (.t 88) (.c (.int .i64 0)), none, []⟩,
  ⟨(some 90), .mv (.t 89), none, []⟩,
  ⟨(some 91), .mv (.t 17), (some (90, false)), []⟩,
  ⟨(some 92), .bin .gtr (.t 91) (.c (.int .i64 0)), (some (90, false)), []⟩,
  ⟨(some 93), .pick (.t 90) (.c (.bool true)) (.t 92), none, []⟩,
  ⟨(some 94), .mv (.t 93), none, []⟩,
  ⟨(some 95), .mv (.t 19), (some (94, false)), []⟩,
  ⟨(some 96), .bin .leq (.t 95) (.c (.int .i64 0)), (some (94, false)), []⟩,
  ⟨(some 97), .pick (.t 94) (.c (.bool true)) (.t 96), none, []⟩,
  ⟨(some 98), .mv (.t 97), none, []⟩,
  ⟨(some 99), .mv (.t 15), (some (98, true)), []⟩,
  ⟨(some 100), .bin .geq (.t 99) (.c (.int .i64 0)), (some (98, true)), []⟩,
  ⟨(some 101), .mv (.t 100), (some (98, true)), []⟩,
  ⟨(some 102), .mv (.t 17), (some (101, false)), []⟩,
  ⟨(some 103), .bin .geq (.t 102) (.c (.int .i64 0)), (some (101, false)), []⟩,
  ⟨(some 104), .pick (.t 101) (.c (.bool true)) (.t 103), (some (98, true)), []⟩,
  ⟨(some 105), .mv (.t 104), (some (98, true)), []⟩,
  ⟨(some 106), .mv (.t 19), (some (105, false)), []⟩,
  ⟨(some 107), .bin .lss (.t 106) (.c (.int .i64 0)), (some (105, false)), []⟩,
  ⟨(some 108), .pick (.t 105) (.c (.bool true)) (.t 107), (some (98, true)), []⟩,
  ⟨(some 109), .pick (.t 98) (.t 108) (.c (.bool false)), none, []⟩,
  ⟨(some 110), .mv (.t 109), none, []⟩,
  ⟨(some 111), .call (.c (.fn 8 [])) [], (some (110, true)), []⟩,
  ⟨(some 112), .pick (.t 110) (.t 111) (.c (.bool false)), none, []⟩,
  ⟨(some 6), .mv (.t 112), none, []⟩]
def f7 : AFunc := ⟨113, 3, false, [.t 6], (.seq (.region f7x0 false) (.seq (.region f7x1 false) (.seq (.seq (.region f7x2 false) (.cond (.t 26) (.seq (.region f7x3 false) .ret) .skip)) (.seq (.region f7x4 false) (.seq (.seq (.region f7x5 false) (.block 0 (.loop f7x12L))) (.seq (.region f7x13 false) (.seq (.region f7x14 false) (.seq (.region f7x15 false) (.seq (.region f7x16 false) (.seq (.region f7x17 false) .ret))))))))))⟩

/-- routing/routinglaw40.awake -/
def f8x0 : List AOper := [
  ⟨(some 0), .mv (.c (.bool false)), none, []⟩]
def f8x1 : List AOper := [
  ⟨(some 18), .build [.int .u32 0, .int .i64 0] [(0, 1), (1, 1)] [(.c (.int .u32 1)), (.c (.int .i64 1))], none, []⟩,
  ⟨(some 19), .build [.int .u32 0, .int .i64 0] [(0, 1), (1, 1)] [(.c (.int .u32 2)), (.c (.int .i64 9))], none, []⟩,
  ⟨(some 20), .build [.int .u32 0, .int .i64 0] [(0, 1), (1, 1)] [(.c (.int .u32 3)), (.c (.int .i64 5))], none, []⟩,
  ⟨(some 21), .bsl 2 [.int .u32 0, .int .i64 0] 3 [0, 1, 2] [(.t 18), (.t 19), (.t 20)], none, []⟩,
  ⟨(some 1), .mv (.t 21), none, []⟩]
def f8x2 : List AOper := [
  ⟨(some 22), .bsl 1 [.int .i64 0] 2 [0, 1] [(.c (.int .i64 65001)), (.c (.int .i64 65002))], none, []⟩,
  ⟨(some 23), .call (.c (.fn 20 [])) [(.t 22)], none, []⟩,
  ⟨(some 24), .build [.int .u32 0, .int .i64 0, .int .i64 0, .con (.slice none 0 0), .int .u32 0, .bool false, .int .i64 0, .bool false, .int .i64 0, .bool false, .bool false, .int .i64 0, .int .u32 0, .con (.slice none 0 0), .bool false, .int .u32 0, .con (.slice none 0 0), .con (.slice none 0 0), .int .i64 0, .int .i64 0, .int .u32 0, .bool false] [(2, 16), (19, 1), (18, 1)] [(.t 23), (.c (.int .i64 1)), (.c (.int .i64 1))], none, []⟩,
  ⟨(some 2), .alloc (.agg [.int .u32 0, .int .i64 0, .int .i64 0, .con (.slice none 0 0), .int .u32 0, .bool false, .int .i64 0, .bool false, .int .i64 0, .bool false, .bool false, .int .i64 0, .int .u32 0, .con (.slice none 0 0), .bool false, .int .u32 0, .con (.slice none 0 0), .con (.slice none 0 0), .int .i64 0, .int .i64 0, .int .u32 0, .bool false]), none, []⟩,
  ⟨none, .store 22 (.t 2) (.t 24), none, []⟩]
def f8x3 : List AOper := [
  ⟨(some 25), .bsl 1 [.int .i64 0] 1 [0] [(.c (.int .i64 65003))], none, []⟩,
  ⟨(some 26), .call (.c (.fn 20 [])) [(.t 25)], none, []⟩,
  ⟨(some 27), .build [.int .u32 0, .int .i64 0, .int .i64 0, .con (.slice none 0 0), .int .u32 0, .bool false, .int .i64 0, .bool false, .int .i64 0, .bool false, .bool false, .int .i64 0, .int .u32 0, .con (.slice none 0 0), .bool false, .int .u32 0, .con (.slice none 0 0), .con (.slice none 0 0), .int .i64 0, .int .i64 0, .int .u32 0, .bool false] [(2, 16), (19, 1), (18, 1)] [(.t 26), (.c (.int .i64 1)), (.c (.int .i64 2))], none, []⟩,
  ⟨(some 3), .alloc (.agg [.int .u32 0, .int .i64 0, .int .i64 0, .con (.slice none 0 0), .int .u32 0, .bool false, .int .i64 0, .bool false, .int .i64 0, .bool false, .bool false, .int .i64 0, .int .u32 0, .con (.slice none 0 0), .bool false, .int .u32 0, .con (.slice none 0 0), .con (.slice none 0 0), .int .i64 0, .int .i64 0, .int .u32 0, .bool false]), none, []⟩,
  ⟨none, .store 22 (.t 3) (.t 27), none, []⟩]
def f8x4 : List AOper := [
  ⟨(some 29), .load (some 22) (.t 2), none, []⟩,
  ⟨(some 30), .load (some 22) (.t 3), none, []⟩,
  ⟨(some 31), .mv (.t 1), none, []⟩,
  ⟨(some 32), .call (.c (.fn 12 [])) [(.t 29), (.t 30), (.t 31)], none, []⟩,
  ⟨(some 28), .mv (.t 32), none, []⟩,
  ⟨(some 33), .ext (.t 28) 0, none, []⟩,
  ⟨(some 34), .ext (.t 28) 1, none, []⟩,
  ⟨(some 4), .mv (.t 33), none, []⟩,
  ⟨(some 5), .mv (.t 34), none, []⟩]
def f8x5 : List AOper := [
  ⟨(some 35), .bsl 1 [.int .i64 0] 1 [0] [(.c (.int .i64 65001))], none, []⟩,
  ⟨(some 36), .call (.c (.fn 20 [])) [(.t 35)], none, []⟩,
  ⟨(some 37), .build [.int .u32 0, .int .i64 0, .int .i64 0, .con (.slice none 0 0), .int .u32 0, .bool false, .int .i64 0, .bool false, .int .i64 0, .bool false, .bool false, .int .i64 0, .int .u32 0, .con (.slice none 0 0), .bool false, .int .u32 0, .con (.slice none 0 0), .con (.slice none 0 0), .int .i64 0, .int .i64 0, .int .u32 0, .bool false] [(2, 16), (19, 1), (18, 1)] [(.t 36), (.c (.int .i64 3)), (.c (.int .i64 0))], none, []⟩,
  ⟨(some 6), .alloc (.agg [.int .u32 0, .int .i64 0, .int .i64 0, .con (.slice none 0 0), .int .u32 0, .bool false, .int .i64 0, .bool false, .int .i64 0, .bool false, .bool false, .int .i64 0, .int .u32 0, .con (.slice none 0 0), .bool false, .int .u32 0, .con (.slice none 0 0), .con (.slice none 0 0), .int .i64 0, .int .i64 0, .int .u32 0, .bool false]), none, []⟩,
  ⟨none, .store 22 (.t 6) (.t 37), none, []⟩]
def f8x6 : List AOper := [
  ⟨(some 38), .fadr 2 (.t 6), none, []⟩,
  ⟨(some 39), .fadr 3 (.t 38), none, []⟩,
  ⟨none, .store 1 (.t 39) (.c (.bool true)), none, []⟩]
def f8x7 : List AOper := [
  ⟨(some 40), .fadr 2 (.t 6), none, []⟩,
  ⟨(some 41), .fadr 4 (.t 40), none, []⟩,
  ⟨none, .store 1 (.t 41) (.c (.int .i64 10)), none, []⟩]
def f8x8 : List AOper := [
  ⟨(some 42), .load (some 22) (.t 6), none, []⟩,
  ⟨(some 7), .alloc (.agg [.int .u32 0, .int .i64 0, .int .i64 0, .con (.slice none 0 0), .int .u32 0, .bool false, .int .i64 0, .bool false, .int .i64 0, .bool false, .bool false, .int .i64 0, .int .u32 0, .con (.slice none 0 0), .bool false, .int .u32 0, .con (.slice none 0 0), .con (.slice none 0 0), .int .i64 0, .int .i64 0, .int .u32 0, .bool false]), none, []⟩,
  ⟨none, .store 22 (.t 7) (.t 42), none, []⟩]
def f8x9 : List AOper := [
  ⟨(some 43), .fadr 2 (.t 7), none, []⟩,
  ⟨(some 44), .fadr 4 (.t 43), none, []⟩,
  ⟨none, .store 1 (.t 44) (.c (.int .i64 5)), none, []⟩]
def f8x10 : List AOper := [
  ⟨(some 45), .fadr 2 (.t 7), none, []⟩,
  ⟨(some 46), .fadr 2 (.t 45), none, []⟩,
  ⟨none, .store 1 (.t 46) (.c (.int .u32 2)), none, []⟩]
def f8x11 : List AOper := [
  ⟨(some 47), .fadr 18 (.t 7), none, []⟩,
  ⟨none, .store 1 (.t 47) (.c (.int .i64 1)), none, []⟩]
def f8x12 : List AOper := [
  ⟨(some 48), .bsl 1 [.int .i64 0] 1 [0] [(.c (.int .i64 65002))], none, []⟩,
  ⟨(some 49), .call (.c (.fn 20 [])) [(.t 48)], none, []⟩,
  ⟨(some 50), .build [.int .u32 0, .int .i64 0, .int .i64 0, .con (.slice none 0 0), .int .u32 0, .bool false, .int .i64 0, .bool false, .int .i64 0, .bool false, .bool false, .int .i64 0, .int .u32 0, .con (.slice none 0 0), .bool false, .int .u32 0, .con (.slice none 0 0), .con (.slice none 0 0), .int .i64 0, .int .i64 0, .int .u32 0, .bool false] [(2, 16), (19, 1), (18, 1)] [(.t 49), (.c (.int .i64 3)), (.c (.int .i64 2))], none, []⟩,
  ⟨(some 8), .alloc (.agg [.int .u32 0, .int .i64 0, .int .i64 0, .con (.slice none 0 0), .int .u32 0, .bool false, .int .i64 0, .bool false, .int .i64 0, .bool false, .bool false, .int .i64 0, .int .u32 0, .con (.slice none 0 0), .bool false, .int .u32 0, .con (.slice none 0 0), .con (.slice none 0 0), .int .i64 0, .int .i64 0, .int .u32 0, .bool false]), none, []⟩,
  ⟨none, .store 22 (.t 8) (.t 50), none, []⟩]
def f8x13 : List AOper := [
  ⟨(some 51), .fadr 2 (.t 8), none, []⟩,
  ⟨(some 52), .fadr 2 (.t 51), none, []⟩,
  ⟨none, .store 1 (.t 52) (.c (.int .u32 3)), none, []⟩]
def f8x14 : List AOper := [
  ⟨(some 54), .load (some 22) (.t 6), none, []⟩,
  ⟨(some 55), .load (some 22) (.t 7), none, []⟩,
  ⟨(some 56), .load (some 22) (.t 8), none, []⟩,
  ⟨(some 57), .bsl 22 [.int .u32 0, .int .i64 0, .int .i64 0, .con (.slice none 0 0), .int .u32 0, .bool false, .int .i64 0, .bool false, .int .i64 0, .bool false, .bool false, .int .i64 0, .int .u32 0, .con (.slice none 0 0), .bool false, .int .u32 0, .con (.slice none 0 0), .con (.slice none 0 0), .int .i64 0, .int .i64 0, .int .u32 0, .bool false] 3 [0, 1, 2] [(.t 54), (.t 55), (.t 56)], none, []⟩,
  ⟨(some 58), .mv (.t 1), none, []⟩,
  ⟨(some 59), .call (.c (.fn 14 [])) [(.t 57), (.t 58)], none, []⟩,
  ⟨(some 53), .mv (.t 59), none, []⟩,
  ⟨(some 60), .ext (.t 53) 0, none, []⟩,
  ⟨(some 61), .ext (.t 53) 1, none, []⟩,
  ⟨(some 9), .mv (.t 60), none, []⟩,
  ⟨(some 10), .mv (.t 61), none, []⟩]
def f8x15 : List AOper := [
  ⟨(some 63), .load (some 22) (.t 6), none, []⟩,
  ⟨(some 64), .load (some 22) (.t 8), none, []⟩,
  ⟨(some 65), .bsl 22 [.int .u32 0, .int .i64 0, .int .i64 0, .con (.slice none 0 0), .int .u32 0, .bool false, .int .i64 0, .bool false, .int .i64 0, .bool false, .bool false, .int .i64 0, .int .u32 0, .con (.slice none 0 0), .bool false, .int .u32 0, .con (.slice none 0 0), .con (.slice none 0 0), .int .i64 0, .int .i64 0, .int .u32 0, .bool false] 2 [0, 1] [(.t 63), (.t 64)], none, []⟩,
  ⟨(some 66), .mv (.t 1), none, []⟩,
  ⟨(some 67), .call (.c (.fn 14 [])) [(.t 65), (.t 66)], none, []⟩,
  ⟨(some 62), .mv (.t 67), none, []⟩,
  ⟨(some 68), .ext (.t 62) 0, none, []⟩,
  ⟨(some 69), .ext (.t 62) 1, none, []⟩,
  ⟨(some 11), .mv (.t 68), none, []⟩,
  ⟨(some 12), .mv (.t 69), none, []⟩]
def f8x16 : List AOper := [
  ⟨(some 71), .load (some 22) (.t 6), none, []⟩,
  ⟨(some 72), .bsl 22 [.int .u32 0, .int .i64 0, .int .i64 0, .con (.slice none 0 0), .int .u32 0, .bool false, .int .i64 0, .bool false, .int .i64 0, .bool false, .bool false, .int .i64 0, .int .u32 0, .con (.slice none 0 0), .bool false, .int .u32 0, .con (.slice none 0 0), .con (.slice none 0 0), .int .i64 0, .int .i64 0, .int .u32 0, .bool false] 1 [0] [(.t 71)], none, []⟩,
  ⟨(some 73), .call (.c (.fn 14 [])) [(.t 72), (.c (.con (.slice none 0 0)))], none, []⟩,
  ⟨(some 70), .mv (.t 73), none, []⟩,
  ⟨(some 74), .ext (.t 70) 0, none, []⟩,
  ⟨(some 75), .ext (.t 70) 1, none, []⟩,
  ⟨(some 13), .mv (.t 74), none, []⟩,
  ⟨(some 14), .mv (.t 75), none, []⟩]
def f8x17 : List AOper := [
  ⟨(some 77), .mv (.t 1), none, []⟩,
  ⟨(some 78), .load (some 22) (.t 7), none, []⟩,
  ⟨(some 79), .call (.c (.fn 9 [])) [(.t 77), (.t 78)], none, []⟩,
  ⟨(some 76), .mv (.t 79), none, []⟩,
  ⟨(some 80), .ext (.t 76) 0, none, []⟩,
  ⟨(some 81), .ext (.t 76) 1, none, []⟩,
  ⟨(some 15), .mv (.t 80), none, []⟩,
  ⟨(some 16), .mv (.t 81), none, []⟩]
def f8x18 : List AOper := [
  ⟨(some 82), .load (some 22) (.t 6), none, []⟩,
  ⟨(some 83), .load (some 22) (.t 8), none, []⟩,
  ⟨(some 84), .bsl 22 [.int .u32 0, .int .i64 0, .int .i64 0, .con (.slice none 0 0), .int .u32 0, .bool false, .int .i64 0, .bool false, .int .i64 0, .bool false, .bool false, .int .i64 0, .int .u32 0, .con (.slice none 0 0), .bool false, .int .u32 0, .con (.slice none 0 0), .con (.slice none 0 0), .int .i64 0, .int .i64 0, .int .u32 0, .bool false] 2 [0, 1] [(.t 82), (.t 83)], none, []⟩,
  ⟨(some 85), .mv (.t 1), none, []⟩,
  ⟨(some 86), .call (.c (.fn 16 [])) [(.t 84), (.t 85), (.c (.int .i64 4))], none, []⟩,
  ⟨(some 17), .mv (.t 86), none, []⟩]
def f8x19 : List AOper := [
  ⟨(some 87), .mv (.t 4), none, []⟩,
  ⟨(some 88), .bin .eql (.t 87) (.c (.int .i64 1)), none, []⟩,
  ⟨(some 89), .mv (.t 88), none, []⟩,
  ⟨(some 90), .mv (.t 5), (some (89, true)), []⟩,
  ⟨(some 91), .bin .eql (.t 90) (.c (.int .i64 3)), (some (89, true)), []⟩,
  ⟨(some 92), .pick (.t 89) (.t 91) (.c (.bool false)), none, []⟩,
  ⟨(some 93), .mv (.t 92), none, []⟩,
  ⟨(some 94), .mv (.t 10), (some (93, true)), []⟩,
  ⟨(some 95), .pick (.t 93) (.t 94) (.c (.bool false)), none, []⟩,
  ⟨(some 96), .mv (.t 95), none, []⟩,
  ⟨(some 97), .mv (.t 9), (some (96, true)), []⟩,
  ⟨(some 98), .bin .eql (.t 97) (.c (.int .i64 2)), (some (96, true)), []⟩,
  ⟨(some 99), .pick (.t 96) (.t 98) (.c (.bool false)), none, []⟩,
  ⟨(some 100), .mv (.t 99), none, []⟩,
  ⟨(some 101), .mv (.t 12), (some (100, true)), []⟩,
  ⟨(some 102), .pick (.t 100) (.t 101) (.c (.bool false)), none, []⟩,
  ⟨(some 103), .mv (.t 102), none, []⟩,
  ⟨(some 104), .mv (.t 11), (some (103, true)), []⟩,
  ⟨(some 105), .bin .eql (.t 104) (.c (.int .i64 0)), (some (103, true)), []⟩,
  ⟨(some 106), .pick (.t 103) (.t 105) (.c (.bool false)), none, []⟩,
  ⟨(some 107), .mv (.t 106), none, []⟩,
  ⟨(some 108), .mv (.t 14), (some (107, true)), []⟩,
  ⟨(some 109), .un .not (.t 108), (some (107, true)), []⟩,
  ⟨(some 110), .pick (.t 107) (.t 109) (.c (.bool false)), none, []⟩,
  ⟨(some 111), .mv (.t 110), none, []⟩,
  ⟨(some 112), .mv (.t 16), (some (111, true)), []⟩,
  ⟨(some 113), .pick (.t 111) (.t 112) (.c (.bool false)), none, []⟩,
  ⟨(some 114), .mv (.t 113), none, []⟩,
  ⟨(some 115), .mv (.t 15), (some (114, true)), []⟩,
  ⟨(some 116), .bin .eql (.t 115) (.c (.int .i64 9)), (some (114, true)), []⟩,
  ⟨(some 117), .pick (.t 114) (.t 116) (.c (.bool false)), none, []⟩,
  ⟨(some 118), .mv (.t 117), none, []⟩,
  ⟨(some 119), .mv (.t 17), (some (118, true)), []⟩,
  ⟨(some 120), .len false (.t 119), (some (118, true)), []⟩,
  ⟨(some 121), .bin .eql (.t 120) (.c (.int .i64 1)), (some (118, true)), []⟩,
  ⟨(some 122), .pick (.t 118) (.t 121) (.c (.bool false)), none, []⟩,
  ⟨(some 123), .mv (.t 122), none, []⟩,
  ⟨(some 124), .load (some 22) (.t 6), (some (123, true)), []⟩,
  ⟨(some 125), .load (some 22) (.t 8), (some (123, true)), []⟩,
  ⟨(some 126), .bsl 22 [.int .u32 0, .int .i64 0, .int .i64 0, .con (.slice none 0 0), .int .u32 0, .bool false, .int .i64 0, .bool false, .int .i64 0, .bool false, .bool false, .int .i64 0, .int .u32 0, .con (.slice none 0 0), .bool false, .int .u32 0, .con (.slice none 0 0), .con (.slice none 0 0), .int .i64 0, .int .i64 0, .int .u32 0, .bool false] 2 [0, 1] [(.t 124), (.t 125)], (some (123, true)), []⟩,
  ⟨(some 127), .mv (.t 1), (some (123, true)), []⟩,
  ⟨(some 128), .call (.c (.fn 16 [])) [(.t 126), (.t 127), (.c (.int .i64 0))], (some (123, true)), []⟩,
  ⟨(some 129), .len false (.t 128), (some (123, true)), []⟩,
  ⟨(some 130), .bin .eql (.t 129) (.c (.int .i64 0)), (some (123, true)), []⟩,
  ⟨(some 131), .pick (.t 123) (.t 130) (.c (.bool false)), none, []⟩,
  ⟨(some 0), .mv (.t 131), none, []⟩]
def f8 : AFunc := ⟨132, 0, false, [.t 0], (.seq (.region f8x0 false) (.seq (.region f8x1 false) (.seq (.region f8x2 false) (.seq (.region f8x3 false) (.seq (.region f8x4 false) (.seq (.region f8x5 false) (.seq (.region f8x6 false) (.seq (.region f8x7 false) (.seq (.region f8x8 false) (.seq (.region f8x9 false) (.seq (.region f8x10 false) (.seq (.region f8x11 false) (.seq (.region f8x12 false) (.seq (.region f8x13 false) (.seq (.region f8x14 false) (.seq (.region f8x15 false) (.seq (.region f8x16 false) (.seq (.region f8x17 false) (.seq (.region f8x18 false) (.seq (.region f8x19 false) .ret))))))))))))))))))))⟩

/-- routing/decision.Cost -/
def f9x0 : List AOper := [
  ⟨(some 3), .box (.t 1), none, []⟩,
  ⟨(some 4), .mv (.c (.int .i64 0)), none, []⟩,
  ⟨(some 5), .mv (.c (.bool false)), none, []⟩]
def f9x1 : List AOper := [
  ⟨(some 8), .fadr 18 (.t 3), none, []⟩,
  ⟨(some 9), .load none (.t 8), none, []⟩,
  ⟨(some 10), .bin .eql (.t 9) (.c (.int .i64 (-1))), none, []⟩]
def f9x2 : List AOper := [
  ⟨(some 4), .mv (.c (.int .i64 0)), none, []⟩,
  ⟨(some 5), .mv (.c (.bool true)), none, []⟩]
def f9x3 : List AOper := [
  ⟨(some 11), .mv (.t 0), none, []⟩,
  ⟨(some 12), .len false (.t 11), none, []⟩,
  ⟨(some 13), .mv (.c (.int .i64 0)), none, []⟩]
def f9x4 : List AOper := [
  ⟨(some 14), .bin .lss (.t 13) (.t 12), none, []⟩]
def f9x5 : List AOper := [
  ⟨(some 15), .iadr 2 (.t 11) (.t 13), none, []⟩,
  ⟨(some 16), .load (some 2) (.t 15), none, []⟩,
  ⟨(some 7), .alloc (.agg [.int .u32 0, .int .i64 0]), none, []⟩,
  ⟨none, .store 2 (.t 7) (.t 16), none, []⟩]
def f9x6 : List AOper := [
  ⟨(some 17), .fadr 0 (.t 7), none, []⟩,
  ⟨(some 18), .load none (.t 17), none, []⟩,
  ⟨(some 19), .fadr 2 (.t 3), none, []⟩,
  ⟨(some 20), .fadr 2 (.t 19), none, []⟩,
  ⟨(some 21), .load none (.t 20), none, []⟩,
  ⟨(some 22), .bin .eql (.t 18) (.t 21), none, []⟩]
def f9x7 : List AOper := [
  ⟨(some 23), .fadr 1 (.t 7), none, []⟩,
  ⟨(some 24), .load none (.t 23), none, []⟩,
  ⟨(some 4), .mv (.t 24), none, []⟩,
  ⟨(some 5), .mv (.c (.bool true)), none, []⟩]
def f9x8 : List AOper := [
  ⟨(some 25), .bin .add (.t 13) (.c (.int .i64 1)), none, []⟩,
  ⟨(some 13), .mv (.t 25), none, []⟩]
def f9x9L : ACode := (.seq (.region f9x4 false) (.seq (.cond (.t 14) .skip (.exit 0)) (.seq (.block 1 (.seq (.region f9x5 false) (.seq (.region f9x6 false) (.cond (.t 22) (.seq (.region f9x7 false) .ret) .skip)))) (.region f9x8 false))))
def f9x10 : List AOper := [
  ⟨(some 4), .mv (.c (.int .i64 0)), none, []⟩,
  ⟨(some 5), .mv (.c (.bool false)), none, []⟩]
def f9 : AFunc := ⟨26, 2, false, [.t 4, .t 5], (.seq (.region f9x0 false) (.seq (.seq (.region f9x1 false) (.cond (.t 10) (.seq (.region f9x2 false) .ret) .skip)) (.seq (.seq (.region f9x3 false) (.block 0 (.loop f9x9L))) (.seq (.region f9x10 false) .ret))))⟩

/-- routing/routingref40.Cost -/
def f10x0 : List AOper := [
  ⟨(some 3), .box (.t 1), none, []⟩,
  ⟨(some 4), .mv (.c (.int .i64 0)), none, []⟩,
  ⟨(some 5), .mv (.c (.bool false)), none, []⟩]
def f10x1 : List AOper := [
  ⟨(some 8), .fadr 18 (.t 3), none, []⟩,
  ⟨(some 9), .load none (.t 8), none, []⟩,
  ⟨(some 10), .bin .eql (.t 9) (.c (.int .i64 (-1))), none, []⟩]
def f10x2 : List AOper := [
  ⟨(some 4), .mv (.c (.int .i64 0)), none, []⟩,
  ⟨(some 5), .mv (.c (.bool true)), none, []⟩]
def f10x3 : List AOper := [
  ⟨(some 11), .mv (.t 0), none, []⟩,
  ⟨(some 12), .len false (.t 11), none, []⟩,
  ⟨(some 13), .mv (.c (.int .i64 0)), none, []⟩]
def f10x4 : List AOper := [
  ⟨(some 14), .bin .lss (.t 13) (.t 12), none, []⟩]
def f10x5 : List AOper := [
  ⟨(some 15), .iadr 2 (.t 11) (.t 13), none, []⟩,
  ⟨(some 16), .load (some 2) (.t 15), none, []⟩,
  ⟨(some 7), .alloc (.agg [.int .u32 0, .int .i64 0]), none, []⟩,
  ⟨none, .store 2 (.t 7) (.t 16), none, []⟩]
def f10x6 : List AOper := [
  ⟨(some 17), .fadr 0 (.t 7), none, []⟩,
  ⟨(some 18), .load none (.t 17), none, []⟩,
  ⟨(some 19), .fadr 2 (.t 3), none, []⟩,
  ⟨(some 20), .fadr 2 (.t 19), none, []⟩,
  ⟨(some 21), .load none (.t 20), none, []⟩,
  ⟨(some 22), .bin .eql (.t 18) (.t 21), none, []⟩]
def f10x7 : List AOper := [
  ⟨(some 23), .fadr 1 (.t 7), none, []⟩,
  ⟨(some 24), .load none (.t 23), none, []⟩,
  ⟨(some 4), .mv (.t 24), none, []⟩,
  ⟨(some 5), .mv (.c (.bool true)), none, []⟩]
def f10x8 : List AOper := [
  ⟨(some 25), .bin .add (.t 13) (.c (.int .i64 1)), none, []⟩,
  ⟨(some 13), .mv (.t 25), none, []⟩]
def f10x9L : ACode := (.seq (.region f10x4 false) (.seq (.cond (.t 14) .skip (.exit 0)) (.seq (.block 1 (.seq (.region f10x5 false) (.seq (.region f10x6 false) (.cond (.t 22) (.seq (.region f10x7 false) .ret) .skip)))) (.region f10x8 false))))
def f10x10 : List AOper := [
  ⟨(some 4), .mv (.c (.int .i64 0)), none, []⟩,
  ⟨(some 5), .mv (.c (.bool false)), none, []⟩]
def f10 : AFunc := ⟨26, 2, false, [.t 4, .t 5], (.seq (.region f10x0 false) (.seq (.seq (.region f10x1 false) (.cond (.t 10) (.seq (.region f10x2 false) .ret) .skip)) (.seq (.seq (.region f10x3 false) (.block 0 (.loop f10x9L))) (.seq (.region f10x10 false) .ret))))⟩

/-- routing/routinglaw39.Large -/
def f11x0 : List AOper := [
  ⟨(some 2), .mv (.c (.bool false)), none, []⟩]
def f11x1 : List AOper := [
  ⟨(some 5), .mv (.t 0), none, []⟩,
  ⟨(some 6), .len false (.t 5), none, []⟩,
  ⟨(some 7), .bin .gtr (.t 6) (.c (.int .i64 2100)), none, []⟩]
def f11x2 : List AOper := [
  ⟨(some 2), .mv (.c (.bool true)), none, []⟩]
def f11x3 : List AOper := [
  ⟨(some 8), .mv (.t 0), none, []⟩,
  ⟨(some 9), .len false (.t 8), none, []⟩,
  ⟨(some 10), .mv (.c (.int .i64 0)), none, []⟩]
def f11x4 : List AOper := [
  ⟨(some 11), .bin .lss (.t 10) (.t 9), none, []⟩]
def f11x5 : List AOper := [
  ⟨(some 12), .iadr 22 (.t 8) (.t 10), none, []⟩,
  ⟨(some 13), .load (some 22) (.t 12), none, []⟩,
  ⟨(some 4), .alloc (.agg [.int .u32 0, .int .i64 0, .int .i64 0, .con (.slice none 0 0), .int .u32 0, .bool false, .int .i64 0, .bool false, .int .i64 0, .bool false, .bool false, .int .i64 0, .int .u32 0, .con (.slice none 0 0), .bool false, .int .u32 0, .con (.slice none 0 0), .con (.slice none 0 0), .int .i64 0, .int .i64 0, .int .u32 0, .bool false]), none, []⟩,
  ⟨none, .store 22 (.t 4) (.t 13), none, []⟩]
def f11x6 : List AOper := [
  ⟨(some 14), .mv (.t 0), none, []⟩,
  ⟨(some 15), .len false (.t 14), none, []⟩,
  ⟨(some 16), .bin .gtr (.t 15) (.c (.int .i64 100)), none, []⟩,
  ⟨(some 17), .mv (.t 16), none, []⟩,
  ⟨(some 18), .fadr 2 (.t 4), (some (17, true)), []⟩,
  ⟨(some 19), .fadr 1 (.t 18), (some (17, true)), []⟩,
  ⟨(some 20), .load none (.t 19), (some (17, true)), []⟩,
  ⟨(some 21), .len false (.t 20), (some (17, true)), []⟩,
  ⟨(some 22), .fadr 2 (.t 4), (some (17, true)), []⟩,
  ⟨(some 23), .fadr 11 (.t 22), (some (17, true)), []⟩,
  ⟨(some 24), .load none (.t 23), (some (17, true)), []⟩,
  ⟨(some 25), .len false (.t 24), (some (17, true)), []⟩,
  ⟨(some 26), .bin .add (.t 21) (.t 25), (some (17, true)), []⟩,
  ⟨(some 27), .bin .gtr (.t 26) (.c (.int .i64 10)), (some (17, true)), []⟩,
  ⟨(some 28), .pick (.t 17) (.t 27) (.c (.bool false)), none, []⟩,
  ⟨(some 29), .mv (.t 28), none, []⟩,
  ⟨(some 30), .fadr 2 (.t 4), (some (29, false)), []⟩,
  ⟨(some 31), .load (some 16) (.t 30), (some (29, false)), []⟩,
  ⟨(some 32), .call (.c (.fn 21 [])) [(.t 31)], (some (29, false)), []⟩,
  ⟨(some 33), .pick (.t 29) (.c (.bool true)) (.t 32), none, []⟩]
def f11x7 : List AOper := [
  ⟨(some 2), .mv (.c (.bool true)), none, []⟩]
def f11x8 : List AOper := [
  ⟨(some 34), .bin .add (.t 10) (.c (.int .i64 1)), none, []⟩,
  ⟨(some 10), .mv (.t 34), none, []⟩]
def f11x9L : ACode := (.seq (.region f11x4 false) (.seq (.cond (.t 11) .skip (.exit 0)) (.seq (.block 1 (.seq (.region f11x5 false) (.seq (.region f11x6 false) (.cond (.t 33) (.seq (.region f11x7 false) .ret) .skip)))) (.region f11x8 false))))
def f11x10 : List AOper := [
  ⟨(some 2), .mv (.c (.bool false)), none, []⟩]
def f11 : AFunc := ⟨35, 1, false, [.t 2], (.seq (.region f11x0 false) (.seq (.seq (.region f11x1 false) (.cond (.t 7) (.seq (.region f11x2 false) .ret) .skip)) (.seq (.seq (.region f11x3 false) (.block 0 (.loop f11x9L))) (.seq (.region f11x10 false) .ret))))⟩

/-- routing/decision.Compare -/
def f12x0 : List AOper := [
  ⟨(some 3), .box (.t 0), none, []⟩,
  ⟨(some 4), .box (.t 1), none, []⟩,
  ⟨(some 6), .mv (.c (.int .i64 0)), none, []⟩,
  ⟨(some 7), .mv (.c (.int .i64 0)), none, []⟩]
def f12x1 : List AOper := [
  ⟨(some 11), .load (some 22) (.t 3), none, []⟩,
  ⟨(some 12), .load (some 22) (.t 4), none, []⟩,
  ⟨(some 13), .mv (.t 2), none, []⟩,
  ⟨(some 14), .call (.c (.fn 22 [])) [(.t 11), (.t 12), (.t 13)], none, []⟩,
  ⟨(some 15), .len false (.t 14), none, []⟩,
  ⟨(some 16), .mv (.c (.int .i64 0)), none, []⟩]
def f12x2 : List AOper := [
  ⟨(some 17), .bin .lss (.t 16) (.t 15), none, []⟩]
def f12x3 : List AOper := [
  ⟨(some 18), .mv (.t 16), none, []⟩,
  ⟨(some 19), .iadr 1 (.t 14) (.t 16), none, []⟩,
  ⟨(some 20), .load none (.t 19), none, []⟩,
  ⟨(some 8), .mv (.t 18), none, []⟩,
  ⟨(some 9), .mv (.t 20), none, []⟩]
def f12x4 : List AOper := [
  ⟨(some 21), .mv (.t 9), none, []⟩,
  ⟨(some 22), .call (.t 21) [], none, []⟩,
  ⟨(some 10), .mv (.t 22), none, []⟩]
def f12x5 : List AOper := [
  ⟨(some 23), .mv (.t 10), none, []⟩,
  ⟨(some 24), .bin .neq (.t 23) (.c (.int .i64 0)), none, []⟩]
def f12x6 : List AOper := [
  ⟨(some 25), .mv (.t 10), none, []⟩,
  ⟨(some 26), .mv (.t 8), none, []⟩,
  ⟨(some 27), .bin .add (.t 26) (.c (.int .i64 1)), none, []⟩,
  ⟨(some 6), .mv (.t 25), none, []⟩,
  ⟨(some 7), .mv (.t 27), none, []⟩]
def f12x7 : List AOper := [
  ⟨(some 28), .bin .add (.t 16) (.c (.int .i64 1)), none, []⟩,
  ⟨(some 16), .mv (.t 28), none, []⟩]
def f12x8L : ACode := (.seq (.region f12x2 false) (.seq (.cond (.t 17) .skip (.exit 0)) (.seq (.block 1 (.seq (.region f12x3 false) (.seq (.region f12x4 false) (.seq (.region f12x5 false) (.cond (.t 24) (.seq (.region f12x6 false) .ret) .skip))))) (.region f12x7 false))))
def f12x9 : List AOper := [
  ⟨(some 6), .mv (.c (.int .i64 0)), none, []⟩,
  ⟨(some 7), .mv (.c (.int .i64 0)), none, []⟩]
def f12 : AFunc := ⟨29, 3, false, [.t 6, .t 7], (.seq (.region f12x0 false) (.seq (.seq (.region f12x1 false) (.block 0 (.loop f12x8L))) (.seq (.region f12x9 false) .ret)))⟩

/-- routing/routingref40.Compare -/
def f13x0 : List AOper := [
  ⟨(some 3), .box (.t 0), none, []⟩,
  ⟨(some 4), .box (.t 1), none, []⟩,
  ⟨(some 6), .mv (.c (.int .i64 0)), none, []⟩,
  ⟨(some 7), .mv (.c (.int .i64 0)), none, []⟩]
def f13x1 : List AOper := [
  ⟨(some 8), .mv (.c (.int .i64 1)), none, []⟩]
def f13x2 : List AOper := [
  ⟨(some 11), .mv (.t 8), none, []⟩,
  ⟨(some 12), .bin .leq (.t 11) (.c (.int .i64 10)), none, []⟩]
def f13x3 : List AOper := [
  ⟨(some 16), .mv (.t 8), none, []⟩,
  ⟨(some 17), .load (some 22) (.t 3), none, []⟩,
  ⟨(some 18), .load (some 22) (.t 4), none, []⟩,
  ⟨(some 19), .mv (.t 2), none, []⟩,
  ⟨(some 20), .call (.c (.fn 23 [])) [(.t 16), (.t 17), (.t 18), (.t 19)], none, []⟩,
  ⟨(some 15), .mv (.t 20), none, []⟩,
  ⟨(some 21), .ext (.t 15) 0, none, []⟩,
  ⟨(some 22), .ext (.t 15) 1, none, []⟩,
  ⟨(some 9), .mv (.t 21), none, []⟩,
  ⟨(some 10), .mv (.t 22), none, []⟩]
def f13x4 : List AOper := [
  ⟨(some 23), .mv (.t 9), none, []⟩,
  ⟨(some 24), .mv (.t 10), none, []⟩,
  ⟨(some 25), .bin .lss (.t 23) (.t 24), none, []⟩]
def f13x5 : List AOper := [
  ⟨(some 26), .mv (.t 8), none, []⟩,
  ⟨(some 6), .mv (.c (.int .i64 (-1))), none, []⟩,
  ⟨(some 7), .mv (.t 26), none, []⟩]
def f13x6 : List AOper := [
  ⟨(some 27), .mv (.t 9), none, []⟩,
  ⟨(some 28), .mv (.t 10), none, []⟩,
  ⟨(some 29), .bin .gtr (.t 27) (.t 28), none, []⟩]
def f13x7 : List AOper := [
  ⟨(some 30), .mv (.t 8), none, []⟩,
  ⟨(some 6), .mv (.c (.int .i64 1)), none, []⟩,
  ⟨(some 7), .mv (.t 30), none, []⟩]
def f13x8 : List AOper := [
  ⟨(some 13), .mv (.t 8), none, []⟩,
  ⟨(some 14), .bin .add (.t 13) (.c (.int .i64 1)), none, []⟩,
  ⟨(some 8), .mv (.t 14), none, []⟩]
def f13x9L : ACode := (.seq (.seq (.region f13x2 false) (.cond (.t 12) .skip (.exit 0))) (.seq (.block 1 (.seq (.region f13x3 false) (.seq (.seq (.region f13x4 false) (.cond (.t 25) (.seq (.region f13x5 false) .ret) .skip)) (.seq (.region f13x6 false) (.cond (.t 29) (.seq (.region f13x7 false) .ret) .skip))))) (.region f13x8 false)))
def f13x10 : List AOper := [
  ⟨(some 6), .mv (.c (.int .i64 0)), none, []⟩,
  ⟨(some 7), .mv (.c (.int .i64 0)), none, []⟩]
def f13 : AFunc := ⟨31, 3, false, [.t 6, .t 7], (.seq (.region f13x0 false) (.seq (.seq (.region f13x1 false) (.block 0 (.loop f13x9L))) (.seq (.region f13x10 false) .ret)))⟩

/-- routing/decision.Best -/
def f14x0 : List AOper := [
  ⟨(some 4), .mv (.c (.int .i64 0)), none, []⟩,
  ⟨(some 5), .mv (.c (.bool false)), none, []⟩]
def f14x1 : List AOper := [
  ⟨(some 6), .mv (.c (.int .i64 (-1))), none, []⟩]
def f14x2 : List AOper := [
  ⟨(some 11), .mv (.t 0), none, []⟩,
  ⟨(some 12), .mv (.t 1), none, []⟩,
  ⟨(some 13), .call (.c (.fn 24 [])) [(.t 11), (.t 12)], none, []⟩,
  ⟨(some 14), .len false (.t 13), none, []⟩,
  ⟨(some 15), .mv (.c (.int .i64 0)), none, []⟩]
def f14x3 : List AOper := [
  ⟨(some 16), .bin .lss (.t 15) (.t 14), none, []⟩]
def f14x4 : List AOper := [
  ⟨(some 17), .iadr 1 (.t 13) (.t 15), none, []⟩,
  ⟨(some 18), .load none (.t 17), none, []⟩,
  ⟨(some 8), .mv (.t 18), none, []⟩]
def f14x5 : List AOper := [
  ⟨(some 19), .mv (.t 6), none, []⟩,
  ⟨(some 20), .bin .lss (.t 19) (.c (.int .i64 0)), none, []⟩]
def f14x6 : List AOper := [
  ⟨(some 21), .mv (.t 8), none, []⟩,
  ⟨(some 6), .mv (.t 21), none, []⟩]
def f14x7 : List AOper := [
  ⟨(some 23), .mv (.t 0), none, []⟩,
  ⟨(some 24), .mv (.t 8), none, []⟩,
  ⟨(some 25), .iadr 22 (.t 23) (.t 24), none, []⟩,
  ⟨(some 26), .load (some 22) (.t 25), none, [2]⟩,
  ⟨(some 27), .mv (.t 0), none, []⟩,
  ⟨(some 28), .mv (.t 6), none, []⟩,
  ⟨(some 29), .iadr 22 (.t 27) (.t 28), none, []⟩,
  ⟨(some 30), .load (some 22) (.t 29), none, [6]⟩,
  ⟨(some 31), .mv (.t 1), none, []⟩,
  ⟨(some 32), .call (.c (.fn 12 [])) [(.t 26), (.t 30), (.t 31)], none, [3, 7, 2, 6]⟩,
  ⟨(some 22), .mv (.t 32), none, []⟩,
  ⟨(some 33), .ext (.t 22) 0, none, []⟩,
  ⟨(some 34), .ext (.t 22) 1, none, []⟩,
  ⟨(some 9), .mv (.t 33), none, []⟩,
  ⟨(some 10), .mv (.t 34), none, []⟩]
def f14x8 : List AOper := [
  ⟨(some 35), .mv (.t 9), none, []⟩,
  ⟨(some 36), .bin .lss (.t 35) (.c (.int .i64 0)), none, []⟩,
  ⟨(some 37), .mv (.t 36), none, []⟩,
  ⟨(some 38), .mv (.t 9), (some (37, false)), []⟩,
  ⟨(some 39), .bin .eql (.t 38) (.c (.int .i64 0)), (some (37, false)), []⟩,
  ⟨(some 40), .mv (.t 39), (some (37, false)), []⟩,
  ⟨(some 41), .mv (.t 8), (some (40, true)), []⟩,
  ⟨(some 42), .mv (.t 6), (some (40, true)), []⟩,
  ⟨(some 43), .bin .lss (.t 41) (.t 42), (some (40, true)), []⟩,
  ⟨(some 44), .pick (.t 40) (.t 43) (.c (.bool false)), (some (37, false)), []⟩,
  ⟨(some 45), .pick (.t 37) (.c (.bool true)) (.t 44), none, []⟩]
def f14x9 : List AOper := [
  ⟨(some 46), .mv (.t 8), none, []⟩,
  ⟨(some 6), .mv (.t 46), none, []⟩]
def f14x10 : List AOper := [
  ⟨(some 47), .bin .add (.t 15) (.c (.int .i64 1)), none, []⟩,
  ⟨(some 15), .mv (.t 47), none, []⟩]
def f14x11L : ACode := (.seq (.region f14x3 false) (.seq (.cond (.t 16) .skip (.exit 0)) (.seq (.block 1 (.seq (.region f14x4 false) (.seq (.seq (.region f14x5 false) (.cond (.t 20) (.seq (.region f14x6 false) (.exit 1)) .skip)) (.seq (.region f14x7 true) (.seq (.region f14x8 false) (.cond (.t 45) (.region f14x9 false) .skip)))))) (.region f14x10 false))))
def f14x12 : List AOper := [
  ⟨(some 48), .mv (.t 6), none, []⟩,
  ⟨(some 49), .bin .lss (.t 48) (.c (.int .i64 0)), none, []⟩]
def f14x13 : List AOper := [
  ⟨(some 4), .mv (.c (.int .i64 0)), none, []⟩,
  ⟨(some 5), .mv (.c (.bool false)), none, []⟩]
def f14x14 : List AOper := [
  ⟨(some 50), .mv (.t 6), none, []⟩,
  ⟨(some 4), .mv (.t 50), none, []⟩,
  ⟨(some 5), .mv (.c (.bool true)), none, []⟩]
def f14 : AFunc := ⟨51, 2, false, [.t 4, .t 5], (.seq (.region f14x0 false) (.seq (.region f14x1 false) (.seq (.seq (.region f14x2 false) (.block 0 (.loop f14x11L))) (.seq (.seq (.region f14x12 false) (.cond (.t 49) (.seq (.region f14x13 false) .ret) .skip)) (.seq (.region f14x14 false) .ret)))))⟩

/-- routing/routingref40.Best -/
def f15x0 : List AOper := [
  ⟨(some 4), .mv (.c (.int .i64 0)), none, []⟩,
  ⟨(some 5), .mv (.c (.bool false)), none, []⟩]
def f15x1 : List AOper := [
  ⟨(some 6), .mv (.c (.int .i64 (-1))), none, []⟩]
def f15x2 : List AOper := [
  ⟨(some 20), .mv (.t 0), none, []⟩,
  ⟨(some 21), .len false (.t 20), none, []⟩,
  ⟨(some 22), .mv (.c (.int .i64 0)), none, []⟩]
def f15x3 : List AOper := [
  ⟨(some 23), .bin .lss (.t 22) (.t 21), none, []⟩]
def f15x4 : List AOper := [
  ⟨(some 24), .mv (.t 22), none, []⟩,
  ⟨(some 25), .iadr 22 (.t 20) (.t 22), none, []⟩,
  ⟨(some 26), .load (some 22) (.t 25), none, []⟩,
  ⟨(some 8), .alloc (.agg [.int .u32 0, .int .i64 0, .int .i64 0, .con (.slice none 0 0), .int .u32 0, .bool false, .int .i64 0, .bool false, .int .i64 0, .bool false, .bool false, .int .i64 0, .int .u32 0, .con (.slice none 0 0), .bool false, .int .u32 0, .con (.slice none 0 0), .con (.slice none 0 0), .int .i64 0, .int .i64 0, .int .u32 0, .bool false]), none, []⟩,
  ⟨(some 7), .mv (.t 24), none, []⟩,
  ⟨none, .store 22 (.t 8) (.t 26), none, []⟩]
def f15x5 : List AOper := [
  ⟨(some 28), .mv (.t 1), none, []⟩,
  ⟨(some 29), .load (some 22) (.t 8), none, []⟩,
  ⟨(some 30), .call (.c (.fn 10 [])) [(.t 28), (.t 29)], none, []⟩,
  ⟨(some 27), .mv (.t 30), none, []⟩,
  ⟨(some 31), .ext (.t 27) 0, none, []⟩,
  ⟨(some 32), .ext (.t 27) 1, none, []⟩,
  ⟨(some 9), .mv (.t 31), none, []⟩,
  ⟨(some 10), .mv (.t 32), none, []⟩]
def f15x6 : List AOper := [
  ⟨(some 33), .mv (.t 10), none, []⟩,
  ⟨(some 11), .mv (.t 33), none, []⟩]
def f15x7 : List AOper := [
  ⟨(some 34), .mv (.t 0), none, []⟩,
  ⟨(some 35), .len false (.t 34), none, []⟩,
  ⟨(some 36), .mv (.c (.int .i64 0)), none, []⟩]
def f15x8 : List AOper := [
  ⟨(some 37), .bin .lss (.t 36) (.t 35), none, []⟩]
def f15x9 : List AOper := [
  ⟨(some 38), .mv (.t 36), none, []⟩,
  ⟨(some 39), .iadr 22 (.t 34) (.t 36), none, []⟩,
  ⟨(some 40), .load (some 22) (.t 39), none, []⟩,
  ⟨(some 13), .alloc (.agg [.int .u32 0, .int .i64 0, .int .i64 0, .con (.slice none 0 0), .int .u32 0, .bool false, .int .i64 0, .bool false, .int .i64 0, .bool false, .bool false, .int .i64 0, .int .u32 0, .con (.slice none 0 0), .bool false, .int .u32 0, .con (.slice none 0 0), .con (.slice none 0 0), .int .i64 0, .int .i64 0, .int .u32 0, .bool false]), none, []⟩,
  ⟨(some 12), .mv (.t 38), none, []⟩,
  ⟨none, .store 22 (.t 13) (.t 40), none, []⟩]
def f15x10 : List AOper := [
  ⟨(some 42), .mv (.t 1), none, []⟩,
  ⟨(some 43), .load (some 22) (.t 13), none, []⟩,
  ⟨(some 44), .call (.c (.fn 10 [])) [(.t 42), (.t 43)], none, []⟩,
  ⟨(some 41), .mv (.t 44), none, []⟩,
  ⟨(some 45), .ext (.t 41) 0, none, []⟩,
  ⟨(some 46), .ext (.t 41) 1, none, []⟩,
  ⟨(some 14), .mv (.t 45), none, []⟩,
  ⟨(some 15), .mv (.t 46), none, []⟩]
def f15x11 : List AOper := [
  ⟨(some 47), .mv (.t 12), none, []⟩,
  ⟨(some 48), .mv (.t 7), none, []⟩,
  ⟨(some 49), .bin .eql (.t 47) (.t 48), none, []⟩,
  ⟨(some 50), .mv (.t 49), none, []⟩,
  ⟨(some 51), .mv (.t 15), (some (50, false)), []⟩,
  ⟨(some 52), .un .not (.t 51), (some (50, false)), []⟩,
  ⟨(some 53), .pick (.t 50) (.c (.bool true)) (.t 52), none, []⟩,
  ⟨(some 54), .mv (.t 53), none, []⟩,
  ⟨(some 55), .load (some 22) (.t 8), (some (54, false)), []⟩,
  ⟨(some 56), .load (some 22) (.t 13), (some (54, false)), []⟩,
  ⟨(some 57), .call (.c (.fn 25 [])) [(.t 55), (.t 56)], (some (54, false)), []⟩,
  ⟨(some 58), .un .not (.t 57), (some (54, false)), []⟩,
  ⟨(some 59), .pick (.t 54) (.c (.bool true)) (.t 58), none, []⟩]
def f15x12 : List AOper := [
  ⟨(some 61), .load (some 22) (.t 13), none, []⟩,
  ⟨(some 62), .load (some 22) (.t 8), none, []⟩,
  ⟨(some 63), .mv (.t 1), none, []⟩,
  ⟨(some 64), .call (.c (.fn 13 [])) [(.t 61), (.t 62), (.t 63)], none, []⟩,
  ⟨(some 60), .mv (.t 64), none, []⟩,
  ⟨(some 65), .ext (.t 60) 0, none, []⟩,
  ⟨(some 66), .ext (.t 60) 1, none, []⟩,
  ⟨(some 16), .mv (.t 65), none, []⟩,
  ⟨(some 17), .mv (.t 66), none, []⟩]
def f15x13 : List AOper := [
  ⟨(some 67), .mv (.t 16), none, []⟩,
  ⟨(some 68), .bin .lss (.t 67) (.c (.int .i64 0)), none, []⟩,
  ⟨(some 69), .mv (.t 68), none, []⟩,
  ⟨(some 70), .mv (.t 16), (some (69, false)), []⟩,
  ⟨(some 71), .bin .eql (.t 70) (.c (.int .i64 0)), (some (69, false)), []⟩,
  ⟨(some 72), .mv (.t 71), (some (69, false)), []⟩,
  ⟨(some 73), .mv (.t 12), (some (72, true)), []⟩,
  ⟨(some 74), .mv (.t 7), (some (72, true)), []⟩,
  ⟨(some 75), .bin .lss (.t 73) (.t 74), (some (72, true)), []⟩,
  ⟨(some 76), .pick (.t 72) (.t 75) (.c (.bool false)), (some (69, false)), []⟩,
  ⟨(some 77), .pick (.t 69) (.c (.bool true)) (.t 76), none, []⟩]
def f15x14 : List AOper := [
  ⟨(some 11), .mv (.c (.bool false)), none, []⟩]
def f15x15 : List AOper := [
  ⟨(some 78), .bin .add (.t 36) (.c (.int .i64 1)), none, []⟩,
  ⟨(some 36), .mv (.t 78), none, []⟩]
def f15x16L : ACode := (.seq (.region f15x8 false) (.seq (.cond (.t 37) .skip (.exit 2)) (.seq (.block 3 (.seq (.region f15x9 false) (.seq (.region f15x10 false) (.seq (.seq (.region f15x11 false) (.cond (.t 59) (.exit 3) .skip)) (.seq (.region f15x12 false) (.seq (.region f15x13 false) (.cond (.t 77) (.region f15x14 false) .skip))))))) (.region f15x15 false))))
def f15x17 : List AOper := [
  ⟨(some 79), .mv (.t 11), none, []⟩,
  ⟨(some 80), .un .not (.t 79), none, []⟩]
def f15x18 : List AOper := [
  ⟨(some 81), .mv (.t 6), none, []⟩,
  ⟨(some 82), .bin .geq (.t 81) (.c (.int .i64 0)), none, []⟩]
def f15x19 : List AOper := [
  ⟨(some 84), .load (some 22) (.t 8), none, []⟩,
  ⟨(some 85), .mv (.t 0), none, []⟩,
  ⟨(some 86), .mv (.t 6), none, []⟩,
  ⟨(some 87), .iadr 22 (.t 85) (.t 86), none, []⟩,
  ⟨(some 88), .load (some 22) (.t 87), none, [3]⟩,
  ⟨(some 89), .mv (.t 1), none, []⟩,
  ⟨(some 90), .call (.c (.fn 13 [])) [(.t 84), (.t 88), (.t 89)], none, [0, 4, 3]⟩,
  ⟨(some 83), .mv (.t 90), none, []⟩,
  ⟨(some 91), .ext (.t 83) 0, none, []⟩,
  ⟨(some 92), .ext (.t 83) 1, none, []⟩,
  ⟨(some 18), .mv (.t 91), none, []⟩,
  ⟨(some 19), .mv (.t 92), none, []⟩]
def f15x20 : List AOper := [
  ⟨(some 93), .mv (.t 18), none, []⟩,
  ⟨(some 94), .bin .geq (.t 93) (.c (.int .i64 0)), none, []⟩]
def f15x21 : List AOper := [
  ⟨(some 95), .mv (.t 7), none, []⟩,
  ⟨(some 6), .mv (.t 95), none, []⟩]
def f15x22 : List AOper := [
  ⟨(some 96), .bin .add (.t 22) (.c (.int .i64 1)), none, []⟩,
  ⟨(some 22), .mv (.t 96), none, []⟩]
def f15x23L : ACode := (.seq (.region f15x3 false) (.seq (.cond (.t 23) .skip (.exit 0)) (.seq (.block 1 (.seq (.region f15x4 false) (.seq (.region f15x5 false) (.seq (.region f15x6 false) (.seq (.seq (.region f15x7 false) (.block 2 (.loop f15x16L))) (.seq (.seq (.region f15x17 false) (.cond (.t 80) (.exit 1) .skip)) (.seq (.seq (.region f15x18 false) (.cond (.t 82) (.seq (.region f15x19 true) (.seq (.region f15x20 false) (.cond (.t 94) (.exit 1) .skip))) .skip)) (.region f15x21 false)))))))) (.region f15x22 false))))
def f15x24 : List AOper := [
  ⟨(some 97), .mv (.t 6), none, []⟩,
  ⟨(some 98), .bin .lss (.t 97) (.c (.int .i64 0)), none, []⟩]
def f15x25 : List AOper := [
  ⟨(some 4), .mv (.c (.int .i64 0)), none, []⟩,
  ⟨(some 5), .mv (.c (.bool false)), none, []⟩]
def f15x26 : List AOper := [
  ⟨(some 99), .mv (.t 6), none, []⟩,
  ⟨(some 4), .mv (.t 99), none, []⟩,
  ⟨(some 5), .mv (.c (.bool true)), none, []⟩]
def f15 : AFunc := ⟨100, 2, false, [.t 4, .t 5], (.seq (.region f15x0 false) (.seq (.region f15x1 false) (.seq (.seq (.region f15x2 false) (.block 0 (.loop f15x23L))) (.seq (.seq (.region f15x24 false) (.cond (.t 98) (.seq (.region f15x25 false) .ret) .skip)) (.seq (.region f15x26 false) .ret)))))⟩

/-- routing/decision.Equal -/
def f16x0 : List AOper := [
  ⟨(some 6), .mv (.c (.con (.slice none 0 0))), none, []⟩]
def f16x1 : List AOper := [
  ⟨(some 17), .mv (.t 0), none, []⟩,
  ⟨(some 18), .mv (.t 1), none, []⟩,
  ⟨(some 19), .call (.c (.fn 14 [])) [(.t 17), (.t 18)], none, []⟩,
  ⟨(some 16), .mv (.t 19), none, []⟩,
  ⟨(some 20), .ext (.t 16) 0, none, []⟩,
  ⟨(some 21), .ext (.t 16) 1, none, []⟩,
  ⟨(some 7), .mv (.t 20), none, []⟩,
  ⟨(some 8), .mv (.t 21), none, []⟩]
def f16x2 : List AOper := [
  ⟨(some 22), .mv (.t 8), none, []⟩,
  ⟨(some 23), .un .not (.t 22), none, []⟩,
  ⟨(some 24), .mv (.t 23), none, []⟩,
  ⟨(some 25), .mv (.t 2), (some (24, false)), []⟩,
  ⟨(some 26), .bin .lss (.t 25) (.c (.int .i64 1)), (some (24, false)), []⟩,
  ⟨(some 27), .pick (.t 24) (.c (.bool true)) (.t 26), none, []⟩]
def f16x3 : List AOper := [
  ⟨(some 6), .mv (.c (.con (.slice none 0 0))), none, []⟩]
def f16x4 : List AOper := [
  ⟨(some 28), .mv (.t 7), none, []⟩,
  ⟨(some 29), .bsl 1 [.int .i64 0] 1 [0] [(.t 28)], none, []⟩,
  ⟨(some 9), .mv (.t 29), none, []⟩]
def f16x5 : List AOper := [
  ⟨(some 30), .mv (.t 0), none, []⟩,
  ⟨(some 31), .len false (.t 30), none, []⟩,
  ⟨(some 32), .mv (.c (.int .i64 0)), none, []⟩]
def f16x6 : List AOper := [
  ⟨(some 33), .bin .lss (.t 32) (.t 31), none, []⟩]
def f16x7 : List AOper := [
  ⟨(some 34), .mv (.t 32), none, []⟩,
  ⟨(some 35), .iadr 22 (.t 30) (.t 32), none, []⟩,
  ⟨(some 36), .load (some 22) (.t 35), none, []⟩,
  ⟨(some 11), .alloc (.agg [.int .u32 0, .int .i64 0, .int .i64 0, .con (.slice none 0 0), .int .u32 0, .bool false, .int .i64 0, .bool false, .int .i64 0, .bool false, .bool false, .int .i64 0, .int .u32 0, .con (.slice none 0 0), .bool false, .int .u32 0, .con (.slice none 0 0), .con (.slice none 0 0), .int .i64 0, .int .i64 0, .int .u32 0, .bool false]), none, []⟩,
  ⟨(some 10), .mv (.t 34), none, []⟩,
  ⟨none, .store 22 (.t 11) (.t 36), none, []⟩]
def f16x8 : List AOper := [
  ⟨(some 38), .mv (.t 1), none, []⟩,
  ⟨(some 39), .load (some 22) (.t 11), none, []⟩,
  ⟨(some 40), .call (.c (.fn 9 [])) [(.t 38), (.t 39)], none, []⟩,
  ⟨(some 37), .mv (.t 40), none, []⟩,
  ⟨(some 41), .ext (.t 37) 0, none, []⟩,
  ⟨(some 42), .ext (.t 37) 1, none, []⟩,
  ⟨(some 12), .mv (.t 41), none, []⟩,
  ⟨(some 13), .mv (.t 42), none, []⟩]
def f16x9 : List AOper := [
  ⟨(some 44), .load (some 22) (.t 11), none, []⟩,
  ⟨(some 45), .mv (.t 0), none, []⟩,
  ⟨(some 46), .mv (.t 7), none, []⟩,
  ⟨(some 47), .iadr 22 (.t 45) (.t 46), none, []⟩,
  ⟨(some 48), .load (some 22) (.t 47), none, [3]⟩,
  ⟨(some 49), .mv (.t 1), none, []⟩,
  ⟨(some 50), .call (.c (.fn 12 [])) [(.t 44), (.t 48), (.t 49)], none, [0, 4, 3]⟩,
  ⟨(some 43), .mv (.t 50), none, []⟩,
  ⟨(some 51), .ext (.t 43) 0, none, []⟩,
  ⟨(some 52), .ext (.t 43) 1, none, []⟩,
  ⟨(some 14), .mv (.t 51), none, []⟩,
  ⟨(some 15), .mv (.t 52), none, []⟩]
def f16x10 : List AOper := [
  ⟨(some 53), .mv (.t 13), none, []⟩,
  ⟨(some 54), .mv (.t 53), none, []⟩,
  ⟨(some 55), .mv (.t 10), (some (54, true)), []⟩,
  ⟨(some 56), .mv (.t 7), (some (54, true)), []⟩,
  ⟨(some 57), .bin .neq (.t 55) (.t 56), (some (54, true)), []⟩,
  ⟨(some 58), .pick (.t 54) (.t 57) (.c (.bool false)), none, []⟩,
  ⟨(some 59), .mv (.t 58), none, []⟩,
  ⟨(some 60), .mv (.t 9), (some (59, true)), []⟩,
  ⟨(some 61), .len false (.t 60), (some (59, true)), []⟩,
  ⟨(some 62), .mv (.t 2), (some (59, true)), []⟩,
  ⟨(some 63), .bin .lss (.t 61) (.t 62), (some (59, true)), []⟩,
  ⟨(some 64), .pick (.t 59) (.t 63) (.c (.bool false)), none, []⟩,
  ⟨(some 65), .mv (.t 64), none, []⟩,
  ⟨(some 66), .mv (.t 15), (some (65, true)), []⟩,
  ⟨(some 67), .bin .eql (.t 66) (.c (.int .i64 0)), (some (65, true)), []⟩,
  ⟨(some 68), .mv (.t 67), (some (65, true)), []⟩,
  ⟨(some 69), .mv (.t 15), (some (68, false)), []⟩,
  ⟨(some 70), .bin .gtr (.t 69) (.c (.int .i64 7)), (some (68, false)), []⟩,
  ⟨(some 71), .pick (.t 68) (.c (.bool true)) (.t 70), (some (65, true)), []⟩,
  ⟨(some 72), .pick (.t 65) (.t 71) (.c (.bool false)), none, []⟩]
def f16x11 : List AOper := [
  ⟨(some 73), .mv (.t 9), none, []⟩,
  ⟨(some 74), .mv (.t 10), none, []⟩,
  ⟨(some 75), .bsl 1 [.int .i64 0] 1 [0] [(.t 74)], none, []⟩,
  ⟨(some 76), .app 1 8 (.t 73) (.t 75), none, []⟩,
  ⟨(some 9), .mv (.t 76), none, []⟩]
def f16x12 : List AOper := [
  ⟨(some 77), .bin .add (.t 32) (.c (.int .i64 1)), none, []⟩,
  ⟨(some 32), .mv (.t 77), none, []⟩]
def f16x13L : ACode := (.seq (.region f16x6 false) (.seq (.cond (.t 33) .skip (.exit 0)) (.seq (.block 1 (.seq (.region f16x7 false) (.seq (.region f16x8 false) (.seq (.region f16x9 true) (.seq (.region f16x10 false) (.cond (.t 72) (.region f16x11 false) .skip)))))) (.region f16x12 false))))
def f16x14 : List AOper := [
  ⟨(some 78), .mv (.t 9), none, []⟩,
  ⟨(some 6), .mv (.t 78), none, []⟩]
def f16 : AFunc := ⟨79, 3, false, [.t 6], (.seq (.region f16x0 false) (.seq (.region f16x1 false) (.seq (.seq (.region f16x2 false) (.cond (.t 27) (.seq (.region f16x3 false) .ret) .skip)) (.seq (.region f16x4 false) (.seq (.seq (.region f16x5 false) (.block 0 (.loop f16x13L))) (.seq (.region f16x14 false) .ret))))))⟩

/-- routing/routingref40.Equal -/
def f17x0 : List AOper := [
  ⟨(some 6), .mv (.c (.con (.slice none 0 0))), none, []⟩]
def f17x1 : List AOper := [
  ⟨(some 17), .mv (.t 0), none, []⟩,
  ⟨(some 18), .mv (.t 1), none, []⟩,
  ⟨(some 19), .call (.c (.fn 15 [])) [(.t 17), (.t 18)], none, []⟩,
  ⟨(some 16), .mv (.t 19), none, []⟩,
  ⟨(some 20), .ext (.t 16) 0, none, []⟩,
  ⟨(some 21), .ext (.t 16) 1, none, []⟩,
  ⟨(some 7), .mv (.t 20), none, []⟩,
  ⟨(some 8), .mv (.t 21), none, []⟩]
def f17x2 : List AOper := [
  ⟨(some 22), .mv (.t 8), none, []⟩,
  ⟨(some 23), .un .not (.t 22), none, []⟩,
  ⟨(some 24), .mv (.t 23), none, []⟩,
  ⟨(some 25), .mv (.t 2), (some (24, false)), []⟩,
  ⟨(some 26), .bin .lss (.t 25) (.c (.int .i64 1)), (some (24, false)), []⟩,
  ⟨(some 27), .pick (.t 24) (.c (.bool true)) (.t 26), none, []⟩]
def f17x3 : List AOper := [
  ⟨(some 6), .mv (.c (.con (.slice none 0 0))), none, []⟩]
def f17x4 : List AOper := [
  ⟨(some 28), .mv (.t 7), none, []⟩,
  ⟨(some 29), .bsl 1 [.int .i64 0] 1 [0] [(.t 28)], none, []⟩,
  ⟨(some 9), .mv (.t 29), none, []⟩]
def f17x5 : List AOper := [
  ⟨(some 30), .mv (.t 0), none, []⟩,
  ⟨(some 31), .len false (.t 30), none, []⟩,
  ⟨(some 32), .mv (.c (.int .i64 0)), none, []⟩]
def f17x6 : List AOper := [
  ⟨(some 33), .bin .lss (.t 32) (.t 31), none, []⟩]
def f17x7 : List AOper := [
  ⟨(some 34), .mv (.t 32), none, []⟩,
  ⟨(some 35), .iadr 22 (.t 30) (.t 32), none, []⟩,
  ⟨(some 36), .load (some 22) (.t 35), none, []⟩,
  ⟨(some 11), .alloc (.agg [.int .u32 0, .int .i64 0, .int .i64 0, .con (.slice none 0 0), .int .u32 0, .bool false, .int .i64 0, .bool false, .int .i64 0, .bool false, .bool false, .int .i64 0, .int .u32 0, .con (.slice none 0 0), .bool false, .int .u32 0, .con (.slice none 0 0), .con (.slice none 0 0), .int .i64 0, .int .i64 0, .int .u32 0, .bool false]), none, []⟩,
  ⟨(some 10), .mv (.t 34), none, []⟩,
  ⟨none, .store 22 (.t 11) (.t 36), none, []⟩]
def f17x8 : List AOper := [
  ⟨(some 38), .mv (.t 1), none, []⟩,
  ⟨(some 39), .load (some 22) (.t 11), none, []⟩,
  ⟨(some 40), .call (.c (.fn 10 [])) [(.t 38), (.t 39)], none, []⟩,
  ⟨(some 37), .mv (.t 40), none, []⟩,
  ⟨(some 41), .ext (.t 37) 0, none, []⟩,
  ⟨(some 42), .ext (.t 37) 1, none, []⟩,
  ⟨(some 12), .mv (.t 41), none, []⟩,
  ⟨(some 13), .mv (.t 42), none, []⟩]
def f17x9 : List AOper := [
  ⟨(some 44), .mv (.t 0), none, []⟩,
  ⟨(some 45), .mv (.t 7), none, []⟩,
  ⟨(some 46), .iadr 22 (.t 44) (.t 45), none, []⟩,
  ⟨(some 47), .load (some 22) (.t 46), none, [2]⟩,
  ⟨(some 48), .load (some 22) (.t 11), none, []⟩,
  ⟨(some 49), .mv (.t 1), none, []⟩,
  ⟨(some 50), .call (.c (.fn 13 [])) [(.t 47), (.t 48), (.t 49)], none, [3, 4, 2]⟩,
  ⟨(some 43), .mv (.t 50), none, []⟩,
  ⟨(some 51), .ext (.t 43) 0, none, []⟩,
  ⟨(some 52), .ext (.t 43) 1, none, []⟩,
  ⟨(some 14), .mv (.t 51), none, []⟩,
  ⟨(some 15), .mv (.t 52), none, []⟩]
def f17x10 : List AOper := [
  ⟨(some 53), .mv (.t 10), none, []⟩,
  ⟨(some 54), .mv (.t 7), none, []⟩,
  ⟨(some 55), .bin .neq (.t 53) (.t 54), none, []⟩,
  ⟨(some 56), .mv (.t 55), none, []⟩,
  ⟨(some 57), .mv (.t 13), (some (56, true)), []⟩,
  ⟨(some 58), .pick (.t 56) (.t 57) (.c (.bool false)), none, []⟩,
  ⟨(some 59), .mv (.t 58), none, []⟩,
  ⟨(some 60), .mv (.t 14), (some (59, true)), []⟩,
  ⟨(some 61), .bin .eql (.t 60) (.c (.int .i64 0)), (some (59, true)), []⟩,
  ⟨(some 62), .mv (.t 61), (some (59, true)), []⟩,
  ⟨(some 63), .mv (.t 15), (some (62, false)), []⟩,
  ⟨(some 64), .bin .gtr (.t 63) (.c (.int .i64 7)), (some (62, false)), []⟩,
  ⟨(some 65), .pick (.t 62) (.c (.bool true)) (.t 64), (some (59, true)), []⟩,
  ⟨(some 66), .pick (.t 59) (.t 65) (.c (.bool false)), none, []⟩,
  ⟨(some 67), .mv (.t 66), none, []⟩,
  ⟨(some 68), .mv (.t 9), (some (67, true)), []⟩,
  ⟨(some 69), .len false (.t 68), (some (67, true)), []⟩,
  ⟨(some 70), .mv (.t 2), (some (67, true)), []⟩,
  ⟨(some 71), .bin .lss (.t 69) (.t 70), (some (67, true)), []⟩,
  ⟨(some 72), .pick (.t 67) (.t 71) (.c (.bool false)), none, []⟩]
def f17x11 : List AOper := [
  ⟨(some 73), .mv (.t 9), none, []⟩,
  ⟨(some 74), .mv (.t 10), none, []⟩,
  ⟨(some 75), .bsl 1 [.int .i64 0] 1 [0] [(.t 74)], none, []⟩,
  ⟨(some 76), .app 1 8 (.t 73) (.t 75), none, []⟩,
  ⟨(some 9), .mv (.t 76), none, []⟩]
def f17x12 : List AOper := [
  ⟨(some 77), .bin .add (.t 32) (.c (.int .i64 1)), none, []⟩,
  ⟨(some 32), .mv (.t 77), none, []⟩]
def f17x13L : ACode := (.seq (.region f17x6 false) (.seq (.cond (.t 33) .skip (.exit 0)) (.seq (.block 1 (.seq (.region f17x7 false) (.seq (.region f17x8 false) (.seq (.region f17x9 true) (.seq (.region f17x10 false) (.cond (.t 72) (.region f17x11 false) .skip)))))) (.region f17x12 false))))
def f17x14 : List AOper := [
  ⟨(some 78), .mv (.t 9), none, []⟩,
  ⟨(some 6), .mv (.t 78), none, []⟩]
def f17 : AFunc := ⟨79, 3, false, [.t 6], (.seq (.region f17x0 false) (.seq (.region f17x1 false) (.seq (.seq (.region f17x2 false) (.cond (.t 27) (.seq (.region f17x3 false) .ret) .skip)) (.seq (.region f17x4 false) (.seq (.seq (.region f17x5 false) (.block 0 (.loop f17x13L))) (.seq (.region f17x14 false) .ret))))))⟩

/-- routing/routinglaw40.distinct -/
def f18x0 : List AOper := [
  ⟨(some 2), .mv (.c (.bool false)), none, []⟩]
def f18x1 : List AOper := [
  ⟨(some 5), .mv (.t 0), none, []⟩,
  ⟨(some 6), .len false (.t 5), none, []⟩,
  ⟨(some 7), .mv (.c (.int .i64 0)), none, []⟩]
def f18x2 : List AOper := [
  ⟨(some 8), .bin .lss (.t 7) (.t 6), none, []⟩]
def f18x3 : List AOper := [
  ⟨(some 9), .mv (.t 7), none, []⟩,
  ⟨(some 3), .mv (.t 9), none, []⟩]
def f18x4 : List AOper := [
  ⟨(some 10), .mv (.t 0), none, []⟩,
  ⟨(some 11), .mv (.t 3), none, []⟩,
  ⟨(some 12), .slc 22 (.t 10) none (some (.t 11)) none, none, []⟩,
  ⟨(some 13), .len false (.t 12), none, []⟩,
  ⟨(some 14), .mv (.c (.int .i64 0)), none, []⟩]
def f18x5 : List AOper := [
  ⟨(some 15), .bin .lss (.t 14) (.t 13), none, []⟩]
def f18x6 : List AOper := [
  ⟨(some 16), .mv (.t 14), none, []⟩,
  ⟨(some 4), .mv (.t 16), none, []⟩]
def f18x7 : List AOper := [
  ⟨(some 17), .mv (.t 0), none, []⟩,
  ⟨(some 18), .mv (.t 3), none, []⟩,
  ⟨(some 19), .iadr 22 (.t 17) (.t 18), none, []⟩,
  ⟨(some 20), .fadr 18 (.t 19), none, []⟩,
  ⟨(some 21), .load none (.t 20), none, [2]⟩,
  ⟨(some 22), .mv (.t 0), none, []⟩,
  ⟨(some 23), .mv (.t 4), none, []⟩,
  ⟨(some 24), .iadr 22 (.t 22) (.t 23), none, []⟩,
  ⟨(some 25), .fadr 18 (.t 24), none, []⟩,
  ⟨(some 26), .load none (.t 25), none, [7]⟩,
  ⟨(some 27), .bin .eql (.t 21) (.t 26), none, []⟩]
def f18x8 : List AOper := [
  ⟨(some 2), .mv (.c (.bool false)), none, []⟩]
def f18x9 : List AOper := [
  ⟨(some 28), .bin .add (.t 14) (.c (.int .i64 1)), none, []⟩,
  ⟨(some 14), .mv (.t 28), none, []⟩]
def f18x10L : ACode := (.seq (.region f18x5 false) (.seq (.cond (.t 15) .skip (.exit 2)) (.seq (.block 3 (.seq (.region f18x6 false) (.seq (.region f18x7 true) (.cond (.t 27) (.seq (.region f18x8 false) .ret) .skip)))) (.region f18x9 false))))
def f18x11 : List AOper := [
  ⟨(some 29), .bin .add (.t 7) (.c (.int .i64 1)), none, []⟩,
  ⟨(some 7), .mv (.t 29), none, []⟩]
def f18x12L : ACode := (.seq (.region f18x2 false) (.seq (.cond (.t 8) .skip (.exit 0)) (.seq (.block 1 (.seq (.region f18x3 false) (.seq (.region f18x4 false) (.block 2 (.loop f18x10L))))) (.region f18x11 false))))
def f18x13 : List AOper := [
  ⟨(some 2), .mv (.c (.bool true)), none, []⟩]
def f18 : AFunc := ⟨30, 1, false, [.t 2], (.seq (.region f18x0 false) (.seq (.seq (.region f18x1 false) (.block 0 (.loop f18x12L))) (.seq (.region f18x13 false) .ret)))⟩

/-- routing/routingref17.First -/
def f19x0 : List AOper := [
  ⟨(some 2), .mv (.c (.int .i64 0)), none, []⟩,
  ⟨(some 3), .mv (.c (.bool false)), none, []⟩]
def f19x1 : List AOper := [
  ⟨(some 6), .mv (.t 0), none, []⟩,
  ⟨(some 7), .len false (.t 6), none, []⟩,
  ⟨(some 8), .mv (.c (.int .i64 0)), none, []⟩]
def f19x2 : List AOper := [
  ⟨(some 9), .bin .lss (.t 8) (.t 7), none, []⟩]
def f19x3 : List AOper := [
  ⟨(some 10), .iadr 2 (.t 6) (.t 8), none, []⟩,
  ⟨(some 11), .load (some 2) (.t 10), none, []⟩,
  ⟨(some 5), .alloc (.agg [.int .i64 0, .con (.slice none 0 0)]), none, []⟩,
  ⟨none, .store 2 (.t 5) (.t 11), none, []⟩]
def f19x4 : List AOper := [
  ⟨(some 12), .fadr 0 (.t 5), none, []⟩,
  ⟨(some 13), .load none (.t 12), none, []⟩,
  ⟨(some 14), .bin .eql (.t 13) (.c (.int .i64 2)), none, []⟩]
def f19x5 : List AOper := [
  ⟨(some 15), .fadr 1 (.t 5), none, []⟩,
  ⟨(some 16), .load none (.t 15), none, []⟩,
  ⟨(some 17), .len false (.t 16), none, []⟩,
  ⟨(some 18), .bin .eql (.t 17) (.c (.int .i64 0)), none, []⟩]
def f19x6 : List AOper := [
  ⟨(some 2), .mv (.c (.int .i64 0)), none, []⟩,
  ⟨(some 3), .mv (.c (.bool false)), none, []⟩]
def f19x7 : List AOper := [
  ⟨(some 19), .fadr 1 (.t 5), none, []⟩,
  ⟨(some 20), .load none (.t 19), none, []⟩,
  ⟨(some 21), .iadr 1 (.t 20) (.c (.int .i64 0)), none, []⟩,
  ⟨(some 22), .load none (.t 21), none, []⟩,
  ⟨(some 2), .mv (.t 22), none, []⟩,
  ⟨(some 3), .mv (.c (.bool true)), none, []⟩]
def f19x8 : List AOper := [
  ⟨(some 23), .bin .add (.t 8) (.c (.int .i64 1)), none, []⟩,
  ⟨(some 8), .mv (.t 23), none, []⟩]
def f19x9L : ACode := (.seq (.region f19x2 false) (.seq (.cond (.t 9) .skip (.exit 0)) (.seq (.block 1 (.seq (.region f19x3 false) (.seq (.region f19x4 false) (.cond (.t 14) (.seq (.seq (.region f19x5 false) (.cond (.t 18) (.seq (.region f19x6 false) .ret) .skip)) (.seq (.region f19x7 false) .ret)) .skip)))) (.region f19x8 false))))
def f19x10 : List AOper := [
  ⟨(some 2), .mv (.c (.int .i64 0)), none, []⟩,
  ⟨(some 3), .mv (.c (.bool false)), none, []⟩]
def f19 : AFunc := ⟨24, 1, false, [.t 2, .t 3], (.seq (.region f19x0 false) (.seq (.seq (.region f19x1 false) (.block 0 (.loop f19x9L))) (.seq (.region f19x10 false) .ret)))⟩

/-- routing/routinglaw40.seq -/
def f20x0 : List AOper := [
  ⟨(some 2), .alloc (.agg [.int .i64 0, .con (.slice none 0 0), .int .u32 0, .bool false, .int .i64 0, .bool false, .int .i64 0, .bool false, .bool false, .int .i64 0, .int .u32 0, .con (.slice none 0 0), .bool false, .int .u32 0, .con (.slice none 0 0), .con (.slice none 0 0)]), none, []⟩]
def f20x1 : List AOper := [
  ⟨(some 3), .mv (.t 0), none, []⟩,
  ⟨(some 4), .build [.int .i64 0, .con (.slice none 0 0)] [(0, 1), (1, 1)] [(.c (.int .i64 2)), (.t 3)], none, []⟩,
  ⟨(some 5), .bsl 2 [.int .i64 0, .con (.slice none 0 0)] 1 [0] [(.t 4)], none, []⟩,
  ⟨(some 6), .build [.int .i64 0, .con (.slice none 0 0), .int .u32 0, .bool false, .int .i64 0, .bool false, .int .i64 0, .bool false, .bool false, .int .i64 0, .int .u32 0, .con (.slice none 0 0), .bool false, .int .u32 0, .con (.slice none 0 0), .con (.slice none 0 0)] [(2, 1), (1, 1)] [(.c (.int .u32 1)), (.t 5)], none, []⟩,
  ⟨none, .store 16 (.t 2) (.t 6), none, []⟩]
def f20 : AFunc := ⟨7, 1, false, [.cell 2 (some 16)], (.seq (.region f20x0 false) (.seq (.region f20x1 false) .ret))⟩

/-- routing/routinglaw36.Large -/
def f21x0 : List AOper := [
  ⟨(some 1), .box (.t 0), none, []⟩,
  ⟨(some 2), .mv (.c (.bool false)), none, []⟩]
def f21x1 : List AOper := [
  ⟨(some 3), .load (some 16) (.t 1), none, []⟩,
  ⟨(some 4), .call (.c (.fn 26 [])) [(.t 3)], none, []⟩,
  ⟨(some 5), .bin .gtr (.t 4) (.c (.int .i64 3000)), none, []⟩,
  ⟨(some 2), .mv (.t 5), none, []⟩]
def f21 : AFunc := ⟨6, 1, false, [.t 2], (.seq (.region f21x0 false) (.seq (.region f21x1 false) .ret))⟩

/-- routing/decision.rules -/
def f22x0 : List AOper := [
  ⟨(some 3), .box (.t 0), none, []⟩,
  ⟨(some 4), .box (.t 1), none, []⟩,
  ⟨(some 5), .box (.t 2), none, []⟩,
  ⟨(some 6), .mv (.c (.con (.slice none 0 0))), none, []⟩]
def f22x1 : List AOper := [
  ⟨(some 7), .mkfn 27 [(.t 4), (.t 3)], none, []⟩,
  ⟨(some 8), .mkfn 29 [(.t 4), (.t 3)], none, []⟩,
  ⟨(some 9), .mkfn 32 [(.t 3), (.t 4)], none, []⟩,
  ⟨(some 10), .mkfn 34 [(.t 3), (.t 4)], none, []⟩,
  ⟨(some 11), .mkfn 35 [(.t 3), (.t 4)], none, []⟩,
  ⟨(some 12), .mkfn 38 [(.t 3), (.t 4)], none, []⟩,
  ⟨(some 13), .mkfn 40 [(.t 5), (.t 3), (.t 4)], none, []⟩,
  ⟨(some 14), .mkfn 42 [(.t 3), (.t 4)], none, []⟩,
  ⟨(some 15), .mkfn 45 [(.t 3), (.t 4)], none, []⟩,
  ⟨(some 16), .mkfn 46 [(.t 3), (.t 4)], none, []⟩,
  ⟨(some 17), .bsl 1 [.con (.nilFunc)] 10 [0, 1, 2, 3, 4, 5, 6, 7, 8, 9] [(.t 7), (.t 8), (.t 9), (.t 10), (.t 11), (.t 12), (.t 13), (.t 14), (.t 15), (.t 16)], none, []⟩,
  ⟨(some 6), .mv (.t 17), none, []⟩]
def f22 : AFunc := ⟨18, 3, false, [.t 6], (.seq (.region f22x0 false) (.seq (.region f22x1 false) .ret))⟩

/-- routing/routingref40.rule -/
def f23x0 : List AOper := [
  ⟨(some 5), .box (.t 1), none, []⟩,
  ⟨(some 6), .box (.t 2), none, []⟩,
  ⟨(some 8), .mv (.c (.int .i64 0)), none, []⟩,
  ⟨(some 9), .mv (.c (.int .i64 0)), none, []⟩]
def f23x1 : List AOper := [
  ⟨(some 18), .mv (.t 0), none, []⟩]
def f23x2 : List AOper := [
  ⟨(some 20), .bin .eql (.t 18) (.c (.int .i64 1)), none, []⟩,
  ⟨(some 19), .mv (.t 20), none, []⟩]
def f23x3 : List AOper := [
  ⟨(some 21), .fadr 18 (.t 5), none, []⟩,
  ⟨(some 22), .load none (.t 21), none, []⟩,
  ⟨(some 23), .bin .eql (.t 22) (.c (.int .i64 (-1))), none, []⟩,
  ⟨(some 24), .call (.c (.fn 47 [])) [(.t 23)], none, [1]⟩,
  ⟨(some 25), .fadr 18 (.t 6), none, []⟩,
  ⟨(some 26), .load none (.t 25), none, []⟩,
  ⟨(some 27), .bin .eql (.t 26) (.c (.int .i64 (-1))), none, []⟩,
  ⟨(some 28), .call (.c (.fn 47 [])) [(.t 27)], none, [3, 5, 1]⟩,
  ⟨(some 8), .mv (.t 24), none, []⟩,
  ⟨(some 9), .mv (.t 28), none, []⟩]
def f23x4 : List AOper := [
  ⟨(some 30), .bin .eql (.t 18) (.c (.int .i64 2)), none, []⟩,
  ⟨(some 29), .mv (.t 30), none, []⟩]
def f23x5 : List AOper := [
  ⟨(some 31), .load (some 22) (.t 6), none, []⟩,
  ⟨(some 32), .call (.c (.fn 48 [])) [(.t 31)], none, [0]⟩,
  ⟨(some 33), .load (some 22) (.t 5), none, []⟩,
  ⟨(some 34), .call (.c (.fn 48 [])) [(.t 33)], none, [2, 1, 0]⟩,
  ⟨(some 8), .mv (.t 32), none, []⟩,
  ⟨(some 9), .mv (.t 34), none, []⟩]
def f23x6 : List AOper := [
  ⟨(some 36), .bin .eql (.t 18) (.c (.int .i64 3)), none, []⟩,
  ⟨(some 35), .mv (.t 36), none, []⟩]
def f23x7 : List AOper := [
  ⟨(some 37), .fadr 2 (.t 5), none, []⟩,
  ⟨(some 38), .fadr 1 (.t 37), none, []⟩,
  ⟨(some 39), .load none (.t 38), none, []⟩,
  ⟨(some 40), .call (.c (.fn 49 [])) [(.t 39)], none, [2]⟩,
  ⟨(some 41), .fadr 2 (.t 6), none, []⟩,
  ⟨(some 42), .fadr 1 (.t 41), none, []⟩,
  ⟨(some 43), .load none (.t 42), none, []⟩,
  ⟨(some 44), .call (.c (.fn 49 [])) [(.t 43)], none, [6, 3, 2]⟩,
  ⟨(some 8), .mv (.t 40), none, []⟩,
  ⟨(some 9), .mv (.t 44), none, []⟩]
def f23x8 : List AOper := [
  ⟨(some 46), .bin .eql (.t 18) (.c (.int .i64 4)), none, []⟩,
  ⟨(some 45), .mv (.t 46), none, []⟩]
def f23x9 : List AOper := [
  ⟨(some 47), .fadr 2 (.t 5), none, []⟩,
  ⟨(some 48), .fadr 0 (.t 47), none, []⟩,
  ⟨(some 49), .load none (.t 48), none, []⟩,
  ⟨(some 50), .fadr 2 (.t 6), none, []⟩,
  ⟨(some 51), .fadr 0 (.t 50), none, []⟩,
  ⟨(some 52), .load none (.t 51), none, []⟩,
  ⟨(some 8), .mv (.t 49), none, []⟩,
  ⟨(some 9), .mv (.t 52), none, []⟩]
def f23x10 : List AOper := [
  ⟨(some 54), .bin .eql (.t 18) (.c (.int .i64 5)), none, []⟩,
  ⟨(some 53), .mv (.t 54), none, []⟩]
def f23x11 : List AOper := [
  ⟨(some 56), .fadr 2 (.t 5), none, []⟩,
  ⟨(some 57), .fadr 1 (.t 56), none, []⟩,
  ⟨(some 58), .load none (.t 57), none, []⟩,
  ⟨(some 59), .call (.c (.fn 19 [])) [(.t 58)], none, []⟩,
  ⟨(some 55), .mv (.t 59), none, []⟩,
  ⟨(some 60), .ext (.t 55) 0, none, []⟩,
  ⟨(some 61), .ext (.t 55) 1, none, []⟩,
  ⟨(some 10), .mv (.t 60), none, []⟩,
  ⟨(some 11), .mv (.t 61), none, []⟩]
def f23x12 : List AOper := [
  ⟨(some 63), .fadr 2 (.t 6), none, []⟩,
  ⟨(some 64), .fadr 1 (.t 63), none, []⟩,
  ⟨(some 65), .load none (.t 64), none, []⟩,
  ⟨(some 66), .call (.c (.fn 19 [])) [(.t 65)], none, []⟩,
  ⟨(some 62), .mv (.t 66), none, []⟩,
  ⟨(some 67), .ext (.t 62) 0, none, []⟩,
  ⟨(some 68), .ext (.t 62) 1, none, []⟩,
  ⟨(some 12), .mv (.t 67), none, []⟩,
  ⟨(some 13), .mv (.t 68), none, []⟩]
def f23x13 : List AOper := [
  ⟨(some 69), .mv (.t 11), none, []⟩,
  ⟨(some 70), .mv (.t 69), none, []⟩,
  ⟨(some 71), .mv (.t 13), (some (70, true)), []⟩,
  ⟨(some 72), .pick (.t 70) (.t 71) (.c (.bool false)), none, []⟩,
  ⟨(some 73), .mv (.t 72), none, []⟩,
  ⟨(some 74), .mv (.t 10), (some (73, true)), []⟩,
  ⟨(some 75), .mv (.t 12), (some (73, true)), []⟩,
  ⟨(some 76), .bin .eql (.t 74) (.t 75), (some (73, true)), []⟩,
  ⟨(some 77), .pick (.t 73) (.t 76) (.c (.bool false)), none, []⟩]
def f23x14 : List AOper := [
  ⟨(some 78), .load (some 22) (.t 5), none, []⟩,
  ⟨(some 79), .call (.c (.fn 50 [])) [(.t 78)], none, [0]⟩,
  ⟨(some 80), .load (some 22) (.t 6), none, []⟩,
  ⟨(some 81), .call (.c (.fn 50 [])) [(.t 80)], none, [2, 1, 0]⟩,
  ⟨(some 8), .mv (.t 79), none, []⟩,
  ⟨(some 9), .mv (.t 81), none, []⟩]
def f23x15 : List AOper := [
  ⟨(some 83), .bin .eql (.t 18) (.c (.int .i64 6)), none, []⟩,
  ⟨(some 82), .mv (.t 83), none, []⟩]
def f23x16 : List AOper := [
  ⟨(some 84), .load (some 22) (.t 5), none, []⟩,
  ⟨(some 85), .call (.c (.fn 51 [])) [(.t 84)], none, [0]⟩,
  ⟨(some 86), .load (some 22) (.t 6), none, []⟩,
  ⟨(some 87), .call (.c (.fn 51 [])) [(.t 86)], none, [2, 1, 0]⟩,
  ⟨(some 8), .mv (.t 85), none, []⟩,
  ⟨(some 9), .mv (.t 87), none, []⟩]
def f23x17 : List AOper := [
  ⟨(some 89), .bin .eql (.t 18) (.c (.int .i64 7)), none, []⟩,
  ⟨(some 88), .mv (.t 89), none, []⟩]
def f23x18 : List AOper := [
  ⟨(some 91), .mv (.t 3), none, []⟩,
  ⟨(some 92), .load (some 22) (.t 5), none, []⟩,
  ⟨(some 93), .call (.c (.fn 10 [])) [(.t 91), (.t 92)], none, []⟩,
  ⟨(some 90), .mv (.t 93), none, []⟩,
  ⟨(some 94), .ext (.t 90) 0, none, []⟩,
  ⟨(some 95), .ext (.t 90) 1, none, []⟩,
  ⟨(some 14), .mv (.t 94), none, []⟩,
  ⟨(some 15), .mv (.t 95), none, []⟩]
def f23x19 : List AOper := [
  ⟨(some 97), .mv (.t 3), none, []⟩,
  ⟨(some 98), .load (some 22) (.t 6), none, []⟩,
  ⟨(some 99), .call (.c (.fn 10 [])) [(.t 97), (.t 98)], none, []⟩,
  ⟨(some 96), .mv (.t 99), none, []⟩,
  ⟨(some 100), .ext (.t 96) 0, none, []⟩,
  ⟨(some 101), .ext (.t 96) 1, none, []⟩,
  ⟨(some 16), .mv (.t 100), none, []⟩,
  ⟨(some 17), .mv (.t 101), none, []⟩]
def f23x20 : List AOper := [
  ⟨(some 102), .mv (.t 15), none, []⟩,
  ⟨(some 103), .mv (.t 102), none, []⟩,
  ⟨(some 104), .mv (.t 17), (some (103, true)), []⟩,
  ⟨(some 105), .pick (.t 103) (.t 104) (.c (.bool false)), none, []⟩]
def f23x21 : List AOper := [
  ⟨(some 106), .mv (.t 14), none, []⟩,
  ⟨(some 107), .mv (.t 16), none, []⟩,
  ⟨(some 8), .mv (.t 106), none, []⟩,
  ⟨(some 9), .mv (.t 107), none, []⟩]
def f23x22 : List AOper := [
  ⟨(some 108), .mv (.t 15), none, []⟩,
  ⟨(some 109), .call (.c (.fn 47 [])) [(.t 108)], none, []⟩,
  ⟨(some 110), .mv (.t 17), none, []⟩,
  ⟨(some 111), .call (.c (.fn 47 [])) [(.t 110)], none, []⟩,
  ⟨(some 8), .mv (.t 109), none, []⟩,
  ⟨(some 9), .mv (.t 111), none, []⟩]
def f23x23 : List AOper := [
  ⟨(some 113), .bin .eql (.t 18) (.c (.int .i64 8)), none, []⟩,
  ⟨(some 112), .mv (.t 113), none, []⟩]
def f23x24 : List AOper := [
  ⟨(some 114), .load (some 22) (.t 5), none, []⟩,
  ⟨(some 115), .call (.c (.fn 52 [])) [(.t 114)], none, [0]⟩,
  ⟨(some 116), .load (some 22) (.t 6), none, []⟩,
  ⟨(some 117), .call (.c (.fn 52 [])) [(.t 116)], none, [2, 1, 0]⟩,
  ⟨(some 8), .mv (.t 115), none, []⟩,
  ⟨(some 9), .mv (.t 117), none, []⟩]
def f23x25 : List AOper := [
  ⟨(some 119), .bin .eql (.t 18) (.c (.int .i64 9)), none, []⟩,
  ⟨(some 118), .mv (.t 119), none, []⟩]
def f23x26 : List AOper := [
  ⟨(some 120), .fadr 2 (.t 5), none, []⟩,
  ⟨(some 121), .fadr 14 (.t 120), none, []⟩,
  ⟨(some 122), .load none (.t 121), none, []⟩,
  ⟨(some 123), .len false (.t 122), none, [2]⟩,
  ⟨(some 124), .fadr 2 (.t 6), none, []⟩,
  ⟨(some 125), .fadr 14 (.t 124), none, []⟩,
  ⟨(some 126), .load none (.t 125), none, []⟩,
  ⟨(some 127), .len false (.t 126), none, [6]⟩,
  ⟨(some 8), .mv (.t 123), none, []⟩,
  ⟨(some 9), .mv (.t 127), none, []⟩]
def f23x27 : List AOper := [
  ⟨(some 129), .bin .eql (.t 18) (.c (.int .i64 10)), none, []⟩,
  ⟨(some 128), .mv (.t 129), none, []⟩]
def f23x28 : List AOper := [
  ⟨(some 130), .fadr 18 (.t 5), none, []⟩,
  ⟨(some 131), .load none (.t 130), none, []⟩,
  ⟨(some 132), .fadr 18 (.t 6), none, []⟩,
  ⟨(some 133), .load none (.t 132), none, []⟩,
  ⟨(some 8), .mv (.t 131), none, []⟩,
  ⟨(some 9), .mv (.t 133), none, []⟩]
def f23x29 : List AOper := [
  ⟨(some 8), .mv (.c (.int .i64 0)), none, []⟩,
  ⟨(some 9), .mv (.c (.int .i64 0)), none, []⟩]
def f23 : AFunc := ⟨134, 4, false, [.t 8, .t 9], (.seq (.region f23x0 false) (.seq (.seq (.region f23x1 false) (.block 0 (.seq (.region f23x2 false) (.cond (.t 19) (.seq (.region f23x3 true) .ret) (.seq (.region f23x4 false) (.cond (.t 29) (.seq (.region f23x5 true) .ret) (.seq (.region f23x6 false) (.cond (.t 35) (.seq (.region f23x7 true) .ret) (.seq (.region f23x8 false) (.cond (.t 45) (.seq (.region f23x9 true) .ret) (.seq (.region f23x10 false) (.cond (.t 53) (.seq (.region f23x11 false) (.seq (.region f23x12 false) (.seq (.region f23x13 false) (.cond (.t 77) (.seq (.region f23x14 true) .ret) .skip)))) (.seq (.region f23x15 false) (.cond (.t 82) (.seq (.region f23x16 true) .ret) (.seq (.region f23x17 false) (.cond (.t 88) (.seq (.region f23x18 false) (.seq (.region f23x19 false) (.seq (.seq (.region f23x20 false) (.cond (.t 105) (.seq (.region f23x21 false) .ret) .skip)) (.seq (.region f23x22 false) .ret)))) (.seq (.region f23x23 false) (.cond (.t 112) (.seq (.region f23x24 true) .ret) (.seq (.region f23x25 false) (.cond (.t 118) (.seq (.region f23x26 true) .ret) (.seq (.region f23x27 false) (.cond (.t 128) (.seq (.region f23x28 true) .ret) .skip)))))))))))))))))))))) (.seq (.region f23x29 false) .ret)))⟩

/-- routing/decision.winners -/
def f24x0 : List AOper := [
  ⟨(some 4), .mv (.c (.con (.slice none 0 0))), none, []⟩]
def f24x1 : List AOper := [
  ⟨(some 5), .mv (.c (.con (.slice none 0 0))), none, []⟩]
def f24x2 : List AOper := [
  ⟨(some 18), .mv (.t 0), none, []⟩,
  ⟨(some 19), .len false (.t 18), none, []⟩,
  ⟨(some 20), .mv (.c (.int .i64 0)), none, []⟩]
def f24x3 : List AOper := [
  ⟨(some 21), .bin .lss (.t 20) (.t 19), none, []⟩]
def f24x4 : List AOper := [
  ⟨(some 22), .mv (.t 20), none, []⟩,
  ⟨(some 23), .iadr 22 (.t 18) (.t 20), none, []⟩,
  ⟨(some 24), .load (some 22) (.t 23), none, []⟩,
  ⟨(some 7), .alloc (.agg [.int .u32 0, .int .i64 0, .int .i64 0, .con (.slice none 0 0), .int .u32 0, .bool false, .int .i64 0, .bool false, .int .i64 0, .bool false, .bool false, .int .i64 0, .int .u32 0, .con (.slice none 0 0), .bool false, .int .u32 0, .con (.slice none 0 0), .con (.slice none 0 0), .int .i64 0, .int .i64 0, .int .u32 0, .bool false]), none, []⟩,
  ⟨(some 6), .mv (.t 22), none, []⟩,
  ⟨none, .store 22 (.t 7) (.t 24), none, []⟩]
def f24x5 : List AOper := [
  ⟨(some 26), .mv (.t 1), none, []⟩,
  ⟨(some 27), .load (some 22) (.t 7), none, []⟩,
  ⟨(some 28), .call (.c (.fn 9 [])) [(.t 26), (.t 27)], none, []⟩,
  ⟨(some 25), .mv (.t 28), none, []⟩,
  ⟨(some 29), .ext (.t 25) 0, none, []⟩,
  ⟨(some 30), .ext (.t 25) 1, none, []⟩,
  ⟨(some 8), .mv (.t 29), none, []⟩,
  ⟨(some 9), .mv (.t 30), none, []⟩]
def f24x6 : List AOper := [
  ⟨(some 31), .mv (.t 9), none, []⟩,
  ⟨(some 32), .un .not (.t 31), none, []⟩]
def f24x7 : List AOper := [
  ⟨(some 34), .fadr 2 (.t 7), none, []⟩,
  ⟨(some 35), .fadr 1 (.t 34), none, []⟩,
  ⟨(some 36), .load none (.t 35), none, []⟩,
  ⟨(some 37), .call (.c (.fn 53 [])) [(.t 36)], none, []⟩,
  ⟨(some 33), .mv (.t 37), none, []⟩,
  ⟨(some 38), .ext (.t 33) 0, none, []⟩,
  ⟨(some 39), .ext (.t 33) 1, none, []⟩,
  ⟨(some 10), .mv (.t 38), none, []⟩,
  ⟨(some 11), .mv (.t 39), none, []⟩]
def f24x8 : List AOper := [
  ⟨(some 40), .mv (.t 5), none, []⟩,
  ⟨(some 41), .len false (.t 40), none, []⟩,
  ⟨(some 42), .mv (.c (.int .i64 0)), none, []⟩]
def f24x9 : List AOper := [
  ⟨(some 43), .bin .lss (.t 42) (.t 41), none, []⟩]
def f24x10 : List AOper := [
  ⟨(some 44), .mv (.t 42), none, []⟩,
  ⟨(some 45), .iadr 1 (.t 40) (.t 42), none, []⟩,
  ⟨(some 46), .load none (.t 45), none, []⟩,
  ⟨(some 12), .mv (.t 44), none, []⟩,
  ⟨(some 13), .mv (.t 46), none, []⟩]
def f24x11 : List AOper := [
  ⟨(some 48), .mv (.t 0), none, []⟩,
  ⟨(some 49), .mv (.t 13), none, []⟩,
  ⟨(some 50), .iadr 22 (.t 48) (.t 49), none, []⟩,
  ⟨(some 51), .fadr 2 (.t 50), none, []⟩,
  ⟨(some 52), .fadr 1 (.t 51), none, []⟩,
  ⟨(some 53), .load none (.t 52), none, []⟩,
  ⟨(some 54), .call (.c (.fn 53 [])) [(.t 53)], none, []⟩,
  ⟨(some 47), .mv (.t 54), none, []⟩,
  ⟨(some 55), .ext (.t 47) 0, none, []⟩,
  ⟨(some 56), .ext (.t 47) 1, none, []⟩,
  ⟨(some 14), .mv (.t 55), none, []⟩,
  ⟨(some 15), .mv (.t 56), none, []⟩]
def f24x12 : List AOper := [
  ⟨(some 57), .load (some 22) (.t 7), none, []⟩,
  ⟨(some 58), .mv (.t 0), none, []⟩,
  ⟨(some 59), .mv (.t 13), none, []⟩,
  ⟨(some 60), .iadr 22 (.t 58) (.t 59), none, []⟩,
  ⟨(some 61), .load (some 22) (.t 60), none, [3]⟩,
  ⟨(some 62), .call (.c (.fn 36 [])) [(.t 57), (.t 61)], none, [0, 4, 3]⟩,
  ⟨(some 63), .un .not (.t 62), none, []⟩,
  ⟨(some 64), .mv (.t 63), none, []⟩,
  ⟨(some 65), .mv (.t 11), (some (64, true)), []⟩,
  ⟨(some 66), .mv (.t 65), (some (64, true)), []⟩,
  ⟨(some 67), .mv (.t 15), (some (66, false)), []⟩,
  ⟨(some 68), .pick (.t 66) (.c (.bool true)) (.t 67), (some (64, true)), []⟩,
  ⟨(some 69), .pick (.t 64) (.t 68) (.c (.bool false)), none, []⟩]
def f24x13 : List AOper := [
  ⟨(some 71), .load (some 22) (.t 7), none, []⟩,
  ⟨(some 72), .mv (.t 0), none, []⟩,
  ⟨(some 73), .mv (.t 13), none, []⟩,
  ⟨(some 74), .iadr 22 (.t 72) (.t 73), none, []⟩,
  ⟨(some 75), .load (some 22) (.t 74), none, [3]⟩,
  ⟨(some 76), .mv (.t 1), none, []⟩,
  ⟨(some 77), .call (.c (.fn 12 [])) [(.t 71), (.t 75), (.t 76)], none, [0, 4, 3]⟩,
  ⟨(some 70), .mv (.t 77), none, []⟩,
  ⟨(some 78), .ext (.t 70) 0, none, []⟩,
  ⟨(some 79), .ext (.t 70) 1, none, []⟩,
  ⟨(some 16), .mv (.t 78), none, []⟩,
  ⟨(some 17), .mv (.t 79), none, []⟩]
def f24x14 : List AOper := [
  ⟨(some 80), .mv (.t 16), none, []⟩,
  ⟨(some 81), .bin .lss (.t 80) (.c (.int .i64 0)), none, []⟩]
def f24x15 : List AOper := [
  ⟨(some 82), .mv (.t 5), none, []⟩,
  ⟨(some 83), .mv (.t 12), none, []⟩,
  ⟨(some 84), .mv (.t 6), none, []⟩,
  ⟨(some 85), .iadr 1 (.t 82) (.t 83), none, []⟩,
  ⟨none, .store 1 (.t 85) (.t 84), none, []⟩]
def f24x16 : List AOper := [
  ⟨(some 86), .bin .add (.t 42) (.c (.int .i64 1)), none, []⟩,
  ⟨(some 42), .mv (.t 86), none, []⟩]
def f24x17L : ACode := (.seq (.region f24x9 false) (.seq (.cond (.t 43) .skip (.exit 2)) (.seq (.block 3 (.seq (.region f24x10 false) (.seq (.region f24x11 false) (.seq (.seq (.region f24x12 true) (.cond (.t 69) (.exit 3) .skip)) (.seq (.seq (.region f24x13 true) (.seq (.region f24x14 false) (.cond (.t 81) (.region f24x15 false) .skip))) (.exit 1)))))) (.region f24x16 false))))
def f24x18 : List AOper := [
  ⟨(some 87), .mv (.t 5), none, []⟩,
  ⟨(some 88), .mv (.t 6), none, []⟩,
  ⟨(some 89), .bsl 1 [.int .i64 0] 1 [0] [(.t 88)], none, []⟩,
  ⟨(some 90), .app 1 8 (.t 87) (.t 89), none, []⟩,
  ⟨(some 5), .mv (.t 90), none, []⟩]
def f24x19 : List AOper := [
  ⟨(some 91), .bin .add (.t 20) (.c (.int .i64 1)), none, []⟩,
  ⟨(some 20), .mv (.t 91), none, []⟩]
def f24x20L : ACode := (.seq (.region f24x3 false) (.seq (.cond (.t 21) .skip (.exit 0)) (.seq (.block 1 (.seq (.region f24x4 false) (.seq (.seq (.region f24x5 false) (.seq (.region f24x6 false) (.cond (.t 32) (.exit 1) .skip))) (.seq (.region f24x7 false) (.seq (.seq (.region f24x8 false) (.block 2 (.loop f24x17L))) (.region f24x18 false)))))) (.region f24x19 false))))
def f24x21 : List AOper := [
  ⟨(some 92), .mv (.t 5), none, []⟩,
  ⟨(some 4), .mv (.t 92), none, []⟩]
def f24 : AFunc := ⟨93, 2, false, [.t 4], (.seq (.region f24x0 false) (.scope (.seq (.region f24x1 false) (.seq .skip (.seq (.seq (.region f24x2 false) (.block 0 (.loop f24x20L))) (.seq (.region f24x21 false) .ret))))))⟩

/-- routing/routingref40.sameGroup -/
def f25x0 : List AOper := [
  ⟨(some 2), .box (.t 0), none, []⟩,
  ⟨(some 3), .box (.t 1), none, []⟩,
  ⟨(some 4), .mv (.c (.bool false)), none, []⟩]
def f25x1 : List AOper := [
  ⟨(some 10), .fadr 2 (.t 2), none, []⟩,
  ⟨(some 11), .fadr 1 (.t 10), none, []⟩,
  ⟨(some 12), .load none (.t 11), none, []⟩,
  ⟨(some 13), .call (.c (.fn 19 [])) [(.t 12)], none, []⟩,
  ⟨(some 9), .mv (.t 13), none, []⟩,
  ⟨(some 14), .ext (.t 9) 0, none, []⟩,
  ⟨(some 15), .ext (.t 9) 1, none, []⟩,
  ⟨(some 5), .mv (.t 14), none, []⟩,
  ⟨(some 6), .mv (.t 15), none, []⟩]
def f25x2 : List AOper := [
  ⟨(some 17), .fadr 2 (.t 3), none, []⟩,
  ⟨(some 18), .fadr 1 (.t 17), none, []⟩,
  ⟨(some 19), .load none (.t 18), none, []⟩,
  ⟨(some 20), .call (.c (.fn 19 [])) [(.t 19)], none, []⟩,
  ⟨(some 16), .mv (.t 20), none, []⟩,
  ⟨(some 21), .ext (.t 16) 0, none, []⟩,
  ⟨(some 22), .ext (.t 16) 1, none, []⟩,
  ⟨(some 7), .mv (.t 21), none, []⟩,
  ⟨(some 8), .mv (.t 22), none, []⟩]
def f25x3 : List AOper := [
  ⟨(some 23), .mv (.t 6), none, []⟩,
  ⟨(some 24), .mv (.t 8), none, []⟩,
  ⟨(some 25), .eqb false (.t 23) (.t 24), none, []⟩,
  ⟨(some 26), .mv (.t 25), none, []⟩,
  ⟨(some 27), .mv (.t 5), (some (26, true)), []⟩,
  ⟨(some 28), .mv (.t 7), (some (26, true)), []⟩,
  ⟨(some 29), .bin .eql (.t 27) (.t 28), (some (26, true)), []⟩,
  ⟨(some 30), .pick (.t 26) (.t 29) (.c (.bool false)), none, []⟩,
  ⟨(some 4), .mv (.t 30), none, []⟩]
def f25 : AFunc := ⟨31, 2, false, [.t 4], (.seq (.region f25x0 false) (.seq (.region f25x1 false) (.seq (.region f25x2 false) (.seq (.region f25x3 false) .ret))))⟩

/-- routing/routingref36.Size -/
def f26x0 : List AOper := [
  ⟨(some 1), .box (.t 0), none, []⟩,
  ⟨(some 2), .mv (.c (.int .i64 0)), none, []⟩]
def f26x1 : List AOper := [
  ⟨(some 6), .fadr 1 (.t 1), none, []⟩,
  ⟨(some 7), .load none (.t 6), none, []⟩,
  ⟨(some 8), .call (.c (.fn 54 [])) [(.t 7)], none, [1]⟩,
  ⟨(some 9), .fadr 11 (.t 1), none, []⟩,
  ⟨(some 10), .load none (.t 9), none, []⟩,
  ⟨(some 11), .len false (.t 10), none, [4]⟩,
  ⟨(some 12), .bin .add (.t 8) (.t 11), none, []⟩,
  ⟨(some 13), .fadr 14 (.t 1), none, []⟩,
  ⟨(some 14), .load none (.t 13), none, []⟩,
  ⟨(some 15), .len false (.t 14), none, [8]⟩,
  ⟨(some 16), .bin .add (.t 12) (.t 15), none, []⟩,
  ⟨(some 17), .fadr 15 (.t 1), none, []⟩,
  ⟨(some 18), .load none (.t 17), none, []⟩,
  ⟨(some 19), .len false (.t 18), none, [12]⟩,
  ⟨(some 20), .bin .add (.t 16) (.t 19), none, []⟩,
  ⟨(some 3), .mv (.t 20), none, []⟩]
def f26x2 : List AOper := [
  ⟨(some 21), .fadr 15 (.t 1), none, []⟩,
  ⟨(some 22), .load none (.t 21), none, []⟩,
  ⟨(some 23), .len false (.t 22), none, []⟩,
  ⟨(some 24), .mv (.c (.int .i64 0)), none, []⟩]
def f26x3 : List AOper := [
  ⟨(some 25), .bin .lss (.t 24) (.t 23), none, []⟩]
def f26x4 : List AOper := [
  ⟨(some 26), .iadr 2 (.t 22) (.t 24), none, []⟩,
  ⟨(some 27), .load (some 2) (.t 26), none, []⟩,
  ⟨(some 5), .alloc (.agg [.int .i64 0, .con (.slice none 0 0)]), none, []⟩,
  ⟨none, .store 2 (.t 5) (.t 27), none, []⟩]
def f26x5 : List AOper := [
  ⟨(some 28), .mv (.t 3), none, []⟩,
  ⟨(some 29), .fadr 1 (.t 5), none, []⟩,
  ⟨(some 30), .load none (.t 29), none, []⟩,
  ⟨(some 31), .len false (.t 30), none, []⟩,
  ⟨(some 32), .bin .quo (.t 31) (.c (.int .i64 8)), none, []⟩,
  ⟨(some 33), .bin .add (.t 28) (.t 32), none, []⟩,
  ⟨(some 3), .mv (.t 33), none, []⟩]
def f26x6 : List AOper := [
  ⟨(some 34), .bin .add (.t 24) (.c (.int .i64 1)), none, []⟩,
  ⟨(some 24), .mv (.t 34), none, []⟩]
def f26x7L : ACode := (.seq (.region f26x3 false) (.seq (.cond (.t 25) .skip (.exit 0)) (.seq (.block 1 (.seq (.region f26x4 false) (.region f26x5 false))) (.region f26x6 false))))
def f26x8 : List AOper := [
  ⟨(some 35), .mv (.t 3), none, []⟩,
  ⟨(some 2), .mv (.t 35), none, []⟩]
def f26 : AFunc := ⟨36, 1, false, [.t 2], (.seq (.region f26x0 false) (.seq (.region f26x1 true) (.seq (.seq (.region f26x2 false) (.block 0 (.loop f26x7L))) (.seq (.region f26x8 false) .ret))))⟩

/-- routing/decision.rules$1 -/
def f27x0 : List AOper := [
  ⟨(some 2), .mv (.c (.int .i64 0)), none, []⟩]
def f27x1 : List AOper := [
  ⟨(some 3), .fadr 18 (.t 0), none, []⟩,
  ⟨(some 4), .load none (.t 3), none, []⟩,
  ⟨(some 5), .bin .eql (.t 4) (.c (.int .i64 (-1))), none, []⟩,
  ⟨(some 6), .call (.c (.fn 28 [])) [(.t 5)], none, [1]⟩,
  ⟨(some 7), .fadr 18 (.t 1), none, []⟩,
  ⟨(some 8), .load none (.t 7), none, []⟩,
  ⟨(some 9), .bin .eql (.t 8) (.c (.int .i64 (-1))), none, []⟩,
  ⟨(some 10), .call (.c (.fn 28 [])) [(.t 9)], none, [3, 5, 1]⟩,
  ⟨(some 11), .bin .sub (.t 6) (.t 10), none, []⟩,
  ⟨(some 2), .mv (.t 11), none, []⟩]
def f27 : AFunc := ⟨12, 2, false, [.t 2], (.seq (.region f27x0 false) (.seq (.region f27x1 true) .ret))⟩

/-- routing/decision.number -/
def f28x0 : List AOper := [
  ⟨(some 2), .mv (.c (.int .i64 0)), none, []⟩]
def f28x1 : List AOper := [
  ⟨(some 3), .mv (.t 0), none, []⟩]
def f28x2 : List AOper := [
  ⟨(some 2), .mv (.c (.int .i64 1)), none, []⟩]
def f28x3 : List AOper := [
  ⟨(some 2), .mv (.c (.int .i64 0)), none, []⟩]
def f28 : AFunc := ⟨4, 1, false, [.t 2], (.seq (.region f28x0 false) (.seq (.seq (.region f28x1 false) (.cond (.t 3) (.seq (.region f28x2 false) .ret) .skip)) (.seq (.region f28x3 false) .ret)))⟩

/-- routing/decision.rules$2 -/
def f29x0 : List AOper := [
  ⟨(some 2), .mv (.c (.int .i64 0)), none, []⟩]
def f29x1 : List AOper := [
  ⟨(some 3), .load (some 22) (.t 0), none, []⟩,
  ⟨(some 4), .call (.c (.fn 31 [])) [(.t 3)], none, [0]⟩,
  ⟨(some 5), .load (some 22) (.t 1), none, []⟩,
  ⟨(some 6), .call (.c (.fn 31 [])) [(.t 5)], none, [2, 1, 0]⟩,
  ⟨(some 7), .call (.c (.fn 30 [])) [(.t 4), (.t 6)], none, [3, 2, 1, 0]⟩,
  ⟨(some 2), .mv (.t 7), none, []⟩]
def f29 : AFunc := ⟨8, 2, false, [.t 2], (.seq (.region f29x0 false) (.seq (.region f29x1 true) .ret))⟩

/-- cmp.Compare[int] -/
def f30x0 : List AOper := [
  ⟨(some 4), .mv (.c (.int .i64 0)), none, []⟩]
def f30x1 : List AOper := [
  ⟨(some 7), .mv (.t 0), none, []⟩,
  ⟨(some 8), .call (.c (.fn 55 [])) [(.t 7)], none, []⟩,
  ⟨(some 5), .mv (.t 8), none, []⟩]
def f30x2 : List AOper := [
  ⟨(some 9), .mv (.t 1), none, []⟩,
  ⟨(some 10), .call (.c (.fn 55 [])) [(.t 9)], none, []⟩,
  ⟨(some 6), .mv (.t 10), none, []⟩]
def f30x3 : List AOper := [
  ⟨(some 11), .mv (.t 5), none, []⟩]
def f30x4 : List AOper := [
  ⟨(some 12), .mv (.t 6), none, []⟩]
def f30x5 : List AOper := [
  ⟨(some 4), .mv (.c (.int .i64 0)), none, []⟩]
def f30x6 : List AOper := [
  ⟨(some 4), .mv (.c (.int .i64 (-1))), none, []⟩]
def f30x7 : List AOper := [
  ⟨(some 13), .mv (.t 6), none, []⟩]
def f30x8 : List AOper := [
  ⟨(some 4), .mv (.c (.int .i64 1)), none, []⟩]
def f30x9 : List AOper := [
  ⟨(some 14), .mv (.t 0), none, []⟩,
  ⟨(some 15), .mv (.t 1), none, []⟩,
  ⟨(some 16), .bin .lss (.t 14) (.t 15), none, []⟩]
def f30x10 : List AOper := [
  ⟨(some 4), .mv (.c (.int .i64 (-1))), none, []⟩]
def f30x11 : List AOper := [
  ⟨(some 17), .mv (.t 0), none, []⟩,
  ⟨(some 18), .mv (.t 1), none, []⟩,
  ⟨(some 19), .bin .gtr (.t 17) (.t 18), none, []⟩]
def f30x12 : List AOper := [
  ⟨(some 4), .mv (.c (.int .i64 1)), none, []⟩]
def f30x13 : List AOper := [
  ⟨(some 4), .mv (.c (.int .i64 0)), none, []⟩]
def f30 : AFunc := ⟨20, 2, false, [.t 4], (.seq (.region f30x0 false) (.seq (.region f30x1 false) (.seq (.region f30x2 false) (.seq (.seq (.region f30x3 false) (.cond (.t 11) (.seq (.seq (.region f30x4 false) (.cond (.t 12) (.seq (.region f30x5 false) .ret) .skip)) (.seq (.region f30x6 false) .ret)) .skip)) (.seq (.seq (.region f30x7 false) (.cond (.t 13) (.seq (.region f30x8 false) .ret) .skip)) (.seq (.seq (.region f30x9 false) (.cond (.t 16) (.seq (.region f30x10 false) .ret) .skip)) (.seq (.seq (.region f30x11 false) (.cond (.t 19) (.seq (.region f30x12 false) .ret) .skip)) (.seq (.region f30x13 false) .ret))))))))⟩

/-- routing/decision.pref -/
def f31x0 : List AOper := [
  ⟨(some 1), .box (.t 0), none, []⟩,
  ⟨(some 2), .mv (.c (.int .i64 0)), none, []⟩]
def f31x1 : List AOper := [
  ⟨(some 3), .fadr 2 (.t 1), none, []⟩,
  ⟨(some 4), .fadr 5 (.t 3), none, []⟩,
  ⟨(some 5), .load none (.t 4), none, []⟩]
def f31x2 : List AOper := [
  ⟨(some 6), .fadr 2 (.t 1), none, []⟩,
  ⟨(some 7), .fadr 6 (.t 6), none, []⟩,
  ⟨(some 8), .load none (.t 7), none, []⟩,
  ⟨(some 2), .mv (.t 8), none, []⟩]
def f31x3 : List AOper := [
  ⟨(some 2), .mv (.c (.int .i64 100)), none, []⟩]
def f31 : AFunc := ⟨9, 1, false, [.t 2], (.seq (.region f31x0 false) (.seq (.seq (.region f31x1 false) (.cond (.t 5) (.seq (.region f31x2 false) .ret) .skip)) (.seq (.region f31x3 false) .ret)))⟩

/-- routing/decision.rules$3 -/
def f32x0 : List AOper := [
  ⟨(some 2), .mv (.c (.int .i64 0)), none, []⟩]
def f32x1 : List AOper := [
  ⟨(some 3), .fadr 2 (.t 0), none, []⟩,
  ⟨(some 4), .fadr 1 (.t 3), none, []⟩,
  ⟨(some 5), .load none (.t 4), none, []⟩,
  ⟨(some 6), .call (.c (.fn 33 [])) [(.t 5)], none, [2]⟩,
  ⟨(some 7), .fadr 2 (.t 1), none, []⟩,
  ⟨(some 8), .fadr 1 (.t 7), none, []⟩,
  ⟨(some 9), .load none (.t 8), none, []⟩,
  ⟨(some 10), .call (.c (.fn 33 [])) [(.t 9)], none, [6, 3, 2]⟩,
  ⟨(some 11), .call (.c (.fn 30 [])) [(.t 6), (.t 10)], none, [7, 6, 3, 2]⟩,
  ⟨(some 2), .mv (.t 11), none, []⟩]
def f32 : AFunc := ⟨12, 2, false, [.t 2], (.seq (.region f32x0 false) (.seq (.region f32x1 true) .ret))⟩

/-- routing/aspath.Length -/
def f33x0 : List AOper := [
  ⟨(some 2), .mv (.c (.int .i64 0)), none, []⟩]
def f33x1 : List AOper := [
  ⟨(some 3), .mv (.c (.int .i64 0)), none, []⟩]
def f33x2 : List AOper := [
  ⟨(some 6), .mv (.t 0), none, []⟩,
  ⟨(some 7), .len false (.t 6), none, []⟩,
  ⟨(some 8), .mv (.c (.int .i64 0)), none, []⟩]
def f33x3 : List AOper := [
  ⟨(some 9), .bin .lss (.t 8) (.t 7), none, []⟩]
def f33x4 : List AOper := [
  ⟨(some 10), .iadr 2 (.t 6) (.t 8), none, []⟩,
  ⟨(some 11), .load (some 2) (.t 10), none, []⟩,
  ⟨(some 5), .alloc (.agg [.int .i64 0, .con (.slice none 0 0)]), none, []⟩,
  ⟨none, .store 2 (.t 5) (.t 11), none, []⟩]
def f33x5 : List AOper := [
  ⟨(some 12), .fadr 0 (.t 5), none, []⟩,
  ⟨(some 13), .load none (.t 12), none, []⟩]
def f33x6 : List AOper := [
  ⟨(some 15), .bin .eql (.t 13) (.c (.int .i64 2)), none, []⟩,
  ⟨(some 14), .mv (.t 15), none, []⟩]
def f33x7 : List AOper := [
  ⟨(some 16), .mv (.t 3), none, []⟩,
  ⟨(some 17), .fadr 1 (.t 5), none, []⟩,
  ⟨(some 18), .load none (.t 17), none, []⟩,
  ⟨(some 19), .len false (.t 18), none, []⟩,
  ⟨(some 20), .bin .add (.t 16) (.t 19), none, []⟩,
  ⟨(some 3), .mv (.t 20), none, []⟩]
def f33x8 : List AOper := [
  ⟨(some 22), .bin .eql (.t 13) (.c (.int .i64 1)), none, []⟩,
  ⟨(some 21), .mv (.t 22), none, []⟩]
def f33x9 : List AOper := [
  ⟨(some 23), .mv (.t 3), none, []⟩,
  ⟨(some 24), .bin .add (.t 23) (.c (.int .i64 1)), none, []⟩,
  ⟨(some 3), .mv (.t 24), none, []⟩]
def f33x10 : List AOper := [
  ⟨(some 25), .bin .add (.t 8) (.c (.int .i64 1)), none, []⟩,
  ⟨(some 8), .mv (.t 25), none, []⟩]
def f33x11L : ACode := (.seq (.region f33x3 false) (.seq (.cond (.t 9) .skip (.exit 0)) (.seq (.block 1 (.seq (.region f33x4 false) (.seq (.region f33x5 false) (.block 2 (.seq (.region f33x6 false) (.cond (.t 14) (.region f33x7 false) (.seq (.region f33x8 false) (.cond (.t 21) (.region f33x9 false) .skip)))))))) (.region f33x10 false))))
def f33x12 : List AOper := [
  ⟨(some 26), .mv (.t 3), none, []⟩,
  ⟨(some 2), .mv (.t 26), none, []⟩]
def f33 : AFunc := ⟨27, 1, false, [.t 2], (.seq (.region f33x0 false) (.seq (.region f33x1 false) (.seq (.seq (.region f33x2 false) (.block 0 (.loop f33x11L))) (.seq (.region f33x12 false) .ret))))⟩

/-- routing/decision.rules$4 -/
def f34x0 : List AOper := [
  ⟨(some 2), .mv (.c (.int .i64 0)), none, []⟩]
def f34x1 : List AOper := [
  ⟨(some 3), .fadr 2 (.t 0), none, []⟩,
  ⟨(some 4), .fadr 0 (.t 3), none, []⟩,
  ⟨(some 5), .load none (.t 4), none, []⟩,
  ⟨(some 6), .fadr 2 (.t 1), none, []⟩,
  ⟨(some 7), .fadr 0 (.t 6), none, []⟩,
  ⟨(some 8), .load none (.t 7), none, []⟩,
  ⟨(some 9), .call (.c (.fn 30 [])) [(.t 5), (.t 8)], none, []⟩,
  ⟨(some 2), .mv (.t 9), none, []⟩]
def f34 : AFunc := ⟨10, 2, false, [.t 2], (.seq (.region f34x0 false) (.seq (.region f34x1 false) .ret))⟩

/-- routing/decision.rules$5 -/
def f35x0 : List AOper := [
  ⟨(some 2), .mv (.c (.int .i64 0)), none, []⟩]
def f35x1 : List AOper := [
  ⟨(some 3), .load (some 22) (.t 0), none, []⟩,
  ⟨(some 4), .load (some 22) (.t 1), none, []⟩,
  ⟨(some 5), .call (.c (.fn 36 [])) [(.t 3), (.t 4)], none, []⟩,
  ⟨(some 6), .un .not (.t 5), none, []⟩]
def f35x2 : List AOper := [
  ⟨(some 2), .mv (.c (.int .i64 0)), none, []⟩]
def f35x3 : List AOper := [
  ⟨(some 7), .load (some 22) (.t 0), none, []⟩,
  ⟨(some 8), .call (.c (.fn 37 [])) [(.t 7)], none, [0]⟩,
  ⟨(some 9), .load (some 22) (.t 1), none, []⟩,
  ⟨(some 10), .call (.c (.fn 37 [])) [(.t 9)], none, [2, 1, 0]⟩,
  ⟨(some 11), .call (.c (.fn 30 [])) [(.t 8), (.t 10)], none, [3, 2, 1, 0]⟩,
  ⟨(some 2), .mv (.t 11), none, []⟩]
def f35 : AFunc := ⟨12, 2, false, [.t 2], (.seq (.region f35x0 false) (.seq (.seq (.region f35x1 false) (.cond (.t 6) (.seq (.region f35x2 false) .ret) .skip)) (.seq (.region f35x3 true) .ret)))⟩

/-- routing/decision.sameFirst -/
def f36x0 : List AOper := [
  ⟨(some 2), .box (.t 0), none, []⟩,
  ⟨(some 3), .box (.t 1), none, []⟩,
  ⟨(some 4), .mv (.c (.bool false)), none, []⟩]
def f36x1 : List AOper := [
  ⟨(some 10), .fadr 2 (.t 2), none, []⟩,
  ⟨(some 11), .fadr 1 (.t 10), none, []⟩,
  ⟨(some 12), .load none (.t 11), none, []⟩,
  ⟨(some 13), .call (.c (.fn 53 [])) [(.t 12)], none, []⟩,
  ⟨(some 9), .mv (.t 13), none, []⟩,
  ⟨(some 14), .ext (.t 9) 0, none, []⟩,
  ⟨(some 15), .ext (.t 9) 1, none, []⟩,
  ⟨(some 5), .mv (.t 14), none, []⟩,
  ⟨(some 6), .mv (.t 15), none, []⟩]
def f36x2 : List AOper := [
  ⟨(some 17), .fadr 2 (.t 3), none, []⟩,
  ⟨(some 18), .fadr 1 (.t 17), none, []⟩,
  ⟨(some 19), .load none (.t 18), none, []⟩,
  ⟨(some 20), .call (.c (.fn 53 [])) [(.t 19)], none, []⟩,
  ⟨(some 16), .mv (.t 20), none, []⟩,
  ⟨(some 21), .ext (.t 16) 0, none, []⟩,
  ⟨(some 22), .ext (.t 16) 1, none, []⟩,
  ⟨(some 7), .mv (.t 21), none, []⟩,
  ⟨(some 8), .mv (.t 22), none, []⟩]
def f36x3 : List AOper := [
  ⟨(some 23), .mv (.t 6), none, []⟩,
  ⟨(some 24), .mv (.t 23), none, []⟩,
  ⟨(some 25), .mv (.t 8), (some (24, true)), []⟩,
  ⟨(some 26), .pick (.t 24) (.t 25) (.c (.bool false)), none, []⟩,
  ⟨(some 27), .mv (.t 26), none, []⟩,
  ⟨(some 28), .mv (.t 5), (some (27, true)), []⟩,
  ⟨(some 29), .mv (.t 7), (some (27, true)), []⟩,
  ⟨(some 30), .bin .eql (.t 28) (.t 29), (some (27, true)), []⟩,
  ⟨(some 31), .pick (.t 27) (.t 30) (.c (.bool false)), none, []⟩,
  ⟨(some 4), .mv (.t 31), none, []⟩]
def f36 : AFunc := ⟨32, 2, false, [.t 4], (.seq (.region f36x0 false) (.seq (.region f36x1 false) (.seq (.region f36x2 false) (.seq (.region f36x3 false) .ret))))⟩

/-- routing/decision.med -/
def f37x0 : List AOper := [
  ⟨(some 1), .box (.t 0), none, []⟩,
  ⟨(some 2), .mv (.c (.int .i64 0)), none, []⟩]
def f37x1 : List AOper := [
  ⟨(some 3), .fadr 2 (.t 1), none, []⟩,
  ⟨(some 4), .fadr 3 (.t 3), none, []⟩,
  ⟨(some 5), .load none (.t 4), none, []⟩]
def f37x2 : List AOper := [
  ⟨(some 6), .fadr 2 (.t 1), none, []⟩,
  ⟨(some 7), .fadr 4 (.t 6), none, []⟩,
  ⟨(some 8), .load none (.t 7), none, []⟩,
  ⟨(some 2), .mv (.t 8), none, []⟩]
def f37x3 : List AOper := [
  ⟨(some 2), .mv (.c (.int .i64 0)), none, []⟩]
def f37 : AFunc := ⟨9, 1, false, [.t 2], (.seq (.region f37x0 false) (.seq (.seq (.region f37x1 false) (.cond (.t 5) (.seq (.region f37x2 false) .ret) .skip)) (.seq (.region f37x3 false) .ret)))⟩

/-- routing/decision.rules$6 -/
def f38x0 : List AOper := [
  ⟨(some 2), .mv (.c (.int .i64 0)), none, []⟩]
def f38x1 : List AOper := [
  ⟨(some 3), .load (some 22) (.t 0), none, []⟩,
  ⟨(some 4), .call (.c (.fn 39 [])) [(.t 3)], none, [0]⟩,
  ⟨(some 5), .call (.c (.fn 28 [])) [(.t 4)], none, [1, 0]⟩,
  ⟨(some 6), .load (some 22) (.t 1), none, []⟩,
  ⟨(some 7), .call (.c (.fn 39 [])) [(.t 6)], none, [3, 2, 1, 0]⟩,
  ⟨(some 8), .call (.c (.fn 28 [])) [(.t 7)], none, [4, 3, 2, 1, 0]⟩,
  ⟨(some 9), .bin .sub (.t 5) (.t 8), none, []⟩,
  ⟨(some 2), .mv (.t 9), none, []⟩]
def f38 : AFunc := ⟨10, 2, false, [.t 2], (.seq (.region f38x0 false) (.seq (.region f38x1 true) .ret))⟩

/-- routing/decision.inner -/
def f39x0 : List AOper := [
  ⟨(some 1), .box (.t 0), none, []⟩,
  ⟨(some 2), .mv (.c (.bool false)), none, []⟩]
def f39x1 : List AOper := [
  ⟨(some 3), .fadr 19 (.t 1), none, []⟩,
  ⟨(some 4), .load none (.t 3), none, []⟩,
  ⟨(some 5), .bin .eql (.t 4) (.c (.int .i64 2)), none, []⟩,
  ⟨(some 6), .mv (.t 5), none, []⟩,
  ⟨(some 7), .fadr 19 (.t 1), (some (6, false)), []⟩,
  ⟨(some 8), .load none (.t 7), (some (6, false)), []⟩,
  ⟨(some 9), .bin .eql (.t 8) (.c (.int .i64 3)), (some (6, false)), []⟩,
  ⟨(some 10), .pick (.t 6) (.c (.bool true)) (.t 9), none, []⟩,
  ⟨(some 2), .mv (.t 10), none, []⟩]
def f39 : AFunc := ⟨11, 1, false, [.t 2], (.seq (.region f39x0 false) (.seq (.region f39x1 false) .ret))⟩

/-- routing/decision.rules$7 -/
def f40x0 : List AOper := [
  ⟨(some 3), .mv (.c (.int .i64 0)), none, []⟩]
def f40x1 : List AOper := [
  ⟨(some 9), .load none (.t 0), none, []⟩,
  ⟨(some 10), .load (some 22) (.t 1), none, []⟩,
  ⟨(some 11), .call (.c (.fn 9 [])) [(.t 9), (.t 10)], none, []⟩,
  ⟨(some 8), .mv (.t 11), none, []⟩,
  ⟨(some 12), .ext (.t 8) 0, none, []⟩,
  ⟨(some 13), .ext (.t 8) 1, none, []⟩,
  ⟨(some 4), .mv (.t 12), none, []⟩,
  ⟨(some 5), .mv (.t 13), none, []⟩]
def f40x2 : List AOper := [
  ⟨(some 15), .load none (.t 0), none, []⟩,
  ⟨(some 16), .load (some 22) (.t 2), none, []⟩,
  ⟨(some 17), .call (.c (.fn 9 [])) [(.t 15), (.t 16)], none, []⟩,
  ⟨(some 14), .mv (.t 17), none, []⟩,
  ⟨(some 18), .ext (.t 14) 0, none, []⟩,
  ⟨(some 19), .ext (.t 14) 1, none, []⟩,
  ⟨(some 6), .mv (.t 18), none, []⟩,
  ⟨(some 7), .mv (.t 19), none, []⟩]
def f40x3 : List AOper := [
  ⟨(some 20), .mv (.t 7), none, []⟩,
  ⟨(some 21), .call (.c (.fn 28 [])) [(.t 20)], none, []⟩,
  ⟨(some 22), .mv (.t 5), none, []⟩,
  ⟨(some 23), .call (.c (.fn 28 [])) [(.t 22)], none, []⟩,
  ⟨(some 24), .bin .sub (.t 21) (.t 23), none, []⟩,
  ⟨(some 25), .mv (.t 4), none, []⟩,
  ⟨(some 26), .mv (.t 6), none, []⟩,
  ⟨(some 27), .call (.c (.fn 30 [])) [(.t 25), (.t 26)], none, []⟩,
  ⟨(some 28), .bsl 1 [.int .i64 0] 2 [0, 1] [(.t 24), (.t 27)], none, []⟩,
  ⟨(some 29), .call (.c (.fn 41 [])) [(.t 28)], none, []⟩,
  ⟨(some 3), .mv (.t 29), none, []⟩]
def f40 : AFunc := ⟨30, 3, false, [.t 3], (.seq (.region f40x0 false) (.seq (.region f40x1 false) (.seq (.region f40x2 false) (.seq (.region f40x3 false) .ret))))⟩

/-- cmp.Or[int] -/
def f41x0 : List AOper := [
  ⟨(some 2), .mv (.c (.int .i64 0)), none, []⟩]
def f41x1 : List AOper := [
  ⟨(some 3), .mv (.c (.int .i64 0)), none, []⟩]
def f41x2 : List AOper := [
  ⟨(some 6), .mv (.t 0), none, []⟩,
  ⟨(some 7), .len false (.t 6), none, []⟩,
  ⟨(some 8), .mv (.c (.int .i64 0)), none, []⟩]
def f41x3 : List AOper := [
  ⟨(some 9), .bin .lss (.t 8) (.t 7), none, []⟩]
def f41x4 : List AOper := [
  ⟨(some 10), .iadr 1 (.t 6) (.t 8), none, []⟩,
  ⟨(some 11), .load none (.t 10), none, []⟩,
  ⟨(some 5), .mv (.t 11), none, []⟩]
def f41x5 : List AOper := [
  ⟨(some 12), .mv (.t 5), none, []⟩,
  ⟨(some 13), .mv (.t 3), none, []⟩,
  ⟨(some 14), .bin .neq (.t 12) (.t 13), none, []⟩]
def f41x6 : List AOper := [
  ⟨(some 15), .mv (.t 5), none, []⟩,
  ⟨(some 2), .mv (.t 15), none, []⟩]
def f41x7 : List AOper := [
  ⟨(some 16), .bin .add (.t 8) (.c (.int .i64 1)), none, []⟩,
  ⟨(some 8), .mv (.t 16), none, []⟩]
def f41x8L : ACode := (.seq (.region f41x3 false) (.seq (.cond (.t 9) .skip (.exit 0)) (.seq (.block 1 (.seq (.region f41x4 false) (.seq (.region f41x5 false) (.cond (.t 14) (.seq (.region f41x6 false) .ret) .skip)))) (.region f41x7 false))))
def f41x9 : List AOper := [
  ⟨(some 17), .mv (.t 3), none, []⟩,
  ⟨(some 2), .mv (.t 17), none, []⟩]
def f41 : AFunc := ⟨18, 1, false, [.t 2], (.seq (.region f41x0 false) (.seq (.region f41x1 false) (.seq (.seq (.region f41x2 false) (.block 0 (.loop f41x8L))) (.seq (.region f41x9 false) .ret))))⟩

/-- routing/decision.rules$8 -/
def f42x0 : List AOper := [
  ⟨(some 2), .mv (.c (.int .i64 0)), none, []⟩]
def f42x1 : List AOper := [
  ⟨(some 3), .load (some 22) (.t 0), none, []⟩,
  ⟨(some 4), .call (.c (.fn 44 [])) [(.t 3)], none, [0]⟩,
  ⟨(some 5), .load (some 22) (.t 1), none, []⟩,
  ⟨(some 6), .call (.c (.fn 44 [])) [(.t 5)], none, [2, 1, 0]⟩,
  ⟨(some 7), .call (.c (.fn 43 [])) [(.t 4), (.t 6)], none, [3, 2, 1, 0]⟩,
  ⟨(some 2), .mv (.t 7), none, []⟩]
def f42 : AFunc := ⟨8, 2, false, [.t 2], (.seq (.region f42x0 false) (.seq (.region f42x1 true) .ret))⟩

/-- cmp.Compare[uint32] -/
def f43x0 : List AOper := [
  ⟨(some 4), .mv (.c (.int .i64 0)), none, []⟩]
def f43x1 : List AOper := [
  ⟨(some 7), .mv (.t 0), none, []⟩,
  ⟨(some 8), .call (.c (.fn 56 [])) [(.t 7)], none, []⟩,
  ⟨(some 5), .mv (.t 8), none, []⟩]
def f43x2 : List AOper := [
  ⟨(some 9), .mv (.t 1), none, []⟩,
  ⟨(some 10), .call (.c (.fn 56 [])) [(.t 9)], none, []⟩,
  ⟨(some 6), .mv (.t 10), none, []⟩]
def f43x3 : List AOper := [
  ⟨(some 11), .mv (.t 5), none, []⟩]
def f43x4 : List AOper := [
  ⟨(some 12), .mv (.t 6), none, []⟩]
def f43x5 : List AOper := [
  ⟨(some 4), .mv (.c (.int .i64 0)), none, []⟩]
def f43x6 : List AOper := [
  ⟨(some 4), .mv (.c (.int .i64 (-1))), none, []⟩]
def f43x7 : List AOper := [
  ⟨(some 13), .mv (.t 6), none, []⟩]
def f43x8 : List AOper := [
  ⟨(some 4), .mv (.c (.int .i64 1)), none, []⟩]
def f43x9 : List AOper := [
  ⟨(some 14), .mv (.t 0), none, []⟩,
  ⟨(some 15), .mv (.t 1), none, []⟩,
  ⟨(some 16), .bin .lss (.t 14) (.t 15), none, []⟩]
def f43x10 : List AOper := [
  ⟨(some 4), .mv (.c (.int .i64 (-1))), none, []⟩]
def f43x11 : List AOper := [
  ⟨(some 17), .mv (.t 0), none, []⟩,
  ⟨(some 18), .mv (.t 1), none, []⟩,
  ⟨(some 19), .bin .gtr (.t 17) (.t 18), none, []⟩]
def f43x12 : List AOper := [
  ⟨(some 4), .mv (.c (.int .i64 1)), none, []⟩]
def f43x13 : List AOper := [
  ⟨(some 4), .mv (.c (.int .i64 0)), none, []⟩]
def f43 : AFunc := ⟨20, 2, false, [.t 4], (.seq (.region f43x0 false) (.seq (.region f43x1 false) (.seq (.region f43x2 false) (.seq (.seq (.region f43x3 false) (.cond (.t 11) (.seq (.seq (.region f43x4 false) (.cond (.t 12) (.seq (.region f43x5 false) .ret) .skip)) (.seq (.region f43x6 false) .ret)) .skip)) (.seq (.seq (.region f43x7 false) (.cond (.t 13) (.seq (.region f43x8 false) .ret) .skip)) (.seq (.seq (.region f43x9 false) (.cond (.t 16) (.seq (.region f43x10 false) .ret) .skip)) (.seq (.seq (.region f43x11 false) (.cond (.t 19) (.seq (.region f43x12 false) .ret) .skip)) (.seq (.region f43x13 false) .ret))))))))⟩

/-- routing/decision.router -/
def f44x0 : List AOper := [
  ⟨(some 1), .box (.t 0), none, []⟩,
  ⟨(some 2), .mv (.c (.int .u32 0)), none, []⟩]
def f44x1 : List AOper := [
  ⟨(some 3), .fadr 2 (.t 1), none, []⟩,
  ⟨(some 4), .fadr 12 (.t 3), none, []⟩,
  ⟨(some 5), .load none (.t 4), none, []⟩]
def f44x2 : List AOper := [
  ⟨(some 6), .fadr 2 (.t 1), none, []⟩,
  ⟨(some 7), .fadr 13 (.t 6), none, []⟩,
  ⟨(some 8), .load none (.t 7), none, []⟩,
  ⟨(some 2), .mv (.t 8), none, []⟩]
def f44x3 : List AOper := [
  ⟨(some 9), .fadr 20 (.t 1), none, []⟩,
  ⟨(some 10), .load none (.t 9), none, []⟩,
  ⟨(some 2), .mv (.t 10), none, []⟩]
def f44 : AFunc := ⟨11, 1, false, [.t 2], (.seq (.region f44x0 false) (.seq (.seq (.region f44x1 false) (.cond (.t 5) (.seq (.region f44x2 false) .ret) .skip)) (.seq (.region f44x3 false) .ret)))⟩

/-- routing/decision.rules$9 -/
def f45x0 : List AOper := [
  ⟨(some 2), .mv (.c (.int .i64 0)), none, []⟩]
def f45x1 : List AOper := [
  ⟨(some 3), .fadr 2 (.t 0), none, []⟩,
  ⟨(some 4), .fadr 14 (.t 3), none, []⟩,
  ⟨(some 5), .load none (.t 4), none, []⟩,
  ⟨(some 6), .len false (.t 5), none, []⟩,
  ⟨(some 7), .fadr 2 (.t 1), none, []⟩,
  ⟨(some 8), .fadr 14 (.t 7), none, []⟩,
  ⟨(some 9), .load none (.t 8), none, []⟩,
  ⟨(some 10), .len false (.t 9), none, []⟩,
  ⟨(some 11), .call (.c (.fn 30 [])) [(.t 6), (.t 10)], none, []⟩,
  ⟨(some 2), .mv (.t 11), none, []⟩]
def f45 : AFunc := ⟨12, 2, false, [.t 2], (.seq (.region f45x0 false) (.seq (.region f45x1 false) .ret))⟩

/-- routing/decision.rules$10 -/
def f46x0 : List AOper := [
  ⟨(some 2), .mv (.c (.int .i64 0)), none, []⟩]
def f46x1 : List AOper := [
  ⟨(some 3), .fadr 18 (.t 0), none, []⟩,
  ⟨(some 4), .load none (.t 3), none, []⟩,
  ⟨(some 5), .fadr 18 (.t 1), none, []⟩,
  ⟨(some 6), .load none (.t 5), none, []⟩,
  ⟨(some 7), .call (.c (.fn 30 [])) [(.t 4), (.t 6)], none, []⟩,
  ⟨(some 2), .mv (.t 7), none, []⟩]
def f46 : AFunc := ⟨8, 2, false, [.t 2], (.seq (.region f46x0 false) (.seq (.region f46x1 false) .ret))⟩

/-- routing/routingref40.flag -/
def f47x0 : List AOper := [
  ⟨(some 2), .mv (.c (.int .i64 0)), none, []⟩]
def f47x1 : List AOper := [
  ⟨(some 3), .mv (.t 0), none, []⟩]
def f47x2 : List AOper := [
  ⟨(some 2), .mv (.c (.int .i64 0)), none, []⟩]
def f47x3 : List AOper := [
  ⟨(some 2), .mv (.c (.int .i64 1)), none, []⟩]
def f47 : AFunc := ⟨4, 1, false, [.t 2], (.seq (.region f47x0 false) (.seq (.seq (.region f47x1 false) (.cond (.t 3) (.seq (.region f47x2 false) .ret) .skip)) (.seq (.region f47x3 false) .ret)))⟩

/-- routing/routingref40.pref -/
def f48x0 : List AOper := [
  ⟨(some 1), .box (.t 0), none, []⟩,
  ⟨(some 2), .mv (.c (.int .i64 0)), none, []⟩]
def f48x1 : List AOper := [
  ⟨(some 3), .fadr 2 (.t 1), none, []⟩,
  ⟨(some 4), .fadr 5 (.t 3), none, []⟩,
  ⟨(some 5), .load none (.t 4), none, []⟩]
def f48x2 : List AOper := [
  ⟨(some 6), .fadr 2 (.t 1), none, []⟩,
  ⟨(some 7), .fadr 6 (.t 6), none, []⟩,
  ⟨(some 8), .load none (.t 7), none, []⟩,
  ⟨(some 2), .mv (.t 8), none, []⟩]
def f48x3 : List AOper := [
  ⟨(some 2), .mv (.c (.int .i64 100)), none, []⟩]
def f48 : AFunc := ⟨9, 1, false, [.t 2], (.seq (.region f48x0 false) (.seq (.seq (.region f48x1 false) (.cond (.t 5) (.seq (.region f48x2 false) .ret) .skip)) (.seq (.region f48x3 false) .ret)))⟩

/-- routing/routingref17.Length -/
def f49x0 : List AOper := [
  ⟨(some 2), .mv (.c (.int .i64 0)), none, []⟩]
def f49x1 : List AOper := [
  ⟨(some 3), .mv (.c (.int .i64 0)), none, []⟩]
def f49x2 : List AOper := [
  ⟨(some 6), .mv (.t 0), none, []⟩,
  ⟨(some 7), .len false (.t 6), none, []⟩,
  ⟨(some 8), .mv (.c (.int .i64 0)), none, []⟩]
def f49x3 : List AOper := [
  ⟨(some 9), .bin .lss (.t 8) (.t 7), none, []⟩]
def f49x4 : List AOper := [
  ⟨(some 10), .iadr 2 (.t 6) (.t 8), none, []⟩,
  ⟨(some 11), .load (some 2) (.t 10), none, []⟩,
  ⟨(some 5), .alloc (.agg [.int .i64 0, .con (.slice none 0 0)]), none, []⟩,
  ⟨none, .store 2 (.t 5) (.t 11), none, []⟩]
def f49x5 : List AOper := [
  ⟨(some 12), .fadr 0 (.t 5), none, []⟩,
  ⟨(some 13), .load none (.t 12), none, []⟩,
  ⟨(some 14), .bin .eql (.t 13) (.c (.int .i64 2)), none, []⟩]
def f49x6 : List AOper := [
  ⟨(some 15), .mv (.t 3), none, []⟩,
  ⟨(some 16), .fadr 1 (.t 5), none, []⟩,
  ⟨(some 17), .load none (.t 16), none, []⟩,
  ⟨(some 18), .len false (.t 17), none, []⟩,
  ⟨(some 19), .bin .add (.t 15) (.t 18), none, []⟩,
  ⟨(some 3), .mv (.t 19), none, []⟩]
def f49x7 : List AOper := [
  ⟨(some 20), .fadr 0 (.t 5), none, []⟩,
  ⟨(some 21), .load none (.t 20), none, []⟩,
  ⟨(some 22), .bin .eql (.t 21) (.c (.int .i64 1)), none, []⟩]
def f49x8 : List AOper := [
  ⟨(some 23), .mv (.t 3), none, []⟩,
  ⟨(some 24), .bin .add (.t 23) (.c (.int .i64 1)), none, []⟩,
  ⟨(some 3), .mv (.t 24), none, []⟩]
def f49x9 : List AOper := [
  ⟨(some 25), .bin .add (.t 8) (.c (.int .i64 1)), none, []⟩,
  ⟨(some 8), .mv (.t 25), none, []⟩]
def f49x10L : ACode := (.seq (.region f49x3 false) (.seq (.cond (.t 9) .skip (.exit 0)) (.seq (.block 1 (.seq (.region f49x4 false) (.seq (.seq (.region f49x5 false) (.cond (.t 14) (.region f49x6 false) .skip)) (.seq (.region f49x7 false) (.cond (.t 22) (.region f49x8 false) .skip))))) (.region f49x9 false))))
def f49x11 : List AOper := [
  ⟨(some 26), .mv (.t 3), none, []⟩,
  ⟨(some 2), .mv (.t 26), none, []⟩]
def f49 : AFunc := ⟨27, 1, false, [.t 2], (.seq (.region f49x0 false) (.seq (.region f49x1 false) (.seq (.seq (.region f49x2 false) (.block 0 (.loop f49x10L))) (.seq (.region f49x11 false) .ret))))⟩

/-- routing/routingref40.med -/
def f50x0 : List AOper := [
  ⟨(some 1), .box (.t 0), none, []⟩,
  ⟨(some 2), .mv (.c (.int .i64 0)), none, []⟩]
def f50x1 : List AOper := [
  ⟨(some 3), .fadr 2 (.t 1), none, []⟩,
  ⟨(some 4), .fadr 3 (.t 3), none, []⟩,
  ⟨(some 5), .load none (.t 4), none, []⟩]
def f50x2 : List AOper := [
  ⟨(some 6), .fadr 2 (.t 1), none, []⟩,
  ⟨(some 7), .fadr 4 (.t 6), none, []⟩,
  ⟨(some 8), .load none (.t 7), none, []⟩,
  ⟨(some 2), .mv (.t 8), none, []⟩]
def f50x3 : List AOper := [
  ⟨(some 2), .mv (.c (.int .i64 0)), none, []⟩]
def f50 : AFunc := ⟨9, 1, false, [.t 2], (.seq (.region f50x0 false) (.seq (.seq (.region f50x1 false) (.cond (.t 5) (.seq (.region f50x2 false) .ret) .skip)) (.seq (.region f50x3 false) .ret)))⟩

/-- routing/routingref40.external -/
def f51x0 : List AOper := [
  ⟨(some 1), .box (.t 0), none, []⟩,
  ⟨(some 2), .mv (.c (.int .i64 0)), none, []⟩]
def f51x1 : List AOper := [
  ⟨(some 3), .fadr 19 (.t 1), none, []⟩,
  ⟨(some 4), .load none (.t 3), none, []⟩,
  ⟨(some 5), .bin .neq (.t 4) (.c (.int .i64 2)), none, []⟩,
  ⟨(some 6), .mv (.t 5), none, []⟩,
  ⟨(some 7), .fadr 19 (.t 1), (some (6, true)), []⟩,
  ⟨(some 8), .load none (.t 7), (some (6, true)), []⟩,
  ⟨(some 9), .bin .neq (.t 8) (.c (.int .i64 3)), (some (6, true)), []⟩,
  ⟨(some 10), .pick (.t 6) (.t 9) (.c (.bool false)), none, []⟩,
  ⟨(some 11), .call (.c (.fn 47 [])) [(.t 10)], none, []⟩,
  ⟨(some 2), .mv (.t 11), none, []⟩]
def f51 : AFunc := ⟨12, 1, false, [.t 2], (.seq (.region f51x0 false) (.seq (.region f51x1 false) .ret))⟩

/-- routing/routingref40.router -/
def f52x0 : List AOper := [
  ⟨(some 1), .box (.t 0), none, []⟩,
  ⟨(some 2), .mv (.c (.int .i64 0)), none, []⟩]
def f52x1 : List AOper := [
  ⟨(some 3), .fadr 2 (.t 1), none, []⟩,
  ⟨(some 4), .fadr 12 (.t 3), none, []⟩,
  ⟨(some 5), .load none (.t 4), none, []⟩]
def f52x2 : List AOper := [
  ⟨(some 6), .fadr 2 (.t 1), none, []⟩,
  ⟨(some 7), .fadr 13 (.t 6), none, []⟩,
  ⟨(some 8), .load none (.t 7), none, []⟩,
  ⟨(some 9), .conv .i64 (.t 8), none, []⟩,
  ⟨(some 2), .mv (.t 9), none, []⟩]
def f52x3 : List AOper := [
  ⟨(some 10), .fadr 20 (.t 1), none, []⟩,
  ⟨(some 11), .load none (.t 10), none, []⟩,
  ⟨(some 12), .conv .i64 (.t 11), none, []⟩,
  ⟨(some 2), .mv (.t 12), none, []⟩]
def f52 : AFunc := ⟨13, 1, false, [.t 2], (.seq (.region f52x0 false) (.seq (.seq (.region f52x1 false) (.cond (.t 5) (.seq (.region f52x2 false) .ret) .skip)) (.seq (.region f52x3 false) .ret)))⟩

/-- routing/aspath.First -/
def f53x0 : List AOper := [
  ⟨(some 2), .mv (.c (.int .i64 0)), none, []⟩,
  ⟨(some 3), .mv (.c (.bool false)), none, []⟩]
def f53x1 : List AOper := [
  ⟨(some 6), .mv (.t 0), none, []⟩,
  ⟨(some 7), .len false (.t 6), none, []⟩,
  ⟨(some 8), .mv (.c (.int .i64 0)), none, []⟩]
def f53x2 : List AOper := [
  ⟨(some 9), .bin .lss (.t 8) (.t 7), none, []⟩]
def f53x3 : List AOper := [
  ⟨(some 10), .iadr 2 (.t 6) (.t 8), none, []⟩,
  ⟨(some 11), .load (some 2) (.t 10), none, []⟩,
  ⟨(some 5), .alloc (.agg [.int .i64 0, .con (.slice none 0 0)]), none, []⟩,
  ⟨none, .store 2 (.t 5) (.t 11), none, []⟩]
def f53x4 : List AOper := [
  ⟨(some 12), .fadr 0 (.t 5), none, []⟩,
  ⟨(some 13), .load none (.t 12), none, []⟩,
  ⟨(some 14), .bin .eql (.t 13) (.c (.int .i64 2)), none, []⟩]
def f53x5 : List AOper := [
  ⟨(some 15), .fadr 1 (.t 5), none, []⟩,
  ⟨(some 16), .load none (.t 15), none, []⟩,
  ⟨(some 17), .len false (.t 16), none, []⟩,
  ⟨(some 18), .bin .eql (.t 17) (.c (.int .i64 0)), none, []⟩]
def f53x6 : List AOper := [
  ⟨(some 2), .mv (.c (.int .i64 0)), none, []⟩,
  ⟨(some 3), .mv (.c (.bool false)), none, []⟩]
def f53x7 : List AOper := [
  ⟨(some 19), .fadr 1 (.t 5), none, []⟩,
  ⟨(some 20), .load none (.t 19), none, []⟩,
  ⟨(some 21), .iadr 1 (.t 20) (.c (.int .i64 0)), none, []⟩,
  ⟨(some 22), .load none (.t 21), none, []⟩,
  ⟨(some 2), .mv (.t 22), none, []⟩,
  ⟨(some 3), .mv (.c (.bool true)), none, []⟩]
def f53x8 : List AOper := [
  ⟨(some 23), .bin .add (.t 8) (.c (.int .i64 1)), none, []⟩,
  ⟨(some 8), .mv (.t 23), none, []⟩]
def f53x9L : ACode := (.seq (.region f53x2 false) (.seq (.cond (.t 9) .skip (.exit 0)) (.seq (.block 1 (.seq (.region f53x3 false) (.seq (.region f53x4 false) (.cond (.t 14) (.seq (.seq (.region f53x5 false) (.cond (.t 18) (.seq (.region f53x6 false) .ret) .skip)) (.seq (.region f53x7 false) .ret)) .skip)))) (.region f53x8 false))))
def f53x10 : List AOper := [
  ⟨(some 2), .mv (.c (.int .i64 0)), none, []⟩,
  ⟨(some 3), .mv (.c (.bool false)), none, []⟩]
def f53 : AFunc := ⟨24, 1, false, [.t 2, .t 3], (.seq (.region f53x0 false) (.seq (.seq (.region f53x1 false) (.block 0 (.loop f53x9L))) (.seq (.region f53x10 false) .ret)))⟩

/-- routing/routingref17.Size -/
def f54x0 : List AOper := [
  ⟨(some 2), .mv (.c (.int .i64 0)), none, []⟩]
def f54x1 : List AOper := [
  ⟨(some 3), .mv (.t 0), none, []⟩,
  ⟨(some 4), .len false (.t 3), none, []⟩,
  ⟨(some 5), .mv (.t 0), none, []⟩,
  ⟨(some 6), .call (.c (.fn 57 [])) [(.t 5)], none, []⟩,
  ⟨(some 7), .len false (.t 6), none, []⟩,
  ⟨(some 8), .bin .add (.t 4) (.t 7), none, []⟩,
  ⟨(some 2), .mv (.t 8), none, []⟩]
def f54 : AFunc := ⟨9, 1, false, [.t 2], (.seq (.region f54x0 false) (.seq (.region f54x1 false) .ret))⟩

/-- cmp.isNaN[int] -/
def f55x0 : List AOper := [
  ⟨(some 2), .mv (.c (.bool false)), none, []⟩]
def f55x1 : List AOper := [
  ⟨(some 3), .mv (.t 0), none, []⟩,
  ⟨(some 4), .mv (.t 0), none, []⟩,
  ⟨(some 5), .bin .neq (.t 3) (.t 4), none, []⟩,
  ⟨(some 2), .mv (.t 5), none, []⟩]
def f55 : AFunc := ⟨6, 1, false, [.t 2], (.seq (.region f55x0 false) (.seq (.region f55x1 false) .ret))⟩

/-- cmp.isNaN[uint32] -/
def f56x0 : List AOper := [
  ⟨(some 2), .mv (.c (.bool false)), none, []⟩]
def f56x1 : List AOper := [
  ⟨(some 3), .mv (.t 0), none, []⟩,
  ⟨(some 4), .mv (.t 0), none, []⟩,
  ⟨(some 5), .bin .neq (.t 3) (.t 4), none, []⟩,
  ⟨(some 2), .mv (.t 5), none, []⟩]
def f56 : AFunc := ⟨6, 1, false, [.t 2], (.seq (.region f56x0 false) (.seq (.region f56x1 false) .ret))⟩

/-- routing/routingref17.Flat -/
def f57x0 : List AOper := [
  ⟨(some 2), .mv (.c (.con (.slice none 0 0))), none, []⟩]
def f57x1 : List AOper := [
  ⟨(some 3), .mv (.c (.con (.slice none 0 0))), none, []⟩]
def f57x2 : List AOper := [
  ⟨(some 6), .mv (.t 0), none, []⟩,
  ⟨(some 7), .len false (.t 6), none, []⟩,
  ⟨(some 8), .mv (.c (.int .i64 0)), none, []⟩]
def f57x3 : List AOper := [
  ⟨(some 9), .bin .lss (.t 8) (.t 7), none, []⟩]
def f57x4 : List AOper := [
  ⟨(some 10), .iadr 2 (.t 6) (.t 8), none, []⟩,
  ⟨(some 11), .load (some 2) (.t 10), none, []⟩,
  ⟨(some 5), .alloc (.agg [.int .i64 0, .con (.slice none 0 0)]), none, []⟩,
  ⟨none, .store 2 (.t 5) (.t 11), none, []⟩]
def f57x5 : List AOper := [
  ⟨(some 12), .mv (.t 3), none, []⟩,
  ⟨(some 13), .fadr 1 (.t 5), none, []⟩,
  ⟨(some 14), .load none (.t 13), none, []⟩,
  ⟨(some 15), .app 1 8 (.t 12) (.t 14), none, []⟩,
  ⟨(some 3), .mv (.t 15), none, []⟩]
def f57x6 : List AOper := [
  ⟨(some 16), .bin .add (.t 8) (.c (.int .i64 1)), none, []⟩,
  ⟨(some 8), .mv (.t 16), none, []⟩]
def f57x7L : ACode := (.seq (.region f57x3 false) (.seq (.cond (.t 9) .skip (.exit 0)) (.seq (.block 1 (.seq (.region f57x4 false) (.region f57x5 false))) (.region f57x6 false))))
def f57x8 : List AOper := [
  ⟨(some 17), .mv (.t 3), none, []⟩,
  ⟨(some 2), .mv (.t 17), none, []⟩]
def f57 : AFunc := ⟨18, 1, false, [.t 2], (.seq (.region f57x0 false) (.seq (.region f57x1 false) (.seq (.seq (.region f57x2 false) (.block 0 (.loop f57x7L))) (.seq (.region f57x8 false) .ret))))⟩
end Go.AM.IR
namespace Go.AM.IR

def encI (x : Int) : List AV := [.int .i64 x]
def encU (x : Int) : List AV := [.int .u32 x]
structure Seg where
  kind : Int
  as : List Int
def Seg.enc (s : Seg) : List AV := [.int .i64 s.kind, .sl 1 (s.as.map encI)]
structure TLV where
  kind : Int
  value : List UInt8
def TLV.enc (s : TLV) : List AV := [.int .i64 s.kind, .sl 1 (byteCells s.value)]
structure Attrs where
  origin : Int
  path : List Seg
  nextHop : Int
  hasMED : Bool
  med : Int
  hasPref : Bool
  pref : Int
  atomic : Bool
  hasAggr : Bool
  aggrAS : Int
  aggrAddr : Int
  comms : List Int
  hasOrig : Bool
  orig : Int
  clusters : List Int
  unknown : List TLV
def Attrs.enc (a : Attrs) : List AV := [.int .i64 a.origin, .sl 2 (a.path.map Seg.enc), .int .u32 a.nextHop, .bool a.hasMED, .int .i64 a.med, .bool a.hasPref, .int .i64 a.pref, .bool a.atomic, .bool a.hasAggr, .int .i64 a.aggrAS, .int .u32 a.aggrAddr,
  .sl 1 (a.comms.map encU), .bool a.hasOrig, .int .u32 a.orig, .sl 1 (a.clusters.map encU), .sl 2 (a.unknown.map TLV.enc)]
structure PVRoute where
  paddr : Int
  plen : Int
  attrs : Attrs
  peer : Int
  kind : Int
  router : Int
  stale : Bool
def PVRoute.enc (r : PVRoute) : List AV := [.int .u32 r.paddr, .int .i64 r.plen,
  .int .i64 r.attrs.origin, .sl 2 (r.attrs.path.map Seg.enc), .int .u32 r.attrs.nextHop, .bool r.attrs.hasMED, .int .i64 r.attrs.med, .bool r.attrs.hasPref, .int .i64 r.attrs.pref, .bool r.attrs.atomic, .bool r.attrs.hasAggr, .int .i64 r.attrs.aggrAS, .int .u32 r.attrs.aggrAddr,
  .sl 1 (r.attrs.comms.map encU), .bool r.attrs.hasOrig, .int .u32 r.attrs.orig, .sl 1 (r.attrs.clusters.map encU), .sl 2 (r.attrs.unknown.map TLV.enc),
  .int .i64 r.peer, .int .i64 r.kind, .int .u32 r.router, .bool r.stale]
structure IGP where
  addr : Int
  cost : Int
def IGP.enc (c : IGP) : List AV := [.int .u32 c.addr, .int .i64 c.cost]

/-! ### All of this is values -/
theorem pureLL_map {α : Type} {f : α → List AV} (h : ∀ x, pureL (f x) = true) : ∀ l : List α, pureLL (l.map f) = true
  | [] => rfl
  | x :: r => by simp only [List.map_cons, pureLL, h x, pureLL_map h r, Bool.and_self]
theorem pureLL_bytes : ∀ l : List UInt8, pureLL (byteCells l) = true := fun l => pureLL_map (f := fun b : UInt8 => [AV.int .u8 (b.toNat : Int)]) (fun _ => rfl) l
@[simp] theorem pure_encI (l : List Int) : pureLL (l.map encI) = true := pureLL_map (fun _ => rfl) l
@[simp] theorem pure_encU (l : List Int) : pureLL (l.map encU) = true := pureLL_map (fun _ => rfl) l
theorem Seg.pure (s : Seg) : pureL s.enc = true := by simp [Seg.enc, pureL, AV.pure]
@[simp] theorem pure_segs (l : List Seg) : pureLL (l.map Seg.enc) = true := pureLL_map Seg.pure l
theorem TLV.pure (s : TLV) : pureL s.enc = true := by simp [TLV.enc, pureL, AV.pure, pureLL_bytes]
@[simp] theorem pure_tlvs (l : List TLV) : pureLL (l.map TLV.enc) = true := pureLL_map TLV.pure l
@[simp] theorem Attrs.pure (s : Attrs) : pureL s.enc = true := by simp [Attrs.enc, pureL, AV.pure]
@[simp] theorem PVRoute.pure (s : PVRoute) : pureL s.enc = true := by simp [PVRoute.enc, pureL, AV.pure]
@[simp] theorem pure_routes (l : List PVRoute) : pureLL (l.map PVRoute.enc) = true := pureLL_map PVRoute.pure l
@[simp] theorem pure_igps (l : List IGP) : pureLL (l.map IGP.enc) = true := pureLL_map (fun _ => rfl) l
end Go.AM.IR
namespace Go.AM.IR
def G (f : Nat) : Fun := bif Nat.blt f 29 then (bif Nat.blt f 15 then (bif Nat.blt f 8 then (bif Nat.blt f 4 then (bif Nat.blt f 2 then (bif Nat.beq f 1 then .code f1 else .none) else (bif Nat.blt f 3 then (bif Nat.beq f 2 then .code f2 else .none) else (bif Nat.beq f 3 then .code f3 else .none))) else (bif Nat.blt f 6 then (bif Nat.blt f 5 then (bif Nat.beq f 4 then .code f4 else .none) else (bif Nat.beq f 5 then .code f5 else .none)) else (bif Nat.blt f 7 then (bif Nat.beq f 6 then .code f6 else .none) else (bif Nat.beq f 7 then .code f7 else .none)))) else (bif Nat.blt f 11 then (bif Nat.blt f 9 then (bif Nat.beq f 8 then .code f8 else .none) else (bif Nat.blt f 10 then (bif Nat.beq f 9 then .code f9 else .none) else (bif Nat.beq f 10 then .code f10 else .none))) else (bif Nat.blt f 13 then (bif Nat.blt f 12 then (bif Nat.beq f 11 then .code f11 else .none) else (bif Nat.beq f 12 then .code f12 else .none)) else (bif Nat.blt f 14 then (bif Nat.beq f 13 then .code f13 else .none) else (bif Nat.beq f 14 then .code f14 else .none))))) else (bif Nat.blt f 22 then (bif Nat.blt f 18 then (bif Nat.blt f 16 then (bif Nat.beq f 15 then .code f15 else .none) else (bif Nat.blt f 17 then (bif Nat.beq f 16 then .code f16 else .none) else (bif Nat.beq f 17 then .code f17 else .none))) else (bif Nat.blt f 20 then (bif Nat.blt f 19 then (bif Nat.beq f 18 then .code f18 else .none) else (bif Nat.beq f 19 then .code f19 else .none)) else (bif Nat.blt f 21 then (bif Nat.beq f 20 then .code f20 else .none) else (bif Nat.beq f 21 then .code f21 else .none)))) else (bif Nat.blt f 25 then (bif Nat.blt f 23 then (bif Nat.beq f 22 then .code f22 else .none) else (bif Nat.blt f 24 then (bif Nat.beq f 23 then .code f23 else .none) else (bif Nat.beq f 24 then .code f24 else .none))) else (bif Nat.blt f 27 then (bif Nat.blt f 26 then (bif Nat.beq f 25 then .code f25 else .none) else (bif Nat.beq f 26 then .code f26 else .none)) else (bif Nat.blt f 28 then (bif Nat.beq f 27 then .code f27 else .none) else (bif Nat.beq f 28 then .code f28 else .none)))))) else (bif Nat.blt f 43 then (bif Nat.blt f 36 then (bif Nat.blt f 32 then (bif Nat.blt f 30 then (bif Nat.beq f 29 then .code f29 else .none) else (bif Nat.blt f 31 then (bif Nat.beq f 30 then .code f30 else .none) else (bif Nat.beq f 31 then .code f31 else .none))) else (bif Nat.blt f 34 then (bif Nat.blt f 33 then (bif Nat.beq f 32 then .code f32 else .none) else (bif Nat.beq f 33 then .code f33 else .none)) else (bif Nat.blt f 35 then (bif Nat.beq f 34 then .code f34 else .none) else (bif Nat.beq f 35 then .code f35 else .none)))) else (bif Nat.blt f 39 then (bif Nat.blt f 37 then (bif Nat.beq f 36 then .code f36 else .none) else (bif Nat.blt f 38 then (bif Nat.beq f 37 then .code f37 else .none) else (bif Nat.beq f 38 then .code f38 else .none))) else (bif Nat.blt f 41 then (bif Nat.blt f 40 then (bif Nat.beq f 39 then .code f39 else .none) else (bif Nat.beq f 40 then .code f40 else .none)) else (bif Nat.blt f 42 then (bif Nat.beq f 41 then .code f41 else .none) else (bif Nat.beq f 42 then .code f42 else .none))))) else (bif Nat.blt f 50 then (bif Nat.blt f 46 then (bif Nat.blt f 44 then (bif Nat.beq f 43 then .code f43 else .none) else (bif Nat.blt f 45 then (bif Nat.beq f 44 then .code f44 else .none) else (bif Nat.beq f 45 then .code f45 else .none))) else (bif Nat.blt f 48 then (bif Nat.blt f 47 then (bif Nat.beq f 46 then .code f46 else .none) else (bif Nat.beq f 47 then .code f47 else .none)) else (bif Nat.blt f 49 then (bif Nat.beq f 48 then .code f48 else .none) else (bif Nat.beq f 49 then .code f49 else .none)))) else (bif Nat.blt f 54 then (bif Nat.blt f 52 then (bif Nat.blt f 51 then (bif Nat.beq f 50 then .code f50 else .none) else (bif Nat.beq f 51 then .code f51 else .none)) else (bif Nat.blt f 53 then (bif Nat.beq f 52 then .code f52 else .none) else (bif Nat.beq f 53 then .code f53 else .none))) else (bif Nat.blt f 56 then (bif Nat.blt f 55 then (bif Nat.beq f 54 then .code f54 else .none) else (bif Nat.beq f 55 then .code f55 else .none)) else (bif Nat.blt f 57 then (bif Nat.beq f 56 then .code f56 else .none) else (bif Nat.beq f 57 then .code f57 else .none))))))
end Go.AM.IR
namespace Go.AM.IR
theorem number_gives (b : Bool) : Gives G 28 [.bool b] [] ⟨.int .i64 (if b then 1 else 0), []⟩ := by
  refine gives_code (F := f28) rfl rfl (W_ok 40 _ _ _ _ ?_)
  refine condV (fun h => ?_) (fun h => ?_)
  · subst h; rfl
  · subst h; rfl
theorem flag_gives (b : Bool) : Gives G 47 [.bool b] [] ⟨.int .i64 (if b then 0 else 1), []⟩ := by
  refine gives_code (F := f47) rfl rfl (W_ok 40 _ _ _ _ ?_)
  refine condV (fun h => ?_) (fun h => ?_)
  · subst h; rfl
  · subst h; rfl

def prefS (r : PVRoute) : Int := if r.attrs.hasPref then r.attrs.pref else 100
def medS (r : PVRoute) : Int := if r.attrs.hasMED then r.attrs.med else 0
def routerS (r : PVRoute) : Int := if r.attrs.hasOrig then r.attrs.orig else r.router
theorem pref_gives (r : PVRoute) : Gives G 31 [.agg r.enc] [] ⟨.int .i64 (prefS r), []⟩ := by
  refine gives_code (F := f31) rfl rfl (W_ok 80 _ _ _ _ ?_)
  repeat (first | refine Exists.intro _ (And.intro (unA_neg_i64 (by omega) (by omega)) ?_) | refine Exists.intro _ (And.intro (binA_quo_i64 (by omega) (by omega) (by omega)) ?_) | refine Exists.intro _ (And.intro (binA_rem_i64 (by omega) (by omega)) ?_) | refine Exists.intro _ (And.intro (binA_sub_i64 (by omega) (by omega)) ?_) | refine Exists.intro _ (And.intro (binA_add_i64 (by omega) (by omega)) ?_) | refine Exists.intro _ (And.intro (conv_i64 (by omega) (by omega)) ?_) | refine Exists.intro _ (And.intro rfl ?_) | refine And.intro rfl ?_ | refine condT ?_ | refine condF ?_ | refine condG1 ?_ | refine condG0 ?_ | refine condDT (by omega) ?_ | refine condDF (by omega) ?_ | refine condBT (by omega) ?_ | refine condBF (by omega) ?_ | refine condNT (by omega) ?_ | refine condNF (by omega) ?_)
  refine condV (fun h => ?_) (fun h => ?_)
  · rw [show prefS r = r.attrs.pref from by simp [prefS, h]]
    repeat (first | refine Exists.intro _ (And.intro (unA_neg_i64 (by omega) (by omega)) ?_) | refine Exists.intro _ (And.intro (binA_quo_i64 (by omega) (by omega) (by omega)) ?_) | refine Exists.intro _ (And.intro (binA_rem_i64 (by omega) (by omega)) ?_) | refine Exists.intro _ (And.intro (binA_sub_i64 (by omega) (by omega)) ?_) | refine Exists.intro _ (And.intro (binA_add_i64 (by omega) (by omega)) ?_) | refine Exists.intro _ (And.intro (conv_i64 (by omega) (by omega)) ?_) | refine Exists.intro _ (And.intro rfl ?_) | refine And.intro rfl ?_ | refine condT ?_ | refine condF ?_ | refine condG1 ?_ | refine condG0 ?_ | refine condDT (by omega) ?_ | refine condDF (by omega) ?_ | refine condBT (by omega) ?_ | refine condBF (by omega) ?_ | refine condNT (by omega) ?_ | refine condNF (by omega) ?_)
    rfl
  · rw [show prefS r = 100 from by simp [prefS, h]]
    rfl
theorem rpref_gives (r : PVRoute) : Gives G 48 [.agg r.enc] [] ⟨.int .i64 (prefS r), []⟩ := by
  refine gives_code (F := f48) rfl rfl (W_ok 80 _ _ _ _ ?_)
  repeat (first | refine Exists.intro _ (And.intro (unA_neg_i64 (by omega) (by omega)) ?_) | refine Exists.intro _ (And.intro (binA_quo_i64 (by omega) (by omega) (by omega)) ?_) | refine Exists.intro _ (And.intro (binA_rem_i64 (by omega) (by omega)) ?_) | refine Exists.intro _ (And.intro (binA_sub_i64 (by omega) (by omega)) ?_) | refine Exists.intro _ (And.intro (binA_add_i64 (by omega) (by omega)) ?_) | refine Exists.intro _ (And.intro (conv_i64 (by omega) (by omega)) ?_) | refine Exists.intro _ (And.intro rfl ?_) | refine And.intro rfl ?_ | refine condT ?_ | refine condF ?_ | refine condG1 ?_ | refine condG0 ?_ | refine condDT (by omega) ?_ | refine condDF (by omega) ?_ | refine condBT (by omega) ?_ | refine condBF (by omega) ?_ | refine condNT (by omega) ?_ | refine condNF (by omega) ?_)
  refine condV (fun h => ?_) (fun h => ?_)
  · rw [show prefS r = r.attrs.pref from by simp [prefS, h]]
    repeat (first | refine Exists.intro _ (And.intro (unA_neg_i64 (by omega) (by omega)) ?_) | refine Exists.intro _ (And.intro (binA_quo_i64 (by omega) (by omega) (by omega)) ?_) | refine Exists.intro _ (And.intro (binA_rem_i64 (by omega) (by omega)) ?_) | refine Exists.intro _ (And.intro (binA_sub_i64 (by omega) (by omega)) ?_) | refine Exists.intro _ (And.intro (binA_add_i64 (by omega) (by omega)) ?_) | refine Exists.intro _ (And.intro (conv_i64 (by omega) (by omega)) ?_) | refine Exists.intro _ (And.intro rfl ?_) | refine And.intro rfl ?_ | refine condT ?_ | refine condF ?_ | refine condG1 ?_ | refine condG0 ?_ | refine condDT (by omega) ?_ | refine condDF (by omega) ?_ | refine condBT (by omega) ?_ | refine condBF (by omega) ?_ | refine condNT (by omega) ?_ | refine condNF (by omega) ?_)
    rfl
  · rw [show prefS r = 100 from by simp [prefS, h]]
    rfl
theorem med_gives (r : PVRoute) : Gives G 37 [.agg r.enc] [] ⟨.int .i64 (medS r), []⟩ := by
  refine gives_code (F := f37) rfl rfl (W_ok 80 _ _ _ _ ?_)
  repeat (first | refine Exists.intro _ (And.intro (unA_neg_i64 (by omega) (by omega)) ?_) | refine Exists.intro _ (And.intro (binA_quo_i64 (by omega) (by omega) (by omega)) ?_) | refine Exists.intro _ (And.intro (binA_rem_i64 (by omega) (by omega)) ?_) | refine Exists.intro _ (And.intro (binA_sub_i64 (by omega) (by omega)) ?_) | refine Exists.intro _ (And.intro (binA_add_i64 (by omega) (by omega)) ?_) | refine Exists.intro _ (And.intro (conv_i64 (by omega) (by omega)) ?_) | refine Exists.intro _ (And.intro rfl ?_) | refine And.intro rfl ?_ | refine condT ?_ | refine condF ?_ | refine condG1 ?_ | refine condG0 ?_ | refine condDT (by omega) ?_ | refine condDF (by omega) ?_ | refine condBT (by omega) ?_ | refine condBF (by omega) ?_ | refine condNT (by omega) ?_ | refine condNF (by omega) ?_)
  refine condV (fun h => ?_) (fun h => ?_)
  · rw [show medS r = r.attrs.med from by simp [medS, h]]
    repeat (first | refine Exists.intro _ (And.intro (unA_neg_i64 (by omega) (by omega)) ?_) | refine Exists.intro _ (And.intro (binA_quo_i64 (by omega) (by omega) (by omega)) ?_) | refine Exists.intro _ (And.intro (binA_rem_i64 (by omega) (by omega)) ?_) | refine Exists.intro _ (And.intro (binA_sub_i64 (by omega) (by omega)) ?_) | refine Exists.intro _ (And.intro (binA_add_i64 (by omega) (by omega)) ?_) | refine Exists.intro _ (And.intro (conv_i64 (by omega) (by omega)) ?_) | refine Exists.intro _ (And.intro rfl ?_) | refine And.intro rfl ?_ | refine condT ?_ | refine condF ?_ | refine condG1 ?_ | refine condG0 ?_ | refine condDT (by omega) ?_ | refine condDF (by omega) ?_ | refine condBT (by omega) ?_ | refine condBF (by omega) ?_ | refine condNT (by omega) ?_ | refine condNF (by omega) ?_)
    rfl
  · rw [show medS r = 0 from by simp [medS, h]]
    rfl
theorem rmed_gives (r : PVRoute) : Gives G 50 [.agg r.enc] [] ⟨.int .i64 (medS r), []⟩ := by
  refine gives_code (F := f50) rfl rfl (W_ok 80 _ _ _ _ ?_)
  repeat (first | refine Exists.intro _ (And.intro (unA_neg_i64 (by omega) (by omega)) ?_) | refine Exists.intro _ (And.intro (binA_quo_i64 (by omega) (by omega) (by omega)) ?_) | refine Exists.intro _ (And.intro (binA_rem_i64 (by omega) (by omega)) ?_) | refine Exists.intro _ (And.intro (binA_sub_i64 (by omega) (by omega)) ?_) | refine Exists.intro _ (And.intro (binA_add_i64 (by omega) (by omega)) ?_) | refine Exists.intro _ (And.intro (conv_i64 (by omega) (by omega)) ?_) | refine Exists.intro _ (And.intro rfl ?_) | refine And.intro rfl ?_ | refine condT ?_ | refine condF ?_ | refine condG1 ?_ | refine condG0 ?_ | refine condDT (by omega) ?_ | refine condDF (by omega) ?_ | refine condBT (by omega) ?_ | refine condBF (by omega) ?_ | refine condNT (by omega) ?_ | refine condNF (by omega) ?_)
  refine condV (fun h => ?_) (fun h => ?_)
  · rw [show medS r = r.attrs.med from by simp [medS, h]]
    repeat (first | refine Exists.intro _ (And.intro (unA_neg_i64 (by omega) (by omega)) ?_) | refine Exists.intro _ (And.intro (binA_quo_i64 (by omega) (by omega) (by omega)) ?_) | refine Exists.intro _ (And.intro (binA_rem_i64 (by omega) (by omega)) ?_) | refine Exists.intro _ (And.intro (binA_sub_i64 (by omega) (by omega)) ?_) | refine Exists.intro _ (And.intro (binA_add_i64 (by omega) (by omega)) ?_) | refine Exists.intro _ (And.intro (conv_i64 (by omega) (by omega)) ?_) | refine Exists.intro _ (And.intro rfl ?_) | refine And.intro rfl ?_ | refine condT ?_ | refine condF ?_ | refine condG1 ?_ | refine condG0 ?_ | refine condDT (by omega) ?_ | refine condDF (by omega) ?_ | refine condBT (by omega) ?_ | refine condBF (by omega) ?_ | refine condNT (by omega) ?_ | refine condNF (by omega) ?_)
    rfl
  · rw [show medS r = 0 from by simp [medS, h]]
    rfl
theorem router_gives (r : PVRoute) : Gives G 44 [.agg r.enc] [] ⟨.int .u32 (routerS r), []⟩ := by
  refine gives_code (F := f44) rfl rfl (W_ok 80 _ _ _ _ ?_)
  repeat (first | refine Exists.intro _ (And.intro (unA_neg_i64 (by omega) (by omega)) ?_) | refine Exists.intro _ (And.intro (binA_quo_i64 (by omega) (by omega) (by omega)) ?_) | refine Exists.intro _ (And.intro (binA_rem_i64 (by omega) (by omega)) ?_) | refine Exists.intro _ (And.intro (binA_sub_i64 (by omega) (by omega)) ?_) | refine Exists.intro _ (And.intro (binA_add_i64 (by omega) (by omega)) ?_) | refine Exists.intro _ (And.intro (conv_i64 (by omega) (by omega)) ?_) | refine Exists.intro _ (And.intro rfl ?_) | refine And.intro rfl ?_ | refine condT ?_ | refine condF ?_ | refine condG1 ?_ | refine condG0 ?_ | refine condDT (by omega) ?_ | refine condDF (by omega) ?_ | refine condBT (by omega) ?_ | refine condBF (by omega) ?_ | refine condNT (by omega) ?_ | refine condNF (by omega) ?_)
  refine condV (fun h => ?_) (fun h => ?_)
  · rw [show routerS r = r.attrs.orig from by simp [routerS, h]]
    repeat (first | refine Exists.intro _ (And.intro (unA_neg_i64 (by omega) (by omega)) ?_) | refine Exists.intro _ (And.intro (binA_quo_i64 (by omega) (by omega) (by omega)) ?_) | refine Exists.intro _ (And.intro (binA_rem_i64 (by omega) (by omega)) ?_) | refine Exists.intro _ (And.intro (binA_sub_i64 (by omega) (by omega)) ?_) | refine Exists.intro _ (And.intro (binA_add_i64 (by omega) (by omega)) ?_) | refine Exists.intro _ (And.intro (conv_i64 (by omega) (by omega)) ?_) | refine Exists.intro _ (And.intro rfl ?_) | refine And.intro rfl ?_ | refine condT ?_ | refine condF ?_ | refine condG1 ?_ | refine condG0 ?_ | refine condDT (by omega) ?_ | refine condDF (by omega) ?_ | refine condBT (by omega) ?_ | refine condBF (by omega) ?_ | refine condNT (by omega) ?_ | refine condNF (by omega) ?_)
    rfl
  · rw [show routerS r = r.router from by simp [routerS, h]]
    repeat (first | refine Exists.intro _ (And.intro (unA_neg_i64 (by omega) (by omega)) ?_) | refine Exists.intro _ (And.intro (binA_quo_i64 (by omega) (by omega) (by omega)) ?_) | refine Exists.intro _ (And.intro (binA_rem_i64 (by omega) (by omega)) ?_) | refine Exists.intro _ (And.intro (binA_sub_i64 (by omega) (by omega)) ?_) | refine Exists.intro _ (And.intro (binA_add_i64 (by omega) (by omega)) ?_) | refine Exists.intro _ (And.intro (conv_i64 (by omega) (by omega)) ?_) | refine Exists.intro _ (And.intro rfl ?_) | refine And.intro rfl ?_ | refine condT ?_ | refine condF ?_ | refine condG1 ?_ | refine condG0 ?_ | refine condDT (by omega) ?_ | refine condDF (by omega) ?_ | refine condBT (by omega) ?_ | refine condBF (by omega) ?_ | refine condNT (by omega) ?_ | refine condNF (by omega) ?_)
    rfl
def cmpS (x y : Int) : Int := if x < y then -1 else if x > y then 1 else 0
theorem isNaN_gives (x : Int) : Gives G 55 [.int .i64 x] [] ⟨.bool false, []⟩ := by
  refine gives_code (F := f55) rfl rfl (W_ok 40 _ _ _ _ ?_)
  repeat (first | refine Exists.intro _ (And.intro (unA_neg_i64 (by omega) (by omega)) ?_) | refine Exists.intro _ (And.intro (binA_quo_i64 (by omega) (by omega) (by omega)) ?_) | refine Exists.intro _ (And.intro (binA_rem_i64 (by omega) (by omega)) ?_) | refine Exists.intro _ (And.intro (binA_sub_i64 (by omega) (by omega)) ?_) | refine Exists.intro _ (And.intro (binA_add_i64 (by omega) (by omega)) ?_) | refine Exists.intro _ (And.intro (conv_i64 (by omega) (by omega)) ?_) | refine Exists.intro _ (And.intro rfl ?_) | refine And.intro rfl ?_ | refine condT ?_ | refine condF ?_ | refine condG1 ?_ | refine condG0 ?_ | refine condDT (by omega) ?_ | refine condDF (by omega) ?_ | refine condBT (by omega) ?_ | refine condBF (by omega) ?_ | refine condNT (by omega) ?_ | refine condNF (by omega) ?_)
  show some _ = some _
  simp [tget]
theorem isNaNu_gives (x : Int) : Gives G 56 [.int .u32 x] [] ⟨.bool false, []⟩ := by
  refine gives_code (F := f56) rfl rfl (W_ok 40 _ _ _ _ ?_)
  repeat (first | refine Exists.intro _ (And.intro (unA_neg_i64 (by omega) (by omega)) ?_) | refine Exists.intro _ (And.intro (binA_quo_i64 (by omega) (by omega) (by omega)) ?_) | refine Exists.intro _ (And.intro (binA_rem_i64 (by omega) (by omega)) ?_) | refine Exists.intro _ (And.intro (binA_sub_i64 (by omega) (by omega)) ?_) | refine Exists.intro _ (And.intro (binA_add_i64 (by omega) (by omega)) ?_) | refine Exists.intro _ (And.intro (conv_i64 (by omega) (by omega)) ?_) | refine Exists.intro _ (And.intro rfl ?_) | refine And.intro rfl ?_ | refine condT ?_ | refine condF ?_ | refine condG1 ?_ | refine condG0 ?_ | refine condDT (by omega) ?_ | refine condDF (by omega) ?_ | refine condBT (by omega) ?_ | refine condBF (by omega) ?_ | refine condNT (by omega) ?_ | refine condNF (by omega) ?_)
  show some _ = some _
  simp [tget]
theorem cmp_gives (x y : Int) : Gives G 30 [.int .i64 x, .int .i64 y] [] ⟨.int .i64 (cmpS x y), []⟩ := by
  refine gives_code (F := f30) rfl rfl (W_ok 100 _ _ _ _ ?_)
  refine callV (isNaN_gives x) (by simp [pureL, AV.pure]) (by simp [AV.dry, dryL]) ?_
  refine callV (isNaN_gives y) (by simp [pureL, AV.pure]) (by simp [AV.dry, dryL]) ?_
  repeat (first | refine Exists.intro _ (And.intro (unA_neg_i64 (by omega) (by omega)) ?_) | refine Exists.intro _ (And.intro (binA_quo_i64 (by omega) (by omega) (by omega)) ?_) | refine Exists.intro _ (And.intro (binA_rem_i64 (by omega) (by omega)) ?_) | refine Exists.intro _ (And.intro (binA_sub_i64 (by omega) (by omega)) ?_) | refine Exists.intro _ (And.intro (binA_add_i64 (by omega) (by omega)) ?_) | refine Exists.intro _ (And.intro (conv_i64 (by omega) (by omega)) ?_) | refine Exists.intro _ (And.intro rfl ?_) | refine And.intro rfl ?_ | refine condT ?_ | refine condF ?_ | refine condG1 ?_ | refine condG0 ?_ | refine condDT (by omega) ?_ | refine condDF (by omega) ?_ | refine condBT (by omega) ?_ | refine condBF (by omega) ?_ | refine condNT (by omega) ?_ | refine condNF (by omega) ?_)
  refine condD (fun h => ?_) (fun h => ?_)
  · rw [show cmpS x y = -1 from by simp [cmpS, h]]
    repeat (first | refine Exists.intro _ (And.intro (unA_neg_i64 (by omega) (by omega)) ?_) | refine Exists.intro _ (And.intro (binA_quo_i64 (by omega) (by omega) (by omega)) ?_) | refine Exists.intro _ (And.intro (binA_rem_i64 (by omega) (by omega)) ?_) | refine Exists.intro _ (And.intro (binA_sub_i64 (by omega) (by omega)) ?_) | refine Exists.intro _ (And.intro (binA_add_i64 (by omega) (by omega)) ?_) | refine Exists.intro _ (And.intro (conv_i64 (by omega) (by omega)) ?_) | refine Exists.intro _ (And.intro rfl ?_) | refine And.intro rfl ?_ | refine condT ?_ | refine condF ?_ | refine condG1 ?_ | refine condG0 ?_ | refine condDT (by omega) ?_ | refine condDF (by omega) ?_ | refine condBT (by omega) ?_ | refine condBF (by omega) ?_ | refine condNT (by omega) ?_ | refine condNF (by omega) ?_)
    rfl
  · have h1 := h
    repeat (first | refine Exists.intro _ (And.intro (unA_neg_i64 (by omega) (by omega)) ?_) | refine Exists.intro _ (And.intro (binA_quo_i64 (by omega) (by omega) (by omega)) ?_) | refine Exists.intro _ (And.intro (binA_rem_i64 (by omega) (by omega)) ?_) | refine Exists.intro _ (And.intro (binA_sub_i64 (by omega) (by omega)) ?_) | refine Exists.intro _ (And.intro (binA_add_i64 (by omega) (by omega)) ?_) | refine Exists.intro _ (And.intro (conv_i64 (by omega) (by omega)) ?_) | refine Exists.intro _ (And.intro rfl ?_) | refine And.intro rfl ?_ | refine condT ?_ | refine condF ?_ | refine condG1 ?_ | refine condG0 ?_ | refine condDT (by omega) ?_ | refine condDF (by omega) ?_ | refine condBT (by omega) ?_ | refine condBF (by omega) ?_ | refine condNT (by omega) ?_ | refine condNF (by omega) ?_)
    refine condD (fun h => ?_) (fun h => ?_)
    · rw [show cmpS x y = 1 from by simp [cmpS, h1, h]]
      repeat (first | refine Exists.intro _ (And.intro (unA_neg_i64 (by omega) (by omega)) ?_) | refine Exists.intro _ (And.intro (binA_quo_i64 (by omega) (by omega) (by omega)) ?_) | refine Exists.intro _ (And.intro (binA_rem_i64 (by omega) (by omega)) ?_) | refine Exists.intro _ (And.intro (binA_sub_i64 (by omega) (by omega)) ?_) | refine Exists.intro _ (And.intro (binA_add_i64 (by omega) (by omega)) ?_) | refine Exists.intro _ (And.intro (conv_i64 (by omega) (by omega)) ?_) | refine Exists.intro _ (And.intro rfl ?_) | refine And.intro rfl ?_ | refine condT ?_ | refine condF ?_ | refine condG1 ?_ | refine condG0 ?_ | refine condDT (by omega) ?_ | refine condDF (by omega) ?_ | refine condBT (by omega) ?_ | refine condBF (by omega) ?_ | refine condNT (by omega) ?_ | refine condNF (by omega) ?_)
      rfl
    · rw [show cmpS x y = 0 from by simp [cmpS, h1, h]]
      repeat (first | refine Exists.intro _ (And.intro (unA_neg_i64 (by omega) (by omega)) ?_) | refine Exists.intro _ (And.intro (binA_quo_i64 (by omega) (by omega) (by omega)) ?_) | refine Exists.intro _ (And.intro (binA_rem_i64 (by omega) (by omega)) ?_) | refine Exists.intro _ (And.intro (binA_sub_i64 (by omega) (by omega)) ?_) | refine Exists.intro _ (And.intro (binA_add_i64 (by omega) (by omega)) ?_) | refine Exists.intro _ (And.intro (conv_i64 (by omega) (by omega)) ?_) | refine Exists.intro _ (And.intro rfl ?_) | refine And.intro rfl ?_ | refine condT ?_ | refine condF ?_ | refine condG1 ?_ | refine condG0 ?_ | refine condDT (by omega) ?_ | refine condDF (by omega) ?_ | refine condBT (by omega) ?_ | refine condBF (by omega) ?_ | refine condNT (by omega) ?_ | refine condNF (by omega) ?_)
      rfl
def innerS (r : PVRoute) : Bool := r.kind == 2 || r.kind == 3
theorem inner_gives (r : PVRoute) : Gives G 39 [.agg r.enc] [] ⟨.bool (innerS r), []⟩ := by
  refine gives_code (F := f39) rfl rfl (W_ok 60 _ _ _ _ ?_)
  repeat (first | refine Exists.intro _ (And.intro (unA_neg_i64 (by omega) (by omega)) ?_) | refine Exists.intro _ (And.intro (binA_quo_i64 (by omega) (by omega) (by omega)) ?_) | refine Exists.intro _ (And.intro (binA_rem_i64 (by omega) (by omega)) ?_) | refine Exists.intro _ (And.intro (binA_sub_i64 (by omega) (by omega)) ?_) | refine Exists.intro _ (And.intro (binA_add_i64 (by omega) (by omega)) ?_) | refine Exists.intro _ (And.intro (conv_i64 (by omega) (by omega)) ?_) | refine Exists.intro _ (And.intro rfl ?_) | refine And.intro rfl ?_ | refine condT ?_ | refine condF ?_ | refine condG1 ?_ | refine condG0 ?_ | refine condDT (by omega) ?_ | refine condDF (by omega) ?_ | refine condBT (by omega) ?_ | refine condBF (by omega) ?_ | refine condNT (by omega) ?_ | refine condNF (by omega) ?_)
  refine condB (fun h => ?_) (fun h => ?_)
  · rw [show innerS r = true from by simp [innerS, h]]
    repeat (first | refine Exists.intro _ (And.intro (unA_neg_i64 (by omega) (by omega)) ?_) | refine Exists.intro _ (And.intro (binA_quo_i64 (by omega) (by omega) (by omega)) ?_) | refine Exists.intro _ (And.intro (binA_rem_i64 (by omega) (by omega)) ?_) | refine Exists.intro _ (And.intro (binA_sub_i64 (by omega) (by omega)) ?_) | refine Exists.intro _ (And.intro (binA_add_i64 (by omega) (by omega)) ?_) | refine Exists.intro _ (And.intro (conv_i64 (by omega) (by omega)) ?_) | refine Exists.intro _ (And.intro rfl ?_) | refine And.intro rfl ?_ | refine condT ?_ | refine condF ?_ | refine condG1 ?_ | refine condG0 ?_ | refine condDT (by omega) ?_ | refine condDF (by omega) ?_ | refine condBT (by omega) ?_ | refine condBF (by omega) ?_ | refine condNT (by omega) ?_ | refine condNF (by omega) ?_)
    rfl
  · rw [show innerS r = (r.kind == 3) from by simp [innerS, h]]
    repeat (first | refine Exists.intro _ (And.intro (unA_neg_i64 (by omega) (by omega)) ?_) | refine Exists.intro _ (And.intro (binA_quo_i64 (by omega) (by omega) (by omega)) ?_) | refine Exists.intro _ (And.intro (binA_rem_i64 (by omega) (by omega)) ?_) | refine Exists.intro _ (And.intro (binA_sub_i64 (by omega) (by omega)) ?_) | refine Exists.intro _ (And.intro (binA_add_i64 (by omega) (by omega)) ?_) | refine Exists.intro _ (And.intro (conv_i64 (by omega) (by omega)) ?_) | refine Exists.intro _ (And.intro rfl ?_) | refine And.intro rfl ?_ | refine condT ?_ | refine condF ?_ | refine condG1 ?_ | refine condG0 ?_ | refine condDT (by omega) ?_ | refine condDF (by omega) ?_ | refine condBT (by omega) ?_ | refine condBF (by omega) ?_ | refine condNT (by omega) ?_ | refine condNF (by omega) ?_)
    rfl
theorem external_gives (r : PVRoute) : Gives G 51 [.agg r.enc] [] ⟨.int .i64 (if innerS r then 1 else 0), []⟩ := by
  refine gives_code (F := f51) rfl rfl (W_ok 60 _ _ _ _ ?_)
  repeat (first | refine Exists.intro _ (And.intro (unA_neg_i64 (by omega) (by omega)) ?_) | refine Exists.intro _ (And.intro (binA_quo_i64 (by omega) (by omega) (by omega)) ?_) | refine Exists.intro _ (And.intro (binA_rem_i64 (by omega) (by omega)) ?_) | refine Exists.intro _ (And.intro (binA_sub_i64 (by omega) (by omega)) ?_) | refine Exists.intro _ (And.intro (binA_add_i64 (by omega) (by omega)) ?_) | refine Exists.intro _ (And.intro (conv_i64 (by omega) (by omega)) ?_) | refine Exists.intro _ (And.intro rfl ?_) | refine And.intro rfl ?_ | refine condT ?_ | refine condF ?_ | refine condG1 ?_ | refine condG0 ?_ | refine condDT (by omega) ?_ | refine condDF (by omega) ?_ | refine condBT (by omega) ?_ | refine condBF (by omega) ?_ | refine condNT (by omega) ?_ | refine condNF (by omega) ?_)
  refine condN (fun h => ?_) (fun h => ?_)
  · have h1 := h
    repeat (first | refine Exists.intro _ (And.intro (unA_neg_i64 (by omega) (by omega)) ?_) | refine Exists.intro _ (And.intro (binA_quo_i64 (by omega) (by omega) (by omega)) ?_) | refine Exists.intro _ (And.intro (binA_rem_i64 (by omega) (by omega)) ?_) | refine Exists.intro _ (And.intro (binA_sub_i64 (by omega) (by omega)) ?_) | refine Exists.intro _ (And.intro (binA_add_i64 (by omega) (by omega)) ?_) | refine Exists.intro _ (And.intro (conv_i64 (by omega) (by omega)) ?_) | refine Exists.intro _ (And.intro rfl ?_) | refine And.intro rfl ?_ | refine condT ?_ | refine condF ?_ | refine condG1 ?_ | refine condG0 ?_ | refine condDT (by omega) ?_ | refine condDF (by omega) ?_ | refine condBT (by omega) ?_ | refine condBF (by omega) ?_ | refine condNT (by omega) ?_ | refine condNF (by omega) ?_)
    refine callV (flag_gives (r.kind != 3)) (by simp [pureL, AV.pure]) (by simp [AV.dry, dryL]) ?_
    repeat (first | refine Exists.intro _ (And.intro (unA_neg_i64 (by omega) (by omega)) ?_) | refine Exists.intro _ (And.intro (binA_quo_i64 (by omega) (by omega) (by omega)) ?_) | refine Exists.intro _ (And.intro (binA_rem_i64 (by omega) (by omega)) ?_) | refine Exists.intro _ (And.intro (binA_sub_i64 (by omega) (by omega)) ?_) | refine Exists.intro _ (And.intro (binA_add_i64 (by omega) (by omega)) ?_) | refine Exists.intro _ (And.intro (conv_i64 (by omega) (by omega)) ?_) | refine Exists.intro _ (And.intro rfl ?_) | refine And.intro rfl ?_ | refine condT ?_ | refine condF ?_ | refine condG1 ?_ | refine condG0 ?_ | refine condDT (by omega) ?_ | refine condDF (by omega) ?_ | refine condBT (by omega) ?_ | refine condBF (by omega) ?_ | refine condNT (by omega) ?_ | refine condNF (by omega) ?_)
    rw [show innerS r = (r.kind == 3) from by simp [innerS, h1]]
    show some _ = some _
    by_cases h3 : r.kind = 3 <;> simp [tget, h3]
  · repeat (first | refine Exists.intro _ (And.intro (unA_neg_i64 (by omega) (by omega)) ?_) | refine Exists.intro _ (And.intro (binA_quo_i64 (by omega) (by omega) (by omega)) ?_) | refine Exists.intro _ (And.intro (binA_rem_i64 (by omega) (by omega)) ?_) | refine Exists.intro _ (And.intro (binA_sub_i64 (by omega) (by omega)) ?_) | refine Exists.intro _ (And.intro (binA_add_i64 (by omega) (by omega)) ?_) | refine Exists.intro _ (And.intro (conv_i64 (by omega) (by omega)) ?_) | refine Exists.intro _ (And.intro rfl ?_) | refine And.intro rfl ?_ | refine condT ?_ | refine condF ?_ | refine condG1 ?_ | refine condG0 ?_ | refine condDT (by omega) ?_ | refine condDF (by omega) ?_ | refine condBT (by omega) ?_ | refine condBF (by omega) ?_ | refine condNT (by omega) ?_ | refine condNF (by omega) ?_)
    refine callV (flag_gives false) (by simp [pureL, AV.pure]) (by simp [AV.dry, dryL]) ?_
    repeat (first | refine Exists.intro _ (And.intro (unA_neg_i64 (by omega) (by omega)) ?_) | refine Exists.intro _ (And.intro (binA_quo_i64 (by omega) (by omega) (by omega)) ?_) | refine Exists.intro _ (And.intro (binA_rem_i64 (by omega) (by omega)) ?_) | refine Exists.intro _ (And.intro (binA_sub_i64 (by omega) (by omega)) ?_) | refine Exists.intro _ (And.intro (binA_add_i64 (by omega) (by omega)) ?_) | refine Exists.intro _ (And.intro (conv_i64 (by omega) (by omega)) ?_) | refine Exists.intro _ (And.intro rfl ?_) | refine And.intro rfl ?_ | refine condT ?_ | refine condF ?_ | refine condG1 ?_ | refine condG0 ?_ | refine condDT (by omega) ?_ | refine condDF (by omega) ?_ | refine condBT (by omega) ?_ | refine condBF (by omega) ?_ | refine condNT (by omega) ?_ | refine condNF (by omega) ?_)
    rw [show innerS r = true from by simp [innerS, h]]
    rfl
theorem rrouter_gives (r : PVRoute) (h0 : 0 ≤ r.attrs.orig ∧ r.attrs.orig < 4294967296 ∧ 0 ≤ r.router ∧ r.router < 4294967296) : Gives G 52 [.agg r.enc] [] ⟨.int .i64 (routerS r), []⟩ := by
  refine gives_code (F := f52) rfl rfl (W_ok 60 _ _ _ _ ?_)
  repeat (first | refine Exists.intro _ (And.intro (unA_neg_i64 (by omega) (by omega)) ?_) | refine Exists.intro _ (And.intro (binA_quo_i64 (by omega) (by omega) (by omega)) ?_) | refine Exists.intro _ (And.intro (binA_rem_i64 (by omega) (by omega)) ?_) | refine Exists.intro _ (And.intro (binA_sub_i64 (by omega) (by omega)) ?_) | refine Exists.intro _ (And.intro (binA_add_i64 (by omega) (by omega)) ?_) | refine Exists.intro _ (And.intro (conv_i64 (by omega) (by omega)) ?_) | refine Exists.intro _ (And.intro rfl ?_) | refine And.intro rfl ?_ | refine condT ?_ | refine condF ?_ | refine condG1 ?_ | refine condG0 ?_ | refine condDT (by omega) ?_ | refine condDF (by omega) ?_ | refine condBT (by omega) ?_ | refine condBF (by omega) ?_ | refine condNT (by omega) ?_ | refine condNF (by omega) ?_)
  refine condV (fun h => ?_) (fun h => ?_)
  · rw [show routerS r = r.attrs.orig from by simp [routerS, h]]
    repeat (first | refine Exists.intro _ (And.intro (unA_neg_i64 (by omega) (by omega)) ?_) | refine Exists.intro _ (And.intro (binA_quo_i64 (by omega) (by omega) (by omega)) ?_) | refine Exists.intro _ (And.intro (binA_rem_i64 (by omega) (by omega)) ?_) | refine Exists.intro _ (And.intro (binA_sub_i64 (by omega) (by omega)) ?_) | refine Exists.intro _ (And.intro (binA_add_i64 (by omega) (by omega)) ?_) | refine Exists.intro _ (And.intro (conv_i64 (by omega) (by omega)) ?_) | refine Exists.intro _ (And.intro rfl ?_) | refine And.intro rfl ?_ | refine condT ?_ | refine condF ?_ | refine condG1 ?_ | refine condG0 ?_ | refine condDT (by omega) ?_ | refine condDF (by omega) ?_ | refine condBT (by omega) ?_ | refine condBF (by omega) ?_ | refine condNT (by omega) ?_ | refine condNF (by omega) ?_)
    rfl
  · rw [show routerS r = r.router from by simp [routerS, h]]
    repeat (first | refine Exists.intro _ (And.intro (unA_neg_i64 (by omega) (by omega)) ?_) | refine Exists.intro _ (And.intro (binA_quo_i64 (by omega) (by omega) (by omega)) ?_) | refine Exists.intro _ (And.intro (binA_rem_i64 (by omega) (by omega)) ?_) | refine Exists.intro _ (And.intro (binA_sub_i64 (by omega) (by omega)) ?_) | refine Exists.intro _ (And.intro (binA_add_i64 (by omega) (by omega)) ?_) | refine Exists.intro _ (And.intro (conv_i64 (by omega) (by omega)) ?_) | refine Exists.intro _ (And.intro rfl ?_) | refine And.intro rfl ?_ | refine condT ?_ | refine condF ?_ | refine condG1 ?_ | refine condG0 ?_ | refine condDT (by omega) ?_ | refine condDF (by omega) ?_ | refine condBT (by omega) ?_ | refine condBF (by omega) ?_ | refine condNT (by omega) ?_ | refine condNF (by omega) ?_)
    rfl
theorem cmpu_gives (x y : Int) : Gives G 43 [.int .u32 x, .int .u32 y] [] ⟨.int .i64 (cmpS x y), []⟩ := by
  refine gives_code (F := f43) rfl rfl (W_ok 100 _ _ _ _ ?_)
  refine callV (isNaNu_gives x) (by simp [pureL, AV.pure]) (by simp [AV.dry, dryL]) ?_
  refine callV (isNaNu_gives y) (by simp [pureL, AV.pure]) (by simp [AV.dry, dryL]) ?_
  repeat (first | refine Exists.intro _ (And.intro (unA_neg_i64 (by omega) (by omega)) ?_) | refine Exists.intro _ (And.intro (binA_quo_i64 (by omega) (by omega) (by omega)) ?_) | refine Exists.intro _ (And.intro (binA_rem_i64 (by omega) (by omega)) ?_) | refine Exists.intro _ (And.intro (binA_sub_i64 (by omega) (by omega)) ?_) | refine Exists.intro _ (And.intro (binA_add_i64 (by omega) (by omega)) ?_) | refine Exists.intro _ (And.intro (conv_i64 (by omega) (by omega)) ?_) | refine Exists.intro _ (And.intro rfl ?_) | refine And.intro rfl ?_ | refine condT ?_ | refine condF ?_ | refine condG1 ?_ | refine condG0 ?_ | refine condDT (by omega) ?_ | refine condDF (by omega) ?_ | refine condBT (by omega) ?_ | refine condBF (by omega) ?_ | refine condNT (by omega) ?_ | refine condNF (by omega) ?_)
  refine condD (fun h => ?_) (fun h => ?_)
  · rw [show cmpS x y = -1 from by simp [cmpS, h]]
    repeat (first | refine Exists.intro _ (And.intro (unA_neg_i64 (by omega) (by omega)) ?_) | refine Exists.intro _ (And.intro (binA_quo_i64 (by omega) (by omega) (by omega)) ?_) | refine Exists.intro _ (And.intro (binA_rem_i64 (by omega) (by omega)) ?_) | refine Exists.intro _ (And.intro (binA_sub_i64 (by omega) (by omega)) ?_) | refine Exists.intro _ (And.intro (binA_add_i64 (by omega) (by omega)) ?_) | refine Exists.intro _ (And.intro (conv_i64 (by omega) (by omega)) ?_) | refine Exists.intro _ (And.intro rfl ?_) | refine And.intro rfl ?_ | refine condT ?_ | refine condF ?_ | refine condG1 ?_ | refine condG0 ?_ | refine condDT (by omega) ?_ | refine condDF (by omega) ?_ | refine condBT (by omega) ?_ | refine condBF (by omega) ?_ | refine condNT (by omega) ?_ | refine condNF (by omega) ?_)
    rfl
  · have h1 := h
    repeat (first | refine Exists.intro _ (And.intro (unA_neg_i64 (by omega) (by omega)) ?_) | refine Exists.intro _ (And.intro (binA_quo_i64 (by omega) (by omega) (by omega)) ?_) | refine Exists.intro _ (And.intro (binA_rem_i64 (by omega) (by omega)) ?_) | refine Exists.intro _ (And.intro (binA_sub_i64 (by omega) (by omega)) ?_) | refine Exists.intro _ (And.intro (binA_add_i64 (by omega) (by omega)) ?_) | refine Exists.intro _ (And.intro (conv_i64 (by omega) (by omega)) ?_) | refine Exists.intro _ (And.intro rfl ?_) | refine And.intro rfl ?_ | refine condT ?_ | refine condF ?_ | refine condG1 ?_ | refine condG0 ?_ | refine condDT (by omega) ?_ | refine condDF (by omega) ?_ | refine condBT (by omega) ?_ | refine condBF (by omega) ?_ | refine condNT (by omega) ?_ | refine condNF (by omega) ?_)
    refine condD (fun h => ?_) (fun h => ?_)
    · rw [show cmpS x y = 1 from by simp [cmpS, h1, h]]
      repeat (first | refine Exists.intro _ (And.intro (unA_neg_i64 (by omega) (by omega)) ?_) | refine Exists.intro _ (And.intro (binA_quo_i64 (by omega) (by omega) (by omega)) ?_) | refine Exists.intro _ (And.intro (binA_rem_i64 (by omega) (by omega)) ?_) | refine Exists.intro _ (And.intro (binA_sub_i64 (by omega) (by omega)) ?_) | refine Exists.intro _ (And.intro (binA_add_i64 (by omega) (by omega)) ?_) | refine Exists.intro _ (And.intro (conv_i64 (by omega) (by omega)) ?_) | refine Exists.intro _ (And.intro rfl ?_) | refine And.intro rfl ?_ | refine condT ?_ | refine condF ?_ | refine condG1 ?_ | refine condG0 ?_ | refine condDT (by omega) ?_ | refine condDF (by omega) ?_ | refine condBT (by omega) ?_ | refine condBF (by omega) ?_ | refine condNT (by omega) ?_ | refine condNF (by omega) ?_)
      rfl
    · rw [show cmpS x y = 0 from by simp [cmpS, h1, h]]
      repeat (first | refine Exists.intro _ (And.intro (unA_neg_i64 (by omega) (by omega)) ?_) | refine Exists.intro _ (And.intro (binA_quo_i64 (by omega) (by omega) (by omega)) ?_) | refine Exists.intro _ (And.intro (binA_rem_i64 (by omega) (by omega)) ?_) | refine Exists.intro _ (And.intro (binA_sub_i64 (by omega) (by omega)) ?_) | refine Exists.intro _ (And.intro (binA_add_i64 (by omega) (by omega)) ?_) | refine Exists.intro _ (And.intro (conv_i64 (by omega) (by omega)) ?_) | refine Exists.intro _ (And.intro rfl ?_) | refine And.intro rfl ?_ | refine condT ?_ | refine condF ?_ | refine condG1 ?_ | refine condG0 ?_ | refine condDT (by omega) ?_ | refine condDF (by omega) ?_ | refine condBT (by omega) ?_ | refine condBF (by omega) ?_ | refine condNT (by omega) ?_ | refine condNF (by omega) ?_)
      rfl
end Go.AM.IR
namespace Go.AM.IR
def lenS : List Seg → Int
  | [] => 0
  | s :: r => (if s.kind = 2 then (s.as.length : Int) else if s.kind = 1 then 1 else 0) + lenS r
theorem lenS_nonneg : ∀ l : List Seg, 0 ≤ lenS l
  | [] => by simp [lenS]
  | s :: r => by
    have := lenS_nonneg r
    simp only [lenS]
    split
    · omega
    · split <;> omega

theorem len_loop33 (l : List Seg) (hl : l.length < 2 ^ 62) : ∀ (rest done : List Seg) (T : List (Nat × AV)) (H : Heap) (c : Nat) (n a : Int) (e : l = done ++ rest) (hn : n = done.length) (ha : 0 ≤ a) (hb : a + lenS rest < 2 ^ 62),
   Ev G ⟨[.inLoop f33x11L, .inBlock 0, .code (.seq (.region f33x12 false) .ret)], ⟨(6, .sl 2 (l.map Seg.enc)) :: (7, .int .i64 l.length) :: (8, .int .i64 n) :: (3, .int .i64 a) :: T, H, c⟩, [.t 2], 0⟩ ⟨.int .i64 (a + lenS rest), []⟩
  | [], done, T, H, c, n, a, e, hn, ha, hb => by
    have hd : l.length = done.length := by simp [e]
    refine ev_loop' (W_ok 200 _ _ _ _ ?_)
    repeat (first | refine Exists.intro _ (And.intro (unA_neg_i64 (by omega) (by omega)) ?_) | refine Exists.intro _ (And.intro (binA_quo_i64 (by omega) (by omega) (by omega)) ?_) | refine Exists.intro _ (And.intro (binA_rem_i64 (by omega) (by omega)) ?_) | refine Exists.intro _ (And.intro (binA_sub_i64 (by omega) (by omega)) ?_) | refine Exists.intro _ (And.intro (binA_add_i64 (by omega) (by omega)) ?_) | refine Exists.intro _ (And.intro (conv_i64 (by omega) (by omega)) ?_) | refine Exists.intro _ (And.intro rfl ?_) | refine And.intro rfl ?_ | refine condT ?_ | refine condF ?_ | refine condG1 ?_ | refine condG0 ?_ | refine condDT (by omega) ?_ | refine condDF (by omega) ?_ | refine condBT (by omega) ?_ | refine condBF (by omega) ?_ | refine condNT (by omega) ?_ | refine condNF (by omega) ?_)
    simp only [lenS, Int.add_zero]
    rfl
  | x :: r, done, T, H, c, n, a, e, hn, ha, hb => by
    have hd : l.length = done.length + (r.length + 1) := by simp [e]
    have hx : (l.map Seg.enc)[n.toNat]? = some x.enc := by simp [e, hn]
    have h0 := lenS_nonneg r
    have hasl : (x.as.map encI).length = x.as.length := by simp
    refine ev_loop' (W_ok 200 _ _ _ _ ?_)
    repeat (first | refine Exists.intro _ (And.intro (unA_neg_i64 (by omega) (by omega)) ?_) | refine Exists.intro _ (And.intro (binA_quo_i64 (by omega) (by omega) (by omega)) ?_) | refine Exists.intro _ (And.intro (binA_rem_i64 (by omega) (by omega)) ?_) | refine Exists.intro _ (And.intro (binA_sub_i64 (by omega) (by omega)) ?_) | refine Exists.intro _ (And.intro (binA_add_i64 (by omega) (by omega)) ?_) | refine Exists.intro _ (And.intro (conv_i64 (by omega) (by omega)) ?_) | refine Exists.intro _ (And.intro rfl ?_) | refine And.intro rfl ?_ | refine condT ?_ | refine condF ?_ | refine condG1 ?_ | refine condG0 ?_ | refine condDT (by omega) ?_ | refine condDF (by omega) ?_ | refine condBT (by omega) ?_ | refine condBF (by omega) ?_ | refine condNT (by omega) ?_ | refine condNF (by omega) ?_)
    refine And.intro (by omega) ?_
    refine Exists.intro x.enc (And.intro hx ?_)
    repeat (first | refine Exists.intro _ (And.intro (unA_neg_i64 (by omega) (by omega)) ?_) | refine Exists.intro _ (And.intro (binA_quo_i64 (by omega) (by omega) (by omega)) ?_) | refine Exists.intro _ (And.intro (binA_rem_i64 (by omega) (by omega)) ?_) | refine Exists.intro _ (And.intro (binA_sub_i64 (by omega) (by omega)) ?_) | refine Exists.intro _ (And.intro (binA_add_i64 (by omega) (by omega)) ?_) | refine Exists.intro _ (And.intro (conv_i64 (by omega) (by omega)) ?_) | refine Exists.intro _ (And.intro rfl ?_) | refine And.intro rfl ?_ | refine condT ?_ | refine condF ?_ | refine condG1 ?_ | refine condG0 ?_ | refine condDT (by omega) ?_ | refine condDF (by omega) ?_ | refine condBT (by omega) ?_ | refine condBF (by omega) ?_ | refine condNT (by omega) ?_ | refine condNF (by omega) ?_)
    refine condB (fun h => ?_) (fun h => ?_)
    · have hs : lenS (x :: r) = x.as.length + lenS r := by simp [lenS, h]
      rw [hs] at hb ⊢
      have hk := h
      repeat (first | refine Exists.intro _ (And.intro (unA_neg_i64 (by omega) (by omega)) ?_) | refine Exists.intro _ (And.intro (binA_quo_i64 (by omega) (by omega) (by omega)) ?_) | refine Exists.intro _ (And.intro (binA_rem_i64 (by omega) (by omega)) ?_) | refine Exists.intro _ (And.intro (binA_sub_i64 (by omega) (by omega)) ?_) | refine Exists.intro _ (And.intro (binA_add_i64 (by omega) (by omega)) ?_) | refine Exists.intro _ (And.intro (conv_i64 (by omega) (by omega)) ?_) | refine Exists.intro _ (And.intro rfl ?_) | refine And.intro rfl ?_ | refine condT ?_ | refine condF ?_ | refine condG1 ?_ | refine condG0 ?_ | refine condDT (by omega) ?_ | refine condDF (by omega) ?_ | refine condBT (by omega) ?_ | refine condBF (by omega) ?_ | refine condNT (by omega) ?_ | refine condNF (by omega) ?_)
      refine ev_keep [6, 7, 8, 3] [] ?_
      rw [show a + (↑x.as.length + lenS r) = (a + ((x.as.map encI).length : Int)) + lenS r from by rw [hasl]; omega]
      exact len_loop33 l hl r (done ++ [x]) _ _ _ (n + 1) _ (by simp [e]) (by simp [hn]) (by omega) (by omega)
    · have hk := h
      repeat (first | refine Exists.intro _ (And.intro (unA_neg_i64 (by omega) (by omega)) ?_) | refine Exists.intro _ (And.intro (binA_quo_i64 (by omega) (by omega) (by omega)) ?_) | refine Exists.intro _ (And.intro (binA_rem_i64 (by omega) (by omega)) ?_) | refine Exists.intro _ (And.intro (binA_sub_i64 (by omega) (by omega)) ?_) | refine Exists.intro _ (And.intro (binA_add_i64 (by omega) (by omega)) ?_) | refine Exists.intro _ (And.intro (conv_i64 (by omega) (by omega)) ?_) | refine Exists.intro _ (And.intro rfl ?_) | refine And.intro rfl ?_ | refine condT ?_ | refine condF ?_ | refine condG1 ?_ | refine condG0 ?_ | refine condDT (by omega) ?_ | refine condDF (by omega) ?_ | refine condBT (by omega) ?_ | refine condBF (by omega) ?_ | refine condNT (by omega) ?_ | refine condNF (by omega) ?_)
      refine condB (fun h => ?_) (fun h => ?_)
      · have hs : lenS (x :: r) = 1 + lenS r := by simp [lenS, h]
        rw [hs] at hb ⊢
        repeat (first | refine Exists.intro _ (And.intro (unA_neg_i64 (by omega) (by omega)) ?_) | refine Exists.intro _ (And.intro (binA_quo_i64 (by omega) (by omega) (by omega)) ?_) | refine Exists.intro _ (And.intro (binA_rem_i64 (by omega) (by omega)) ?_) | refine Exists.intro _ (And.intro (binA_sub_i64 (by omega) (by omega)) ?_) | refine Exists.intro _ (And.intro (binA_add_i64 (by omega) (by omega)) ?_) | refine Exists.intro _ (And.intro (conv_i64 (by omega) (by omega)) ?_) | refine Exists.intro _ (And.intro rfl ?_) | refine And.intro rfl ?_ | refine condT ?_ | refine condF ?_ | refine condG1 ?_ | refine condG0 ?_ | refine condDT (by omega) ?_ | refine condDF (by omega) ?_ | refine condBT (by omega) ?_ | refine condBF (by omega) ?_ | refine condNT (by omega) ?_ | refine condNF (by omega) ?_)
        refine ev_keep [6, 7, 8, 3] [] ?_
        rw [show a + (1 + lenS r) = (a + 1) + lenS r from by omega]
        exact len_loop33 l hl r (done ++ [x]) _ _ _ (n + 1) _ (by simp [e]) (by simp [hn]) (by omega) (by omega)
      · have hs : lenS (x :: r) = lenS r := by simp [lenS, h, hk]
        rw [hs] at hb ⊢
        repeat (first | refine Exists.intro _ (And.intro (unA_neg_i64 (by omega) (by omega)) ?_) | refine Exists.intro _ (And.intro (binA_quo_i64 (by omega) (by omega) (by omega)) ?_) | refine Exists.intro _ (And.intro (binA_rem_i64 (by omega) (by omega)) ?_) | refine Exists.intro _ (And.intro (binA_sub_i64 (by omega) (by omega)) ?_) | refine Exists.intro _ (And.intro (binA_add_i64 (by omega) (by omega)) ?_) | refine Exists.intro _ (And.intro (conv_i64 (by omega) (by omega)) ?_) | refine Exists.intro _ (And.intro rfl ?_) | refine And.intro rfl ?_ | refine condT ?_ | refine condF ?_ | refine condG1 ?_ | refine condG0 ?_ | refine condDT (by omega) ?_ | refine condDF (by omega) ?_ | refine condBT (by omega) ?_ | refine condBF (by omega) ?_ | refine condNT (by omega) ?_ | refine condNF (by omega) ?_)
        refine ev_keep [6, 7, 8, 3] [] ?_
        exact len_loop33 l hl r (done ++ [x]) _ _ _ (n + 1) _ (by simp [e]) (by simp [hn]) (by omega) (by omega)
theorem len_gives33 (l : List Seg) (hl : l.length < 2 ^ 62) (hb : lenS l < 2 ^ 62) : Gives G 33 [.sl 2 (l.map Seg.enc)] [] ⟨.int .i64 (lenS l), []⟩ := by
  refine gives_code (F := f33) rfl rfl (W_ok 40 _ _ _ _ ?_)
  repeat (first | refine Exists.intro _ (And.intro (unA_neg_i64 (by omega) (by omega)) ?_) | refine Exists.intro _ (And.intro (binA_quo_i64 (by omega) (by omega) (by omega)) ?_) | refine Exists.intro _ (And.intro (binA_rem_i64 (by omega) (by omega)) ?_) | refine Exists.intro _ (And.intro (binA_sub_i64 (by omega) (by omega)) ?_) | refine Exists.intro _ (And.intro (binA_add_i64 (by omega) (by omega)) ?_) | refine Exists.intro _ (And.intro (conv_i64 (by omega) (by omega)) ?_) | refine Exists.intro _ (And.intro rfl ?_) | refine And.intro rfl ?_ | refine condT ?_ | refine condF ?_ | refine condG1 ?_ | refine condG0 ?_ | refine condDT (by omega) ?_ | refine condDF (by omega) ?_ | refine condBT (by omega) ?_ | refine condBF (by omega) ?_ | refine condNT (by omega) ?_ | refine condNF (by omega) ?_)
  refine ev_keep [6, 7, 8, 3] [] ?_
  have key := len_loop33 l hl l []
  simp only [List.length_map]
  rw [show lenS l = 0 + lenS l from by omega]
  exact key _ _ _ 0 0 rfl rfl (by omega) (by omega)

theorem len_loop49 (l : List Seg) (hl : l.length < 2 ^ 62) : ∀ (rest done : List Seg) (T : List (Nat × AV)) (H : Heap) (c : Nat) (n a : Int) (e : l = done ++ rest) (hn : n = done.length) (ha : 0 ≤ a) (hb : a + lenS rest < 2 ^ 62),
   Ev G ⟨[.inLoop f49x10L, .inBlock 0, .code (.seq (.region f49x11 false) .ret)], ⟨(6, .sl 2 (l.map Seg.enc)) :: (7, .int .i64 l.length) :: (8, .int .i64 n) :: (3, .int .i64 a) :: T, H, c⟩, [.t 2], 0⟩ ⟨.int .i64 (a + lenS rest), []⟩
  | [], done, T, H, c, n, a, e, hn, ha, hb => by
    have hd : l.length = done.length := by simp [e]
    refine ev_loop' (W_ok 200 _ _ _ _ ?_)
    repeat (first | refine Exists.intro _ (And.intro (unA_neg_i64 (by omega) (by omega)) ?_) | refine Exists.intro _ (And.intro (binA_quo_i64 (by omega) (by omega) (by omega)) ?_) | refine Exists.intro _ (And.intro (binA_rem_i64 (by omega) (by omega)) ?_) | refine Exists.intro _ (And.intro (binA_sub_i64 (by omega) (by omega)) ?_) | refine Exists.intro _ (And.intro (binA_add_i64 (by omega) (by omega)) ?_) | refine Exists.intro _ (And.intro (conv_i64 (by omega) (by omega)) ?_) | refine Exists.intro _ (And.intro rfl ?_) | refine And.intro rfl ?_ | refine condT ?_ | refine condF ?_ | refine condG1 ?_ | refine condG0 ?_ | refine condDT (by omega) ?_ | refine condDF (by omega) ?_ | refine condBT (by omega) ?_ | refine condBF (by omega) ?_ | refine condNT (by omega) ?_ | refine condNF (by omega) ?_)
    simp only [lenS, Int.add_zero]
    rfl
  | x :: r, done, T, H, c, n, a, e, hn, ha, hb => by
    have hd : l.length = done.length + (r.length + 1) := by simp [e]
    have hx : (l.map Seg.enc)[n.toNat]? = some x.enc := by simp [e, hn]
    have h0 := lenS_nonneg r
    have hasl : (x.as.map encI).length = x.as.length := by simp
    refine ev_loop' (W_ok 200 _ _ _ _ ?_)
    repeat (first | refine Exists.intro _ (And.intro (unA_neg_i64 (by omega) (by omega)) ?_) | refine Exists.intro _ (And.intro (binA_quo_i64 (by omega) (by omega) (by omega)) ?_) | refine Exists.intro _ (And.intro (binA_rem_i64 (by omega) (by omega)) ?_) | refine Exists.intro _ (And.intro (binA_sub_i64 (by omega) (by omega)) ?_) | refine Exists.intro _ (And.intro (binA_add_i64 (by omega) (by omega)) ?_) | refine Exists.intro _ (And.intro (conv_i64 (by omega) (by omega)) ?_) | refine Exists.intro _ (And.intro rfl ?_) | refine And.intro rfl ?_ | refine condT ?_ | refine condF ?_ | refine condG1 ?_ | refine condG0 ?_ | refine condDT (by omega) ?_ | refine condDF (by omega) ?_ | refine condBT (by omega) ?_ | refine condBF (by omega) ?_ | refine condNT (by omega) ?_ | refine condNF (by omega) ?_)
    refine And.intro (by omega) ?_
    refine Exists.intro x.enc (And.intro hx ?_)
    repeat (first | refine Exists.intro _ (And.intro (unA_neg_i64 (by omega) (by omega)) ?_) | refine Exists.intro _ (And.intro (binA_quo_i64 (by omega) (by omega) (by omega)) ?_) | refine Exists.intro _ (And.intro (binA_rem_i64 (by omega) (by omega)) ?_) | refine Exists.intro _ (And.intro (binA_sub_i64 (by omega) (by omega)) ?_) | refine Exists.intro _ (And.intro (binA_add_i64 (by omega) (by omega)) ?_) | refine Exists.intro _ (And.intro (conv_i64 (by omega) (by omega)) ?_) | refine Exists.intro _ (And.intro rfl ?_) | refine And.intro rfl ?_ | refine condT ?_ | refine condF ?_ | refine condG1 ?_ | refine condG0 ?_ | refine condDT (by omega) ?_ | refine condDF (by omega) ?_ | refine condBT (by omega) ?_ | refine condBF (by omega) ?_ | refine condNT (by omega) ?_ | refine condNF (by omega) ?_)
    refine condB (fun h => ?_) (fun h => ?_)
    · have hs : lenS (x :: r) = x.as.length + lenS r := by simp [lenS, h]
      rw [hs] at hb ⊢
      have hk := h
      repeat (first | refine Exists.intro _ (And.intro (unA_neg_i64 (by omega) (by omega)) ?_) | refine Exists.intro _ (And.intro (binA_quo_i64 (by omega) (by omega) (by omega)) ?_) | refine Exists.intro _ (And.intro (binA_rem_i64 (by omega) (by omega)) ?_) | refine Exists.intro _ (And.intro (binA_sub_i64 (by omega) (by omega)) ?_) | refine Exists.intro _ (And.intro (binA_add_i64 (by omega) (by omega)) ?_) | refine Exists.intro _ (And.intro (conv_i64 (by omega) (by omega)) ?_) | refine Exists.intro _ (And.intro rfl ?_) | refine And.intro rfl ?_ | refine condT ?_ | refine condF ?_ | refine condG1 ?_ | refine condG0 ?_ | refine condDT (by omega) ?_ | refine condDF (by omega) ?_ | refine condBT (by omega) ?_ | refine condBF (by omega) ?_ | refine condNT (by omega) ?_ | refine condNF (by omega) ?_)
      refine ev_keep [6, 7, 8, 3] [] ?_
      rw [show a + (↑x.as.length + lenS r) = (a + ((x.as.map encI).length : Int)) + lenS r from by rw [hasl]; omega]
      exact len_loop49 l hl r (done ++ [x]) _ _ _ (n + 1) _ (by simp [e]) (by simp [hn]) (by omega) (by omega)
    · have hk := h
      repeat (first | refine Exists.intro _ (And.intro (unA_neg_i64 (by omega) (by omega)) ?_) | refine Exists.intro _ (And.intro (binA_quo_i64 (by omega) (by omega) (by omega)) ?_) | refine Exists.intro _ (And.intro (binA_rem_i64 (by omega) (by omega)) ?_) | refine Exists.intro _ (And.intro (binA_sub_i64 (by omega) (by omega)) ?_) | refine Exists.intro _ (And.intro (binA_add_i64 (by omega) (by omega)) ?_) | refine Exists.intro _ (And.intro (conv_i64 (by omega) (by omega)) ?_) | refine Exists.intro _ (And.intro rfl ?_) | refine And.intro rfl ?_ | refine condT ?_ | refine condF ?_ | refine condG1 ?_ | refine condG0 ?_ | refine condDT (by omega) ?_ | refine condDF (by omega) ?_ | refine condBT (by omega) ?_ | refine condBF (by omega) ?_ | refine condNT (by omega) ?_ | refine condNF (by omega) ?_)
      refine condB (fun h => ?_) (fun h => ?_)
      · have hs : lenS (x :: r) = 1 + lenS r := by simp [lenS, h]
        rw [hs] at hb ⊢
        repeat (first | refine Exists.intro _ (And.intro (unA_neg_i64 (by omega) (by omega)) ?_) | refine Exists.intro _ (And.intro (binA_quo_i64 (by omega) (by omega) (by omega)) ?_) | refine Exists.intro _ (And.intro (binA_rem_i64 (by omega) (by omega)) ?_) | refine Exists.intro _ (And.intro (binA_sub_i64 (by omega) (by omega)) ?_) | refine Exists.intro _ (And.intro (binA_add_i64 (by omega) (by omega)) ?_) | refine Exists.intro _ (And.intro (conv_i64 (by omega) (by omega)) ?_) | refine Exists.intro _ (And.intro rfl ?_) | refine And.intro rfl ?_ | refine condT ?_ | refine condF ?_ | refine condG1 ?_ | refine condG0 ?_ | refine condDT (by omega) ?_ | refine condDF (by omega) ?_ | refine condBT (by omega) ?_ | refine condBF (by omega) ?_ | refine condNT (by omega) ?_ | refine condNF (by omega) ?_)
        refine ev_keep [6, 7, 8, 3] [] ?_
        rw [show a + (1 + lenS r) = (a + 1) + lenS r from by omega]
        exact len_loop49 l hl r (done ++ [x]) _ _ _ (n + 1) _ (by simp [e]) (by simp [hn]) (by omega) (by omega)
      · have hs : lenS (x :: r) = lenS r := by simp [lenS, h, hk]
        rw [hs] at hb ⊢
        repeat (first | refine Exists.intro _ (And.intro (unA_neg_i64 (by omega) (by omega)) ?_) | refine Exists.intro _ (And.intro (binA_quo_i64 (by omega) (by omega) (by omega)) ?_) | refine Exists.intro _ (And.intro (binA_rem_i64 (by omega) (by omega)) ?_) | refine Exists.intro _ (And.intro (binA_sub_i64 (by omega) (by omega)) ?_) | refine Exists.intro _ (And.intro (binA_add_i64 (by omega) (by omega)) ?_) | refine Exists.intro _ (And.intro (conv_i64 (by omega) (by omega)) ?_) | refine Exists.intro _ (And.intro rfl ?_) | refine And.intro rfl ?_ | refine condT ?_ | refine condF ?_ | refine condG1 ?_ | refine condG0 ?_ | refine condDT (by omega) ?_ | refine condDF (by omega) ?_ | refine condBT (by omega) ?_ | refine condBF (by omega) ?_ | refine condNT (by omega) ?_ | refine condNF (by omega) ?_)
        refine ev_keep [6, 7, 8, 3] [] ?_
        exact len_loop49 l hl r (done ++ [x]) _ _ _ (n + 1) _ (by simp [e]) (by simp [hn]) (by omega) (by omega)
theorem len_gives49 (l : List Seg) (hl : l.length < 2 ^ 62) (hb : lenS l < 2 ^ 62) : Gives G 49 [.sl 2 (l.map Seg.enc)] [] ⟨.int .i64 (lenS l), []⟩ := by
  refine gives_code (F := f49) rfl rfl (W_ok 40 _ _ _ _ ?_)
  repeat (first | refine Exists.intro _ (And.intro (unA_neg_i64 (by omega) (by omega)) ?_) | refine Exists.intro _ (And.intro (binA_quo_i64 (by omega) (by omega) (by omega)) ?_) | refine Exists.intro _ (And.intro (binA_rem_i64 (by omega) (by omega)) ?_) | refine Exists.intro _ (And.intro (binA_sub_i64 (by omega) (by omega)) ?_) | refine Exists.intro _ (And.intro (binA_add_i64 (by omega) (by omega)) ?_) | refine Exists.intro _ (And.intro (conv_i64 (by omega) (by omega)) ?_) | refine Exists.intro _ (And.intro rfl ?_) | refine And.intro rfl ?_ | refine condT ?_ | refine condF ?_ | refine condG1 ?_ | refine condG0 ?_ | refine condDT (by omega) ?_ | refine condDF (by omega) ?_ | refine condBT (by omega) ?_ | refine condBF (by omega) ?_ | refine condNT (by omega) ?_ | refine condNF (by omega) ?_)
  refine ev_keep [6, 7, 8, 3] [] ?_
  have key := len_loop49 l hl l []
  simp only [List.length_map]
  rw [show lenS l = 0 + lenS l from by omega]
  exact key _ _ _ 0 0 rfl rfl (by omega) (by omega)
end Go.AM.IR
namespace Go.AM.IR
def findCost : List IGP → Int → Int × Bool
  | [], _ => (0, false)
  | c :: r, a => if c.addr = a then (c.cost, true) else findCost r a
def costS (cs : List IGP) (x : PVRoute) : Int × Bool := if x.peer = -1 then (0, true) else findCost cs x.attrs.nextHop
def firstS : List Seg → Int × Bool
  | [] => (0, false)
  | s :: r => if s.kind = 2 then (match s.as with
    | [] => (0, false)
    | x :: _ => (x, true)) else firstS r

theorem cost_loop9 (cs : List IGP) (x : PVRoute) (hl : cs.length < 2 ^ 62) : ∀ (rest done : List IGP) (T : List (Nat × AV)) (H : Heap) (c g : Nat) (n : Int) (e : cs = done ++ rest) (hn : n = done.length),
   Ev G ⟨[.inLoop f9x9L, .inBlock 0, .code (.seq (.region f9x10 false) .ret)], ⟨(11, .sl 2 (cs.map IGP.enc)) :: (12, .int .i64 cs.length) :: (13, .int .i64 n) :: (3, .ref 67 g 0) :: T, (67, some (g, .cells x.enc)) :: H, c⟩, [.t 4, .t 5], 0⟩ ⟨.tup [.int .i64 (findCost rest x.attrs.nextHop).1, .bool (findCost rest x.attrs.nextHop).2], []⟩
  | [], done, T, H, c, g, n, e, hn => by
    have hd : cs.length = done.length := by simp [e]
    refine ev_loop' (W_ok 200 _ _ _ _ ?_)
    repeat (first | refine Exists.intro _ (And.intro (unA_neg_i64 (by omega) (by omega)) ?_) | refine Exists.intro _ (And.intro (binA_quo_i64 (by omega) (by omega) (by omega)) ?_) | refine Exists.intro _ (And.intro (binA_rem_i64 (by omega) (by omega)) ?_) | refine Exists.intro _ (And.intro (binA_sub_i64 (by omega) (by omega)) ?_) | refine Exists.intro _ (And.intro (binA_add_i64 (by omega) (by omega)) ?_) | refine Exists.intro _ (And.intro (conv_i64 (by omega) (by omega)) ?_) | refine Exists.intro _ (And.intro rfl ?_) | refine And.intro rfl ?_ | refine condT ?_ | refine condF ?_ | refine condG1 ?_ | refine condG0 ?_ | refine condDT (by omega) ?_ | refine condDF (by omega) ?_ | refine condBT (by omega) ?_ | refine condBF (by omega) ?_ | refine condNT (by omega) ?_ | refine condNF (by omega) ?_)
    rfl
  | y :: r, done, T, H, c, g, n, e, hn => by
    have hd : cs.length = done.length + (r.length + 1) := by simp [e]
    have hx : (cs.map IGP.enc)[n.toNat]? = some y.enc := by simp [e, hn]
    refine ev_loop' (W_ok 200 _ _ _ _ ?_)
    repeat (first | refine Exists.intro _ (And.intro (unA_neg_i64 (by omega) (by omega)) ?_) | refine Exists.intro _ (And.intro (binA_quo_i64 (by omega) (by omega) (by omega)) ?_) | refine Exists.intro _ (And.intro (binA_rem_i64 (by omega) (by omega)) ?_) | refine Exists.intro _ (And.intro (binA_sub_i64 (by omega) (by omega)) ?_) | refine Exists.intro _ (And.intro (binA_add_i64 (by omega) (by omega)) ?_) | refine Exists.intro _ (And.intro (conv_i64 (by omega) (by omega)) ?_) | refine Exists.intro _ (And.intro rfl ?_) | refine And.intro rfl ?_ | refine condT ?_ | refine condF ?_ | refine condG1 ?_ | refine condG0 ?_ | refine condDT (by omega) ?_ | refine condDF (by omega) ?_ | refine condBT (by omega) ?_ | refine condBF (by omega) ?_ | refine condNT (by omega) ?_ | refine condNF (by omega) ?_)
    refine And.intro (by omega) ?_
    refine Exists.intro y.enc (And.intro hx ?_)
    repeat (first | refine Exists.intro _ (And.intro (unA_neg_i64 (by omega) (by omega)) ?_) | refine Exists.intro _ (And.intro (binA_quo_i64 (by omega) (by omega) (by omega)) ?_) | refine Exists.intro _ (And.intro (binA_rem_i64 (by omega) (by omega)) ?_) | refine Exists.intro _ (And.intro (binA_sub_i64 (by omega) (by omega)) ?_) | refine Exists.intro _ (And.intro (binA_add_i64 (by omega) (by omega)) ?_) | refine Exists.intro _ (And.intro (conv_i64 (by omega) (by omega)) ?_) | refine Exists.intro _ (And.intro rfl ?_) | refine And.intro rfl ?_ | refine condT ?_ | refine condF ?_ | refine condG1 ?_ | refine condG0 ?_ | refine condDT (by omega) ?_ | refine condDF (by omega) ?_ | refine condBT (by omega) ?_ | refine condBF (by omega) ?_ | refine condNT (by omega) ?_ | refine condNF (by omega) ?_)
    refine condB (fun h => ?_) (fun h => ?_)
    · rw [show findCost (y :: r) x.attrs.nextHop = (y.cost, true) from by simp [findCost, h]]
      repeat (first | refine Exists.intro _ (And.intro (unA_neg_i64 (by omega) (by omega)) ?_) | refine Exists.intro _ (And.intro (binA_quo_i64 (by omega) (by omega) (by omega)) ?_) | refine Exists.intro _ (And.intro (binA_rem_i64 (by omega) (by omega)) ?_) | refine Exists.intro _ (And.intro (binA_sub_i64 (by omega) (by omega)) ?_) | refine Exists.intro _ (And.intro (binA_add_i64 (by omega) (by omega)) ?_) | refine Exists.intro _ (And.intro (conv_i64 (by omega) (by omega)) ?_) | refine Exists.intro _ (And.intro rfl ?_) | refine And.intro rfl ?_ | refine condT ?_ | refine condF ?_ | refine condG1 ?_ | refine condG0 ?_ | refine condDT (by omega) ?_ | refine condDF (by omega) ?_ | refine condBT (by omega) ?_ | refine condBF (by omega) ?_ | refine condNT (by omega) ?_ | refine condNF (by omega) ?_)
      rfl
    · rw [show findCost (y :: r) x.attrs.nextHop = findCost r x.attrs.nextHop from by simp [findCost, h]]
      repeat (first | refine Exists.intro _ (And.intro (unA_neg_i64 (by omega) (by omega)) ?_) | refine Exists.intro _ (And.intro (binA_quo_i64 (by omega) (by omega) (by omega)) ?_) | refine Exists.intro _ (And.intro (binA_rem_i64 (by omega) (by omega)) ?_) | refine Exists.intro _ (And.intro (binA_sub_i64 (by omega) (by omega)) ?_) | refine Exists.intro _ (And.intro (binA_add_i64 (by omega) (by omega)) ?_) | refine Exists.intro _ (And.intro (conv_i64 (by omega) (by omega)) ?_) | refine Exists.intro _ (And.intro rfl ?_) | refine And.intro rfl ?_ | refine condT ?_ | refine condF ?_ | refine condG1 ?_ | refine condG0 ?_ | refine condDT (by omega) ?_ | refine condDF (by omega) ?_ | refine condBT (by omega) ?_ | refine condBF (by omega) ?_ | refine condNT (by omega) ?_ | refine condNF (by omega) ?_)
      refine ev_keep [11, 12, 13, 3] [67] ?_
      exact cost_loop9 cs x hl r (done ++ [y]) _ _ _ _ (n + 1) (by simp [e]) (by simp [hn])
theorem cost_gives9 (cs : List IGP) (x : PVRoute) (hl : cs.length < 2 ^ 62) : Gives G 9 [.sl 2 (cs.map IGP.enc), .agg x.enc] [] ⟨.tup [.int .i64 (costS cs x).1, .bool (costS cs x).2], []⟩ := by
  refine gives_code (F := f9) rfl rfl (W_ok 60 _ _ _ _ ?_)
  repeat (first | refine Exists.intro _ (And.intro (unA_neg_i64 (by omega) (by omega)) ?_) | refine Exists.intro _ (And.intro (binA_quo_i64 (by omega) (by omega) (by omega)) ?_) | refine Exists.intro _ (And.intro (binA_rem_i64 (by omega) (by omega)) ?_) | refine Exists.intro _ (And.intro (binA_sub_i64 (by omega) (by omega)) ?_) | refine Exists.intro _ (And.intro (binA_add_i64 (by omega) (by omega)) ?_) | refine Exists.intro _ (And.intro (conv_i64 (by omega) (by omega)) ?_) | refine Exists.intro _ (And.intro rfl ?_) | refine And.intro rfl ?_ | refine condT ?_ | refine condF ?_ | refine condG1 ?_ | refine condG0 ?_ | refine condDT (by omega) ?_ | refine condDF (by omega) ?_ | refine condBT (by omega) ?_ | refine condBF (by omega) ?_ | refine condNT (by omega) ?_ | refine condNF (by omega) ?_)
  refine condB (fun h => ?_) (fun h => ?_)
  · rw [show costS cs x = (0, true) from by simp [costS, h]]
    repeat (first | refine Exists.intro _ (And.intro (unA_neg_i64 (by omega) (by omega)) ?_) | refine Exists.intro _ (And.intro (binA_quo_i64 (by omega) (by omega) (by omega)) ?_) | refine Exists.intro _ (And.intro (binA_rem_i64 (by omega) (by omega)) ?_) | refine Exists.intro _ (And.intro (binA_sub_i64 (by omega) (by omega)) ?_) | refine Exists.intro _ (And.intro (binA_add_i64 (by omega) (by omega)) ?_) | refine Exists.intro _ (And.intro (conv_i64 (by omega) (by omega)) ?_) | refine Exists.intro _ (And.intro rfl ?_) | refine And.intro rfl ?_ | refine condT ?_ | refine condF ?_ | refine condG1 ?_ | refine condG0 ?_ | refine condDT (by omega) ?_ | refine condDF (by omega) ?_ | refine condBT (by omega) ?_ | refine condBF (by omega) ?_ | refine condNT (by omega) ?_ | refine condNF (by omega) ?_)
    rfl
  · rw [show costS cs x = findCost cs x.attrs.nextHop from by simp [costS, h]]
    repeat (first | refine Exists.intro _ (And.intro (unA_neg_i64 (by omega) (by omega)) ?_) | refine Exists.intro _ (And.intro (binA_quo_i64 (by omega) (by omega) (by omega)) ?_) | refine Exists.intro _ (And.intro (binA_rem_i64 (by omega) (by omega)) ?_) | refine Exists.intro _ (And.intro (binA_sub_i64 (by omega) (by omega)) ?_) | refine Exists.intro _ (And.intro (binA_add_i64 (by omega) (by omega)) ?_) | refine Exists.intro _ (And.intro (conv_i64 (by omega) (by omega)) ?_) | refine Exists.intro _ (And.intro rfl ?_) | refine And.intro rfl ?_ | refine condT ?_ | refine condF ?_ | refine condG1 ?_ | refine condG0 ?_ | refine condDT (by omega) ?_ | refine condDF (by omega) ?_ | refine condBT (by omega) ?_ | refine condBF (by omega) ?_ | refine condNT (by omega) ?_ | refine condNF (by omega) ?_)
    refine ev_keep [11, 12, 13, 3] [67] ?_
    have key := cost_loop9 cs x hl cs []
    simp only [List.length_map]
    exact key _ _ _ _ 0 rfl rfl

theorem cost_loop10 (cs : List IGP) (x : PVRoute) (hl : cs.length < 2 ^ 62) : ∀ (rest done : List IGP) (T : List (Nat × AV)) (H : Heap) (c g : Nat) (n : Int) (e : cs = done ++ rest) (hn : n = done.length),
   Ev G ⟨[.inLoop f10x9L, .inBlock 0, .code (.seq (.region f10x10 false) .ret)], ⟨(11, .sl 2 (cs.map IGP.enc)) :: (12, .int .i64 cs.length) :: (13, .int .i64 n) :: (3, .ref 67 g 0) :: T, (67, some (g, .cells x.enc)) :: H, c⟩, [.t 4, .t 5], 0⟩ ⟨.tup [.int .i64 (findCost rest x.attrs.nextHop).1, .bool (findCost rest x.attrs.nextHop).2], []⟩
  | [], done, T, H, c, g, n, e, hn => by
    have hd : cs.length = done.length := by simp [e]
    refine ev_loop' (W_ok 200 _ _ _ _ ?_)
    repeat (first | refine Exists.intro _ (And.intro (unA_neg_i64 (by omega) (by omega)) ?_) | refine Exists.intro _ (And.intro (binA_quo_i64 (by omega) (by omega) (by omega)) ?_) | refine Exists.intro _ (And.intro (binA_rem_i64 (by omega) (by omega)) ?_) | refine Exists.intro _ (And.intro (binA_sub_i64 (by omega) (by omega)) ?_) | refine Exists.intro _ (And.intro (binA_add_i64 (by omega) (by omega)) ?_) | refine Exists.intro _ (And.intro (conv_i64 (by omega) (by omega)) ?_) | refine Exists.intro _ (And.intro rfl ?_) | refine And.intro rfl ?_ | refine condT ?_ | refine condF ?_ | refine condG1 ?_ | refine condG0 ?_ | refine condDT (by omega) ?_ | refine condDF (by omega) ?_ | refine condBT (by omega) ?_ | refine condBF (by omega) ?_ | refine condNT (by omega) ?_ | refine condNF (by omega) ?_)
    rfl
  | y :: r, done, T, H, c, g, n, e, hn => by
    have hd : cs.length = done.length + (r.length + 1) := by simp [e]
    have hx : (cs.map IGP.enc)[n.toNat]? = some y.enc := by simp [e, hn]
    refine ev_loop' (W_ok 200 _ _ _ _ ?_)
    repeat (first | refine Exists.intro _ (And.intro (unA_neg_i64 (by omega) (by omega)) ?_) | refine Exists.intro _ (And.intro (binA_quo_i64 (by omega) (by omega) (by omega)) ?_) | refine Exists.intro _ (And.intro (binA_rem_i64 (by omega) (by omega)) ?_) | refine Exists.intro _ (And.intro (binA_sub_i64 (by omega) (by omega)) ?_) | refine Exists.intro _ (And.intro (binA_add_i64 (by omega) (by omega)) ?_) | refine Exists.intro _ (And.intro (conv_i64 (by omega) (by omega)) ?_) | refine Exists.intro _ (And.intro rfl ?_) | refine And.intro rfl ?_ | refine condT ?_ | refine condF ?_ | refine condG1 ?_ | refine condG0 ?_ | refine condDT (by omega) ?_ | refine condDF (by omega) ?_ | refine condBT (by omega) ?_ | refine condBF (by omega) ?_ | refine condNT (by omega) ?_ | refine condNF (by omega) ?_)
    refine And.intro (by omega) ?_
    refine Exists.intro y.enc (And.intro hx ?_)
    repeat (first | refine Exists.intro _ (And.intro (unA_neg_i64 (by omega) (by omega)) ?_) | refine Exists.intro _ (And.intro (binA_quo_i64 (by omega) (by omega) (by omega)) ?_) | refine Exists.intro _ (And.intro (binA_rem_i64 (by omega) (by omega)) ?_) | refine Exists.intro _ (And.intro (binA_sub_i64 (by omega) (by omega)) ?_) | refine Exists.intro _ (And.intro (binA_add_i64 (by omega) (by omega)) ?_) | refine Exists.intro _ (And.intro (conv_i64 (by omega) (by omega)) ?_) | refine Exists.intro _ (And.intro rfl ?_) | refine And.intro rfl ?_ | refine condT ?_ | refine condF ?_ | refine condG1 ?_ | refine condG0 ?_ | refine condDT (by omega) ?_ | refine condDF (by omega) ?_ | refine condBT (by omega) ?_ | refine condBF (by omega) ?_ | refine condNT (by omega) ?_ | refine condNF (by omega) ?_)
    refine condB (fun h => ?_) (fun h => ?_)
    · rw [show findCost (y :: r) x.attrs.nextHop = (y.cost, true) from by simp [findCost, h]]
      repeat (first | refine Exists.intro _ (And.intro (unA_neg_i64 (by omega) (by omega)) ?_) | refine Exists.intro _ (And.intro (binA_quo_i64 (by omega) (by omega) (by omega)) ?_) | refine Exists.intro _ (And.intro (binA_rem_i64 (by omega) (by omega)) ?_) | refine Exists.intro _ (And.intro (binA_sub_i64 (by omega) (by omega)) ?_) | refine Exists.intro _ (And.intro (binA_add_i64 (by omega) (by omega)) ?_) | refine Exists.intro _ (And.intro (conv_i64 (by omega) (by omega)) ?_) | refine Exists.intro _ (And.intro rfl ?_) | refine And.intro rfl ?_ | refine condT ?_ | refine condF ?_ | refine condG1 ?_ | refine condG0 ?_ | refine condDT (by omega) ?_ | refine condDF (by omega) ?_ | refine condBT (by omega) ?_ | refine condBF (by omega) ?_ | refine condNT (by omega) ?_ | refine condNF (by omega) ?_)
      rfl
    · rw [show findCost (y :: r) x.attrs.nextHop = findCost r x.attrs.nextHop from by simp [findCost, h]]
      repeat (first | refine Exists.intro _ (And.intro (unA_neg_i64 (by omega) (by omega)) ?_) | refine Exists.intro _ (And.intro (binA_quo_i64 (by omega) (by omega) (by omega)) ?_) | refine Exists.intro _ (And.intro (binA_rem_i64 (by omega) (by omega)) ?_) | refine Exists.intro _ (And.intro (binA_sub_i64 (by omega) (by omega)) ?_) | refine Exists.intro _ (And.intro (binA_add_i64 (by omega) (by omega)) ?_) | refine Exists.intro _ (And.intro (conv_i64 (by omega) (by omega)) ?_) | refine Exists.intro _ (And.intro rfl ?_) | refine And.intro rfl ?_ | refine condT ?_ | refine condF ?_ | refine condG1 ?_ | refine condG0 ?_ | refine condDT (by omega) ?_ | refine condDF (by omega) ?_ | refine condBT (by omega) ?_ | refine condBF (by omega) ?_ | refine condNT (by omega) ?_ | refine condNF (by omega) ?_)
      refine ev_keep [11, 12, 13, 3] [67] ?_
      exact cost_loop10 cs x hl r (done ++ [y]) _ _ _ _ (n + 1) (by simp [e]) (by simp [hn])
theorem cost_gives10 (cs : List IGP) (x : PVRoute) (hl : cs.length < 2 ^ 62) : Gives G 10 [.sl 2 (cs.map IGP.enc), .agg x.enc] [] ⟨.tup [.int .i64 (costS cs x).1, .bool (costS cs x).2], []⟩ := by
  refine gives_code (F := f10) rfl rfl (W_ok 60 _ _ _ _ ?_)
  repeat (first | refine Exists.intro _ (And.intro (unA_neg_i64 (by omega) (by omega)) ?_) | refine Exists.intro _ (And.intro (binA_quo_i64 (by omega) (by omega) (by omega)) ?_) | refine Exists.intro _ (And.intro (binA_rem_i64 (by omega) (by omega)) ?_) | refine Exists.intro _ (And.intro (binA_sub_i64 (by omega) (by omega)) ?_) | refine Exists.intro _ (And.intro (binA_add_i64 (by omega) (by omega)) ?_) | refine Exists.intro _ (And.intro (conv_i64 (by omega) (by omega)) ?_) | refine Exists.intro _ (And.intro rfl ?_) | refine And.intro rfl ?_ | refine condT ?_ | refine condF ?_ | refine condG1 ?_ | refine condG0 ?_ | refine condDT (by omega) ?_ | refine condDF (by omega) ?_ | refine condBT (by omega) ?_ | refine condBF (by omega) ?_ | refine condNT (by omega) ?_ | refine condNF (by omega) ?_)
  refine condB (fun h => ?_) (fun h => ?_)
  · rw [show costS cs x = (0, true) from by simp [costS, h]]
    repeat (first | refine Exists.intro _ (And.intro (unA_neg_i64 (by omega) (by omega)) ?_) | refine Exists.intro _ (And.intro (binA_quo_i64 (by omega) (by omega) (by omega)) ?_) | refine Exists.intro _ (And.intro (binA_rem_i64 (by omega) (by omega)) ?_) | refine Exists.intro _ (And.intro (binA_sub_i64 (by omega) (by omega)) ?_) | refine Exists.intro _ (And.intro (binA_add_i64 (by omega) (by omega)) ?_) | refine Exists.intro _ (And.intro (conv_i64 (by omega) (by omega)) ?_) | refine Exists.intro _ (And.intro rfl ?_) | refine And.intro rfl ?_ | refine condT ?_ | refine condF ?_ | refine condG1 ?_ | refine condG0 ?_ | refine condDT (by omega) ?_ | refine condDF (by omega) ?_ | refine condBT (by omega) ?_ | refine condBF (by omega) ?_ | refine condNT (by omega) ?_ | refine condNF (by omega) ?_)
    rfl
  · rw [show costS cs x = findCost cs x.attrs.nextHop from by simp [costS, h]]
    repeat (first | refine Exists.intro _ (And.intro (unA_neg_i64 (by omega) (by omega)) ?_) | refine Exists.intro _ (And.intro (binA_quo_i64 (by omega) (by omega) (by omega)) ?_) | refine Exists.intro _ (And.intro (binA_rem_i64 (by omega) (by omega)) ?_) | refine Exists.intro _ (And.intro (binA_sub_i64 (by omega) (by omega)) ?_) | refine Exists.intro _ (And.intro (binA_add_i64 (by omega) (by omega)) ?_) | refine Exists.intro _ (And.intro (conv_i64 (by omega) (by omega)) ?_) | refine Exists.intro _ (And.intro rfl ?_) | refine And.intro rfl ?_ | refine condT ?_ | refine condF ?_ | refine condG1 ?_ | refine condG0 ?_ | refine condDT (by omega) ?_ | refine condDF (by omega) ?_ | refine condBT (by omega) ?_ | refine condBF (by omega) ?_ | refine condNT (by omega) ?_ | refine condNF (by omega) ?_)
    refine ev_keep [11, 12, 13, 3] [67] ?_
    have key := cost_loop10 cs x hl cs []
    simp only [List.length_map]
    exact key _ _ _ _ 0 rfl rfl
theorem first_loop53 (l : List Seg) (hl : l.length < 2 ^ 62) : ∀ (rest done : List Seg) (T : List (Nat × AV)) (H : Heap) (c : Nat) (n : Int) (e : l = done ++ rest) (hn : n = done.length),
   Ev G ⟨[.inLoop f53x9L, .inBlock 0, .code (.seq (.region f53x10 false) .ret)], ⟨(6, .sl 2 (l.map Seg.enc)) :: (7, .int .i64 l.length) :: (8, .int .i64 n) :: T, H, c⟩, [.t 2, .t 3], 0⟩ ⟨.tup [.int .i64 (firstS rest).1, .bool (firstS rest).2], []⟩
  | [], done, T, H, c, n, e, hn => by
    have hd : l.length = done.length := by simp [e]
    refine ev_loop' (W_ok 200 _ _ _ _ ?_)
    repeat (first | refine Exists.intro _ (And.intro (unA_neg_i64 (by omega) (by omega)) ?_) | refine Exists.intro _ (And.intro (binA_quo_i64 (by omega) (by omega) (by omega)) ?_) | refine Exists.intro _ (And.intro (binA_rem_i64 (by omega) (by omega)) ?_) | refine Exists.intro _ (And.intro (binA_sub_i64 (by omega) (by omega)) ?_) | refine Exists.intro _ (And.intro (binA_add_i64 (by omega) (by omega)) ?_) | refine Exists.intro _ (And.intro (conv_i64 (by omega) (by omega)) ?_) | refine Exists.intro _ (And.intro rfl ?_) | refine And.intro rfl ?_ | refine condT ?_ | refine condF ?_ | refine condG1 ?_ | refine condG0 ?_ | refine condDT (by omega) ?_ | refine condDF (by omega) ?_ | refine condBT (by omega) ?_ | refine condBF (by omega) ?_ | refine condNT (by omega) ?_ | refine condNF (by omega) ?_)
    rfl
  | x :: r, done, T, H, c, n, e, hn => by
    have hd : l.length = done.length + (r.length + 1) := by simp [e]
    have hx : (l.map Seg.enc)[n.toNat]? = some x.enc := by simp [e, hn]
    refine ev_loop' (W_ok 200 _ _ _ _ ?_)
    repeat (first | refine Exists.intro _ (And.intro (unA_neg_i64 (by omega) (by omega)) ?_) | refine Exists.intro _ (And.intro (binA_quo_i64 (by omega) (by omega) (by omega)) ?_) | refine Exists.intro _ (And.intro (binA_rem_i64 (by omega) (by omega)) ?_) | refine Exists.intro _ (And.intro (binA_sub_i64 (by omega) (by omega)) ?_) | refine Exists.intro _ (And.intro (binA_add_i64 (by omega) (by omega)) ?_) | refine Exists.intro _ (And.intro (conv_i64 (by omega) (by omega)) ?_) | refine Exists.intro _ (And.intro rfl ?_) | refine And.intro rfl ?_ | refine condT ?_ | refine condF ?_ | refine condG1 ?_ | refine condG0 ?_ | refine condDT (by omega) ?_ | refine condDF (by omega) ?_ | refine condBT (by omega) ?_ | refine condBF (by omega) ?_ | refine condNT (by omega) ?_ | refine condNF (by omega) ?_)
    refine And.intro (by omega) ?_
    refine Exists.intro x.enc (And.intro hx ?_)
    repeat (first | refine Exists.intro _ (And.intro (unA_neg_i64 (by omega) (by omega)) ?_) | refine Exists.intro _ (And.intro (binA_quo_i64 (by omega) (by omega) (by omega)) ?_) | refine Exists.intro _ (And.intro (binA_rem_i64 (by omega) (by omega)) ?_) | refine Exists.intro _ (And.intro (binA_sub_i64 (by omega) (by omega)) ?_) | refine Exists.intro _ (And.intro (binA_add_i64 (by omega) (by omega)) ?_) | refine Exists.intro _ (And.intro (conv_i64 (by omega) (by omega)) ?_) | refine Exists.intro _ (And.intro rfl ?_) | refine And.intro rfl ?_ | refine condT ?_ | refine condF ?_ | refine condG1 ?_ | refine condG0 ?_ | refine condDT (by omega) ?_ | refine condDF (by omega) ?_ | refine condBT (by omega) ?_ | refine condBF (by omega) ?_ | refine condNT (by omega) ?_ | refine condNF (by omega) ?_)
    refine condB (fun h => ?_) (fun h => ?_)
    · have hk := h
      repeat (first | refine Exists.intro _ (And.intro (unA_neg_i64 (by omega) (by omega)) ?_) | refine Exists.intro _ (And.intro (binA_quo_i64 (by omega) (by omega) (by omega)) ?_) | refine Exists.intro _ (And.intro (binA_rem_i64 (by omega) (by omega)) ?_) | refine Exists.intro _ (And.intro (binA_sub_i64 (by omega) (by omega)) ?_) | refine Exists.intro _ (And.intro (binA_add_i64 (by omega) (by omega)) ?_) | refine Exists.intro _ (And.intro (conv_i64 (by omega) (by omega)) ?_) | refine Exists.intro _ (And.intro rfl ?_) | refine And.intro rfl ?_ | refine condT ?_ | refine condF ?_ | refine condG1 ?_ | refine condG0 ?_ | refine condDT (by omega) ?_ | refine condDF (by omega) ?_ | refine condBT (by omega) ?_ | refine condBF (by omega) ?_ | refine condNT (by omega) ?_ | refine condNF (by omega) ?_)
      refine condB (fun h => ?_) (fun h => ?_)
      · have ha : x.as = [] := by simpa using h
        rw [show firstS (x :: r) = (0, false) from by simp only [firstS, hk, ha, if_true]]
        repeat (first | refine Exists.intro _ (And.intro (unA_neg_i64 (by omega) (by omega)) ?_) | refine Exists.intro _ (And.intro (binA_quo_i64 (by omega) (by omega) (by omega)) ?_) | refine Exists.intro _ (And.intro (binA_rem_i64 (by omega) (by omega)) ?_) | refine Exists.intro _ (And.intro (binA_sub_i64 (by omega) (by omega)) ?_) | refine Exists.intro _ (And.intro (binA_add_i64 (by omega) (by omega)) ?_) | refine Exists.intro _ (And.intro (conv_i64 (by omega) (by omega)) ?_) | refine Exists.intro _ (And.intro rfl ?_) | refine And.intro rfl ?_ | refine condT ?_ | refine condF ?_ | refine condG1 ?_ | refine condG0 ?_ | refine condDT (by omega) ?_ | refine condDF (by omega) ?_ | refine condBT (by omega) ?_ | refine condBF (by omega) ?_ | refine condNT (by omega) ?_ | refine condNF (by omega) ?_)
        rfl
      · obtain ⟨y, ys, ha⟩ : ∃ y ys, x.as = y :: ys := by
          cases hx : x.as with
          | nil => rw [hx] at h; simp at h
          | cons y ys => exact ⟨y, ys, rfl⟩
        repeat (first | refine Exists.intro _ (And.intro (unA_neg_i64 (by omega) (by omega)) ?_) | refine Exists.intro _ (And.intro (binA_quo_i64 (by omega) (by omega) (by omega)) ?_) | refine Exists.intro _ (And.intro (binA_rem_i64 (by omega) (by omega)) ?_) | refine Exists.intro _ (And.intro (binA_sub_i64 (by omega) (by omega)) ?_) | refine Exists.intro _ (And.intro (binA_add_i64 (by omega) (by omega)) ?_) | refine Exists.intro _ (And.intro (conv_i64 (by omega) (by omega)) ?_) | refine Exists.intro _ (And.intro rfl ?_) | refine And.intro rfl ?_ | refine condT ?_ | refine condF ?_ | refine condG1 ?_ | refine condG0 ?_ | refine condDT (by omega) ?_ | refine condDF (by omega) ?_ | refine condBT (by omega) ?_ | refine condBF (by omega) ?_ | refine condNT (by omega) ?_ | refine condNF (by omega) ?_)
        refine And.intro (by omega) ?_
        refine Exists.intro (encI y) (And.intro (by rw [ha]; rfl) ?_)
        rw [show firstS (x :: r) = (y, true) from by simp only [firstS, hk, ha, if_true]]
        repeat (first | refine Exists.intro _ (And.intro (unA_neg_i64 (by omega) (by omega)) ?_) | refine Exists.intro _ (And.intro (binA_quo_i64 (by omega) (by omega) (by omega)) ?_) | refine Exists.intro _ (And.intro (binA_rem_i64 (by omega) (by omega)) ?_) | refine Exists.intro _ (And.intro (binA_sub_i64 (by omega) (by omega)) ?_) | refine Exists.intro _ (And.intro (binA_add_i64 (by omega) (by omega)) ?_) | refine Exists.intro _ (And.intro (conv_i64 (by omega) (by omega)) ?_) | refine Exists.intro _ (And.intro rfl ?_) | refine And.intro rfl ?_ | refine condT ?_ | refine condF ?_ | refine condG1 ?_ | refine condG0 ?_ | refine condDT (by omega) ?_ | refine condDF (by omega) ?_ | refine condBT (by omega) ?_ | refine condBF (by omega) ?_ | refine condNT (by omega) ?_ | refine condNF (by omega) ?_)
        rfl
    · repeat (first | refine Exists.intro _ (And.intro (unA_neg_i64 (by omega) (by omega)) ?_) | refine Exists.intro _ (And.intro (binA_quo_i64 (by omega) (by omega) (by omega)) ?_) | refine Exists.intro _ (And.intro (binA_rem_i64 (by omega) (by omega)) ?_) | refine Exists.intro _ (And.intro (binA_sub_i64 (by omega) (by omega)) ?_) | refine Exists.intro _ (And.intro (binA_add_i64 (by omega) (by omega)) ?_) | refine Exists.intro _ (And.intro (conv_i64 (by omega) (by omega)) ?_) | refine Exists.intro _ (And.intro rfl ?_) | refine And.intro rfl ?_ | refine condT ?_ | refine condF ?_ | refine condG1 ?_ | refine condG0 ?_ | refine condDT (by omega) ?_ | refine condDF (by omega) ?_ | refine condBT (by omega) ?_ | refine condBF (by omega) ?_ | refine condNT (by omega) ?_ | refine condNF (by omega) ?_)
      refine ev_keep [6, 7, 8] [] ?_
      simp only [firstS, h, if_false]
      exact first_loop53 l hl r (done ++ [x]) _ _ _ (n + 1) (by simp [e]) (by simp [hn])
theorem first_gives53 (l : List Seg) (hl : l.length < 2 ^ 62) : Gives G 53 [.sl 2 (l.map Seg.enc)] [] ⟨.tup [.int .i64 (firstS l).1, .bool (firstS l).2], []⟩ := by
  refine gives_code (F := f53) rfl rfl (W_ok 40 _ _ _ _ ?_)
  repeat (first | refine Exists.intro _ (And.intro (unA_neg_i64 (by omega) (by omega)) ?_) | refine Exists.intro _ (And.intro (binA_quo_i64 (by omega) (by omega) (by omega)) ?_) | refine Exists.intro _ (And.intro (binA_rem_i64 (by omega) (by omega)) ?_) | refine Exists.intro _ (And.intro (binA_sub_i64 (by omega) (by omega)) ?_) | refine Exists.intro _ (And.intro (binA_add_i64 (by omega) (by omega)) ?_) | refine Exists.intro _ (And.intro (conv_i64 (by omega) (by omega)) ?_) | refine Exists.intro _ (And.intro rfl ?_) | refine And.intro rfl ?_ | refine condT ?_ | refine condF ?_ | refine condG1 ?_ | refine condG0 ?_ | refine condDT (by omega) ?_ | refine condDF (by omega) ?_ | refine condBT (by omega) ?_ | refine condBF (by omega) ?_ | refine condNT (by omega) ?_ | refine condNF (by omega) ?_)
  refine ev_keep [6, 7, 8] [] ?_
  have key := first_loop53 l hl l [] 
  simp only [List.length_map]
  exact key _ _ _ 0 rfl rfl
theorem first_loop19 (l : List Seg) (hl : l.length < 2 ^ 62) : ∀ (rest done : List Seg) (T : List (Nat × AV)) (H : Heap) (c : Nat) (n : Int) (e : l = done ++ rest) (hn : n = done.length),
   Ev G ⟨[.inLoop f19x9L, .inBlock 0, .code (.seq (.region f19x10 false) .ret)], ⟨(6, .sl 2 (l.map Seg.enc)) :: (7, .int .i64 l.length) :: (8, .int .i64 n) :: T, H, c⟩, [.t 2, .t 3], 0⟩ ⟨.tup [.int .i64 (firstS rest).1, .bool (firstS rest).2], []⟩
  | [], done, T, H, c, n, e, hn => by
    have hd : l.length = done.length := by simp [e]
    refine ev_loop' (W_ok 200 _ _ _ _ ?_)
    repeat (first | refine Exists.intro _ (And.intro (unA_neg_i64 (by omega) (by omega)) ?_) | refine Exists.intro _ (And.intro (binA_quo_i64 (by omega) (by omega) (by omega)) ?_) | refine Exists.intro _ (And.intro (binA_rem_i64 (by omega) (by omega)) ?_) | refine Exists.intro _ (And.intro (binA_sub_i64 (by omega) (by omega)) ?_) | refine Exists.intro _ (And.intro (binA_add_i64 (by omega) (by omega)) ?_) | refine Exists.intro _ (And.intro (conv_i64 (by omega) (by omega)) ?_) | refine Exists.intro _ (And.intro rfl ?_) | refine And.intro rfl ?_ | refine condT ?_ | refine condF ?_ | refine condG1 ?_ | refine condG0 ?_ | refine condDT (by omega) ?_ | refine condDF (by omega) ?_ | refine condBT (by omega) ?_ | refine condBF (by omega) ?_ | refine condNT (by omega) ?_ | refine condNF (by omega) ?_)
    rfl
  | x :: r, done, T, H, c, n, e, hn => by
    have hd : l.length = done.length + (r.length + 1) := by simp [e]
    have hx : (l.map Seg.enc)[n.toNat]? = some x.enc := by simp [e, hn]
    refine ev_loop' (W_ok 200 _ _ _ _ ?_)
    repeat (first | refine Exists.intro _ (And.intro (unA_neg_i64 (by omega) (by omega)) ?_) | refine Exists.intro _ (And.intro (binA_quo_i64 (by omega) (by omega) (by omega)) ?_) | refine Exists.intro _ (And.intro (binA_rem_i64 (by omega) (by omega)) ?_) | refine Exists.intro _ (And.intro (binA_sub_i64 (by omega) (by omega)) ?_) | refine Exists.intro _ (And.intro (binA_add_i64 (by omega) (by omega)) ?_) | refine Exists.intro _ (And.intro (conv_i64 (by omega) (by omega)) ?_) | refine Exists.intro _ (And.intro rfl ?_) | refine And.intro rfl ?_ | refine condT ?_ | refine condF ?_ | refine condG1 ?_ | refine condG0 ?_ | refine condDT (by omega) ?_ | refine condDF (by omega) ?_ | refine condBT (by omega) ?_ | refine condBF (by omega) ?_ | refine condNT (by omega) ?_ | refine condNF (by omega) ?_)
    refine And.intro (by omega) ?_
    refine Exists.intro x.enc (And.intro hx ?_)
    repeat (first | refine Exists.intro _ (And.intro (unA_neg_i64 (by omega) (by omega)) ?_) | refine Exists.intro _ (And.intro (binA_quo_i64 (by omega) (by omega) (by omega)) ?_) | refine Exists.intro _ (And.intro (binA_rem_i64 (by omega) (by omega)) ?_) | refine Exists.intro _ (And.intro (binA_sub_i64 (by omega) (by omega)) ?_) | refine Exists.intro _ (And.intro (binA_add_i64 (by omega) (by omega)) ?_) | refine Exists.intro _ (And.intro (conv_i64 (by omega) (by omega)) ?_) | refine Exists.intro _ (And.intro rfl ?_) | refine And.intro rfl ?_ | refine condT ?_ | refine condF ?_ | refine condG1 ?_ | refine condG0 ?_ | refine condDT (by omega) ?_ | refine condDF (by omega) ?_ | refine condBT (by omega) ?_ | refine condBF (by omega) ?_ | refine condNT (by omega) ?_ | refine condNF (by omega) ?_)
    refine condB (fun h => ?_) (fun h => ?_)
    · have hk := h
      repeat (first | refine Exists.intro _ (And.intro (unA_neg_i64 (by omega) (by omega)) ?_) | refine Exists.intro _ (And.intro (binA_quo_i64 (by omega) (by omega) (by omega)) ?_) | refine Exists.intro _ (And.intro (binA_rem_i64 (by omega) (by omega)) ?_) | refine Exists.intro _ (And.intro (binA_sub_i64 (by omega) (by omega)) ?_) | refine Exists.intro _ (And.intro (binA_add_i64 (by omega) (by omega)) ?_) | refine Exists.intro _ (And.intro (conv_i64 (by omega) (by omega)) ?_) | refine Exists.intro _ (And.intro rfl ?_) | refine And.intro rfl ?_ | refine condT ?_ | refine condF ?_ | refine condG1 ?_ | refine condG0 ?_ | refine condDT (by omega) ?_ | refine condDF (by omega) ?_ | refine condBT (by omega) ?_ | refine condBF (by omega) ?_ | refine condNT (by omega) ?_ | refine condNF (by omega) ?_)
      refine condB (fun h => ?_) (fun h => ?_)
      · have ha : x.as = [] := by simpa using h
        rw [show firstS (x :: r) = (0, false) from by simp only [firstS, hk, ha, if_true]]
        repeat (first | refine Exists.intro _ (And.intro (unA_neg_i64 (by omega) (by omega)) ?_) | refine Exists.intro _ (And.intro (binA_quo_i64 (by omega) (by omega) (by omega)) ?_) | refine Exists.intro _ (And.intro (binA_rem_i64 (by omega) (by omega)) ?_) | refine Exists.intro _ (And.intro (binA_sub_i64 (by omega) (by omega)) ?_) | refine Exists.intro _ (And.intro (binA_add_i64 (by omega) (by omega)) ?_) | refine Exists.intro _ (And.intro (conv_i64 (by omega) (by omega)) ?_) | refine Exists.intro _ (And.intro rfl ?_) | refine And.intro rfl ?_ | refine condT ?_ | refine condF ?_ | refine condG1 ?_ | refine condG0 ?_ | refine condDT (by omega) ?_ | refine condDF (by omega) ?_ | refine condBT (by omega) ?_ | refine condBF (by omega) ?_ | refine condNT (by omega) ?_ | refine condNF (by omega) ?_)
        rfl
      · obtain ⟨y, ys, ha⟩ : ∃ y ys, x.as = y :: ys := by
          cases hx : x.as with
          | nil => rw [hx] at h; simp at h
          | cons y ys => exact ⟨y, ys, rfl⟩
        repeat (first | refine Exists.intro _ (And.intro (unA_neg_i64 (by omega) (by omega)) ?_) | refine Exists.intro _ (And.intro (binA_quo_i64 (by omega) (by omega) (by omega)) ?_) | refine Exists.intro _ (And.intro (binA_rem_i64 (by omega) (by omega)) ?_) | refine Exists.intro _ (And.intro (binA_sub_i64 (by omega) (by omega)) ?_) | refine Exists.intro _ (And.intro (binA_add_i64 (by omega) (by omega)) ?_) | refine Exists.intro _ (And.intro (conv_i64 (by omega) (by omega)) ?_) | refine Exists.intro _ (And.intro rfl ?_) | refine And.intro rfl ?_ | refine condT ?_ | refine condF ?_ | refine condG1 ?_ | refine condG0 ?_ | refine condDT (by omega) ?_ | refine condDF (by omega) ?_ | refine condBT (by omega) ?_ | refine condBF (by omega) ?_ | refine condNT (by omega) ?_ | refine condNF (by omega) ?_)
        refine And.intro (by omega) ?_
        refine Exists.intro (encI y) (And.intro (by rw [ha]; rfl) ?_)
        rw [show firstS (x :: r) = (y, true) from by simp only [firstS, hk, ha, if_true]]
        repeat (first | refine Exists.intro _ (And.intro (unA_neg_i64 (by omega) (by omega)) ?_) | refine Exists.intro _ (And.intro (binA_quo_i64 (by omega) (by omega) (by omega)) ?_) | refine Exists.intro _ (And.intro (binA_rem_i64 (by omega) (by omega)) ?_) | refine Exists.intro _ (And.intro (binA_sub_i64 (by omega) (by omega)) ?_) | refine Exists.intro _ (And.intro (binA_add_i64 (by omega) (by omega)) ?_) | refine Exists.intro _ (And.intro (conv_i64 (by omega) (by omega)) ?_) | refine Exists.intro _ (And.intro rfl ?_) | refine And.intro rfl ?_ | refine condT ?_ | refine condF ?_ | refine condG1 ?_ | refine condG0 ?_ | refine condDT (by omega) ?_ | refine condDF (by omega) ?_ | refine condBT (by omega) ?_ | refine condBF (by omega) ?_ | refine condNT (by omega) ?_ | refine condNF (by omega) ?_)
        rfl
    · repeat (first | refine Exists.intro _ (And.intro (unA_neg_i64 (by omega) (by omega)) ?_) | refine Exists.intro _ (And.intro (binA_quo_i64 (by omega) (by omega) (by omega)) ?_) | refine Exists.intro _ (And.intro (binA_rem_i64 (by omega) (by omega)) ?_) | refine Exists.intro _ (And.intro (binA_sub_i64 (by omega) (by omega)) ?_) | refine Exists.intro _ (And.intro (binA_add_i64 (by omega) (by omega)) ?_) | refine Exists.intro _ (And.intro (conv_i64 (by omega) (by omega)) ?_) | refine Exists.intro _ (And.intro rfl ?_) | refine And.intro rfl ?_ | refine condT ?_ | refine condF ?_ | refine condG1 ?_ | refine condG0 ?_ | refine condDT (by omega) ?_ | refine condDF (by omega) ?_ | refine condBT (by omega) ?_ | refine condBF (by omega) ?_ | refine condNT (by omega) ?_ | refine condNF (by omega) ?_)
      refine ev_keep [6, 7, 8] [] ?_
      simp only [firstS, h, if_false]
      exact first_loop19 l hl r (done ++ [x]) _ _ _ (n + 1) (by simp [e]) (by simp [hn])
theorem first_gives19 (l : List Seg) (hl : l.length < 2 ^ 62) : Gives G 19 [.sl 2 (l.map Seg.enc)] [] ⟨.tup [.int .i64 (firstS l).1, .bool (firstS l).2], []⟩ := by
  refine gives_code (F := f19) rfl rfl (W_ok 40 _ _ _ _ ?_)
  repeat (first | refine Exists.intro _ (And.intro (unA_neg_i64 (by omega) (by omega)) ?_) | refine Exists.intro _ (And.intro (binA_quo_i64 (by omega) (by omega) (by omega)) ?_) | refine Exists.intro _ (And.intro (binA_rem_i64 (by omega) (by omega)) ?_) | refine Exists.intro _ (And.intro (binA_sub_i64 (by omega) (by omega)) ?_) | refine Exists.intro _ (And.intro (binA_add_i64 (by omega) (by omega)) ?_) | refine Exists.intro _ (And.intro (conv_i64 (by omega) (by omega)) ?_) | refine Exists.intro _ (And.intro rfl ?_) | refine And.intro rfl ?_ | refine condT ?_ | refine condF ?_ | refine condG1 ?_ | refine condG0 ?_ | refine condDT (by omega) ?_ | refine condDF (by omega) ?_ | refine condBT (by omega) ?_ | refine condBF (by omega) ?_ | refine condNT (by omega) ?_ | refine condNF (by omega) ?_)
  refine ev_keep [6, 7, 8] [] ?_
  have key := first_loop19 l hl l [] 
  simp only [List.length_map]
  exact key _ _ _ 0 rfl rfl

def sameFirstS (a b : PVRoute) : Bool := (firstS a.attrs.path).2 && (firstS b.attrs.path).2 && ((firstS a.attrs.path).1 == (firstS b.attrs.path).1)
theorem sameFirst_gives (a b : PVRoute) (ha : a.attrs.path.length < 2 ^ 62) (hb : b.attrs.path.length < 2 ^ 62) : Gives G 36 [.agg a.enc, .agg b.enc] [] ⟨.bool (sameFirstS a b), []⟩ := by
  have e1 := first_gives53 a.attrs.path ha
  have e2 := first_gives53 b.attrs.path hb
  unfold sameFirstS
  generalize firstS a.attrs.path = u at *
  generalize firstS b.attrs.path = v at *
  obtain ⟨x, p⟩ := u
  obtain ⟨y, q⟩ := v
  cases p <;> cases q <;>
  · refine gives_code (F := f36) rfl rfl (W_ok 100 _ _ _ _ ?_)
    repeat (first | refine Exists.intro _ (And.intro (unA_neg_i64 (by omega) (by omega)) ?_) | refine Exists.intro _ (And.intro (binA_quo_i64 (by omega) (by omega) (by omega)) ?_) | refine Exists.intro _ (And.intro (binA_rem_i64 (by omega) (by omega)) ?_) | refine Exists.intro _ (And.intro (binA_sub_i64 (by omega) (by omega)) ?_) | refine Exists.intro _ (And.intro (binA_add_i64 (by omega) (by omega)) ?_) | refine Exists.intro _ (And.intro (conv_i64 (by omega) (by omega)) ?_) | refine Exists.intro _ (And.intro rfl ?_) | refine And.intro rfl ?_ | refine condT ?_ | refine condF ?_ | refine condG1 ?_ | refine condG0 ?_ | refine condDT (by omega) ?_ | refine condDF (by omega) ?_ | refine condBT (by omega) ?_ | refine condBF (by omega) ?_ | refine condNT (by omega) ?_ | refine condNF (by omega) ?_)
    refine callV e1 (by simp [pureL, AV.pure]) (by simp [AV.dry, dryL]) ?_
    repeat (first | refine Exists.intro _ (And.intro (unA_neg_i64 (by omega) (by omega)) ?_) | refine Exists.intro _ (And.intro (binA_quo_i64 (by omega) (by omega) (by omega)) ?_) | refine Exists.intro _ (And.intro (binA_rem_i64 (by omega) (by omega)) ?_) | refine Exists.intro _ (And.intro (binA_sub_i64 (by omega) (by omega)) ?_) | refine Exists.intro _ (And.intro (binA_add_i64 (by omega) (by omega)) ?_) | refine Exists.intro _ (And.intro (conv_i64 (by omega) (by omega)) ?_) | refine Exists.intro _ (And.intro rfl ?_) | refine And.intro rfl ?_ | refine condT ?_ | refine condF ?_ | refine condG1 ?_ | refine condG0 ?_ | refine condDT (by omega) ?_ | refine condDF (by omega) ?_ | refine condBT (by omega) ?_ | refine condBF (by omega) ?_ | refine condNT (by omega) ?_ | refine condNF (by omega) ?_)
    refine callV e2 (by simp [pureL, AV.pure]) (by simp [AV.dry, dryL]) ?_
    repeat (first | refine Exists.intro _ (And.intro (unA_neg_i64 (by omega) (by omega)) ?_) | refine Exists.intro _ (And.intro (binA_quo_i64 (by omega) (by omega) (by omega)) ?_) | refine Exists.intro _ (And.intro (binA_rem_i64 (by omega) (by omega)) ?_) | refine Exists.intro _ (And.intro (binA_sub_i64 (by omega) (by omega)) ?_) | refine Exists.intro _ (And.intro (binA_add_i64 (by omega) (by omega)) ?_) | refine Exists.intro _ (And.intro (conv_i64 (by omega) (by omega)) ?_) | refine Exists.intro _ (And.intro rfl ?_) | refine And.intro rfl ?_ | refine condT ?_ | refine condF ?_ | refine condG1 ?_ | refine condG0 ?_ | refine condDT (by omega) ?_ | refine condDF (by omega) ?_ | refine condBT (by omega) ?_ | refine condBF (by omega) ?_ | refine condNT (by omega) ?_ | refine condNF (by omega) ?_)
    rfl
end Go.AM.IR
namespace Go.AM.IR
def num01 (b : Bool) : Int := if b then 1 else 0
def rule1 (a b : PVRoute) : Int := num01 (b.peer == -1) - num01 (a.peer == -1)
theorem num01_range (b : Bool) : 0 ≤ num01 b ∧ num01 b ≤ 1 := by cases b <;> simp [num01]
theorem rule1_gives (a b : PVRoute) : Gives G 27 [.rp b.enc, .rp a.enc] [] ⟨.int .i64 (rule1 a b), []⟩ := by
  have h1 := num01_range (b.peer == -1)
  have h2 := num01_range (a.peer == -1)
  refine gives_code (F := f27) rfl rfl (W_ok 60 _ _ _ _ ?_)
  repeat (first | refine Exists.intro _ (And.intro (unA_neg_i64 (by omega) (by omega)) ?_) | refine Exists.intro _ (And.intro (binA_quo_i64 (by omega) (by omega) (by omega)) ?_) | refine Exists.intro _ (And.intro (binA_rem_i64 (by omega) (by omega)) ?_) | refine Exists.intro _ (And.intro (binA_sub_i64 (by omega) (by omega)) ?_) | refine Exists.intro _ (And.intro (binA_add_i64 (by omega) (by omega)) ?_) | refine Exists.intro _ (And.intro (conv_i64 (by omega) (by omega)) ?_) | refine Exists.intro _ (And.intro rfl ?_) | refine And.intro rfl ?_ | refine condT ?_ | refine condF ?_ | refine condG1 ?_ | refine condG0 ?_ | refine condDT (by omega) ?_ | refine condDF (by omega) ?_ | refine condBT (by omega) ?_ | refine condBF (by omega) ?_ | refine condNT (by omega) ?_ | refine condNF (by omega) ?_)
  refine callV (number_gives (b.peer == -1)) (by simp [pureL, AV.pure]) (by simp [AV.dry, dryL]) ?_
  repeat (first | refine Exists.intro _ (And.intro (unA_neg_i64 (by omega) (by omega)) ?_) | refine Exists.intro _ (And.intro (binA_quo_i64 (by omega) (by omega) (by omega)) ?_) | refine Exists.intro _ (And.intro (binA_rem_i64 (by omega) (by omega)) ?_) | refine Exists.intro _ (And.intro (binA_sub_i64 (by omega) (by omega)) ?_) | refine Exists.intro _ (And.intro (binA_add_i64 (by omega) (by omega)) ?_) | refine Exists.intro _ (And.intro (conv_i64 (by omega) (by omega)) ?_) | refine Exists.intro _ (And.intro rfl ?_) | refine And.intro rfl ?_ | refine condT ?_ | refine condF ?_ | refine condG1 ?_ | refine condG0 ?_ | refine condDT (by omega) ?_ | refine condDF (by omega) ?_ | refine condBT (by omega) ?_ | refine condBF (by omega) ?_ | refine condNT (by omega) ?_ | refine condNF (by omega) ?_)
  refine callV (number_gives (a.peer == -1)) (by simp [pureL, AV.pure]) (by simp [AV.dry, dryL]) ?_
  repeat (first | refine Exists.intro _ (And.intro (unA_neg_i64 (by omega) (by omega)) ?_) | refine Exists.intro _ (And.intro (binA_quo_i64 (by omega) (by omega) (by omega)) ?_) | refine Exists.intro _ (And.intro (binA_rem_i64 (by omega) (by omega)) ?_) | refine Exists.intro _ (And.intro (binA_sub_i64 (by omega) (by omega)) ?_) | refine Exists.intro _ (And.intro (binA_add_i64 (by omega) (by omega)) ?_) | refine Exists.intro _ (And.intro (conv_i64 (by omega) (by omega)) ?_) | refine Exists.intro _ (And.intro rfl ?_) | refine And.intro rfl ?_ | refine condT ?_ | refine condF ?_ | refine condG1 ?_ | refine condG0 ?_ | refine condDT (by omega) ?_ | refine condDF (by omega) ?_ | refine condBT (by omega) ?_ | refine condBF (by omega) ?_ | refine condNT (by omega) ?_ | refine condNF (by omega) ?_)
  rfl
theorem rule2_gives (a b : PVRoute) : Gives G 29 [.rp b.enc, .rp a.enc] [] ⟨.int .i64 (cmpS (prefS b) (prefS a)), []⟩ := by
  refine gives_code (F := f29) rfl rfl (W_ok 60 _ _ _ _ ?_)
  repeat (first | refine Exists.intro _ (And.intro (unA_neg_i64 (by omega) (by omega)) ?_) | refine Exists.intro _ (And.intro (binA_quo_i64 (by omega) (by omega) (by omega)) ?_) | refine Exists.intro _ (And.intro (binA_rem_i64 (by omega) (by omega)) ?_) | refine Exists.intro _ (And.intro (binA_sub_i64 (by omega) (by omega)) ?_) | refine Exists.intro _ (And.intro (binA_add_i64 (by omega) (by omega)) ?_) | refine Exists.intro _ (And.intro (conv_i64 (by omega) (by omega)) ?_) | refine Exists.intro _ (And.intro rfl ?_) | refine And.intro rfl ?_ | refine condT ?_ | refine condF ?_ | refine condG1 ?_ | refine condG0 ?_ | refine condDT (by omega) ?_ | refine condDF (by omega) ?_ | refine condBT (by omega) ?_ | refine condBF (by omega) ?_ | refine condNT (by omega) ?_ | refine condNF (by omega) ?_)
  refine callV (pref_gives b) (by simp [pureL, AV.pure]) (by simp [AV.dry, dryL]) ?_
  repeat (first | refine Exists.intro _ (And.intro (unA_neg_i64 (by omega) (by omega)) ?_) | refine Exists.intro _ (And.intro (binA_quo_i64 (by omega) (by omega) (by omega)) ?_) | refine Exists.intro _ (And.intro (binA_rem_i64 (by omega) (by omega)) ?_) | refine Exists.intro _ (And.intro (binA_sub_i64 (by omega) (by omega)) ?_) | refine Exists.intro _ (And.intro (binA_add_i64 (by omega) (by omega)) ?_) | refine Exists.intro _ (And.intro (conv_i64 (by omega) (by omega)) ?_) | refine Exists.intro _ (And.intro rfl ?_) | refine And.intro rfl ?_ | refine condT ?_ | refine condF ?_ | refine condG1 ?_ | refine condG0 ?_ | refine condDT (by omega) ?_ | refine condDF (by omega) ?_ | refine condBT (by omega) ?_ | refine condBF (by omega) ?_ | refine condNT (by omega) ?_ | refine condNF (by omega) ?_)
  refine callV (pref_gives a) (by simp [pureL, AV.pure]) (by simp [AV.dry, dryL]) ?_
  repeat (first | refine Exists.intro _ (And.intro (unA_neg_i64 (by omega) (by omega)) ?_) | refine Exists.intro _ (And.intro (binA_quo_i64 (by omega) (by omega) (by omega)) ?_) | refine Exists.intro _ (And.intro (binA_rem_i64 (by omega) (by omega)) ?_) | refine Exists.intro _ (And.intro (binA_sub_i64 (by omega) (by omega)) ?_) | refine Exists.intro _ (And.intro (binA_add_i64 (by omega) (by omega)) ?_) | refine Exists.intro _ (And.intro (conv_i64 (by omega) (by omega)) ?_) | refine Exists.intro _ (And.intro rfl ?_) | refine And.intro rfl ?_ | refine condT ?_ | refine condF ?_ | refine condG1 ?_ | refine condG0 ?_ | refine condDT (by omega) ?_ | refine condDF (by omega) ?_ | refine condBT (by omega) ?_ | refine condBF (by omega) ?_ | refine condNT (by omega) ?_ | refine condNF (by omega) ?_)
  refine callV (cmp_gives (prefS b) (prefS a)) (by simp [pureL, AV.pure]) (by simp [AV.dry, dryL]) ?_
  repeat (first | refine Exists.intro _ (And.intro (unA_neg_i64 (by omega) (by omega)) ?_) | refine Exists.intro _ (And.intro (binA_quo_i64 (by omega) (by omega) (by omega)) ?_) | refine Exists.intro _ (And.intro (binA_rem_i64 (by omega) (by omega)) ?_) | refine Exists.intro _ (And.intro (binA_sub_i64 (by omega) (by omega)) ?_) | refine Exists.intro _ (And.intro (binA_add_i64 (by omega) (by omega)) ?_) | refine Exists.intro _ (And.intro (conv_i64 (by omega) (by omega)) ?_) | refine Exists.intro _ (And.intro rfl ?_) | refine And.intro rfl ?_ | refine condT ?_ | refine condF ?_ | refine condG1 ?_ | refine condG0 ?_ | refine condDT (by omega) ?_ | refine condDF (by omega) ?_ | refine condBT (by omega) ?_ | refine condBF (by omega) ?_ | refine condNT (by omega) ?_ | refine condNF (by omega) ?_)
  rfl
structure RB (r : PVRoute) : Prop where
  path : r.attrs.path.length < 2 ^ 62
  len : lenS r.attrs.path < 2 ^ 62
theorem rule3_gives (a b : PVRoute) (ha : RB a) (hb : RB b) : Gives G 32 [.rp a.enc, .rp b.enc] [] ⟨.int .i64 (cmpS (lenS a.attrs.path) (lenS b.attrs.path)), []⟩ := by
  refine gives_code (F := f32) rfl rfl (W_ok 60 _ _ _ _ ?_)
  repeat (first | refine Exists.intro _ (And.intro (unA_neg_i64 (by omega) (by omega)) ?_) | refine Exists.intro _ (And.intro (binA_quo_i64 (by omega) (by omega) (by omega)) ?_) | refine Exists.intro _ (And.intro (binA_rem_i64 (by omega) (by omega)) ?_) | refine Exists.intro _ (And.intro (binA_sub_i64 (by omega) (by omega)) ?_) | refine Exists.intro _ (And.intro (binA_add_i64 (by omega) (by omega)) ?_) | refine Exists.intro _ (And.intro (conv_i64 (by omega) (by omega)) ?_) | refine Exists.intro _ (And.intro rfl ?_) | refine And.intro rfl ?_ | refine condT ?_ | refine condF ?_ | refine condG1 ?_ | refine condG0 ?_ | refine condDT (by omega) ?_ | refine condDF (by omega) ?_ | refine condBT (by omega) ?_ | refine condBF (by omega) ?_ | refine condNT (by omega) ?_ | refine condNF (by omega) ?_)
  refine callV (len_gives33 a.attrs.path ha.path ha.len) (by simp [pureL, AV.pure]) (by simp [AV.dry, dryL]) ?_
  repeat (first | refine Exists.intro _ (And.intro (unA_neg_i64 (by omega) (by omega)) ?_) | refine Exists.intro _ (And.intro (binA_quo_i64 (by omega) (by omega) (by omega)) ?_) | refine Exists.intro _ (And.intro (binA_rem_i64 (by omega) (by omega)) ?_) | refine Exists.intro _ (And.intro (binA_sub_i64 (by omega) (by omega)) ?_) | refine Exists.intro _ (And.intro (binA_add_i64 (by omega) (by omega)) ?_) | refine Exists.intro _ (And.intro (conv_i64 (by omega) (by omega)) ?_) | refine Exists.intro _ (And.intro rfl ?_) | refine And.intro rfl ?_ | refine condT ?_ | refine condF ?_ | refine condG1 ?_ | refine condG0 ?_ | refine condDT (by omega) ?_ | refine condDF (by omega) ?_ | refine condBT (by omega) ?_ | refine condBF (by omega) ?_ | refine condNT (by omega) ?_ | refine condNF (by omega) ?_)
  refine callV (len_gives33 b.attrs.path hb.path hb.len) (by simp [pureL, AV.pure]) (by simp [AV.dry, dryL]) ?_
  repeat (first | refine Exists.intro _ (And.intro (unA_neg_i64 (by omega) (by omega)) ?_) | refine Exists.intro _ (And.intro (binA_quo_i64 (by omega) (by omega) (by omega)) ?_) | refine Exists.intro _ (And.intro (binA_rem_i64 (by omega) (by omega)) ?_) | refine Exists.intro _ (And.intro (binA_sub_i64 (by omega) (by omega)) ?_) | refine Exists.intro _ (And.intro (binA_add_i64 (by omega) (by omega)) ?_) | refine Exists.intro _ (And.intro (conv_i64 (by omega) (by omega)) ?_) | refine Exists.intro _ (And.intro rfl ?_) | refine And.intro rfl ?_ | refine condT ?_ | refine condF ?_ | refine condG1 ?_ | refine condG0 ?_ | refine condDT (by omega) ?_ | refine condDF (by omega) ?_ | refine condBT (by omega) ?_ | refine condBF (by omega) ?_ | refine condNT (by omega) ?_ | refine condNF (by omega) ?_)
  refine callV (cmp_gives (lenS a.attrs.path) (lenS b.attrs.path)) (by simp [pureL, AV.pure]) (by simp [AV.dry, dryL]) ?_
  repeat (first | refine Exists.intro _ (And.intro (unA_neg_i64 (by omega) (by omega)) ?_) | refine Exists.intro _ (And.intro (binA_quo_i64 (by omega) (by omega) (by omega)) ?_) | refine Exists.intro _ (And.intro (binA_rem_i64 (by omega) (by omega)) ?_) | refine Exists.intro _ (And.intro (binA_sub_i64 (by omega) (by omega)) ?_) | refine Exists.intro _ (And.intro (binA_add_i64 (by omega) (by omega)) ?_) | refine Exists.intro _ (And.intro (conv_i64 (by omega) (by omega)) ?_) | refine Exists.intro _ (And.intro rfl ?_) | refine And.intro rfl ?_ | refine condT ?_ | refine condF ?_ | refine condG1 ?_ | refine condG0 ?_ | refine condDT (by omega) ?_ | refine condDF (by omega) ?_ | refine condBT (by omega) ?_ | refine condBF (by omega) ?_ | refine condNT (by omega) ?_ | refine condNF (by omega) ?_)
  rfl
theorem rule4_gives (a b : PVRoute) : Gives G 34 [.rp a.enc, .rp b.enc] [] ⟨.int .i64 (cmpS a.attrs.origin b.attrs.origin), []⟩ := by
  refine gives_code (F := f34) rfl rfl (W_ok 60 _ _ _ _ ?_)
  repeat (first | refine Exists.intro _ (And.intro (unA_neg_i64 (by omega) (by omega)) ?_) | refine Exists.intro _ (And.intro (binA_quo_i64 (by omega) (by omega) (by omega)) ?_) | refine Exists.intro _ (And.intro (binA_rem_i64 (by omega) (by omega)) ?_) | refine Exists.intro _ (And.intro (binA_sub_i64 (by omega) (by omega)) ?_) | refine Exists.intro _ (And.intro (binA_add_i64 (by omega) (by omega)) ?_) | refine Exists.intro _ (And.intro (conv_i64 (by omega) (by omega)) ?_) | refine Exists.intro _ (And.intro rfl ?_) | refine And.intro rfl ?_ | refine condT ?_ | refine condF ?_ | refine condG1 ?_ | refine condG0 ?_ | refine condDT (by omega) ?_ | refine condDF (by omega) ?_ | refine condBT (by omega) ?_ | refine condBF (by omega) ?_ | refine condNT (by omega) ?_ | refine condNF (by omega) ?_)
  refine callV (cmp_gives a.attrs.origin b.attrs.origin) (by simp [pureL, AV.pure]) (by simp [AV.dry, dryL]) ?_
  repeat (first | refine Exists.intro _ (And.intro (unA_neg_i64 (by omega) (by omega)) ?_) | refine Exists.intro _ (And.intro (binA_quo_i64 (by omega) (by omega) (by omega)) ?_) | refine Exists.intro _ (And.intro (binA_rem_i64 (by omega) (by omega)) ?_) | refine Exists.intro _ (And.intro (binA_sub_i64 (by omega) (by omega)) ?_) | refine Exists.intro _ (And.intro (binA_add_i64 (by omega) (by omega)) ?_) | refine Exists.intro _ (And.intro (conv_i64 (by omega) (by omega)) ?_) | refine Exists.intro _ (And.intro rfl ?_) | refine And.intro rfl ?_ | refine condT ?_ | refine condF ?_ | refine condG1 ?_ | refine condG0 ?_ | refine condDT (by omega) ?_ | refine condDF (by omega) ?_ | refine condBT (by omega) ?_ | refine condBF (by omega) ?_ | refine condNT (by omega) ?_ | refine condNF (by omega) ?_)
  rfl
def rule5 (a b : PVRoute) : Int := if sameFirstS a b then cmpS (medS a) (medS b) else 0
theorem rule5_gives (a b : PVRoute) (ha : RB a) (hb : RB b) : Gives G 35 [.rp a.enc, .rp b.enc] [] ⟨.int .i64 (rule5 a b), []⟩ := by
  have e1 := sameFirst_gives a b ha.path hb.path
  unfold rule5
  generalize sameFirstS a b = s at *
  cases s with
  | false =>
    refine gives_code (F := f35) rfl rfl (W_ok 80 _ _ _ _ ?_)
    repeat (first | refine Exists.intro _ (And.intro (unA_neg_i64 (by omega) (by omega)) ?_) | refine Exists.intro _ (And.intro (binA_quo_i64 (by omega) (by omega) (by omega)) ?_) | refine Exists.intro _ (And.intro (binA_rem_i64 (by omega) (by omega)) ?_) | refine Exists.intro _ (And.intro (binA_sub_i64 (by omega) (by omega)) ?_) | refine Exists.intro _ (And.intro (binA_add_i64 (by omega) (by omega)) ?_) | refine Exists.intro _ (And.intro (conv_i64 (by omega) (by omega)) ?_) | refine Exists.intro _ (And.intro rfl ?_) | refine And.intro rfl ?_ | refine condT ?_ | refine condF ?_ | refine condG1 ?_ | refine condG0 ?_ | refine condDT (by omega) ?_ | refine condDF (by omega) ?_ | refine condBT (by omega) ?_ | refine condBF (by omega) ?_ | refine condNT (by omega) ?_ | refine condNF (by omega) ?_)
    refine callV (e1) (by simp [pureL, AV.pure]) (by simp [AV.dry, dryL]) ?_
    repeat (first | refine Exists.intro _ (And.intro (unA_neg_i64 (by omega) (by omega)) ?_) | refine Exists.intro _ (And.intro (binA_quo_i64 (by omega) (by omega) (by omega)) ?_) | refine Exists.intro _ (And.intro (binA_rem_i64 (by omega) (by omega)) ?_) | refine Exists.intro _ (And.intro (binA_sub_i64 (by omega) (by omega)) ?_) | refine Exists.intro _ (And.intro (binA_add_i64 (by omega) (by omega)) ?_) | refine Exists.intro _ (And.intro (conv_i64 (by omega) (by omega)) ?_) | refine Exists.intro _ (And.intro rfl ?_) | refine And.intro rfl ?_ | refine condT ?_ | refine condF ?_ | refine condG1 ?_ | refine condG0 ?_ | refine condDT (by omega) ?_ | refine condDF (by omega) ?_ | refine condBT (by omega) ?_ | refine condBF (by omega) ?_ | refine condNT (by omega) ?_ | refine condNF (by omega) ?_)
    rfl
  | true =>
    refine gives_code (F := f35) rfl rfl (W_ok 80 _ _ _ _ ?_)
    repeat (first | refine Exists.intro _ (And.intro (unA_neg_i64 (by omega) (by omega)) ?_) | refine Exists.intro _ (And.intro (binA_quo_i64 (by omega) (by omega) (by omega)) ?_) | refine Exists.intro _ (And.intro (binA_rem_i64 (by omega) (by omega)) ?_) | refine Exists.intro _ (And.intro (binA_sub_i64 (by omega) (by omega)) ?_) | refine Exists.intro _ (And.intro (binA_add_i64 (by omega) (by omega)) ?_) | refine Exists.intro _ (And.intro (conv_i64 (by omega) (by omega)) ?_) | refine Exists.intro _ (And.intro rfl ?_) | refine And.intro rfl ?_ | refine condT ?_ | refine condF ?_ | refine condG1 ?_ | refine condG0 ?_ | refine condDT (by omega) ?_ | refine condDF (by omega) ?_ | refine condBT (by omega) ?_ | refine condBF (by omega) ?_ | refine condNT (by omega) ?_ | refine condNF (by omega) ?_)
    refine callV (e1) (by simp [pureL, AV.pure]) (by simp [AV.dry, dryL]) ?_
    repeat (first | refine Exists.intro _ (And.intro (unA_neg_i64 (by omega) (by omega)) ?_) | refine Exists.intro _ (And.intro (binA_quo_i64 (by omega) (by omega) (by omega)) ?_) | refine Exists.intro _ (And.intro (binA_rem_i64 (by omega) (by omega)) ?_) | refine Exists.intro _ (And.intro (binA_sub_i64 (by omega) (by omega)) ?_) | refine Exists.intro _ (And.intro (binA_add_i64 (by omega) (by omega)) ?_) | refine Exists.intro _ (And.intro (conv_i64 (by omega) (by omega)) ?_) | refine Exists.intro _ (And.intro rfl ?_) | refine And.intro rfl ?_ | refine condT ?_ | refine condF ?_ | refine condG1 ?_ | refine condG0 ?_ | refine condDT (by omega) ?_ | refine condDF (by omega) ?_ | refine condBT (by omega) ?_ | refine condBF (by omega) ?_ | refine condNT (by omega) ?_ | refine condNF (by omega) ?_)
    refine callV (med_gives a) (by simp [pureL, AV.pure]) (by simp [AV.dry, dryL]) ?_
    repeat (first | refine Exists.intro _ (And.intro (unA_neg_i64 (by omega) (by omega)) ?_) | refine Exists.intro _ (And.intro (binA_quo_i64 (by omega) (by omega) (by omega)) ?_) | refine Exists.intro _ (And.intro (binA_rem_i64 (by omega) (by omega)) ?_) | refine Exists.intro _ (And.intro (binA_sub_i64 (by omega) (by omega)) ?_) | refine Exists.intro _ (And.intro (binA_add_i64 (by omega) (by omega)) ?_) | refine Exists.intro _ (And.intro (conv_i64 (by omega) (by omega)) ?_) | refine Exists.intro _ (And.intro rfl ?_) | refine And.intro rfl ?_ | refine condT ?_ | refine condF ?_ | refine condG1 ?_ | refine condG0 ?_ | refine condDT (by omega) ?_ | refine condDF (by omega) ?_ | refine condBT (by omega) ?_ | refine condBF (by omega) ?_ | refine condNT (by omega) ?_ | refine condNF (by omega) ?_)
    refine callV (med_gives b) (by simp [pureL, AV.pure]) (by simp [AV.dry, dryL]) ?_
    repeat (first | refine Exists.intro _ (And.intro (unA_neg_i64 (by omega) (by omega)) ?_) | refine Exists.intro _ (And.intro (binA_quo_i64 (by omega) (by omega) (by omega)) ?_) | refine Exists.intro _ (And.intro (binA_rem_i64 (by omega) (by omega)) ?_) | refine Exists.intro _ (And.intro (binA_sub_i64 (by omega) (by omega)) ?_) | refine Exists.intro _ (And.intro (binA_add_i64 (by omega) (by omega)) ?_) | refine Exists.intro _ (And.intro (conv_i64 (by omega) (by omega)) ?_) | refine Exists.intro _ (And.intro rfl ?_) | refine And.intro rfl ?_ | refine condT ?_ | refine condF ?_ | refine condG1 ?_ | refine condG0 ?_ | refine condDT (by omega) ?_ | refine condDF (by omega) ?_ | refine condBT (by omega) ?_ | refine condBF (by omega) ?_ | refine condNT (by omega) ?_ | refine condNF (by omega) ?_)
    refine callV (cmp_gives (medS a) (medS b)) (by simp [pureL, AV.pure]) (by simp [AV.dry, dryL]) ?_
    repeat (first | refine Exists.intro _ (And.intro (unA_neg_i64 (by omega) (by omega)) ?_) | refine Exists.intro _ (And.intro (binA_quo_i64 (by omega) (by omega) (by omega)) ?_) | refine Exists.intro _ (And.intro (binA_rem_i64 (by omega) (by omega)) ?_) | refine Exists.intro _ (And.intro (binA_sub_i64 (by omega) (by omega)) ?_) | refine Exists.intro _ (And.intro (binA_add_i64 (by omega) (by omega)) ?_) | refine Exists.intro _ (And.intro (conv_i64 (by omega) (by omega)) ?_) | refine Exists.intro _ (And.intro rfl ?_) | refine And.intro rfl ?_ | refine condT ?_ | refine condF ?_ | refine condG1 ?_ | refine condG0 ?_ | refine condDT (by omega) ?_ | refine condDF (by omega) ?_ | refine condBT (by omega) ?_ | refine condBF (by omega) ?_ | refine condNT (by omega) ?_ | refine condNF (by omega) ?_)
    rfl
def rule6 (a b : PVRoute) : Int := num01 (innerS a) - num01 (innerS b)
theorem rule6_gives (a b : PVRoute) : Gives G 38 [.rp a.enc, .rp b.enc] [] ⟨.int .i64 (rule6 a b), []⟩ := by
  have h1 := num01_range (innerS a)
  have h2 := num01_range (innerS b)
  refine gives_code (F := f38) rfl rfl (W_ok 80 _ _ _ _ ?_)
  repeat (first | refine Exists.intro _ (And.intro (unA_neg_i64 (by omega) (by omega)) ?_) | refine Exists.intro _ (And.intro (binA_quo_i64 (by omega) (by omega) (by omega)) ?_) | refine Exists.intro _ (And.intro (binA_rem_i64 (by omega) (by omega)) ?_) | refine Exists.intro _ (And.intro (binA_sub_i64 (by omega) (by omega)) ?_) | refine Exists.intro _ (And.intro (binA_add_i64 (by omega) (by omega)) ?_) | refine Exists.intro _ (And.intro (conv_i64 (by omega) (by omega)) ?_) | refine Exists.intro _ (And.intro rfl ?_) | refine And.intro rfl ?_ | refine condT ?_ | refine condF ?_ | refine condG1 ?_ | refine condG0 ?_ | refine condDT (by omega) ?_ | refine condDF (by omega) ?_ | refine condBT (by omega) ?_ | refine condBF (by omega) ?_ | refine condNT (by omega) ?_ | refine condNF (by omega) ?_)
  refine callV (inner_gives a) (by simp [pureL, AV.pure]) (by simp [AV.dry, dryL]) ?_
  repeat (first | refine Exists.intro _ (And.intro (unA_neg_i64 (by omega) (by omega)) ?_) | refine Exists.intro _ (And.intro (binA_quo_i64 (by omega) (by omega) (by omega)) ?_) | refine Exists.intro _ (And.intro (binA_rem_i64 (by omega) (by omega)) ?_) | refine Exists.intro _ (And.intro (binA_sub_i64 (by omega) (by omega)) ?_) | refine Exists.intro _ (And.intro (binA_add_i64 (by omega) (by omega)) ?_) | refine Exists.intro _ (And.intro (conv_i64 (by omega) (by omega)) ?_) | refine Exists.intro _ (And.intro rfl ?_) | refine And.intro rfl ?_ | refine condT ?_ | refine condF ?_ | refine condG1 ?_ | refine condG0 ?_ | refine condDT (by omega) ?_ | refine condDF (by omega) ?_ | refine condBT (by omega) ?_ | refine condBF (by omega) ?_ | refine condNT (by omega) ?_ | refine condNF (by omega) ?_)
  refine callV (number_gives (innerS a)) (by simp [pureL, AV.pure]) (by simp [AV.dry, dryL]) ?_
  repeat (first | refine Exists.intro _ (And.intro (unA_neg_i64 (by omega) (by omega)) ?_) | refine Exists.intro _ (And.intro (binA_quo_i64 (by omega) (by omega) (by omega)) ?_) | refine Exists.intro _ (And.intro (binA_rem_i64 (by omega) (by omega)) ?_) | refine Exists.intro _ (And.intro (binA_sub_i64 (by omega) (by omega)) ?_) | refine Exists.intro _ (And.intro (binA_add_i64 (by omega) (by omega)) ?_) | refine Exists.intro _ (And.intro (conv_i64 (by omega) (by omega)) ?_) | refine Exists.intro _ (And.intro rfl ?_) | refine And.intro rfl ?_ | refine condT ?_ | refine condF ?_ | refine condG1 ?_ | refine condG0 ?_ | refine condDT (by omega) ?_ | refine condDF (by omega) ?_ | refine condBT (by omega) ?_ | refine condBF (by omega) ?_ | refine condNT (by omega) ?_ | refine condNF (by omega) ?_)
  refine callV (inner_gives b) (by simp [pureL, AV.pure]) (by simp [AV.dry, dryL]) ?_
  repeat (first | refine Exists.intro _ (And.intro (unA_neg_i64 (by omega) (by omega)) ?_) | refine Exists.intro _ (And.intro (binA_quo_i64 (by omega) (by omega) (by omega)) ?_) | refine Exists.intro _ (And.intro (binA_rem_i64 (by omega) (by omega)) ?_) | refine Exists.intro _ (And.intro (binA_sub_i64 (by omega) (by omega)) ?_) | refine Exists.intro _ (And.intro (binA_add_i64 (by omega) (by omega)) ?_) | refine Exists.intro _ (And.intro (conv_i64 (by omega) (by omega)) ?_) | refine Exists.intro _ (And.intro rfl ?_) | refine And.intro rfl ?_ | refine condT ?_ | refine condF ?_ | refine condG1 ?_ | refine condG0 ?_ | refine condDT (by omega) ?_ | refine condDF (by omega) ?_ | refine condBT (by omega) ?_ | refine condBF (by omega) ?_ | refine condNT (by omega) ?_ | refine condNF (by omega) ?_)
  refine callV (number_gives (innerS b)) (by simp [pureL, AV.pure]) (by simp [AV.dry, dryL]) ?_
  repeat (first | refine Exists.intro _ (And.intro (unA_neg_i64 (by omega) (by omega)) ?_) | refine Exists.intro _ (And.intro (binA_quo_i64 (by omega) (by omega) (by omega)) ?_) | refine Exists.intro _ (And.intro (binA_rem_i64 (by omega) (by omega)) ?_) | refine Exists.intro _ (And.intro (binA_sub_i64 (by omega) (by omega)) ?_) | refine Exists.intro _ (And.intro (binA_add_i64 (by omega) (by omega)) ?_) | refine Exists.intro _ (And.intro (conv_i64 (by omega) (by omega)) ?_) | refine Exists.intro _ (And.intro rfl ?_) | refine And.intro rfl ?_ | refine condT ?_ | refine condF ?_ | refine condG1 ?_ | refine condG0 ?_ | refine condDT (by omega) ?_ | refine condDF (by omega) ?_ | refine condBT (by omega) ?_ | refine condBF (by omega) ?_ | refine condNT (by omega) ?_ | refine condNF (by omega) ?_)
  rfl
theorem rule8_gives (a b : PVRoute) : Gives G 42 [.rp a.enc, .rp b.enc] [] ⟨.int .i64 (cmpS (routerS a) (routerS b)), []⟩ := by
  refine gives_code (F := f42) rfl rfl (W_ok 60 _ _ _ _ ?_)
  repeat (first | refine Exists.intro _ (And.intro (unA_neg_i64 (by omega) (by omega)) ?_) | refine Exists.intro _ (And.intro (binA_quo_i64 (by omega) (by omega) (by omega)) ?_) | refine Exists.intro _ (And.intro (binA_rem_i64 (by omega) (by omega)) ?_) | refine Exists.intro _ (And.intro (binA_sub_i64 (by omega) (by omega)) ?_) | refine Exists.intro _ (And.intro (binA_add_i64 (by omega) (by omega)) ?_) | refine Exists.intro _ (And.intro (conv_i64 (by omega) (by omega)) ?_) | refine Exists.intro _ (And.intro rfl ?_) | refine And.intro rfl ?_ | refine condT ?_ | refine condF ?_ | refine condG1 ?_ | refine condG0 ?_ | refine condDT (by omega) ?_ | refine condDF (by omega) ?_ | refine condBT (by omega) ?_ | refine condBF (by omega) ?_ | refine condNT (by omega) ?_ | refine condNF (by omega) ?_)
  refine callV (router_gives a) (by simp [pureL, AV.pure]) (by simp [AV.dry, dryL]) ?_
  repeat (first | refine Exists.intro _ (And.intro (unA_neg_i64 (by omega) (by omega)) ?_) | refine Exists.intro _ (And.intro (binA_quo_i64 (by omega) (by omega) (by omega)) ?_) | refine Exists.intro _ (And.intro (binA_rem_i64 (by omega) (by omega)) ?_) | refine Exists.intro _ (And.intro (binA_sub_i64 (by omega) (by omega)) ?_) | refine Exists.intro _ (And.intro (binA_add_i64 (by omega) (by omega)) ?_) | refine Exists.intro _ (And.intro (conv_i64 (by omega) (by omega)) ?_) | refine Exists.intro _ (And.intro rfl ?_) | refine And.intro rfl ?_ | refine condT ?_ | refine condF ?_ | refine condG1 ?_ | refine condG0 ?_ | refine condDT (by omega) ?_ | refine condDF (by omega) ?_ | refine condBT (by omega) ?_ | refine condBF (by omega) ?_ | refine condNT (by omega) ?_ | refine condNF (by omega) ?_)
  refine callV (router_gives b) (by simp [pureL, AV.pure]) (by simp [AV.dry, dryL]) ?_
  repeat (first | refine Exists.intro _ (And.intro (unA_neg_i64 (by omega) (by omega)) ?_) | refine Exists.intro _ (And.intro (binA_quo_i64 (by omega) (by omega) (by omega)) ?_) | refine Exists.intro _ (And.intro (binA_rem_i64 (by omega) (by omega)) ?_) | refine Exists.intro _ (And.intro (binA_sub_i64 (by omega) (by omega)) ?_) | refine Exists.intro _ (And.intro (binA_add_i64 (by omega) (by omega)) ?_) | refine Exists.intro _ (And.intro (conv_i64 (by omega) (by omega)) ?_) | refine Exists.intro _ (And.intro rfl ?_) | refine And.intro rfl ?_ | refine condT ?_ | refine condF ?_ | refine condG1 ?_ | refine condG0 ?_ | refine condDT (by omega) ?_ | refine condDF (by omega) ?_ | refine condBT (by omega) ?_ | refine condBF (by omega) ?_ | refine condNT (by omega) ?_ | refine condNF (by omega) ?_)
  refine callV (cmpu_gives (routerS a) (routerS b)) (by simp [pureL, AV.pure]) (by simp [AV.dry, dryL]) ?_
  repeat (first | refine Exists.intro _ (And.intro (unA_neg_i64 (by omega) (by omega)) ?_) | refine Exists.intro _ (And.intro (binA_quo_i64 (by omega) (by omega) (by omega)) ?_) | refine Exists.intro _ (And.intro (binA_rem_i64 (by omega) (by omega)) ?_) | refine Exists.intro _ (And.intro (binA_sub_i64 (by omega) (by omega)) ?_) | refine Exists.intro _ (And.intro (binA_add_i64 (by omega) (by omega)) ?_) | refine Exists.intro _ (And.intro (conv_i64 (by omega) (by omega)) ?_) | refine Exists.intro _ (And.intro rfl ?_) | refine And.intro rfl ?_ | refine condT ?_ | refine condF ?_ | refine condG1 ?_ | refine condG0 ?_ | refine condDT (by omega) ?_ | refine condDF (by omega) ?_ | refine condBT (by omega) ?_ | refine condBF (by omega) ?_ | refine condNT (by omega) ?_ | refine condNF (by omega) ?_)
  rfl
theorem rule9_gives (a b : PVRoute) : Gives G 45 [.rp a.enc, .rp b.enc] [] ⟨.int .i64 (cmpS a.attrs.clusters.length b.attrs.clusters.length), []⟩ := by
  refine gives_code (F := f45) rfl rfl (W_ok 60 _ _ _ _ ?_)
  repeat (first | refine Exists.intro _ (And.intro (unA_neg_i64 (by omega) (by omega)) ?_) | refine Exists.intro _ (And.intro (binA_quo_i64 (by omega) (by omega) (by omega)) ?_) | refine Exists.intro _ (And.intro (binA_rem_i64 (by omega) (by omega)) ?_) | refine Exists.intro _ (And.intro (binA_sub_i64 (by omega) (by omega)) ?_) | refine Exists.intro _ (And.intro (binA_add_i64 (by omega) (by omega)) ?_) | refine Exists.intro _ (And.intro (conv_i64 (by omega) (by omega)) ?_) | refine Exists.intro _ (And.intro rfl ?_) | refine And.intro rfl ?_ | refine condT ?_ | refine condF ?_ | refine condG1 ?_ | refine condG0 ?_ | refine condDT (by omega) ?_ | refine condDF (by omega) ?_ | refine condBT (by omega) ?_ | refine condBF (by omega) ?_ | refine condNT (by omega) ?_ | refine condNF (by omega) ?_)
  refine callV (cmp_gives (a.attrs.clusters.map encU).length (b.attrs.clusters.map encU).length) (by simp [pureL, AV.pure]) (by simp [AV.dry, dryL]) ?_
  repeat (first | refine Exists.intro _ (And.intro (unA_neg_i64 (by omega) (by omega)) ?_) | refine Exists.intro _ (And.intro (binA_quo_i64 (by omega) (by omega) (by omega)) ?_) | refine Exists.intro _ (And.intro (binA_rem_i64 (by omega) (by omega)) ?_) | refine Exists.intro _ (And.intro (binA_sub_i64 (by omega) (by omega)) ?_) | refine Exists.intro _ (And.intro (binA_add_i64 (by omega) (by omega)) ?_) | refine Exists.intro _ (And.intro (conv_i64 (by omega) (by omega)) ?_) | refine Exists.intro _ (And.intro rfl ?_) | refine And.intro rfl ?_ | refine condT ?_ | refine condF ?_ | refine condG1 ?_ | refine condG0 ?_ | refine condDT (by omega) ?_ | refine condDF (by omega) ?_ | refine condBT (by omega) ?_ | refine condBF (by omega) ?_ | refine condNT (by omega) ?_ | refine condNF (by omega) ?_)
  simp only [List.length_map]
  rfl
theorem rule10_gives (a b : PVRoute) : Gives G 46 [.rp a.enc, .rp b.enc] [] ⟨.int .i64 (cmpS a.peer b.peer), []⟩ := by
  refine gives_code (F := f46) rfl rfl (W_ok 60 _ _ _ _ ?_)
  repeat (first | refine Exists.intro _ (And.intro (unA_neg_i64 (by omega) (by omega)) ?_) | refine Exists.intro _ (And.intro (binA_quo_i64 (by omega) (by omega) (by omega)) ?_) | refine Exists.intro _ (And.intro (binA_rem_i64 (by omega) (by omega)) ?_) | refine Exists.intro _ (And.intro (binA_sub_i64 (by omega) (by omega)) ?_) | refine Exists.intro _ (And.intro (binA_add_i64 (by omega) (by omega)) ?_) | refine Exists.intro _ (And.intro (conv_i64 (by omega) (by omega)) ?_) | refine Exists.intro _ (And.intro rfl ?_) | refine And.intro rfl ?_ | refine condT ?_ | refine condF ?_ | refine condG1 ?_ | refine condG0 ?_ | refine condDT (by omega) ?_ | refine condDF (by omega) ?_ | refine condBT (by omega) ?_ | refine condBF (by omega) ?_ | refine condNT (by omega) ?_ | refine condNF (by omega) ?_)
  refine callV (cmp_gives a.peer b.peer) (by simp [pureL, AV.pure]) (by simp [AV.dry, dryL]) ?_
  repeat (first | refine Exists.intro _ (And.intro (unA_neg_i64 (by omega) (by omega)) ?_) | refine Exists.intro _ (And.intro (binA_quo_i64 (by omega) (by omega) (by omega)) ?_) | refine Exists.intro _ (And.intro (binA_rem_i64 (by omega) (by omega)) ?_) | refine Exists.intro _ (And.intro (binA_sub_i64 (by omega) (by omega)) ?_) | refine Exists.intro _ (And.intro (binA_add_i64 (by omega) (by omega)) ?_) | refine Exists.intro _ (And.intro (conv_i64 (by omega) (by omega)) ?_) | refine Exists.intro _ (And.intro rfl ?_) | refine And.intro rfl ?_ | refine condT ?_ | refine condF ?_ | refine condG1 ?_ | refine condG0 ?_ | refine condDT (by omega) ?_ | refine condDF (by omega) ?_ | refine condBT (by omega) ?_ | refine condBF (by omega) ?_ | refine condNT (by omega) ?_ | refine condNF (by omega) ?_)
  rfl
end Go.AM.IR
