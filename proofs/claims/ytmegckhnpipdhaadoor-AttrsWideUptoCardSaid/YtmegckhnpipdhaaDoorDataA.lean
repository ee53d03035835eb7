/- What the functions of this program give, on the abstract machine. -/
import Derived.Test.YtmegckhnpipdhaaDoorMachineC
import Derived.Test.YtmegckhnpipdhaaDoorMachineB
set_option linter.unusedVariables false
set_option linter.unusedSimpArgs false
set_option maxRecDepth 100000
namespace Go.AM.IR
open Go Go.AM

/-- routing/routinglaw36.AttrsCheck -/
def f58x0 : List AOper := [
  ⟨(some 1), .box (.t 0), none, []⟩,
  ⟨(some 2), .mv (.c (.bool false)), none, []⟩]
def f58x1 : List AOper := [
  ⟨(some 3), .load (some 16) (.t 1), none, []⟩,
  ⟨(some 4), .call (.c (.fn 21 [])) [(.t 3)], none, []⟩]
def f58x2 : List AOper := [
  ⟨(some 5), .call (.c (.fn 64 [])) [], none, []⟩,
  ⟨(some 2), .mv (.t 5), none, []⟩]
def f58x3 : List AOper := [
  ⟨(some 6), .load (some 16) (.t 1), none, []⟩,
  ⟨(some 7), .call (.c (.fn 65 [])) [(.t 6)], none, [0]⟩,
  ⟨(some 8), .load (some 16) (.t 1), none, []⟩,
  ⟨(some 9), .call (.c (.fn 66 [])) [(.t 8)], none, [2, 1, 0]⟩,
  ⟨(some 10), .bin .eql (.t 7) (.t 9), none, []⟩,
  ⟨(some 11), .mv (.t 10), none, []⟩,
  ⟨(some 12), .call (.c (.fn 64 [])) [], (some (11, true)), [3, 2, 1, 0]⟩,
  ⟨(some 13), .pick (.t 11) (.t 12) (.c (.bool false)), none, []⟩,
  ⟨(some 2), .mv (.t 13), none, []⟩]
def f58 : AFunc := ⟨14, 1, false, [.t 2], (.seq (.region f58x0 false) (.seq (.seq (.region f58x1 false) (.cond (.t 4) (.seq (.region f58x2 false) .ret) .skip)) (.seq (.region f58x3 true) .ret)))⟩

/-- routing/routinglaw36.AttrsEncode -/
def f59x0 : List AOper := [
  ⟨(some 2), .box (.t 0), none, []⟩,
  ⟨(some 4), .mv (.c (.bool false)), none, []⟩]
def f59x1 : List AOper := [
  ⟨(some 9), .load (some 16) (.t 2), none, []⟩,
  ⟨(some 10), .call (.c (.fn 21 [])) [(.t 9)], none, []⟩]
def f59x2 : List AOper := [
  ⟨(some 11), .call (.c (.fn 64 [])) [], none, []⟩,
  ⟨(some 4), .mv (.t 11), none, []⟩]
def f59x3 : List AOper := [
  ⟨(some 13), .load (some 16) (.t 2), none, []⟩,
  ⟨(some 14), .mv (.t 1), none, []⟩,
  ⟨(some 15), .call (.c (.fn 67 [])) [(.t 13), (.t 14)], none, []⟩,
  ⟨(some 12), .mv (.t 15), none, []⟩,
  ⟨(some 16), .ext (.t 12) 0, none, []⟩,
  ⟨(some 17), .ext (.t 12) 1, none, []⟩,
  ⟨(some 5), .mv (.t 16), none, []⟩,
  ⟨(some 6), .mv (.t 17), none, []⟩]
def f59x4 : List AOper := [
  ⟨(some 19), .load (some 16) (.t 2), none, []⟩,
  ⟨(some 20), .mv (.t 1), none, []⟩,
  ⟨(some 21), .call (.c (.fn 68 [])) [(.t 19), (.t 20)], none, []⟩,
  ⟨(some 18), .mv (.t 21), none, []⟩,
  ⟨(some 22), .ext (.t 18) 0, none, []⟩,
  ⟨(some 23), .ext (.t 18) 1, none, []⟩,
  ⟨(some 7), .mv (.t 22), none, []⟩,
  ⟨(some 8), .mv (.t 23), none, []⟩]
def f59x5 : List AOper := [
  ⟨(some 24), .mv (.t 6), none, []⟩,
  ⟨(some 25), .mv (.t 8), none, []⟩,
  ⟨(some 26), .bin .eql (.t 24) (.t 25), none, []⟩,
  ⟨(some 27), .mv (.t 26), none, []⟩,
  ⟨(some 28), .mv (.t 5), (some (27, true)), []⟩,
  ⟨(some 29), .b2s (.t 28), (some (27, true)), []⟩,
  ⟨(some 30), .mv (.t 7), (some (27, true)), []⟩,
  ⟨(some 31), .b2s (.t 30), (some (27, true)), []⟩,
  ⟨(some 32), .bin .eql (.t 29) (.t 31), (some (27, true)), []⟩,
  ⟨(some 33), .pick (.t 27) (.t 32) (.c (.bool false)), none, []⟩,
  ⟨(some 34), .mv (.t 33), none, []⟩,
  ⟨(some 35), .call (.c (.fn 64 [])) [], (some (34, true)), []⟩,
  ⟨(some 36), .pick (.t 34) (.t 35) (.c (.bool false)), none, []⟩,
  ⟨(some 4), .mv (.t 36), none, []⟩]
def f59 : AFunc := ⟨37, 2, false, [.t 4], (.seq (.region f59x0 false) (.seq (.seq (.region f59x1 false) (.cond (.t 10) (.seq (.region f59x2 false) .ret) .skip)) (.seq (.region f59x3 false) (.seq (.region f59x4 false) (.seq (.region f59x5 false) .ret)))))⟩

/-- routing/routinglaw36.AttrsBack -/
def f60x0 : List AOper := [
  ⟨(some 2), .box (.t 0), none, []⟩,
  ⟨(some 4), .mv (.c (.bool false)), none, []⟩]
def f60x1 : List AOper := [
  ⟨(some 11), .load (some 16) (.t 2), none, []⟩,
  ⟨(some 12), .call (.c (.fn 21 [])) [(.t 11)], none, []⟩]
def f60x2 : List AOper := [
  ⟨(some 13), .call (.c (.fn 64 [])) [], none, []⟩,
  ⟨(some 4), .mv (.t 13), none, []⟩]
def f60x3 : List AOper := [
  ⟨(some 15), .load (some 16) (.t 2), none, []⟩,
  ⟨(some 16), .mv (.t 1), none, []⟩,
  ⟨(some 17), .call (.c (.fn 67 [])) [(.t 15), (.t 16)], none, []⟩,
  ⟨(some 14), .mv (.t 17), none, []⟩,
  ⟨(some 18), .ext (.t 14) 0, none, []⟩,
  ⟨(some 19), .ext (.t 14) 1, none, []⟩,
  ⟨(some 5), .mv (.t 18), none, []⟩,
  ⟨(some 6), .mv (.t 19), none, []⟩]
def f60x4 : List AOper := [
  ⟨(some 20), .mv (.t 6), none, []⟩,
  ⟨(some 21), .bin .neq (.t 20) (.c (.int .i64 0)), none, []⟩]
def f60x5 : List AOper := [
  ⟨(some 22), .call (.c (.fn 64 [])) [], none, []⟩,
  ⟨(some 4), .mv (.t 22), none, []⟩]
def f60x6 : List AOper := [
  ⟨(some 24), .mv (.t 5), none, []⟩,
  ⟨(some 25), .mv (.t 1), none, []⟩,
  ⟨(some 26), .call (.c (.fn 69 [])) [(.t 24), (.t 25)], none, []⟩,
  ⟨(some 23), .mv (.t 26), none, []⟩,
  ⟨(some 27), .ext (.t 23) 0, none, []⟩,
  ⟨(some 28), .ext (.t 23) 1, none, []⟩,
  ⟨(some 7), .alloc (.agg [.int .i64 0, .con (.slice none 0 0), .int .u32 0, .bool false, .int .i64 0, .bool false, .int .i64 0, .bool false, .bool false, .int .i64 0, .int .u32 0, .con (.slice none 0 0), .bool false, .int .u32 0, .con (.slice none 0 0), .con (.slice none 0 0)]), none, []⟩,
  ⟨none, .store 16 (.t 7) (.t 27), none, []⟩,
  ⟨(some 8), .mv (.t 28), none, []⟩]
def f60x7 : List AOper := [
  ⟨(some 29), .mv (.t 8), none, []⟩,
  ⟨(some 30), .bin .neq (.t 29) (.c (.int .i64 0)), none, []⟩,
  ⟨(some 31), .mv (.t 30), none, []⟩,
  ⟨(some 32), .load (some 16) (.t 2), (some (31, false)), []⟩,
  ⟨(some 33), .load (some 16) (.t 7), (some (31, false)), []⟩,
  ⟨(some 34), .call (.c (.fn 70 [])) [(.t 32), (.t 33)], (some (31, false)), []⟩,
  ⟨(some 35), .un .not (.t 34), (some (31, false)), []⟩,
  ⟨(some 36), .pick (.t 31) (.c (.bool true)) (.t 35), none, []⟩]
def f60x8 : List AOper := [
  ⟨(some 4), .mv (.c (.bool false)), none, []⟩]
def f60x9 : List AOper := [
  ⟨(some 38), .mv (.t 5), none, []⟩,
  ⟨(some 39), .mv (.t 5), none, []⟩,
  ⟨(some 40), .len false (.t 39), none, []⟩,
  ⟨(some 41), .bin .sub (.t 40) (.c (.int .i64 1)), none, []⟩,
  ⟨(some 42), .slc 1 (.t 38) none (some (.t 41)) none, none, []⟩,
  ⟨(some 43), .mv (.t 1), none, []⟩,
  ⟨(some 44), .call (.c (.fn 69 [])) [(.t 42), (.t 43)], none, []⟩,
  ⟨(some 37), .mv (.t 44), none, []⟩,
  ⟨(some 45), .ext (.t 37) 0, none, []⟩,
  ⟨(some 46), .ext (.t 37) 1, none, []⟩,
  ⟨(some 9), .alloc (.agg [.int .i64 0, .con (.slice none 0 0), .int .u32 0, .bool false, .int .i64 0, .bool false, .int .i64 0, .bool false, .bool false, .int .i64 0, .int .u32 0, .con (.slice none 0 0), .bool false, .int .u32 0, .con (.slice none 0 0), .con (.slice none 0 0)]), none, []⟩,
  ⟨none, .store 16 (.t 9) (.t 45), none, []⟩,
  ⟨(some 10), .mv (.t 46), none, []⟩]
def f60x10 : List AOper := [
  ⟨(some 47), .mv (.t 10), none, []⟩,
  ⟨(some 48), .bin .eql (.t 47) (.c (.int .i64 3)), none, []⟩,
  ⟨(some 49), .mv (.t 48), none, []⟩,
  ⟨(some 50), .call (.c (.fn 64 [])) [], (some (49, true)), []⟩,
  ⟨(some 51), .pick (.t 49) (.t 50) (.c (.bool false)), none, []⟩,
  ⟨(some 4), .mv (.t 51), none, []⟩]
def f60 : AFunc := ⟨52, 2, false, [.t 4], (.seq (.region f60x0 false) (.seq (.seq (.region f60x1 false) (.cond (.t 12) (.seq (.region f60x2 false) .ret) .skip)) (.seq (.region f60x3 false) (.seq (.seq (.region f60x4 false) (.cond (.t 21) (.seq (.region f60x5 false) .ret) .skip)) (.seq (.region f60x6 false) (.seq (.seq (.region f60x7 false) (.cond (.t 36) (.seq (.region f60x8 false) .ret) .skip)) (.seq (.region f60x9 false) (.seq (.region f60x10 false) .ret))))))))⟩

/-- routing/routinglaw36.AttrsDecode -/
def f61x0 : List AOper := [
  ⟨(some 4), .mv (.c (.bool false)), none, []⟩]
def f61x1 : List AOper := [
  ⟨(some 11), .mv (.t 0), none, []⟩,
  ⟨(some 12), .len false (.t 11), none, []⟩,
  ⟨(some 13), .bin .gtr (.t 12) (.c (.int .i64 5000)), none, []⟩]
def f61x2 : List AOper := [
  ⟨(some 14), .call (.c (.fn 64 [])) [], none, []⟩,
  ⟨(some 4), .mv (.t 14), none, []⟩]
def f61x3 : List AOper := [
  ⟨(some 16), .mv (.t 0), none, []⟩,
  ⟨(some 17), .mv (.t 1), none, []⟩,
  ⟨(some 18), .call (.c (.fn 69 [])) [(.t 16), (.t 17)], none, []⟩,
  ⟨(some 15), .mv (.t 18), none, []⟩,
  ⟨(some 19), .ext (.t 15) 0, none, []⟩,
  ⟨(some 20), .ext (.t 15) 1, none, []⟩,
  ⟨(some 5), .alloc (.agg [.int .i64 0, .con (.slice none 0 0), .int .u32 0, .bool false, .int .i64 0, .bool false, .int .i64 0, .bool false, .bool false, .int .i64 0, .int .u32 0, .con (.slice none 0 0), .bool false, .int .u32 0, .con (.slice none 0 0), .con (.slice none 0 0)]), none, []⟩,
  ⟨none, .store 16 (.t 5) (.t 19), none, []⟩,
  ⟨(some 6), .mv (.t 20), none, []⟩]
def f61x4 : List AOper := [
  ⟨(some 22), .mv (.t 0), none, []⟩,
  ⟨(some 23), .mv (.t 1), none, []⟩,
  ⟨(some 24), .call (.c (.fn 71 [])) [(.t 22), (.t 23)], none, []⟩,
  ⟨(some 21), .mv (.t 24), none, []⟩,
  ⟨(some 25), .ext (.t 21) 0, none, []⟩,
  ⟨(some 26), .ext (.t 21) 1, none, []⟩,
  ⟨(some 7), .alloc (.agg [.int .i64 0, .con (.slice none 0 0), .int .u32 0, .bool false, .int .i64 0, .bool false, .int .i64 0, .bool false, .bool false, .int .i64 0, .int .u32 0, .con (.slice none 0 0), .bool false, .int .u32 0, .con (.slice none 0 0), .con (.slice none 0 0)]), none, []⟩,
  ⟨none, .store 16 (.t 7) (.t 25), none, []⟩,
  ⟨(some 8), .mv (.t 26), none, []⟩]
def f61x5 : List AOper := [
  ⟨(some 27), .mv (.t 6), none, []⟩,
  ⟨(some 28), .mv (.t 8), none, []⟩,
  ⟨(some 29), .bin .neq (.t 27) (.t 28), none, []⟩,
  ⟨(some 30), .mv (.t 29), none, []⟩,
  ⟨(some 31), .load (some 16) (.t 5), (some (30, false)), []⟩,
  ⟨(some 32), .load (some 16) (.t 7), (some (30, false)), []⟩,
  ⟨(some 33), .call (.c (.fn 70 [])) [(.t 31), (.t 32)], (some (30, false)), []⟩,
  ⟨(some 34), .un .not (.t 33), (some (30, false)), []⟩,
  ⟨(some 35), .pick (.t 30) (.c (.bool true)) (.t 34), none, []⟩]
def f61x6 : List AOper := [
  ⟨(some 4), .mv (.c (.bool false)), none, []⟩]
def f61x7 : List AOper := [
  ⟨(some 36), .mv (.t 6), none, []⟩,
  ⟨(some 37), .bin .neq (.t 36) (.c (.int .i64 0)), none, []⟩]
def f61x8 : List AOper := [
  ⟨(some 38), .call (.c (.fn 64 [])) [], none, []⟩,
  ⟨(some 4), .mv (.t 38), none, []⟩]
def f61x9 : List AOper := [
  ⟨(some 40), .load (some 16) (.t 5), none, []⟩,
  ⟨(some 41), .mv (.t 1), none, []⟩,
  ⟨(some 42), .call (.c (.fn 67 [])) [(.t 40), (.t 41)], none, []⟩,
  ⟨(some 39), .mv (.t 42), none, []⟩,
  ⟨(some 43), .ext (.t 39) 0, none, []⟩,
  ⟨(some 44), .ext (.t 39) 1, none, []⟩,
  ⟨(some 9), .mv (.t 43), none, []⟩,
  ⟨(some 10), .mv (.t 44), none, []⟩]
def f61x10 : List AOper := [
  ⟨(some 45), .mv (.t 10), none, []⟩,
  ⟨(some 46), .bin .eql (.t 45) (.c (.int .i64 0)), none, []⟩,
  ⟨(some 47), .mv (.t 46), none, []⟩,
  ⟨(some 48), .mv (.t 9), (some (47, true)), []⟩,
  ⟨(some 49), .b2s (.t 48), (some (47, true)), []⟩,
  ⟨(some 50), .mv (.t 0), (some (47, true)), []⟩,
  ⟨(some 51), .b2s (.t 50), (some (47, true)), []⟩,
  ⟨(some 52), .bin .eql (.t 49) (.t 51), (some (47, true)), []⟩,
  ⟨(some 53), .pick (.t 47) (.t 52) (.c (.bool false)), none, []⟩,
  ⟨(some 54), .mv (.t 53), none, []⟩,
  ⟨(some 55), .call (.c (.fn 64 [])) [], (some (54, true)), []⟩,
  ⟨(some 56), .pick (.t 54) (.t 55) (.c (.bool false)), none, []⟩,
  ⟨(some 4), .mv (.t 56), none, []⟩]
def f61 : AFunc := ⟨57, 2, false, [.t 4], (.seq (.region f61x0 false) (.seq (.seq (.region f61x1 false) (.cond (.t 13) (.seq (.region f61x2 false) .ret) .skip)) (.seq (.region f61x3 false) (.seq (.region f61x4 false) (.seq (.seq (.region f61x5 false) (.cond (.t 35) (.seq (.region f61x6 false) .ret) .skip)) (.seq (.seq (.region f61x7 false) (.cond (.t 37) (.seq (.region f61x8 false) .ret) .skip)) (.seq (.region f61x9 false) (.seq (.region f61x10 false) .ret))))))))⟩

/-- routing/routinglaw36.AttrsWide -/
def f62x0 : List AOper := [
  ⟨(some 1), .box (.t 0), none, []⟩,
  ⟨(some 2), .mv (.c (.bool false)), none, []⟩]
def f62x1 : List AOper := [
  ⟨(some 14), .load (some 16) (.t 1), none, []⟩,
  ⟨(some 15), .call (.c (.fn 21 [])) [(.t 14)], none, []⟩]
def f62x2 : List AOper := [
  ⟨(some 16), .call (.c (.fn 64 [])) [], none, []⟩,
  ⟨(some 2), .mv (.t 16), none, []⟩]
def f62x3 : List AOper := [
  ⟨(some 17), .fadr 1 (.t 1), none, []⟩,
  ⟨(some 18), .load none (.t 17), none, []⟩,
  ⟨(some 19), .len false (.t 18), none, []⟩,
  ⟨(some 20), .bin .gtr (.t 19) (.c (.int .i64 0)), none, []⟩,
  ⟨(some 21), .mv (.t 20), none, []⟩,
  ⟨(some 22), .fadr 8 (.t 1), (some (21, false)), []⟩,
  ⟨(some 23), .load none (.t 22), (some (21, false)), []⟩,
  ⟨(some 24), .pick (.t 21) (.c (.bool true)) (.t 23), none, []⟩]
def f62x4 : List AOper := [
  ⟨(some 25), .fadr 1 (.t 1), none, []⟩,
  ⟨(some 26), .load none (.t 25), none, []⟩,
  ⟨(some 27), .call (.c (.fn 57 [])) [(.t 26)], none, []⟩,
  ⟨(some 28), .len false (.t 27), none, []⟩,
  ⟨(some 29), .mv (.c (.int .i64 0)), none, []⟩]
def f62x5 : List AOper := [
  ⟨(some 30), .bin .lss (.t 29) (.t 28), none, []⟩]
def f62x6 : List AOper := [
  ⟨(some 31), .iadr 1 (.t 27) (.t 29), none, []⟩,
  ⟨(some 32), .load none (.t 31), none, []⟩,
  ⟨(some 4), .mv (.t 32), none, []⟩]
def f62x7 : List AOper := [
  ⟨(some 33), .mv (.t 4), none, []⟩,
  ⟨(some 34), .bin .gtr (.t 33) (.c (.int .i64 65535)), none, []⟩]
def f62x8 : List AOper := [
  ⟨(some 35), .call (.c (.fn 64 [])) [], none, []⟩,
  ⟨(some 2), .mv (.t 35), none, []⟩]
def f62x9 : List AOper := [
  ⟨(some 36), .bin .add (.t 29) (.c (.int .i64 1)), none, []⟩,
  ⟨(some 29), .mv (.t 36), none, []⟩]
def f62x10L : ACode := (.seq (.region f62x5 false) (.seq (.cond (.t 30) .skip (.exit 0)) (.seq (.block 1 (.seq (.region f62x6 false) (.seq (.region f62x7 false) (.cond (.t 34) (.seq (.region f62x8 false) .ret) .skip)))) (.region f62x9 false))))
def f62x11 : List AOper := [
  ⟨(some 38), .load (some 16) (.t 1), none, []⟩,
  ⟨(some 39), .call (.c (.fn 67 [])) [(.t 38), (.c (.bool true))], none, []⟩,
  ⟨(some 37), .mv (.t 39), none, []⟩,
  ⟨(some 40), .ext (.t 37) 0, none, []⟩,
  ⟨(some 41), .ext (.t 37) 1, none, []⟩,
  ⟨(some 5), .mv (.t 40), none, []⟩,
  ⟨(some 6), .mv (.t 41), none, []⟩]
def f62x12 : List AOper := [
  ⟨(some 43), .load (some 16) (.t 1), none, []⟩,
  ⟨(some 44), .call (.c (.fn 67 [])) [(.t 43), (.c (.bool false))], none, []⟩,
  ⟨(some 42), .mv (.t 44), none, []⟩,
  ⟨(some 45), .ext (.t 42) 0, none, []⟩,
  ⟨(some 46), .ext (.t 42) 1, none, []⟩,
  ⟨(some 7), .mv (.t 45), none, []⟩,
  ⟨(some 8), .mv (.t 46), none, []⟩]
def f62x13 : List AOper := [
  ⟨(some 47), .mv (.t 6), none, []⟩,
  ⟨(some 48), .bin .neq (.t 47) (.c (.int .i64 0)), none, []⟩,
  ⟨(some 49), .mv (.t 48), none, []⟩,
  ⟨(some 50), .mv (.t 8), (some (49, false)), []⟩,
  ⟨(some 51), .bin .neq (.t 50) (.c (.int .i64 0)), (some (49, false)), []⟩,
  ⟨(some 52), .pick (.t 49) (.c (.bool true)) (.t 51), none, []⟩]
def f62x14 : List AOper := [
  ⟨(some 53), .mv (.t 6), none, []⟩,
  ⟨(some 54), .mv (.t 8), none, []⟩,
  ⟨(some 55), .bin .eql (.t 53) (.t 54), none, []⟩,
  ⟨(some 56), .mv (.t 55), none, []⟩,
  ⟨(some 57), .fadr 9 (.t 1), (some (56, false)), []⟩,
  ⟨(some 58), .load none (.t 57), (some (56, false)), []⟩,
  ⟨(some 59), .bin .gtr (.t 58) (.c (.int .i64 65535)), (some (56, false)), []⟩,
  ⟨(some 60), .pick (.t 56) (.c (.bool true)) (.t 59), none, []⟩,
  ⟨(some 61), .mv (.t 60), none, []⟩,
  ⟨(some 62), .call (.c (.fn 64 [])) [], (some (61, true)), []⟩,
  ⟨(some 63), .pick (.t 61) (.t 62) (.c (.bool false)), none, []⟩,
  ⟨(some 2), .mv (.t 63), none, []⟩]
def f62x15 : List AOper := [
  ⟨(some 64), .fadr 1 (.t 1), none, []⟩,
  ⟨(some 65), .load none (.t 64), none, []⟩,
  ⟨(some 66), .call (.c (.fn 57 [])) [(.t 65)], none, []⟩,
  ⟨(some 67), .len false (.t 66), none, []⟩,
  ⟨(some 68), .bin .mul (.c (.int .i64 2)) (.t 67), none, []⟩,
  ⟨(some 9), .mv (.t 68), none, []⟩]
def f62x16 : List AOper := [
  ⟨(some 69), .fadr 8 (.t 1), none, []⟩,
  ⟨(some 70), .load none (.t 69), none, []⟩]
def f62x17 : List AOper := [
  ⟨(some 71), .mv (.t 9), none, []⟩,
  ⟨(some 72), .bin .add (.t 71) (.c (.int .i64 2)), none, []⟩,
  ⟨(some 9), .mv (.t 72), none, []⟩]
def f62x18 : List AOper := [
  ⟨(some 73), .mv (.t 5), none, []⟩,
  ⟨(some 74), .len false (.t 73), none, []⟩,
  ⟨(some 75), .mv (.t 7), none, []⟩,
  ⟨(some 76), .len false (.t 75), none, []⟩,
  ⟨(some 77), .bin .sub (.t 74) (.t 76), none, []⟩,
  ⟨(some 78), .mv (.t 9), none, []⟩,
  ⟨(some 79), .bin .geq (.t 77) (.t 78), none, []⟩,
  ⟨(some 80), .mv (.t 79), none, []⟩,
  ⟨(some 81), .mv (.t 5), (some (80, true)), []⟩,
  ⟨(some 82), .len false (.t 81), (some (80, true)), []⟩,
  ⟨(some 83), .mv (.t 7), (some (80, true)), []⟩,
  ⟨(some 84), .len false (.t 83), (some (80, true)), []⟩,
  ⟨(some 85), .bin .sub (.t 82) (.t 84), (some (80, true)), []⟩,
  ⟨(some 86), .mv (.t 9), (some (80, true)), []⟩,
  ⟨(some 87), .bin .add (.t 86) (.c (.int .i64 1)), (some (80, true)), []⟩,
  ⟨(some 88), .bin .leq (.t 85) (.t 87), (some (80, true)), []⟩,
  ⟨(some 89), .pick (.t 80) (.t 88) (.c (.bool false)), none, []⟩,
  ⟨(some 90), .mv (.t 89), none, []⟩,
  ⟨(some 91), .call (.c (.fn 64 [])) [], (some (90, true)), []⟩,
  ⟨(some 92), .pick (.t 90) (.t 91) (.c (.bool false)), none, []⟩,
  ⟨(some 2), .mv (.t 92), none, []⟩]
def f62x19 : List AOper := [
  ⟨(some 94), .load (some 16) (.t 1), none, []⟩,
  ⟨(some 95), .call (.c (.fn 67 [])) [(.t 94), (.c (.bool true))], none, []⟩,
  ⟨(some 93), .mv (.t 95), none, []⟩,
  ⟨(some 96), .ext (.t 93) 0, none, []⟩,
  ⟨(some 97), .ext (.t 93) 1, none, []⟩,
  ⟨(some 10), .mv (.t 96), none, []⟩,
  ⟨(some 11), .mv (.t 97), none, []⟩]
def f62x20 : List AOper := [
  ⟨(some 99), .load (some 16) (.t 1), none, []⟩,
  ⟨(some 100), .call (.c (.fn 67 [])) [(.t 99), (.c (.bool false))], none, []⟩,
  ⟨(some 98), .mv (.t 100), none, []⟩,
  ⟨(some 101), .ext (.t 98) 0, none, []⟩,
  ⟨(some 102), .ext (.t 98) 1, none, []⟩,
  ⟨(some 12), .mv (.t 101), none, []⟩,
  ⟨(some 13), .mv (.t 102), none, []⟩]
def f62x21 : List AOper := [
  ⟨(some 103), .mv (.t 11), none, []⟩,
  ⟨(some 104), .mv (.t 13), none, []⟩,
  ⟨(some 105), .bin .eql (.t 103) (.t 104), none, []⟩,
  ⟨(some 106), .mv (.t 105), none, []⟩,
  ⟨(some 107), .mv (.t 10), (some (106, true)), []⟩,
  ⟨(some 108), .b2s (.t 107), (some (106, true)), []⟩,
  ⟨(some 109), .mv (.t 12), (some (106, true)), []⟩,
  ⟨(some 110), .b2s (.t 109), (some (106, true)), []⟩,
  ⟨(some 111), .bin .eql (.t 108) (.t 110), (some (106, true)), []⟩,
  ⟨(some 112), .pick (.t 106) (.t 111) (.c (.bool false)), none, []⟩,
  ⟨(some 113), .mv (.t 112), none, []⟩,
  ⟨(some 114), .call (.c (.fn 64 [])) [], (some (113, true)), []⟩,
  ⟨(some 115), .pick (.t 113) (.t 114) (.c (.bool false)), none, []⟩,
  ⟨(some 2), .mv (.t 115), none, []⟩]
def f62 : AFunc := ⟨116, 1, false, [.t 2], (.seq (.region f62x0 false) (.seq (.seq (.region f62x1 false) (.cond (.t 15) (.seq (.region f62x2 false) .ret) .skip)) (.seq (.seq (.region f62x3 false) (.cond (.t 24) (.seq (.seq (.region f62x4 false) (.block 0 (.loop f62x10L))) (.seq (.region f62x11 false) (.seq (.region f62x12 false) (.seq (.seq (.region f62x13 false) (.cond (.t 52) (.seq (.region f62x14 false) .ret) .skip)) (.seq (.region f62x15 false) (.seq (.seq (.region f62x16 false) (.cond (.t 70) (.region f62x17 false) .skip)) (.seq (.region f62x18 false) .ret))))))) .skip)) (.seq (.region f62x19 false) (.seq (.region f62x20 false) (.seq (.region f62x21 false) .ret))))))⟩
def f62x10LH : List AItem := [.inLoop f62x10L, .inBlock 0, .code (.seq (.region f62x11 false) (.seq (.region f62x12 false) (.seq (.seq (.region f62x13 false) (.cond (.t 52) (.seq (.region f62x14 false) .ret) .skip)) (.seq (.region f62x15 false) (.seq (.seq (.region f62x16 false) (.cond (.t 70) (.region f62x17 false) .skip)) (.seq (.region f62x18 false) .ret)))))), .code (.seq (.region f62x19 false) (.seq (.region f62x20 false) (.seq (.region f62x21 false) .ret)))]

/-- routing/routinglaw36.AttrsSame -/
def f63x0 : List AOper := [
  ⟨(some 2), .box (.t 0), none, []⟩,
  ⟨(some 3), .box (.t 1), none, []⟩,
  ⟨(some 4), .mv (.c (.bool false)), none, []⟩]
def f63x1 : List AOper := [
  ⟨(some 5), .load (some 16) (.t 2), none, []⟩,
  ⟨(some 6), .call (.c (.fn 21 [])) [(.t 5)], none, []⟩,
  ⟨(some 7), .mv (.t 6), none, []⟩,
  ⟨(some 8), .load (some 16) (.t 3), (some (7, false)), []⟩,
  ⟨(some 9), .call (.c (.fn 21 [])) [(.t 8)], (some (7, false)), []⟩,
  ⟨(some 10), .pick (.t 7) (.c (.bool true)) (.t 9), none, []⟩]
def f63x2 : List AOper := [
  ⟨(some 11), .call (.c (.fn 64 [])) [], none, []⟩,
  ⟨(some 4), .mv (.t 11), none, []⟩]
def f63x3 : List AOper := [
  ⟨(some 12), .load (some 16) (.t 2), none, []⟩,
  ⟨(some 13), .load (some 16) (.t 3), none, []⟩,
  ⟨(some 14), .call (.c (.fn 72 [])) [(.t 12), (.t 13)], none, [0, 1]⟩,
  ⟨(some 15), .load (some 16) (.t 2), none, []⟩,
  ⟨(some 16), .load (some 16) (.t 3), none, []⟩,
  ⟨(some 17), .call (.c (.fn 70 [])) [(.t 15), (.t 16)], none, [3, 4, 2, 0, 1]⟩,
  ⟨(some 18), .eqb false (.t 14) (.t 17), none, []⟩,
  ⟨(some 19), .mv (.t 18), none, []⟩,
  ⟨(some 20), .load (some 16) (.t 2), (some (19, true)), [5, 3, 4, 2, 0, 1]⟩,
  ⟨(some 21), .load (some 16) (.t 2), (some (19, true)), [5, 3, 4, 2, 0, 1]⟩,
  ⟨(some 22), .call (.c (.fn 72 [])) [(.t 20), (.t 21)], (some (19, true)), [8, 9, 5, 3, 4, 2, 0, 1]⟩,
  ⟨(some 23), .pick (.t 19) (.t 22) (.c (.bool false)), none, []⟩,
  ⟨(some 24), .mv (.t 23), none, []⟩,
  ⟨(some 25), .call (.c (.fn 64 [])) [], (some (24, true)), [10, 8, 9, 5, 3, 4, 2, 0, 1]⟩,
  ⟨(some 26), .pick (.t 24) (.t 25) (.c (.bool false)), none, []⟩,
  ⟨(some 4), .mv (.t 26), none, []⟩]
def f63 : AFunc := ⟨27, 2, false, [.t 4], (.seq (.region f63x0 false) (.seq (.seq (.region f63x1 false) (.cond (.t 10) (.seq (.region f63x2 false) .ret) .skip)) (.seq (.region f63x3 true) .ret)))⟩

/-- routing/routinglaw36.Large -/
def f21x0 : List AOper := [
  ⟨(some 1), .box (.t 0), none, []⟩,
  ⟨(some 2), .mv (.c (.bool false)), none, []⟩]
def f21x1 : List AOper := [
  ⟨(some 3), .load (some 16) (.t 1), none, []⟩,
  ⟨(some 4), .call (.c (.fn 26 [])) [(.t 3)], none, []⟩,
  ⟨(some 5), .bin .gtr (.t 4) (.c (.int .i64 3000)), none, []⟩,
  ⟨(some 2), .mv (.t 5), none, []⟩]
def f21 : AFunc := ⟨6, 1, false, [.t 2], (.seq (.region f21x0 false) (.seq (.region f21x1 false) .ret))⟩

/-- routing/routinglaw36.awake -/
def f64x0 : List AOper := [
  ⟨(some 0), .mv (.c (.bool false)), none, []⟩]
def f64x1 : List AOper := [
  ⟨(some 17), .build [.int .i64 0, .con (.slice none 0 0), .int .u32 0, .bool false, .int .i64 0, .bool false, .int .i64 0, .bool false, .bool false, .int .i64 0, .int .u32 0, .con (.slice none 0 0), .bool false, .int .u32 0, .con (.slice none 0 0), .con (.slice none 0 0)] [(2, 1)] [(.c (.int .u32 167772161))], none, []⟩,
  ⟨(some 1), .alloc (.agg [.int .i64 0, .con (.slice none 0 0), .int .u32 0, .bool false, .int .i64 0, .bool false, .int .i64 0, .bool false, .bool false, .int .i64 0, .int .u32 0, .con (.slice none 0 0), .bool false, .int .u32 0, .con (.slice none 0 0), .con (.slice none 0 0)]), none, []⟩,
  ⟨none, .store 16 (.t 1) (.t 17), none, []⟩]
def f64x2 : List AOper := [
  ⟨(some 19), .load (some 16) (.t 1), none, []⟩,
  ⟨(some 20), .call (.c (.fn 67 [])) [(.t 19), (.c (.bool true))], none, []⟩,
  ⟨(some 18), .mv (.t 20), none, []⟩,
  ⟨(some 21), .ext (.t 18) 0, none, []⟩,
  ⟨(some 22), .ext (.t 18) 1, none, []⟩,
  ⟨(some 2), .mv (.t 21), none, []⟩,
  ⟨(some 3), .mv (.t 22), none, []⟩]
def f64x3 : List AOper := [
  ⟨(some 24), .bsl 1 [.int .u8 0] 14 [0, 1, 2, 3, 4, 5, 6, 7, 8, 9, 10, 11, 12, 13] [(.c (.int .u8 64)), (.c (.int .u8 1)), (.c (.int .u8 1)), (.c (.int .u8 0)), (.c (.int .u8 64)), (.c (.int .u8 2)), (.c (.int .u8 0)), (.c (.int .u8 64)), (.c (.int .u8 3)), (.c (.int .u8 4)), (.c (.int .u8 10)), (.c (.int .u8 0)), (.c (.int .u8 0)), (.c (.int .u8 1))], none, []⟩,
  ⟨(some 25), .call (.c (.fn 69 [])) [(.t 24), (.c (.bool true))], none, []⟩,
  ⟨(some 23), .mv (.t 25), none, []⟩,
  ⟨(some 26), .ext (.t 23) 0, none, []⟩,
  ⟨(some 27), .ext (.t 23) 1, none, []⟩,
  ⟨(some 4), .alloc (.agg [.int .i64 0, .con (.slice none 0 0), .int .u32 0, .bool false, .int .i64 0, .bool false, .int .i64 0, .bool false, .bool false, .int .i64 0, .int .u32 0, .con (.slice none 0 0), .bool false, .int .u32 0, .con (.slice none 0 0), .con (.slice none 0 0)]), none, []⟩,
  ⟨none, .store 16 (.t 4) (.t 26), none, []⟩,
  ⟨(some 5), .mv (.t 27), none, []⟩]
def f64x4 : List AOper := [
  ⟨(some 29), .bsl 1 [.int .u8 0] 11 [0, 1, 2, 3, 4, 5, 6, 7, 8, 9, 10] [(.c (.int .u8 64)), (.c (.int .u8 1)), (.c (.int .u8 1)), (.c (.int .u8 0)), (.c (.int .u8 64)), (.c (.int .u8 3)), (.c (.int .u8 4)), (.c (.int .u8 10)), (.c (.int .u8 0)), (.c (.int .u8 0)), (.c (.int .u8 1))], none, []⟩,
  ⟨(some 30), .call (.c (.fn 69 [])) [(.t 29), (.c (.bool true))], none, []⟩,
  ⟨(some 28), .mv (.t 30), none, []⟩,
  ⟨(some 31), .ext (.t 28) 0, none, []⟩,
  ⟨(some 32), .ext (.t 28) 1, none, []⟩,
  ⟨(some 6), .alloc (.agg [.int .i64 0, .con (.slice none 0 0), .int .u32 0, .bool false, .int .i64 0, .bool false, .int .i64 0, .bool false, .bool false, .int .i64 0, .int .u32 0, .con (.slice none 0 0), .bool false, .int .u32 0, .con (.slice none 0 0), .con (.slice none 0 0)]), none, []⟩,
  ⟨none, .store 16 (.t 6) (.t 31), none, []⟩,
  ⟨(some 7), .mv (.t 32), none, []⟩]
def f64x5 : List AOper := [
  ⟨(some 34), .bsl 1 [.int .u8 0] 3 [0, 1, 2] [(.c (.int .u8 64)), (.c (.int .u8 1)), (.c (.int .u8 1))], none, []⟩,
  ⟨(some 35), .call (.c (.fn 69 [])) [(.t 34), (.c (.bool true))], none, []⟩,
  ⟨(some 33), .mv (.t 35), none, []⟩,
  ⟨(some 36), .ext (.t 33) 0, none, []⟩,
  ⟨(some 37), .ext (.t 33) 1, none, []⟩,
  ⟨(some 8), .alloc (.agg [.int .i64 0, .con (.slice none 0 0), .int .u32 0, .bool false, .int .i64 0, .bool false, .int .i64 0, .bool false, .bool false, .int .i64 0, .int .u32 0, .con (.slice none 0 0), .bool false, .int .u32 0, .con (.slice none 0 0), .con (.slice none 0 0)]), none, []⟩,
  ⟨none, .store 16 (.t 8) (.t 36), none, []⟩,
  ⟨(some 9), .mv (.t 37), none, []⟩]
def f64x6 : List AOper := [
  ⟨(some 39), .bsl 1 [.int .u8 0] 8 [0, 1, 2, 3, 4, 5, 6, 7] [(.c (.int .u8 64)), (.c (.int .u8 1)), (.c (.int .u8 1)), (.c (.int .u8 0)), (.c (.int .u8 64)), (.c (.int .u8 1)), (.c (.int .u8 1)), (.c (.int .u8 0))], none, []⟩,
  ⟨(some 40), .call (.c (.fn 69 [])) [(.t 39), (.c (.bool true))], none, []⟩,
  ⟨(some 38), .mv (.t 40), none, []⟩,
  ⟨(some 41), .ext (.t 38) 0, none, []⟩,
  ⟨(some 42), .ext (.t 38) 1, none, []⟩,
  ⟨(some 10), .alloc (.agg [.int .i64 0, .con (.slice none 0 0), .int .u32 0, .bool false, .int .i64 0, .bool false, .int .i64 0, .bool false, .bool false, .int .i64 0, .int .u32 0, .con (.slice none 0 0), .bool false, .int .u32 0, .con (.slice none 0 0), .con (.slice none 0 0)]), none, []⟩,
  ⟨none, .store 16 (.t 10) (.t 41), none, []⟩,
  ⟨(some 11), .mv (.t 42), none, []⟩]
def f64x7 : List AOper := [
  ⟨(some 44), .bsl 1 [.int .u8 0] 4 [0, 1, 2, 3] [(.c (.int .u8 0)), (.c (.int .u8 1)), (.c (.int .u8 1)), (.c (.int .u8 0))], none, []⟩,
  ⟨(some 45), .call (.c (.fn 69 [])) [(.t 44), (.c (.bool true))], none, []⟩,
  ⟨(some 43), .mv (.t 45), none, []⟩,
  ⟨(some 46), .ext (.t 43) 0, none, []⟩,
  ⟨(some 47), .ext (.t 43) 1, none, []⟩,
  ⟨(some 12), .alloc (.agg [.int .i64 0, .con (.slice none 0 0), .int .u32 0, .bool false, .int .i64 0, .bool false, .int .i64 0, .bool false, .bool false, .int .i64 0, .int .u32 0, .con (.slice none 0 0), .bool false, .int .u32 0, .con (.slice none 0 0), .con (.slice none 0 0)]), none, []⟩,
  ⟨none, .store 16 (.t 12) (.t 46), none, []⟩,
  ⟨(some 13), .mv (.t 47), none, []⟩]
def f64x8 : List AOper := [
  ⟨(some 48), .mv (.t 3), none, []⟩,
  ⟨(some 49), .bin .neq (.t 48) (.c (.int .i64 0)), none, []⟩,
  ⟨(some 50), .mv (.t 49), none, []⟩,
  ⟨(some 51), .mv (.t 5), (some (50, false)), []⟩,
  ⟨(some 52), .bin .neq (.t 51) (.c (.int .i64 0)), (some (50, false)), []⟩,
  ⟨(some 53), .pick (.t 50) (.c (.bool true)) (.t 52), none, []⟩,
  ⟨(some 54), .mv (.t 53), none, []⟩,
  ⟨(some 55), .mv (.t 7), (some (54, false)), []⟩,
  ⟨(some 56), .bin .neq (.t 55) (.c (.int .i64 6)), (some (54, false)), []⟩,
  ⟨(some 57), .pick (.t 54) (.c (.bool true)) (.t 56), none, []⟩,
  ⟨(some 58), .mv (.t 57), none, []⟩,
  ⟨(some 59), .mv (.t 9), (some (58, false)), []⟩,
  ⟨(some 60), .bin .neq (.t 59) (.c (.int .i64 3)), (some (58, false)), []⟩,
  ⟨(some 61), .pick (.t 58) (.c (.bool true)) (.t 60), none, []⟩,
  ⟨(some 62), .mv (.t 61), none, []⟩,
  ⟨(some 63), .mv (.t 11), (some (62, false)), []⟩,
  ⟨(some 64), .bin .neq (.t 63) (.c (.int .i64 16)), (some (62, false)), []⟩,
  ⟨(some 65), .pick (.t 62) (.c (.bool true)) (.t 64), none, []⟩,
  ⟨(some 66), .mv (.t 65), none, []⟩,
  ⟨(some 67), .mv (.t 13), (some (66, false)), []⟩,
  ⟨(some 68), .bin .neq (.t 67) (.c (.int .i64 2)), (some (66, false)), []⟩,
  ⟨(some 69), .pick (.t 66) (.c (.bool true)) (.t 68), none, []⟩,
  ⟨(some 70), .mv (.t 69), none, []⟩,
  ⟨(some 71), .mv (.t 2), (some (70, false)), []⟩,
  ⟨(some 72), .len false (.t 71), (some (70, false)), []⟩,
  ⟨(some 73), .bin .neq (.t 72) (.c (.int .i64 14)), (some (70, false)), []⟩,
  ⟨(some 74), .pick (.t 70) (.c (.bool true)) (.t 73), none, []⟩,
  ⟨(some 75), .mv (.t 74), none, []⟩,
  ⟨(some 76), .mv (.t 2), (some (75, false)), []⟩,
  ⟨(some 77), .iadr 1 (.t 76) (.c (.int .i64 13)), (some (75, false)), []⟩,
  ⟨(some 78), .load none (.t 77), (some (75, false)), []⟩,
  ⟨(some 79), .bin .neq (.t 78) (.c (.int .u8 1)), (some (75, false)), []⟩,
  ⟨(some 80), .pick (.t 75) (.c (.bool true)) (.t 79), none, []⟩,
  ⟨(some 81), .mv (.t 80), none, []⟩,
  ⟨(some 82), .load (some 16) (.t 1), (some (81, false)), []⟩,
  ⟨(some 83), .load (some 16) (.t 4), (some (81, false)), []⟩,
  ⟨(some 84), .call (.c (.fn 70 [])) [(.t 82), (.t 83)], (some (81, false)), []⟩,
  ⟨(some 85), .un .not (.t 84), (some (81, false)), []⟩,
  ⟨(some 86), .pick (.t 81) (.c (.bool true)) (.t 85), none, []⟩,
  ⟨(some 87), .mv (.t 86), none, []⟩,
  ⟨(some 88), .load (some 16) (.t 1), (some (87, false)), []⟩,
  ⟨(some 89), .load (some 16) (.t 4), (some (87, false)), []⟩,
  ⟨(some 90), .call (.c (.fn 72 [])) [(.t 88), (.t 89)], (some (87, false)), []⟩,
  ⟨(some 91), .un .not (.t 90), (some (87, false)), []⟩,
  ⟨(some 92), .pick (.t 87) (.c (.bool true)) (.t 91), none, []⟩]
def f64x9 : List AOper := [
  ⟨(some 0), .mv (.c (.bool false)), none, []⟩]
def f64x10 : List AOper := [
  ⟨(some 93), .bsl 1 [.int .i64 0] 1 [0] [(.c (.int .i64 65001))], none, []⟩,
  ⟨(some 94), .build [.int .i64 0, .con (.slice none 0 0)] [(0, 1), (1, 1)] [(.c (.int .i64 2)), (.t 93)], none, []⟩,
  ⟨(some 95), .bsl 2 [.int .i64 0, .con (.slice none 0 0)] 1 [0] [(.t 94)], none, []⟩,
  ⟨(some 96), .build [.int .i64 0, .con (.slice none 0 0), .int .u32 0, .bool false, .int .i64 0, .bool false, .int .i64 0, .bool false, .bool false, .int .i64 0, .int .u32 0, .con (.slice none 0 0), .bool false, .int .u32 0, .con (.slice none 0 0), .con (.slice none 0 0)] [(2, 1), (1, 1)] [(.c (.int .u32 1)), (.t 95)], none, []⟩,
  ⟨(some 14), .alloc (.agg [.int .i64 0, .con (.slice none 0 0), .int .u32 0, .bool false, .int .i64 0, .bool false, .int .i64 0, .bool false, .bool false, .int .i64 0, .int .u32 0, .con (.slice none 0 0), .bool false, .int .u32 0, .con (.slice none 0 0), .con (.slice none 0 0)]), none, []⟩,
  ⟨none, .store 16 (.t 14) (.t 96), none, []⟩]
def f64x11 : List AOper := [
  ⟨(some 98), .load (some 16) (.t 14), none, []⟩,
  ⟨(some 99), .call (.c (.fn 67 [])) [(.t 98), (.c (.bool true))], none, []⟩,
  ⟨(some 97), .mv (.t 99), none, []⟩,
  ⟨(some 100), .ext (.t 97) 0, none, []⟩,
  ⟨(some 101), .ext (.t 97) 1, none, []⟩,
  ⟨(some 15), .mv (.t 100), none, []⟩,
  ⟨(some 16), .mv (.t 101), none, []⟩]
def f64x12 : List AOper := [
  ⟨(some 102), .mv (.t 16), none, []⟩,
  ⟨(some 103), .bin .eql (.t 102) (.c (.int .i64 0)), none, []⟩,
  ⟨(some 104), .mv (.t 103), none, []⟩,
  ⟨(some 105), .mv (.t 15), (some (104, true)), []⟩,
  ⟨(some 106), .len false (.t 105), (some (104, true)), []⟩,
  ⟨(some 107), .bin .eql (.t 106) (.c (.int .i64 20)), (some (104, true)), []⟩,
  ⟨(some 108), .pick (.t 104) (.t 107) (.c (.bool false)), none, []⟩,
  ⟨(some 109), .mv (.t 108), none, []⟩,
  ⟨(some 110), .mv (.t 15), (some (109, true)), []⟩,
  ⟨(some 111), .iadr 1 (.t 110) (.c (.int .i64 6)), (some (109, true)), []⟩,
  ⟨(some 112), .load none (.t 111), (some (109, true)), []⟩,
  ⟨(some 113), .bin .eql (.t 112) (.c (.int .u8 6)), (some (109, true)), []⟩,
  ⟨(some 114), .pick (.t 109) (.t 113) (.c (.bool false)), none, []⟩,
  ⟨(some 115), .mv (.t 114), none, []⟩,
  ⟨(some 116), .mv (.t 15), (some (115, true)), []⟩,
  ⟨(some 117), .iadr 1 (.t 116) (.c (.int .i64 12)), (some (115, true)), []⟩,
  ⟨(some 118), .load none (.t 117), (some (115, true)), []⟩,
  ⟨(some 119), .bin .eql (.t 118) (.c (.int .u8 233)), (some (115, true)), []⟩,
  ⟨(some 120), .pick (.t 115) (.t 119) (.c (.bool false)), none, []⟩,
  ⟨(some 121), .mv (.t 120), none, []⟩,
  ⟨(some 122), .load (some 16) (.t 1), (some (121, true)), []⟩,
  ⟨(some 123), .call (.c (.fn 65 [])) [(.t 122)], (some (121, true)), []⟩,
  ⟨(some 124), .bin .eql (.t 123) (.c (.int .i64 0)), (some (121, true)), []⟩,
  ⟨(some 125), .pick (.t 121) (.t 124) (.c (.bool false)), none, []⟩,
  ⟨(some 126), .mv (.t 125), none, []⟩,
  ⟨(some 127), .build [.int .i64 0, .con (.slice none 0 0), .int .u32 0, .bool false, .int .i64 0, .bool false, .int .i64 0, .bool false, .bool false, .int .i64 0, .int .u32 0, .con (.slice none 0 0), .bool false, .int .u32 0, .con (.slice none 0 0), .con (.slice none 0 0)] [] [], (some (126, true)), []⟩,
  ⟨(some 128), .call (.c (.fn 65 [])) [(.t 127)], (some (126, true)), []⟩,
  ⟨(some 129), .bin .eql (.t 128) (.c (.int .i64 1)), (some (126, true)), []⟩,
  ⟨(some 130), .pick (.t 126) (.t 129) (.c (.bool false)), none, []⟩,
  ⟨(some 131), .mv (.t 130), none, []⟩,
  ⟨(some 132), .build [.int .i64 0, .con (.slice none 0 0), .int .u32 0, .bool false, .int .i64 0, .bool false, .int .i64 0, .bool false, .bool false, .int .i64 0, .int .u32 0, .con (.slice none 0 0), .bool false, .int .u32 0, .con (.slice none 0 0), .con (.slice none 0 0)] [(0, 1)] [(.c (.int .i64 3))], (some (131, true)), []⟩,
  ⟨(some 133), .call (.c (.fn 65 [])) [(.t 132)], (some (131, true)), []⟩,
  ⟨(some 134), .bin .eql (.t 133) (.c (.int .i64 5)), (some (131, true)), []⟩,
  ⟨(some 135), .pick (.t 131) (.t 134) (.c (.bool false)), none, []⟩,
  ⟨(some 136), .mv (.t 135), none, []⟩,
  ⟨(some 137), .load (some 16) (.t 1), (some (136, true)), []⟩,
  ⟨(some 138), .load (some 16) (.t 14), (some (136, true)), []⟩,
  ⟨(some 139), .call (.c (.fn 72 [])) [(.t 137), (.t 138)], (some (136, true)), []⟩,
  ⟨(some 140), .un .not (.t 139), (some (136, true)), []⟩,
  ⟨(some 141), .pick (.t 136) (.t 140) (.c (.bool false)), none, []⟩,
  ⟨(some 0), .mv (.t 141), none, []⟩]
def f64 : AFunc := ⟨142, 0, false, [.t 0], (.seq (.region f64x0 false) (.seq (.region f64x1 false) (.seq (.region f64x2 false) (.seq (.region f64x3 false) (.seq (.region f64x4 false) (.seq (.region f64x5 false) (.seq (.region f64x6 false) (.seq (.region f64x7 false) (.seq (.seq (.region f64x8 false) (.cond (.t 92) (.seq (.region f64x9 false) .ret) .skip)) (.seq (.region f64x10 false) (.seq (.region f64x11 false) (.seq (.region f64x12 false) .ret))))))))))))⟩

/-- routing/attrs.Check -/
def f65x0 : List AOper := [
  ⟨(some 1), .box (.t 0), none, []⟩,
  ⟨(some 2), .mv (.c (.int .i64 0)), none, []⟩]
def f65x1 : List AOper := [
  ⟨(some 3), .fadr 0 (.t 1), none, []⟩,
  ⟨(some 4), .load none (.t 3), none, []⟩,
  ⟨(some 5), .bin .lss (.t 4) (.c (.int .i64 0)), none, []⟩,
  ⟨(some 6), .mv (.t 5), none, []⟩,
  ⟨(some 7), .fadr 0 (.t 1), (some (6, false)), []⟩,
  ⟨(some 8), .load none (.t 7), (some (6, false)), [1]⟩,
  ⟨(some 9), .bin .gtr (.t 8) (.c (.int .i64 2)), (some (6, false)), []⟩,
  ⟨(some 10), .pick (.t 6) (.c (.bool true)) (.t 9), none, []⟩,
  ⟨(some 11), .call (.c (.fn 74 [])) [(.t 10), (.c (.int .i64 5))], none, [5, 1]⟩,
  ⟨(some 12), .fadr 1 (.t 1), none, []⟩,
  ⟨(some 13), .load none (.t 12), none, []⟩,
  ⟨(some 14), .call (.c (.fn 75 [])) [(.t 13)], none, [10, 8, 5, 1]⟩,
  ⟨(some 15), .fadr 2 (.t 1), none, []⟩,
  ⟨(some 16), .load none (.t 15), none, []⟩,
  ⟨(some 17), .bin .eql (.t 16) (.c (.int .u32 0)), none, []⟩,
  ⟨(some 18), .call (.c (.fn 74 [])) [(.t 17), (.c (.int .i64 1))], none, [11, 13, 10, 8, 5, 1]⟩,
  ⟨(some 19), .fadr 3 (.t 1), none, []⟩,
  ⟨(some 20), .load none (.t 19), none, []⟩,
  ⟨(some 21), .fadr 4 (.t 1), none, []⟩,
  ⟨(some 22), .load none (.t 21), none, []⟩,
  ⟨(some 23), .call (.c (.fn 76 [])) [(.t 20), (.t 22), (.c (.int .i64 0))], none, [17, 19, 15, 11, 13, 10, 8, 5, 1]⟩,
  ⟨(some 24), .fadr 5 (.t 1), none, []⟩,
  ⟨(some 25), .load none (.t 24), none, []⟩,
  ⟨(some 26), .fadr 6 (.t 1), none, []⟩,
  ⟨(some 27), .load none (.t 26), none, []⟩,
  ⟨(some 28), .call (.c (.fn 76 [])) [(.t 25), (.t 27), (.c (.int .i64 0))], none, [22, 24, 20, 17, 19, 15, 11, 13, 10, 8, 5, 1]⟩,
  ⟨(some 29), .fadr 8 (.t 1), none, []⟩,
  ⟨(some 30), .load none (.t 29), none, []⟩,
  ⟨(some 31), .fadr 9 (.t 1), none, []⟩,
  ⟨(some 32), .load none (.t 31), none, []⟩,
  ⟨(some 33), .call (.c (.fn 76 [])) [(.t 30), (.t 32), (.c (.int .i64 1))], none, [27, 29, 25, 22, 24, 20, 17, 19, 15, 11, 13, 10, 8, 5, 1]⟩,
  ⟨(some 34), .fadr 8 (.t 1), none, []⟩,
  ⟨(some 35), .load none (.t 34), none, []⟩,
  ⟨(some 36), .un .not (.t 35), none, []⟩,
  ⟨(some 37), .mv (.t 36), none, []⟩,
  ⟨(some 38), .fadr 10 (.t 1), (some (37, true)), []⟩,
  ⟨(some 39), .load none (.t 38), (some (37, true)), [30, 32, 27, 29, 25, 22, 24, 20, 17, 19, 15, 11, 13, 10, 8, 5, 1]⟩,
  ⟨(some 40), .bin .neq (.t 39) (.c (.int .u32 0)), (some (37, true)), []⟩,
  ⟨(some 41), .pick (.t 37) (.t 40) (.c (.bool false)), none, []⟩,
  ⟨(some 42), .call (.c (.fn 74 [])) [(.t 41), (.c (.int .i64 1))], none, [36, 30, 32, 27, 29, 25, 22, 24, 20, 17, 19, 15, 11, 13, 10, 8, 5, 1]⟩,
  ⟨(some 43), .fadr 11 (.t 1), none, []⟩,
  ⟨(some 44), .load none (.t 43), none, []⟩,
  ⟨(some 45), .call (.c (.fn 77 [])) [(.t 44)], none, [41, 39, 36, 30, 32, 27, 29, 25, 22, 24, 20, 17, 19, 15, 11, 13, 10, 8, 5, 1]⟩,
  ⟨(some 46), .fadr 12 (.t 1), none, []⟩,
  ⟨(some 47), .load none (.t 46), none, []⟩,
  ⟨(some 48), .fadr 13 (.t 1), none, []⟩,
  ⟨(some 49), .load none (.t 48), none, []⟩,
  ⟨(some 50), .bin .eql (.t 49) (.c (.int .u32 0)), none, []⟩,
  ⟨(some 51), .eqb false (.t 47) (.t 50), none, []⟩,
  ⟨(some 52), .call (.c (.fn 74 [])) [(.t 51), (.c (.int .i64 1))], none, [42, 44, 46, 41, 39, 36, 30, 32, 27, 29, 25, 22, 24, 20, 17, 19, 15, 11, 13, 10, 8, 5, 1]⟩,
  ⟨(some 53), .fadr 14 (.t 1), none, []⟩,
  ⟨(some 54), .load none (.t 53), none, []⟩,
  ⟨(some 55), .call (.c (.fn 78 [])) [(.t 54)], none, [51, 49, 42, 44, 46, 41, 39, 36, 30, 32, 27, 29, 25, 22, 24, 20, 17, 19, 15, 11, 13, 10, 8, 5, 1]⟩,
  ⟨(some 56), .fadr 15 (.t 1), none, []⟩,
  ⟨(some 57), .load none (.t 56), none, []⟩,
  ⟨(some 58), .call (.c (.fn 79 [])) [(.t 57)], none, [54, 52, 51, 49, 42, 44, 46, 41, 39, 36, 30, 32, 27, 29, 25, 22, 24, 20, 17, 19, 15, 11, 13, 10, 8, 5, 1]⟩,
  ⟨(some 59), .bsl 1 [.int .i64 0] 11 [0, 1, 2, 3, 4, 5, 6, 7, 8, 9, 10] [(.t 11), (.t 14), (.t 18), (.t 23), (.t 28), (.t 33), (.t 42), (.t 45), (.t 52), (.t 55), (.t 58)], none, [55, 54, 52, 51, 49, 42, 44, 46, 41, 39, 36, 30, 32, 27, 29, 25, 22, 24, 20, 17, 19, 15, 11, 13, 10, 8, 5, 1]⟩,
  ⟨(some 60), .call (.c (.fn 73 [])) [(.t 59)], none, [56, 55, 54, 52, 51, 49, 42, 44, 46, 41, 39, 36, 30, 32, 27, 29, 25, 22, 24, 20, 17, 19, 15, 11, 13, 10, 8, 5, 1]⟩,
  ⟨(some 2), .mv (.t 60), none, []⟩]
def f65 : AFunc := ⟨61, 1, false, [.t 2], (.seq (.region f65x0 false) (.seq (.region f65x1 true) .ret))⟩

/-- routing/routingref36.Check -/
def f66x0 : List AOper := [
  ⟨(some 1), .box (.t 0), none, []⟩,
  ⟨(some 2), .mv (.c (.int .i64 0)), none, []⟩]
def f66x1 : List AOper := [
  ⟨(some 9), .fadr 0 (.t 1), none, []⟩,
  ⟨(some 10), .load none (.t 9), none, []⟩,
  ⟨(some 11), .bin .lss (.t 10) (.c (.int .i64 0)), none, []⟩,
  ⟨(some 12), .mv (.t 11), none, []⟩,
  ⟨(some 13), .fadr 0 (.t 1), (some (12, false)), []⟩,
  ⟨(some 14), .load none (.t 13), (some (12, false)), []⟩,
  ⟨(some 15), .bin .gtr (.t 14) (.c (.int .i64 2)), (some (12, false)), []⟩,
  ⟨(some 16), .pick (.t 12) (.c (.bool true)) (.t 15), none, []⟩]
def f66x2 : List AOper := [
  ⟨(some 2), .mv (.c (.int .i64 5)), none, []⟩]
def f66x3 : List AOper := [
  ⟨(some 17), .fadr 1 (.t 1), none, []⟩,
  ⟨(some 18), .load none (.t 17), none, []⟩,
  ⟨(some 19), .call (.c (.fn 80 [])) [(.t 18)], none, []⟩,
  ⟨(some 3), .mv (.t 19), none, []⟩]
def f66x4 : List AOper := [
  ⟨(some 20), .mv (.t 3), none, []⟩,
  ⟨(some 21), .bin .neq (.t 20) (.c (.int .i64 0)), none, []⟩]
def f66x5 : List AOper := [
  ⟨(some 22), .mv (.t 3), none, []⟩,
  ⟨(some 2), .mv (.t 22), none, []⟩]
def f66x6 : List AOper := [
  ⟨(some 24), .fadr 2 (.t 1), none, []⟩,
  ⟨(some 25), .load none (.t 24), none, []⟩,
  ⟨(some 26), .bin .eql (.t 25) (.c (.int .u32 0)), none, []⟩,
  ⟨(some 23), .mv (.t 26), none, []⟩]
def f66x7 : List AOper := [
  ⟨(some 2), .mv (.c (.int .i64 1)), none, []⟩]
def f66x8 : List AOper := [
  ⟨(some 28), .fadr 3 (.t 1), none, []⟩,
  ⟨(some 29), .load none (.t 28), none, []⟩,
  ⟨(some 30), .mv (.t 29), none, []⟩,
  ⟨(some 31), .fadr 4 (.t 1), (some (30, true)), []⟩,
  ⟨(some 32), .load none (.t 31), (some (30, true)), []⟩,
  ⟨(some 33), .call (.c (.fn 81 [])) [(.t 32)], (some (30, true)), []⟩,
  ⟨(some 34), .un .not (.t 33), (some (30, true)), []⟩,
  ⟨(some 35), .pick (.t 30) (.t 34) (.c (.bool false)), none, []⟩,
  ⟨(some 27), .mv (.t 35), none, []⟩]
def f66x9 : List AOper := [
  ⟨(some 2), .mv (.c (.int .i64 5)), none, []⟩]
def f66x10 : List AOper := [
  ⟨(some 37), .fadr 3 (.t 1), none, []⟩,
  ⟨(some 38), .load none (.t 37), none, []⟩,
  ⟨(some 39), .un .not (.t 38), none, []⟩,
  ⟨(some 40), .mv (.t 39), none, []⟩,
  ⟨(some 41), .fadr 4 (.t 1), (some (40, true)), []⟩,
  ⟨(some 42), .load none (.t 41), (some (40, true)), []⟩,
  ⟨(some 43), .bin .neq (.t 42) (.c (.int .i64 0)), (some (40, true)), []⟩,
  ⟨(some 44), .pick (.t 40) (.t 43) (.c (.bool false)), none, []⟩,
  ⟨(some 36), .mv (.t 44), none, []⟩]
def f66x11 : List AOper := [
  ⟨(some 2), .mv (.c (.int .i64 1)), none, []⟩]
def f66x12 : List AOper := [
  ⟨(some 46), .fadr 5 (.t 1), none, []⟩,
  ⟨(some 47), .load none (.t 46), none, []⟩,
  ⟨(some 48), .mv (.t 47), none, []⟩,
  ⟨(some 49), .fadr 6 (.t 1), (some (48, true)), []⟩,
  ⟨(some 50), .load none (.t 49), (some (48, true)), []⟩,
  ⟨(some 51), .call (.c (.fn 81 [])) [(.t 50)], (some (48, true)), []⟩,
  ⟨(some 52), .un .not (.t 51), (some (48, true)), []⟩,
  ⟨(some 53), .pick (.t 48) (.t 52) (.c (.bool false)), none, []⟩,
  ⟨(some 45), .mv (.t 53), none, []⟩]
def f66x13 : List AOper := [
  ⟨(some 2), .mv (.c (.int .i64 5)), none, []⟩]
def f66x14 : List AOper := [
  ⟨(some 55), .fadr 5 (.t 1), none, []⟩,
  ⟨(some 56), .load none (.t 55), none, []⟩,
  ⟨(some 57), .un .not (.t 56), none, []⟩,
  ⟨(some 58), .mv (.t 57), none, []⟩,
  ⟨(some 59), .fadr 6 (.t 1), (some (58, true)), []⟩,
  ⟨(some 60), .load none (.t 59), (some (58, true)), []⟩,
  ⟨(some 61), .bin .neq (.t 60) (.c (.int .i64 0)), (some (58, true)), []⟩,
  ⟨(some 62), .pick (.t 58) (.t 61) (.c (.bool false)), none, []⟩,
  ⟨(some 54), .mv (.t 62), none, []⟩]
def f66x15 : List AOper := [
  ⟨(some 2), .mv (.c (.int .i64 1)), none, []⟩]
def f66x16 : List AOper := [
  ⟨(some 64), .fadr 8 (.t 1), none, []⟩,
  ⟨(some 65), .load none (.t 64), none, []⟩,
  ⟨(some 66), .mv (.t 65), none, []⟩,
  ⟨(some 67), .fadr 9 (.t 1), (some (66, true)), []⟩,
  ⟨(some 68), .load none (.t 67), (some (66, true)), []⟩,
  ⟨(some 69), .bin .lss (.t 68) (.c (.int .i64 1)), (some (66, true)), []⟩,
  ⟨(some 70), .mv (.t 69), (some (66, true)), []⟩,
  ⟨(some 71), .fadr 9 (.t 1), (some (70, false)), []⟩,
  ⟨(some 72), .load none (.t 71), (some (70, false)), []⟩,
  ⟨(some 73), .bin .gtr (.t 72) (.c (.int .i64 4294967295)), (some (70, false)), []⟩,
  ⟨(some 74), .pick (.t 70) (.c (.bool true)) (.t 73), (some (66, true)), []⟩,
  ⟨(some 75), .pick (.t 66) (.t 74) (.c (.bool false)), none, []⟩,
  ⟨(some 63), .mv (.t 75), none, []⟩]
def f66x17 : List AOper := [
  ⟨(some 2), .mv (.c (.int .i64 5)), none, []⟩]
def f66x18 : List AOper := [
  ⟨(some 77), .fadr 8 (.t 1), none, []⟩,
  ⟨(some 78), .load none (.t 77), none, []⟩,
  ⟨(some 79), .un .not (.t 78), none, []⟩,
  ⟨(some 80), .mv (.t 79), none, []⟩,
  ⟨(some 81), .fadr 9 (.t 1), (some (80, true)), []⟩,
  ⟨(some 82), .load none (.t 81), (some (80, true)), []⟩,
  ⟨(some 83), .bin .neq (.t 82) (.c (.int .i64 0)), (some (80, true)), []⟩,
  ⟨(some 84), .mv (.t 83), (some (80, true)), []⟩,
  ⟨(some 85), .fadr 10 (.t 1), (some (84, false)), []⟩,
  ⟨(some 86), .load none (.t 85), (some (84, false)), []⟩,
  ⟨(some 87), .bin .neq (.t 86) (.c (.int .u32 0)), (some (84, false)), []⟩,
  ⟨(some 88), .pick (.t 84) (.c (.bool true)) (.t 87), (some (80, true)), []⟩,
  ⟨(some 89), .pick (.t 80) (.t 88) (.c (.bool false)), none, []⟩,
  ⟨(some 76), .mv (.t 89), none, []⟩]
def f66x19 : List AOper := [
  ⟨(some 2), .mv (.c (.int .i64 1)), none, []⟩]
def f66x20 : List AOper := [
  ⟨(some 90), .fadr 11 (.t 1), none, []⟩,
  ⟨(some 91), .load none (.t 90), none, []⟩,
  ⟨(some 92), .call (.c (.fn 82 [])) [(.t 91)], none, []⟩,
  ⟨(some 4), .mv (.t 92), none, []⟩]
def f66x21 : List AOper := [
  ⟨(some 93), .mv (.t 4), none, []⟩,
  ⟨(some 94), .bin .neq (.t 93) (.c (.int .i64 0)), none, []⟩]
def f66x22 : List AOper := [
  ⟨(some 95), .mv (.t 4), none, []⟩,
  ⟨(some 2), .mv (.t 95), none, []⟩]
def f66x23 : List AOper := [
  ⟨(some 96), .fadr 12 (.t 1), none, []⟩,
  ⟨(some 97), .load none (.t 96), none, []⟩,
  ⟨(some 98), .fadr 13 (.t 1), none, []⟩,
  ⟨(some 99), .load none (.t 98), none, []⟩,
  ⟨(some 100), .bin .neq (.t 99) (.c (.int .u32 0)), none, []⟩,
  ⟨(some 101), .eqb true (.t 97) (.t 100), none, []⟩]
def f66x24 : List AOper := [
  ⟨(some 2), .mv (.c (.int .i64 1)), none, []⟩]
def f66x25 : List AOper := [
  ⟨(some 102), .fadr 14 (.t 1), none, []⟩,
  ⟨(some 103), .load none (.t 102), none, []⟩,
  ⟨(some 104), .len false (.t 103), none, []⟩,
  ⟨(some 105), .bin .gtr (.t 104) (.c (.int .i64 64)), none, []⟩]
def f66x26 : List AOper := [
  ⟨(some 2), .mv (.c (.int .i64 4)), none, []⟩]
def f66x27 : List AOper := [
  ⟨(some 106), .fadr 14 (.t 1), none, []⟩,
  ⟨(some 107), .load none (.t 106), none, []⟩,
  ⟨(some 108), .len false (.t 107), none, []⟩,
  ⟨(some 109), .mv (.c (.int .i64 0)), none, []⟩]
def f66x28 : List AOper := [
  ⟨(some 110), .bin .lss (.t 109) (.t 108), none, []⟩]
def f66x29 : List AOper := [
  ⟨(some 111), .iadr 1 (.t 107) (.t 109), none, []⟩,
  ⟨(some 112), .load none (.t 111), none, []⟩,
  ⟨(some 6), .mv (.t 112), none, []⟩]
def f66x30 : List AOper := [
  ⟨(some 113), .mv (.t 6), none, []⟩,
  ⟨(some 114), .bin .eql (.t 113) (.c (.int .u32 0)), none, []⟩]
def f66x31 : List AOper := [
  ⟨(some 2), .mv (.c (.int .i64 1)), none, []⟩]
def f66x32 : List AOper := [
  ⟨(some 115), .bin .add (.t 109) (.c (.int .i64 1)), none, []⟩,
  ⟨(some 109), .mv (.t 115), none, []⟩]
def f66x33L : ACode := (.seq (.region f66x28 false) (.seq (.cond (.t 110) .skip (.exit 1)) (.seq (.block 2 (.seq (.region f66x29 false) (.seq (.region f66x30 false) (.cond (.t 114) (.seq (.region f66x31 false) .ret) .skip)))) (.region f66x32 false))))
def f66x34 : List AOper := [
  ⟨(some 116), .fadr 15 (.t 1), none, []⟩,
  ⟨(some 117), .load none (.t 116), none, []⟩,
  ⟨(some 118), .len false (.t 117), none, []⟩,
  ⟨(some 119), .bin .gtr (.t 118) (.c (.int .i64 64)), none, []⟩]
def f66x35 : List AOper := [
  ⟨(some 2), .mv (.c (.int .i64 4)), none, []⟩]
def f66x36 : List AOper := [
  ⟨(some 120), .fadr 15 (.t 1), none, []⟩,
  ⟨(some 121), .load none (.t 120), none, []⟩,
  ⟨(some 122), .len false (.t 121), none, []⟩,
  ⟨(some 123), .mv (.c (.int .i64 0)), none, []⟩]
def f66x37 : List AOper := [
  ⟨(some 124), .bin .lss (.t 123) (.t 122), none, []⟩]
def f66x38 : List AOper := [
  ⟨(some 125), .mv (.t 123), none, []⟩,
  ⟨(some 126), .iadr 2 (.t 121) (.t 123), none, []⟩,
  ⟨(some 127), .load (some 2) (.t 126), none, []⟩,
  ⟨(some 8), .alloc (.agg [.int .i64 0, .con (.slice none 0 0)]), none, []⟩,
  ⟨(some 7), .mv (.t 125), none, []⟩,
  ⟨none, .store 2 (.t 8) (.t 127), none, []⟩]
def f66x39 : List AOper := [
  ⟨(some 129), .fadr 0 (.t 8), none, []⟩,
  ⟨(some 130), .load none (.t 129), none, []⟩,
  ⟨(some 131), .bin .lss (.t 130) (.c (.int .i64 11)), none, []⟩,
  ⟨(some 132), .mv (.t 131), none, []⟩,
  ⟨(some 133), .fadr 0 (.t 8), (some (132, false)), []⟩,
  ⟨(some 134), .load none (.t 133), (some (132, false)), []⟩,
  ⟨(some 135), .bin .gtr (.t 134) (.c (.int .i64 255)), (some (132, false)), []⟩,
  ⟨(some 136), .pick (.t 132) (.c (.bool true)) (.t 135), none, []⟩,
  ⟨(some 128), .mv (.t 136), none, []⟩]
def f66x40 : List AOper := [
  ⟨(some 2), .mv (.c (.int .i64 15)), none, []⟩]
def f66x41 : List AOper := [
  ⟨(some 138), .mv (.t 7), none, []⟩,
  ⟨(some 139), .bin .gtr (.t 138) (.c (.int .i64 0)), none, []⟩,
  ⟨(some 140), .mv (.t 139), none, []⟩,
  ⟨(some 141), .fadr 0 (.t 8), (some (140, true)), []⟩,
  ⟨(some 142), .load none (.t 141), (some (140, true)), []⟩,
  ⟨(some 143), .fadr 15 (.t 1), (some (140, true)), []⟩,
  ⟨(some 144), .load none (.t 143), (some (140, true)), []⟩,
  ⟨(some 145), .mv (.t 7), (some (140, true)), []⟩,
  ⟨(some 146), .bin .sub (.t 145) (.c (.int .i64 1)), (some (140, true)), []⟩,
  ⟨(some 147), .iadr 2 (.t 144) (.t 146), (some (140, true)), [6]⟩,
  ⟨(some 148), .fadr 0 (.t 147), (some (140, true)), []⟩,
  ⟨(some 149), .load none (.t 148), (some (140, true)), [9, 6]⟩,
  ⟨(some 150), .bin .leq (.t 142) (.t 149), (some (140, true)), []⟩,
  ⟨(some 151), .pick (.t 140) (.t 150) (.c (.bool false)), none, []⟩,
  ⟨(some 137), .mv (.t 151), none, []⟩]
def f66x42 : List AOper := [
  ⟨(some 2), .mv (.c (.int .i64 16)), none, []⟩]
def f66x43 : List AOper := [
  ⟨(some 153), .fadr 1 (.t 8), none, []⟩,
  ⟨(some 154), .load none (.t 153), none, []⟩,
  ⟨(some 155), .len false (.t 154), none, []⟩,
  ⟨(some 156), .bin .gtr (.t 155) (.c (.int .i64 255)), none, []⟩,
  ⟨(some 152), .mv (.t 156), none, []⟩]
def f66x44 : List AOper := [
  ⟨(some 2), .mv (.c (.int .i64 4)), none, []⟩]
def f66x45 : List AOper := [
  ⟨(some 157), .bin .add (.t 123) (.c (.int .i64 1)), none, []⟩,
  ⟨(some 123), .mv (.t 157), none, []⟩]
def f66x46L : ACode := (.seq (.region f66x37 false) (.seq (.cond (.t 124) .skip (.exit 3)) (.seq (.block 4 (.seq (.region f66x38 false) (.block 5 (.seq (.region f66x39 false) (.cond (.t 128) (.seq (.region f66x40 false) .ret) (.seq (.region f66x41 true) (.cond (.t 137) (.seq (.region f66x42 false) .ret) (.seq (.region f66x43 false) (.cond (.t 152) (.seq (.region f66x44 false) .ret) .skip))))))))) (.region f66x45 false))))
def f66x47 : List AOper := [
  ⟨(some 2), .mv (.c (.int .i64 0)), none, []⟩]
def f66 : AFunc := ⟨158, 1, false, [.t 2], (.seq (.region f66x0 false) (.seq (.seq (.region f66x1 false) (.cond (.t 16) (.seq (.region f66x2 false) .ret) .skip)) (.seq (.seq (.region f66x3 false) (.seq (.region f66x4 false) (.cond (.t 21) (.seq (.region f66x5 false) .ret) .skip))) (.seq (.block 0 (.seq (.region f66x6 false) (.cond (.t 23) (.seq (.region f66x7 false) .ret) (.seq (.region f66x8 false) (.cond (.t 27) (.seq (.region f66x9 false) .ret) (.seq (.region f66x10 false) (.cond (.t 36) (.seq (.region f66x11 false) .ret) (.seq (.region f66x12 false) (.cond (.t 45) (.seq (.region f66x13 false) .ret) (.seq (.region f66x14 false) (.cond (.t 54) (.seq (.region f66x15 false) .ret) (.seq (.region f66x16 false) (.cond (.t 63) (.seq (.region f66x17 false) .ret) (.seq (.region f66x18 false) (.cond (.t 76) (.seq (.region f66x19 false) .ret) .skip))))))))))))))) (.seq (.seq (.region f66x20 false) (.seq (.region f66x21 false) (.cond (.t 94) (.seq (.region f66x22 false) .ret) .skip))) (.seq (.seq (.region f66x23 false) (.cond (.t 101) (.seq (.region f66x24 false) .ret) .skip)) (.seq (.seq (.region f66x25 false) (.cond (.t 105) (.seq (.region f66x26 false) .ret) .skip)) (.seq (.seq (.region f66x27 false) (.block 1 (.loop f66x33L))) (.seq (.seq (.region f66x34 false) (.cond (.t 119) (.seq (.region f66x35 false) .ret) .skip)) (.seq (.seq (.region f66x36 false) (.block 3 (.loop f66x46L))) (.seq (.region f66x47 false) .ret)))))))))))⟩
def f66x33LH : List AItem := [.inLoop f66x33L, .inBlock 1, .code (.seq (.seq (.region f66x34 false) (.cond (.t 119) (.seq (.region f66x35 false) .ret) .skip)) (.seq (.seq (.region f66x36 false) (.block 3 (.loop f66x46L))) (.seq (.region f66x47 false) .ret)))]
def f66x46LH : List AItem := [.inLoop f66x46L, .inBlock 3, .code (.seq (.region f66x47 false) .ret)]

/-- routing/attrs.Encode -/
def f67x0 : List AOper := [
  ⟨(some 2), .box (.t 0), none, []⟩,
  ⟨(some 4), .mv (.c (.con (.slice none 0 0))), none, []⟩,
  ⟨(some 5), .mv (.c (.int .i64 0)), none, []⟩]
def f67x1 : List AOper := [
  ⟨(some 10), .load (some 16) (.t 2), none, []⟩,
  ⟨(some 11), .call (.c (.fn 65 [])) [(.t 10)], none, []⟩,
  ⟨(some 6), .mv (.t 11), none, []⟩]
def f67x2 : List AOper := [
  ⟨(some 12), .mv (.t 6), none, []⟩,
  ⟨(some 13), .bin .neq (.t 12) (.c (.int .i64 0)), none, []⟩]
def f67x3 : List AOper := [
  ⟨(some 14), .mv (.t 6), none, []⟩,
  ⟨(some 4), .mv (.c (.con (.slice none 0 0))), none, []⟩,
  ⟨(some 5), .mv (.t 14), none, []⟩]
def f67x4 : List AOper := [
  ⟨(some 15), .mv (.t 1), none, []⟩,
  ⟨(some 16), .build [.con (.slice none 0 0), .bool false, .bool false] [(1, 1)] [(.t 15)], none, []⟩,
  ⟨(some 17), .box (.t 16), none, []⟩,
  ⟨(some 7), .mv (.t 17), none, []⟩]
def f67x5 : List AOper := [
  ⟨(some 18), .mv (.t 7), none, []⟩,
  ⟨(some 19), .fadr 0 (.t 2), none, []⟩,
  ⟨(some 20), .load none (.t 19), none, []⟩,
  ⟨(some 21), .conv .u8 (.t 20), none, []⟩,
  ⟨(some 22), .bsl 1 [.int .u8 0] 1 [0] [(.t 21)], none, []⟩,
  ⟨(some 23), .bsl 1 [.con (.slice none 0 0)] 1 [0] [(.t 22)], none, []⟩,
  ⟨(some 24), .call (.c (.fn 83 [])) [(.t 18), (.c (.int .i64 1)), (.t 23)], none, []⟩]
def f67x6 : List AOper := [
  ⟨(some 25), .mv (.t 7), none, []⟩,
  ⟨(some 26), .mv (.t 7), none, []⟩,
  ⟨(some 27), .fadr 1 (.t 2), none, []⟩,
  ⟨(some 28), .load none (.t 27), none, []⟩,
  ⟨(some 29), .call (.c (.fn 84 [])) [(.t 26), (.t 28)], none, []⟩,
  ⟨(some 30), .bsl 1 [.con (.slice none 0 0)] 1 [0] [(.t 29)], none, []⟩,
  ⟨(some 31), .call (.c (.fn 83 [])) [(.t 25), (.c (.int .i64 2)), (.t 30)], none, []⟩]
def f67x7 : List AOper := [
  ⟨(some 32), .mv (.t 7), none, []⟩,
  ⟨(some 33), .fadr 2 (.t 2), none, []⟩,
  ⟨(some 34), .load none (.t 33), none, []⟩,
  ⟨(some 35), .conv .i64 (.t 34), none, []⟩,
  ⟨(some 36), .call (.c (.fn 85 [])) [(.t 35)], none, []⟩,
  ⟨(some 37), .bsl 1 [.con (.slice none 0 0)] 1 [0] [(.t 36)], none, []⟩,
  ⟨(some 38), .call (.c (.fn 83 [])) [(.t 32), (.c (.int .i64 3)), (.t 37)], none, []⟩]
def f67x8 : List AOper := [
  ⟨(some 39), .fadr 3 (.t 2), none, []⟩,
  ⟨(some 40), .load none (.t 39), none, []⟩]
def f67x9 : List AOper := [
  ⟨(some 41), .mv (.t 7), none, []⟩,
  ⟨(some 42), .fadr 4 (.t 2), none, []⟩,
  ⟨(some 43), .load none (.t 42), none, []⟩,
  ⟨(some 44), .call (.c (.fn 85 [])) [(.t 43)], none, []⟩,
  ⟨(some 45), .bsl 1 [.con (.slice none 0 0)] 1 [0] [(.t 44)], none, []⟩,
  ⟨(some 46), .call (.c (.fn 83 [])) [(.t 41), (.c (.int .i64 4)), (.t 45)], none, []⟩]
def f67x10 : List AOper := [
  ⟨(some 47), .fadr 5 (.t 2), none, []⟩,
  ⟨(some 48), .load none (.t 47), none, []⟩]
def f67x11 : List AOper := [
  ⟨(some 49), .mv (.t 7), none, []⟩,
  ⟨(some 50), .fadr 6 (.t 2), none, []⟩,
  ⟨(some 51), .load none (.t 50), none, []⟩,
  ⟨(some 52), .call (.c (.fn 85 [])) [(.t 51)], none, []⟩,
  ⟨(some 53), .bsl 1 [.con (.slice none 0 0)] 1 [0] [(.t 52)], none, []⟩,
  ⟨(some 54), .call (.c (.fn 83 [])) [(.t 49), (.c (.int .i64 5)), (.t 53)], none, []⟩]
def f67x12 : List AOper := [
  ⟨(some 55), .fadr 7 (.t 2), none, []⟩,
  ⟨(some 56), .load none (.t 55), none, []⟩]
def f67x13 : List AOper := [
  ⟨(some 57), .mv (.t 7), none, []⟩,
  ⟨(some 58), .call (.c (.fn 83 [])) [(.t 57), (.c (.int .i64 6)), (.c (.con (.slice none 0 0)))], none, []⟩]
def f67x14 : List AOper := [
  ⟨(some 59), .fadr 8 (.t 2), none, []⟩,
  ⟨(some 60), .load none (.t 59), none, []⟩]
def f67x15 : List AOper := [
  ⟨(some 61), .mv (.t 7), none, []⟩,
  ⟨(some 62), .mv (.t 7), none, []⟩,
  ⟨(some 63), .fadr 9 (.t 2), none, []⟩,
  ⟨(some 64), .load none (.t 63), none, []⟩,
  ⟨(some 65), .call (.c (.fn 86 [])) [(.t 62), (.t 64)], none, [3]⟩,
  ⟨(some 66), .fadr 10 (.t 2), none, []⟩,
  ⟨(some 67), .load none (.t 66), none, []⟩,
  ⟨(some 68), .conv .i64 (.t 67), none, []⟩,
  ⟨(some 69), .call (.c (.fn 85 [])) [(.t 68)], none, [4, 6, 3]⟩,
  ⟨(some 70), .bsl 1 [.con (.slice none 0 0)] 2 [0, 1] [(.t 65), (.t 69)], none, [8, 4, 6, 3]⟩,
  ⟨(some 71), .call (.c (.fn 83 [])) [(.t 61), (.c (.int .i64 7)), (.t 70)], none, [9, 8, 4, 6, 3]⟩]
def f67x16 : List AOper := [
  ⟨(some 72), .fadr 11 (.t 2), none, []⟩,
  ⟨(some 73), .load none (.t 72), none, []⟩,
  ⟨(some 74), .len false (.t 73), none, []⟩,
  ⟨(some 75), .bin .gtr (.t 74) (.c (.int .i64 0)), none, []⟩]
def f67x17 : List AOper := [
  ⟨(some 76), .mv (.t 7), none, []⟩,
  ⟨(some 77), .fadr 11 (.t 2), none, []⟩,
  ⟨(some 78), .load none (.t 77), none, []⟩,
  ⟨(some 79), .call (.c (.fn 87 [])) [(.t 78)], none, []⟩,
  ⟨(some 80), .bsl 1 [.con (.slice none 0 0)] 1 [0] [(.t 79)], none, []⟩,
  ⟨(some 81), .call (.c (.fn 83 [])) [(.t 76), (.c (.int .i64 8)), (.t 80)], none, []⟩]
def f67x18 : List AOper := [
  ⟨(some 82), .fadr 12 (.t 2), none, []⟩,
  ⟨(some 83), .load none (.t 82), none, []⟩]
def f67x19 : List AOper := [
  ⟨(some 84), .mv (.t 7), none, []⟩,
  ⟨(some 85), .fadr 13 (.t 2), none, []⟩,
  ⟨(some 86), .load none (.t 85), none, []⟩,
  ⟨(some 87), .conv .i64 (.t 86), none, []⟩,
  ⟨(some 88), .call (.c (.fn 85 [])) [(.t 87)], none, []⟩,
  ⟨(some 89), .bsl 1 [.con (.slice none 0 0)] 1 [0] [(.t 88)], none, []⟩,
  ⟨(some 90), .call (.c (.fn 83 [])) [(.t 84), (.c (.int .i64 9)), (.t 89)], none, []⟩]
def f67x20 : List AOper := [
  ⟨(some 91), .fadr 14 (.t 2), none, []⟩,
  ⟨(some 92), .load none (.t 91), none, []⟩,
  ⟨(some 93), .len false (.t 92), none, []⟩,
  ⟨(some 94), .bin .gtr (.t 93) (.c (.int .i64 0)), none, []⟩]
def f67x21 : List AOper := [
  ⟨(some 95), .mv (.t 7), none, []⟩,
  ⟨(some 96), .fadr 14 (.t 2), none, []⟩,
  ⟨(some 97), .load none (.t 96), none, []⟩,
  ⟨(some 98), .call (.c (.fn 87 [])) [(.t 97)], none, []⟩,
  ⟨(some 99), .bsl 1 [.con (.slice none 0 0)] 1 [0] [(.t 98)], none, []⟩,
  ⟨(some 100), .call (.c (.fn 83 [])) [(.t 95), (.c (.int .i64 10)), (.t 99)], none, []⟩]
def f67x22 : List AOper := [
  ⟨(some 101), .fadr 15 (.t 2), none, []⟩,
  ⟨(some 102), .load none (.t 101), none, []⟩,
  ⟨(some 103), .len false (.t 102), none, []⟩,
  ⟨(some 104), .mv (.c (.int .i64 0)), none, []⟩]
def f67x23 : List AOper := [
  ⟨(some 105), .bin .lss (.t 104) (.t 103), none, []⟩]
def f67x24 : List AOper := [
  ⟨(some 106), .iadr 2 (.t 102) (.t 104), none, []⟩,
  ⟨(some 107), .load (some 2) (.t 106), none, []⟩,
  ⟨(some 9), .alloc (.agg [.int .i64 0, .con (.slice none 0 0)]), none, []⟩,
  ⟨none, .store 2 (.t 9) (.t 107), none, []⟩]
def f67x25 : List AOper := [
  ⟨(some 108), .mv (.t 7), none, []⟩,
  ⟨(some 109), .fadr 0 (.t 9), none, []⟩,
  ⟨(some 110), .load none (.t 109), none, []⟩,
  ⟨(some 111), .fadr 1 (.t 9), none, []⟩,
  ⟨(some 112), .load none (.t 111), none, []⟩,
  ⟨(some 113), .bsl 1 [.con (.slice none 0 0)] 1 [0] [(.t 112)], none, []⟩,
  ⟨(some 114), .call (.c (.fn 83 [])) [(.t 108), (.t 110), (.t 113)], none, []⟩]
def f67x26 : List AOper := [
  ⟨(some 115), .bin .add (.t 104) (.c (.int .i64 1)), none, []⟩,
  ⟨(some 104), .mv (.t 115), none, []⟩]
def f67x27L : ACode := (.seq (.region f67x23 false) (.seq (.cond (.t 105) .skip (.exit 0)) (.seq (.block 1 (.seq (.region f67x24 false) (.region f67x25 false))) (.region f67x26 false))))
def f67x28 : List AOper := [
  ⟨(some 116), .mv (.t 7), none, []⟩,
  ⟨(some 117), .nilck (.t 116), none, []⟩,
  ⟨(some 118), .fadr 2 (.t 117), none, []⟩,
  ⟨(some 119), .load none (.t 118), none, []⟩]
def f67x29 : List AOper := [
  ⟨(some 4), .mv (.c (.con (.slice none 0 0))), none, []⟩,
  ⟨(some 5), .mv (.c (.int .i64 5)), none, []⟩]
def f67x30 : List AOper := [
  ⟨(some 120), .mv (.t 7), none, []⟩,
  ⟨(some 121), .nilck (.t 120), none, []⟩,
  ⟨(some 122), .fadr 0 (.t 121), none, []⟩,
  ⟨(some 123), .load none (.t 122), none, []⟩,
  ⟨(some 4), .mv (.t 123), none, []⟩,
  ⟨(some 5), .mv (.c (.int .i64 0)), none, []⟩]
def f67 : AFunc := ⟨124, 2, false, [.t 4, .t 5], (.seq (.region f67x0 false) (.seq (.seq (.region f67x1 false) (.seq (.region f67x2 false) (.cond (.t 13) (.seq (.region f67x3 false) .ret) .skip))) (.seq (.region f67x4 false) (.seq (.region f67x5 false) (.seq (.region f67x6 false) (.seq (.region f67x7 false) (.seq (.seq (.region f67x8 false) (.cond (.t 40) (.region f67x9 false) .skip)) (.seq (.seq (.region f67x10 false) (.cond (.t 48) (.region f67x11 false) .skip)) (.seq (.seq (.region f67x12 false) (.cond (.t 56) (.region f67x13 false) .skip)) (.seq (.seq (.region f67x14 false) (.cond (.t 60) (.region f67x15 true) .skip)) (.seq (.seq (.region f67x16 false) (.cond (.t 75) (.region f67x17 false) .skip)) (.seq (.seq (.region f67x18 false) (.cond (.t 83) (.region f67x19 false) .skip)) (.seq (.seq (.region f67x20 false) (.cond (.t 94) (.region f67x21 false) .skip)) (.seq (.seq (.region f67x22 false) (.block 0 (.loop f67x27L))) (.seq (.seq (.region f67x28 false) (.cond (.t 119) (.seq (.region f67x29 false) .ret) .skip)) (.seq (.region f67x30 false) .ret))))))))))))))))⟩
def f67x27LH : List AItem := [.inLoop f67x27L, .inBlock 0, .code (.seq (.seq (.region f67x28 false) (.cond (.t 119) (.seq (.region f67x29 false) .ret) .skip)) (.seq (.region f67x30 false) .ret))]

/-- routing/routingref36.Encode -/
def f68x0 : List AOper := [
  ⟨(some 2), .box (.t 0), none, []⟩,
  ⟨(some 4), .mv (.c (.con (.slice none 0 0))), none, []⟩,
  ⟨(some 5), .mv (.c (.int .i64 0)), none, []⟩]
def f68x1 : List AOper := [
  ⟨(some 14), .load (some 16) (.t 2), none, []⟩,
  ⟨(some 15), .call (.c (.fn 66 [])) [(.t 14)], none, []⟩,
  ⟨(some 6), .mv (.t 15), none, []⟩]
def f68x2 : List AOper := [
  ⟨(some 16), .mv (.t 6), none, []⟩,
  ⟨(some 17), .bin .neq (.t 16) (.c (.int .i64 0)), none, []⟩]
def f68x3 : List AOper := [
  ⟨(some 18), .mv (.t 6), none, []⟩,
  ⟨(some 4), .mv (.c (.con (.slice none 0 0))), none, []⟩,
  ⟨(some 5), .mv (.t 18), none, []⟩]
def f68x4 : List AOper := [
  ⟨(some 19), .fadr 1 (.t 2), none, []⟩,
  ⟨(some 20), .load none (.t 19), none, []⟩,
  ⟨(some 21), .call (.c (.fn 57 [])) [(.t 20)], none, []⟩,
  ⟨(some 7), .mv (.t 21), none, []⟩]
def f68x5 : List AOper := [
  ⟨(some 22), .mv (.t 7), none, []⟩,
  ⟨(some 23), .fadr 9 (.t 2), none, []⟩,
  ⟨(some 24), .load none (.t 23), none, []⟩,
  ⟨(some 25), .bsl 1 [.int .i64 0] 1 [0] [(.t 24)], none, []⟩,
  ⟨(some 26), .app 1 8 (.t 22) (.t 25), none, []⟩,
  ⟨(some 7), .mv (.t 26), none, []⟩]
def f68x6 : List AOper := [
  ⟨(some 27), .mv (.t 7), none, []⟩,
  ⟨(some 28), .len false (.t 27), none, []⟩,
  ⟨(some 29), .mv (.c (.int .i64 0)), none, []⟩]
def f68x7 : List AOper := [
  ⟨(some 30), .bin .lss (.t 29) (.t 28), none, []⟩]
def f68x8 : List AOper := [
  ⟨(some 31), .iadr 1 (.t 27) (.t 29), none, []⟩,
  ⟨(some 32), .load none (.t 31), none, []⟩,
  ⟨(some 9), .mv (.t 32), none, []⟩]
def f68x9 : List AOper := [
  ⟨(some 33), .mv (.t 1), none, []⟩,
  ⟨(some 34), .un .not (.t 33), none, []⟩,
  ⟨(some 35), .mv (.t 34), none, []⟩,
  ⟨(some 36), .mv (.t 9), (some (35, true)), []⟩,
  ⟨(some 37), .bin .gtr (.t 36) (.c (.int .i64 65535)), (some (35, true)), []⟩,
  ⟨(some 38), .pick (.t 35) (.t 37) (.c (.bool false)), none, []⟩]
def f68x10 : List AOper := [
  ⟨(some 4), .mv (.c (.con (.slice none 0 0))), none, []⟩,
  ⟨(some 5), .mv (.c (.int .i64 5)), none, []⟩]
def f68x11 : List AOper := [
  ⟨(some 39), .bin .add (.t 29) (.c (.int .i64 1)), none, []⟩,
  ⟨(some 29), .mv (.t 39), none, []⟩]
def f68x12L : ACode := (.seq (.region f68x7 false) (.seq (.cond (.t 30) .skip (.exit 0)) (.seq (.block 1 (.seq (.region f68x8 false) (.seq (.region f68x9 false) (.cond (.t 38) (.seq (.region f68x10 false) .ret) .skip)))) (.region f68x11 false))))
def f68x13 : List AOper := [
  ⟨(some 40), .fadr 0 (.t 2), none, []⟩,
  ⟨(some 41), .load none (.t 40), none, []⟩,
  ⟨(some 42), .conv .u8 (.t 41), none, []⟩,
  ⟨(some 43), .bsl 1 [.int .u8 0] 1 [0] [(.t 42)], none, []⟩,
  ⟨(some 44), .call (.c (.fn 88 [])) [(.c (.con (.slice none 0 0))), (.c (.int .i64 1)), (.t 43)], none, []⟩,
  ⟨(some 10), .mv (.t 44), none, []⟩]
def f68x14 : List AOper := [
  ⟨(some 45), .mv (.t 10), none, []⟩,
  ⟨(some 46), .fadr 1 (.t 2), none, []⟩,
  ⟨(some 47), .load none (.t 46), none, []⟩,
  ⟨(some 48), .mv (.t 1), none, []⟩,
  ⟨(some 49), .call (.c (.fn 89 [])) [(.t 47), (.t 48)], none, []⟩,
  ⟨(some 50), .call (.c (.fn 88 [])) [(.t 45), (.c (.int .i64 2)), (.t 49)], none, []⟩,
  ⟨(some 10), .mv (.t 50), none, []⟩]
def f68x15 : List AOper := [
  ⟨(some 51), .mv (.t 10), none, []⟩,
  ⟨(some 52), .fadr 2 (.t 2), none, []⟩,
  ⟨(some 53), .load none (.t 52), none, []⟩,
  ⟨(some 54), .bsl 1 [.int .u32 0] 1 [0] [(.t 53)], none, []⟩,
  ⟨(some 55), .call (.c (.fn 90 [])) [(.t 54)], none, []⟩,
  ⟨(some 56), .call (.c (.fn 88 [])) [(.t 51), (.c (.int .i64 3)), (.t 55)], none, []⟩,
  ⟨(some 10), .mv (.t 56), none, []⟩]
def f68x16 : List AOper := [
  ⟨(some 57), .fadr 3 (.t 2), none, []⟩,
  ⟨(some 58), .load none (.t 57), none, []⟩]
def f68x17 : List AOper := [
  ⟨(some 59), .mv (.t 10), none, []⟩,
  ⟨(some 60), .fadr 4 (.t 2), none, []⟩,
  ⟨(some 61), .load none (.t 60), none, []⟩,
  ⟨(some 62), .conv .u32 (.t 61), none, []⟩,
  ⟨(some 63), .bsl 1 [.int .u32 0] 1 [0] [(.t 62)], none, []⟩,
  ⟨(some 64), .call (.c (.fn 90 [])) [(.t 63)], none, []⟩,
  ⟨(some 65), .call (.c (.fn 88 [])) [(.t 59), (.c (.int .i64 4)), (.t 64)], none, []⟩,
  ⟨(some 10), .mv (.t 65), none, []⟩]
def f68x18 : List AOper := [
  ⟨(some 66), .fadr 5 (.t 2), none, []⟩,
  ⟨(some 67), .load none (.t 66), none, []⟩]
def f68x19 : List AOper := [
  ⟨(some 68), .mv (.t 10), none, []⟩,
  ⟨(some 69), .fadr 6 (.t 2), none, []⟩,
  ⟨(some 70), .load none (.t 69), none, []⟩,
  ⟨(some 71), .conv .u32 (.t 70), none, []⟩,
  ⟨(some 72), .bsl 1 [.int .u32 0] 1 [0] [(.t 71)], none, []⟩,
  ⟨(some 73), .call (.c (.fn 90 [])) [(.t 72)], none, []⟩,
  ⟨(some 74), .call (.c (.fn 88 [])) [(.t 68), (.c (.int .i64 5)), (.t 73)], none, []⟩,
  ⟨(some 10), .mv (.t 74), none, []⟩]
def f68x20 : List AOper := [
  ⟨(some 75), .fadr 7 (.t 2), none, []⟩,
  ⟨(some 76), .load none (.t 75), none, []⟩]
def f68x21 : List AOper := [
  ⟨(some 77), .mv (.t 10), none, []⟩,
  ⟨(some 78), .call (.c (.fn 88 [])) [(.t 77), (.c (.int .i64 6)), (.c (.con (.slice none 0 0)))], none, []⟩,
  ⟨(some 10), .mv (.t 78), none, []⟩]
def f68x22 : List AOper := [
  ⟨(some 79), .fadr 8 (.t 2), none, []⟩,
  ⟨(some 80), .load none (.t 79), none, []⟩]
def f68x23 : List AOper := [
  ⟨(some 81), .mv (.t 1), none, []⟩,
  ⟨(some 82), .call (.c (.fn 92 [])) [(.t 81)], none, []⟩,
  ⟨(some 83), .fadr 9 (.t 2), none, []⟩,
  ⟨(some 84), .load none (.t 83), none, []⟩,
  ⟨(some 85), .conv .u64 (.t 84), none, []⟩,
  ⟨(some 86), .call (.c (.fn 91 [])) [(.c (.con (.slice none 0 0))), (.t 82), (.t 85)], none, [1, 3]⟩,
  ⟨(some 11), .mv (.t 86), none, []⟩]
def f68x24 : List AOper := [
  ⟨(some 87), .mv (.t 10), none, []⟩,
  ⟨(some 88), .mv (.t 11), none, []⟩,
  ⟨(some 89), .fadr 10 (.t 2), none, []⟩,
  ⟨(some 90), .load none (.t 89), none, []⟩,
  ⟨(some 91), .conv .u64 (.t 90), none, []⟩,
  ⟨(some 92), .call (.c (.fn 91 [])) [(.t 88), (.c (.int .i64 4)), (.t 91)], none, []⟩,
  ⟨(some 93), .call (.c (.fn 88 [])) [(.t 87), (.c (.int .i64 7)), (.t 92)], none, []⟩,
  ⟨(some 10), .mv (.t 93), none, []⟩]
def f68x25 : List AOper := [
  ⟨(some 94), .fadr 11 (.t 2), none, []⟩,
  ⟨(some 95), .load none (.t 94), none, []⟩,
  ⟨(some 96), .len false (.t 95), none, []⟩,
  ⟨(some 97), .bin .gtr (.t 96) (.c (.int .i64 0)), none, []⟩]
def f68x26 : List AOper := [
  ⟨(some 98), .mv (.t 10), none, []⟩,
  ⟨(some 99), .fadr 11 (.t 2), none, []⟩,
  ⟨(some 100), .load none (.t 99), none, []⟩,
  ⟨(some 101), .call (.c (.fn 90 [])) [(.t 100)], none, []⟩,
  ⟨(some 102), .call (.c (.fn 88 [])) [(.t 98), (.c (.int .i64 8)), (.t 101)], none, []⟩,
  ⟨(some 10), .mv (.t 102), none, []⟩]
def f68x27 : List AOper := [
  ⟨(some 103), .fadr 12 (.t 2), none, []⟩,
  ⟨(some 104), .load none (.t 103), none, []⟩]
def f68x28 : List AOper := [
  ⟨(some 105), .mv (.t 10), none, []⟩,
  ⟨(some 106), .fadr 13 (.t 2), none, []⟩,
  ⟨(some 107), .load none (.t 106), none, []⟩,
  ⟨(some 108), .bsl 1 [.int .u32 0] 1 [0] [(.t 107)], none, []⟩,
  ⟨(some 109), .call (.c (.fn 90 [])) [(.t 108)], none, []⟩,
  ⟨(some 110), .call (.c (.fn 88 [])) [(.t 105), (.c (.int .i64 9)), (.t 109)], none, []⟩,
  ⟨(some 10), .mv (.t 110), none, []⟩]
def f68x29 : List AOper := [
  ⟨(some 111), .fadr 14 (.t 2), none, []⟩,
  ⟨(some 112), .load none (.t 111), none, []⟩,
  ⟨(some 113), .len false (.t 112), none, []⟩,
  ⟨(some 114), .bin .gtr (.t 113) (.c (.int .i64 0)), none, []⟩]
def f68x30 : List AOper := [
  ⟨(some 115), .mv (.t 10), none, []⟩,
  ⟨(some 116), .fadr 14 (.t 2), none, []⟩,
  ⟨(some 117), .load none (.t 116), none, []⟩,
  ⟨(some 118), .call (.c (.fn 90 [])) [(.t 117)], none, []⟩,
  ⟨(some 119), .call (.c (.fn 88 [])) [(.t 115), (.c (.int .i64 10)), (.t 118)], none, []⟩,
  ⟨(some 10), .mv (.t 119), none, []⟩]
def f68x31 : List AOper := [
  ⟨(some 120), .fadr 15 (.t 2), none, []⟩,
  ⟨(some 121), .load none (.t 120), none, []⟩,
  ⟨(some 122), .len false (.t 121), none, []⟩,
  ⟨(some 123), .mv (.c (.int .i64 0)), none, []⟩]
def f68x32 : List AOper := [
  ⟨(some 124), .bin .lss (.t 123) (.t 122), none, []⟩]
def f68x33 : List AOper := [
  ⟨(some 125), .iadr 2 (.t 121) (.t 123), none, []⟩,
  ⟨(some 126), .load (some 2) (.t 125), none, []⟩,
  ⟨(some 13), .alloc (.agg [.int .i64 0, .con (.slice none 0 0)]), none, []⟩,
  ⟨none, .store 2 (.t 13) (.t 126), none, []⟩]
def f68x34 : List AOper := [
  ⟨(some 127), .mv (.t 10), none, []⟩,
  ⟨(some 128), .fadr 0 (.t 13), none, []⟩,
  ⟨(some 129), .load none (.t 128), none, []⟩,
  ⟨(some 130), .fadr 1 (.t 13), none, []⟩,
  ⟨(some 131), .load none (.t 130), none, []⟩,
  ⟨(some 132), .call (.c (.fn 88 [])) [(.t 127), (.t 129), (.t 131)], none, []⟩,
  ⟨(some 10), .mv (.t 132), none, []⟩]
def f68x35 : List AOper := [
  ⟨(some 133), .bin .add (.t 123) (.c (.int .i64 1)), none, []⟩,
  ⟨(some 123), .mv (.t 133), none, []⟩]
def f68x36L : ACode := (.seq (.region f68x32 false) (.seq (.cond (.t 124) .skip (.exit 2)) (.seq (.block 3 (.seq (.region f68x33 false) (.region f68x34 false))) (.region f68x35 false))))
def f68x37 : List AOper := [
  ⟨(some 134), .mv (.t 10), none, []⟩,
  ⟨(some 4), .mv (.t 134), none, []⟩,
  ⟨(some 5), .mv (.c (.int .i64 0)), none, []⟩]
def f68 : AFunc := ⟨135, 2, false, [.t 4, .t 5], (.seq (.region f68x0 false) (.seq (.seq (.region f68x1 false) (.seq (.region f68x2 false) (.cond (.t 17) (.seq (.region f68x3 false) .ret) .skip))) (.seq (.region f68x4 false) (.seq (.region f68x5 false) (.seq (.seq (.region f68x6 false) (.block 0 (.loop f68x12L))) (.seq (.region f68x13 false) (.seq (.region f68x14 false) (.seq (.region f68x15 false) (.seq (.seq (.region f68x16 false) (.cond (.t 58) (.region f68x17 false) .skip)) (.seq (.seq (.region f68x18 false) (.cond (.t 67) (.region f68x19 false) .skip)) (.seq (.seq (.region f68x20 false) (.cond (.t 76) (.region f68x21 false) .skip)) (.seq (.seq (.region f68x22 false) (.cond (.t 80) (.seq (.region f68x23 true) (.region f68x24 false)) .skip)) (.seq (.seq (.region f68x25 false) (.cond (.t 97) (.region f68x26 false) .skip)) (.seq (.seq (.region f68x27 false) (.cond (.t 104) (.region f68x28 false) .skip)) (.seq (.seq (.region f68x29 false) (.cond (.t 114) (.region f68x30 false) .skip)) (.seq (.seq (.region f68x31 false) (.block 2 (.loop f68x36L))) (.seq (.region f68x37 false) .ret)))))))))))))))))⟩
def f68x12LH : List AItem := [.inLoop f68x12L, .inBlock 0, .code (.seq (.region f68x13 false) (.seq (.region f68x14 false) (.seq (.region f68x15 false) (.seq (.seq (.region f68x16 false) (.cond (.t 58) (.region f68x17 false) .skip)) (.seq (.seq (.region f68x18 false) (.cond (.t 67) (.region f68x19 false) .skip)) (.seq (.seq (.region f68x20 false) (.cond (.t 76) (.region f68x21 false) .skip)) (.seq (.seq (.region f68x22 false) (.cond (.t 80) (.seq (.region f68x23 true) (.region f68x24 false)) .skip)) (.seq (.seq (.region f68x25 false) (.cond (.t 97) (.region f68x26 false) .skip)) (.seq (.seq (.region f68x27 false) (.cond (.t 104) (.region f68x28 false) .skip)) (.seq (.seq (.region f68x29 false) (.cond (.t 114) (.region f68x30 false) .skip)) (.seq (.seq (.region f68x31 false) (.block 2 (.loop f68x36L))) (.seq (.region f68x37 false) .ret))))))))))))]
def f68x36LH : List AItem := [.inLoop f68x36L, .inBlock 2, .code (.seq (.region f68x37 false) .ret)]

/-- routing/attrs.Decode -/
def f69x0 : List AOper := [
  ⟨(some 4), .alloc (.agg [.int .i64 0, .con (.slice none 0 0), .int .u32 0, .bool false, .int .i64 0, .bool false, .int .i64 0, .bool false, .bool false, .int .i64 0, .int .u32 0, .con (.slice none 0 0), .bool false, .int .u32 0, .con (.slice none 0 0), .con (.slice none 0 0)]), none, []⟩,
  ⟨(some 5), .mv (.c (.int .i64 0)), none, []⟩]
def f69x1 : List AOper := [
  ⟨(some 13), .build [.int .i64 0, .con (.slice none 0 0), .int .u32 0, .bool false, .int .i64 0, .bool false, .int .i64 0, .bool false, .bool false, .int .i64 0, .int .u32 0, .con (.slice none 0 0), .bool false, .int .u32 0, .con (.slice none 0 0), .con (.slice none 0 0)] [] [], none, []⟩,
  ⟨(some 6), .alloc (.agg [.int .i64 0, .con (.slice none 0 0), .int .u32 0, .bool false, .int .i64 0, .bool false, .int .i64 0, .bool false, .bool false, .int .i64 0, .int .u32 0, .con (.slice none 0 0), .bool false, .int .u32 0, .con (.slice none 0 0), .con (.slice none 0 0)]), none, []⟩,
  ⟨none, .store 16 (.t 6) (.t 13), none, []⟩]
def f69x2 : List AOper := [
  ⟨(some 7), .mv (.c (.int .i64 (-1))), none, []⟩,
  ⟨(some 8), .mv (.c (.int .i64 0)), none, []⟩]
def f69x3 : List AOper := [
  ⟨(some 14), .mv (.t 0), none, []⟩,
  ⟨(some 15), .len false (.t 14), none, []⟩,
  ⟨(some 16), .bin .gtr (.t 15) (.c (.int .i64 0)), none, []⟩]
def f69x4 : List AOper := [
  ⟨(some 9), .mv (.c (.int .i64 3)), none, []⟩]
def f69x5 : List AOper := [
  ⟨(some 17), .mv (.t 0), none, []⟩,
  ⟨(some 18), .iadr 1 (.t 17) (.c (.int .i64 0)), none, []⟩,
  ⟨(some 19), .load none (.t 18), none, []⟩,
  ⟨(some 20), .bin .and (.t 19) (.c (.int .u8 16)), none, []⟩,
  ⟨(some 21), .bin .neq (.t 20) (.c (.int .u8 0)), none, []⟩]
def f69x6 : List AOper := [
  ⟨(some 9), .mv (.c (.int .i64 4)), none, []⟩]
def f69x7 : List AOper := [
  ⟨(some 22), .mv (.t 0), none, []⟩,
  ⟨(some 23), .len false (.t 22), none, []⟩,
  ⟨(some 24), .mv (.t 9), none, []⟩,
  ⟨(some 25), .bin .lss (.t 23) (.t 24), none, []⟩]
def f69x8 : List AOper := [
  ⟨(some 26), .build [.int .i64 0, .con (.slice none 0 0), .int .u32 0, .bool false, .int .i64 0, .bool false, .int .i64 0, .bool false, .bool false, .int .i64 0, .int .u32 0, .con (.slice none 0 0), .bool false, .int .u32 0, .con (.slice none 0 0), .con (.slice none 0 0)] [] [], none, []⟩,
  ⟨none, .store 16 (.t 4) (.t 26), none, []⟩,
  ⟨(some 5), .mv (.c (.int .i64 3)), none, []⟩]
def f69x9 : List AOper := [
  ⟨(some 27), .mv (.t 0), none, []⟩,
  ⟨(some 28), .mv (.t 9), none, []⟩,
  ⟨(some 29), .bin .sub (.t 28) (.c (.int .i64 2)), none, []⟩,
  ⟨(some 30), .call (.c (.fn 93 [])) [(.t 27), (.c (.int .i64 2)), (.t 29)], none, []⟩,
  ⟨(some 10), .mv (.t 30), none, []⟩]
def f69x10 : List AOper := [
  ⟨(some 31), .mv (.t 0), none, []⟩,
  ⟨(some 32), .len false (.t 31), none, []⟩,
  ⟨(some 33), .mv (.t 9), none, []⟩,
  ⟨(some 34), .mv (.t 10), none, []⟩,
  ⟨(some 35), .bin .add (.t 33) (.t 34), none, []⟩,
  ⟨(some 36), .bin .lss (.t 32) (.t 35), none, []⟩]
def f69x11 : List AOper := [
  ⟨(some 37), .build [.int .i64 0, .con (.slice none 0 0), .int .u32 0, .bool false, .int .i64 0, .bool false, .int .i64 0, .bool false, .bool false, .int .i64 0, .int .u32 0, .con (.slice none 0 0), .bool false, .int .u32 0, .con (.slice none 0 0), .con (.slice none 0 0)] [] [], none, []⟩,
  ⟨none, .store 16 (.t 4) (.t 37), none, []⟩,
  ⟨(some 5), .mv (.c (.int .i64 3)), none, []⟩]
def f69x12 : List AOper := [
  ⟨(some 38), .mv (.t 0), none, []⟩,
  ⟨(some 39), .iadr 1 (.t 38) (.c (.int .i64 1)), none, []⟩,
  ⟨(some 40), .load none (.t 39), none, []⟩,
  ⟨(some 41), .conv .i64 (.t 40), none, []⟩,
  ⟨(some 11), .mv (.t 41), none, []⟩]
def f69x13 : List AOper := [
  ⟨(some 42), .mv (.t 11), none, []⟩,
  ⟨(some 43), .mv (.t 7), none, []⟩,
  ⟨(some 44), .bin .leq (.t 42) (.t 43), none, []⟩]
def f69x14 : List AOper := [
  ⟨(some 45), .build [.int .i64 0, .con (.slice none 0 0), .int .u32 0, .bool false, .int .i64 0, .bool false, .int .i64 0, .bool false, .bool false, .int .i64 0, .int .u32 0, .con (.slice none 0 0), .bool false, .int .u32 0, .con (.slice none 0 0), .con (.slice none 0 0)] [] [], none, []⟩,
  ⟨none, .store 16 (.t 4) (.t 45), none, []⟩,
  ⟨(some 5), .mv (.c (.int .i64 16)), none, []⟩]
def f69x15 : List AOper := [
  ⟨(some 46), .mv (.t 0), none, []⟩,
  ⟨(some 47), .iadr 1 (.t 46) (.c (.int .i64 0)), none, []⟩,
  ⟨(some 48), .load none (.t 47), none, [1]⟩,
  ⟨(some 49), .bin .andNot (.t 48) (.c (.int .u8 16)), none, []⟩,
  ⟨(some 50), .mv (.t 11), none, []⟩,
  ⟨(some 51), .call (.c (.fn 94 [])) [(.t 50)], none, []⟩,
  ⟨(some 52), .bin .neq (.t 49) (.t 51), none, []⟩,
  ⟨(some 53), .mv (.t 52), none, []⟩,
  ⟨(some 54), .mv (.t 9), (some (53, false)), []⟩,
  ⟨(some 55), .bin .eql (.t 54) (.c (.int .i64 4)), (some (53, false)), []⟩,
  ⟨(some 56), .mv (.t 55), (some (53, false)), []⟩,
  ⟨(some 57), .mv (.t 10), (some (56, true)), []⟩,
  ⟨(some 58), .bin .leq (.t 57) (.c (.int .i64 255)), (some (56, true)), []⟩,
  ⟨(some 59), .pick (.t 56) (.t 58) (.c (.bool false)), (some (53, false)), []⟩,
  ⟨(some 60), .pick (.t 53) (.c (.bool true)) (.t 59), none, []⟩,
  ⟨(some 61), .mv (.t 60), none, []⟩,
  ⟨(some 62), .mv (.t 11), (some (61, false)), []⟩,
  ⟨(some 63), .mv (.t 0), (some (61, false)), []⟩,
  ⟨(some 64), .mv (.t 9), (some (61, false)), []⟩,
  ⟨(some 65), .mv (.t 9), (some (61, false)), []⟩,
  ⟨(some 66), .mv (.t 10), (some (61, false)), []⟩,
  ⟨(some 67), .bin .add (.t 65) (.t 66), (some (61, false)), []⟩,
  ⟨(some 68), .slc 1 (.t 63) (some (.t 64)) (some (.t 67)) none, (some (61, false)), [5, 2, 1]⟩,
  ⟨(some 69), .mv (.t 1), (some (61, false)), []⟩,
  ⟨(some 70), .call (.c (.fn 96 [])) [(.t 69)], (some (61, false)), [5, 2, 1]⟩,
  ⟨(some 71), .call (.c (.fn 95 [])) [(.t 6), (.t 62), (.t 68), (.t 70)], (some (61, false)), [22, 24, 5, 2, 1]⟩,
  ⟨(some 72), .un .not (.t 71), (some (61, false)), []⟩,
  ⟨(some 73), .pick (.t 61) (.c (.bool true)) (.t 72), none, []⟩]
def f69x16 : List AOper := [
  ⟨(some 74), .build [.int .i64 0, .con (.slice none 0 0), .int .u32 0, .bool false, .int .i64 0, .bool false, .int .i64 0, .bool false, .bool false, .int .i64 0, .int .u32 0, .con (.slice none 0 0), .bool false, .int .u32 0, .con (.slice none 0 0), .con (.slice none 0 0)] [] [], none, []⟩,
  ⟨none, .store 16 (.t 4) (.t 74), none, []⟩,
  ⟨(some 5), .mv (.c (.int .i64 2)), none, []⟩]
def f69x17 : List AOper := [
  ⟨(some 75), .mv (.t 11), none, []⟩,
  ⟨(some 76), .bin .geq (.t 75) (.c (.int .i64 1)), none, []⟩,
  ⟨(some 77), .mv (.t 76), none, []⟩,
  ⟨(some 78), .mv (.t 11), (some (77, true)), []⟩,
  ⟨(some 79), .bin .leq (.t 78) (.c (.int .i64 3)), (some (77, true)), []⟩,
  ⟨(some 80), .pick (.t 77) (.t 79) (.c (.bool false)), none, []⟩]
def f69x18 : List AOper := [
  ⟨(some 81), .mv (.t 8), none, []⟩,
  ⟨(some 82), .bin .add (.t 81) (.c (.int .i64 1)), none, []⟩,
  ⟨(some 8), .mv (.t 82), none, []⟩]
def f69x19 : List AOper := [
  ⟨(some 83), .mv (.t 11), none, []⟩,
  ⟨(some 7), .mv (.t 83), none, []⟩]
def f69x20 : List AOper := [
  ⟨(some 84), .mv (.t 0), none, []⟩,
  ⟨(some 85), .mv (.t 9), none, []⟩,
  ⟨(some 86), .mv (.t 10), none, []⟩,
  ⟨(some 87), .bin .add (.t 85) (.t 86), none, []⟩,
  ⟨(some 88), .slc 1 (.t 84) (some (.t 87)) none none, none, []⟩,
  ⟨(some 0), .mv (.t 88), none, []⟩]
def f69x21L : ACode := (.seq (.seq (.region f69x3 false) (.cond (.t 16) .skip (.exit 0))) (.block 1 (.seq (.region f69x4 false) (.seq (.seq (.region f69x5 false) (.cond (.t 21) (.region f69x6 false) .skip)) (.seq (.seq (.region f69x7 false) (.cond (.t 25) (.seq (.region f69x8 false) .ret) .skip)) (.seq (.region f69x9 false) (.seq (.seq (.region f69x10 false) (.cond (.t 36) (.seq (.region f69x11 false) .ret) .skip)) (.seq (.region f69x12 false) (.seq (.seq (.region f69x13 false) (.cond (.t 44) (.seq (.region f69x14 false) .ret) .skip)) (.seq (.seq (.region f69x15 true) (.cond (.t 73) (.seq (.region f69x16 false) .ret) .skip)) (.seq (.seq (.region f69x17 false) (.cond (.t 80) (.region f69x18 false) .skip)) (.seq (.region f69x19 false) (.region f69x20 false)))))))))))))
def f69x22 : List AOper := [
  ⟨(some 89), .mv (.t 8), none, []⟩,
  ⟨(some 90), .bin .lss (.t 89) (.c (.int .i64 3)), none, []⟩]
def f69x23 : List AOper := [
  ⟨(some 91), .build [.int .i64 0, .con (.slice none 0 0), .int .u32 0, .bool false, .int .i64 0, .bool false, .int .i64 0, .bool false, .bool false, .int .i64 0, .int .u32 0, .con (.slice none 0 0), .bool false, .int .u32 0, .con (.slice none 0 0), .con (.slice none 0 0)] [] [], none, []⟩,
  ⟨none, .store 16 (.t 4) (.t 91), none, []⟩,
  ⟨(some 5), .mv (.c (.int .i64 6)), none, []⟩]
def f69x24 : List AOper := [
  ⟨(some 92), .load (some 16) (.t 6), none, []⟩,
  ⟨(some 93), .call (.c (.fn 65 [])) [(.t 92)], none, []⟩,
  ⟨(some 12), .mv (.t 93), none, []⟩]
def f69x25 : List AOper := [
  ⟨(some 94), .mv (.t 12), none, []⟩,
  ⟨(some 95), .bin .neq (.t 94) (.c (.int .i64 0)), none, []⟩]
def f69x26 : List AOper := [
  ⟨(some 96), .build [.int .i64 0, .con (.slice none 0 0), .int .u32 0, .bool false, .int .i64 0, .bool false, .int .i64 0, .bool false, .bool false, .int .i64 0, .int .u32 0, .con (.slice none 0 0), .bool false, .int .u32 0, .con (.slice none 0 0), .con (.slice none 0 0)] [] [], none, []⟩,
  ⟨(some 97), .mv (.t 12), none, []⟩,
  ⟨none, .store 16 (.t 4) (.t 96), none, []⟩,
  ⟨(some 5), .mv (.t 97), none, []⟩]
def f69x27 : List AOper := [
  ⟨(some 98), .load (some 16) (.t 6), none, []⟩,
  ⟨none, .store 16 (.t 4) (.t 98), none, []⟩,
  ⟨(some 5), .mv (.c (.int .i64 0)), none, []⟩]
def f69 : AFunc := ⟨99, 2, false, [.cell 4 (some 16), .t 5], (.seq (.region f69x0 false) (.seq (.region f69x1 false) (.seq (.region f69x2 false) (.seq (.block 0 (.loop f69x21L)) (.seq (.seq (.region f69x22 false) (.cond (.t 90) (.seq (.region f69x23 false) .ret) .skip)) (.seq (.seq (.region f69x24 false) (.seq (.region f69x25 false) (.cond (.t 95) (.seq (.region f69x26 false) .ret) .skip))) (.seq (.region f69x27 false) .ret)))))))⟩
def f69x21LH : List AItem := [.inLoop f69x21L, .inBlock 0, .code (.seq (.seq (.region f69x22 false) (.cond (.t 90) (.seq (.region f69x23 false) .ret) .skip)) (.seq (.seq (.region f69x24 false) (.seq (.region f69x25 false) (.cond (.t 95) (.seq (.region f69x26 false) .ret) .skip))) (.seq (.region f69x27 false) .ret)))]

/-- routing/routingref36.Same -/
def f70x0 : List AOper := [
  ⟨(some 2), .box (.t 0), none, []⟩,
  ⟨(some 3), .box (.t 1), none, []⟩,
  ⟨(some 4), .mv (.c (.bool false)), none, []⟩]
def f70x1 : List AOper := [
  ⟨(some 6), .fadr 0 (.t 2), none, []⟩,
  ⟨(some 7), .load none (.t 6), none, []⟩,
  ⟨(some 8), .fadr 0 (.t 3), none, []⟩,
  ⟨(some 9), .load none (.t 8), none, []⟩,
  ⟨(some 10), .bin .neq (.t 7) (.t 9), none, []⟩,
  ⟨(some 11), .mv (.t 10), none, []⟩,
  ⟨(some 12), .fadr 1 (.t 2), (some (11, false)), []⟩,
  ⟨(some 13), .load none (.t 12), (some (11, false)), []⟩,
  ⟨(some 14), .fadr 1 (.t 3), (some (11, false)), []⟩,
  ⟨(some 15), .load none (.t 14), (some (11, false)), []⟩,
  ⟨(some 16), .call (.c (.fn 97 [])) [(.t 13), (.t 15)], (some (11, false)), []⟩,
  ⟨(some 17), .un .not (.t 16), (some (11, false)), []⟩,
  ⟨(some 18), .pick (.t 11) (.c (.bool true)) (.t 17), none, []⟩,
  ⟨(some 19), .mv (.t 18), none, []⟩,
  ⟨(some 20), .fadr 2 (.t 2), (some (19, false)), []⟩,
  ⟨(some 21), .load none (.t 20), (some (19, false)), []⟩,
  ⟨(some 22), .fadr 2 (.t 3), (some (19, false)), []⟩,
  ⟨(some 23), .load none (.t 22), (some (19, false)), []⟩,
  ⟨(some 24), .bin .neq (.t 21) (.t 23), (some (19, false)), []⟩,
  ⟨(some 25), .pick (.t 19) (.c (.bool true)) (.t 24), none, []⟩,
  ⟨(some 26), .mv (.t 25), none, []⟩,
  ⟨(some 27), .fadr 3 (.t 2), (some (26, false)), []⟩,
  ⟨(some 28), .load none (.t 27), (some (26, false)), []⟩,
  ⟨(some 29), .fadr 3 (.t 3), (some (26, false)), []⟩,
  ⟨(some 30), .load none (.t 29), (some (26, false)), []⟩,
  ⟨(some 31), .eqb true (.t 28) (.t 30), (some (26, false)), []⟩,
  ⟨(some 32), .pick (.t 26) (.c (.bool true)) (.t 31), none, []⟩,
  ⟨(some 33), .mv (.t 32), none, []⟩,
  ⟨(some 34), .fadr 4 (.t 2), (some (33, false)), []⟩,
  ⟨(some 35), .load none (.t 34), (some (33, false)), []⟩,
  ⟨(some 36), .fadr 4 (.t 3), (some (33, false)), []⟩,
  ⟨(some 37), .load none (.t 36), (some (33, false)), []⟩,
  ⟨(some 38), .bin .neq (.t 35) (.t 37), (some (33, false)), []⟩,
  ⟨(some 39), .pick (.t 33) (.c (.bool true)) (.t 38), none, []⟩,
  ⟨(some 40), .mv (.t 39), none, []⟩,
  ⟨(some 41), .fadr 5 (.t 2), (some (40, false)), []⟩,
  ⟨(some 42), .load none (.t 41), (some (40, false)), []⟩,
  ⟨(some 43), .fadr 5 (.t 3), (some (40, false)), []⟩,
  ⟨(some 44), .load none (.t 43), (some (40, false)), []⟩,
  ⟨(some 45), .eqb true (.t 42) (.t 44), (some (40, false)), []⟩,
  ⟨(some 46), .pick (.t 40) (.c (.bool true)) (.t 45), none, []⟩,
  ⟨(some 47), .mv (.t 46), none, []⟩,
  ⟨(some 48), .fadr 6 (.t 2), (some (47, false)), []⟩,
  ⟨(some 49), .load none (.t 48), (some (47, false)), []⟩,
  ⟨(some 50), .fadr 6 (.t 3), (some (47, false)), []⟩,
  ⟨(some 51), .load none (.t 50), (some (47, false)), []⟩,
  ⟨(some 52), .bin .neq (.t 49) (.t 51), (some (47, false)), []⟩,
  ⟨(some 53), .pick (.t 47) (.c (.bool true)) (.t 52), none, []⟩,
  ⟨(some 54), .mv (.t 53), none, []⟩,
  ⟨(some 55), .fadr 7 (.t 2), (some (54, false)), []⟩,
  ⟨(some 56), .load none (.t 55), (some (54, false)), []⟩,
  ⟨(some 57), .fadr 7 (.t 3), (some (54, false)), []⟩,
  ⟨(some 58), .load none (.t 57), (some (54, false)), []⟩,
  ⟨(some 59), .eqb true (.t 56) (.t 58), (some (54, false)), []⟩,
  ⟨(some 60), .pick (.t 54) (.c (.bool true)) (.t 59), none, []⟩]
def f70x2 : List AOper := [
  ⟨(some 4), .mv (.c (.bool false)), none, []⟩]
def f70x3 : List AOper := [
  ⟨(some 61), .fadr 8 (.t 2), none, []⟩,
  ⟨(some 62), .load none (.t 61), none, []⟩,
  ⟨(some 63), .fadr 8 (.t 3), none, []⟩,
  ⟨(some 64), .load none (.t 63), none, []⟩,
  ⟨(some 65), .eqb true (.t 62) (.t 64), none, []⟩,
  ⟨(some 66), .mv (.t 65), none, []⟩,
  ⟨(some 67), .fadr 9 (.t 2), (some (66, false)), []⟩,
  ⟨(some 68), .load none (.t 67), (some (66, false)), []⟩,
  ⟨(some 69), .fadr 9 (.t 3), (some (66, false)), []⟩,
  ⟨(some 70), .load none (.t 69), (some (66, false)), []⟩,
  ⟨(some 71), .bin .neq (.t 68) (.t 70), (some (66, false)), []⟩,
  ⟨(some 72), .pick (.t 66) (.c (.bool true)) (.t 71), none, []⟩,
  ⟨(some 73), .mv (.t 72), none, []⟩,
  ⟨(some 74), .fadr 10 (.t 2), (some (73, false)), []⟩,
  ⟨(some 75), .load none (.t 74), (some (73, false)), []⟩,
  ⟨(some 76), .fadr 10 (.t 3), (some (73, false)), []⟩,
  ⟨(some 77), .load none (.t 76), (some (73, false)), []⟩,
  ⟨(some 78), .bin .neq (.t 75) (.t 77), (some (73, false)), []⟩,
  ⟨(some 79), .pick (.t 73) (.c (.bool true)) (.t 78), none, []⟩,
  ⟨(some 80), .mv (.t 79), none, []⟩,
  ⟨(some 81), .fadr 12 (.t 2), (some (80, false)), []⟩,
  ⟨(some 82), .load none (.t 81), (some (80, false)), []⟩,
  ⟨(some 83), .fadr 12 (.t 3), (some (80, false)), []⟩,
  ⟨(some 84), .load none (.t 83), (some (80, false)), []⟩,
  ⟨(some 85), .eqb true (.t 82) (.t 84), (some (80, false)), []⟩,
  ⟨(some 86), .pick (.t 80) (.c (.bool true)) (.t 85), none, []⟩,
  ⟨(some 87), .mv (.t 86), none, []⟩,
  ⟨(some 88), .fadr 13 (.t 2), (some (87, false)), []⟩,
  ⟨(some 89), .load none (.t 88), (some (87, false)), []⟩,
  ⟨(some 90), .fadr 13 (.t 3), (some (87, false)), []⟩,
  ⟨(some 91), .load none (.t 90), (some (87, false)), []⟩,
  ⟨(some 92), .bin .neq (.t 89) (.t 91), (some (87, false)), []⟩,
  ⟨(some 93), .pick (.t 87) (.c (.bool true)) (.t 92), none, []⟩,
  ⟨(some 94), .mv (.t 93), none, []⟩,
  ⟨(some 95), .fadr 15 (.t 2), (some (94, false)), []⟩,
  ⟨(some 96), .load none (.t 95), (some (94, false)), []⟩,
  ⟨(some 97), .len false (.t 96), (some (94, false)), []⟩,
  ⟨(some 98), .fadr 15 (.t 3), (some (94, false)), []⟩,
  ⟨(some 99), .load none (.t 98), (some (94, false)), []⟩,
  ⟨(some 100), .len false (.t 99), (some (94, false)), []⟩,
  ⟨(some 101), .bin .neq (.t 97) (.t 100), (some (94, false)), []⟩,
  ⟨(some 102), .pick (.t 94) (.c (.bool true)) (.t 101), none, []⟩]
def f70x4 : List AOper := [
  ⟨(some 4), .mv (.c (.bool false)), none, []⟩]
def f70x5 : List AOper := [
  ⟨(some 103), .fadr 15 (.t 2), none, []⟩,
  ⟨(some 104), .load none (.t 103), none, []⟩,
  ⟨(some 105), .len false (.t 104), none, []⟩,
  ⟨(some 106), .mv (.c (.int .i64 0)), none, []⟩]
def f70x6 : List AOper := [
  ⟨(some 107), .bin .lss (.t 106) (.t 105), none, []⟩]
def f70x7 : List AOper := [
  ⟨(some 108), .mv (.t 106), none, []⟩,
  ⟨(some 5), .mv (.t 108), none, []⟩]
def f70x8 : List AOper := [
  ⟨(some 109), .fadr 15 (.t 2), none, []⟩,
  ⟨(some 110), .load none (.t 109), none, []⟩,
  ⟨(some 111), .mv (.t 5), none, []⟩,
  ⟨(some 112), .iadr 2 (.t 110) (.t 111), none, [1]⟩,
  ⟨(some 113), .fadr 0 (.t 112), none, []⟩,
  ⟨(some 114), .load none (.t 113), none, [3, 1]⟩,
  ⟨(some 115), .fadr 15 (.t 3), none, []⟩,
  ⟨(some 116), .load none (.t 115), none, []⟩,
  ⟨(some 117), .mv (.t 5), none, []⟩,
  ⟨(some 118), .iadr 2 (.t 116) (.t 117), none, [7]⟩,
  ⟨(some 119), .fadr 0 (.t 118), none, []⟩,
  ⟨(some 120), .load none (.t 119), none, [9, 7]⟩,
  ⟨(some 121), .bin .neq (.t 114) (.t 120), none, []⟩,
  ⟨(some 122), .mv (.t 121), none, []⟩,
  ⟨(some 123), .fadr 15 (.t 2), (some (122, false)), []⟩,
  ⟨(some 124), .load none (.t 123), (some (122, false)), [5, 11, 3, 1, 9, 7]⟩,
  ⟨(some 125), .mv (.t 5), (some (122, false)), []⟩,
  ⟨(some 126), .iadr 2 (.t 124) (.t 125), (some (122, false)), [15, 5, 11, 3, 1, 9, 7]⟩,
  ⟨(some 127), .fadr 1 (.t 126), (some (122, false)), []⟩,
  ⟨(some 128), .load none (.t 127), (some (122, false)), [17, 15, 5, 11, 3, 1, 9, 7]⟩,
  ⟨(some 129), .fadr 15 (.t 3), (some (122, false)), []⟩,
  ⟨(some 130), .load none (.t 129), (some (122, false)), [5, 11, 3, 1, 9, 7]⟩,
  ⟨(some 131), .mv (.t 5), (some (122, false)), []⟩,
  ⟨(some 132), .iadr 2 (.t 130) (.t 131), (some (122, false)), [21, 5, 11, 3, 1, 9, 7]⟩,
  ⟨(some 133), .fadr 1 (.t 132), (some (122, false)), []⟩,
  ⟨(some 134), .load none (.t 133), (some (122, false)), [23, 21, 5, 11, 3, 1, 9, 7]⟩,
  ⟨(some 135), .call (.c (.fn 98 [])) [(.t 128), (.t 134)], (some (122, false)), [19, 25, 17, 15, 23, 21, 5, 11, 3, 1, 9, 7]⟩,
  ⟨(some 136), .un .not (.t 135), (some (122, false)), []⟩,
  ⟨(some 137), .pick (.t 122) (.c (.bool true)) (.t 136), none, []⟩]
def f70x9 : List AOper := [
  ⟨(some 4), .mv (.c (.bool false)), none, []⟩]
def f70x10 : List AOper := [
  ⟨(some 138), .bin .add (.t 106) (.c (.int .i64 1)), none, []⟩,
  ⟨(some 106), .mv (.t 138), none, []⟩]
def f70x11L : ACode := (.seq (.region f70x6 false) (.seq (.cond (.t 107) .skip (.exit 0)) (.seq (.block 1 (.seq (.region f70x7 false) (.seq (.region f70x8 true) (.cond (.t 137) (.seq (.region f70x9 false) .ret) .skip)))) (.region f70x10 false))))
def f70x12 : List AOper := [
  ⟨(some 139), .fadr 11 (.t 2), none, []⟩,
  ⟨(some 140), .load none (.t 139), none, []⟩,
  ⟨(some 141), .fadr 11 (.t 3), none, []⟩,
  ⟨(some 142), .load none (.t 141), none, []⟩,
  ⟨(some 143), .call (.c (.fn 99 [])) [(.t 140), (.t 142)], none, []⟩,
  ⟨(some 144), .mv (.t 143), none, []⟩,
  ⟨(some 145), .fadr 14 (.t 2), (some (144, true)), []⟩,
  ⟨(some 146), .load none (.t 145), (some (144, true)), []⟩,
  ⟨(some 147), .fadr 14 (.t 3), (some (144, true)), []⟩,
  ⟨(some 148), .load none (.t 147), (some (144, true)), []⟩,
  ⟨(some 149), .call (.c (.fn 99 [])) [(.t 146), (.t 148)], (some (144, true)), []⟩,
  ⟨(some 150), .pick (.t 144) (.t 149) (.c (.bool false)), none, []⟩,
  ⟨(some 4), .mv (.t 150), none, []⟩]
def f70 : AFunc := ⟨151, 2, false, [.t 4], (.seq (.region f70x0 false) (.seq (.seq (.region f70x1 false) (.cond (.t 60) (.seq (.region f70x2 false) .ret) .skip)) (.seq (.seq (.region f70x3 false) (.cond (.t 102) (.seq (.region f70x4 false) .ret) .skip)) (.seq (.seq (.region f70x5 false) (.block 0 (.loop f70x11L))) (.seq (.region f70x12 false) .ret)))))⟩
def f70x11LH : List AItem := [.inLoop f70x11L, .inBlock 0, .code (.seq (.region f70x12 false) .ret)]

/-- routing/routingref36.Decode -/
def f71x0 : List AOper := [
  ⟨(some 4), .alloc (.agg [.int .i64 0, .con (.slice none 0 0), .int .u32 0, .bool false, .int .i64 0, .bool false, .int .i64 0, .bool false, .bool false, .int .i64 0, .int .u32 0, .con (.slice none 0 0), .bool false, .int .u32 0, .con (.slice none 0 0), .con (.slice none 0 0)]), none, []⟩,
  ⟨(some 5), .mv (.c (.int .i64 0)), none, []⟩]
def f71x1 : List AOper := [
  ⟨(some 18), .build [.int .i64 0, .con (.slice none 0 0), .int .u32 0, .bool false, .int .i64 0, .bool false, .int .i64 0, .bool false, .bool false, .int .i64 0, .int .u32 0, .con (.slice none 0 0), .bool false, .int .u32 0, .con (.slice none 0 0), .con (.slice none 0 0)] [] [], none, []⟩,
  ⟨(some 6), .alloc (.agg [.int .i64 0, .con (.slice none 0 0), .int .u32 0, .bool false, .int .i64 0, .bool false, .int .i64 0, .bool false, .bool false, .int .i64 0, .int .u32 0, .con (.slice none 0 0), .bool false, .int .u32 0, .con (.slice none 0 0), .con (.slice none 0 0)]), none, []⟩,
  ⟨none, .store 16 (.t 6) (.t 18), none, []⟩]
def f71x2 : List AOper := [
  ⟨(some 7), .mv (.c (.int .i64 (-1))), none, []⟩]
def f71x3 : List AOper := [
  ⟨(some 8), .alloc (.agg [.bool false, .bool false, .bool false, .bool false, .bool false, .bool false, .bool false, .bool false, .bool false, .bool false, .bool false, .bool false, .bool false, .bool false, .bool false, .bool false, .bool false, .bool false, .bool false, .bool false, .bool false, .bool false, .bool false, .bool false, .bool false, .bool false, .bool false, .bool false, .bool false, .bool false, .bool false, .bool false, .bool false, .bool false, .bool false, .bool false, .bool false, .bool false, .bool false, .bool false, .bool false, .bool false, .bool false, .bool false, .bool false, .bool false, .bool false, .bool false, .bool false, .bool false, .bool false, .bool false, .bool false, .bool false, .bool false, .bool false, .bool false, .bool false, .bool false, .bool false, .bool false, .bool false, .bool false, .bool false, .bool false, .bool false, .bool false, .bool false, .bool false, .bool false, .bool false, .bool false, .bool false, .bool false, .bool false, .bool false, .bool false, .bool false, .bool false, .bool false, .bool false, .bool false, .bool false, .bool false, .bool false, .bool false, .bool false, .bool false, .bool false, .bool false, .bool false, .bool false, .bool false, .bool false, .bool false, .bool false, .bool false, .bool false, .bool false, .bool false, .bool false, .bool false, .bool false, .bool false, .bool false, .bool false, .bool false, .bool false, .bool false, .bool false, .bool false, .bool false, .bool false, .bool false, .bool false, .bool false, .bool false, .bool false, .bool false, .bool false, .bool false, .bool false, .bool false, .bool false, .bool false, .bool false, .bool false, .bool false, .bool false, .bool false, .bool false, .bool false, .bool false, .bool false, .bool false, .bool false, .bool false, .bool false, .bool false, .bool false, .bool false, .bool false, .bool false, .bool false, .bool false, .bool false, .bool false, .bool false, .bool false, .bool false, .bool false, .bool false, .bool false, .bool false, .bool false, .bool false, .bool false, .bool false, .bool false, .bool false, .bool false, .bool false, .bool false, .bool false, .bool false, .bool false, .bool false, .bool false, .bool false, .bool false, .bool false, .bool false, .bool false, .bool false, .bool false, .bool false, .bool false, .bool false, .bool false, .bool false, .bool false, .bool false, .bool false, .bool false, .bool false, .bool false, .bool false, .bool false, .bool false, .bool false, .bool false, .bool false, .bool false, .bool false, .bool false, .bool false, .bool false, .bool false, .bool false, .bool false, .bool false, .bool false, .bool false, .bool false, .bool false, .bool false, .bool false, .bool false, .bool false, .bool false, .bool false, .bool false, .bool false, .bool false, .bool false, .bool false, .bool false, .bool false, .bool false, .bool false, .bool false, .bool false, .bool false, .bool false, .bool false, .bool false, .bool false, .bool false, .bool false, .bool false, .bool false, .bool false, .bool false, .bool false, .bool false, .bool false, .bool false, .bool false, .bool false, .bool false, .bool false, .bool false, .bool false, .bool false, .bool false, .bool false, .bool false, .bool false, .bool false, .bool false, .bool false, .bool false, .bool false, .bool false, .bool false, .bool false]), none, []⟩]
def f71x4 : List AOper := [
  ⟨(some 9), .mv (.c (.int .i64 0)), none, []⟩]
def f71x5 : List AOper := [
  ⟨(some 19), .mv (.t 9), none, []⟩,
  ⟨(some 20), .mv (.t 0), none, []⟩,
  ⟨(some 21), .len false (.t 20), none, []⟩,
  ⟨(some 22), .bin .lss (.t 19) (.t 21), none, []⟩]
def f71x6 : List AOper := [
  ⟨(some 23), .mv (.t 9), none, []⟩,
  ⟨(some 24), .bin .add (.t 23) (.c (.int .i64 3)), none, []⟩,
  ⟨(some 25), .mv (.t 0), none, []⟩,
  ⟨(some 26), .len false (.t 25), none, []⟩,
  ⟨(some 27), .bin .gtr (.t 24) (.t 26), none, []⟩]
def f71x7 : List AOper := [
  ⟨(some 28), .build [.int .i64 0, .con (.slice none 0 0), .int .u32 0, .bool false, .int .i64 0, .bool false, .int .i64 0, .bool false, .bool false, .int .i64 0, .int .u32 0, .con (.slice none 0 0), .bool false, .int .u32 0, .con (.slice none 0 0), .con (.slice none 0 0)] [] [], none, []⟩,
  ⟨none, .store 16 (.t 4) (.t 28), none, []⟩,
  ⟨(some 5), .mv (.c (.int .i64 3)), none, []⟩]
def f71x8 : List AOper := [
  ⟨(some 29), .mv (.t 0), none, []⟩,
  ⟨(some 30), .mv (.t 9), none, []⟩,
  ⟨(some 31), .iadr 1 (.t 29) (.t 30), none, []⟩,
  ⟨(some 32), .load none (.t 31), none, [2]⟩,
  ⟨(some 33), .conv .i64 (.t 32), none, []⟩,
  ⟨(some 34), .mv (.t 0), none, []⟩,
  ⟨(some 35), .mv (.t 9), none, []⟩,
  ⟨(some 36), .bin .add (.t 35) (.c (.int .i64 1)), none, []⟩,
  ⟨(some 37), .iadr 1 (.t 34) (.t 36), none, []⟩,
  ⟨(some 38), .load none (.t 37), none, [8]⟩,
  ⟨(some 39), .conv .i64 (.t 38), none, []⟩,
  ⟨(some 10), .mv (.t 33), none, []⟩,
  ⟨(some 11), .mv (.t 39), none, []⟩,
  ⟨(some 12), .mv (.c (.int .i64 1)), none, []⟩]
def f71x9 : List AOper := [
  ⟨(some 40), .mv (.t 10), none, []⟩,
  ⟨(some 41), .bin .and (.t 40) (.c (.int .i64 16)), none, []⟩,
  ⟨(some 42), .bin .neq (.t 41) (.c (.int .i64 0)), none, []⟩,
  ⟨(some 13), .mv (.t 42), none, []⟩]
def f71x10 : List AOper := [
  ⟨(some 43), .mv (.t 13), none, []⟩]
def f71x11 : List AOper := [
  ⟨(some 12), .mv (.c (.int .i64 2)), none, []⟩]
def f71x12 : List AOper := [
  ⟨(some 44), .mv (.t 9), none, []⟩,
  ⟨(some 45), .bin .add (.t 44) (.c (.int .i64 2)), none, []⟩,
  ⟨(some 46), .mv (.t 12), none, []⟩,
  ⟨(some 47), .bin .add (.t 45) (.t 46), none, []⟩,
  ⟨(some 48), .mv (.t 0), none, []⟩,
  ⟨(some 49), .len false (.t 48), none, []⟩,
  ⟨(some 50), .bin .gtr (.t 47) (.t 49), none, []⟩]
def f71x13 : List AOper := [
  ⟨(some 51), .build [.int .i64 0, .con (.slice none 0 0), .int .u32 0, .bool false, .int .i64 0, .bool false, .int .i64 0, .bool false, .bool false, .int .i64 0, .int .u32 0, .con (.slice none 0 0), .bool false, .int .u32 0, .con (.slice none 0 0), .con (.slice none 0 0)] [] [], none, []⟩,
  ⟨none, .store 16 (.t 4) (.t 51), none, []⟩,
  ⟨(some 5), .mv (.c (.int .i64 3)), none, []⟩]
def f71x14 : List AOper := [
  ⟨(some 52), .mv (.t 0), none, []⟩,
  ⟨(some 53), .mv (.t 9), none, []⟩,
  ⟨(some 54), .bin .add (.t 53) (.c (.int .i64 2)), none, []⟩,
  ⟨(some 55), .mv (.t 12), none, []⟩,
  ⟨(some 56), .call (.c (.fn 100 [])) [(.t 52), (.t 54), (.t 55)], none, []⟩,
  ⟨(some 14), .mv (.t 56), none, []⟩]
def f71x15 : List AOper := [
  ⟨(some 57), .mv (.t 9), none, []⟩,
  ⟨(some 58), .mv (.t 12), none, []⟩,
  ⟨(some 59), .bin .add (.c (.int .i64 2)) (.t 58), none, []⟩,
  ⟨(some 60), .bin .add (.t 57) (.t 59), none, []⟩,
  ⟨(some 9), .mv (.t 60), none, []⟩]
def f71x16 : List AOper := [
  ⟨(some 61), .mv (.t 9), none, []⟩,
  ⟨(some 62), .mv (.t 14), none, []⟩,
  ⟨(some 63), .bin .add (.t 61) (.t 62), none, []⟩,
  ⟨(some 64), .mv (.t 0), none, []⟩,
  ⟨(some 65), .len false (.t 64), none, []⟩,
  ⟨(some 66), .bin .gtr (.t 63) (.t 65), none, []⟩]
def f71x17 : List AOper := [
  ⟨(some 67), .build [.int .i64 0, .con (.slice none 0 0), .int .u32 0, .bool false, .int .i64 0, .bool false, .int .i64 0, .bool false, .bool false, .int .i64 0, .int .u32 0, .con (.slice none 0 0), .bool false, .int .u32 0, .con (.slice none 0 0), .con (.slice none 0 0)] [] [], none, []⟩,
  ⟨none, .store 16 (.t 4) (.t 67), none, []⟩,
  ⟨(some 5), .mv (.c (.int .i64 3)), none, []⟩]
def f71x18 : List AOper := [
  ⟨(some 68), .mv (.t 11), none, []⟩,
  ⟨(some 69), .mv (.t 7), none, []⟩,
  ⟨(some 70), .bin .leq (.t 68) (.t 69), none, []⟩]
def f71x19 : List AOper := [
  ⟨(some 71), .build [.int .i64 0, .con (.slice none 0 0), .int .u32 0, .bool false, .int .i64 0, .bool false, .int .i64 0, .bool false, .bool false, .int .i64 0, .int .u32 0, .con (.slice none 0 0), .bool false, .int .u32 0, .con (.slice none 0 0), .con (.slice none 0 0)] [] [], none, []⟩,
  ⟨none, .store 16 (.t 4) (.t 71), none, []⟩,
  ⟨(some 5), .mv (.c (.int .i64 16)), none, []⟩]
def f71x20 : List AOper := [
  ⟨(some 72), .mv (.t 11), none, []⟩,
  ⟨(some 7), .mv (.t 72), none, []⟩]
def f71x21 : List AOper := [
  ⟨(some 74), .load (some 16) (.t 6), none, []⟩,
  ⟨(some 75), .mv (.t 11), none, []⟩,
  ⟨(some 76), .mv (.t 0), none, []⟩,
  ⟨(some 77), .mv (.t 9), none, []⟩,
  ⟨(some 78), .mv (.t 9), none, []⟩,
  ⟨(some 79), .mv (.t 14), none, []⟩,
  ⟨(some 80), .bin .add (.t 78) (.t 79), none, []⟩,
  ⟨(some 81), .slc 1 (.t 76) (some (.t 77)) (some (.t 80)) none, none, []⟩,
  ⟨(some 82), .mv (.t 1), none, []⟩,
  ⟨(some 83), .call (.c (.fn 101 [])) [(.t 74), (.t 75), (.t 81), (.t 82)], none, [0, 7]⟩,
  ⟨(some 73), .mv (.t 83), none, []⟩,
  ⟨(some 84), .ext (.t 73) 0, none, []⟩,
  ⟨(some 85), .ext (.t 73) 1, none, []⟩,
  ⟨(some 15), .alloc (.agg [.int .i64 0, .con (.slice none 0 0), .int .u32 0, .bool false, .int .i64 0, .bool false, .int .i64 0, .bool false, .bool false, .int .i64 0, .int .u32 0, .con (.slice none 0 0), .bool false, .int .u32 0, .con (.slice none 0 0), .con (.slice none 0 0)]), none, []⟩,
  ⟨none, .store 16 (.t 15) (.t 84), none, [13, 9, 0, 7]⟩,
  ⟨(some 16), .mv (.t 85), none, []⟩]
def f71x22 : List AOper := [
  ⟨(some 86), .mv (.t 10), none, []⟩,
  ⟨(some 87), .bin .andNot (.t 86) (.c (.int .i64 16)), none, []⟩,
  ⟨(some 88), .mv (.t 11), none, []⟩,
  ⟨(some 89), .call (.c (.fn 102 [])) [(.t 88)], none, []⟩,
  ⟨(some 90), .bin .neq (.t 87) (.t 89), none, []⟩,
  ⟨(some 91), .mv (.t 90), none, []⟩,
  ⟨(some 92), .mv (.t 13), (some (91, false)), []⟩,
  ⟨(some 93), .mv (.t 92), (some (91, false)), []⟩,
  ⟨(some 94), .mv (.t 14), (some (93, true)), []⟩,
  ⟨(some 95), .bin .leq (.t 94) (.c (.int .i64 255)), (some (93, true)), []⟩,
  ⟨(some 96), .pick (.t 93) (.t 95) (.c (.bool false)), (some (91, false)), []⟩,
  ⟨(some 97), .pick (.t 91) (.c (.bool true)) (.t 96), none, []⟩,
  ⟨(some 98), .mv (.t 97), none, []⟩,
  ⟨(some 99), .mv (.t 16), (some (98, false)), []⟩,
  ⟨(some 100), .un .not (.t 99), (some (98, false)), []⟩,
  ⟨(some 101), .pick (.t 98) (.c (.bool true)) (.t 100), none, []⟩]
def f71x23 : List AOper := [
  ⟨(some 102), .build [.int .i64 0, .con (.slice none 0 0), .int .u32 0, .bool false, .int .i64 0, .bool false, .int .i64 0, .bool false, .bool false, .int .i64 0, .int .u32 0, .con (.slice none 0 0), .bool false, .int .u32 0, .con (.slice none 0 0), .con (.slice none 0 0)] [] [], none, []⟩,
  ⟨none, .store 16 (.t 4) (.t 102), none, []⟩,
  ⟨(some 5), .mv (.c (.int .i64 2)), none, []⟩]
def f71x24 : List AOper := [
  ⟨(some 103), .load (some 16) (.t 15), none, []⟩,
  ⟨none, .store 16 (.t 6) (.t 103), none, []⟩]
def f71x25 : List AOper := [
  ⟨(some 104), .mv (.t 11), none, []⟩,
  ⟨(some 105), .iarr 256 1 (.t 8) (.t 104), none, []⟩,
  ⟨none, .store 1 (.t 105) (.c (.bool true)), none, []⟩]
def f71x26 : List AOper := [
  ⟨(some 106), .mv (.t 9), none, []⟩,
  ⟨(some 107), .mv (.t 14), none, []⟩,
  ⟨(some 108), .bin .add (.t 106) (.t 107), none, []⟩,
  ⟨(some 9), .mv (.t 108), none, []⟩]
def f71x27L : ACode := (.seq (.seq (.region f71x5 false) (.cond (.t 22) .skip (.exit 0))) (.block 1 (.seq (.seq (.region f71x6 false) (.cond (.t 27) (.seq (.region f71x7 false) .ret) .skip)) (.seq (.region f71x8 true) (.seq (.region f71x9 false) (.seq (.seq (.region f71x10 false) (.cond (.t 43) (.region f71x11 false) .skip)) (.seq (.seq (.region f71x12 false) (.cond (.t 50) (.seq (.region f71x13 false) .ret) .skip)) (.seq (.region f71x14 false) (.seq (.region f71x15 false) (.seq (.seq (.region f71x16 false) (.cond (.t 66) (.seq (.region f71x17 false) .ret) .skip)) (.seq (.seq (.region f71x18 false) (.cond (.t 70) (.seq (.region f71x19 false) .ret) .skip)) (.seq (.region f71x20 false) (.seq (.region f71x21 true) (.seq (.seq (.region f71x22 false) (.cond (.t 101) (.seq (.region f71x23 false) .ret) .skip)) (.seq (.region f71x24 false) (.seq (.region f71x25 false) (.region f71x26 false)))))))))))))))))
def f71x28 : List AOper := [
  ⟨(some 109), .iarr 256 1 (.t 8) (.c (.int .i64 1)), none, []⟩,
  ⟨(some 110), .load none (.t 109), none, []⟩,
  ⟨(some 111), .un .not (.t 110), none, []⟩,
  ⟨(some 112), .mv (.t 111), none, []⟩,
  ⟨(some 113), .iarr 256 1 (.t 8) (.c (.int .i64 2)), (some (112, false)), []⟩,
  ⟨(some 114), .load none (.t 113), (some (112, false)), []⟩,
  ⟨(some 115), .un .not (.t 114), (some (112, false)), []⟩,
  ⟨(some 116), .pick (.t 112) (.c (.bool true)) (.t 115), none, []⟩,
  ⟨(some 117), .mv (.t 116), none, []⟩,
  ⟨(some 118), .iarr 256 1 (.t 8) (.c (.int .i64 3)), (some (117, false)), []⟩,
  ⟨(some 119), .load none (.t 118), (some (117, false)), []⟩,
  ⟨(some 120), .un .not (.t 119), (some (117, false)), []⟩,
  ⟨(some 121), .pick (.t 117) (.c (.bool true)) (.t 120), none, []⟩]
def f71x29 : List AOper := [
  ⟨(some 122), .build [.int .i64 0, .con (.slice none 0 0), .int .u32 0, .bool false, .int .i64 0, .bool false, .int .i64 0, .bool false, .bool false, .int .i64 0, .int .u32 0, .con (.slice none 0 0), .bool false, .int .u32 0, .con (.slice none 0 0), .con (.slice none 0 0)] [] [], none, []⟩,
  ⟨none, .store 16 (.t 4) (.t 122), none, []⟩,
  ⟨(some 5), .mv (.c (.int .i64 6)), none, []⟩]
def f71x30 : List AOper := [
  ⟨(some 123), .load (some 16) (.t 6), none, []⟩,
  ⟨(some 124), .call (.c (.fn 66 [])) [(.t 123)], none, []⟩,
  ⟨(some 17), .mv (.t 124), none, []⟩]
def f71x31 : List AOper := [
  ⟨(some 125), .mv (.t 17), none, []⟩,
  ⟨(some 126), .bin .neq (.t 125) (.c (.int .i64 0)), none, []⟩]
def f71x32 : List AOper := [
  ⟨(some 127), .build [.int .i64 0, .con (.slice none 0 0), .int .u32 0, .bool false, .int .i64 0, .bool false, .int .i64 0, .bool false, .bool false, .int .i64 0, .int .u32 0, .con (.slice none 0 0), .bool false, .int .u32 0, .con (.slice none 0 0), .con (.slice none 0 0)] [] [], none, []⟩,
  ⟨(some 128), .mv (.t 17), none, []⟩,
  ⟨none, .store 16 (.t 4) (.t 127), none, []⟩,
  ⟨(some 5), .mv (.t 128), none, []⟩]
def f71x33 : List AOper := [
  ⟨(some 129), .load (some 16) (.t 6), none, []⟩,
  ⟨none, .store 16 (.t 4) (.t 129), none, []⟩,
  ⟨(some 5), .mv (.c (.int .i64 0)), none, []⟩]
def f71 : AFunc := ⟨130, 2, false, [.cell 4 (some 16), .t 5], (.seq (.region f71x0 false) (.seq (.region f71x1 false) (.seq (.region f71x2 false) (.seq (.region f71x3 false) (.seq (.seq (.region f71x4 false) (.block 0 (.loop f71x27L))) (.seq (.seq (.region f71x28 false) (.cond (.t 121) (.seq (.region f71x29 false) .ret) .skip)) (.seq (.seq (.region f71x30 false) (.seq (.region f71x31 false) (.cond (.t 126) (.seq (.region f71x32 false) .ret) .skip))) (.seq (.region f71x33 false) .ret))))))))⟩
def f71x27LH : List AItem := [.inLoop f71x27L, .inBlock 0, .code (.seq (.seq (.region f71x28 false) (.cond (.t 121) (.seq (.region f71x29 false) .ret) .skip)) (.seq (.seq (.region f71x30 false) (.seq (.region f71x31 false) (.cond (.t 126) (.seq (.region f71x32 false) .ret) .skip))) (.seq (.region f71x33 false) .ret)))]

/-- routing/routingref17.Flat -/
def f57x0 : List AOper := [
  ⟨(some 2), .mv (.c (.con (.slice none 0 0))), none, []⟩]
def f57x1 : List AOper := [
  ⟨(some 3), .mv (.c (.con (.slice none 0 0))), none, []⟩]
def f57x2 : List AOper := [
  ⟨(some 6), .mv (.t 0), none, []⟩,
  ⟨(some 7), .len false (.t 6), none, []⟩,
  ⟨(some 8), .mv (.c (.int .i64 0)), none, []⟩]
def f57x3 : List AOper := [
  ⟨(some 9), .bin .lss (.t 8) (.t 7), none, []⟩]
def f57x4 : List AOper := [
  ⟨(some 10), .iadr 2 (.t 6) (.t 8), none, []⟩,
  ⟨(some 11), .load (some 2) (.t 10), none, []⟩,
  ⟨(some 5), .alloc (.agg [.int .i64 0, .con (.slice none 0 0)]), none, []⟩,
  ⟨none, .store 2 (.t 5) (.t 11), none, []⟩]
def f57x5 : List AOper := [
  ⟨(some 12), .mv (.t 3), none, []⟩,
  ⟨(some 13), .fadr 1 (.t 5), none, []⟩,
  ⟨(some 14), .load none (.t 13), none, []⟩,
  ⟨(some 15), .app 1 8 (.t 12) (.t 14), none, []⟩,
  ⟨(some 3), .mv (.t 15), none, []⟩]
def f57x6 : List AOper := [
  ⟨(some 16), .bin .add (.t 8) (.c (.int .i64 1)), none, []⟩,
  ⟨(some 8), .mv (.t 16), none, []⟩]
def f57x7L : ACode := (.seq (.region f57x3 false) (.seq (.cond (.t 9) .skip (.exit 0)) (.seq (.block 1 (.seq (.region f57x4 false) (.region f57x5 false))) (.region f57x6 false))))
def f57x8 : List AOper := [
  ⟨(some 17), .mv (.t 3), none, []⟩,
  ⟨(some 2), .mv (.t 17), none, []⟩]
def f57 : AFunc := ⟨18, 1, false, [.t 2], (.seq (.region f57x0 false) (.seq (.region f57x1 false) (.seq (.seq (.region f57x2 false) (.block 0 (.loop f57x7L))) (.seq (.region f57x8 false) .ret))))⟩
def f57x7LH : List AItem := [.inLoop f57x7L, .inBlock 0, .code (.seq (.region f57x8 false) .ret)]

/-- routing/attrs.Same -/
def f72x0 : List AOper := [
  ⟨(some 2), .box (.t 0), none, []⟩,
  ⟨(some 3), .box (.t 1), none, []⟩,
  ⟨(some 4), .mv (.c (.bool false)), none, []⟩]
def f72x1 : List AOper := [
  ⟨(some 6), .fadr 0 (.t 2), none, []⟩,
  ⟨(some 7), .load none (.t 6), none, []⟩,
  ⟨(some 8), .fadr 0 (.t 3), none, []⟩,
  ⟨(some 9), .load none (.t 8), none, []⟩,
  ⟨(some 10), .bin .neq (.t 7) (.t 9), none, []⟩,
  ⟨(some 11), .mv (.t 10), none, []⟩,
  ⟨(some 12), .fadr 1 (.t 2), (some (11, false)), []⟩,
  ⟨(some 13), .load none (.t 12), (some (11, false)), []⟩,
  ⟨(some 14), .fadr 1 (.t 3), (some (11, false)), []⟩,
  ⟨(some 15), .load none (.t 14), (some (11, false)), []⟩,
  ⟨(some 16), .call (.c (.fn 103 [])) [(.t 13), (.t 15)], (some (11, false)), []⟩,
  ⟨(some 17), .un .not (.t 16), (some (11, false)), []⟩,
  ⟨(some 18), .pick (.t 11) (.c (.bool true)) (.t 17), none, []⟩,
  ⟨(some 19), .mv (.t 18), none, []⟩,
  ⟨(some 20), .fadr 2 (.t 2), (some (19, false)), []⟩,
  ⟨(some 21), .load none (.t 20), (some (19, false)), []⟩,
  ⟨(some 22), .fadr 2 (.t 3), (some (19, false)), []⟩,
  ⟨(some 23), .load none (.t 22), (some (19, false)), []⟩,
  ⟨(some 24), .bin .neq (.t 21) (.t 23), (some (19, false)), []⟩,
  ⟨(some 25), .pick (.t 19) (.c (.bool true)) (.t 24), none, []⟩,
  ⟨(some 26), .mv (.t 25), none, []⟩,
  ⟨(some 27), .fadr 3 (.t 2), (some (26, false)), []⟩,
  ⟨(some 28), .load none (.t 27), (some (26, false)), []⟩,
  ⟨(some 29), .fadr 3 (.t 3), (some (26, false)), []⟩,
  ⟨(some 30), .load none (.t 29), (some (26, false)), []⟩,
  ⟨(some 31), .eqb true (.t 28) (.t 30), (some (26, false)), []⟩,
  ⟨(some 32), .pick (.t 26) (.c (.bool true)) (.t 31), none, []⟩,
  ⟨(some 33), .mv (.t 32), none, []⟩,
  ⟨(some 34), .fadr 4 (.t 2), (some (33, false)), []⟩,
  ⟨(some 35), .load none (.t 34), (some (33, false)), []⟩,
  ⟨(some 36), .fadr 4 (.t 3), (some (33, false)), []⟩,
  ⟨(some 37), .load none (.t 36), (some (33, false)), []⟩,
  ⟨(some 38), .bin .neq (.t 35) (.t 37), (some (33, false)), []⟩,
  ⟨(some 39), .pick (.t 33) (.c (.bool true)) (.t 38), none, []⟩,
  ⟨(some 40), .mv (.t 39), none, []⟩,
  ⟨(some 41), .fadr 5 (.t 2), (some (40, false)), []⟩,
  ⟨(some 42), .load none (.t 41), (some (40, false)), []⟩,
  ⟨(some 43), .fadr 5 (.t 3), (some (40, false)), []⟩,
  ⟨(some 44), .load none (.t 43), (some (40, false)), []⟩,
  ⟨(some 45), .eqb true (.t 42) (.t 44), (some (40, false)), []⟩,
  ⟨(some 46), .pick (.t 40) (.c (.bool true)) (.t 45), none, []⟩,
  ⟨(some 47), .mv (.t 46), none, []⟩,
  ⟨(some 48), .fadr 6 (.t 2), (some (47, false)), []⟩,
  ⟨(some 49), .load none (.t 48), (some (47, false)), []⟩,
  ⟨(some 50), .fadr 6 (.t 3), (some (47, false)), []⟩,
  ⟨(some 51), .load none (.t 50), (some (47, false)), []⟩,
  ⟨(some 52), .bin .neq (.t 49) (.t 51), (some (47, false)), []⟩,
  ⟨(some 53), .pick (.t 47) (.c (.bool true)) (.t 52), none, []⟩,
  ⟨(some 54), .mv (.t 53), none, []⟩,
  ⟨(some 55), .fadr 7 (.t 2), (some (54, false)), []⟩,
  ⟨(some 56), .load none (.t 55), (some (54, false)), []⟩,
  ⟨(some 57), .fadr 7 (.t 3), (some (54, false)), []⟩,
  ⟨(some 58), .load none (.t 57), (some (54, false)), []⟩,
  ⟨(some 59), .eqb true (.t 56) (.t 58), (some (54, false)), []⟩,
  ⟨(some 60), .pick (.t 54) (.c (.bool true)) (.t 59), none, []⟩]
def f72x2 : List AOper := [
  ⟨(some 4), .mv (.c (.bool false)), none, []⟩]
def f72x3 : List AOper := [
  ⟨(some 61), .fadr 8 (.t 2), none, []⟩,
  ⟨(some 62), .load none (.t 61), none, []⟩,
  ⟨(some 63), .fadr 8 (.t 3), none, []⟩,
  ⟨(some 64), .load none (.t 63), none, []⟩,
  ⟨(some 65), .eqb true (.t 62) (.t 64), none, []⟩,
  ⟨(some 66), .mv (.t 65), none, []⟩,
  ⟨(some 67), .fadr 9 (.t 2), (some (66, false)), []⟩,
  ⟨(some 68), .load none (.t 67), (some (66, false)), []⟩,
  ⟨(some 69), .fadr 9 (.t 3), (some (66, false)), []⟩,
  ⟨(some 70), .load none (.t 69), (some (66, false)), []⟩,
  ⟨(some 71), .bin .neq (.t 68) (.t 70), (some (66, false)), []⟩,
  ⟨(some 72), .pick (.t 66) (.c (.bool true)) (.t 71), none, []⟩,
  ⟨(some 73), .mv (.t 72), none, []⟩,
  ⟨(some 74), .fadr 10 (.t 2), (some (73, false)), []⟩,
  ⟨(some 75), .load none (.t 74), (some (73, false)), []⟩,
  ⟨(some 76), .fadr 10 (.t 3), (some (73, false)), []⟩,
  ⟨(some 77), .load none (.t 76), (some (73, false)), []⟩,
  ⟨(some 78), .bin .neq (.t 75) (.t 77), (some (73, false)), []⟩,
  ⟨(some 79), .pick (.t 73) (.c (.bool true)) (.t 78), none, []⟩,
  ⟨(some 80), .mv (.t 79), none, []⟩,
  ⟨(some 81), .fadr 11 (.t 2), (some (80, false)), []⟩,
  ⟨(some 82), .load none (.t 81), (some (80, false)), []⟩,
  ⟨(some 83), .fadr 11 (.t 3), (some (80, false)), []⟩,
  ⟨(some 84), .load none (.t 83), (some (80, false)), []⟩,
  ⟨(some 85), .call (.c (.fn 104 [])) [(.t 82), (.t 84)], (some (80, false)), []⟩,
  ⟨(some 86), .un .not (.t 85), (some (80, false)), []⟩,
  ⟨(some 87), .pick (.t 80) (.c (.bool true)) (.t 86), none, []⟩,
  ⟨(some 88), .mv (.t 87), none, []⟩,
  ⟨(some 89), .fadr 12 (.t 2), (some (88, false)), []⟩,
  ⟨(some 90), .load none (.t 89), (some (88, false)), []⟩,
  ⟨(some 91), .fadr 12 (.t 3), (some (88, false)), []⟩,
  ⟨(some 92), .load none (.t 91), (some (88, false)), []⟩,
  ⟨(some 93), .eqb true (.t 90) (.t 92), (some (88, false)), []⟩,
  ⟨(some 94), .pick (.t 88) (.c (.bool true)) (.t 93), none, []⟩,
  ⟨(some 95), .mv (.t 94), none, []⟩,
  ⟨(some 96), .fadr 13 (.t 2), (some (95, false)), []⟩,
  ⟨(some 97), .load none (.t 96), (some (95, false)), []⟩,
  ⟨(some 98), .fadr 13 (.t 3), (some (95, false)), []⟩,
  ⟨(some 99), .load none (.t 98), (some (95, false)), []⟩,
  ⟨(some 100), .bin .neq (.t 97) (.t 99), (some (95, false)), []⟩,
  ⟨(some 101), .pick (.t 95) (.c (.bool true)) (.t 100), none, []⟩,
  ⟨(some 102), .mv (.t 101), none, []⟩,
  ⟨(some 103), .fadr 14 (.t 2), (some (102, false)), []⟩,
  ⟨(some 104), .load none (.t 103), (some (102, false)), []⟩,
  ⟨(some 105), .fadr 14 (.t 3), (some (102, false)), []⟩,
  ⟨(some 106), .load none (.t 105), (some (102, false)), []⟩,
  ⟨(some 107), .call (.c (.fn 104 [])) [(.t 104), (.t 106)], (some (102, false)), []⟩,
  ⟨(some 108), .un .not (.t 107), (some (102, false)), []⟩,
  ⟨(some 109), .pick (.t 102) (.c (.bool true)) (.t 108), none, []⟩,
  ⟨(some 110), .mv (.t 109), none, []⟩,
  ⟨(some 111), .fadr 15 (.t 2), (some (110, false)), []⟩,
  ⟨(some 112), .load none (.t 111), (some (110, false)), []⟩,
  ⟨(some 113), .len false (.t 112), (some (110, false)), []⟩,
  ⟨(some 114), .fadr 15 (.t 3), (some (110, false)), []⟩,
  ⟨(some 115), .load none (.t 114), (some (110, false)), []⟩,
  ⟨(some 116), .len false (.t 115), (some (110, false)), []⟩,
  ⟨(some 117), .bin .neq (.t 113) (.t 116), (some (110, false)), []⟩,
  ⟨(some 118), .pick (.t 110) (.c (.bool true)) (.t 117), none, []⟩]
def f72x4 : List AOper := [
  ⟨(some 4), .mv (.c (.bool false)), none, []⟩]
def f72x5 : List AOper := [
  ⟨(some 119), .fadr 15 (.t 2), none, []⟩,
  ⟨(some 120), .load none (.t 119), none, []⟩,
  ⟨(some 121), .len false (.t 120), none, []⟩,
  ⟨(some 122), .mv (.c (.int .i64 0)), none, []⟩]
def f72x6 : List AOper := [
  ⟨(some 123), .bin .lss (.t 122) (.t 121), none, []⟩]
def f72x7 : List AOper := [
  ⟨(some 124), .mv (.t 122), none, []⟩,
  ⟨(some 5), .mv (.t 124), none, []⟩]
def f72x8 : List AOper := [
  ⟨(some 125), .fadr 15 (.t 2), none, []⟩,
  ⟨(some 126), .load none (.t 125), none, []⟩,
  ⟨(some 127), .mv (.t 5), none, []⟩,
  ⟨(some 128), .iadr 2 (.t 126) (.t 127), none, [1]⟩,
  ⟨(some 129), .fadr 0 (.t 128), none, []⟩,
  ⟨(some 130), .load none (.t 129), none, [3, 1]⟩,
  ⟨(some 131), .fadr 15 (.t 3), none, []⟩,
  ⟨(some 132), .load none (.t 131), none, []⟩,
  ⟨(some 133), .mv (.t 5), none, []⟩,
  ⟨(some 134), .iadr 2 (.t 132) (.t 133), none, [7]⟩,
  ⟨(some 135), .fadr 0 (.t 134), none, []⟩,
  ⟨(some 136), .load none (.t 135), none, [9, 7]⟩,
  ⟨(some 137), .bin .neq (.t 130) (.t 136), none, []⟩,
  ⟨(some 138), .mv (.t 137), none, []⟩,
  ⟨(some 139), .fadr 15 (.t 2), (some (138, false)), []⟩,
  ⟨(some 140), .load none (.t 139), (some (138, false)), [5, 11, 3, 1, 9, 7]⟩,
  ⟨(some 141), .mv (.t 5), (some (138, false)), []⟩,
  ⟨(some 142), .iadr 2 (.t 140) (.t 141), (some (138, false)), [15, 5, 11, 3, 1, 9, 7]⟩,
  ⟨(some 143), .fadr 1 (.t 142), (some (138, false)), []⟩,
  ⟨(some 144), .load none (.t 143), (some (138, false)), [17, 15, 5, 11, 3, 1, 9, 7]⟩,
  ⟨(some 145), .b2s (.t 144), (some (138, false)), [19, 17, 15, 5, 11, 3, 1, 9, 7]⟩,
  ⟨(some 146), .fadr 15 (.t 3), (some (138, false)), []⟩,
  ⟨(some 147), .load none (.t 146), (some (138, false)), [5, 11, 3, 1, 9, 7]⟩,
  ⟨(some 148), .mv (.t 5), (some (138, false)), []⟩,
  ⟨(some 149), .iadr 2 (.t 147) (.t 148), (some (138, false)), [22, 5, 11, 3, 1, 9, 7]⟩,
  ⟨(some 150), .fadr 1 (.t 149), (some (138, false)), []⟩,
  ⟨(some 151), .load none (.t 150), (some (138, false)), [24, 22, 5, 11, 3, 1, 9, 7]⟩,
  ⟨(some 152), .b2s (.t 151), (some (138, false)), [26, 24, 22, 5, 11, 3, 1, 9, 7]⟩,
  ⟨(some 153), .bin .neq (.t 145) (.t 152), (some (138, false)), []⟩,
  ⟨(some 154), .pick (.t 138) (.c (.bool true)) (.t 153), none, []⟩]
def f72x9 : List AOper := [
  ⟨(some 4), .mv (.c (.bool false)), none, []⟩]
def f72x10 : List AOper := [
  ⟨(some 155), .bin .add (.t 122) (.c (.int .i64 1)), none, []⟩,
  ⟨(some 122), .mv (.t 155), none, []⟩]
def f72x11L : ACode := (.seq (.region f72x6 false) (.seq (.cond (.t 123) .skip (.exit 0)) (.seq (.block 1 (.seq (.region f72x7 false) (.seq (.region f72x8 true) (.cond (.t 154) (.seq (.region f72x9 false) .ret) .skip)))) (.region f72x10 false))))
def f72x12 : List AOper := [
  ⟨(some 4), .mv (.c (.bool true)), none, []⟩]
def f72 : AFunc := ⟨156, 2, false, [.t 4], (.seq (.region f72x0 false) (.seq (.seq (.region f72x1 false) (.cond (.t 60) (.seq (.region f72x2 false) .ret) .skip)) (.seq (.seq (.region f72x3 false) (.cond (.t 118) (.seq (.region f72x4 false) .ret) .skip)) (.seq (.seq (.region f72x5 false) (.block 0 (.loop f72x11L))) (.seq (.region f72x12 false) .ret)))))⟩
def f72x11LH : List AItem := [.inLoop f72x11L, .inBlock 0, .code (.seq (.region f72x12 false) .ret)]

/-- routing/routingref36.Size -/
def f26x0 : List AOper := [
  ⟨(some 1), .box (.t 0), none, []⟩,
  ⟨(some 2), .mv (.c (.int .i64 0)), none, []⟩]
def f26x1 : List AOper := [
  ⟨(some 6), .fadr 1 (.t 1), none, []⟩,
  ⟨(some 7), .load none (.t 6), none, []⟩,
  ⟨(some 8), .call (.c (.fn 54 [])) [(.t 7)], none, [1]⟩,
  ⟨(some 9), .fadr 11 (.t 1), none, []⟩,
  ⟨(some 10), .load none (.t 9), none, []⟩,
  ⟨(some 11), .len false (.t 10), none, [4]⟩,
  ⟨(some 12), .bin .add (.t 8) (.t 11), none, []⟩,
  ⟨(some 13), .fadr 14 (.t 1), none, []⟩,
  ⟨(some 14), .load none (.t 13), none, []⟩,
  ⟨(some 15), .len false (.t 14), none, [8]⟩,
  ⟨(some 16), .bin .add (.t 12) (.t 15), none, []⟩,
  ⟨(some 17), .fadr 15 (.t 1), none, []⟩,
  ⟨(some 18), .load none (.t 17), none, []⟩,
  ⟨(some 19), .len false (.t 18), none, [12]⟩,
  ⟨(some 20), .bin .add (.t 16) (.t 19), none, []⟩,
  ⟨(some 3), .mv (.t 20), none, []⟩]
def f26x2 : List AOper := [
  ⟨(some 21), .fadr 15 (.t 1), none, []⟩,
  ⟨(some 22), .load none (.t 21), none, []⟩,
  ⟨(some 23), .len false (.t 22), none, []⟩,
  ⟨(some 24), .mv (.c (.int .i64 0)), none, []⟩]
def f26x3 : List AOper := [
  ⟨(some 25), .bin .lss (.t 24) (.t 23), none, []⟩]
def f26x4 : List AOper := [
  ⟨(some 26), .iadr 2 (.t 22) (.t 24), none, []⟩,
  ⟨(some 27), .load (some 2) (.t 26), none, []⟩,
  ⟨(some 5), .alloc (.agg [.int .i64 0, .con (.slice none 0 0)]), none, []⟩,
  ⟨none, .store 2 (.t 5) (.t 27), none, []⟩]
def f26x5 : List AOper := [
  ⟨(some 28), .mv (.t 3), none, []⟩,
  ⟨(some 29), .fadr 1 (.t 5), none, []⟩,
  ⟨(some 30), .load none (.t 29), none, []⟩,
  ⟨(some 31), .len false (.t 30), none, []⟩,
  ⟨(some 32), .bin .quo (.t 31) (.c (.int .i64 8)), none, []⟩,
  ⟨(some 33), .bin .add (.t 28) (.t 32), none, []⟩,
  ⟨(some 3), .mv (.t 33), none, []⟩]
def f26x6 : List AOper := [
  ⟨(some 34), .bin .add (.t 24) (.c (.int .i64 1)), none, []⟩,
  ⟨(some 24), .mv (.t 34), none, []⟩]
def f26x7L : ACode := (.seq (.region f26x3 false) (.seq (.cond (.t 25) .skip (.exit 0)) (.seq (.block 1 (.seq (.region f26x4 false) (.region f26x5 false))) (.region f26x6 false))))
def f26x8 : List AOper := [
  ⟨(some 35), .mv (.t 3), none, []⟩,
  ⟨(some 2), .mv (.t 35), none, []⟩]
def f26 : AFunc := ⟨36, 1, false, [.t 2], (.seq (.region f26x0 false) (.seq (.region f26x1 true) (.seq (.seq (.region f26x2 false) (.block 0 (.loop f26x7L))) (.seq (.region f26x8 false) .ret))))⟩
def f26x7LH : List AItem := [.inLoop f26x7L, .inBlock 0, .code (.seq (.region f26x8 false) .ret)]

/-- routing/attrs.first -/
def f73x0 : List AOper := [
  ⟨(some 2), .mv (.c (.int .i64 0)), none, []⟩]
def f73x1 : List AOper := [
  ⟨(some 5), .mv (.t 0), none, []⟩,
  ⟨(some 6), .len false (.t 5), none, []⟩,
  ⟨(some 7), .mv (.c (.int .i64 0)), none, []⟩]
def f73x2 : List AOper := [
  ⟨(some 8), .bin .lss (.t 7) (.t 6), none, []⟩]
def f73x3 : List AOper := [
  ⟨(some 9), .iadr 1 (.t 5) (.t 7), none, []⟩,
  ⟨(some 10), .load none (.t 9), none, []⟩,
  ⟨(some 4), .mv (.t 10), none, []⟩]
def f73x4 : List AOper := [
  ⟨(some 11), .mv (.t 4), none, []⟩,
  ⟨(some 12), .bin .neq (.t 11) (.c (.int .i64 0)), none, []⟩]
def f73x5 : List AOper := [
  ⟨(some 13), .mv (.t 4), none, []⟩,
  ⟨(some 2), .mv (.t 13), none, []⟩]
def f73x6 : List AOper := [
  ⟨(some 14), .bin .add (.t 7) (.c (.int .i64 1)), none, []⟩,
  ⟨(some 7), .mv (.t 14), none, []⟩]
def f73x7L : ACode := (.seq (.region f73x2 false) (.seq (.cond (.t 8) .skip (.exit 0)) (.seq (.block 1 (.seq (.region f73x3 false) (.seq (.region f73x4 false) (.cond (.t 12) (.seq (.region f73x5 false) .ret) .skip)))) (.region f73x6 false))))
def f73x8 : List AOper := [
  ⟨(some 2), .mv (.c (.int .i64 0)), none, []⟩]
def f73 : AFunc := ⟨15, 1, false, [.t 2], (.seq (.region f73x0 false) (.seq (.seq (.region f73x1 false) (.block 0 (.loop f73x7L))) (.seq (.region f73x8 false) .ret)))⟩
def f73x7LH : List AItem := [.inLoop f73x7L, .inBlock 0, .code (.seq (.region f73x8 false) .ret)]

/-- routing/attrs.when -/
def f74x0 : List AOper := [
  ⟨(some 4), .mv (.c (.int .i64 0)), none, []⟩]
def f74x1 : List AOper := [
  ⟨(some 5), .mv (.t 0), none, []⟩]
def f74x2 : List AOper := [
  ⟨(some 6), .mv (.t 1), none, []⟩,
  ⟨(some 4), .mv (.t 6), none, []⟩]
def f74x3 : List AOper := [
  ⟨(some 4), .mv (.c (.int .i64 0)), none, []⟩]
def f74 : AFunc := ⟨7, 2, false, [.t 4], (.seq (.region f74x0 false) (.seq (.seq (.region f74x1 false) (.cond (.t 5) (.seq (.region f74x2 false) .ret) .skip)) (.seq (.region f74x3 false) .ret)))⟩

/-- routing/aspath.Check -/
def f75x0 : List AOper := [
  ⟨(some 2), .mv (.c (.int .i64 0)), none, []⟩]
def f75x1 : List AOper := [
  ⟨(some 7), .mv (.t 0), none, []⟩,
  ⟨(some 8), .len false (.t 7), none, []⟩,
  ⟨(some 9), .bin .gtr (.t 8) (.c (.int .i64 64)), none, []⟩]
def f75x2 : List AOper := [
  ⟨(some 2), .mv (.c (.int .i64 4)), none, []⟩]
def f75x3 : List AOper := [
  ⟨(some 3), .mv (.c (.bool false)), none, []⟩]
def f75x4 : List AOper := [
  ⟨(some 10), .mv (.t 0), none, []⟩,
  ⟨(some 11), .len false (.t 10), none, []⟩,
  ⟨(some 12), .mv (.c (.int .i64 0)), none, []⟩]
def f75x5 : List AOper := [
  ⟨(some 13), .bin .lss (.t 12) (.t 11), none, []⟩]
def f75x6 : List AOper := [
  ⟨(some 14), .mv (.t 12), none, []⟩,
  ⟨(some 15), .iadr 2 (.t 10) (.t 12), none, []⟩,
  ⟨(some 16), .load (some 2) (.t 15), none, []⟩,
  ⟨(some 5), .alloc (.agg [.int .i64 0, .con (.slice none 0 0)]), none, []⟩,
  ⟨(some 4), .mv (.t 14), none, []⟩,
  ⟨none, .store 2 (.t 5) (.t 16), none, []⟩]
def f75x7 : List AOper := [
  ⟨(some 17), .load (some 2) (.t 5), none, []⟩,
  ⟨(some 18), .call (.c (.fn 105 [])) [(.t 17)], none, []⟩,
  ⟨(some 6), .mv (.t 18), none, []⟩]
def f75x8 : List AOper := [
  ⟨(some 19), .mv (.t 6), none, []⟩,
  ⟨(some 20), .bin .neq (.t 19) (.c (.int .i64 0)), none, []⟩]
def f75x9 : List AOper := [
  ⟨(some 21), .mv (.t 6), none, []⟩,
  ⟨(some 2), .mv (.t 21), none, []⟩]
def f75x10 : List AOper := [
  ⟨(some 22), .fadr 0 (.t 5), none, []⟩,
  ⟨(some 23), .load none (.t 22), none, []⟩,
  ⟨(some 24), .call (.c (.fn 106 [])) [(.t 23)], none, []⟩,
  ⟨(some 25), .mv (.t 24), none, []⟩,
  ⟨(some 26), .mv (.t 3), (some (25, true)), []⟩,
  ⟨(some 27), .pick (.t 25) (.t 26) (.c (.bool false)), none, []⟩]
def f75x11 : List AOper := [
  ⟨(some 2), .mv (.c (.int .i64 1)), none, []⟩]
def f75x12 : List AOper := [
  ⟨(some 28), .mv (.t 4), none, []⟩,
  ⟨(some 29), .bin .gtr (.t 28) (.c (.int .i64 0)), none, []⟩,
  ⟨(some 30), .mv (.t 29), none, []⟩,
  ⟨(some 31), .fadr 0 (.t 5), (some (30, true)), []⟩,
  ⟨(some 32), .load none (.t 31), (some (30, true)), []⟩,
  ⟨(some 33), .bsl 1 [.int .i64 0] 2 [0, 1] [(.c (.int .i64 2)), (.c (.int .i64 3))], (some (30, true)), []⟩,
  ⟨(some 34), .call (.c (.fn 107 [])) [(.t 32), (.t 33)], (some (30, true)), [4, 5]⟩,
  ⟨(some 35), .pick (.t 30) (.t 34) (.c (.bool false)), none, []⟩,
  ⟨(some 36), .mv (.t 35), none, []⟩,
  ⟨(some 37), .mv (.t 0), (some (36, true)), []⟩,
  ⟨(some 38), .mv (.t 4), (some (36, true)), []⟩,
  ⟨(some 39), .bin .sub (.t 38) (.c (.int .i64 1)), (some (36, true)), []⟩,
  ⟨(some 40), .iadr 2 (.t 37) (.t 39), (some (36, true)), [6, 4, 5]⟩,
  ⟨(some 41), .fadr 0 (.t 40), (some (36, true)), []⟩,
  ⟨(some 42), .load none (.t 41), (some (36, true)), [12, 6, 4, 5]⟩,
  ⟨(some 43), .fadr 0 (.t 5), (some (36, true)), []⟩,
  ⟨(some 44), .load none (.t 43), (some (36, true)), [6, 4, 5]⟩,
  ⟨(some 45), .bin .eql (.t 42) (.t 44), (some (36, true)), []⟩,
  ⟨(some 46), .pick (.t 36) (.t 45) (.c (.bool false)), none, []⟩,
  ⟨(some 47), .mv (.t 46), none, []⟩,
  ⟨(some 48), .mv (.t 0), (some (47, true)), []⟩,
  ⟨(some 49), .mv (.t 4), (some (47, true)), []⟩,
  ⟨(some 50), .bin .sub (.t 49) (.c (.int .i64 1)), (some (47, true)), []⟩,
  ⟨(some 51), .iadr 2 (.t 48) (.t 50), (some (47, true)), [14, 16, 12, 6, 4, 5]⟩,
  ⟨(some 52), .fadr 1 (.t 51), (some (47, true)), []⟩,
  ⟨(some 53), .load none (.t 52), (some (47, true)), [23, 14, 16, 12, 6, 4, 5]⟩,
  ⟨(some 54), .len false (.t 53), (some (47, true)), [25, 23, 14, 16, 12, 6, 4, 5]⟩,
  ⟨(some 55), .bin .lss (.t 54) (.c (.int .i64 255)), (some (47, true)), []⟩,
  ⟨(some 56), .pick (.t 47) (.t 55) (.c (.bool false)), none, []⟩]
def f75x13 : List AOper := [
  ⟨(some 2), .mv (.c (.int .i64 1)), none, []⟩]
def f75x14 : List AOper := [
  ⟨(some 57), .mv (.t 3), none, []⟩,
  ⟨(some 58), .mv (.t 57), none, []⟩,
  ⟨(some 59), .fadr 0 (.t 5), (some (58, false)), []⟩,
  ⟨(some 60), .load none (.t 59), (some (58, false)), []⟩,
  ⟨(some 61), .call (.c (.fn 106 [])) [(.t 60)], (some (58, false)), []⟩,
  ⟨(some 62), .un .not (.t 61), (some (58, false)), []⟩,
  ⟨(some 63), .pick (.t 58) (.c (.bool true)) (.t 62), none, []⟩,
  ⟨(some 3), .mv (.t 63), none, []⟩]
def f75x15 : List AOper := [
  ⟨(some 64), .bin .add (.t 12) (.c (.int .i64 1)), none, []⟩,
  ⟨(some 12), .mv (.t 64), none, []⟩]
def f75x16L : ACode := (.seq (.region f75x5 false) (.seq (.cond (.t 13) .skip (.exit 0)) (.seq (.block 1 (.seq (.region f75x6 false) (.seq (.seq (.region f75x7 false) (.seq (.region f75x8 false) (.cond (.t 20) (.seq (.region f75x9 false) .ret) .skip))) (.seq (.seq (.region f75x10 false) (.cond (.t 27) (.seq (.region f75x11 false) .ret) .skip)) (.seq (.seq (.region f75x12 true) (.cond (.t 56) (.seq (.region f75x13 false) .ret) .skip)) (.region f75x14 false)))))) (.region f75x15 false))))
def f75x17 : List AOper := [
  ⟨(some 2), .mv (.c (.int .i64 0)), none, []⟩]
def f75 : AFunc := ⟨65, 1, false, [.t 2], (.seq (.region f75x0 false) (.seq (.seq (.region f75x1 false) (.cond (.t 9) (.seq (.region f75x2 false) .ret) .skip)) (.seq (.region f75x3 false) (.seq (.seq (.region f75x4 false) (.block 0 (.loop f75x16L))) (.seq (.region f75x17 false) .ret)))))⟩
def f75x16LH : List AItem := [.inLoop f75x16L, .inBlock 0, .code (.seq (.region f75x17 false) .ret)]

/-- routing/attrs.optional -/
def f76x0 : List AOper := [
  ⟨(some 6), .mv (.c (.int .i64 0)), none, []⟩]
def f76x1 : List AOper := [
  ⟨(some 8), .mv (.t 0), none, []⟩,
  ⟨(some 9), .mv (.t 8), none, []⟩,
  ⟨(some 10), .mv (.t 1), (some (9, true)), []⟩,
  ⟨(some 11), .mv (.t 2), (some (9, true)), []⟩,
  ⟨(some 12), .bin .lss (.t 10) (.t 11), (some (9, true)), []⟩,
  ⟨(some 13), .mv (.t 12), (some (9, true)), []⟩,
  ⟨(some 14), .mv (.t 1), (some (13, false)), []⟩,
  ⟨(some 15), .bin .gtr (.t 14) (.c (.int .i64 4294967295)), (some (13, false)), []⟩,
  ⟨(some 16), .pick (.t 13) (.c (.bool true)) (.t 15), (some (9, true)), []⟩,
  ⟨(some 17), .pick (.t 9) (.t 16) (.c (.bool false)), none, []⟩,
  ⟨(some 7), .mv (.t 17), none, []⟩]
def f76x2 : List AOper := [
  ⟨(some 6), .mv (.c (.int .i64 5)), none, []⟩]
def f76x3 : List AOper := [
  ⟨(some 19), .mv (.t 0), none, []⟩,
  ⟨(some 20), .un .not (.t 19), none, []⟩,
  ⟨(some 21), .mv (.t 20), none, []⟩,
  ⟨(some 22), .mv (.t 1), (some (21, true)), []⟩,
  ⟨(some 23), .bin .neq (.t 22) (.c (.int .i64 0)), (some (21, true)), []⟩,
  ⟨(some 24), .pick (.t 21) (.t 23) (.c (.bool false)), none, []⟩,
  ⟨(some 18), .mv (.t 24), none, []⟩]
def f76x4 : List AOper := [
  ⟨(some 6), .mv (.c (.int .i64 1)), none, []⟩]
def f76x5 : List AOper := [
  ⟨(some 6), .mv (.c (.int .i64 0)), none, []⟩]
def f76 : AFunc := ⟨25, 3, false, [.t 6], (.seq (.region f76x0 false) (.seq (.block 0 (.seq (.region f76x1 false) (.cond (.t 7) (.seq (.region f76x2 false) .ret) (.seq (.region f76x3 false) (.cond (.t 18) (.seq (.region f76x4 false) .ret) .skip))))) (.seq (.region f76x5 false) .ret)))⟩

/-- routing/community.Check -/
def f77x0 : List AOper := [
  ⟨(some 2), .mv (.c (.int .i64 0)), none, []⟩]
def f77x1 : List AOper := [
  ⟨(some 4), .mv (.t 0), none, []⟩,
  ⟨(some 5), .len false (.t 4), none, []⟩,
  ⟨(some 6), .bin .gtr (.t 5) (.c (.int .i64 255)), none, []⟩]
def f77x2 : List AOper := [
  ⟨(some 2), .mv (.c (.int .i64 4)), none, []⟩]
def f77x3 : List AOper := [
  ⟨(some 7), .mv (.t 0), none, []⟩,
  ⟨(some 8), .len false (.t 7), none, []⟩,
  ⟨(some 9), .mv (.c (.int .i64 0)), none, []⟩]
def f77x4 : List AOper := [
  ⟨(some 10), .bin .lss (.t 9) (.t 8), none, []⟩]
def f77x5 : List AOper := [
  ⟨(some 11), .mv (.t 9), none, []⟩,
  ⟨(some 3), .mv (.t 11), none, []⟩]
def f77x6 : List AOper := [
  ⟨(some 12), .mv (.t 3), none, []⟩,
  ⟨(some 13), .bin .gtr (.t 12) (.c (.int .i64 0)), none, []⟩,
  ⟨(some 14), .mv (.t 13), none, []⟩,
  ⟨(some 15), .mv (.t 0), (some (14, true)), []⟩,
  ⟨(some 16), .mv (.t 3), (some (14, true)), []⟩,
  ⟨(some 17), .iadr 1 (.t 15) (.t 16), (some (14, true)), []⟩,
  ⟨(some 18), .load none (.t 17), (some (14, true)), [5]⟩,
  ⟨(some 19), .mv (.t 0), (some (14, true)), []⟩,
  ⟨(some 20), .mv (.t 3), (some (14, true)), []⟩,
  ⟨(some 21), .bin .sub (.t 20) (.c (.int .i64 1)), (some (14, true)), []⟩,
  ⟨(some 22), .iadr 1 (.t 19) (.t 21), (some (14, true)), []⟩,
  ⟨(some 23), .load none (.t 22), (some (14, true)), [10]⟩,
  ⟨(some 24), .bin .leq (.t 18) (.t 23), (some (14, true)), []⟩,
  ⟨(some 25), .pick (.t 14) (.t 24) (.c (.bool false)), none, []⟩]
def f77x7 : List AOper := [
  ⟨(some 2), .mv (.c (.int .i64 16)), none, []⟩]
def f77x8 : List AOper := [
  ⟨(some 26), .bin .add (.t 9) (.c (.int .i64 1)), none, []⟩,
  ⟨(some 9), .mv (.t 26), none, []⟩]
def f77x9L : ACode := (.seq (.region f77x4 false) (.seq (.cond (.t 10) .skip (.exit 0)) (.seq (.block 1 (.seq (.region f77x5 false) (.seq (.region f77x6 true) (.cond (.t 25) (.seq (.region f77x7 false) .ret) .skip)))) (.region f77x8 false))))
def f77x10 : List AOper := [
  ⟨(some 2), .mv (.c (.int .i64 0)), none, []⟩]
def f77 : AFunc := ⟨27, 1, false, [.t 2], (.seq (.region f77x0 false) (.seq (.seq (.region f77x1 false) (.cond (.t 6) (.seq (.region f77x2 false) .ret) .skip)) (.seq (.seq (.region f77x3 false) (.block 0 (.loop f77x9L))) (.seq (.region f77x10 false) .ret))))⟩
def f77x9LH : List AItem := [.inLoop f77x9L, .inBlock 0, .code (.seq (.region f77x10 false) .ret)]

/-- routing/attrs.clusters -/
def f78x0 : List AOper := [
  ⟨(some 2), .mv (.c (.int .i64 0)), none, []⟩]
def f78x1 : List AOper := [
  ⟨(some 5), .mv (.t 0), none, []⟩,
  ⟨(some 6), .len false (.t 5), none, []⟩,
  ⟨(some 7), .bin .gtr (.t 6) (.c (.int .i64 64)), none, []⟩]
def f78x2 : List AOper := [
  ⟨(some 2), .mv (.c (.int .i64 4)), none, []⟩]
def f78x3 : List AOper := [
  ⟨(some 8), .mv (.t 0), none, []⟩,
  ⟨(some 9), .len false (.t 8), none, []⟩,
  ⟨(some 10), .mv (.c (.int .i64 0)), none, []⟩]
def f78x4 : List AOper := [
  ⟨(some 11), .bin .lss (.t 10) (.t 9), none, []⟩]
def f78x5 : List AOper := [
  ⟨(some 12), .iadr 1 (.t 8) (.t 10), none, []⟩,
  ⟨(some 13), .load none (.t 12), none, []⟩,
  ⟨(some 4), .mv (.t 13), none, []⟩]
def f78x6 : List AOper := [
  ⟨(some 14), .mv (.t 4), none, []⟩,
  ⟨(some 15), .bin .eql (.t 14) (.c (.int .u32 0)), none, []⟩]
def f78x7 : List AOper := [
  ⟨(some 2), .mv (.c (.int .i64 1)), none, []⟩]
def f78x8 : List AOper := [
  ⟨(some 16), .bin .add (.t 10) (.c (.int .i64 1)), none, []⟩,
  ⟨(some 10), .mv (.t 16), none, []⟩]
def f78x9L : ACode := (.seq (.region f78x4 false) (.seq (.cond (.t 11) .skip (.exit 0)) (.seq (.block 1 (.seq (.region f78x5 false) (.seq (.region f78x6 false) (.cond (.t 15) (.seq (.region f78x7 false) .ret) .skip)))) (.region f78x8 false))))
def f78x10 : List AOper := [
  ⟨(some 2), .mv (.c (.int .i64 0)), none, []⟩]
def f78 : AFunc := ⟨17, 1, false, [.t 2], (.seq (.region f78x0 false) (.seq (.seq (.region f78x1 false) (.cond (.t 7) (.seq (.region f78x2 false) .ret) .skip)) (.seq (.seq (.region f78x3 false) (.block 0 (.loop f78x9L))) (.seq (.region f78x10 false) .ret))))⟩
def f78x9LH : List AItem := [.inLoop f78x9L, .inBlock 0, .code (.seq (.region f78x10 false) .ret)]

/-- routing/attrs.unknown -/
def f79x0 : List AOper := [
  ⟨(some 2), .mv (.c (.int .i64 0)), none, []⟩]
def f79x1 : List AOper := [
  ⟨(some 5), .mv (.t 0), none, []⟩,
  ⟨(some 6), .len false (.t 5), none, []⟩,
  ⟨(some 7), .bin .gtr (.t 6) (.c (.int .i64 64)), none, []⟩]
def f79x2 : List AOper := [
  ⟨(some 2), .mv (.c (.int .i64 4)), none, []⟩]
def f79x3 : List AOper := [
  ⟨(some 8), .mv (.t 0), none, []⟩,
  ⟨(some 9), .len false (.t 8), none, []⟩,
  ⟨(some 10), .mv (.c (.int .i64 0)), none, []⟩]
def f79x4 : List AOper := [
  ⟨(some 11), .bin .lss (.t 10) (.t 9), none, []⟩]
def f79x5 : List AOper := [
  ⟨(some 12), .mv (.t 10), none, []⟩,
  ⟨(some 13), .iadr 2 (.t 8) (.t 10), none, []⟩,
  ⟨(some 14), .load (some 2) (.t 13), none, []⟩,
  ⟨(some 4), .alloc (.agg [.int .i64 0, .con (.slice none 0 0)]), none, []⟩,
  ⟨(some 3), .mv (.t 12), none, []⟩,
  ⟨none, .store 2 (.t 4) (.t 14), none, []⟩]
def f79x6 : List AOper := [
  ⟨(some 16), .fadr 0 (.t 4), none, []⟩,
  ⟨(some 17), .load none (.t 16), none, []⟩,
  ⟨(some 18), .bin .leq (.t 17) (.c (.int .i64 10)), none, []⟩,
  ⟨(some 19), .mv (.t 18), none, []⟩,
  ⟨(some 20), .fadr 0 (.t 4), (some (19, false)), []⟩,
  ⟨(some 21), .load none (.t 20), (some (19, false)), []⟩,
  ⟨(some 22), .bin .gtr (.t 21) (.c (.int .i64 255)), (some (19, false)), []⟩,
  ⟨(some 23), .pick (.t 19) (.c (.bool true)) (.t 22), none, []⟩,
  ⟨(some 15), .mv (.t 23), none, []⟩]
def f79x7 : List AOper := [
  ⟨(some 2), .mv (.c (.int .i64 15)), none, []⟩]
def f79x8 : List AOper := [
  ⟨(some 25), .mv (.t 3), none, []⟩,
  ⟨(some 26), .bin .gtr (.t 25) (.c (.int .i64 0)), none, []⟩,
  ⟨(some 27), .mv (.t 26), none, []⟩,
  ⟨(some 28), .fadr 0 (.t 4), (some (27, true)), []⟩,
  ⟨(some 29), .load none (.t 28), (some (27, true)), []⟩,
  ⟨(some 30), .mv (.t 0), (some (27, true)), []⟩,
  ⟨(some 31), .mv (.t 3), (some (27, true)), []⟩,
  ⟨(some 32), .bin .sub (.t 31) (.c (.int .i64 1)), (some (27, true)), []⟩,
  ⟨(some 33), .iadr 2 (.t 30) (.t 32), (some (27, true)), []⟩,
  ⟨(some 34), .fadr 0 (.t 33), (some (27, true)), []⟩,
  ⟨(some 35), .load none (.t 34), (some (27, true)), [8]⟩,
  ⟨(some 36), .bin .leq (.t 29) (.t 35), (some (27, true)), []⟩,
  ⟨(some 37), .pick (.t 27) (.t 36) (.c (.bool false)), none, []⟩,
  ⟨(some 24), .mv (.t 37), none, []⟩]
def f79x9 : List AOper := [
  ⟨(some 2), .mv (.c (.int .i64 16)), none, []⟩]
def f79x10 : List AOper := [
  ⟨(some 39), .fadr 1 (.t 4), none, []⟩,
  ⟨(some 40), .load none (.t 39), none, []⟩,
  ⟨(some 41), .len false (.t 40), none, []⟩,
  ⟨(some 42), .bin .gtr (.t 41) (.c (.int .i64 255)), none, []⟩,
  ⟨(some 38), .mv (.t 42), none, []⟩]
def f79x11 : List AOper := [
  ⟨(some 2), .mv (.c (.int .i64 4)), none, []⟩]
def f79x12 : List AOper := [
  ⟨(some 43), .bin .add (.t 10) (.c (.int .i64 1)), none, []⟩,
  ⟨(some 10), .mv (.t 43), none, []⟩]
def f79x13L : ACode := (.seq (.region f79x4 false) (.seq (.cond (.t 11) .skip (.exit 0)) (.seq (.block 1 (.seq (.region f79x5 false) (.block 2 (.seq (.region f79x6 false) (.cond (.t 15) (.seq (.region f79x7 false) .ret) (.seq (.region f79x8 true) (.cond (.t 24) (.seq (.region f79x9 false) .ret) (.seq (.region f79x10 false) (.cond (.t 38) (.seq (.region f79x11 false) .ret) .skip))))))))) (.region f79x12 false))))
def f79x14 : List AOper := [
  ⟨(some 2), .mv (.c (.int .i64 0)), none, []⟩]
def f79 : AFunc := ⟨44, 1, false, [.t 2], (.seq (.region f79x0 false) (.seq (.seq (.region f79x1 false) (.cond (.t 7) (.seq (.region f79x2 false) .ret) .skip)) (.seq (.seq (.region f79x3 false) (.block 0 (.loop f79x13L))) (.seq (.region f79x14 false) .ret))))⟩
def f79x13LH : List AItem := [.inLoop f79x13L, .inBlock 0, .code (.seq (.region f79x14 false) .ret)]

/-- routing/routingref17.Check -/
def f80x0 : List AOper := [
  ⟨(some 2), .mv (.c (.int .i64 0)), none, []⟩]
def f80x1 : List AOper := [
  ⟨(some 5), .mv (.t 0), none, []⟩,
  ⟨(some 6), .len false (.t 5), none, []⟩,
  ⟨(some 7), .bin .gtr (.t 6) (.c (.int .i64 64)), none, []⟩]
def f80x2 : List AOper := [
  ⟨(some 2), .mv (.c (.int .i64 4)), none, []⟩]
def f80x3 : List AOper := [
  ⟨(some 8), .mv (.t 0), none, []⟩,
  ⟨(some 9), .len false (.t 8), none, []⟩,
  ⟨(some 10), .mv (.c (.int .i64 0)), none, []⟩]
def f80x4 : List AOper := [
  ⟨(some 11), .bin .lss (.t 10) (.t 9), none, []⟩]
def f80x5 : List AOper := [
  ⟨(some 12), .mv (.t 10), none, []⟩,
  ⟨(some 3), .mv (.t 12), none, []⟩]
def f80x6 : List AOper := [
  ⟨(some 13), .mv (.t 0), none, []⟩,
  ⟨(some 14), .mv (.t 3), none, []⟩,
  ⟨(some 15), .call (.c (.fn 108 [])) [(.t 13), (.t 14)], none, []⟩,
  ⟨(some 4), .mv (.t 15), none, []⟩]
def f80x7 : List AOper := [
  ⟨(some 16), .mv (.t 4), none, []⟩,
  ⟨(some 17), .bin .neq (.t 16) (.c (.int .i64 0)), none, []⟩]
def f80x8 : List AOper := [
  ⟨(some 18), .mv (.t 4), none, []⟩,
  ⟨(some 2), .mv (.t 18), none, []⟩]
def f80x9 : List AOper := [
  ⟨(some 19), .bin .add (.t 10) (.c (.int .i64 1)), none, []⟩,
  ⟨(some 10), .mv (.t 19), none, []⟩]
def f80x10L : ACode := (.seq (.region f80x4 false) (.seq (.cond (.t 11) .skip (.exit 0)) (.seq (.block 1 (.seq (.region f80x5 false) (.seq (.region f80x6 false) (.seq (.region f80x7 false) (.cond (.t 17) (.seq (.region f80x8 false) .ret) .skip))))) (.region f80x9 false))))
def f80x11 : List AOper := [
  ⟨(some 2), .mv (.c (.int .i64 0)), none, []⟩]
def f80 : AFunc := ⟨20, 1, false, [.t 2], (.seq (.region f80x0 false) (.seq (.seq (.region f80x1 false) (.cond (.t 7) (.seq (.region f80x2 false) .ret) .skip)) (.seq (.seq (.region f80x3 false) (.block 0 (.loop f80x10L))) (.seq (.region f80x11 false) .ret))))⟩
def f80x10LH : List AItem := [.inLoop f80x10L, .inBlock 0, .code (.seq (.region f80x11 false) .ret)]

/-- routing/routingref36.word -/
def f81x0 : List AOper := [
  ⟨(some 2), .mv (.c (.bool false)), none, []⟩]
def f81x1 : List AOper := [
  ⟨(some 3), .mv (.t 0), none, []⟩,
  ⟨(some 4), .bin .geq (.t 3) (.c (.int .i64 0)), none, []⟩,
  ⟨(some 5), .mv (.t 4), none, []⟩,
  ⟨(some 6), .mv (.t 0), (some (5, true)), []⟩,
  ⟨(some 7), .bin .leq (.t 6) (.c (.int .i64 4294967295)), (some (5, true)), []⟩,
  ⟨(some 8), .pick (.t 5) (.t 7) (.c (.bool false)), none, []⟩,
  ⟨(some 2), .mv (.t 8), none, []⟩]
def f81 : AFunc := ⟨9, 1, false, [.t 2], (.seq (.region f81x0 false) (.seq (.region f81x1 false) .ret))⟩

/-- routing/routingref18.Check -/
def f82x0 : List AOper := [
  ⟨(some 2), .mv (.c (.int .i64 0)), none, []⟩]
def f82x1 : List AOper := [
  ⟨(some 4), .mv (.t 0), none, []⟩,
  ⟨(some 5), .len false (.t 4), none, []⟩,
  ⟨(some 6), .bin .gtr (.t 5) (.c (.int .i64 255)), none, []⟩]
def f82x2 : List AOper := [
  ⟨(some 2), .mv (.c (.int .i64 4)), none, []⟩]
def f82x3 : List AOper := [
  ⟨(some 3), .mv (.c (.int .i64 1)), none, []⟩]
def f82x4 : List AOper := [
  ⟨(some 7), .mv (.t 3), none, []⟩,
  ⟨(some 8), .mv (.t 0), none, []⟩,
  ⟨(some 9), .len false (.t 8), none, []⟩,
  ⟨(some 10), .bin .lss (.t 7) (.t 9), none, []⟩]
def f82x5 : List AOper := [
  ⟨(some 13), .mv (.t 0), none, []⟩,
  ⟨(some 14), .mv (.t 3), none, []⟩,
  ⟨(some 15), .iadr 1 (.t 13) (.t 14), none, []⟩,
  ⟨(some 16), .load none (.t 15), none, [2]⟩,
  ⟨(some 17), .mv (.t 0), none, []⟩,
  ⟨(some 18), .mv (.t 3), none, []⟩,
  ⟨(some 19), .bin .sub (.t 18) (.c (.int .i64 1)), none, []⟩,
  ⟨(some 20), .iadr 1 (.t 17) (.t 19), none, []⟩,
  ⟨(some 21), .load none (.t 20), none, [7]⟩,
  ⟨(some 22), .bin .leq (.t 16) (.t 21), none, []⟩]
def f82x6 : List AOper := [
  ⟨(some 2), .mv (.c (.int .i64 16)), none, []⟩]
def f82x7 : List AOper := [
  ⟨(some 11), .mv (.t 3), none, []⟩,
  ⟨(some 12), .bin .add (.t 11) (.c (.int .i64 1)), none, []⟩,
  ⟨(some 3), .mv (.t 12), none, []⟩]
def f82x8L : ACode := (.seq (.seq (.region f82x4 false) (.cond (.t 10) .skip (.exit 0))) (.seq (.block 1 (.seq (.region f82x5 true) (.cond (.t 22) (.seq (.region f82x6 false) .ret) .skip))) (.region f82x7 false)))
def f82x9 : List AOper := [
  ⟨(some 2), .mv (.c (.int .i64 0)), none, []⟩]
def f82 : AFunc := ⟨23, 1, false, [.t 2], (.seq (.region f82x0 false) (.seq (.seq (.region f82x1 false) (.cond (.t 6) (.seq (.region f82x2 false) .ret) .skip)) (.seq (.seq (.region f82x3 false) (.block 0 (.loop f82x8L))) (.seq (.region f82x9 false) .ret))))⟩
def f82x8LH : List AItem := [.inLoop f82x8L, .inBlock 0, .code (.seq (.region f82x9 false) .ret)]

/-- (*routing/attrs.writer).put -/
def f83x0 : List AOper := [
  ⟨(some 6), .mv (.c (.con (.slice none 0 0))), none, []⟩]
def f83x1 : List AOper := [
  ⟨(some 9), .mv (.t 2), none, []⟩,
  ⟨(some 10), .len false (.t 9), none, []⟩,
  ⟨(some 11), .mv (.c (.int .i64 0)), none, []⟩]
def f83x2 : List AOper := [
  ⟨(some 12), .bin .lss (.t 11) (.t 10), none, []⟩]
def f83x3 : List AOper := [
  ⟨(some 13), .iadr 1 (.t 9) (.t 11), none, []⟩,
  ⟨(some 14), .load none (.t 13), none, []⟩,
  ⟨(some 8), .mv (.t 14), none, []⟩]
def f83x4 : List AOper := [
  ⟨(some 15), .mv (.t 6), none, []⟩,
  ⟨(some 16), .mv (.t 8), none, []⟩,
  ⟨(some 17), .app 1 1 (.t 15) (.t 16), none, []⟩,
  ⟨(some 6), .mv (.t 17), none, []⟩]
def f83x5 : List AOper := [
  ⟨(some 18), .bin .add (.t 11) (.c (.int .i64 1)), none, []⟩,
  ⟨(some 11), .mv (.t 18), none, []⟩]
def f83x6L : ACode := (.seq (.region f83x2 false) (.seq (.cond (.t 12) .skip (.exit 0)) (.seq (.block 1 (.seq (.region f83x3 false) (.region f83x4 false))) (.region f83x5 false))))
def f83x7 : List AOper := [
  ⟨(some 19), .mv (.t 6), none, []⟩,
  ⟨(some 20), .len false (.t 19), none, []⟩,
  ⟨(some 21), .bin .gtr (.t 20) (.c (.int .i64 255)), none, []⟩]
def f83x8 : List AOper := [
  ⟨(some 22), .mv (.t 0), none, []⟩,
  ⟨(some 23), .mv (.t 0), none, []⟩,
  ⟨(some 24), .nilck (.t 23), none, []⟩,
  ⟨(some 25), .fadr 0 (.t 24), none, []⟩,
  ⟨(some 26), .load none (.t 25), none, []⟩,
  ⟨(some 27), .mv (.t 1), none, []⟩,
  ⟨(some 28), .call (.c (.fn 94 [])) [(.t 27)], none, []⟩,
  ⟨(some 29), .bin .or (.t 28) (.c (.int .u8 16)), none, []⟩,
  ⟨(some 30), .mv (.t 1), none, []⟩,
  ⟨(some 31), .conv .u8 (.t 30), none, []⟩,
  ⟨(some 32), .bsl 1 [.int .u8 0] 2 [0, 1] [(.t 29), (.t 31)], none, [6]⟩,
  ⟨(some 33), .app 1 1 (.t 26) (.t 32), none, [4, 10, 6]⟩,
  ⟨(some 34), .nilck (.t 22), none, []⟩,
  ⟨(some 35), .fadr 0 (.t 34), none, []⟩,
  ⟨none, .store 1 (.t 35) (.t 33), none, [11, 4, 10, 6]⟩]
def f83x9 : List AOper := [
  ⟨(some 36), .mv (.t 0), none, []⟩,
  ⟨(some 37), .mv (.t 0), none, []⟩,
  ⟨(some 38), .nilck (.t 37), none, []⟩,
  ⟨(some 39), .fadr 0 (.t 38), none, []⟩,
  ⟨(some 40), .load none (.t 39), none, []⟩,
  ⟨(some 41), .mv (.t 6), none, []⟩,
  ⟨(some 42), .len false (.t 41), none, []⟩,
  ⟨(some 43), .conv .u64 (.t 42), none, []⟩,
  ⟨(some 44), .call (.c (.fn 109 [])) [(.t 40), (.c (.int .i64 2)), (.t 43)], none, []⟩,
  ⟨(some 45), .nilck (.t 36), none, []⟩,
  ⟨(some 46), .fadr 0 (.t 45), none, []⟩,
  ⟨none, .store 1 (.t 46) (.t 44), none, []⟩]
def f83x10 : List AOper := [
  ⟨(some 47), .mv (.t 0), none, []⟩,
  ⟨(some 48), .mv (.t 0), none, []⟩,
  ⟨(some 49), .nilck (.t 48), none, []⟩,
  ⟨(some 50), .fadr 0 (.t 49), none, []⟩,
  ⟨(some 51), .load none (.t 50), none, []⟩,
  ⟨(some 52), .mv (.t 1), none, []⟩,
  ⟨(some 53), .call (.c (.fn 94 [])) [(.t 52)], none, []⟩,
  ⟨(some 54), .mv (.t 1), none, []⟩,
  ⟨(some 55), .conv .u8 (.t 54), none, []⟩,
  ⟨(some 56), .mv (.t 6), none, []⟩,
  ⟨(some 57), .len false (.t 56), none, []⟩,
  ⟨(some 58), .conv .u8 (.t 57), none, []⟩,
  ⟨(some 59), .bsl 1 [.int .u8 0] 3 [0, 1, 2] [(.t 53), (.t 55), (.t 58)], none, [6, 10]⟩,
  ⟨(some 60), .app 1 1 (.t 51) (.t 59), none, [4, 12, 6, 10]⟩,
  ⟨(some 61), .nilck (.t 47), none, []⟩,
  ⟨(some 62), .fadr 0 (.t 61), none, []⟩,
  ⟨none, .store 1 (.t 62) (.t 60), none, [13, 4, 12, 6, 10]⟩]
def f83x11 : List AOper := [
  ⟨(some 63), .mv (.t 0), none, []⟩,
  ⟨(some 64), .mv (.t 0), none, []⟩,
  ⟨(some 65), .nilck (.t 64), none, []⟩,
  ⟨(some 66), .fadr 0 (.t 65), none, []⟩,
  ⟨(some 67), .load none (.t 66), none, []⟩,
  ⟨(some 68), .mv (.t 6), none, []⟩,
  ⟨(some 69), .app 1 1 (.t 67) (.t 68), none, []⟩,
  ⟨(some 70), .nilck (.t 63), none, []⟩,
  ⟨(some 71), .fadr 0 (.t 70), none, []⟩,
  ⟨none, .store 1 (.t 71) (.t 69), none, []⟩]
def f83 : AFunc := ⟨72, 3, false, [], (.seq (.region f83x0 false) (.seq (.seq (.region f83x1 false) (.block 0 (.loop f83x6L))) (.seq (.seq (.region f83x7 false) (.cond (.t 21) (.seq (.region f83x8 true) (.region f83x9 false)) (.region f83x10 true))) (.region f83x11 false))))⟩
def f83x6LH : List AItem := [.inLoop f83x6L, .inBlock 0, .code (.seq (.seq (.region f83x7 false) (.cond (.t 21) (.seq (.region f83x8 true) (.region f83x9 false)) (.region f83x10 true))) (.region f83x11 false))]

/-- (*routing/attrs.writer).path -/
def f84x0 : List AOper := [
  ⟨(some 4), .mv (.c (.con (.slice none 0 0))), none, []⟩]
def f84x1 : List AOper := [
  ⟨(some 5), .mv (.c (.con (.slice none 0 0))), none, []⟩]
def f84x2 : List AOper := [
  ⟨(some 10), .mv (.t 1), none, []⟩,
  ⟨(some 11), .len false (.t 10), none, []⟩,
  ⟨(some 12), .mv (.c (.int .i64 0)), none, []⟩]
def f84x3 : List AOper := [
  ⟨(some 13), .bin .lss (.t 12) (.t 11), none, []⟩]
def f84x4 : List AOper := [
  ⟨(some 14), .iadr 2 (.t 10) (.t 12), none, []⟩,
  ⟨(some 15), .load (some 2) (.t 14), none, []⟩,
  ⟨(some 7), .alloc (.agg [.int .i64 0, .con (.slice none 0 0)]), none, []⟩,
  ⟨none, .store 2 (.t 7) (.t 15), none, []⟩]
def f84x5 : List AOper := [
  ⟨(some 16), .mv (.t 5), none, []⟩,
  ⟨(some 17), .fadr 0 (.t 7), none, []⟩,
  ⟨(some 18), .load none (.t 17), none, []⟩,
  ⟨(some 19), .conv .u8 (.t 18), none, []⟩,
  ⟨(some 20), .fadr 1 (.t 7), none, []⟩,
  ⟨(some 21), .load none (.t 20), none, []⟩,
  ⟨(some 22), .len false (.t 21), none, []⟩,
  ⟨(some 23), .conv .u8 (.t 22), none, []⟩,
  ⟨(some 24), .bsl 1 [.int .u8 0] 2 [0, 1] [(.t 19), (.t 23)], none, []⟩,
  ⟨(some 25), .app 1 1 (.t 16) (.t 24), none, []⟩,
  ⟨(some 5), .mv (.t 25), none, []⟩]
def f84x6 : List AOper := [
  ⟨(some 26), .fadr 1 (.t 7), none, []⟩,
  ⟨(some 27), .load none (.t 26), none, []⟩,
  ⟨(some 28), .len false (.t 27), none, []⟩,
  ⟨(some 29), .mv (.c (.int .i64 0)), none, []⟩]
def f84x7 : List AOper := [
  ⟨(some 30), .bin .lss (.t 29) (.t 28), none, []⟩]
def f84x8 : List AOper := [
  ⟨(some 31), .iadr 1 (.t 27) (.t 29), none, []⟩,
  ⟨(some 32), .load none (.t 31), none, []⟩,
  ⟨(some 9), .mv (.t 32), none, []⟩]
def f84x9 : List AOper := [
  ⟨(some 33), .mv (.t 5), none, []⟩,
  ⟨(some 34), .mv (.t 0), none, []⟩,
  ⟨(some 35), .mv (.t 9), none, []⟩,
  ⟨(some 36), .call (.c (.fn 86 [])) [(.t 34), (.t 35)], none, []⟩,
  ⟨(some 37), .app 1 1 (.t 33) (.t 36), none, []⟩,
  ⟨(some 5), .mv (.t 37), none, []⟩]
def f84x10 : List AOper := [
  ⟨(some 38), .bin .add (.t 29) (.c (.int .i64 1)), none, []⟩,
  ⟨(some 29), .mv (.t 38), none, []⟩]
def f84x11L : ACode := (.seq (.region f84x7 false) (.seq (.cond (.t 30) .skip (.exit 2)) (.seq (.block 3 (.seq (.region f84x8 false) (.region f84x9 false))) (.region f84x10 false))))
def f84x12 : List AOper := [
  ⟨(some 39), .bin .add (.t 12) (.c (.int .i64 1)), none, []⟩,
  ⟨(some 12), .mv (.t 39), none, []⟩]
def f84x13L : ACode := (.seq (.region f84x3 false) (.seq (.cond (.t 13) .skip (.exit 0)) (.seq (.block 1 (.seq (.region f84x4 false) (.seq (.region f84x5 false) (.seq (.region f84x6 false) (.block 2 (.loop f84x11L)))))) (.region f84x12 false))))
def f84x14 : List AOper := [
  ⟨(some 40), .mv (.t 5), none, []⟩,
  ⟨(some 4), .mv (.t 40), none, []⟩]
def f84 : AFunc := ⟨41, 2, false, [.t 4], (.seq (.region f84x0 false) (.seq (.region f84x1 false) (.seq (.seq (.region f84x2 false) (.block 0 (.loop f84x13L))) (.seq (.region f84x14 false) .ret))))⟩
def f84x13LH : List AItem := [.inLoop f84x13L, .inBlock 0, .code (.seq (.region f84x14 false) .ret)]
def f84x11LH : List AItem := [.inLoop f84x11L, .inBlock 2, .inBlock 1, .code (.region f84x12 false), .inLoop f84x13L, .inBlock 0, .code (.seq (.region f84x14 false) .ret)]

/-- routing/attrs.number -/
def f85x0 : List AOper := [
  ⟨(some 2), .mv (.c (.con (.slice none 0 0))), none, []⟩]
def f85x1 : List AOper := [
  ⟨(some 3), .mv (.t 0), none, []⟩,
  ⟨(some 4), .conv .u64 (.t 3), none, []⟩,
  ⟨(some 5), .call (.c (.fn 109 [])) [(.c (.con (.slice none 0 0))), (.c (.int .i64 4)), (.t 4)], none, []⟩,
  ⟨(some 2), .mv (.t 5), none, []⟩]
def f85 : AFunc := ⟨6, 1, false, [.t 2], (.seq (.region f85x0 false) (.seq (.region f85x1 false) .ret))⟩

/-- (*routing/attrs.writer).as -/
def f86x0 : List AOper := [
  ⟨(some 4), .mv (.c (.con (.slice none 0 0))), none, []⟩]
def f86x1 : List AOper := [
  ⟨(some 5), .mv (.t 0), none, []⟩,
  ⟨(some 6), .mv (.t 0), none, []⟩,
  ⟨(some 7), .nilck (.t 6), none, []⟩,
  ⟨(some 8), .fadr 2 (.t 7), none, []⟩,
  ⟨(some 9), .load none (.t 8), none, []⟩,
  ⟨(some 10), .mv (.t 9), none, []⟩,
  ⟨(some 11), .mv (.t 0), (some (10, false)), []⟩,
  ⟨(some 12), .nilck (.t 11), (some (10, false)), []⟩,
  ⟨(some 13), .fadr 1 (.t 12), (some (10, false)), []⟩,
  ⟨(some 14), .load none (.t 13), (some (10, false)), []⟩,
  ⟨(some 15), .un .not (.t 14), (some (10, false)), []⟩,
  ⟨(some 16), .mv (.t 15), (some (10, false)), []⟩,
  ⟨(some 17), .mv (.t 1), (some (16, true)), []⟩,
  ⟨(some 18), .bin .gtr (.t 17) (.c (.int .i64 65535)), (some (16, true)), []⟩,
  ⟨(some 19), .pick (.t 16) (.t 18) (.c (.bool false)), (some (10, false)), []⟩,
  ⟨(some 20), .pick (.t 10) (.c (.bool true)) (.t 19), none, []⟩,
  ⟨(some 21), .nilck (.t 5), none, []⟩,
  ⟨(some 22), .fadr 2 (.t 21), none, []⟩,
  ⟨none, .store 1 (.t 22) (.t 20), none, []⟩]
def f86x2 : List AOper := [
  ⟨(some 23), .mv (.t 0), none, []⟩,
  ⟨(some 24), .nilck (.t 23), none, []⟩,
  ⟨(some 25), .fadr 1 (.t 24), none, []⟩,
  ⟨(some 26), .load none (.t 25), none, []⟩,
  ⟨(some 27), .call (.c (.fn 96 [])) [(.t 26)], none, []⟩,
  ⟨(some 28), .mv (.t 1), none, []⟩,
  ⟨(some 29), .conv .u64 (.t 28), none, []⟩,
  ⟨(some 30), .call (.c (.fn 109 [])) [(.c (.con (.slice none 0 0))), (.t 27), (.t 29)], none, []⟩,
  ⟨(some 4), .mv (.t 30), none, []⟩]
def f86 : AFunc := ⟨31, 2, false, [.t 4], (.seq (.region f86x0 false) (.seq (.region f86x1 false) (.seq (.region f86x2 false) .ret)))⟩

/-- routing/attrs.words -/
def f87x0 : List AOper := [
  ⟨(some 2), .mv (.c (.con (.slice none 0 0))), none, []⟩]
def f87x1 : List AOper := [
  ⟨(some 3), .mv (.c (.con (.slice none 0 0))), none, []⟩]
def f87x2 : List AOper := [
  ⟨(some 6), .mv (.t 0), none, []⟩,
  ⟨(some 7), .len false (.t 6), none, []⟩,
  ⟨(some 8), .mv (.c (.int .i64 0)), none, []⟩]
def f87x3 : List AOper := [
  ⟨(some 9), .bin .lss (.t 8) (.t 7), none, []⟩]
def f87x4 : List AOper := [
  ⟨(some 10), .iadr 1 (.t 6) (.t 8), none, []⟩,
  ⟨(some 11), .load none (.t 10), none, []⟩,
  ⟨(some 5), .mv (.t 11), none, []⟩]
def f87x5 : List AOper := [
  ⟨(some 12), .mv (.t 3), none, []⟩,
  ⟨(some 13), .mv (.t 5), none, []⟩,
  ⟨(some 14), .conv .i64 (.t 13), none, []⟩,
  ⟨(some 15), .call (.c (.fn 85 [])) [(.t 14)], none, []⟩,
  ⟨(some 16), .app 1 1 (.t 12) (.t 15), none, []⟩,
  ⟨(some 3), .mv (.t 16), none, []⟩]
def f87x6 : List AOper := [
  ⟨(some 17), .bin .add (.t 8) (.c (.int .i64 1)), none, []⟩,
  ⟨(some 8), .mv (.t 17), none, []⟩]
def f87x7L : ACode := (.seq (.region f87x3 false) (.seq (.cond (.t 9) .skip (.exit 0)) (.seq (.block 1 (.seq (.region f87x4 false) (.region f87x5 false))) (.region f87x6 false))))
def f87x8 : List AOper := [
  ⟨(some 18), .mv (.t 3), none, []⟩,
  ⟨(some 2), .mv (.t 18), none, []⟩]
def f87 : AFunc := ⟨19, 1, false, [.t 2], (.seq (.region f87x0 false) (.seq (.region f87x1 false) (.seq (.seq (.region f87x2 false) (.block 0 (.loop f87x7L))) (.seq (.region f87x8 false) .ret))))⟩
def f87x7LH : List AItem := [.inLoop f87x7L, .inBlock 0, .code (.seq (.region f87x8 false) .ret)]

/-- routing/routingref36.Attribute -/
def f88x0 : List AOper := [
  ⟨(some 6), .mv (.c (.con (.slice none 0 0))), none, []⟩]
def f88x1 : List AOper := [
  ⟨(some 9), .mv (.t 1), none, []⟩,
  ⟨(some 10), .call (.c (.fn 102 [])) [(.t 9)], none, []⟩,
  ⟨(some 7), .mv (.t 10), none, []⟩]
def f88x2 : List AOper := [
  ⟨(some 8), .mv (.c (.int .i64 1)), none, []⟩]
def f88x3 : List AOper := [
  ⟨(some 11), .mv (.t 2), none, []⟩,
  ⟨(some 12), .len false (.t 11), none, []⟩,
  ⟨(some 13), .bin .gtr (.t 12) (.c (.int .i64 255)), none, []⟩]
def f88x4 : List AOper := [
  ⟨(some 14), .mv (.t 7), none, []⟩,
  ⟨(some 15), .bin .add (.t 14) (.c (.int .i64 16)), none, []⟩,
  ⟨(some 7), .mv (.t 15), none, []⟩]
def f88x5 : List AOper := [
  ⟨(some 8), .mv (.c (.int .i64 2)), none, []⟩]
def f88x6 : List AOper := [
  ⟨(some 16), .mv (.t 0), none, []⟩,
  ⟨(some 17), .mv (.t 7), none, []⟩,
  ⟨(some 18), .conv .u8 (.t 17), none, []⟩,
  ⟨(some 19), .mv (.t 1), none, []⟩,
  ⟨(some 20), .conv .u8 (.t 19), none, []⟩,
  ⟨(some 21), .bsl 1 [.int .u8 0] 2 [0, 1] [(.t 18), (.t 20)], none, []⟩,
  ⟨(some 22), .app 1 1 (.t 16) (.t 21), none, []⟩,
  ⟨(some 0), .mv (.t 22), none, []⟩]
def f88x7 : List AOper := [
  ⟨(some 23), .mv (.t 0), none, []⟩,
  ⟨(some 24), .mv (.t 8), none, []⟩,
  ⟨(some 25), .mv (.t 2), none, []⟩,
  ⟨(some 26), .len false (.t 25), none, []⟩,
  ⟨(some 27), .conv .u64 (.t 26), none, []⟩,
  ⟨(some 28), .call (.c (.fn 91 [])) [(.t 23), (.t 24), (.t 27)], none, []⟩,
  ⟨(some 0), .mv (.t 28), none, []⟩]
def f88x8 : List AOper := [
  ⟨(some 29), .mv (.t 0), none, []⟩,
  ⟨(some 30), .mv (.t 2), none, []⟩,
  ⟨(some 31), .app 1 1 (.t 29) (.t 30), none, []⟩,
  ⟨(some 0), .mv (.t 31), none, []⟩]
def f88x9 : List AOper := [
  ⟨(some 32), .mv (.t 0), none, []⟩,
  ⟨(some 6), .mv (.t 32), none, []⟩]
def f88 : AFunc := ⟨33, 3, true, [.t 6], (.seq (.region f88x0 false) (.seq (.region f88x1 false) (.seq (.region f88x2 false) (.seq (.seq (.region f88x3 false) (.cond (.t 13) (.seq (.region f88x4 false) (.region f88x5 false)) .skip)) (.seq (.region f88x6 false) (.seq (.region f88x7 false) (.seq (.region f88x8 false) (.seq (.region f88x9 false) .ret))))))))⟩

/-- routing/routingref36.path -/
def f89x0 : List AOper := [
  ⟨(some 4), .mv (.c (.con (.slice none 0 0))), none, []⟩]
def f89x1 : List AOper := [
  ⟨(some 5), .mv (.c (.con (.slice none 0 0))), none, []⟩]
def f89x2 : List AOper := [
  ⟨(some 10), .mv (.t 0), none, []⟩,
  ⟨(some 11), .len false (.t 10), none, []⟩,
  ⟨(some 12), .mv (.c (.int .i64 0)), none, []⟩]
def f89x3 : List AOper := [
  ⟨(some 13), .bin .lss (.t 12) (.t 11), none, []⟩]
def f89x4 : List AOper := [
  ⟨(some 14), .iadr 2 (.t 10) (.t 12), none, []⟩,
  ⟨(some 15), .load (some 2) (.t 14), none, []⟩,
  ⟨(some 7), .alloc (.agg [.int .i64 0, .con (.slice none 0 0)]), none, []⟩,
  ⟨none, .store 2 (.t 7) (.t 15), none, []⟩]
def f89x5 : List AOper := [
  ⟨(some 16), .mv (.t 5), none, []⟩,
  ⟨(some 17), .fadr 0 (.t 7), none, []⟩,
  ⟨(some 18), .load none (.t 17), none, []⟩,
  ⟨(some 19), .conv .u8 (.t 18), none, []⟩,
  ⟨(some 20), .fadr 1 (.t 7), none, []⟩,
  ⟨(some 21), .load none (.t 20), none, []⟩,
  ⟨(some 22), .len false (.t 21), none, []⟩,
  ⟨(some 23), .conv .u8 (.t 22), none, []⟩,
  ⟨(some 24), .bsl 1 [.int .u8 0] 2 [0, 1] [(.t 19), (.t 23)], none, []⟩,
  ⟨(some 25), .app 1 1 (.t 16) (.t 24), none, []⟩,
  ⟨(some 5), .mv (.t 25), none, []⟩]
def f89x6 : List AOper := [
  ⟨(some 26), .fadr 1 (.t 7), none, []⟩,
  ⟨(some 27), .load none (.t 26), none, []⟩,
  ⟨(some 28), .len false (.t 27), none, []⟩,
  ⟨(some 29), .mv (.c (.int .i64 0)), none, []⟩]
def f89x7 : List AOper := [
  ⟨(some 30), .bin .lss (.t 29) (.t 28), none, []⟩]
def f89x8 : List AOper := [
  ⟨(some 31), .iadr 1 (.t 27) (.t 29), none, []⟩,
  ⟨(some 32), .load none (.t 31), none, []⟩,
  ⟨(some 9), .mv (.t 32), none, []⟩]
def f89x9 : List AOper := [
  ⟨(some 33), .mv (.t 5), none, []⟩,
  ⟨(some 34), .mv (.t 1), none, []⟩,
  ⟨(some 35), .call (.c (.fn 92 [])) [(.t 34)], none, []⟩,
  ⟨(some 36), .mv (.t 9), none, []⟩,
  ⟨(some 37), .conv .u64 (.t 36), none, []⟩,
  ⟨(some 38), .call (.c (.fn 91 [])) [(.t 33), (.t 35), (.t 37)], none, []⟩,
  ⟨(some 5), .mv (.t 38), none, []⟩]
def f89x10 : List AOper := [
  ⟨(some 39), .bin .add (.t 29) (.c (.int .i64 1)), none, []⟩,
  ⟨(some 29), .mv (.t 39), none, []⟩]
def f89x11L : ACode := (.seq (.region f89x7 false) (.seq (.cond (.t 30) .skip (.exit 2)) (.seq (.block 3 (.seq (.region f89x8 false) (.region f89x9 false))) (.region f89x10 false))))
def f89x12 : List AOper := [
  ⟨(some 40), .bin .add (.t 12) (.c (.int .i64 1)), none, []⟩,
  ⟨(some 12), .mv (.t 40), none, []⟩]
def f89x13L : ACode := (.seq (.region f89x3 false) (.seq (.cond (.t 13) .skip (.exit 0)) (.seq (.block 1 (.seq (.region f89x4 false) (.seq (.region f89x5 false) (.seq (.region f89x6 false) (.block 2 (.loop f89x11L)))))) (.region f89x12 false))))
def f89x14 : List AOper := [
  ⟨(some 41), .mv (.t 5), none, []⟩,
  ⟨(some 4), .mv (.t 41), none, []⟩]
def f89 : AFunc := ⟨42, 2, false, [.t 4], (.seq (.region f89x0 false) (.seq (.region f89x1 false) (.seq (.seq (.region f89x2 false) (.block 0 (.loop f89x13L))) (.seq (.region f89x14 false) .ret))))⟩
def f89x13LH : List AItem := [.inLoop f89x13L, .inBlock 0, .code (.seq (.region f89x14 false) .ret)]
def f89x11LH : List AItem := [.inLoop f89x11L, .inBlock 2, .inBlock 1, .code (.region f89x12 false), .inLoop f89x13L, .inBlock 0, .code (.seq (.region f89x14 false) .ret)]

/-- routing/routingref36.four -/
def f90x0 : List AOper := [
  ⟨(some 2), .mv (.c (.con (.slice none 0 0))), none, []⟩]
def f90x1 : List AOper := [
  ⟨(some 3), .mv (.c (.con (.slice none 0 0))), none, []⟩]
def f90x2 : List AOper := [
  ⟨(some 6), .mv (.t 0), none, []⟩,
  ⟨(some 7), .len false (.t 6), none, []⟩,
  ⟨(some 8), .mv (.c (.int .i64 0)), none, []⟩]
def f90x3 : List AOper := [
  ⟨(some 9), .bin .lss (.t 8) (.t 7), none, []⟩]
def f90x4 : List AOper := [
  ⟨(some 10), .iadr 1 (.t 6) (.t 8), none, []⟩,
  ⟨(some 11), .load none (.t 10), none, []⟩,
  ⟨(some 5), .mv (.t 11), none, []⟩]
def f90x5 : List AOper := [
  ⟨(some 12), .mv (.t 3), none, []⟩,
  ⟨(some 13), .mv (.t 5), none, []⟩,
  ⟨(some 14), .conv .u64 (.t 13), none, []⟩,
  ⟨(some 15), .call (.c (.fn 91 [])) [(.t 12), (.c (.int .i64 4)), (.t 14)], none, []⟩,
  ⟨(some 3), .mv (.t 15), none, []⟩]
def f90x6 : List AOper := [
  ⟨(some 16), .bin .add (.t 8) (.c (.int .i64 1)), none, []⟩,
  ⟨(some 8), .mv (.t 16), none, []⟩]
def f90x7L : ACode := (.seq (.region f90x3 false) (.seq (.cond (.t 9) .skip (.exit 0)) (.seq (.block 1 (.seq (.region f90x4 false) (.region f90x5 false))) (.region f90x6 false))))
def f90x8 : List AOper := [
  ⟨(some 17), .mv (.t 3), none, []⟩,
  ⟨(some 2), .mv (.t 17), none, []⟩]
def f90 : AFunc := ⟨18, 1, false, [.t 2], (.seq (.region f90x0 false) (.seq (.region f90x1 false) (.seq (.seq (.region f90x2 false) (.block 0 (.loop f90x7L))) (.seq (.region f90x8 false) .ret))))⟩
def f90x7LH : List AItem := [.inLoop f90x7L, .inBlock 0, .code (.seq (.region f90x8 false) .ret)]

/-- routing/routingref03.Put -/
def f91x0 : List AOper := [
  ⟨(some 6), .mv (.c (.con (.slice none 0 0))), none, []⟩]
def f91x1 : List AOper := [
  ⟨(some 7), .mv (.c (.con (.slice none 0 0))), none, []⟩]
def f91x2 : List AOper := [
  ⟨(some 9), .mv (.t 7), none, []⟩,
  ⟨(some 10), .mv (.t 0), none, []⟩,
  ⟨(some 11), .app 1 1 (.t 9) (.t 10), none, []⟩,
  ⟨(some 7), .mv (.t 11), none, []⟩]
def f91x3 : List AOper := [
  ⟨(some 12), .mv (.t 1), none, []⟩,
  ⟨(some 13), .minmax true [(.t 12), (.c (.int .i64 0))], none, []⟩,
  ⟨(some 14), .minmax false [(.t 13), (.c (.int .i64 8))], none, []⟩,
  ⟨(some 15), .bin .sub (.t 14) (.c (.int .i64 1)), none, []⟩,
  ⟨(some 8), .mv (.t 15), none, []⟩]
def f91x4 : List AOper := [
  ⟨(some 16), .mv (.t 8), none, []⟩,
  ⟨(some 17), .bin .geq (.t 16) (.c (.int .i64 0)), none, []⟩]
def f91x5 : List AOper := [
  ⟨(some 20), .mv (.t 7), none, []⟩,
  ⟨(some 21), .mv (.t 2), none, []⟩,
  ⟨(some 22), .mv (.t 8), none, []⟩,
  ⟨(some 23), .bin .mul (.c (.int .i64 8)) (.t 22), none, []⟩,
  ⟨(some 24), .bin .shr (.t 21) (.t 23), none, []⟩,
  ⟨(some 25), .conv .u8 (.t 24), none, []⟩,
  ⟨(some 26), .bsl 1 [.int .u8 0] 1 [0] [(.t 25)], none, []⟩,
  ⟨(some 27), .app 1 1 (.t 20) (.t 26), none, []⟩,
  ⟨(some 7), .mv (.t 27), none, []⟩]
def f91x6 : List AOper := [
  ⟨(some 18), .mv (.t 8), none, []⟩,
  ⟨(some 19), .bin .sub (.t 18) (.c (.int .i64 1)), none, []⟩,
  ⟨(some 8), .mv (.t 19), none, []⟩]
def f91x7L : ACode := (.seq (.seq (.region f91x4 false) (.cond (.t 17) .skip (.exit 0))) (.seq (.block 1 (.region f91x5 false)) (.region f91x6 false)))
def f91x8 : List AOper := [
  ⟨(some 28), .mv (.t 7), none, []⟩,
  ⟨(some 6), .mv (.t 28), none, []⟩]
def f91 : AFunc := ⟨29, 3, false, [.t 6], (.seq (.region f91x0 false) (.seq (.region f91x1 false) (.seq (.region f91x2 false) (.seq (.seq (.region f91x3 false) (.block 0 (.loop f91x7L))) (.seq (.region f91x8 false) .ret)))))⟩
def f91x7LH : List AItem := [.inLoop f91x7L, .inBlock 0, .code (.seq (.region f91x8 false) .ret)]

/-- routing/routingref36.width -/
def f92x0 : List AOper := [
  ⟨(some 2), .mv (.c (.int .i64 0)), none, []⟩]
def f92x1 : List AOper := [
  ⟨(some 3), .mv (.t 0), none, []⟩]
def f92x2 : List AOper := [
  ⟨(some 2), .mv (.c (.int .i64 4)), none, []⟩]
def f92x3 : List AOper := [
  ⟨(some 2), .mv (.c (.int .i64 2)), none, []⟩]
def f92 : AFunc := ⟨4, 1, false, [.t 2], (.seq (.region f92x0 false) (.seq (.seq (.region f92x1 false) (.cond (.t 3) (.seq (.region f92x2 false) .ret) .skip)) (.seq (.region f92x3 false) .ret)))⟩

/-- routing/attrs.get -/
def f93x0 : List AOper := [
  ⟨(some 6), .mv (.c (.int .i64 0)), none, []⟩]
def f93x1 : List AOper := [
  ⟨(some 10), .mv (.t 0), none, []⟩,
  ⟨(some 11), .mv (.t 1), none, []⟩,
  ⟨(some 12), .mv (.t 2), none, []⟩,
  ⟨(some 13), .call (.c (.fn 110 [])) [(.t 10), (.t 11), (.t 12)], none, []⟩,
  ⟨(some 9), .mv (.t 13), none, []⟩,
  ⟨(some 14), .ext (.t 9) 0, none, []⟩,
  ⟨(some 15), .ext (.t 9) 1, none, []⟩,
  ⟨(some 7), .mv (.t 14), none, []⟩,
  ⟨(some 8), .mv (.t 15), none, []⟩]
def f93x2 : List AOper := [
  ⟨(some 16), .mv (.t 7), none, []⟩,
  ⟨(some 17), .conv .i64 (.t 16), none, []⟩,
  ⟨(some 6), .mv (.t 17), none, []⟩]
def f93 : AFunc := ⟨18, 3, false, [.t 6], (.seq (.region f93x0 false) (.seq (.region f93x1 false) (.seq (.region f93x2 false) .ret)))⟩

/-- routing/attrs.flag -/
def f94x0 : List AOper := [
  ⟨(some 2), .mv (.c (.int .u8 0)), none, []⟩]
def f94x1 : List AOper := [
  ⟨(some 3), .mv (.t 0), none, []⟩,
  ⟨(some 4), .bin .gtr (.t 3) (.c (.int .i64 10)), none, []⟩]
def f94x2 : List AOper := [
  ⟨(some 2), .mv (.c (.int .u8 224)), none, []⟩]
def f94x3 : List AOper := [
  ⟨(some 5), .mv (.t 0), none, []⟩,
  ⟨(some 6), .iarr 11 1 (.c (.rp [.int .u8 224, .int .u8 64, .int .u8 64, .int .u8 64, .int .u8 128, .int .u8 64, .int .u8 64, .int .u8 192, .int .u8 192, .int .u8 128, .int .u8 128])) (.t 5), none, []⟩,
  ⟨(some 7), .load none (.t 6), none, []⟩,
  ⟨(some 2), .mv (.t 7), none, []⟩]
def f94 : AFunc := ⟨8, 1, false, [.t 2], (.seq (.region f94x0 false) (.seq (.seq (.region f94x1 false) (.cond (.t 4) (.seq (.region f94x2 false) .ret) .skip)) (.seq (.region f94x3 false) .ret)))⟩

/-- routing/attrs.read -/
def f95x0 : List AOper := [
  ⟨(some 8), .mv (.c (.bool false)), none, []⟩]
def f95x1 : List AOper := [
  ⟨(some 9), .mv (.c (.int .i64 0)), none, []⟩]
def f95x2 : List AOper := [
  ⟨(some 11), .mv (.t 2), none, []⟩,
  ⟨(some 12), .len false (.t 11), none, []⟩,
  ⟨(some 13), .bin .eql (.t 12) (.c (.int .i64 4)), none, []⟩]
def f95x3 : List AOper := [
  ⟨(some 14), .mv (.t 2), none, []⟩,
  ⟨(some 15), .call (.c (.fn 93 [])) [(.t 14), (.c (.int .i64 0)), (.c (.int .i64 4))], none, []⟩,
  ⟨(some 9), .mv (.t 15), none, []⟩]
def f95x4 : List AOper := [
  ⟨(some 16), .mv (.t 2), none, []⟩,
  ⟨(some 17), .len false (.t 16), none, []⟩,
  ⟨(some 18), .bin .eql (.t 17) (.c (.int .i64 4)), none, []⟩,
  ⟨(some 10), .mv (.t 18), none, []⟩]
def f95x5 : List AOper := [
  ⟨(some 19), .mv (.t 1), none, []⟩]
def f95x6 : List AOper := [
  ⟨(some 35), .bin .eql (.t 19) (.c (.int .i64 1)), none, []⟩,
  ⟨(some 34), .mv (.t 35), none, []⟩]
def f95x7 : List AOper := [
  ⟨(some 36), .mv (.t 2), none, []⟩,
  ⟨(some 37), .len false (.t 36), none, []⟩,
  ⟨(some 38), .bin .neq (.t 37) (.c (.int .i64 1)), none, []⟩]
def f95x8 : List AOper := [
  ⟨(some 8), .mv (.c (.bool false)), none, []⟩]
def f95x9 : List AOper := [
  ⟨(some 39), .mv (.t 0), none, []⟩,
  ⟨(some 40), .mv (.t 2), none, []⟩,
  ⟨(some 41), .iadr 1 (.t 40) (.c (.int .i64 0)), none, []⟩,
  ⟨(some 42), .load none (.t 41), none, []⟩,
  ⟨(some 43), .conv .i64 (.t 42), none, []⟩,
  ⟨(some 44), .nilck (.t 39), none, []⟩,
  ⟨(some 45), .fadr 0 (.t 44), none, []⟩,
  ⟨none, .store 1 (.t 45) (.t 43), none, []⟩]
def f95x10 : List AOper := [
  ⟨(some 8), .mv (.c (.bool true)), none, []⟩]
def f95x11 : List AOper := [
  ⟨(some 47), .bin .eql (.t 19) (.c (.int .i64 2)), none, []⟩,
  ⟨(some 46), .mv (.t 47), none, []⟩]
def f95x12 : List AOper := [
  ⟨(some 49), .mv (.t 0), none, []⟩,
  ⟨(some 50), .mv (.t 2), none, []⟩,
  ⟨(some 51), .mv (.t 3), none, []⟩,
  ⟨(some 52), .call (.c (.fn 111 [])) [(.t 50), (.t 51)], none, []⟩,
  ⟨(some 48), .mv (.t 52), none, []⟩,
  ⟨(some 53), .ext (.t 48) 0, none, []⟩,
  ⟨(some 54), .ext (.t 48) 1, none, []⟩,
  ⟨(some 55), .nilck (.t 49), none, []⟩,
  ⟨(some 56), .fadr 1 (.t 55), none, []⟩,
  ⟨none, .store 1 (.t 56) (.t 53), none, []⟩,
  ⟨(some 10), .mv (.t 54), none, []⟩]
def f95x13 : List AOper := [
  ⟨(some 58), .bin .eql (.t 19) (.c (.int .i64 3)), none, []⟩,
  ⟨(some 57), .mv (.t 58), none, []⟩]
def f95x14 : List AOper := [
  ⟨(some 59), .mv (.t 0), none, []⟩,
  ⟨(some 60), .mv (.t 9), none, []⟩,
  ⟨(some 61), .conv .u32 (.t 60), none, []⟩,
  ⟨(some 62), .nilck (.t 59), none, []⟩,
  ⟨(some 63), .fadr 2 (.t 62), none, []⟩,
  ⟨none, .store 1 (.t 63) (.t 61), none, []⟩]
def f95x15 : List AOper := [
  ⟨(some 65), .bin .eql (.t 19) (.c (.int .i64 4)), none, []⟩,
  ⟨(some 64), .mv (.t 65), none, []⟩]
def f95x16 : List AOper := [
  ⟨(some 66), .mv (.t 0), none, []⟩,
  ⟨(some 67), .mv (.t 0), none, []⟩,
  ⟨(some 68), .mv (.t 9), none, []⟩,
  ⟨(some 69), .nilck (.t 66), none, []⟩,
  ⟨(some 70), .fadr 3 (.t 69), none, []⟩,
  ⟨none, .store 1 (.t 70) (.c (.bool true)), none, []⟩,
  ⟨(some 71), .nilck (.t 67), none, []⟩,
  ⟨(some 72), .fadr 4 (.t 71), none, []⟩,
  ⟨none, .store 1 (.t 72) (.t 68), none, []⟩]
def f95x17 : List AOper := [
  ⟨(some 74), .bin .eql (.t 19) (.c (.int .i64 5)), none, []⟩,
  ⟨(some 73), .mv (.t 74), none, []⟩]
def f95x18 : List AOper := [
  ⟨(some 75), .mv (.t 0), none, []⟩,
  ⟨(some 76), .mv (.t 0), none, []⟩,
  ⟨(some 77), .mv (.t 9), none, []⟩,
  ⟨(some 78), .nilck (.t 75), none, []⟩,
  ⟨(some 79), .fadr 5 (.t 78), none, []⟩,
  ⟨none, .store 1 (.t 79) (.c (.bool true)), none, []⟩,
  ⟨(some 80), .nilck (.t 76), none, []⟩,
  ⟨(some 81), .fadr 6 (.t 80), none, []⟩,
  ⟨none, .store 1 (.t 81) (.t 77), none, []⟩]
def f95x19 : List AOper := [
  ⟨(some 83), .bin .eql (.t 19) (.c (.int .i64 6)), none, []⟩,
  ⟨(some 82), .mv (.t 83), none, []⟩]
def f95x20 : List AOper := [
  ⟨(some 84), .mv (.t 0), none, []⟩,
  ⟨(some 85), .nilck (.t 84), none, []⟩,
  ⟨(some 86), .fadr 7 (.t 85), none, []⟩,
  ⟨none, .store 1 (.t 86) (.c (.bool true)), none, []⟩]
def f95x21 : List AOper := [
  ⟨(some 87), .mv (.t 2), none, []⟩,
  ⟨(some 88), .len false (.t 87), none, []⟩,
  ⟨(some 89), .bin .eql (.t 88) (.c (.int .i64 0)), none, []⟩,
  ⟨(some 8), .mv (.t 89), none, []⟩]
def f95x22 : List AOper := [
  ⟨(some 91), .bin .eql (.t 19) (.c (.int .i64 7)), none, []⟩,
  ⟨(some 90), .mv (.t 91), none, []⟩]
def f95x23 : List AOper := [
  ⟨(some 92), .mv (.t 2), none, []⟩,
  ⟨(some 93), .len false (.t 92), none, []⟩,
  ⟨(some 94), .mv (.t 3), none, []⟩,
  ⟨(some 95), .bin .add (.t 94) (.c (.int .i64 4)), none, []⟩,
  ⟨(some 96), .bin .neq (.t 93) (.t 95), none, []⟩]
def f95x24 : List AOper := [
  ⟨(some 8), .mv (.c (.bool false)), none, []⟩]
def f95x25 : List AOper := [
  ⟨(some 97), .mv (.t 0), none, []⟩,
  ⟨(some 98), .mv (.t 0), none, []⟩,
  ⟨(some 99), .mv (.t 0), none, []⟩,
  ⟨(some 100), .mv (.t 2), none, []⟩,
  ⟨(some 101), .mv (.t 3), none, []⟩,
  ⟨(some 102), .call (.c (.fn 93 [])) [(.t 100), (.c (.int .i64 0)), (.t 101)], none, []⟩,
  ⟨(some 103), .mv (.t 2), none, []⟩,
  ⟨(some 104), .mv (.t 3), none, []⟩,
  ⟨(some 105), .call (.c (.fn 93 [])) [(.t 103), (.t 104), (.c (.int .i64 4))], none, []⟩,
  ⟨(some 106), .conv .u32 (.t 105), none, []⟩,
  ⟨(some 107), .nilck (.t 97), none, []⟩,
  ⟨(some 108), .fadr 8 (.t 107), none, []⟩,
  ⟨none, .store 1 (.t 108) (.c (.bool true)), none, []⟩,
  ⟨(some 109), .nilck (.t 98), none, []⟩,
  ⟨(some 110), .fadr 9 (.t 109), none, []⟩,
  ⟨none, .store 1 (.t 110) (.t 102), none, []⟩,
  ⟨(some 111), .nilck (.t 99), none, []⟩,
  ⟨(some 112), .fadr 10 (.t 111), none, []⟩,
  ⟨none, .store 1 (.t 112) (.t 106), none, []⟩]
def f95x26 : List AOper := [
  ⟨(some 8), .mv (.c (.bool true)), none, []⟩]
def f95x27 : List AOper := [
  ⟨(some 114), .bin .eql (.t 19) (.c (.int .i64 8)), none, []⟩,
  ⟨(some 113), .mv (.t 114), none, []⟩]
def f95x28 : List AOper := [
  ⟨(some 116), .mv (.t 0), none, []⟩,
  ⟨(some 117), .mv (.t 2), none, []⟩,
  ⟨(some 118), .call (.c (.fn 112 [])) [(.t 117)], none, []⟩,
  ⟨(some 115), .mv (.t 118), none, []⟩,
  ⟨(some 119), .ext (.t 115) 0, none, []⟩,
  ⟨(some 120), .ext (.t 115) 1, none, []⟩,
  ⟨(some 121), .nilck (.t 116), none, []⟩,
  ⟨(some 122), .fadr 11 (.t 121), none, []⟩,
  ⟨none, .store 1 (.t 122) (.t 119), none, []⟩,
  ⟨(some 10), .mv (.t 120), none, []⟩]
def f95x29 : List AOper := [
  ⟨(some 124), .bin .eql (.t 19) (.c (.int .i64 9)), none, []⟩,
  ⟨(some 123), .mv (.t 124), none, []⟩]
def f95x30 : List AOper := [
  ⟨(some 125), .mv (.t 0), none, []⟩,
  ⟨(some 126), .mv (.t 0), none, []⟩,
  ⟨(some 127), .mv (.t 9), none, []⟩,
  ⟨(some 128), .conv .u32 (.t 127), none, []⟩,
  ⟨(some 129), .nilck (.t 125), none, []⟩,
  ⟨(some 130), .fadr 12 (.t 129), none, []⟩,
  ⟨none, .store 1 (.t 130) (.c (.bool true)), none, []⟩,
  ⟨(some 131), .nilck (.t 126), none, []⟩,
  ⟨(some 132), .fadr 13 (.t 131), none, []⟩,
  ⟨none, .store 1 (.t 132) (.t 128), none, []⟩]
def f95x31 : List AOper := [
  ⟨(some 134), .bin .eql (.t 19) (.c (.int .i64 10)), none, []⟩,
  ⟨(some 133), .mv (.t 134), none, []⟩]
def f95x32 : List AOper := [
  ⟨(some 136), .mv (.t 0), none, []⟩,
  ⟨(some 137), .mv (.t 2), none, []⟩,
  ⟨(some 138), .call (.c (.fn 112 [])) [(.t 137)], none, []⟩,
  ⟨(some 135), .mv (.t 138), none, []⟩,
  ⟨(some 139), .ext (.t 135) 0, none, []⟩,
  ⟨(some 140), .ext (.t 135) 1, none, []⟩,
  ⟨(some 141), .nilck (.t 136), none, []⟩,
  ⟨(some 142), .fadr 14 (.t 141), none, []⟩,
  ⟨none, .store 1 (.t 142) (.t 139), none, []⟩,
  ⟨(some 10), .mv (.t 140), none, []⟩]
def f95x33 : List AOper := [
  ⟨(some 20), .mv (.t 0), none, []⟩,
  ⟨(some 21), .mv (.t 0), none, []⟩,
  ⟨(some 22), .nilck (.t 21), none, []⟩,
  ⟨(some 23), .fadr 15 (.t 22), none, []⟩,
  ⟨(some 24), .load none (.t 23), none, []⟩,
  ⟨(some 25), .mv (.t 1), none, []⟩,
  ⟨(some 26), .bsl 1 [.int .u8 0] 0 [] [], none, []⟩,
  ⟨(some 27), .mv (.t 2), none, []⟩,
  ⟨(some 28), .app 1 1 (.t 26) (.t 27), none, [6]⟩,
  ⟨(some 29), .build [.int .i64 0, .con (.slice none 0 0)] [(0, 1), (1, 1)] [(.t 25), (.t 28)], none, []⟩,
  ⟨(some 30), .bsl 2 [.int .i64 0, .con (.slice none 0 0)] 1 [0] [(.t 29)], none, [8, 6]⟩,
  ⟨(some 31), .app 2 32 (.t 24) (.t 30), none, [4, 10, 8, 6]⟩,
  ⟨(some 32), .nilck (.t 20), none, []⟩,
  ⟨(some 33), .fadr 15 (.t 32), none, []⟩,
  ⟨none, .store 1 (.t 33) (.t 31), none, [11, 4, 10, 8, 6]⟩]
def f95x34 : List AOper := [
  ⟨(some 8), .mv (.c (.bool true)), none, []⟩]
def f95x35 : List AOper := [
  ⟨(some 143), .mv (.t 10), none, []⟩,
  ⟨(some 8), .mv (.t 143), none, []⟩]
def f95 : AFunc := ⟨144, 4, false, [.t 8], (.seq (.region f95x0 false) (.seq (.region f95x1 false) (.seq (.seq (.region f95x2 false) (.cond (.t 13) (.region f95x3 false) .skip)) (.seq (.region f95x4 false) (.seq (.seq (.region f95x5 false) (.block 0 (.seq (.region f95x6 false) (.cond (.t 34) (.seq (.seq (.region f95x7 false) (.cond (.t 38) (.seq (.region f95x8 false) .ret) .skip)) (.seq (.region f95x9 false) (.seq (.region f95x10 false) .ret))) (.seq (.region f95x11 false) (.cond (.t 46) (.region f95x12 false) (.seq (.region f95x13 false) (.cond (.t 57) (.region f95x14 false) (.seq (.region f95x15 false) (.cond (.t 64) (.region f95x16 false) (.seq (.region f95x17 false) (.cond (.t 73) (.region f95x18 false) (.seq (.region f95x19 false) (.cond (.t 82) (.seq (.region f95x20 false) (.seq (.region f95x21 false) .ret)) (.seq (.region f95x22 false) (.cond (.t 90) (.seq (.seq (.region f95x23 false) (.cond (.t 96) (.seq (.region f95x24 false) .ret) .skip)) (.seq (.region f95x25 false) (.seq (.region f95x26 false) .ret))) (.seq (.region f95x27 false) (.cond (.t 113) (.region f95x28 false) (.seq (.region f95x29 false) (.cond (.t 123) (.region f95x30 false) (.seq (.region f95x31 false) (.cond (.t 133) (.region f95x32 false) (.seq (.region f95x33 true) (.seq (.region f95x34 false) .ret)))))))))))))))))))))))) (.seq (.region f95x35 false) .ret))))))⟩

/-- routing/attrs.width -/
def f96x0 : List AOper := [
  ⟨(some 2), .mv (.c (.int .i64 0)), none, []⟩]
def f96x1 : List AOper := [
  ⟨(some 3), .mv (.t 0), none, []⟩]
def f96x2 : List AOper := [
  ⟨(some 2), .mv (.c (.int .i64 4)), none, []⟩]
def f96x3 : List AOper := [
  ⟨(some 2), .mv (.c (.int .i64 2)), none, []⟩]
def f96 : AFunc := ⟨4, 1, false, [.t 2], (.seq (.region f96x0 false) (.seq (.seq (.region f96x1 false) (.cond (.t 3) (.seq (.region f96x2 false) .ret) .skip)) (.seq (.region f96x3 false) .ret)))⟩

/-- routing/routingref17.Same -/
def f97x0 : List AOper := [
  ⟨(some 4), .mv (.c (.bool false)), none, []⟩]
def f97x1 : List AOper := [
  ⟨(some 7), .mv (.t 0), none, []⟩,
  ⟨(some 8), .len false (.t 7), none, []⟩,
  ⟨(some 9), .mv (.t 1), none, []⟩,
  ⟨(some 10), .len false (.t 9), none, []⟩,
  ⟨(some 11), .bin .neq (.t 8) (.t 10), none, []⟩]
def f97x2 : List AOper := [
  ⟨(some 4), .mv (.c (.bool false)), none, []⟩]
def f97x3 : List AOper := [
  ⟨(some 12), .mv (.t 0), none, []⟩,
  ⟨(some 13), .len false (.t 12), none, []⟩,
  ⟨(some 14), .mv (.c (.int .i64 0)), none, []⟩]
def f97x4 : List AOper := [
  ⟨(some 15), .bin .lss (.t 14) (.t 13), none, []⟩]
def f97x5 : List AOper := [
  ⟨(some 16), .mv (.t 14), none, []⟩,
  ⟨(some 5), .mv (.t 16), none, []⟩]
def f97x6 : List AOper := [
  ⟨(some 17), .mv (.t 0), none, []⟩,
  ⟨(some 18), .mv (.t 5), none, []⟩,
  ⟨(some 19), .iadr 2 (.t 17) (.t 18), none, []⟩,
  ⟨(some 20), .fadr 0 (.t 19), none, []⟩,
  ⟨(some 21), .load none (.t 20), none, [2]⟩,
  ⟨(some 22), .mv (.t 1), none, []⟩,
  ⟨(some 23), .mv (.t 5), none, []⟩,
  ⟨(some 24), .iadr 2 (.t 22) (.t 23), none, []⟩,
  ⟨(some 25), .fadr 0 (.t 24), none, []⟩,
  ⟨(some 26), .load none (.t 25), none, [7]⟩,
  ⟨(some 27), .bin .neq (.t 21) (.t 26), none, []⟩,
  ⟨(some 28), .mv (.t 27), none, []⟩,
  ⟨(some 29), .mv (.t 0), (some (28, false)), []⟩,
  ⟨(some 30), .mv (.t 5), (some (28, false)), []⟩,
  ⟨(some 31), .iadr 2 (.t 29) (.t 30), (some (28, false)), [4, 9, 2, 7]⟩,
  ⟨(some 32), .fadr 1 (.t 31), (some (28, false)), []⟩,
  ⟨(some 33), .load none (.t 32), (some (28, false)), [14, 4, 9, 2, 7]⟩,
  ⟨(some 34), .len false (.t 33), (some (28, false)), [16, 14, 4, 9, 2, 7]⟩,
  ⟨(some 35), .mv (.t 1), (some (28, false)), []⟩,
  ⟨(some 36), .mv (.t 5), (some (28, false)), []⟩,
  ⟨(some 37), .iadr 2 (.t 35) (.t 36), (some (28, false)), [4, 9, 2, 7]⟩,
  ⟨(some 38), .fadr 1 (.t 37), (some (28, false)), []⟩,
  ⟨(some 39), .load none (.t 38), (some (28, false)), [20, 4, 9, 2, 7]⟩,
  ⟨(some 40), .len false (.t 39), (some (28, false)), [22, 20, 4, 9, 2, 7]⟩,
  ⟨(some 41), .bin .neq (.t 34) (.t 40), (some (28, false)), []⟩,
  ⟨(some 42), .pick (.t 28) (.c (.bool true)) (.t 41), none, []⟩]
def f97x7 : List AOper := [
  ⟨(some 4), .mv (.c (.bool false)), none, []⟩]
def f97x8 : List AOper := [
  ⟨(some 43), .mv (.t 0), none, []⟩,
  ⟨(some 44), .mv (.t 5), none, []⟩,
  ⟨(some 45), .iadr 2 (.t 43) (.t 44), none, []⟩,
  ⟨(some 46), .fadr 1 (.t 45), none, []⟩,
  ⟨(some 47), .load none (.t 46), none, []⟩,
  ⟨(some 48), .len false (.t 47), none, []⟩,
  ⟨(some 49), .mv (.c (.int .i64 0)), none, []⟩]
def f97x9 : List AOper := [
  ⟨(some 50), .bin .lss (.t 49) (.t 48), none, []⟩]
def f97x10 : List AOper := [
  ⟨(some 51), .mv (.t 49), none, []⟩,
  ⟨(some 6), .mv (.t 51), none, []⟩]
def f97x11 : List AOper := [
  ⟨(some 52), .mv (.t 0), none, []⟩,
  ⟨(some 53), .mv (.t 5), none, []⟩,
  ⟨(some 54), .iadr 2 (.t 52) (.t 53), none, []⟩,
  ⟨(some 55), .fadr 1 (.t 54), none, []⟩,
  ⟨(some 56), .load none (.t 55), none, [2]⟩,
  ⟨(some 57), .mv (.t 6), none, []⟩,
  ⟨(some 58), .iadr 1 (.t 56) (.t 57), none, [4, 2]⟩,
  ⟨(some 59), .load none (.t 58), none, [6, 4, 2]⟩,
  ⟨(some 60), .mv (.t 1), none, []⟩,
  ⟨(some 61), .mv (.t 5), none, []⟩,
  ⟨(some 62), .iadr 2 (.t 60) (.t 61), none, []⟩,
  ⟨(some 63), .fadr 1 (.t 62), none, []⟩,
  ⟨(some 64), .load none (.t 63), none, [10]⟩,
  ⟨(some 65), .mv (.t 6), none, []⟩,
  ⟨(some 66), .iadr 1 (.t 64) (.t 65), none, [12, 10]⟩,
  ⟨(some 67), .load none (.t 66), none, [14, 12, 10]⟩,
  ⟨(some 68), .bin .neq (.t 59) (.t 67), none, []⟩]
def f97x12 : List AOper := [
  ⟨(some 4), .mv (.c (.bool false)), none, []⟩]
def f97x13 : List AOper := [
  ⟨(some 69), .bin .add (.t 49) (.c (.int .i64 1)), none, []⟩,
  ⟨(some 49), .mv (.t 69), none, []⟩]
def f97x14L : ACode := (.seq (.region f97x9 false) (.seq (.cond (.t 50) .skip (.exit 2)) (.seq (.block 3 (.seq (.region f97x10 false) (.seq (.region f97x11 true) (.cond (.t 68) (.seq (.region f97x12 false) .ret) .skip)))) (.region f97x13 false))))
def f97x15 : List AOper := [
  ⟨(some 70), .bin .add (.t 14) (.c (.int .i64 1)), none, []⟩,
  ⟨(some 14), .mv (.t 70), none, []⟩]
def f97x16L : ACode := (.seq (.region f97x4 false) (.seq (.cond (.t 15) .skip (.exit 0)) (.seq (.block 1 (.seq (.region f97x5 false) (.seq (.seq (.region f97x6 true) (.cond (.t 42) (.seq (.region f97x7 false) .ret) .skip)) (.seq (.region f97x8 false) (.block 2 (.loop f97x14L)))))) (.region f97x15 false))))
def f97x17 : List AOper := [
  ⟨(some 4), .mv (.c (.bool true)), none, []⟩]
def f97 : AFunc := ⟨71, 2, false, [.t 4], (.seq (.region f97x0 false) (.seq (.seq (.region f97x1 false) (.cond (.t 11) (.seq (.region f97x2 false) .ret) .skip)) (.seq (.seq (.region f97x3 false) (.block 0 (.loop f97x16L))) (.seq (.region f97x17 false) .ret))))⟩
def f97x16LH : List AItem := [.inLoop f97x16L, .inBlock 0, .code (.seq (.region f97x17 false) .ret)]
def f97x14LH : List AItem := [.inLoop f97x14L, .inBlock 2, .inBlock 1, .code (.region f97x15 false), .inLoop f97x16L, .inBlock 0, .code (.seq (.region f97x17 false) .ret)]

/-- routing/routingref36.sameBytes -/
def f98x0 : List AOper := [
  ⟨(some 4), .mv (.c (.bool false)), none, []⟩]
def f98x1 : List AOper := [
  ⟨(some 5), .mv (.t 0), none, []⟩,
  ⟨(some 6), .b2s (.t 5), none, []⟩,
  ⟨(some 7), .mv (.t 1), none, []⟩,
  ⟨(some 8), .b2s (.t 7), none, []⟩,
  ⟨(some 9), .bin .eql (.t 6) (.t 8), none, []⟩,
  ⟨(some 4), .mv (.t 9), none, []⟩]
def f98 : AFunc := ⟨10, 2, false, [.t 4], (.seq (.region f98x0 false) (.seq (.region f98x1 false) .ret))⟩

/-- routing/routingref18.Same -/
def f99x0 : List AOper := [
  ⟨(some 4), .mv (.c (.bool false)), none, []⟩]
def f99x1 : List AOper := [
  ⟨(some 6), .mv (.t 0), none, []⟩,
  ⟨(some 7), .len false (.t 6), none, []⟩,
  ⟨(some 8), .mv (.t 1), none, []⟩,
  ⟨(some 9), .len false (.t 8), none, []⟩,
  ⟨(some 10), .bin .neq (.t 7) (.t 9), none, []⟩]
def f99x2 : List AOper := [
  ⟨(some 4), .mv (.c (.bool false)), none, []⟩]
def f99x3 : List AOper := [
  ⟨(some 11), .mv (.t 0), none, []⟩,
  ⟨(some 12), .len false (.t 11), none, []⟩,
  ⟨(some 13), .mv (.c (.int .i64 0)), none, []⟩]
def f99x4 : List AOper := [
  ⟨(some 14), .bin .lss (.t 13) (.t 12), none, []⟩]
def f99x5 : List AOper := [
  ⟨(some 15), .mv (.t 13), none, []⟩,
  ⟨(some 5), .mv (.t 15), none, []⟩]
def f99x6 : List AOper := [
  ⟨(some 16), .mv (.t 0), none, []⟩,
  ⟨(some 17), .mv (.t 5), none, []⟩,
  ⟨(some 18), .iadr 1 (.t 16) (.t 17), none, []⟩,
  ⟨(some 19), .load none (.t 18), none, [2]⟩,
  ⟨(some 20), .mv (.t 1), none, []⟩,
  ⟨(some 21), .mv (.t 5), none, []⟩,
  ⟨(some 22), .iadr 1 (.t 20) (.t 21), none, []⟩,
  ⟨(some 23), .load none (.t 22), none, [6]⟩,
  ⟨(some 24), .bin .neq (.t 19) (.t 23), none, []⟩]
def f99x7 : List AOper := [
  ⟨(some 4), .mv (.c (.bool false)), none, []⟩]
def f99x8 : List AOper := [
  ⟨(some 25), .bin .add (.t 13) (.c (.int .i64 1)), none, []⟩,
  ⟨(some 13), .mv (.t 25), none, []⟩]
def f99x9L : ACode := (.seq (.region f99x4 false) (.seq (.cond (.t 14) .skip (.exit 0)) (.seq (.block 1 (.seq (.region f99x5 false) (.seq (.region f99x6 true) (.cond (.t 24) (.seq (.region f99x7 false) .ret) .skip)))) (.region f99x8 false))))
def f99x10 : List AOper := [
  ⟨(some 4), .mv (.c (.bool true)), none, []⟩]
def f99 : AFunc := ⟨26, 2, false, [.t 4], (.seq (.region f99x0 false) (.seq (.seq (.region f99x1 false) (.cond (.t 10) (.seq (.region f99x2 false) .ret) .skip)) (.seq (.seq (.region f99x3 false) (.block 0 (.loop f99x9L))) (.seq (.region f99x10 false) .ret))))⟩
def f99x9LH : List AItem := [.inLoop f99x9L, .inBlock 0, .code (.seq (.region f99x10 false) .ret)]

/-- routing/routingref36.number -/
def f100x0 : List AOper := [
  ⟨(some 6), .mv (.c (.int .i64 0)), none, []⟩]
def f100x1 : List AOper := [
  ⟨(some 10), .mv (.t 0), none, []⟩,
  ⟨(some 11), .mv (.t 1), none, []⟩,
  ⟨(some 12), .mv (.t 2), none, []⟩,
  ⟨(some 13), .call (.c (.fn 113 [])) [(.t 10), (.t 11), (.t 12)], none, []⟩,
  ⟨(some 9), .mv (.t 13), none, []⟩,
  ⟨(some 14), .ext (.t 9) 0, none, []⟩,
  ⟨(some 15), .ext (.t 9) 1, none, []⟩,
  ⟨(some 7), .mv (.t 14), none, []⟩,
  ⟨(some 8), .mv (.t 15), none, []⟩]
def f100x2 : List AOper := [
  ⟨(some 16), .mv (.t 7), none, []⟩,
  ⟨(some 17), .conv .i64 (.t 16), none, []⟩,
  ⟨(some 6), .mv (.t 17), none, []⟩]
def f100 : AFunc := ⟨18, 3, false, [.t 6], (.seq (.region f100x0 false) (.seq (.region f100x1 false) (.seq (.region f100x2 false) .ret)))⟩

/-- routing/routingref36.value -/
def f101x0 : List AOper := [
  ⟨(some 4), .box (.t 0), none, []⟩,
  ⟨(some 8), .alloc (.agg [.int .i64 0, .con (.slice none 0 0), .int .u32 0, .bool false, .int .i64 0, .bool false, .int .i64 0, .bool false, .bool false, .int .i64 0, .int .u32 0, .con (.slice none 0 0), .bool false, .int .u32 0, .con (.slice none 0 0), .con (.slice none 0 0)]), none, []⟩,
  ⟨(some 9), .mv (.c (.bool false)), none, []⟩]
def f101x1 : List AOper := [
  ⟨(some 10), .mv (.c (.bool true)), none, []⟩]
def f101x2 : List AOper := [
  ⟨(some 18), .mv (.t 1), none, []⟩]
def f101x3 : List AOper := [
  ⟨(some 30), .bin .eql (.t 18) (.c (.int .i64 1)), none, []⟩,
  ⟨(some 29), .mv (.t 30), none, []⟩]
def f101x4 : List AOper := [
  ⟨(some 31), .mv (.t 2), none, []⟩,
  ⟨(some 32), .len false (.t 31), none, []⟩,
  ⟨(some 33), .bin .eql (.t 32) (.c (.int .i64 1)), none, []⟩,
  ⟨(some 10), .mv (.t 33), none, []⟩]
def f101x5 : List AOper := [
  ⟨(some 34), .mv (.t 10), none, []⟩]
def f101x6 : List AOper := [
  ⟨(some 35), .mv (.t 2), none, []⟩,
  ⟨(some 36), .iadr 1 (.t 35) (.c (.int .i64 0)), none, []⟩,
  ⟨(some 37), .load none (.t 36), none, []⟩,
  ⟨(some 38), .conv .i64 (.t 37), none, []⟩,
  ⟨(some 39), .fadr 0 (.t 4), none, []⟩,
  ⟨none, .store 1 (.t 39) (.t 38), none, []⟩]
def f101x7 : List AOper := [
  ⟨(some 41), .bin .eql (.t 18) (.c (.int .i64 2)), none, []⟩,
  ⟨(some 40), .mv (.t 41), none, []⟩]
def f101x8 : List AOper := [
  ⟨(some 43), .mv (.t 2), none, []⟩,
  ⟨(some 44), .mv (.t 3), none, []⟩,
  ⟨(some 45), .call (.c (.fn 114 [])) [(.t 43), (.t 44)], none, []⟩,
  ⟨(some 42), .mv (.t 45), none, []⟩,
  ⟨(some 46), .ext (.t 42) 0, none, []⟩,
  ⟨(some 47), .ext (.t 42) 1, none, []⟩,
  ⟨(some 11), .mv (.t 46), none, []⟩,
  ⟨(some 12), .mv (.t 47), none, []⟩]
def f101x9 : List AOper := [
  ⟨(some 48), .mv (.t 11), none, []⟩,
  ⟨(some 49), .fadr 1 (.t 4), none, []⟩,
  ⟨none, .store 1 (.t 49) (.t 48), none, []⟩]
def f101x10 : List AOper := [
  ⟨(some 50), .mv (.t 12), none, []⟩,
  ⟨(some 10), .mv (.t 50), none, []⟩]
def f101x11 : List AOper := [
  ⟨(some 52), .bin .eql (.t 18) (.c (.int .i64 6)), none, []⟩,
  ⟨(some 51), .mv (.t 52), none, []⟩]
def f101x12 : List AOper := [
  ⟨(some 53), .mv (.t 2), none, []⟩,
  ⟨(some 54), .len false (.t 53), none, []⟩,
  ⟨(some 55), .bin .eql (.t 54) (.c (.int .i64 0)), none, []⟩,
  ⟨(some 10), .mv (.t 55), none, []⟩]
def f101x13 : List AOper := [
  ⟨(some 56), .fadr 7 (.t 4), none, []⟩,
  ⟨none, .store 1 (.t 56) (.c (.bool true)), none, []⟩]
def f101x14 : List AOper := [
  ⟨(some 58), .bin .eql (.t 18) (.c (.int .i64 7)), none, []⟩,
  ⟨(some 57), .mv (.t 58), none, []⟩]
def f101x15 : List AOper := [
  ⟨(some 59), .mv (.t 3), none, []⟩,
  ⟨(some 60), .call (.c (.fn 92 [])) [(.t 59)], none, []⟩,
  ⟨(some 13), .mv (.t 60), none, []⟩]
def f101x16 : List AOper := [
  ⟨(some 61), .mv (.t 2), none, []⟩,
  ⟨(some 62), .len false (.t 61), none, []⟩,
  ⟨(some 63), .mv (.t 13), none, []⟩,
  ⟨(some 64), .bin .add (.t 63) (.c (.int .i64 4)), none, []⟩,
  ⟨(some 65), .bin .eql (.t 62) (.t 64), none, []⟩,
  ⟨(some 10), .mv (.t 65), none, []⟩]
def f101x17 : List AOper := [
  ⟨(some 66), .mv (.t 10), none, []⟩]
def f101x18 : List AOper := [
  ⟨(some 67), .fadr 8 (.t 4), none, []⟩,
  ⟨none, .store 1 (.t 67) (.c (.bool true)), none, []⟩]
def f101x19 : List AOper := [
  ⟨(some 68), .mv (.t 2), none, []⟩,
  ⟨(some 69), .mv (.t 13), none, []⟩,
  ⟨(some 70), .call (.c (.fn 100 [])) [(.t 68), (.c (.int .i64 0)), (.t 69)], none, []⟩,
  ⟨(some 71), .fadr 9 (.t 4), none, []⟩,
  ⟨none, .store 1 (.t 71) (.t 70), none, []⟩]
def f101x20 : List AOper := [
  ⟨(some 72), .mv (.t 2), none, []⟩,
  ⟨(some 73), .mv (.t 13), none, []⟩,
  ⟨(some 74), .call (.c (.fn 100 [])) [(.t 72), (.t 73), (.c (.int .i64 4))], none, []⟩,
  ⟨(some 75), .conv .u32 (.t 74), none, []⟩,
  ⟨(some 76), .fadr 10 (.t 4), none, []⟩,
  ⟨none, .store 1 (.t 76) (.t 75), none, []⟩]
def f101x21 : List AOper := [
  ⟨(some 78), .bin .eql (.t 18) (.c (.int .i64 8)), none, []⟩,
  ⟨(some 77), .mv (.t 78), none, []⟩]
def f101x22 : List AOper := [
  ⟨(some 80), .mv (.t 2), none, []⟩,
  ⟨(some 81), .call (.c (.fn 115 [])) [(.t 80)], none, []⟩,
  ⟨(some 79), .mv (.t 81), none, []⟩,
  ⟨(some 82), .ext (.t 79) 0, none, []⟩,
  ⟨(some 83), .ext (.t 79) 1, none, []⟩,
  ⟨(some 14), .mv (.t 82), none, []⟩,
  ⟨(some 15), .mv (.t 83), none, []⟩]
def f101x23 : List AOper := [
  ⟨(some 84), .mv (.t 14), none, []⟩,
  ⟨(some 85), .fadr 11 (.t 4), none, []⟩,
  ⟨none, .store 1 (.t 85) (.t 84), none, []⟩]
def f101x24 : List AOper := [
  ⟨(some 86), .mv (.t 15), none, []⟩,
  ⟨(some 10), .mv (.t 86), none, []⟩]
def f101x25 : List AOper := [
  ⟨(some 88), .bin .eql (.t 18) (.c (.int .i64 10)), none, []⟩,
  ⟨(some 87), .mv (.t 88), none, []⟩]
def f101x26 : List AOper := [
  ⟨(some 90), .mv (.t 2), none, []⟩,
  ⟨(some 91), .call (.c (.fn 115 [])) [(.t 90)], none, []⟩,
  ⟨(some 89), .mv (.t 91), none, []⟩,
  ⟨(some 92), .ext (.t 89) 0, none, []⟩,
  ⟨(some 93), .ext (.t 89) 1, none, []⟩,
  ⟨(some 16), .mv (.t 92), none, []⟩,
  ⟨(some 17), .mv (.t 93), none, []⟩]
def f101x27 : List AOper := [
  ⟨(some 94), .mv (.t 16), none, []⟩,
  ⟨(some 95), .fadr 14 (.t 4), none, []⟩,
  ⟨none, .store 1 (.t 95) (.t 94), none, []⟩]
def f101x28 : List AOper := [
  ⟨(some 96), .mv (.t 17), none, []⟩,
  ⟨(some 10), .mv (.t 96), none, []⟩]
def f101x29 : List AOper := [
  ⟨(some 98), .bin .eql (.t 18) (.c (.int .i64 3)), none, []⟩,
  ⟨(some 97), .mv (.t 98), none, []⟩]
def f101x30 : List AOper := [
  ⟨(some 99), .bin .eql (.t 18) (.c (.int .i64 4)), none, []⟩,
  ⟨(some 97), .mv (.t 99), none, []⟩]
def f101x31 : List AOper := [
  ⟨(some 100), .bin .eql (.t 18) (.c (.int .i64 5)), none, []⟩,
  ⟨(some 97), .mv (.t 100), none, []⟩]
def f101x32 : List AOper := [
  ⟨(some 101), .bin .eql (.t 18) (.c (.int .i64 9)), none, []⟩,
  ⟨(some 97), .mv (.t 101), none, []⟩]
def f101x33 : List AOper := [
  ⟨(some 102), .mv (.t 2), none, []⟩,
  ⟨(some 103), .len false (.t 102), none, []⟩,
  ⟨(some 104), .bin .eql (.t 103) (.c (.int .i64 4)), none, []⟩,
  ⟨(some 10), .mv (.t 104), none, []⟩]
def f101x34 : List AOper := [
  ⟨(some 105), .mv (.t 10), none, []⟩]
def f101x35 : List AOper := [
  ⟨(some 106), .load (some 16) (.t 4), none, []⟩,
  ⟨(some 107), .mv (.t 1), none, []⟩,
  ⟨(some 108), .mv (.t 2), none, []⟩,
  ⟨(some 109), .call (.c (.fn 100 [])) [(.t 108), (.c (.int .i64 0)), (.c (.int .i64 4))], none, []⟩,
  ⟨(some 110), .call (.c (.fn 116 [])) [(.t 106), (.t 107), (.t 109)], none, [0, 3]⟩,
  ⟨none, .store 16 (.t 4) (.t 110), none, [4, 0, 3]⟩]
def f101x36 : List AOper := [
  ⟨(some 19), .fadr 15 (.t 4), none, []⟩,
  ⟨(some 20), .load none (.t 19), none, []⟩,
  ⟨(some 21), .mv (.t 1), none, []⟩,
  ⟨(some 22), .bsl 1 [.int .u8 0] 0 [] [], none, []⟩,
  ⟨(some 23), .mv (.t 2), none, []⟩,
  ⟨(some 24), .app 1 1 (.t 22) (.t 23), none, [3]⟩,
  ⟨(some 25), .build [.int .i64 0, .con (.slice none 0 0)] [(0, 1), (1, 1)] [(.t 21), (.t 24)], none, []⟩,
  ⟨(some 26), .bsl 2 [.int .i64 0, .con (.slice none 0 0)] 1 [0] [(.t 25)], none, [5, 3]⟩,
  ⟨(some 27), .app 2 32 (.t 20) (.t 26), none, [1, 7, 5, 3]⟩,
  ⟨(some 28), .fadr 15 (.t 4), none, []⟩,
  ⟨none, .store 1 (.t 28) (.t 27), none, [8, 1, 7, 5, 3]⟩]
def f101x37 : List AOper := [
  ⟨(some 111), .load (some 16) (.t 4), none, []⟩,
  ⟨(some 112), .mv (.t 10), none, []⟩,
  ⟨none, .store 16 (.t 8) (.t 111), none, []⟩,
  ⟨(some 9), .mv (.t 112), none, []⟩]
def f101 : AFunc := ⟨113, 4, true, [.cell 8 (some 16), .t 9], (.seq (.region f101x0 false) (.seq (.region f101x1 false) (.seq (.seq (.region f101x2 false) (.block 0 (.seq (.region f101x3 false) (.cond (.t 29) (.seq (.region f101x4 false) (.seq (.region f101x5 false) (.cond (.t 34) (.region f101x6 false) .skip))) (.seq (.region f101x7 false) (.cond (.t 40) (.seq (.region f101x8 false) (.seq (.region f101x9 false) (.region f101x10 false))) (.seq (.region f101x11 false) (.cond (.t 51) (.seq (.region f101x12 false) (.region f101x13 false)) (.seq (.region f101x14 false) (.cond (.t 57) (.seq (.region f101x15 false) (.seq (.region f101x16 false) (.seq (.region f101x17 false) (.cond (.t 66) (.seq (.region f101x18 false) (.seq (.region f101x19 false) (.region f101x20 false))) .skip)))) (.seq (.region f101x21 false) (.cond (.t 77) (.seq (.region f101x22 false) (.seq (.region f101x23 false) (.region f101x24 false))) (.seq (.region f101x25 false) (.cond (.t 87) (.seq (.region f101x26 false) (.seq (.region f101x27 false) (.region f101x28 false))) (.seq (.seq (.region f101x29 false) (.cond (.t 97) .skip (.seq (.region f101x30 false) (.cond (.t 97) .skip (.seq (.region f101x31 false) (.cond (.t 97) .skip (.region f101x32 false))))))) (.cond (.t 97) (.seq (.region f101x33 false) (.seq (.region f101x34 false) (.cond (.t 105) (.region f101x35 true) .skip))) (.region f101x36 true))))))))))))))))) (.seq (.region f101x37 false) .ret))))⟩

/-- routing/routingref36.Flags -/
def f102x0 : List AOper := [
  ⟨(some 2), .mv (.c (.int .i64 0)), none, []⟩]
def f102x1 : List AOper := [
  ⟨(some 4), .mv (.t 0), none, []⟩,
  ⟨(some 5), .bin .eql (.t 4) (.c (.int .i64 1)), none, []⟩,
  ⟨(some 6), .mv (.t 5), none, []⟩,
  ⟨(some 7), .mv (.t 0), (some (6, false)), []⟩,
  ⟨(some 8), .bin .eql (.t 7) (.c (.int .i64 2)), (some (6, false)), []⟩,
  ⟨(some 9), .pick (.t 6) (.c (.bool true)) (.t 8), none, []⟩,
  ⟨(some 10), .mv (.t 9), none, []⟩,
  ⟨(some 11), .mv (.t 0), (some (10, false)), []⟩,
  ⟨(some 12), .bin .eql (.t 11) (.c (.int .i64 3)), (some (10, false)), []⟩,
  ⟨(some 13), .pick (.t 10) (.c (.bool true)) (.t 12), none, []⟩,
  ⟨(some 14), .mv (.t 13), none, []⟩,
  ⟨(some 15), .mv (.t 0), (some (14, false)), []⟩,
  ⟨(some 16), .bin .eql (.t 15) (.c (.int .i64 5)), (some (14, false)), []⟩,
  ⟨(some 17), .pick (.t 14) (.c (.bool true)) (.t 16), none, []⟩,
  ⟨(some 18), .mv (.t 17), none, []⟩,
  ⟨(some 19), .mv (.t 0), (some (18, false)), []⟩,
  ⟨(some 20), .bin .eql (.t 19) (.c (.int .i64 6)), (some (18, false)), []⟩,
  ⟨(some 21), .pick (.t 18) (.c (.bool true)) (.t 20), none, []⟩,
  ⟨(some 3), .mv (.t 21), none, []⟩]
def f102x2 : List AOper := [
  ⟨(some 2), .mv (.c (.int .i64 64)), none, []⟩]
def f102x3 : List AOper := [
  ⟨(some 23), .mv (.t 0), none, []⟩,
  ⟨(some 24), .bin .eql (.t 23) (.c (.int .i64 4)), none, []⟩,
  ⟨(some 25), .mv (.t 24), none, []⟩,
  ⟨(some 26), .mv (.t 0), (some (25, false)), []⟩,
  ⟨(some 27), .bin .eql (.t 26) (.c (.int .i64 9)), (some (25, false)), []⟩,
  ⟨(some 28), .pick (.t 25) (.c (.bool true)) (.t 27), none, []⟩,
  ⟨(some 29), .mv (.t 28), none, []⟩,
  ⟨(some 30), .mv (.t 0), (some (29, false)), []⟩,
  ⟨(some 31), .bin .eql (.t 30) (.c (.int .i64 10)), (some (29, false)), []⟩,
  ⟨(some 32), .pick (.t 29) (.c (.bool true)) (.t 31), none, []⟩,
  ⟨(some 22), .mv (.t 32), none, []⟩]
def f102x4 : List AOper := [
  ⟨(some 2), .mv (.c (.int .i64 128)), none, []⟩]
def f102x5 : List AOper := [
  ⟨(some 34), .mv (.t 0), none, []⟩,
  ⟨(some 35), .bin .eql (.t 34) (.c (.int .i64 7)), none, []⟩,
  ⟨(some 36), .mv (.t 35), none, []⟩,
  ⟨(some 37), .mv (.t 0), (some (36, false)), []⟩,
  ⟨(some 38), .bin .eql (.t 37) (.c (.int .i64 8)), (some (36, false)), []⟩,
  ⟨(some 39), .pick (.t 36) (.c (.bool true)) (.t 38), none, []⟩,
  ⟨(some 33), .mv (.t 39), none, []⟩]
def f102x6 : List AOper := [
  ⟨(some 2), .mv (.c (.int .i64 192)), none, []⟩]
def f102x7 : List AOper := [
  ⟨(some 2), .mv (.c (.int .i64 224)), none, []⟩]
def f102 : AFunc := ⟨40, 1, false, [.t 2], (.seq (.region f102x0 false) (.seq (.block 0 (.seq (.region f102x1 false) (.cond (.t 3) (.seq (.region f102x2 false) .ret) (.seq (.region f102x3 false) (.cond (.t 22) (.seq (.region f102x4 false) .ret) (.seq (.region f102x5 false) (.cond (.t 33) (.seq (.region f102x6 false) .ret) .skip))))))) (.seq (.region f102x7 false) .ret)))⟩

/-- routing/aspath.Same -/
def f103x0 : List AOper := [
  ⟨(some 4), .mv (.c (.bool false)), none, []⟩]
def f103x1 : List AOper := [
  ⟨(some 7), .mv (.t 0), none, []⟩,
  ⟨(some 8), .len false (.t 7), none, []⟩,
  ⟨(some 9), .mv (.t 1), none, []⟩,
  ⟨(some 10), .len false (.t 9), none, []⟩,
  ⟨(some 11), .bin .neq (.t 8) (.t 10), none, []⟩]
def f103x2 : List AOper := [
  ⟨(some 4), .mv (.c (.bool false)), none, []⟩]
def f103x3 : List AOper := [
  ⟨(some 12), .mv (.t 0), none, []⟩,
  ⟨(some 13), .len false (.t 12), none, []⟩,
  ⟨(some 14), .mv (.c (.int .i64 0)), none, []⟩]
def f103x4 : List AOper := [
  ⟨(some 15), .bin .lss (.t 14) (.t 13), none, []⟩]
def f103x5 : List AOper := [
  ⟨(some 16), .mv (.t 14), none, []⟩,
  ⟨(some 5), .mv (.t 16), none, []⟩]
def f103x6 : List AOper := [
  ⟨(some 17), .mv (.t 0), none, []⟩,
  ⟨(some 18), .mv (.t 5), none, []⟩,
  ⟨(some 19), .iadr 2 (.t 17) (.t 18), none, []⟩,
  ⟨(some 20), .fadr 0 (.t 19), none, []⟩,
  ⟨(some 21), .load none (.t 20), none, [2]⟩,
  ⟨(some 22), .mv (.t 1), none, []⟩,
  ⟨(some 23), .mv (.t 5), none, []⟩,
  ⟨(some 24), .iadr 2 (.t 22) (.t 23), none, []⟩,
  ⟨(some 25), .fadr 0 (.t 24), none, []⟩,
  ⟨(some 26), .load none (.t 25), none, [7]⟩,
  ⟨(some 27), .bin .neq (.t 21) (.t 26), none, []⟩,
  ⟨(some 28), .mv (.t 27), none, []⟩,
  ⟨(some 29), .mv (.t 0), (some (28, false)), []⟩,
  ⟨(some 30), .mv (.t 5), (some (28, false)), []⟩,
  ⟨(some 31), .iadr 2 (.t 29) (.t 30), (some (28, false)), [4, 9, 2, 7]⟩,
  ⟨(some 32), .fadr 1 (.t 31), (some (28, false)), []⟩,
  ⟨(some 33), .load none (.t 32), (some (28, false)), [14, 4, 9, 2, 7]⟩,
  ⟨(some 34), .len false (.t 33), (some (28, false)), [16, 14, 4, 9, 2, 7]⟩,
  ⟨(some 35), .mv (.t 1), (some (28, false)), []⟩,
  ⟨(some 36), .mv (.t 5), (some (28, false)), []⟩,
  ⟨(some 37), .iadr 2 (.t 35) (.t 36), (some (28, false)), [4, 9, 2, 7]⟩,
  ⟨(some 38), .fadr 1 (.t 37), (some (28, false)), []⟩,
  ⟨(some 39), .load none (.t 38), (some (28, false)), [20, 4, 9, 2, 7]⟩,
  ⟨(some 40), .len false (.t 39), (some (28, false)), [22, 20, 4, 9, 2, 7]⟩,
  ⟨(some 41), .bin .neq (.t 34) (.t 40), (some (28, false)), []⟩,
  ⟨(some 42), .pick (.t 28) (.c (.bool true)) (.t 41), none, []⟩]
def f103x7 : List AOper := [
  ⟨(some 4), .mv (.c (.bool false)), none, []⟩]
def f103x8 : List AOper := [
  ⟨(some 43), .mv (.t 0), none, []⟩,
  ⟨(some 44), .mv (.t 5), none, []⟩,
  ⟨(some 45), .iadr 2 (.t 43) (.t 44), none, []⟩,
  ⟨(some 46), .fadr 1 (.t 45), none, []⟩,
  ⟨(some 47), .load none (.t 46), none, []⟩,
  ⟨(some 48), .len false (.t 47), none, []⟩,
  ⟨(some 49), .mv (.c (.int .i64 0)), none, []⟩]
def f103x9 : List AOper := [
  ⟨(some 50), .bin .lss (.t 49) (.t 48), none, []⟩]
def f103x10 : List AOper := [
  ⟨(some 51), .mv (.t 49), none, []⟩,
  ⟨(some 6), .mv (.t 51), none, []⟩]
def f103x11 : List AOper := [
  ⟨(some 52), .mv (.t 0), none, []⟩,
  ⟨(some 53), .mv (.t 5), none, []⟩,
  ⟨(some 54), .iadr 2 (.t 52) (.t 53), none, []⟩,
  ⟨(some 55), .fadr 1 (.t 54), none, []⟩,
  ⟨(some 56), .load none (.t 55), none, [2]⟩,
  ⟨(some 57), .mv (.t 6), none, []⟩,
  ⟨(some 58), .iadr 1 (.t 56) (.t 57), none, [4, 2]⟩,
  ⟨(some 59), .load none (.t 58), none, [6, 4, 2]⟩,
  ⟨(some 60), .mv (.t 1), none, []⟩,
  ⟨(some 61), .mv (.t 5), none, []⟩,
  ⟨(some 62), .iadr 2 (.t 60) (.t 61), none, []⟩,
  ⟨(some 63), .fadr 1 (.t 62), none, []⟩,
  ⟨(some 64), .load none (.t 63), none, [10]⟩,
  ⟨(some 65), .mv (.t 6), none, []⟩,
  ⟨(some 66), .iadr 1 (.t 64) (.t 65), none, [12, 10]⟩,
  ⟨(some 67), .load none (.t 66), none, [14, 12, 10]⟩,
  ⟨(some 68), .bin .neq (.t 59) (.t 67), none, []⟩]
def f103x12 : List AOper := [
  ⟨(some 4), .mv (.c (.bool false)), none, []⟩]
def f103x13 : List AOper := [
  ⟨(some 69), .bin .add (.t 49) (.c (.int .i64 1)), none, []⟩,
  ⟨(some 49), .mv (.t 69), none, []⟩]
def f103x14L : ACode := (.seq (.region f103x9 false) (.seq (.cond (.t 50) .skip (.exit 2)) (.seq (.block 3 (.seq (.region f103x10 false) (.seq (.region f103x11 true) (.cond (.t 68) (.seq (.region f103x12 false) .ret) .skip)))) (.region f103x13 false))))
def f103x15 : List AOper := [
  ⟨(some 70), .bin .add (.t 14) (.c (.int .i64 1)), none, []⟩,
  ⟨(some 14), .mv (.t 70), none, []⟩]
def f103x16L : ACode := (.seq (.region f103x4 false) (.seq (.cond (.t 15) .skip (.exit 0)) (.seq (.block 1 (.seq (.region f103x5 false) (.seq (.seq (.region f103x6 true) (.cond (.t 42) (.seq (.region f103x7 false) .ret) .skip)) (.seq (.region f103x8 false) (.block 2 (.loop f103x14L)))))) (.region f103x15 false))))
def f103x17 : List AOper := [
  ⟨(some 4), .mv (.c (.bool true)), none, []⟩]
def f103 : AFunc := ⟨71, 2, false, [.t 4], (.seq (.region f103x0 false) (.seq (.seq (.region f103x1 false) (.cond (.t 11) (.seq (.region f103x2 false) .ret) .skip)) (.seq (.seq (.region f103x3 false) (.block 0 (.loop f103x16L))) (.seq (.region f103x17 false) .ret))))⟩
def f103x16LH : List AItem := [.inLoop f103x16L, .inBlock 0, .code (.seq (.region f103x17 false) .ret)]
def f103x14LH : List AItem := [.inLoop f103x14L, .inBlock 2, .inBlock 1, .code (.region f103x15 false), .inLoop f103x16L, .inBlock 0, .code (.seq (.region f103x17 false) .ret)]

/-- routing/attrs.equal -/
def f104x0 : List AOper := [
  ⟨(some 4), .mv (.c (.bool false)), none, []⟩]
def f104x1 : List AOper := [
  ⟨(some 6), .mv (.t 0), none, []⟩,
  ⟨(some 7), .len false (.t 6), none, []⟩,
  ⟨(some 8), .mv (.t 1), none, []⟩,
  ⟨(some 9), .len false (.t 8), none, []⟩,
  ⟨(some 10), .bin .neq (.t 7) (.t 9), none, []⟩]
def f104x2 : List AOper := [
  ⟨(some 4), .mv (.c (.bool false)), none, []⟩]
def f104x3 : List AOper := [
  ⟨(some 11), .mv (.t 0), none, []⟩,
  ⟨(some 12), .len false (.t 11), none, []⟩,
  ⟨(some 13), .mv (.c (.int .i64 0)), none, []⟩]
def f104x4 : List AOper := [
  ⟨(some 14), .bin .lss (.t 13) (.t 12), none, []⟩]
def f104x5 : List AOper := [
  ⟨(some 15), .mv (.t 13), none, []⟩,
  ⟨(some 5), .mv (.t 15), none, []⟩]
def f104x6 : List AOper := [
  ⟨(some 16), .mv (.t 0), none, []⟩,
  ⟨(some 17), .mv (.t 5), none, []⟩,
  ⟨(some 18), .iadr 1 (.t 16) (.t 17), none, []⟩,
  ⟨(some 19), .load none (.t 18), none, [2]⟩,
  ⟨(some 20), .mv (.t 1), none, []⟩,
  ⟨(some 21), .mv (.t 5), none, []⟩,
  ⟨(some 22), .iadr 1 (.t 20) (.t 21), none, []⟩,
  ⟨(some 23), .load none (.t 22), none, [6]⟩,
  ⟨(some 24), .bin .neq (.t 19) (.t 23), none, []⟩]
def f104x7 : List AOper := [
  ⟨(some 4), .mv (.c (.bool false)), none, []⟩]
def f104x8 : List AOper := [
  ⟨(some 25), .bin .add (.t 13) (.c (.int .i64 1)), none, []⟩,
  ⟨(some 13), .mv (.t 25), none, []⟩]
def f104x9L : ACode := (.seq (.region f104x4 false) (.seq (.cond (.t 14) .skip (.exit 0)) (.seq (.block 1 (.seq (.region f104x5 false) (.seq (.region f104x6 true) (.cond (.t 24) (.seq (.region f104x7 false) .ret) .skip)))) (.region f104x8 false))))
def f104x10 : List AOper := [
  ⟨(some 4), .mv (.c (.bool true)), none, []⟩]
def f104 : AFunc := ⟨26, 2, false, [.t 4], (.seq (.region f104x0 false) (.seq (.seq (.region f104x1 false) (.cond (.t 10) (.seq (.region f104x2 false) .ret) .skip)) (.seq (.seq (.region f104x3 false) (.block 0 (.loop f104x9L))) (.seq (.region f104x10 false) .ret))))⟩
def f104x9LH : List AItem := [.inLoop f104x9L, .inBlock 0, .code (.seq (.region f104x10 false) .ret)]

/-- routing/routingref17.Size -/
def f54x0 : List AOper := [
  ⟨(some 2), .mv (.c (.int .i64 0)), none, []⟩]
def f54x1 : List AOper := [
  ⟨(some 3), .mv (.t 0), none, []⟩,
  ⟨(some 4), .len false (.t 3), none, []⟩,
  ⟨(some 5), .mv (.t 0), none, []⟩,
  ⟨(some 6), .call (.c (.fn 57 [])) [(.t 5)], none, []⟩,
  ⟨(some 7), .len false (.t 6), none, []⟩,
  ⟨(some 8), .bin .add (.t 4) (.t 7), none, []⟩,
  ⟨(some 2), .mv (.t 8), none, []⟩]
def f54 : AFunc := ⟨9, 1, false, [.t 2], (.seq (.region f54x0 false) (.seq (.region f54x1 false) .ret))⟩

/-- routing/aspath.segment -/
def f105x0 : List AOper := [
  ⟨(some 1), .box (.t 0), none, []⟩,
  ⟨(some 2), .mv (.c (.int .i64 0)), none, []⟩]
def f105x1 : List AOper := [
  ⟨(some 7), .fadr 0 (.t 1), none, []⟩,
  ⟨(some 8), .load none (.t 7), none, []⟩,
  ⟨(some 9), .bsl 1 [.int .i64 0] 4 [0, 1, 2, 3] [(.c (.int .i64 1)), (.c (.int .i64 2)), (.c (.int .i64 3)), (.c (.int .i64 4))], none, []⟩,
  ⟨(some 10), .call (.c (.fn 107 [])) [(.t 8), (.t 9)], none, []⟩,
  ⟨(some 11), .un .not (.t 10), none, []⟩,
  ⟨(some 6), .mv (.t 11), none, []⟩]
def f105x2 : List AOper := [
  ⟨(some 2), .mv (.c (.int .i64 15)), none, []⟩]
def f105x3 : List AOper := [
  ⟨(some 13), .fadr 1 (.t 1), none, []⟩,
  ⟨(some 14), .load none (.t 13), none, []⟩,
  ⟨(some 15), .len false (.t 14), none, []⟩,
  ⟨(some 16), .bin .eql (.t 15) (.c (.int .i64 0)), none, []⟩,
  ⟨(some 12), .mv (.t 16), none, []⟩]
def f105x4 : List AOper := [
  ⟨(some 2), .mv (.c (.int .i64 1)), none, []⟩]
def f105x5 : List AOper := [
  ⟨(some 18), .fadr 1 (.t 1), none, []⟩,
  ⟨(some 19), .load none (.t 18), none, []⟩,
  ⟨(some 20), .len false (.t 19), none, []⟩,
  ⟨(some 21), .bin .gtr (.t 20) (.c (.int .i64 255)), none, []⟩,
  ⟨(some 17), .mv (.t 21), none, []⟩]
def f105x6 : List AOper := [
  ⟨(some 2), .mv (.c (.int .i64 4)), none, []⟩]
def f105x7 : List AOper := [
  ⟨(some 22), .fadr 1 (.t 1), none, []⟩,
  ⟨(some 23), .load none (.t 22), none, []⟩,
  ⟨(some 24), .len false (.t 23), none, []⟩,
  ⟨(some 25), .mv (.c (.int .i64 0)), none, []⟩]
def f105x8 : List AOper := [
  ⟨(some 26), .bin .lss (.t 25) (.t 24), none, []⟩]
def f105x9 : List AOper := [
  ⟨(some 27), .iadr 1 (.t 23) (.t 25), none, []⟩,
  ⟨(some 28), .load none (.t 27), none, []⟩,
  ⟨(some 4), .mv (.t 28), none, []⟩]
def f105x10 : List AOper := [
  ⟨(some 29), .mv (.t 4), none, []⟩,
  ⟨(some 30), .bin .lss (.t 29) (.c (.int .i64 1)), none, []⟩,
  ⟨(some 31), .mv (.t 30), none, []⟩,
  ⟨(some 32), .mv (.t 4), (some (31, false)), []⟩,
  ⟨(some 33), .bin .gtr (.t 32) (.c (.int .i64 4294967295)), (some (31, false)), []⟩,
  ⟨(some 34), .pick (.t 31) (.c (.bool true)) (.t 33), none, []⟩]
def f105x11 : List AOper := [
  ⟨(some 2), .mv (.c (.int .i64 5)), none, []⟩]
def f105x12 : List AOper := [
  ⟨(some 35), .bin .add (.t 25) (.c (.int .i64 1)), none, []⟩,
  ⟨(some 25), .mv (.t 35), none, []⟩]
def f105x13L : ACode := (.seq (.region f105x8 false) (.seq (.cond (.t 26) .skip (.exit 1)) (.seq (.block 2 (.seq (.region f105x9 false) (.seq (.region f105x10 false) (.cond (.t 34) (.seq (.region f105x11 false) .ret) .skip)))) (.region f105x12 false))))
def f105x14 : List AOper := [
  ⟨(some 36), .fadr 1 (.t 1), none, []⟩,
  ⟨(some 37), .load none (.t 36), none, []⟩,
  ⟨(some 38), .len false (.t 37), none, []⟩,
  ⟨(some 39), .mv (.c (.int .i64 0)), none, []⟩]
def f105x15 : List AOper := [
  ⟨(some 40), .bin .lss (.t 39) (.t 38), none, []⟩]
def f105x16 : List AOper := [
  ⟨(some 41), .mv (.t 39), none, []⟩,
  ⟨(some 5), .mv (.t 41), none, []⟩]
def f105x17 : List AOper := [
  ⟨(some 42), .mv (.t 5), none, []⟩,
  ⟨(some 43), .bin .gtr (.t 42) (.c (.int .i64 0)), none, []⟩,
  ⟨(some 44), .mv (.t 43), none, []⟩,
  ⟨(some 45), .fadr 0 (.t 1), (some (44, true)), []⟩,
  ⟨(some 46), .load none (.t 45), (some (44, true)), []⟩,
  ⟨(some 47), .bsl 1 [.int .i64 0] 2 [0, 1] [(.c (.int .i64 1)), (.c (.int .i64 4))], (some (44, true)), []⟩,
  ⟨(some 48), .call (.c (.fn 107 [])) [(.t 46), (.t 47)], (some (44, true)), [4, 5]⟩,
  ⟨(some 49), .pick (.t 44) (.t 48) (.c (.bool false)), none, []⟩,
  ⟨(some 50), .mv (.t 49), none, []⟩,
  ⟨(some 51), .fadr 1 (.t 1), (some (50, true)), []⟩,
  ⟨(some 52), .load none (.t 51), (some (50, true)), [6, 4, 5]⟩,
  ⟨(some 53), .mv (.t 5), (some (50, true)), []⟩,
  ⟨(some 54), .iadr 1 (.t 52) (.t 53), (some (50, true)), [10, 6, 4, 5]⟩,
  ⟨(some 55), .load none (.t 54), (some (50, true)), [12, 10, 6, 4, 5]⟩,
  ⟨(some 56), .fadr 1 (.t 1), (some (50, true)), []⟩,
  ⟨(some 57), .load none (.t 56), (some (50, true)), [6, 4, 5]⟩,
  ⟨(some 58), .mv (.t 5), (some (50, true)), []⟩,
  ⟨(some 59), .bin .sub (.t 58) (.c (.int .i64 1)), (some (50, true)), []⟩,
  ⟨(some 60), .iadr 1 (.t 57) (.t 59), (some (50, true)), [15, 6, 4, 5]⟩,
  ⟨(some 61), .load none (.t 60), (some (50, true)), [18, 15, 6, 4, 5]⟩,
  ⟨(some 62), .bin .leq (.t 55) (.t 61), (some (50, true)), []⟩,
  ⟨(some 63), .pick (.t 50) (.t 62) (.c (.bool false)), none, []⟩]
def f105x18 : List AOper := [
  ⟨(some 2), .mv (.c (.int .i64 16)), none, []⟩]
def f105x19 : List AOper := [
  ⟨(some 64), .bin .add (.t 39) (.c (.int .i64 1)), none, []⟩,
  ⟨(some 39), .mv (.t 64), none, []⟩]
def f105x20L : ACode := (.seq (.region f105x15 false) (.seq (.cond (.t 40) .skip (.exit 3)) (.seq (.block 4 (.seq (.region f105x16 false) (.seq (.region f105x17 true) (.cond (.t 63) (.seq (.region f105x18 false) .ret) .skip)))) (.region f105x19 false))))
def f105x21 : List AOper := [
  ⟨(some 2), .mv (.c (.int .i64 0)), none, []⟩]
def f105 : AFunc := ⟨65, 1, false, [.t 2], (.seq (.region f105x0 false) (.seq (.block 0 (.seq (.region f105x1 false) (.cond (.t 6) (.seq (.region f105x2 false) .ret) (.seq (.region f105x3 false) (.cond (.t 12) (.seq (.region f105x4 false) .ret) (.seq (.region f105x5 false) (.cond (.t 17) (.seq (.region f105x6 false) .ret) .skip))))))) (.seq (.seq (.region f105x7 false) (.block 1 (.loop f105x13L))) (.seq (.seq (.region f105x14 false) (.block 3 (.loop f105x20L))) (.seq (.region f105x21 false) .ret)))))⟩
def f105x13LH : List AItem := [.inLoop f105x13L, .inBlock 1, .code (.seq (.seq (.region f105x14 false) (.block 3 (.loop f105x20L))) (.seq (.region f105x21 false) .ret))]
def f105x20LH : List AItem := [.inLoop f105x20L, .inBlock 3, .code (.seq (.region f105x21 false) .ret)]

/-- routing/aspath.confed -/
def f106x0 : List AOper := [
  ⟨(some 2), .mv (.c (.bool false)), none, []⟩]
def f106x1 : List AOper := [
  ⟨(some 3), .mv (.t 0), none, []⟩,
  ⟨(some 4), .bsl 1 [.int .i64 0] 2 [0, 1] [(.c (.int .i64 3)), (.c (.int .i64 4))], none, []⟩,
  ⟨(some 5), .call (.c (.fn 107 [])) [(.t 3), (.t 4)], none, []⟩,
  ⟨(some 2), .mv (.t 5), none, []⟩]
def f106 : AFunc := ⟨6, 1, false, [.t 2], (.seq (.region f106x0 false) (.seq (.region f106x1 false) .ret))⟩

/-- routing/aspath.among -/
def f107x0 : List AOper := [
  ⟨(some 4), .mv (.c (.bool false)), none, []⟩]
def f107x1 : List AOper := [
  ⟨(some 7), .mv (.t 1), none, []⟩,
  ⟨(some 8), .len false (.t 7), none, []⟩,
  ⟨(some 9), .mv (.c (.int .i64 0)), none, []⟩]
def f107x2 : List AOper := [
  ⟨(some 10), .bin .lss (.t 9) (.t 8), none, []⟩]
def f107x3 : List AOper := [
  ⟨(some 11), .iadr 1 (.t 7) (.t 9), none, []⟩,
  ⟨(some 12), .load none (.t 11), none, []⟩,
  ⟨(some 6), .mv (.t 12), none, []⟩]
def f107x4 : List AOper := [
  ⟨(some 13), .mv (.t 6), none, []⟩,
  ⟨(some 14), .mv (.t 0), none, []⟩,
  ⟨(some 15), .bin .eql (.t 13) (.t 14), none, []⟩]
def f107x5 : List AOper := [
  ⟨(some 4), .mv (.c (.bool true)), none, []⟩]
def f107x6 : List AOper := [
  ⟨(some 16), .bin .add (.t 9) (.c (.int .i64 1)), none, []⟩,
  ⟨(some 9), .mv (.t 16), none, []⟩]
def f107x7L : ACode := (.seq (.region f107x2 false) (.seq (.cond (.t 10) .skip (.exit 0)) (.seq (.block 1 (.seq (.region f107x3 false) (.seq (.region f107x4 false) (.cond (.t 15) (.seq (.region f107x5 false) .ret) .skip)))) (.region f107x6 false))))
def f107x8 : List AOper := [
  ⟨(some 4), .mv (.c (.bool false)), none, []⟩]
def f107 : AFunc := ⟨17, 2, false, [.t 4], (.seq (.region f107x0 false) (.seq (.seq (.region f107x1 false) (.block 0 (.loop f107x7L))) (.seq (.region f107x8 false) .ret)))⟩
def f107x7LH : List AItem := [.inLoop f107x7L, .inBlock 0, .code (.seq (.region f107x8 false) .ret)]

/-- routing/routingref17.segment -/
def f108x0 : List AOper := [
  ⟨(some 4), .mv (.c (.int .i64 0)), none, []⟩]
def f108x1 : List AOper := [
  ⟨(some 11), .mv (.t 0), none, []⟩,
  ⟨(some 12), .mv (.t 1), none, []⟩,
  ⟨(some 13), .iadr 2 (.t 11) (.t 12), none, []⟩,
  ⟨(some 14), .load (some 2) (.t 13), none, []⟩,
  ⟨(some 5), .alloc (.agg [.int .i64 0, .con (.slice none 0 0)]), none, []⟩,
  ⟨none, .store 2 (.t 5) (.t 14), none, []⟩]
def f108x2 : List AOper := [
  ⟨(some 15), .fadr 0 (.t 5), none, []⟩,
  ⟨(some 16), .load none (.t 15), none, []⟩,
  ⟨(some 17), .bin .lss (.t 16) (.c (.int .i64 1)), none, []⟩,
  ⟨(some 18), .mv (.t 17), none, []⟩,
  ⟨(some 19), .fadr 0 (.t 5), (some (18, false)), []⟩,
  ⟨(some 20), .load none (.t 19), (some (18, false)), []⟩,
  ⟨(some 21), .bin .gtr (.t 20) (.c (.int .i64 4)), (some (18, false)), []⟩,
  ⟨(some 22), .pick (.t 18) (.c (.bool true)) (.t 21), none, []⟩]
def f108x3 : List AOper := [
  ⟨(some 4), .mv (.c (.int .i64 15)), none, []⟩]
def f108x4 : List AOper := [
  ⟨(some 23), .fadr 1 (.t 5), none, []⟩,
  ⟨(some 24), .load none (.t 23), none, []⟩,
  ⟨(some 25), .len false (.t 24), none, []⟩,
  ⟨(some 26), .bin .eql (.t 25) (.c (.int .i64 0)), none, []⟩]
def f108x5 : List AOper := [
  ⟨(some 4), .mv (.c (.int .i64 1)), none, []⟩]
def f108x6 : List AOper := [
  ⟨(some 27), .fadr 1 (.t 5), none, []⟩,
  ⟨(some 28), .load none (.t 27), none, []⟩,
  ⟨(some 29), .len false (.t 28), none, []⟩,
  ⟨(some 30), .bin .gtr (.t 29) (.c (.int .i64 255)), none, []⟩]
def f108x7 : List AOper := [
  ⟨(some 4), .mv (.c (.int .i64 4)), none, []⟩]
def f108x8 : List AOper := [
  ⟨(some 31), .fadr 1 (.t 5), none, []⟩,
  ⟨(some 32), .load none (.t 31), none, []⟩,
  ⟨(some 33), .len false (.t 32), none, []⟩,
  ⟨(some 34), .mv (.c (.int .i64 0)), none, []⟩]
def f108x9 : List AOper := [
  ⟨(some 35), .bin .lss (.t 34) (.t 33), none, []⟩]
def f108x10 : List AOper := [
  ⟨(some 36), .iadr 1 (.t 32) (.t 34), none, []⟩,
  ⟨(some 37), .load none (.t 36), none, []⟩,
  ⟨(some 7), .mv (.t 37), none, []⟩]
def f108x11 : List AOper := [
  ⟨(some 38), .mv (.t 7), none, []⟩,
  ⟨(some 39), .bin .lss (.t 38) (.c (.int .i64 1)), none, []⟩,
  ⟨(some 40), .mv (.t 39), none, []⟩,
  ⟨(some 41), .mv (.t 7), (some (40, false)), []⟩,
  ⟨(some 42), .bin .gtr (.t 41) (.c (.int .i64 4294967295)), (some (40, false)), []⟩,
  ⟨(some 43), .pick (.t 40) (.c (.bool true)) (.t 42), none, []⟩]
def f108x12 : List AOper := [
  ⟨(some 4), .mv (.c (.int .i64 5)), none, []⟩]
def f108x13 : List AOper := [
  ⟨(some 44), .bin .add (.t 34) (.c (.int .i64 1)), none, []⟩,
  ⟨(some 34), .mv (.t 44), none, []⟩]
def f108x14L : ACode := (.seq (.region f108x9 false) (.seq (.cond (.t 35) .skip (.exit 0)) (.seq (.block 1 (.seq (.region f108x10 false) (.seq (.region f108x11 false) (.cond (.t 43) (.seq (.region f108x12 false) .ret) .skip)))) (.region f108x13 false))))
def f108x15 : List AOper := [
  ⟨(some 8), .mv (.c (.int .i64 1)), none, []⟩]
def f108x16 : List AOper := [
  ⟨(some 45), .mv (.t 8), none, []⟩,
  ⟨(some 46), .fadr 1 (.t 5), none, []⟩,
  ⟨(some 47), .load none (.t 46), none, []⟩,
  ⟨(some 48), .len false (.t 47), none, []⟩,
  ⟨(some 49), .bin .lss (.t 45) (.t 48), none, []⟩]
def f108x17 : List AOper := [
  ⟨(some 52), .fadr 0 (.t 5), none, []⟩,
  ⟨(some 53), .load none (.t 52), none, []⟩,
  ⟨(some 54), .call (.c (.fn 117 [])) [(.t 53)], none, [1]⟩,
  ⟨(some 55), .mv (.t 54), none, []⟩,
  ⟨(some 56), .fadr 1 (.t 5), (some (55, true)), []⟩,
  ⟨(some 57), .load none (.t 56), (some (55, true)), [2, 1]⟩,
  ⟨(some 58), .mv (.t 8), (some (55, true)), []⟩,
  ⟨(some 59), .iadr 1 (.t 57) (.t 58), (some (55, true)), [5, 2, 1]⟩,
  ⟨(some 60), .load none (.t 59), (some (55, true)), [7, 5, 2, 1]⟩,
  ⟨(some 61), .fadr 1 (.t 5), (some (55, true)), []⟩,
  ⟨(some 62), .load none (.t 61), (some (55, true)), [2, 1]⟩,
  ⟨(some 63), .mv (.t 8), (some (55, true)), []⟩,
  ⟨(some 64), .bin .sub (.t 63) (.c (.int .i64 1)), (some (55, true)), []⟩,
  ⟨(some 65), .iadr 1 (.t 62) (.t 64), (some (55, true)), [10, 2, 1]⟩,
  ⟨(some 66), .load none (.t 65), (some (55, true)), [13, 10, 2, 1]⟩,
  ⟨(some 67), .bin .leq (.t 60) (.t 66), (some (55, true)), []⟩,
  ⟨(some 68), .pick (.t 55) (.t 67) (.c (.bool false)), none, []⟩]
def f108x18 : List AOper := [
  ⟨(some 4), .mv (.c (.int .i64 16)), none, []⟩]
def f108x19 : List AOper := [
  ⟨(some 50), .mv (.t 8), none, []⟩,
  ⟨(some 51), .bin .add (.t 50) (.c (.int .i64 1)), none, []⟩,
  ⟨(some 8), .mv (.t 51), none, []⟩]
def f108x20L : ACode := (.seq (.seq (.region f108x16 false) (.cond (.t 49) .skip (.exit 2))) (.seq (.block 3 (.seq (.region f108x17 true) (.cond (.t 68) (.seq (.region f108x18 false) .ret) .skip))) (.region f108x19 false)))
def f108x21 : List AOper := [
  ⟨(some 69), .fadr 0 (.t 5), none, []⟩,
  ⟨(some 70), .load none (.t 69), none, []⟩,
  ⟨(some 71), .call (.c (.fn 118 [])) [(.t 70)], none, []⟩]
def f108x22 : List AOper := [
  ⟨(some 72), .mv (.t 0), none, []⟩,
  ⟨(some 73), .mv (.t 1), none, []⟩,
  ⟨(some 74), .slc 2 (.t 72) none (some (.t 73)) none, none, []⟩,
  ⟨(some 75), .len false (.t 74), none, []⟩,
  ⟨(some 76), .mv (.c (.int .i64 0)), none, []⟩]
def f108x23 : List AOper := [
  ⟨(some 77), .bin .lss (.t 76) (.t 75), none, []⟩]
def f108x24 : List AOper := [
  ⟨(some 78), .iadr 2 (.t 74) (.t 76), none, []⟩,
  ⟨(some 79), .load (some 2) (.t 78), none, []⟩,
  ⟨(some 10), .alloc (.agg [.int .i64 0, .con (.slice none 0 0)]), none, []⟩,
  ⟨none, .store 2 (.t 10) (.t 79), none, []⟩]
def f108x25 : List AOper := [
  ⟨(some 80), .fadr 0 (.t 10), none, []⟩,
  ⟨(some 81), .load none (.t 80), none, []⟩,
  ⟨(some 82), .call (.c (.fn 118 [])) [(.t 81)], none, []⟩,
  ⟨(some 83), .un .not (.t 82), none, []⟩]
def f108x26 : List AOper := [
  ⟨(some 4), .mv (.c (.int .i64 1)), none, []⟩]
def f108x27 : List AOper := [
  ⟨(some 84), .bin .add (.t 76) (.c (.int .i64 1)), none, []⟩,
  ⟨(some 76), .mv (.t 84), none, []⟩]
def f108x28L : ACode := (.seq (.region f108x23 false) (.seq (.cond (.t 77) .skip (.exit 4)) (.seq (.block 5 (.seq (.region f108x24 false) (.seq (.region f108x25 false) (.cond (.t 83) (.seq (.region f108x26 false) .ret) .skip)))) (.region f108x27 false))))
def f108x29 : List AOper := [
  ⟨(some 85), .mv (.t 1), none, []⟩,
  ⟨(some 86), .bin .gtr (.t 85) (.c (.int .i64 0)), none, []⟩,
  ⟨(some 87), .mv (.t 86), none, []⟩,
  ⟨(some 88), .fadr 0 (.t 5), (some (87, true)), []⟩,
  ⟨(some 89), .load none (.t 88), (some (87, true)), []⟩,
  ⟨(some 90), .call (.c (.fn 117 [])) [(.t 89)], (some (87, true)), [4]⟩,
  ⟨(some 91), .un .not (.t 90), (some (87, true)), []⟩,
  ⟨(some 92), .pick (.t 87) (.t 91) (.c (.bool false)), none, []⟩,
  ⟨(some 93), .mv (.t 92), none, []⟩,
  ⟨(some 94), .mv (.t 0), (some (93, true)), []⟩,
  ⟨(some 95), .mv (.t 1), (some (93, true)), []⟩,
  ⟨(some 96), .bin .sub (.t 95) (.c (.int .i64 1)), (some (93, true)), []⟩,
  ⟨(some 97), .iadr 2 (.t 94) (.t 96), (some (93, true)), [5, 4]⟩,
  ⟨(some 98), .fadr 0 (.t 97), (some (93, true)), []⟩,
  ⟨(some 99), .load none (.t 98), (some (93, true)), [12, 5, 4]⟩,
  ⟨(some 100), .fadr 0 (.t 5), (some (93, true)), []⟩,
  ⟨(some 101), .load none (.t 100), (some (93, true)), [5, 4]⟩,
  ⟨(some 102), .bin .eql (.t 99) (.t 101), (some (93, true)), []⟩,
  ⟨(some 103), .pick (.t 93) (.t 102) (.c (.bool false)), none, []⟩,
  ⟨(some 104), .mv (.t 103), none, []⟩,
  ⟨(some 105), .mv (.t 0), (some (104, true)), []⟩,
  ⟨(some 106), .mv (.t 1), (some (104, true)), []⟩,
  ⟨(some 107), .bin .sub (.t 106) (.c (.int .i64 1)), (some (104, true)), []⟩,
  ⟨(some 108), .iadr 2 (.t 105) (.t 107), (some (104, true)), [14, 16, 12, 5, 4]⟩,
  ⟨(some 109), .fadr 1 (.t 108), (some (104, true)), []⟩,
  ⟨(some 110), .load none (.t 109), (some (104, true)), [23, 14, 16, 12, 5, 4]⟩,
  ⟨(some 111), .len false (.t 110), (some (104, true)), [25, 23, 14, 16, 12, 5, 4]⟩,
  ⟨(some 112), .bin .lss (.t 111) (.c (.int .i64 255)), (some (104, true)), []⟩,
  ⟨(some 113), .pick (.t 104) (.t 112) (.c (.bool false)), none, []⟩]
def f108x30 : List AOper := [
  ⟨(some 4), .mv (.c (.int .i64 1)), none, []⟩]
def f108x31 : List AOper := [
  ⟨(some 4), .mv (.c (.int .i64 0)), none, []⟩]
def f108 : AFunc := ⟨114, 2, false, [.t 4], (.seq (.region f108x0 false) (.seq (.region f108x1 false) (.seq (.seq (.region f108x2 false) (.cond (.t 22) (.seq (.region f108x3 false) .ret) .skip)) (.seq (.seq (.region f108x4 false) (.cond (.t 26) (.seq (.region f108x5 false) .ret) .skip)) (.seq (.seq (.region f108x6 false) (.cond (.t 30) (.seq (.region f108x7 false) .ret) .skip)) (.seq (.seq (.region f108x8 false) (.block 0 (.loop f108x14L))) (.seq (.seq (.region f108x15 false) (.block 2 (.loop f108x20L))) (.seq (.seq (.region f108x21 false) (.cond (.t 71) (.seq (.region f108x22 false) (.block 4 (.loop f108x28L))) .skip)) (.seq (.seq (.region f108x29 true) (.cond (.t 113) (.seq (.region f108x30 false) .ret) .skip)) (.seq (.region f108x31 false) .ret))))))))))⟩
def f108x14LH : List AItem := [.inLoop f108x14L, .inBlock 0, .code (.seq (.seq (.region f108x15 false) (.block 2 (.loop f108x20L))) (.seq (.seq (.region f108x21 false) (.cond (.t 71) (.seq (.region f108x22 false) (.block 4 (.loop f108x28L))) .skip)) (.seq (.seq (.region f108x29 true) (.cond (.t 113) (.seq (.region f108x30 false) .ret) .skip)) (.seq (.region f108x31 false) .ret))))]
def f108x20LH : List AItem := [.inLoop f108x20L, .inBlock 2, .code (.seq (.seq (.region f108x21 false) (.cond (.t 71) (.seq (.region f108x22 false) (.block 4 (.loop f108x28L))) .skip)) (.seq (.seq (.region f108x29 true) (.cond (.t 113) (.seq (.region f108x30 false) .ret) .skip)) (.seq (.region f108x31 false) .ret)))]
def f108x28LH : List AItem := [.inLoop f108x28L, .inBlock 4, .code (.seq (.seq (.region f108x29 true) (.cond (.t 113) (.seq (.region f108x30 false) .ret) .skip)) (.seq (.region f108x31 false) .ret))]

/-- routing/field.Put -/
def f109x0 : List AOper := [
  ⟨(some 6), .mv (.c (.con (.slice none 0 0))), none, []⟩]
def f109x1 : List AOper := [
  ⟨(some 7), .mv (.t 0), none, []⟩,
  ⟨(some 8), .mv (.t 1), none, []⟩,
  ⟨(some 9), .minmax true [(.t 8), (.c (.int .i64 0))], none, []⟩,
  ⟨(some 10), .minmax false [(.t 9), (.c (.int .i64 8))], none, []⟩,
  ⟨(some 11), .mv (.t 2), none, []⟩,
  ⟨(some 12), .call (.c (.fn 120 [])) [(.t 10), (.t 11)], none, []⟩,
  ⟨(some 13), .bsl 1 [.con (.slice none 0 0)] 2 [0, 1] [(.t 7), (.t 12)], none, []⟩,
  ⟨(some 14), .call (.c (.fn 119 [])) [(.t 13)], none, []⟩,
  ⟨(some 6), .mv (.t 14), none, []⟩]
def f109 : AFunc := ⟨15, 3, false, [.t 6], (.seq (.region f109x0 false) (.seq (.region f109x1 false) .ret))⟩

/-- routing/field.Get -/
def f110x0 : List AOper := [
  ⟨(some 6), .mv (.c (.int .u64 0)), none, []⟩,
  ⟨(some 7), .mv (.c (.bool false)), none, []⟩]
def f110x1 : List AOper := [
  ⟨(some 11), .mv (.t 2), none, []⟩,
  ⟨(some 12), .bin .lss (.t 11) (.c (.int .i64 0)), none, []⟩,
  ⟨(some 13), .mv (.t 12), none, []⟩,
  ⟨(some 14), .mv (.t 2), (some (13, false)), []⟩,
  ⟨(some 15), .bin .gtr (.t 14) (.c (.int .i64 8)), (some (13, false)), []⟩,
  ⟨(some 16), .pick (.t 13) (.c (.bool true)) (.t 15), none, []⟩,
  ⟨(some 17), .mv (.t 16), none, []⟩,
  ⟨(some 18), .mv (.t 1), (some (17, false)), []⟩,
  ⟨(some 19), .bin .lss (.t 18) (.c (.int .i64 0)), (some (17, false)), []⟩,
  ⟨(some 20), .pick (.t 17) (.c (.bool true)) (.t 19), none, []⟩,
  ⟨(some 21), .mv (.t 20), none, []⟩,
  ⟨(some 22), .mv (.t 1), (some (21, false)), []⟩,
  ⟨(some 23), .mv (.t 0), (some (21, false)), []⟩,
  ⟨(some 24), .len false (.t 23), (some (21, false)), []⟩,
  ⟨(some 25), .mv (.t 2), (some (21, false)), []⟩,
  ⟨(some 26), .bin .sub (.t 24) (.t 25), (some (21, false)), []⟩,
  ⟨(some 27), .bin .gtr (.t 22) (.t 26), (some (21, false)), []⟩,
  ⟨(some 28), .pick (.t 21) (.c (.bool true)) (.t 27), none, []⟩]
def f110x2 : List AOper := [
  ⟨(some 6), .mv (.c (.int .u64 0)), none, []⟩,
  ⟨(some 7), .mv (.c (.bool false)), none, []⟩]
def f110x3 : List AOper := [
  ⟨(some 8), .mv (.c (.int .u64 0)), none, []⟩]
def f110x4 : List AOper := [
  ⟨(some 29), .mv (.t 0), none, []⟩,
  ⟨(some 30), .mv (.t 1), none, []⟩,
  ⟨(some 31), .mv (.t 1), none, []⟩,
  ⟨(some 32), .mv (.t 2), none, []⟩,
  ⟨(some 33), .bin .add (.t 31) (.t 32), none, []⟩,
  ⟨(some 34), .slc 1 (.t 29) (some (.t 30)) (some (.t 33)) none, none, []⟩,
  ⟨(some 35), .len false (.t 34), none, []⟩,
  ⟨(some 36), .mv (.c (.int .i64 0)), none, []⟩]
def f110x5 : List AOper := [
  ⟨(some 37), .bin .lss (.t 36) (.t 35), none, []⟩]
def f110x6 : List AOper := [
  ⟨(some 38), .iadr 1 (.t 34) (.t 36), none, []⟩,
  ⟨(some 39), .load none (.t 38), none, []⟩,
  ⟨(some 10), .mv (.t 39), none, []⟩]
def f110x7 : List AOper := [
  ⟨(some 40), .mv (.t 8), none, []⟩,
  ⟨(some 41), .bin .shl (.t 40) (.c (.int .u64 8)), none, []⟩,
  ⟨(some 42), .mv (.t 10), none, []⟩,
  ⟨(some 43), .conv .u64 (.t 42), none, []⟩,
  ⟨(some 44), .bin .or (.t 41) (.t 43), none, []⟩,
  ⟨(some 8), .mv (.t 44), none, []⟩]
def f110x8 : List AOper := [
  ⟨(some 45), .bin .add (.t 36) (.c (.int .i64 1)), none, []⟩,
  ⟨(some 36), .mv (.t 45), none, []⟩]
def f110x9L : ACode := (.seq (.region f110x5 false) (.seq (.cond (.t 37) .skip (.exit 0)) (.seq (.block 1 (.seq (.region f110x6 false) (.region f110x7 false))) (.region f110x8 false))))
def f110x10 : List AOper := [
  ⟨(some 46), .mv (.t 8), none, []⟩,
  ⟨(some 6), .mv (.t 46), none, []⟩,
  ⟨(some 7), .mv (.c (.bool true)), none, []⟩]
def f110 : AFunc := ⟨47, 3, false, [.t 6, .t 7], (.seq (.region f110x0 false) (.seq (.seq (.region f110x1 false) (.cond (.t 28) (.seq (.region f110x2 false) .ret) .skip)) (.seq (.region f110x3 false) (.seq (.seq (.region f110x4 false) (.block 0 (.loop f110x9L))) (.seq (.region f110x10 false) .ret)))))⟩
def f110x9LH : List AItem := [.inLoop f110x9L, .inBlock 0, .code (.seq (.region f110x10 false) .ret)]

/-- routing/attrs.readPath -/
def f111x0 : List AOper := [
  ⟨(some 4), .mv (.c (.con (.slice none 0 0))), none, []⟩,
  ⟨(some 5), .mv (.c (.bool false)), none, []⟩]
def f111x1 : List AOper := [
  ⟨(some 6), .mv (.c (.con (.slice none 0 0))), none, []⟩]
def f111x2 : List AOper := [
  ⟨(some 10), .mv (.t 0), none, []⟩,
  ⟨(some 11), .len false (.t 10), none, []⟩,
  ⟨(some 12), .bin .gtr (.t 11) (.c (.int .i64 0)), none, []⟩]
def f111x3 : List AOper := [
  ⟨(some 13), .mv (.t 0), none, []⟩,
  ⟨(some 14), .len false (.t 13), none, []⟩,
  ⟨(some 15), .bin .lss (.t 14) (.c (.int .i64 2)), none, []⟩,
  ⟨(some 16), .mv (.t 15), none, []⟩,
  ⟨(some 17), .mv (.t 0), (some (16, false)), []⟩,
  ⟨(some 18), .iadr 1 (.t 17) (.c (.int .i64 1)), (some (16, false)), []⟩,
  ⟨(some 19), .load none (.t 18), (some (16, false)), []⟩,
  ⟨(some 20), .bin .eql (.t 19) (.c (.int .u8 0)), (some (16, false)), []⟩,
  ⟨(some 21), .pick (.t 16) (.c (.bool true)) (.t 20), none, []⟩,
  ⟨(some 22), .mv (.t 21), none, []⟩,
  ⟨(some 23), .mv (.t 0), (some (22, false)), []⟩,
  ⟨(some 24), .len false (.t 23), (some (22, false)), []⟩,
  ⟨(some 25), .mv (.t 0), (some (22, false)), []⟩,
  ⟨(some 26), .iadr 1 (.t 25) (.c (.int .i64 1)), (some (22, false)), []⟩,
  ⟨(some 27), .load none (.t 26), (some (22, false)), []⟩,
  ⟨(some 28), .conv .i64 (.t 27), (some (22, false)), []⟩,
  ⟨(some 29), .mv (.t 1), (some (22, false)), []⟩,
  ⟨(some 30), .bin .mul (.t 28) (.t 29), (some (22, false)), []⟩,
  ⟨(some 31), .bin .add (.c (.int .i64 2)) (.t 30), (some (22, false)), []⟩,
  ⟨(some 32), .bin .lss (.t 24) (.t 31), (some (22, false)), []⟩,
  ⟨(some 33), .pick (.t 22) (.c (.bool true)) (.t 32), none, []⟩]
def f111x4 : List AOper := [
  ⟨(some 4), .mv (.c (.con (.slice none 0 0))), none, []⟩,
  ⟨(some 5), .mv (.c (.bool false)), none, []⟩]
def f111x5 : List AOper := [
  ⟨(some 34), .mv (.t 0), none, []⟩,
  ⟨(some 35), .iadr 1 (.t 34) (.c (.int .i64 0)), none, []⟩,
  ⟨(some 36), .load none (.t 35), none, []⟩,
  ⟨(some 37), .conv .i64 (.t 36), none, []⟩,
  ⟨(some 38), .build [.int .i64 0, .con (.slice none 0 0)] [(0, 1)] [(.t 37)], none, []⟩,
  ⟨(some 7), .alloc (.agg [.int .i64 0, .con (.slice none 0 0)]), none, []⟩,
  ⟨none, .store 2 (.t 7) (.t 38), none, []⟩]
def f111x6 : List AOper := [
  ⟨(some 39), .mv (.t 0), none, []⟩,
  ⟨(some 40), .iadr 1 (.t 39) (.c (.int .i64 1)), none, []⟩,
  ⟨(some 41), .load none (.t 40), none, []⟩,
  ⟨(some 42), .conv .i64 (.t 41), none, []⟩,
  ⟨(some 8), .mv (.t 42), none, []⟩]
def f111x7 : List AOper := [
  ⟨(some 43), .mv (.t 8), none, []⟩,
  ⟨(some 44), .mv (.c (.int .i64 0)), none, []⟩]
def f111x8 : List AOper := [
  ⟨(some 45), .bin .lss (.t 44) (.t 43), none, []⟩]
def f111x9 : List AOper := [
  ⟨(some 46), .mv (.t 44), none, []⟩,
  ⟨(some 9), .mv (.t 46), none, []⟩]
def f111x10 : List AOper := [
  ⟨(some 47), .fadr 1 (.t 7), none, []⟩,
  ⟨(some 48), .load none (.t 47), none, []⟩,
  ⟨(some 49), .mv (.t 0), none, []⟩,
  ⟨(some 50), .mv (.t 9), none, []⟩,
  ⟨(some 51), .mv (.t 1), none, []⟩,
  ⟨(some 52), .bin .mul (.t 50) (.t 51), none, []⟩,
  ⟨(some 53), .bin .add (.c (.int .i64 2)) (.t 52), none, []⟩,
  ⟨(some 54), .mv (.t 1), none, []⟩,
  ⟨(some 55), .call (.c (.fn 93 [])) [(.t 49), (.t 53), (.t 54)], none, []⟩,
  ⟨(some 56), .bsl 1 [.int .i64 0] 1 [0] [(.t 55)], none, [8]⟩,
  ⟨(some 57), .app 1 8 (.t 48) (.t 56), none, [1, 9, 8]⟩,
  ⟨(some 58), .fadr 1 (.t 7), none, []⟩,
  ⟨none, .store 1 (.t 58) (.t 57), none, [10, 1, 9, 8]⟩]
def f111x11 : List AOper := [
  ⟨(some 59), .bin .add (.t 44) (.c (.int .i64 1)), none, []⟩,
  ⟨(some 44), .mv (.t 59), none, []⟩]
def f111x12L : ACode := (.seq (.region f111x8 false) (.seq (.cond (.t 45) .skip (.exit 2)) (.seq (.block 3 (.seq (.region f111x9 false) (.region f111x10 true))) (.region f111x11 false))))
def f111x13 : List AOper := [
  ⟨(some 60), .mv (.t 6), none, []⟩,
  ⟨(some 61), .load (some 2) (.t 7), none, []⟩,
  ⟨(some 62), .bsl 2 [.int .i64 0, .con (.slice none 0 0)] 1 [0] [(.t 61)], none, []⟩,
  ⟨(some 63), .app 2 32 (.t 60) (.t 62), none, []⟩,
  ⟨(some 6), .mv (.t 63), none, []⟩]
def f111x14 : List AOper := [
  ⟨(some 64), .mv (.t 0), none, []⟩,
  ⟨(some 65), .mv (.t 8), none, []⟩,
  ⟨(some 66), .mv (.t 1), none, []⟩,
  ⟨(some 67), .bin .mul (.t 65) (.t 66), none, []⟩,
  ⟨(some 68), .bin .add (.c (.int .i64 2)) (.t 67), none, []⟩,
  ⟨(some 69), .slc 1 (.t 64) (some (.t 68)) none none, none, []⟩,
  ⟨(some 0), .mv (.t 69), none, []⟩]
def f111x15L : ACode := (.seq (.seq (.region f111x2 false) (.cond (.t 12) .skip (.exit 0))) (.block 1 (.seq (.seq (.region f111x3 false) (.cond (.t 33) (.seq (.region f111x4 false) .ret) .skip)) (.seq (.region f111x5 false) (.seq (.region f111x6 false) (.seq (.seq (.region f111x7 false) (.block 2 (.loop f111x12L))) (.seq (.region f111x13 false) (.region f111x14 false))))))))
def f111x16 : List AOper := [
  ⟨(some 70), .mv (.t 6), none, []⟩,
  ⟨(some 4), .mv (.t 70), none, []⟩,
  ⟨(some 5), .mv (.c (.bool true)), none, []⟩]
def f111 : AFunc := ⟨71, 2, false, [.t 4, .t 5], (.seq (.region f111x0 false) (.seq (.region f111x1 false) (.seq (.block 0 (.loop f111x15L)) (.seq (.region f111x16 false) .ret))))⟩
def f111x15LH : List AItem := [.inLoop f111x15L, .inBlock 0, .code (.seq (.region f111x16 false) .ret)]
def f111x12LH : List AItem := [.inLoop f111x12L, .inBlock 2, .code (.seq (.region f111x13 false) (.region f111x14 false)), .inBlock 1, .inLoop f111x15L, .inBlock 0, .code (.seq (.region f111x16 false) .ret)]

/-- routing/attrs.readWords -/
def f112x0 : List AOper := [
  ⟨(some 2), .mv (.c (.con (.slice none 0 0))), none, []⟩,
  ⟨(some 3), .mv (.c (.bool false)), none, []⟩]
def f112x1 : List AOper := [
  ⟨(some 4), .mv (.c (.con (.slice none 0 0))), none, []⟩]
def f112x2 : List AOper := [
  ⟨(some 5), .mv (.c (.int .i64 0)), none, []⟩]
def f112x3 : List AOper := [
  ⟨(some 6), .mv (.t 5), none, []⟩,
  ⟨(some 7), .bin .add (.t 6) (.c (.int .i64 4)), none, []⟩,
  ⟨(some 8), .mv (.t 0), none, []⟩,
  ⟨(some 9), .len false (.t 8), none, []⟩,
  ⟨(some 10), .bin .leq (.t 7) (.t 9), none, []⟩]
def f112x4 : List AOper := [
  ⟨(some 13), .mv (.t 4), none, []⟩,
  ⟨(some 14), .mv (.t 0), none, []⟩,
  ⟨(some 15), .mv (.t 5), none, []⟩,
  ⟨(some 16), .call (.c (.fn 93 [])) [(.t 14), (.t 15), (.c (.int .i64 4))], none, []⟩,
  ⟨(some 17), .conv .u32 (.t 16), none, []⟩,
  ⟨(some 18), .bsl 1 [.int .u32 0] 1 [0] [(.t 17)], none, []⟩,
  ⟨(some 19), .app 1 4 (.t 13) (.t 18), none, []⟩,
  ⟨(some 4), .mv (.t 19), none, []⟩]
def f112x5 : List AOper := [
  ⟨(some 11), .mv (.t 5), none, []⟩,
  ⟨(some 12), .bin .add (.t 11) (.c (.int .i64 4)), none, []⟩,
  ⟨(some 5), .mv (.t 12), none, []⟩]
def f112x6L : ACode := (.seq (.seq (.region f112x3 false) (.cond (.t 10) .skip (.exit 0))) (.seq (.block 1 (.region f112x4 false)) (.region f112x5 false)))
def f112x7 : List AOper := [
  ⟨(some 20), .mv (.t 4), none, []⟩,
  ⟨(some 21), .mv (.t 0), none, []⟩,
  ⟨(some 22), .len false (.t 21), none, []⟩,
  ⟨(some 23), .bin .gtr (.t 22) (.c (.int .i64 0)), none, []⟩,
  ⟨(some 24), .mv (.t 23), none, []⟩,
  ⟨(some 25), .mv (.t 0), (some (24, true)), []⟩,
  ⟨(some 26), .len false (.t 25), (some (24, true)), []⟩,
  ⟨(some 27), .bin .rem (.t 26) (.c (.int .i64 4)), (some (24, true)), []⟩,
  ⟨(some 28), .bin .eql (.t 27) (.c (.int .i64 0)), (some (24, true)), []⟩,
  ⟨(some 29), .pick (.t 24) (.t 28) (.c (.bool false)), none, []⟩,
  ⟨(some 2), .mv (.t 20), none, []⟩,
  ⟨(some 3), .mv (.t 29), none, []⟩]
def f112 : AFunc := ⟨30, 1, false, [.t 2, .t 3], (.seq (.region f112x0 false) (.seq (.region f112x1 false) (.seq (.seq (.region f112x2 false) (.block 0 (.loop f112x6L))) (.seq (.region f112x7 false) .ret))))⟩
def f112x6LH : List AItem := [.inLoop f112x6L, .inBlock 0, .code (.seq (.region f112x7 false) .ret)]

/-- routing/routingref03.Get -/
def f113x0 : List AOper := [
  ⟨(some 6), .mv (.c (.int .u64 0)), none, []⟩,
  ⟨(some 7), .mv (.c (.bool false)), none, []⟩]
def f113x1 : List AOper := [
  ⟨(some 11), .mv (.t 2), none, []⟩,
  ⟨(some 12), .bin .lss (.t 11) (.c (.int .i64 0)), none, []⟩,
  ⟨(some 13), .mv (.t 12), none, []⟩,
  ⟨(some 14), .mv (.t 2), (some (13, false)), []⟩,
  ⟨(some 15), .bin .gtr (.t 14) (.c (.int .i64 8)), (some (13, false)), []⟩,
  ⟨(some 16), .pick (.t 13) (.c (.bool true)) (.t 15), none, []⟩,
  ⟨(some 17), .mv (.t 16), none, []⟩,
  ⟨(some 18), .mv (.t 1), (some (17, false)), []⟩,
  ⟨(some 19), .bin .lss (.t 18) (.c (.int .i64 0)), (some (17, false)), []⟩,
  ⟨(some 20), .pick (.t 17) (.c (.bool true)) (.t 19), none, []⟩,
  ⟨(some 21), .mv (.t 20), none, []⟩,
  ⟨(some 22), .mv (.t 1), (some (21, false)), []⟩,
  ⟨(some 23), .mv (.t 0), (some (21, false)), []⟩,
  ⟨(some 24), .len false (.t 23), (some (21, false)), []⟩,
  ⟨(some 25), .mv (.t 2), (some (21, false)), []⟩,
  ⟨(some 26), .bin .sub (.t 24) (.t 25), (some (21, false)), []⟩,
  ⟨(some 27), .bin .gtr (.t 22) (.t 26), (some (21, false)), []⟩,
  ⟨(some 28), .pick (.t 21) (.c (.bool true)) (.t 27), none, []⟩]
def f113x2 : List AOper := [
  ⟨(some 6), .mv (.c (.int .u64 0)), none, []⟩,
  ⟨(some 7), .mv (.c (.bool false)), none, []⟩]
def f113x3 : List AOper := [
  ⟨(some 8), .mv (.c (.int .u64 0)), none, []⟩]
def f113x4 : List AOper := [
  ⟨(some 29), .mv (.t 0), none, []⟩,
  ⟨(some 30), .mv (.t 1), none, []⟩,
  ⟨(some 31), .mv (.t 1), none, []⟩,
  ⟨(some 32), .mv (.t 2), none, []⟩,
  ⟨(some 33), .bin .add (.t 31) (.t 32), none, []⟩,
  ⟨(some 34), .slc 1 (.t 29) (some (.t 30)) (some (.t 33)) none, none, []⟩,
  ⟨(some 35), .len false (.t 34), none, []⟩,
  ⟨(some 36), .mv (.c (.int .i64 0)), none, []⟩]
def f113x5 : List AOper := [
  ⟨(some 37), .bin .lss (.t 36) (.t 35), none, []⟩]
def f113x6 : List AOper := [
  ⟨(some 38), .iadr 1 (.t 34) (.t 36), none, []⟩,
  ⟨(some 39), .load none (.t 38), none, []⟩,
  ⟨(some 10), .mv (.t 39), none, []⟩]
def f113x7 : List AOper := [
  ⟨(some 40), .mv (.t 8), none, []⟩,
  ⟨(some 41), .bin .mul (.t 40) (.c (.int .u64 256)), none, []⟩,
  ⟨(some 42), .mv (.t 10), none, []⟩,
  ⟨(some 43), .conv .u64 (.t 42), none, []⟩,
  ⟨(some 44), .bin .add (.t 41) (.t 43), none, []⟩,
  ⟨(some 8), .mv (.t 44), none, []⟩]
def f113x8 : List AOper := [
  ⟨(some 45), .bin .add (.t 36) (.c (.int .i64 1)), none, []⟩,
  ⟨(some 36), .mv (.t 45), none, []⟩]
def f113x9L : ACode := (.seq (.region f113x5 false) (.seq (.cond (.t 37) .skip (.exit 0)) (.seq (.block 1 (.seq (.region f113x6 false) (.region f113x7 false))) (.region f113x8 false))))
def f113x10 : List AOper := [
  ⟨(some 46), .mv (.t 8), none, []⟩,
  ⟨(some 6), .mv (.t 46), none, []⟩,
  ⟨(some 7), .mv (.c (.bool true)), none, []⟩]
def f113 : AFunc := ⟨47, 3, false, [.t 6, .t 7], (.seq (.region f113x0 false) (.seq (.seq (.region f113x1 false) (.cond (.t 28) (.seq (.region f113x2 false) .ret) .skip)) (.seq (.region f113x3 false) (.seq (.seq (.region f113x4 false) (.block 0 (.loop f113x9L))) (.seq (.region f113x10 false) .ret)))))⟩
def f113x9LH : List AItem := [.inLoop f113x9L, .inBlock 0, .code (.seq (.region f113x10 false) .ret)]

/-- routing/routingref36.segments -/
def f114x0 : List AOper := [
  ⟨(some 4), .mv (.c (.con (.slice none 0 0))), none, []⟩,
  ⟨(some 5), .mv (.c (.bool false)), none, []⟩]
def f114x1 : List AOper := [
  ⟨(some 6), .mv (.c (.con (.slice none 0 0))), none, []⟩]
def f114x2 : List AOper := [
  ⟨(some 7), .mv (.c (.int .i64 0)), none, []⟩]
def f114x3 : List AOper := [
  ⟨(some 11), .mv (.t 7), none, []⟩,
  ⟨(some 12), .mv (.t 0), none, []⟩,
  ⟨(some 13), .len false (.t 12), none, []⟩,
  ⟨(some 14), .bin .lss (.t 11) (.t 13), none, []⟩]
def f114x4 : List AOper := [
  ⟨(some 15), .mv (.t 7), none, []⟩,
  ⟨(some 16), .bin .add (.t 15) (.c (.int .i64 2)), none, []⟩,
  ⟨(some 17), .mv (.t 0), none, []⟩,
  ⟨(some 18), .len false (.t 17), none, []⟩,
  ⟨(some 19), .bin .gtr (.t 16) (.t 18), none, []⟩]
def f114x5 : List AOper := [
  ⟨(some 4), .mv (.c (.con (.slice none 0 0))), none, []⟩,
  ⟨(some 5), .mv (.c (.bool false)), none, []⟩]
def f114x6 : List AOper := [
  ⟨(some 20), .mv (.t 0), none, []⟩,
  ⟨(some 21), .mv (.t 7), none, []⟩,
  ⟨(some 22), .iadr 1 (.t 20) (.t 21), none, []⟩,
  ⟨(some 23), .load none (.t 22), none, []⟩,
  ⟨(some 24), .conv .i64 (.t 23), none, []⟩,
  ⟨(some 25), .build [.int .i64 0, .con (.slice none 0 0)] [(0, 1)] [(.t 24)], none, []⟩,
  ⟨(some 8), .alloc (.agg [.int .i64 0, .con (.slice none 0 0)]), none, []⟩,
  ⟨none, .store 2 (.t 8) (.t 25), none, []⟩]
def f114x7 : List AOper := [
  ⟨(some 26), .mv (.t 0), none, []⟩,
  ⟨(some 27), .mv (.t 7), none, []⟩,
  ⟨(some 28), .bin .add (.t 27) (.c (.int .i64 1)), none, []⟩,
  ⟨(some 29), .iadr 1 (.t 26) (.t 28), none, []⟩,
  ⟨(some 30), .load none (.t 29), none, [3]⟩,
  ⟨(some 31), .conv .i64 (.t 30), none, []⟩,
  ⟨(some 32), .mv (.t 1), none, []⟩,
  ⟨(some 33), .call (.c (.fn 92 [])) [(.t 32)], none, []⟩,
  ⟨(some 9), .mv (.t 31), none, []⟩,
  ⟨(some 10), .mv (.t 33), none, []⟩]
def f114x8 : List AOper := [
  ⟨(some 34), .mv (.t 7), none, []⟩,
  ⟨(some 35), .bin .add (.t 34) (.c (.int .i64 2)), none, []⟩,
  ⟨(some 7), .mv (.t 35), none, []⟩]
def f114x9 : List AOper := [
  ⟨(some 36), .mv (.t 9), none, []⟩,
  ⟨(some 37), .bin .eql (.t 36) (.c (.int .i64 0)), none, []⟩,
  ⟨(some 38), .mv (.t 37), none, []⟩,
  ⟨(some 39), .mv (.t 7), (some (38, false)), []⟩,
  ⟨(some 40), .mv (.t 9), (some (38, false)), []⟩,
  ⟨(some 41), .mv (.t 10), (some (38, false)), []⟩,
  ⟨(some 42), .bin .mul (.t 40) (.t 41), (some (38, false)), []⟩,
  ⟨(some 43), .bin .add (.t 39) (.t 42), (some (38, false)), []⟩,
  ⟨(some 44), .mv (.t 0), (some (38, false)), []⟩,
  ⟨(some 45), .len false (.t 44), (some (38, false)), []⟩,
  ⟨(some 46), .bin .gtr (.t 43) (.t 45), (some (38, false)), []⟩,
  ⟨(some 47), .pick (.t 38) (.c (.bool true)) (.t 46), none, []⟩]
def f114x10 : List AOper := [
  ⟨(some 4), .mv (.c (.con (.slice none 0 0))), none, []⟩,
  ⟨(some 5), .mv (.c (.bool false)), none, []⟩]
def f114x11 : List AOper := [
  ⟨(some 48), .mv (.t 9), none, []⟩,
  ⟨(some 49), .mv (.c (.int .i64 0)), none, []⟩]
def f114x12 : List AOper := [
  ⟨(some 50), .bin .lss (.t 49) (.t 48), none, []⟩]
def f114x13 : List AOper := [
  ⟨(some 51), .fadr 1 (.t 8), none, []⟩,
  ⟨(some 52), .load none (.t 51), none, []⟩,
  ⟨(some 53), .mv (.t 0), none, []⟩,
  ⟨(some 54), .mv (.t 7), none, []⟩,
  ⟨(some 55), .mv (.t 10), none, []⟩,
  ⟨(some 56), .call (.c (.fn 100 [])) [(.t 53), (.t 54), (.t 55)], none, []⟩,
  ⟨(some 57), .bsl 1 [.int .i64 0] 1 [0] [(.t 56)], none, [5]⟩,
  ⟨(some 58), .app 1 8 (.t 52) (.t 57), none, [1, 6, 5]⟩,
  ⟨(some 59), .fadr 1 (.t 8), none, []⟩,
  ⟨none, .store 1 (.t 59) (.t 58), none, [7, 1, 6, 5]⟩]
def f114x14 : List AOper := [
  ⟨(some 60), .mv (.t 7), none, []⟩,
  ⟨(some 61), .mv (.t 10), none, []⟩,
  ⟨(some 62), .bin .add (.t 60) (.t 61), none, []⟩,
  ⟨(some 7), .mv (.t 62), none, []⟩]
def f114x15 : List AOper := [
  ⟨(some 63), .bin .add (.t 49) (.c (.int .i64 1)), none, []⟩,
  ⟨(some 49), .mv (.t 63), none, []⟩]
def f114x16L : ACode := (.seq (.region f114x12 false) (.seq (.cond (.t 50) .skip (.exit 2)) (.seq (.block 3 (.seq (.region f114x13 true) (.region f114x14 false))) (.region f114x15 false))))
def f114x17 : List AOper := [
  ⟨(some 64), .mv (.t 6), none, []⟩,
  ⟨(some 65), .load (some 2) (.t 8), none, []⟩,
  ⟨(some 66), .bsl 2 [.int .i64 0, .con (.slice none 0 0)] 1 [0] [(.t 65)], none, []⟩,
  ⟨(some 67), .app 2 32 (.t 64) (.t 66), none, []⟩,
  ⟨(some 6), .mv (.t 67), none, []⟩]
def f114x18L : ACode := (.seq (.seq (.region f114x3 false) (.cond (.t 14) .skip (.exit 0))) (.block 1 (.seq (.seq (.region f114x4 false) (.cond (.t 19) (.seq (.region f114x5 false) .ret) .skip)) (.seq (.region f114x6 false) (.seq (.region f114x7 true) (.seq (.region f114x8 false) (.seq (.seq (.region f114x9 false) (.cond (.t 47) (.seq (.region f114x10 false) .ret) .skip)) (.seq (.seq (.region f114x11 false) (.block 2 (.loop f114x16L))) (.region f114x17 false)))))))))
def f114x19 : List AOper := [
  ⟨(some 68), .mv (.t 6), none, []⟩,
  ⟨(some 4), .mv (.t 68), none, []⟩,
  ⟨(some 5), .mv (.c (.bool true)), none, []⟩]
def f114 : AFunc := ⟨69, 2, false, [.t 4, .t 5], (.seq (.region f114x0 false) (.seq (.region f114x1 false) (.seq (.seq (.region f114x2 false) (.block 0 (.loop f114x18L))) (.seq (.region f114x19 false) .ret))))⟩
def f114x18LH : List AItem := [.inLoop f114x18L, .inBlock 0, .code (.seq (.region f114x19 false) .ret)]
def f114x16LH : List AItem := [.inLoop f114x16L, .inBlock 2, .code (.region f114x17 false), .inBlock 1, .inLoop f114x18L, .inBlock 0, .code (.seq (.region f114x19 false) .ret)]

/-- routing/routingref36.words -/
def f115x0 : List AOper := [
  ⟨(some 2), .mv (.c (.con (.slice none 0 0))), none, []⟩,
  ⟨(some 3), .mv (.c (.bool false)), none, []⟩]
def f115x1 : List AOper := [
  ⟨(some 4), .mv (.c (.con (.slice none 0 0))), none, []⟩]
def f115x2 : List AOper := [
  ⟨(some 5), .mv (.c (.int .i64 0)), none, []⟩]
def f115x3 : List AOper := [
  ⟨(some 6), .mv (.t 5), none, []⟩,
  ⟨(some 7), .bin .add (.t 6) (.c (.int .i64 4)), none, []⟩,
  ⟨(some 8), .mv (.t 0), none, []⟩,
  ⟨(some 9), .len false (.t 8), none, []⟩,
  ⟨(some 10), .bin .leq (.t 7) (.t 9), none, []⟩]
def f115x4 : List AOper := [
  ⟨(some 13), .mv (.t 4), none, []⟩,
  ⟨(some 14), .mv (.t 0), none, []⟩,
  ⟨(some 15), .mv (.t 5), none, []⟩,
  ⟨(some 16), .call (.c (.fn 100 [])) [(.t 14), (.t 15), (.c (.int .i64 4))], none, []⟩,
  ⟨(some 17), .conv .u32 (.t 16), none, []⟩,
  ⟨(some 18), .bsl 1 [.int .u32 0] 1 [0] [(.t 17)], none, []⟩,
  ⟨(some 19), .app 1 4 (.t 13) (.t 18), none, []⟩,
  ⟨(some 4), .mv (.t 19), none, []⟩]
def f115x5 : List AOper := [
  ⟨(some 11), .mv (.t 5), none, []⟩,
  ⟨(some 12), .bin .add (.t 11) (.c (.int .i64 4)), none, []⟩,
  ⟨(some 5), .mv (.t 12), none, []⟩]
def f115x6L : ACode := (.seq (.seq (.region f115x3 false) (.cond (.t 10) .skip (.exit 0))) (.seq (.block 1 (.region f115x4 false)) (.region f115x5 false)))
def f115x7 : List AOper := [
  ⟨(some 20), .mv (.t 4), none, []⟩,
  ⟨(some 21), .mv (.t 0), none, []⟩,
  ⟨(some 22), .len false (.t 21), none, []⟩,
  ⟨(some 23), .bin .gtr (.t 22) (.c (.int .i64 0)), none, []⟩,
  ⟨(some 24), .mv (.t 23), none, []⟩,
  ⟨(some 25), .mv (.t 0), (some (24, true)), []⟩,
  ⟨(some 26), .len false (.t 25), (some (24, true)), []⟩,
  ⟨(some 27), .bin .rem (.t 26) (.c (.int .i64 4)), (some (24, true)), []⟩,
  ⟨(some 28), .bin .eql (.t 27) (.c (.int .i64 0)), (some (24, true)), []⟩,
  ⟨(some 29), .pick (.t 24) (.t 28) (.c (.bool false)), none, []⟩,
  ⟨(some 2), .mv (.t 20), none, []⟩,
  ⟨(some 3), .mv (.t 29), none, []⟩]
def f115 : AFunc := ⟨30, 1, false, [.t 2, .t 3], (.seq (.region f115x0 false) (.seq (.region f115x1 false) (.seq (.seq (.region f115x2 false) (.block 0 (.loop f115x6L))) (.seq (.region f115x7 false) .ret))))⟩
def f115x6LH : List AItem := [.inLoop f115x6L, .inBlock 0, .code (.seq (.region f115x7 false) .ret)]

/-- routing/routingref36.single -/
def f116x0 : List AOper := [
  ⟨(some 3), .box (.t 0), none, []⟩,
  ⟨(some 6), .alloc (.agg [.int .i64 0, .con (.slice none 0 0), .int .u32 0, .bool false, .int .i64 0, .bool false, .int .i64 0, .bool false, .bool false, .int .i64 0, .int .u32 0, .con (.slice none 0 0), .bool false, .int .u32 0, .con (.slice none 0 0), .con (.slice none 0 0)]), none, []⟩]
def f116x1 : List AOper := [
  ⟨(some 7), .mv (.t 1), none, []⟩]
def f116x2 : List AOper := [
  ⟨(some 13), .bin .eql (.t 7) (.c (.int .i64 3)), none, []⟩,
  ⟨(some 12), .mv (.t 13), none, []⟩]
def f116x3 : List AOper := [
  ⟨(some 14), .mv (.t 2), none, []⟩,
  ⟨(some 15), .conv .u32 (.t 14), none, []⟩,
  ⟨(some 16), .fadr 2 (.t 3), none, []⟩,
  ⟨none, .store 1 (.t 16) (.t 15), none, []⟩]
def f116x4 : List AOper := [
  ⟨(some 18), .bin .eql (.t 7) (.c (.int .i64 4)), none, []⟩,
  ⟨(some 17), .mv (.t 18), none, []⟩]
def f116x5 : List AOper := [
  ⟨(some 19), .fadr 3 (.t 3), none, []⟩,
  ⟨none, .store 1 (.t 19) (.c (.bool true)), none, []⟩]
def f116x6 : List AOper := [
  ⟨(some 20), .mv (.t 2), none, []⟩,
  ⟨(some 21), .fadr 4 (.t 3), none, []⟩,
  ⟨none, .store 1 (.t 21) (.t 20), none, []⟩]
def f116x7 : List AOper := [
  ⟨(some 23), .bin .eql (.t 7) (.c (.int .i64 5)), none, []⟩,
  ⟨(some 22), .mv (.t 23), none, []⟩]
def f116x8 : List AOper := [
  ⟨(some 24), .fadr 5 (.t 3), none, []⟩,
  ⟨none, .store 1 (.t 24) (.c (.bool true)), none, []⟩]
def f116x9 : List AOper := [
  ⟨(some 25), .mv (.t 2), none, []⟩,
  ⟨(some 26), .fadr 6 (.t 3), none, []⟩,
  ⟨none, .store 1 (.t 26) (.t 25), none, []⟩]
def f116x10 : List AOper := [
  ⟨(some 8), .fadr 12 (.t 3), none, []⟩,
  ⟨none, .store 1 (.t 8) (.c (.bool true)), none, []⟩]
def f116x11 : List AOper := [
  ⟨(some 9), .mv (.t 2), none, []⟩,
  ⟨(some 10), .conv .u32 (.t 9), none, []⟩,
  ⟨(some 11), .fadr 13 (.t 3), none, []⟩,
  ⟨none, .store 1 (.t 11) (.t 10), none, []⟩]
def f116x12 : List AOper := [
  ⟨(some 27), .load (some 16) (.t 3), none, []⟩,
  ⟨none, .store 16 (.t 6) (.t 27), none, []⟩]
def f116 : AFunc := ⟨28, 3, true, [.cell 6 (some 16)], (.seq (.region f116x0 false) (.seq (.seq (.region f116x1 false) (.block 0 (.seq (.region f116x2 false) (.cond (.t 12) (.region f116x3 false) (.seq (.region f116x4 false) (.cond (.t 17) (.seq (.region f116x5 false) (.region f116x6 false)) (.seq (.region f116x7 false) (.cond (.t 22) (.seq (.region f116x8 false) (.region f116x9 false)) (.seq (.region f116x10 false) (.region f116x11 false)))))))))) (.seq (.region f116x12 false) .ret)))⟩

/-- routing/routingref17.isSet -/
def f117x0 : List AOper := [
  ⟨(some 2), .mv (.c (.bool false)), none, []⟩]
def f117x1 : List AOper := [
  ⟨(some 3), .mv (.t 0), none, []⟩,
  ⟨(some 4), .bin .eql (.t 3) (.c (.int .i64 1)), none, []⟩,
  ⟨(some 5), .mv (.t 4), none, []⟩,
  ⟨(some 6), .mv (.t 0), (some (5, false)), []⟩,
  ⟨(some 7), .bin .eql (.t 6) (.c (.int .i64 4)), (some (5, false)), []⟩,
  ⟨(some 8), .pick (.t 5) (.c (.bool true)) (.t 7), none, []⟩,
  ⟨(some 2), .mv (.t 8), none, []⟩]
def f117 : AFunc := ⟨9, 1, false, [.t 2], (.seq (.region f117x0 false) (.seq (.region f117x1 false) .ret))⟩

/-- routing/routingref17.isConf -/
def f118x0 : List AOper := [
  ⟨(some 2), .mv (.c (.bool false)), none, []⟩]
def f118x1 : List AOper := [
  ⟨(some 3), .mv (.t 0), none, []⟩,
  ⟨(some 4), .bin .eql (.t 3) (.c (.int .i64 3)), none, []⟩,
  ⟨(some 5), .mv (.t 4), none, []⟩,
  ⟨(some 6), .mv (.t 0), (some (5, false)), []⟩,
  ⟨(some 7), .bin .eql (.t 6) (.c (.int .i64 4)), (some (5, false)), []⟩,
  ⟨(some 8), .pick (.t 5) (.c (.bool true)) (.t 7), none, []⟩,
  ⟨(some 2), .mv (.t 8), none, []⟩]
def f118 : AFunc := ⟨9, 1, false, [.t 2], (.seq (.region f118x0 false) (.seq (.region f118x1 false) .ret))⟩

/-- routing/field.join -/
def f119x0 : List AOper := [
  ⟨(some 2), .mv (.c (.con (.slice none 0 0))), none, []⟩]
def f119x1 : List AOper := [
  ⟨(some 3), .mv (.c (.int .i64 0)), none, []⟩]
def f119x2 : List AOper := [
  ⟨(some 9), .mv (.t 0), none, []⟩,
  ⟨(some 10), .len false (.t 9), none, []⟩,
  ⟨(some 11), .mv (.c (.int .i64 0)), none, []⟩]
def f119x3 : List AOper := [
  ⟨(some 12), .bin .lss (.t 11) (.t 10), none, []⟩]
def f119x4 : List AOper := [
  ⟨(some 13), .iadr 1 (.t 9) (.t 11), none, []⟩,
  ⟨(some 14), .load none (.t 13), none, []⟩,
  ⟨(some 5), .mv (.t 14), none, []⟩]
def f119x5 : List AOper := [
  ⟨(some 15), .mv (.t 3), none, []⟩,
  ⟨(some 16), .mv (.t 5), none, []⟩,
  ⟨(some 17), .len false (.t 16), none, []⟩,
  ⟨(some 18), .bin .add (.t 15) (.t 17), none, []⟩,
  ⟨(some 3), .mv (.t 18), none, []⟩]
def f119x6 : List AOper := [
  ⟨(some 19), .bin .add (.t 11) (.c (.int .i64 1)), none, []⟩,
  ⟨(some 11), .mv (.t 19), none, []⟩]
def f119x7L : ACode := (.seq (.region f119x3 false) (.seq (.cond (.t 12) .skip (.exit 0)) (.seq (.block 1 (.seq (.region f119x4 false) (.region f119x5 false))) (.region f119x6 false))))
def f119x8 : List AOper := [
  ⟨(some 20), .mv (.t 3), none, []⟩,
  ⟨(some 21), .mksl 1 1 [.int .u8 0] (.c (.int .i64 0)) (.t 20), none, []⟩,
  ⟨(some 6), .mv (.t 21), none, []⟩]
def f119x9 : List AOper := [
  ⟨(some 22), .mv (.t 0), none, []⟩,
  ⟨(some 23), .len false (.t 22), none, []⟩,
  ⟨(some 24), .mv (.c (.int .i64 0)), none, []⟩]
def f119x10 : List AOper := [
  ⟨(some 25), .bin .lss (.t 24) (.t 23), none, []⟩]
def f119x11 : List AOper := [
  ⟨(some 26), .iadr 1 (.t 22) (.t 24), none, []⟩,
  ⟨(some 27), .load none (.t 26), none, []⟩,
  ⟨(some 8), .mv (.t 27), none, []⟩]
def f119x12 : List AOper := [
  ⟨(some 28), .mv (.t 6), none, []⟩,
  ⟨(some 29), .mv (.t 8), none, []⟩,
  ⟨(some 30), .app 1 1 (.t 28) (.t 29), none, []⟩,
  ⟨(some 6), .mv (.t 30), none, []⟩]
def f119x13 : List AOper := [
  ⟨(some 31), .bin .add (.t 24) (.c (.int .i64 1)), none, []⟩,
  ⟨(some 24), .mv (.t 31), none, []⟩]
def f119x14L : ACode := (.seq (.region f119x10 false) (.seq (.cond (.t 25) .skip (.exit 2)) (.seq (.block 3 (.seq (.region f119x11 false) (.region f119x12 false))) (.region f119x13 false))))
def f119x15 : List AOper := [
  ⟨(some 32), .mv (.t 6), none, []⟩,
  ⟨(some 2), .mv (.t 32), none, []⟩]
def f119 : AFunc := ⟨33, 1, false, [.t 2], (.seq (.region f119x0 false) (.seq (.region f119x1 false) (.seq (.seq (.region f119x2 false) (.block 0 (.loop f119x7L))) (.seq (.region f119x8 false) (.seq (.seq (.region f119x9 false) (.block 2 (.loop f119x14L))) (.seq (.region f119x15 false) .ret))))))⟩
def f119x7LH : List AItem := [.inLoop f119x7L, .inBlock 0, .code (.seq (.region f119x8 false) (.seq (.seq (.region f119x9 false) (.block 2 (.loop f119x14L))) (.seq (.region f119x15 false) .ret)))]
def f119x14LH : List AItem := [.inLoop f119x14L, .inBlock 2, .code (.seq (.region f119x15 false) .ret)]

/-- routing/field.number -/
def f120x0 : List AOper := [
  ⟨(some 4), .mv (.c (.con (.slice none 0 0))), none, []⟩]
def f120x1 : List AOper := [
  ⟨(some 5), .mv (.c (.con (.slice none 0 0))), none, []⟩]
def f120x2 : List AOper := [
  ⟨(some 7), .mv (.t 0), none, []⟩,
  ⟨(some 8), .bin .sub (.t 7) (.c (.int .i64 1)), none, []⟩,
  ⟨(some 6), .mv (.t 8), none, []⟩]
def f120x3 : List AOper := [
  ⟨(some 9), .mv (.t 6), none, []⟩,
  ⟨(some 10), .bin .geq (.t 9) (.c (.int .i64 0)), none, []⟩]
def f120x4 : List AOper := [
  ⟨(some 13), .mv (.t 5), none, []⟩,
  ⟨(some 14), .mv (.t 1), none, []⟩,
  ⟨(some 15), .mv (.t 6), none, []⟩,
  ⟨(some 16), .bin .mul (.c (.int .i64 8)) (.t 15), none, []⟩,
  ⟨(some 17), .bin .shr (.t 14) (.t 16), none, []⟩,
  ⟨(some 18), .conv .u8 (.t 17), none, []⟩,
  ⟨(some 19), .bsl 1 [.int .u8 0] 1 [0] [(.t 18)], none, []⟩,
  ⟨(some 20), .app 1 1 (.t 13) (.t 19), none, []⟩,
  ⟨(some 5), .mv (.t 20), none, []⟩]
def f120x5 : List AOper := [
  ⟨(some 11), .mv (.t 6), none, []⟩,
  ⟨(some 12), .bin .sub (.t 11) (.c (.int .i64 1)), none, []⟩,
  ⟨(some 6), .mv (.t 12), none, []⟩]
def f120x6L : ACode := (.seq (.seq (.region f120x3 false) (.cond (.t 10) .skip (.exit 0))) (.seq (.block 1 (.region f120x4 false)) (.region f120x5 false)))
def f120x7 : List AOper := [
  ⟨(some 21), .mv (.t 5), none, []⟩,
  ⟨(some 4), .mv (.t 21), none, []⟩]
def f120 : AFunc := ⟨22, 2, false, [.t 4], (.seq (.region f120x0 false) (.seq (.region f120x1 false) (.seq (.seq (.region f120x2 false) (.block 0 (.loop f120x6L))) (.seq (.region f120x7 false) .ret))))⟩
def f120x6LH : List AItem := [.inLoop f120x6L, .inBlock 0, .code (.seq (.region f120x7 false) .ret)]
end Go.AM.IR
namespace Go.AM.IR
def G (f : Nat) : Fun := bif Nat.blt f 87 then (bif Nat.blt f 70 then (bif Nat.blt f 62 then (bif Nat.blt f 58 then (bif Nat.blt f 54 then (bif Nat.blt f 26 then (bif Nat.beq f 21 then .code f21 else .none) else (bif Nat.beq f 26 then .code f26 else .none)) else (bif Nat.blt f 57 then (bif Nat.beq f 54 then .code f54 else .none) else (bif Nat.beq f 57 then .code f57 else .none))) else (bif Nat.blt f 60 then (bif Nat.blt f 59 then (bif Nat.beq f 58 then .code f58 else .none) else (bif Nat.beq f 59 then .code f59 else .none)) else (bif Nat.blt f 61 then (bif Nat.beq f 60 then .code f60 else .none) else (bif Nat.beq f 61 then .code f61 else .none)))) else (bif Nat.blt f 66 then (bif Nat.blt f 64 then (bif Nat.blt f 63 then (bif Nat.beq f 62 then .code f62 else .none) else (bif Nat.beq f 63 then .code f63 else .none)) else (bif Nat.blt f 65 then (bif Nat.beq f 64 then .code f64 else .none) else (bif Nat.beq f 65 then .code f65 else .none))) else (bif Nat.blt f 68 then (bif Nat.blt f 67 then (bif Nat.beq f 66 then .code f66 else .none) else (bif Nat.beq f 67 then .code f67 else .none)) else (bif Nat.blt f 69 then (bif Nat.beq f 68 then .code f68 else .none) else (bif Nat.beq f 69 then .code f69 else .none))))) else (bif Nat.blt f 78 then (bif Nat.blt f 74 then (bif Nat.blt f 72 then (bif Nat.blt f 71 then (bif Nat.beq f 70 then .code f70 else .none) else (bif Nat.beq f 71 then .code f71 else .none)) else (bif Nat.blt f 73 then (bif Nat.beq f 72 then .code f72 else .none) else (bif Nat.beq f 73 then .code f73 else .none))) else (bif Nat.blt f 76 then (bif Nat.blt f 75 then (bif Nat.beq f 74 then .code f74 else .none) else (bif Nat.beq f 75 then .code f75 else .none)) else (bif Nat.blt f 77 then (bif Nat.beq f 76 then .code f76 else .none) else (bif Nat.beq f 77 then .code f77 else .none)))) else (bif Nat.blt f 82 then (bif Nat.blt f 80 then (bif Nat.blt f 79 then (bif Nat.beq f 78 then .code f78 else .none) else (bif Nat.beq f 79 then .code f79 else .none)) else (bif Nat.blt f 81 then (bif Nat.beq f 80 then .code f80 else .none) else (bif Nat.beq f 81 then .code f81 else .none))) else (bif Nat.blt f 84 then (bif Nat.blt f 83 then (bif Nat.beq f 82 then .code f82 else .none) else (bif Nat.beq f 83 then .code f83 else .none)) else (bif Nat.blt f 85 then (bif Nat.beq f 84 then .code f84 else .none) else (bif Nat.blt f 86 then (bif Nat.beq f 85 then .code f85 else .none) else (bif Nat.beq f 86 then .code f86 else .none))))))) else (bif Nat.blt f 104 then (bif Nat.blt f 95 then (bif Nat.blt f 91 then (bif Nat.blt f 89 then (bif Nat.blt f 88 then (bif Nat.beq f 87 then .code f87 else .none) else (bif Nat.beq f 88 then .code f88 else .none)) else (bif Nat.blt f 90 then (bif Nat.beq f 89 then .code f89 else .none) else (bif Nat.beq f 90 then .code f90 else .none))) else (bif Nat.blt f 93 then (bif Nat.blt f 92 then (bif Nat.beq f 91 then .code f91 else .none) else (bif Nat.beq f 92 then .code f92 else .none)) else (bif Nat.blt f 94 then (bif Nat.beq f 93 then .code f93 else .none) else (bif Nat.beq f 94 then .code f94 else .none)))) else (bif Nat.blt f 99 then (bif Nat.blt f 97 then (bif Nat.blt f 96 then (bif Nat.beq f 95 then .code f95 else .none) else (bif Nat.beq f 96 then .code f96 else .none)) else (bif Nat.blt f 98 then (bif Nat.beq f 97 then .code f97 else .none) else (bif Nat.beq f 98 then .code f98 else .none))) else (bif Nat.blt f 101 then (bif Nat.blt f 100 then (bif Nat.beq f 99 then .code f99 else .none) else (bif Nat.beq f 100 then .code f100 else .none)) else (bif Nat.blt f 102 then (bif Nat.beq f 101 then .code f101 else .none) else (bif Nat.blt f 103 then (bif Nat.beq f 102 then .code f102 else .none) else (bif Nat.beq f 103 then .code f103 else .none)))))) else (bif Nat.blt f 112 then (bif Nat.blt f 108 then (bif Nat.blt f 106 then (bif Nat.blt f 105 then (bif Nat.beq f 104 then .code f104 else .none) else (bif Nat.beq f 105 then .code f105 else .none)) else (bif Nat.blt f 107 then (bif Nat.beq f 106 then .code f106 else .none) else (bif Nat.beq f 107 then .code f107 else .none))) else (bif Nat.blt f 110 then (bif Nat.blt f 109 then (bif Nat.beq f 108 then .code f108 else .none) else (bif Nat.beq f 109 then .code f109 else .none)) else (bif Nat.blt f 111 then (bif Nat.beq f 110 then .code f110 else .none) else (bif Nat.beq f 111 then .code f111 else .none)))) else (bif Nat.blt f 116 then (bif Nat.blt f 114 then (bif Nat.blt f 113 then (bif Nat.beq f 112 then .code f112 else .none) else (bif Nat.beq f 113 then .code f113 else .none)) else (bif Nat.blt f 115 then (bif Nat.beq f 114 then .code f114 else .none) else (bif Nat.beq f 115 then .code f115 else .none))) else (bif Nat.blt f 118 then (bif Nat.blt f 117 then (bif Nat.beq f 116 then .code f116 else .none) else (bif Nat.beq f 117 then .code f117 else .none)) else (bif Nat.blt f 119 then (bif Nat.beq f 118 then .code f118 else .none) else (bif Nat.blt f 120 then (bif Nat.beq f 119 then .code f119 else .none) else (bif Nat.beq f 120 then .code f120 else .none)))))))
end Go.AM.IR
namespace Go.AM.IR

def encI (x : Int) : List AV := [.int .i64 x]
def encU (x : Int) : List AV := [.int .u32 x]
structure Seg where
  kind : Int
  as : List Int
def Seg.enc (s : Seg) : List AV := [.int .i64 s.kind, .sl 1 (s.as.map encI)]
structure TLV where
  kind : Int
  value : List UInt8
def TLV.enc (s : TLV) : List AV := [.int .i64 s.kind, .sl 1 (byteCells s.value)]
structure Attrs where
  origin : Int
  path : List Seg
  nextHop : Int
  hasMED : Bool
  med : Int
  hasPref : Bool
  pref : Int
  atomic : Bool
  hasAggr : Bool
  aggrAS : Int
  aggrAddr : Int
  comms : List Int
  hasOrig : Bool
  orig : Int
  clusters : List Int
  unknown : List TLV
def Attrs.enc (a : Attrs) : List AV := [.int .i64 a.origin, .sl 2 (a.path.map Seg.enc), .int .u32 a.nextHop, .bool a.hasMED, .int .i64 a.med, .bool a.hasPref, .int .i64 a.pref, .bool a.atomic, .bool a.hasAggr, .int .i64 a.aggrAS, .int .u32 a.aggrAddr,
  .sl 1 (a.comms.map encU), .bool a.hasOrig, .int .u32 a.orig, .sl 1 (a.clusters.map encU), .sl 2 (a.unknown.map TLV.enc)]
structure PVRoute where
  paddr : Int
  plen : Int
  attrs : Attrs
  peer : Int
  kind : Int
  router : Int
  stale : Bool
def PVRoute.enc (r : PVRoute) : List AV := [.int .u32 r.paddr, .int .i64 r.plen,
  .int .i64 r.attrs.origin, .sl 2 (r.attrs.path.map Seg.enc), .int .u32 r.attrs.nextHop, .bool r.attrs.hasMED, .int .i64 r.attrs.med, .bool r.attrs.hasPref, .int .i64 r.attrs.pref, .bool r.attrs.atomic, .bool r.attrs.hasAggr, .int .i64 r.attrs.aggrAS, .int .u32 r.attrs.aggrAddr,
  .sl 1 (r.attrs.comms.map encU), .bool r.attrs.hasOrig, .int .u32 r.attrs.orig, .sl 1 (r.attrs.clusters.map encU), .sl 2 (r.attrs.unknown.map TLV.enc),
  .int .i64 r.peer, .int .i64 r.kind, .int .u32 r.router, .bool r.stale]
structure IGP where
  addr : Int
  cost : Int
def IGP.enc (c : IGP) : List AV := [.int .u32 c.addr, .int .i64 c.cost]

/-! ### All of this is values -/
theorem pureLL_map {α : Type} {f : α → List AV} (h : ∀ x, pureL (f x) = true) : ∀ l : List α, pureLL (l.map f) = true
  | [] => rfl
  | x :: r => by simp only [List.map_cons, pureLL, h x, pureLL_map h r, Bool.and_self]
theorem pureLL_bytes : ∀ l : List UInt8, pureLL (byteCells l) = true := fun l => pureLL_map (f := fun b : UInt8 => [AV.int .u8 (b.toNat : Int)]) (fun _ => rfl) l
@[simp] theorem pure_encI (l : List Int) : pureLL (l.map encI) = true := pureLL_map (fun _ => rfl) l
@[simp] theorem pure_encU (l : List Int) : pureLL (l.map encU) = true := pureLL_map (fun _ => rfl) l
theorem Seg.pure (s : Seg) : pureL s.enc = true := by simp [Seg.enc, pureL, AV.pure]
@[simp] theorem pure_segs (l : List Seg) : pureLL (l.map Seg.enc) = true := pureLL_map Seg.pure l
theorem TLV.pure (s : TLV) : pureL s.enc = true := by simp [TLV.enc, pureL, AV.pure, pureLL_bytes]
@[simp] theorem pure_tlvs (l : List TLV) : pureLL (l.map TLV.enc) = true := pureLL_map TLV.pure l
@[simp] theorem Attrs.pure (s : Attrs) : pureL s.enc = true := by simp [Attrs.enc, pureL, AV.pure]
@[simp] theorem PVRoute.pure (s : PVRoute) : pureL s.enc = true := by simp [PVRoute.enc, pureL, AV.pure]
@[simp] theorem pure_routes (l : List PVRoute) : pureLL (l.map PVRoute.enc) = true := pureLL_map PVRoute.pure l
@[simp] theorem pure_igps (l : List IGP) : pureLL (l.map IGP.enc) = true := pureLL_map (fun _ => rfl) l
end Go.AM.IR
