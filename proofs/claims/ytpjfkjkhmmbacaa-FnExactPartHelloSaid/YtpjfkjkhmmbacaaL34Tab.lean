/- The code of the functions that the law reaches, as data. -/
import Derived.Test.YtpjfkjkhmmbacaaVmF
set_option maxHeartbeats 4000000
set_option maxRecDepth 10000
set_option linter.unusedVariables false
set_option linter.unusedSimpArgs false
namespace Go.Vm
/- laws.markIntS -/
def ir1080 : FnIr := ⟨0, 2, 19, [(4, none)], [.mrow, .val],
  (.seq (.region false [] [] [⟨(some 4), .assign (.c false [(.int .i64 0)]), none, []⟩])
  (.seq (.seq (.region false [] [] [⟨(some 5), .assign (.c false [(.int .i64 0)]), none, []⟩])
  (.block 0 (.loop (.seq (.seq (.region false [6, 7, 8, 9] [6, 7, 8] [⟨(some 6), .move (.t 5), none, []⟩,
    ⟨(some 7), .move (.t 0), none, []⟩,
    ⟨(some 8), .len false (.t 7), none, []⟩,
    ⟨(some 9), .bin .lss (.t 6) (.t 8), none, []⟩])
  (.cond (.t 9)
  .skip
  (.exit 0)))
  (.seq (.block 1 (.seq (.region false [12, 13, 14, 15] [12, 13, 14, 15] [⟨(some 12), .move (.t 0), none, []⟩,
    ⟨(some 13), .move (.t 5), none, []⟩,
    ⟨(some 14), .move (.t 1), none, []⟩,
    ⟨(some 15), .iaddr 1 (.t 12) (.t 13), none, []⟩,
    ⟨none, .rstore 1 (.t 15) (.t 14), none, []⟩])
  (.region false [16, 17] [16, 17] [⟨(some 16), .move (.t 1), none, []⟩,
    ⟨(some 17), .bin .add (.t 16) (.c false [(.int .i64 1)]), none, []⟩,
    ⟨(some 1), .assign (.t 17), none, []⟩])))
  (.region false [10, 11] [10, 11] [⟨(some 10), .move (.t 5), none, []⟩,
    ⟨(some 11), .bin .add (.t 10) (.c false [(.int .i64 1)]), none, []⟩,
    ⟨(some 5), .assign (.t 11), none, []⟩]))))))
  (.seq (.region false [18] [18] [⟨(some 18), .move (.t 1), none, []⟩,
    ⟨(some 4), .assign (.t 18), none, []⟩])
  .ret)))⟩
/- laws.markExtS -/
def ir1201 : FnIr := ⟨0, 2, 27, [(4, none)], [.mrow, .val],
  (.seq (.region false [] [] [⟨(some 4), .assign (.c false [(.int .i64 0)]), none, []⟩])
  (.seq (.seq (.region false [] [] [⟨(some 5), .assign (.c false [(.int .i64 0)]), none, []⟩])
  (.block 0 (.loop (.seq (.seq (.region false [6, 7, 8, 9] [6, 7, 8] [⟨(some 6), .move (.t 5), none, []⟩,
    ⟨(some 7), .move (.t 0), none, []⟩,
    ⟨(some 8), .len false (.t 7), none, []⟩,
    ⟨(some 9), .bin .lss (.t 6) (.t 8), none, []⟩])
  (.cond (.t 9)
  .skip
  (.exit 0)))
  (.seq (.block 1 (.seq (.region false [12, 13, 14, 15, 16] [12, 13, 14, 15, 16] [⟨(some 12), .move (.t 0), none, []⟩,
    ⟨(some 13), .move (.t 5), none, []⟩,
    ⟨(some 14), .move (.t 1), none, []⟩,
    ⟨(some 15), .iaddr 2 (.t 12) (.t 13), none, []⟩,
    ⟨(some 16), .faddr 0 (.t 15), none, []⟩,
    ⟨none, .rstore 1 (.t 16) (.t 14), none, []⟩])
  (.seq (.region false [17, 18] [17, 18] [⟨(some 17), .move (.t 1), none, []⟩,
    ⟨(some 18), .bin .add (.t 17) (.c false [(.int .i64 1)]), none, []⟩,
    ⟨(some 1), .assign (.t 18), none, []⟩])
  (.region false [19, 20, 21, 22, 23, 24, 25, 52] [19, 20, 21, 22, 23, 24, 25] [⟨(some 19), .move (.t 0), none, []⟩,
    ⟨(some 20), .move (.t 5), none, []⟩,
    ⟨(some 21), .iaddr 2 (.t 19) (.t 20), none, []⟩,
    ⟨(some 22), .faddr 1 (.t 21), none, []⟩,
    ⟨(some 23), .load false 1 (.t 22), none, []⟩,
    ⟨(some 24), .move (.t 1), none, []⟩,
    ⟨(some 25), .call 1080 [(.t 23), (.t 24)], none, []⟩,
    ⟨(some 1), .assign (.t 25), none, []⟩]))))
  (.region false [10, 11] [10, 11] [⟨(some 10), .move (.t 5), none, []⟩,
    ⟨(some 11), .bin .add (.t 10) (.c false [(.int .i64 1)]), none, []⟩,
    ⟨(some 5), .assign (.t 11), none, []⟩]))))))
  (.seq (.region false [26] [26] [⟨(some 26), .move (.t 1), none, []⟩,
    ⟨(some 4), .assign (.t 26), none, []⟩])
  .ret)))⟩
/- laws.markHello -/
def ir1081 : FnIr := ⟨0, 2, 14, [(4, none)], [.mrow, .val],
  (.seq (.region false [2, 16] [] [⟨(some 2), .box (.t 0), none, []⟩,
    ⟨(some 4), .assign (.c false [(.int .i64 0)]), none, []⟩])
  (.seq (.region false [5, 6, 7, 8, 22] [5, 6, 7, 8] [⟨(some 5), .faddr 0 (.t 2), none, []⟩,
    ⟨(some 6), .load false 1 (.t 5), none, []⟩,
    ⟨(some 7), .move (.t 1), none, []⟩,
    ⟨(some 8), .call 1080 [(.t 6), (.t 7)], none, []⟩,
    ⟨(some 1), .assign (.t 8), none, []⟩])
  (.seq (.region false [9, 10, 11, 12, 26] [9, 10, 11, 12] [⟨(some 9), .faddr 1 (.t 2), none, []⟩,
    ⟨(some 10), .load false 1 (.t 9), none, []⟩,
    ⟨(some 11), .move (.t 1), none, []⟩,
    ⟨(some 12), .call 1201 [(.t 10), (.t 11)], none, []⟩,
    ⟨(some 1), .assign (.t 12), none, []⟩])
  (.seq (.region false [13] [13] [⟨(some 13), .move (.t 1), none, []⟩,
    ⟨(some 4), .assign (.t 13), none, []⟩])
  .ret))))⟩
/- spec.l1In -/
def ir230 : FnIr := ⟨0, 3, 15, [(6, none)], [],
  (.seq (.region false [] [] [⟨(some 6), .assign (.c false [(.bool false)]), none, []⟩])
  (.seq (.region false [7, 8, 9, 10, 11, 12, 13, 14] [7, 8, 9, 10, 11, 12, 13, 14] [⟨(some 7), .move (.t 0), none, []⟩,
    ⟨(some 8), .move (.t 1), none, []⟩,
    ⟨(some 9), .bin .geq (.t 7) (.t 8), none, []⟩,
    ⟨(some 10), .move (.t 9), none, []⟩,
    ⟨(some 11), .move (.t 0), (some (10, true)), []⟩,
    ⟨(some 12), .move (.t 2), (some (10, true)), []⟩,
    ⟨(some 13), .bin .leq (.t 11) (.t 12), (some (10, true)), []⟩,
    ⟨(some 14), .pick (.t 10) (.t 13) (.c false [(.bool false)]), none, []⟩,
    ⟨(some 6), .assign (.t 14), none, []⟩])
  .ret))⟩
/- spec.AreVersions -/
def ir257 : FnIr := ⟨0, 1, 35, [(2, none)], [],
  (.seq (.region false [] [] [⟨(some 2), .assign (.c false [(.bool false)]), none, []⟩])
  (.seq (.seq (.region false [] [] [⟨(some 3), .assign (.c false [(.int .i64 0)]), none, []⟩])
  (.block 0 (.loop (.seq (.seq (.region false [4, 5, 6, 7] [4, 5, 6] [⟨(some 4), .move (.t 3), none, []⟩,
    ⟨(some 5), .move (.t 0), none, []⟩,
    ⟨(some 6), .len false (.t 5), none, []⟩,
    ⟨(some 7), .bin .lss (.t 4) (.t 6), none, []⟩])
  (.cond (.t 7)
  .skip
  (.exit 0)))
  (.seq (.block 1 (.seq (.region true [10, 11, 12, 13, 14, 15, 16, 17, 18, 19, 20, 21, 22, 23, 24, 25, 26, 27, 28, 29, 30, 31, 49] [10, 11, 12, 13, 14, 15, 16, 17, 18, 19, 20, 21, 22, 23, 24, 25, 26, 27, 28, 29, 30] [⟨(some 10), .move (.t 0), none, []⟩,
    ⟨(some 11), .move (.t 3), none, []⟩,
    ⟨(some 12), .iaddr 1 (.t 10) (.t 11), none, [0, 1]⟩,
    ⟨(some 13), .load false 1 (.t 12), none, [2, 0, 1]⟩,
    ⟨(some 14), .call 230 [(.t 13), (.c false [(.int .i64 1)]), (.c false [(.int .i64 9)])], none, [3, 2, 0, 1]⟩,
    ⟨(some 15), .un .not (.t 14), none, [4, 3, 2, 0, 1]⟩,
    ⟨(some 16), .move (.t 15), none, [5, 4, 3, 2, 0, 1]⟩,
    ⟨(some 17), .move (.t 3), (some (16, false)), [6, 5, 4, 3, 2, 0, 1]⟩,
    ⟨(some 18), .bin .gtr (.t 17) (.c false [(.int .i64 0)]), (some (16, false)), [7, 6, 5, 4, 3, 2, 0, 1]⟩,
    ⟨(some 19), .move (.t 18), (some (16, false)), [8, 7, 6, 5, 4, 3, 2, 0, 1]⟩,
    ⟨(some 20), .move (.t 0), (some (19, true)), [9, 8, 7, 6, 5, 4, 3, 2, 0, 1]⟩,
    ⟨(some 21), .move (.t 3), (some (19, true)), [9, 8, 7, 6, 5, 4, 3, 2, 0, 1]⟩,
    ⟨(some 22), .bin .sub (.t 21) (.c false [(.int .i64 1)]), (some (19, true)), [11, 9, 8, 7, 6, 5, 4, 3, 2, 0, 1]⟩,
    ⟨(some 23), .iaddr 1 (.t 20) (.t 22), (some (19, true)), [10, 9, 8, 7, 6, 5, 4, 3, 2, 0, 1, 12, 11]⟩,
    ⟨(some 24), .load false 1 (.t 23), (some (19, true)), [13, 10, 9, 8, 7, 6, 5, 4, 3, 2, 0, 1, 12, 11]⟩,
    ⟨(some 25), .move (.t 0), (some (19, true)), [9, 8, 7, 6, 5, 4, 3, 2, 0, 1]⟩,
    ⟨(some 26), .move (.t 3), (some (19, true)), [9, 8, 7, 6, 5, 4, 3, 2, 0, 1]⟩,
    ⟨(some 27), .iaddr 1 (.t 25) (.t 26), (some (19, true)), [15, 9, 8, 7, 6, 5, 4, 3, 2, 0, 1, 16]⟩,
    ⟨(some 28), .load false 1 (.t 27), (some (19, true)), [17, 15, 9, 8, 7, 6, 5, 4, 3, 2, 0, 1, 16]⟩,
    ⟨(some 29), .bin .geq (.t 24) (.t 28), (some (19, true)), [14, 13, 10, 9, 8, 7, 6, 5, 4, 3, 2, 0, 1, 12, 11, 18, 17, 15, 16]⟩,
    ⟨(some 30), .pick (.t 19) (.t 29) (.c false [(.bool false)]), (some (16, false)), [9, 8, 7, 6, 5, 4, 3, 2, 0, 1, 19, 14, 13, 10, 12, 11, 18, 17, 15, 16]⟩,
    ⟨(some 31), .pick (.t 16) (.c false [(.bool true)]) (.t 30), none, [6, 5, 4, 3, 2, 0, 1, 20, 9, 8, 7, 19, 14, 13, 10, 12, 11, 18, 17, 15, 16]⟩])
  (.cond (.t 31)
  (.seq (.region false [] [] [⟨(some 2), .assign (.c false [(.bool false)]), none, []⟩])
  .ret)
  .skip)))
  (.region false [8, 9] [8, 9] [⟨(some 8), .move (.t 3), none, []⟩,
    ⟨(some 9), .bin .add (.t 8) (.c false [(.int .i64 1)]), none, []⟩,
    ⟨(some 3), .assign (.t 9), none, []⟩]))))))
  (.seq (.region false [32, 33, 34] [32, 33, 34] [⟨(some 32), .move (.t 0), none, []⟩,
    ⟨(some 33), .len false (.t 32), none, []⟩,
    ⟨(some 34), .bin .gtr (.t 33) (.c false [(.int .i64 0)]), none, []⟩,
    ⟨(some 2), .assign (.t 34), none, []⟩])
  .ret)))⟩
/- spec.l9Byte -/
def ir231 : FnIr := ⟨0, 1, 16, [(2, none)], [],
  (.seq (.region false [] [] [⟨(some 2), .assign (.c false [(.bool false)]), none, []⟩])
  (.seq (.seq (.region false [] [] [⟨(some 3), .assign (.c false [(.int .i64 0)]), none, []⟩])
  (.block 0 (.loop (.seq (.seq (.region false [4, 5, 6, 7] [4, 5, 6] [⟨(some 4), .move (.t 3), none, []⟩,
    ⟨(some 5), .move (.t 0), none, []⟩,
    ⟨(some 6), .len false (.t 5), none, []⟩,
    ⟨(some 7), .bin .lss (.t 4) (.t 6), none, []⟩])
  (.cond (.t 7)
  .skip
  (.exit 0)))
  (.seq (.block 1 (.seq (.region false [10, 11, 12, 13, 14, 15, 30] [10, 11, 12, 13, 14] [⟨(some 10), .move (.t 0), none, []⟩,
    ⟨(some 11), .move (.t 3), none, []⟩,
    ⟨(some 12), .iaddr 1 (.t 10) (.t 11), none, []⟩,
    ⟨(some 13), .load false 1 (.t 12), none, []⟩,
    ⟨(some 14), .call 230 [(.t 13), (.c false [(.int .i64 0)]), (.c false [(.int .i64 255)])], none, []⟩,
    ⟨(some 15), .un .not (.t 14), none, []⟩])
  (.cond (.t 15)
  (.seq (.region false [] [] [⟨(some 2), .assign (.c false [(.bool false)]), none, []⟩])
  .ret)
  .skip)))
  (.region false [8, 9] [8, 9] [⟨(some 8), .move (.t 3), none, []⟩,
    ⟨(some 9), .bin .add (.t 8) (.c false [(.int .i64 1)]), none, []⟩,
    ⟨(some 3), .assign (.t 9), none, []⟩]))))))
  (.seq (.region false [] [] [⟨(some 2), .assign (.c false [(.bool true)]), none, []⟩])
  .ret)))⟩
/- spec.ExtOf -/
def ir286 : FnIr := ⟨0, 2, 20, [(4, none)], [],
  (.seq (.region false [] [] [⟨(some 4), .assign (.c false [(.int .i64 0)]), none, []⟩])
  (.seq (.seq (.region false [] [] [⟨(some 5), .assign (.c false [(.int .i64 0)]), none, []⟩])
  (.block 0 (.loop (.seq (.seq (.region false [6, 7, 8, 9] [6, 7, 8] [⟨(some 6), .move (.t 5), none, []⟩,
    ⟨(some 7), .move (.t 0), none, []⟩,
    ⟨(some 8), .len false (.t 7), none, []⟩,
    ⟨(some 9), .bin .lss (.t 6) (.t 8), none, []⟩])
  (.cond (.t 9)
  .skip
  (.exit 0)))
  (.seq (.block 1 (.seq (.region false [12, 13, 14, 15, 16, 17, 18] [12, 13, 14, 15, 16, 17] [⟨(some 12), .move (.t 0), none, []⟩,
    ⟨(some 13), .move (.t 5), none, []⟩,
    ⟨(some 14), .iaddr 2 (.t 12) (.t 13), none, []⟩,
    ⟨(some 15), .faddr 0 (.t 14), none, []⟩,
    ⟨(some 16), .load false 1 (.t 15), none, []⟩,
    ⟨(some 17), .move (.t 1), none, []⟩,
    ⟨(some 18), .bin .eql (.t 16) (.t 17), none, []⟩])
  (.cond (.t 18)
  (.seq (.region false [19] [19] [⟨(some 19), .move (.t 5), none, []⟩,
    ⟨(some 4), .assign (.t 19), none, []⟩])
  .ret)
  .skip)))
  (.region false [10, 11] [10, 11] [⟨(some 10), .move (.t 5), none, []⟩,
    ⟨(some 11), .bin .add (.t 10) (.c false [(.int .i64 1)]), none, []⟩,
    ⟨(some 5), .assign (.t 11), none, []⟩]))))))
  (.seq (.region false [] [] [⟨(some 4), .assign (.c false [(.int .i64 (-1))]), none, []⟩])
  .ret)))⟩
/- spec.AreExts -/
def ir271 : FnIr := ⟨0, 1, 49, [(2, none)], [],
  (.seq (.region false [] [] [⟨(some 2), .assign (.c false [(.bool false)]), none, []⟩])
  (.seq (.seq (.region false [] [] [⟨(some 3), .assign (.c false [(.int .i64 0)]), none, []⟩])
  (.block 0 (.loop (.seq (.seq (.region false [4, 5, 6, 7] [4, 5, 6] [⟨(some 4), .move (.t 3), none, []⟩,
    ⟨(some 5), .move (.t 0), none, []⟩,
    ⟨(some 6), .len false (.t 5), none, []⟩,
    ⟨(some 7), .bin .lss (.t 4) (.t 6), none, []⟩])
  (.cond (.t 7)
  .skip
  (.exit 0)))
  (.seq (.block 1 (.seq (.region false [10, 11, 12, 13, 14, 15, 16, 17, 18, 19, 20, 21, 22, 23, 24, 25, 26, 27, 28, 29, 30, 31, 32, 33, 34, 35, 36, 37, 38, 39, 40, 41, 42, 43, 44, 45, 64, 81, 91] [10, 11, 12, 13, 14, 15, 16, 17, 18, 19, 20, 21, 22, 23, 24, 25, 26, 27, 28, 29, 30, 31, 32, 33, 34, 35, 36, 37, 38, 39, 40, 41, 42, 43, 44] [⟨(some 10), .move (.t 0), none, []⟩,
    ⟨(some 11), .move (.t 3), none, []⟩,
    ⟨(some 12), .iaddr 2 (.t 10) (.t 11), none, []⟩,
    ⟨(some 13), .faddr 0 (.t 12), none, []⟩,
    ⟨(some 14), .load false 1 (.t 13), none, []⟩,
    ⟨(some 15), .call 230 [(.t 14), (.c false [(.int .i64 0)]), (.c false [(.int .i64 255)])], none, []⟩,
    ⟨(some 16), .un .not (.t 15), none, []⟩,
    ⟨(some 17), .move (.t 16), none, []⟩,
    ⟨(some 18), .move (.t 0), (some (17, false)), []⟩,
    ⟨(some 19), .move (.t 3), (some (17, false)), []⟩,
    ⟨(some 20), .iaddr 2 (.t 18) (.t 19), (some (17, false)), []⟩,
    ⟨(some 21), .faddr 1 (.t 20), (some (17, false)), []⟩,
    ⟨(some 22), .load false 1 (.t 21), (some (17, false)), []⟩,
    ⟨(some 23), .len false (.t 22), (some (17, false)), []⟩,
    ⟨(some 24), .bin .gtr (.t 23) (.c false [(.int .i64 4)]), (some (17, false)), []⟩,
    ⟨(some 25), .pick (.t 17) (.c false [(.bool true)]) (.t 24), none, []⟩,
    ⟨(some 26), .move (.t 25), none, []⟩,
    ⟨(some 27), .move (.t 0), (some (26, false)), []⟩,
    ⟨(some 28), .move (.t 3), (some (26, false)), []⟩,
    ⟨(some 29), .iaddr 2 (.t 27) (.t 28), (some (26, false)), []⟩,
    ⟨(some 30), .faddr 1 (.t 29), (some (26, false)), []⟩,
    ⟨(some 31), .load false 1 (.t 30), (some (26, false)), []⟩,
    ⟨(some 32), .call 231 [(.t 31)], (some (26, false)), []⟩,
    ⟨(some 33), .un .not (.t 32), (some (26, false)), []⟩,
    ⟨(some 34), .pick (.t 26) (.c false [(.bool true)]) (.t 33), none, []⟩,
    ⟨(some 35), .move (.t 34), none, []⟩,
    ⟨(some 36), .move (.t 0), (some (35, false)), []⟩,
    ⟨(some 37), .move (.t 0), (some (35, false)), []⟩,
    ⟨(some 38), .move (.t 3), (some (35, false)), []⟩,
    ⟨(some 39), .iaddr 2 (.t 37) (.t 38), (some (35, false)), []⟩,
    ⟨(some 40), .faddr 0 (.t 39), (some (35, false)), []⟩,
    ⟨(some 41), .load false 1 (.t 40), (some (35, false)), []⟩,
    ⟨(some 42), .call 286 [(.t 36), (.t 41)], (some (35, false)), []⟩,
    ⟨(some 43), .move (.t 3), (some (35, false)), []⟩,
    ⟨(some 44), .bin .lss (.t 42) (.t 43), (some (35, false)), []⟩,
    ⟨(some 45), .pick (.t 35) (.c false [(.bool true)]) (.t 44), none, []⟩])
  (.cond (.t 45)
  (.seq (.region false [] [] [⟨(some 2), .assign (.c false [(.bool false)]), none, []⟩])
  .ret)
  .skip)))
  (.region false [8, 9] [8, 9] [⟨(some 8), .move (.t 3), none, []⟩,
    ⟨(some 9), .bin .add (.t 8) (.c false [(.int .i64 1)]), none, []⟩,
    ⟨(some 3), .assign (.t 9), none, []⟩]))))))
  (.seq (.region false [46, 47, 48] [46, 47, 48] [⟨(some 46), .move (.t 0), none, []⟩,
    ⟨(some 47), .len false (.t 46), none, []⟩,
    ⟨(some 48), .bin .leq (.t 47) (.c false [(.int .i64 6)]), none, []⟩,
    ⟨(some 2), .assign (.t 48), none, []⟩])
  .ret)))⟩
/- spec.IsHello -/
def ir142 : FnIr := ⟨0, 1, 11, [(2, none)], [],
  (.seq (.region false [1, 12] [] [⟨(some 1), .box (.t 0), none, []⟩,
    ⟨(some 2), .assign (.c false [(.bool false)]), none, []⟩])
  (.seq (.region false [3, 4, 5, 6, 7, 8, 9, 10, 16, 20] [3, 4, 5, 6, 7, 8, 9, 10] [⟨(some 3), .faddr 0 (.t 1), none, []⟩,
    ⟨(some 4), .load false 1 (.t 3), none, []⟩,
    ⟨(some 5), .call 257 [(.t 4)], none, []⟩,
    ⟨(some 6), .move (.t 5), none, []⟩,
    ⟨(some 7), .faddr 1 (.t 1), (some (6, true)), []⟩,
    ⟨(some 8), .load false 1 (.t 7), (some (6, true)), []⟩,
    ⟨(some 9), .call 271 [(.t 8)], (some (6, true)), []⟩,
    ⟨(some 10), .pick (.t 6) (.t 9) (.c false [(.bool false)]), none, []⟩,
    ⟨(some 2), .assign (.t 10), none, []⟩])
  .ret))⟩
/- spec.l9Has -/
def ir285 : FnIr := ⟨0, 2, 18, [(4, none)], [],
  (.seq (.region false [] [] [⟨(some 4), .assign (.c false [(.bool false)]), none, []⟩])
  (.seq (.seq (.region false [] [] [⟨(some 5), .assign (.c false [(.int .i64 0)]), none, []⟩])
  (.block 0 (.loop (.seq (.seq (.region false [6, 7, 8, 9] [6, 7, 8] [⟨(some 6), .move (.t 5), none, []⟩,
    ⟨(some 7), .move (.t 0), none, []⟩,
    ⟨(some 8), .len false (.t 7), none, []⟩,
    ⟨(some 9), .bin .lss (.t 6) (.t 8), none, []⟩])
  (.cond (.t 9)
  .skip
  (.exit 0)))
  (.seq (.block 1 (.seq (.region false [12, 13, 14, 15, 16, 17] [12, 13, 14, 15, 16] [⟨(some 12), .move (.t 0), none, []⟩,
    ⟨(some 13), .move (.t 5), none, []⟩,
    ⟨(some 14), .iaddr 1 (.t 12) (.t 13), none, []⟩,
    ⟨(some 15), .load false 1 (.t 14), none, []⟩,
    ⟨(some 16), .move (.t 1), none, []⟩,
    ⟨(some 17), .bin .eql (.t 15) (.t 16), none, []⟩])
  (.cond (.t 17)
  (.seq (.region false [] [] [⟨(some 4), .assign (.c false [(.bool true)]), none, []⟩])
  .ret)
  .skip)))
  (.region false [10, 11] [10, 11] [⟨(some 10), .move (.t 5), none, []⟩,
    ⟨(some 11), .bin .add (.t 10) (.c false [(.int .i64 1)]), none, []⟩,
    ⟨(some 5), .assign (.t 11), none, []⟩]))))))
  (.seq (.region false [] [] [⟨(some 4), .assign (.c false [(.bool false)]), none, []⟩])
  .ret)))⟩
/- spec.l21Left -/
def ir292 : FnIr := ⟨0, 2, 29, [(4, none)], [],
  (.seq (.region false [] [] [⟨(some 4), .assign (.c false [(.row () [])]), none, []⟩])
  (.seq (.region false [7] [7] [⟨(some 7), .bslice [(.int .i64 0)] 0 [], none, []⟩,
    ⟨(some 5), .assign (.t 7), none, []⟩])
  (.seq (.seq (.region false [] [] [⟨(some 6), .assign (.c false [(.int .i64 0)]), none, []⟩])
  (.block 0 (.loop (.seq (.seq (.region false [8, 9, 10, 11] [8, 9, 10] [⟨(some 8), .move (.t 6), none, []⟩,
    ⟨(some 9), .move (.t 0), none, []⟩,
    ⟨(some 10), .len false (.t 9), none, []⟩,
    ⟨(some 11), .bin .lss (.t 8) (.t 10), none, []⟩])
  (.cond (.t 11)
  .skip
  (.exit 0)))
  (.seq (.block 1 (.seq (.region false [14, 15, 16, 17, 18, 19, 20, 48] [14, 15, 16, 17, 18, 19] [⟨(some 14), .move (.t 1), none, []⟩,
    ⟨(some 15), .move (.t 0), none, []⟩,
    ⟨(some 16), .move (.t 6), none, []⟩,
    ⟨(some 17), .iaddr 1 (.t 15) (.t 16), none, []⟩,
    ⟨(some 18), .load false 1 (.t 17), none, []⟩,
    ⟨(some 19), .call 285 [(.t 14), (.t 18)], none, []⟩,
    ⟨(some 20), .un .not (.t 19), none, []⟩])
  (.cond (.t 20)
  (.region false [21, 22, 23, 24, 25, 26, 27] [21, 22, 23, 24, 25, 26, 27] [⟨(some 21), .move (.t 5), none, []⟩,
    ⟨(some 22), .move (.t 0), none, []⟩,
    ⟨(some 23), .move (.t 6), none, []⟩,
    ⟨(some 24), .iaddr 1 (.t 22) (.t 23), none, []⟩,
    ⟨(some 25), .load false 1 (.t 24), none, []⟩,
    ⟨(some 26), .bslice [(.int .i64 0)] 1 [(0, (.t 25))], none, []⟩,
    ⟨(some 27), .append 1 (.t 21) (.t 26), none, []⟩,
    ⟨(some 5), .assign (.t 27), none, []⟩])
  .skip)))
  (.region false [12, 13] [12, 13] [⟨(some 12), .move (.t 6), none, []⟩,
    ⟨(some 13), .bin .add (.t 12) (.c false [(.int .i64 1)]), none, []⟩,
    ⟨(some 6), .assign (.t 13), none, []⟩]))))))
  (.seq (.region false [28] [28] [⟨(some 28), .move (.t 5), none, []⟩,
    ⟨(some 4), .assign (.t 28), none, []⟩])
  .ret))))⟩
/- spec.KnownOf -/
def ir307 : FnIr := ⟨0, 2, 38, [(4, none)], [],
  (.seq (.region false [] [] [⟨(some 4), .assign (.c false [(.row () [])]), none, []⟩])
  (.seq (.region false [7] [7] [⟨(some 7), .bslice [(.int .i64 0), (.row () [])] 0 [], none, []⟩,
    ⟨(some 5), .assign (.t 7), none, []⟩])
  (.seq (.seq (.region false [] [] [⟨(some 6), .assign (.c false [(.int .i64 0)]), none, []⟩])
  (.block 0 (.loop (.seq (.seq (.region false [8, 9, 10, 11] [8, 9, 10] [⟨(some 8), .move (.t 6), none, []⟩,
    ⟨(some 9), .move (.t 0), none, []⟩,
    ⟨(some 10), .len false (.t 9), none, []⟩,
    ⟨(some 11), .bin .lss (.t 8) (.t 10), none, []⟩])
  (.cond (.t 11)
  .skip
  (.exit 0)))
  (.seq (.block 1 (.seq (.region false [14, 15, 16, 17, 18, 19, 20, 58] [14, 15, 16, 17, 18, 19] [⟨(some 14), .move (.t 1), none, []⟩,
    ⟨(some 15), .move (.t 0), none, []⟩,
    ⟨(some 16), .move (.t 6), none, []⟩,
    ⟨(some 17), .iaddr 2 (.t 15) (.t 16), none, []⟩,
    ⟨(some 18), .faddr 0 (.t 17), none, []⟩,
    ⟨(some 19), .load false 1 (.t 18), none, []⟩,
    ⟨(some 20), .call 285 [(.t 14), (.t 19)], none, []⟩])
  (.cond (.t 20)
  (.region true [21, 22, 23, 24, 25, 26, 27, 28, 29, 30, 31, 32, 33, 34, 35, 36] [21, 22, 23, 24, 25, 26, 27, 28, 29, 30, 31, 32, 33, 34, 35, 36] [⟨(some 21), .move (.t 5), none, []⟩,
    ⟨(some 22), .move (.t 0), none, []⟩,
    ⟨(some 23), .move (.t 6), none, []⟩,
    ⟨(some 24), .iaddr 2 (.t 22) (.t 23), none, [1, 2]⟩,
    ⟨(some 25), .faddr 0 (.t 24), none, [3, 1, 2]⟩,
    ⟨(some 26), .load false 1 (.t 25), none, [4, 3, 1, 2]⟩,
    ⟨(some 27), .bslice [(.int .i64 0)] 0 [], none, []⟩,
    ⟨(some 28), .move (.t 0), none, []⟩,
    ⟨(some 29), .move (.t 6), none, []⟩,
    ⟨(some 30), .iaddr 2 (.t 28) (.t 29), none, [7, 8]⟩,
    ⟨(some 31), .faddr 1 (.t 30), none, [9, 7, 8]⟩,
    ⟨(some 32), .load false 1 (.t 31), none, [10, 9, 7, 8]⟩,
    ⟨(some 33), .append 1 (.t 27) (.t 32), none, [6, 11, 10, 9, 7, 8]⟩,
    ⟨(some 34), .build [(.int .i64 0), (.row () [])] [(0, 1, (.t 26)), (1, 1, (.t 33))], none, [5, 4, 3, 1, 2, 12, 6, 11, 10, 9, 7, 8]⟩,
    ⟨(some 35), .bslice [(.int .i64 0), (.row () [])] 1 [(0, (.t 34))], none, [13, 5, 4, 3, 1, 2, 12, 6, 11, 10, 9, 7, 8]⟩,
    ⟨(some 36), .append 2 (.t 21) (.t 35), none, [0, 14, 13, 5, 4, 3, 1, 2, 12, 6, 11, 10, 9, 7, 8]⟩,
    ⟨(some 5), .assign (.t 36), none, [15, 0, 14, 13, 5, 4, 3, 1, 2, 12, 6, 11, 10, 9, 7, 8]⟩])
  .skip)))
  (.region false [12, 13] [12, 13] [⟨(some 12), .move (.t 6), none, []⟩,
    ⟨(some 13), .bin .add (.t 12) (.c false [(.int .i64 1)]), none, []⟩,
    ⟨(some 6), .assign (.t 13), none, []⟩]))))))
  (.seq (.region false [37] [37] [⟨(some 37), .move (.t 5), none, []⟩,
    ⟨(some 4), .assign (.t 37), none, []⟩])
  .ret))))⟩
/- spec.PartHello -/
def ir164 : FnIr := ⟨0, 3, 83, [(6, (some (true, 2))), (7, none)], [],
  (.seq (.region false [3, 6, 86, 89] [] [⟨(some 3), .box (.t 0), none, []⟩,
    ⟨(some 6), .alloc [(.row () []), (.row () [])], none, []⟩,
    ⟨(some 7), .assign (.c false [(.bool false)]), none, []⟩])
  (.seq (.seq (.region false [11, 12, 13, 95] [11, 12] [⟨(some 11), .load true 2 (.t 3), none, []⟩,
    ⟨(some 12), .call 142 [(.t 11)], none, []⟩,
    ⟨(some 13), .un .not (.t 12), none, []⟩])
  (.cond (.t 13)
  (.seq (.region false [14] [14] [⟨(some 14), .build [(.row () []), (.row () [])] [], none, []⟩,
    ⟨none, .store 2 (.t 6) (.t 14), none, []⟩,
    ⟨(some 7), .assign (.c false [(.bool false)]), none, []⟩])
  .ret)
  .skip))
  (.seq (.region false [15, 8, 91] [15] [⟨(some 15), .build [(.row () []), (.row () [])] [], none, []⟩,
    ⟨(some 8), .alloc [(.row () []), (.row () [])], none, []⟩,
    ⟨none, .store 2 (.t 8) (.t 15), none, []⟩])
  (.seq (.seq (.region false [] [] [⟨(some 9), .assign (.c false [(.int .i64 0)]), none, []⟩])
  (.block 0 (.loop (.seq (.seq (.region false [16, 17, 18, 19, 20] [16, 17, 18, 19] [⟨(some 16), .move (.t 9), none, []⟩,
    ⟨(some 17), .faddr 0 (.t 3), none, []⟩,
    ⟨(some 18), .load false 1 (.t 17), none, []⟩,
    ⟨(some 19), .len false (.t 18), none, []⟩,
    ⟨(some 20), .bin .lss (.t 16) (.t 19), none, []⟩])
  (.cond (.t 20)
  .skip
  (.exit 0)))
  (.seq (.block 1 (.seq (.region false [23, 24, 25, 26, 27, 28, 29, 30, 112] [23, 24, 25, 26, 27, 28, 29] [⟨(some 23), .move (.t 1), none, []⟩,
    ⟨(some 24), .faddr 0 (.t 3), none, []⟩,
    ⟨(some 25), .load false 1 (.t 24), none, []⟩,
    ⟨(some 26), .move (.t 9), none, []⟩,
    ⟨(some 27), .iaddr 1 (.t 25) (.t 26), none, []⟩,
    ⟨(some 28), .load false 1 (.t 27), none, []⟩,
    ⟨(some 29), .call 285 [(.t 23), (.t 28)], none, []⟩,
    ⟨(some 30), .un .not (.t 29), none, []⟩])
  (.cond (.t 30)
  (.region true [31, 32, 33, 34, 35, 36, 37, 38, 39, 40] [31, 32, 33, 34, 35, 36, 37, 38, 39, 40] [⟨(some 31), .faddr 0 (.t 8), none, []⟩,
    ⟨(some 32), .load false 1 (.t 31), none, [0]⟩,
    ⟨(some 33), .faddr 0 (.t 3), none, []⟩,
    ⟨(some 34), .load false 1 (.t 33), none, [2]⟩,
    ⟨(some 35), .move (.t 9), none, []⟩,
    ⟨(some 36), .iaddr 1 (.t 34) (.t 35), none, [3, 2, 4]⟩,
    ⟨(some 37), .load false 1 (.t 36), none, [5, 3, 2, 4]⟩,
    ⟨(some 38), .bslice [(.int .i64 0)] 1 [(0, (.t 37))], none, [6, 5, 3, 2, 4]⟩,
    ⟨(some 39), .append 1 (.t 32) (.t 38), none, [1, 0, 7, 6, 5, 3, 2, 4]⟩,
    ⟨(some 40), .faddr 0 (.t 8), none, [0, 1, 2, 3, 4, 5, 6, 7, 8]⟩,
    ⟨none, .store 1 (.t 40) (.t 39), none, [9, 0, 1, 2, 3, 4, 5, 6, 7, 8]⟩])
  .skip)))
  (.region false [21, 22] [21, 22] [⟨(some 21), .move (.t 9), none, []⟩,
    ⟨(some 22), .bin .add (.t 21) (.c false [(.int .i64 1)]), none, []⟩,
    ⟨(some 9), .assign (.t 22), none, []⟩]))))))
  (.seq (.seq (.region false [] [] [⟨(some 10), .assign (.c false [(.int .i64 0)]), none, []⟩])
  (.block 2 (.loop (.seq (.seq (.region false [41, 42, 43, 44, 45] [41, 42, 43, 44] [⟨(some 41), .move (.t 10), none, []⟩,
    ⟨(some 42), .faddr 1 (.t 3), none, []⟩,
    ⟨(some 43), .load false 1 (.t 42), none, []⟩,
    ⟨(some 44), .len false (.t 43), none, []⟩,
    ⟨(some 45), .bin .lss (.t 41) (.t 44), none, []⟩])
  (.cond (.t 45)
  .skip
  (.exit 2)))
  (.seq (.block 3 (.seq (.region false [48, 49, 50, 51, 52, 53, 54, 55, 56, 138] [48, 49, 50, 51, 52, 53, 54, 55] [⟨(some 48), .move (.t 2), none, []⟩,
    ⟨(some 49), .faddr 1 (.t 3), none, []⟩,
    ⟨(some 50), .load false 1 (.t 49), none, []⟩,
    ⟨(some 51), .move (.t 10), none, []⟩,
    ⟨(some 52), .iaddr 2 (.t 50) (.t 51), none, []⟩,
    ⟨(some 53), .faddr 0 (.t 52), none, []⟩,
    ⟨(some 54), .load false 1 (.t 53), none, []⟩,
    ⟨(some 55), .call 285 [(.t 48), (.t 54)], none, []⟩,
    ⟨(some 56), .un .not (.t 55), none, []⟩])
  (.cond (.t 56)
  (.region true [57, 58, 59, 60, 61, 62, 63, 64, 65, 66, 67, 68, 69, 70, 71, 72, 73, 74, 75, 76] [57, 58, 59, 60, 61, 62, 63, 64, 65, 66, 67, 68, 69, 70, 71, 72, 73, 74, 75, 76] [⟨(some 57), .faddr 1 (.t 8), none, []⟩,
    ⟨(some 58), .load false 1 (.t 57), none, [0]⟩,
    ⟨(some 59), .faddr 1 (.t 3), none, []⟩,
    ⟨(some 60), .load false 1 (.t 59), none, [2]⟩,
    ⟨(some 61), .move (.t 10), none, []⟩,
    ⟨(some 62), .iaddr 2 (.t 60) (.t 61), none, [3, 2, 4]⟩,
    ⟨(some 63), .faddr 0 (.t 62), none, [5, 3, 2, 4]⟩,
    ⟨(some 64), .load false 1 (.t 63), none, [6, 5, 3, 2, 4]⟩,
    ⟨(some 65), .bslice [(.int .i64 0)] 0 [], none, []⟩,
    ⟨(some 66), .faddr 1 (.t 3), none, []⟩,
    ⟨(some 67), .load false 1 (.t 66), none, [9]⟩,
    ⟨(some 68), .move (.t 10), none, []⟩,
    ⟨(some 69), .iaddr 2 (.t 67) (.t 68), none, [10, 9, 11]⟩,
    ⟨(some 70), .faddr 1 (.t 69), none, [12, 10, 9, 11]⟩,
    ⟨(some 71), .load false 1 (.t 70), none, [13, 12, 10, 9, 11]⟩,
    ⟨(some 72), .append 1 (.t 65) (.t 71), none, [8, 14, 13, 12, 10, 9, 11]⟩,
    ⟨(some 73), .build [(.int .i64 0), (.row () [])] [(0, 1, (.t 64)), (1, 1, (.t 72))], none, [7, 6, 5, 3, 2, 4, 15, 8, 14, 13, 12, 10, 9, 11]⟩,
    ⟨(some 74), .bslice [(.int .i64 0), (.row () [])] 1 [(0, (.t 73))], none, [16, 7, 6, 5, 3, 2, 4, 15, 8, 14, 13, 12, 10, 9, 11]⟩,
    ⟨(some 75), .append 2 (.t 58) (.t 74), none, [1, 0, 17, 16, 7, 6, 5, 3, 2, 4, 15, 8, 14, 13, 12, 10, 9, 11]⟩,
    ⟨(some 76), .faddr 1 (.t 8), none, [0, 1, 2, 3, 4, 5, 6, 7, 8, 9, 10, 11, 12, 13, 14, 15, 16, 17, 18]⟩,
    ⟨none, .store 1 (.t 76) (.t 75), none, [19, 0, 1, 2, 3, 4, 5, 6, 7, 8, 9, 10, 11, 12, 13, 14, 15, 16, 17, 18]⟩])
  .skip)))
  (.region false [46, 47] [46, 47] [⟨(some 46), .move (.t 10), none, []⟩,
    ⟨(some 47), .bin .add (.t 46) (.c false [(.int .i64 1)]), none, []⟩,
    ⟨(some 10), .assign (.t 47), none, []⟩]))))))
  (.seq (.seq (.region false [77, 78, 79, 80] [77, 78, 79] [⟨(some 77), .faddr 0 (.t 8), none, []⟩,
    ⟨(some 78), .load false 1 (.t 77), none, []⟩,
    ⟨(some 79), .len false (.t 78), none, []⟩,
    ⟨(some 80), .bin .eql (.t 79) (.c false [(.int .i64 0)]), none, []⟩])
  (.cond (.t 80)
  (.seq (.region false [81] [81] [⟨(some 81), .build [(.row () []), (.row () [])] [], none, []⟩,
    ⟨none, .store 2 (.t 6) (.t 81), none, []⟩,
    ⟨(some 7), .assign (.c false [(.bool false)]), none, []⟩])
  .ret)
  .skip))
  (.seq (.region false [82] [82] [⟨(some 82), .load true 2 (.t 8), none, []⟩,
    ⟨none, .store 2 (.t 6) (.t 82), none, []⟩,
    ⟨(some 7), .assign (.c false [(.bool true)]), none, []⟩])
  .ret)))))))⟩
/- impl.InRange -/
def ir232 : FnIr := ⟨0, 3, 15, [(6, none)], [],
  (.seq (.region false [] [] [⟨(some 6), .assign (.c false [(.bool false)]), none, []⟩])
  (.seq (.region false [7, 8, 9, 10, 11, 12, 13, 14] [7, 8, 9, 10, 11, 12, 13, 14] [⟨(some 7), .move (.t 1), none, []⟩,
    ⟨(some 8), .move (.t 0), none, []⟩,
    ⟨(some 9), .bin .leq (.t 7) (.t 8), none, []⟩,
    ⟨(some 10), .move (.t 9), none, []⟩,
    ⟨(some 11), .move (.t 0), (some (10, true)), []⟩,
    ⟨(some 12), .move (.t 2), (some (10, true)), []⟩,
    ⟨(some 13), .bin .leq (.t 11) (.t 12), (some (10, true)), []⟩,
    ⟨(some 14), .pick (.t 10) (.t 13) (.c false [(.bool false)]), none, []⟩,
    ⟨(some 6), .assign (.t 14), none, []⟩])
  .ret))⟩
/- impl.AreVersions -/
def ir255 : FnIr := ⟨0, 1, 32, [(2, none)], [],
  (.seq (.region false [] [] [⟨(some 2), .assign (.c false [(.bool false)]), none, []⟩])
  (.seq (.seq (.region false [5, 6, 7] [] [⟨(some 5), .move (.t 0), none, []⟩,
    ⟨(some 6), .len false (.t 5), none, []⟩,
    ⟨(some 7), .move (.c false [(.int .i64 0)]), none, []⟩])
  (.block 0 (.loop (.seq (.region false [8] [] [⟨(some 8), .bin .lss (.t 7) (.t 6), none, []⟩])
  (.seq (.cond (.t 8)
  .skip
  (.exit 0))
  (.seq (.block 1 (.seq (.region false [9, 10, 11] [9, 10, 11] [⟨(some 9), .move (.t 7), none, []⟩,
    ⟨(some 10), .iaddr 1 (.t 5) (.t 7), none, []⟩,
    ⟨(some 11), .load false 1 (.t 10), none, []⟩,
    ⟨(some 3), .assign (.t 9), none, []⟩,
    ⟨(some 4), .assign (.t 11), none, []⟩])
  (.seq (.region false [12, 13, 14, 15, 16, 17, 18, 19, 20, 21, 22, 23, 24, 25, 26, 27, 45] [12, 13, 14, 15, 16, 17, 18, 19, 20, 21, 22, 23, 24, 25, 26] [⟨(some 12), .move (.t 4), none, []⟩,
    ⟨(some 13), .call 232 [(.t 12), (.c false [(.int .i64 1)]), (.c false [(.int .i64 9)])], none, []⟩,
    ⟨(some 14), .un .not (.t 13), none, []⟩,
    ⟨(some 15), .move (.t 14), none, []⟩,
    ⟨(some 16), .move (.t 3), (some (15, false)), []⟩,
    ⟨(some 17), .bin .gtr (.t 16) (.c false [(.int .i64 0)]), (some (15, false)), []⟩,
    ⟨(some 18), .move (.t 17), (some (15, false)), []⟩,
    ⟨(some 19), .move (.t 0), (some (18, true)), []⟩,
    ⟨(some 20), .move (.t 3), (some (18, true)), []⟩,
    ⟨(some 21), .bin .sub (.t 20) (.c false [(.int .i64 1)]), (some (18, true)), []⟩,
    ⟨(some 22), .iaddr 1 (.t 19) (.t 21), (some (18, true)), []⟩,
    ⟨(some 23), .load false 1 (.t 22), (some (18, true)), []⟩,
    ⟨(some 24), .move (.t 4), (some (18, true)), []⟩,
    ⟨(some 25), .bin .geq (.t 23) (.t 24), (some (18, true)), []⟩,
    ⟨(some 26), .pick (.t 18) (.t 25) (.c false [(.bool false)]), (some (15, false)), []⟩,
    ⟨(some 27), .pick (.t 15) (.c false [(.bool true)]) (.t 26), none, []⟩])
  (.cond (.t 27)
  (.seq (.region false [] [] [⟨(some 2), .assign (.c false [(.bool false)]), none, []⟩])
  .ret)
  .skip))))
  (.region false [28] [28] [⟨(some 28), .bin .add (.t 7) (.c false [(.int .i64 1)]), none, []⟩,
    ⟨(some 7), .move (.t 28), none, []⟩])))))))
  (.seq (.region false [29, 30, 31] [29, 30, 31] [⟨(some 29), .move (.t 0), none, []⟩,
    ⟨(some 30), .len false (.t 29), none, []⟩,
    ⟨(some 31), .bin .gtr (.t 30) (.c false [(.int .i64 0)]), none, []⟩,
    ⟨(some 2), .assign (.t 31), none, []⟩])
  .ret)))⟩
/- slices.IndexFunc[[]int,int] -/
def ir377 : FnIr := ⟨0, 2, 19, [(4, none)], [],
  (.seq (.region false [] [] [⟨(some 4), .assign (.c false [(.int .i64 0)]), none, []⟩])
  (.seq (.seq (.region false [6, 7, 8] [6] [⟨(some 6), .move (.t 0), none, []⟩,
    ⟨(some 7), .len false (.t 6), none, []⟩,
    ⟨(some 8), .move (.c false [(.int .i64 0)]), none, []⟩])
  (.block 0 (.loop (.seq (.region false [9] [] [⟨(some 9), .bin .lss (.t 8) (.t 7), none, []⟩])
  (.seq (.cond (.t 9)
  .skip
  (.exit 0))
  (.seq (.block 1 (.seq (.region false [10] [10] [⟨(some 10), .move (.t 8), none, []⟩,
    ⟨(some 5), .assign (.t 10), none, []⟩])
  (.seq (.region false [11, 12, 13, 14, 15, 16, 35] [11, 12, 13, 14, 15] [⟨(some 11), .move (.t 1), none, []⟩,
    ⟨(some 12), .move (.t 0), none, []⟩,
    ⟨(some 13), .move (.t 5), none, []⟩,
    ⟨(some 14), .iaddr 1 (.t 12) (.t 13), none, []⟩,
    ⟨(some 15), .load false 1 (.t 14), none, []⟩,
    ⟨(some 16), .callv (.t 11) [(.t 15)], none, []⟩])
  (.cond (.t 16)
  (.seq (.region false [17] [17] [⟨(some 17), .move (.t 5), none, []⟩,
    ⟨(some 4), .assign (.t 17), none, []⟩])
  .ret)
  .skip))))
  (.region false [18] [18] [⟨(some 18), .bin .add (.t 8) (.c false [(.int .i64 1)]), none, []⟩,
    ⟨(some 8), .move (.t 18), none, []⟩])))))))
  (.seq (.region false [] [] [⟨(some 4), .assign (.c false [(.int .i64 (-1))]), none, []⟩])
  .ret)))⟩
/- slices.ContainsFunc[[]int,int] -/
def ir336 : FnIr := ⟨0, 2, 9, [(4, none)], [],
  (.seq (.region false [] [] [⟨(some 4), .assign (.c false [(.bool false)]), none, []⟩])
  (.seq (.region false [5, 6, 7, 8, 16] [5, 6, 7, 8] [⟨(some 5), .move (.t 0), none, []⟩,
    ⟨(some 6), .move (.t 1), none, []⟩,
    ⟨(some 7), .call 377 [(.t 5), (.t 6)], none, []⟩,
    ⟨(some 8), .bin .geq (.t 7) (.c false [(.int .i64 0)]), none, []⟩,
    ⟨(some 4), .assign (.t 8), none, []⟩])
  .ret))⟩
/- impl.areNumbers$1 -/
def ir340 : FnIr := ⟨0, 3, 10, [(4, none)], [],
  (.seq (.region false [] [] [⟨(some 4), .assign (.c false [(.bool false)]), none, []⟩])
  (.seq (.region false [5, 6, 7, 8, 9, 18] [5, 6, 7, 8, 9] [⟨(some 5), .move (.t 0), none, []⟩,
    ⟨(some 6), .load false 1 (.t 1), none, []⟩,
    ⟨(some 7), .load false 1 (.t 2), none, []⟩,
    ⟨(some 8), .call 232 [(.t 5), (.t 6), (.t 7)], none, []⟩,
    ⟨(some 9), .un .not (.t 8), none, []⟩,
    ⟨(some 4), .assign (.t 9), none, []⟩])
  .ret))⟩
/- impl.areNumbers -/
def ir233 : FnIr := ⟨0, 3, 11, [(6, none)], [],
  (.seq (.region false [4, 5, 15, 16] [] [⟨(some 4), .box (.t 1), none, []⟩,
    ⟨(some 5), .box (.t 2), none, []⟩,
    ⟨(some 6), .assign (.c false [(.bool false)]), none, []⟩])
  (.seq (.region false [7, 8, 9, 10, 20] [7, 8, 9, 10] [⟨(some 7), .move (.t 0), none, []⟩,
    ⟨(some 8), .mkfn 340 [4, 5], none, []⟩,
    ⟨(some 9), .call 336 [(.t 7), (.t 8)], none, []⟩,
    ⟨(some 10), .un .not (.t 9), none, []⟩,
    ⟨(some 6), .assign (.t 10), none, []⟩])
  .ret))⟩
/- impl.Ext] -/
def ir351 : FnIr := ⟨0, 2, 19, [(4, none)], [],
  (.seq (.region false [] [] [⟨(some 4), .assign (.c false [(.int .i64 0)]), none, []⟩])
  (.seq (.seq (.region false [6, 7, 8] [6] [⟨(some 6), .move (.t 0), none, []⟩,
    ⟨(some 7), .len false (.t 6), none, []⟩,
    ⟨(some 8), .move (.c false [(.int .i64 0)]), none, []⟩])
  (.block 0 (.loop (.seq (.region false [9] [] [⟨(some 9), .bin .lss (.t 8) (.t 7), none, []⟩])
  (.seq (.cond (.t 9)
  .skip
  (.exit 0))
  (.seq (.block 1 (.seq (.region false [10] [10] [⟨(some 10), .move (.t 8), none, []⟩,
    ⟨(some 5), .assign (.t 10), none, []⟩])
  (.seq (.region false [11, 12, 13, 14, 15, 16, 35] [11, 12, 13, 14, 15] [⟨(some 11), .move (.t 1), none, []⟩,
    ⟨(some 12), .move (.t 0), none, []⟩,
    ⟨(some 13), .move (.t 5), none, []⟩,
    ⟨(some 14), .iaddr 2 (.t 12) (.t 13), none, []⟩,
    ⟨(some 15), .load true 2 (.t 14), none, []⟩,
    ⟨(some 16), .callv (.t 11) [(.t 15)], none, []⟩])
  (.cond (.t 16)
  (.seq (.region false [17] [17] [⟨(some 17), .move (.t 5), none, []⟩,
    ⟨(some 4), .assign (.t 17), none, []⟩])
  .ret)
  .skip))))
  (.region false [18] [18] [⟨(some 18), .bin .add (.t 8) (.c false [(.int .i64 1)]), none, []⟩,
    ⟨(some 8), .move (.t 18), none, []⟩])))))))
  (.seq (.region false [] [] [⟨(some 4), .assign (.c false [(.int .i64 (-1))]), none, []⟩])
  .ret)))⟩
/- impl.ExtOf$1 -/
def ir352 : FnIr := ⟨0, 2, 8, [(3, none)], [],
  (.seq (.region false [2, 10] [] [⟨(some 2), .box (.t 0), none, []⟩,
    ⟨(some 3), .assign (.c false [(.bool false)]), none, []⟩])
  (.seq (.region false [4, 5, 6, 7] [4, 5, 6, 7] [⟨(some 4), .faddr 0 (.t 2), none, []⟩,
    ⟨(some 5), .load false 1 (.t 4), none, []⟩,
    ⟨(some 6), .load false 1 (.t 1), none, []⟩,
    ⟨(some 7), .bin .eql (.t 5) (.t 6), none, []⟩,
    ⟨(some 3), .assign (.t 7), none, []⟩])
  .ret))⟩
/- impl.ExtOf -/
def ir290 : FnIr := ⟨0, 2, 8, [(4, none)], [],
  (.seq (.region false [3, 11] [] [⟨(some 3), .box (.t 1), none, []⟩,
    ⟨(some 4), .assign (.c false [(.int .i64 0)]), none, []⟩])
  (.seq (.region false [5, 6, 7, 15] [5, 6, 7] [⟨(some 5), .move (.t 0), none, []⟩,
    ⟨(some 6), .mkfn 352 [3], none, []⟩,
    ⟨(some 7), .call 351 [(.t 5), (.t 6)], none, []⟩,
    ⟨(some 4), .assign (.t 7), none, []⟩])
  .ret))⟩
/- impl.AreExts -/
def ir258 : FnIr := ⟨0, 1, 41, [(2, none)], [],
  (.seq (.region false [] [] [⟨(some 2), .assign (.c false [(.bool false)]), none, []⟩])
  (.seq (.seq (.region false [5, 6, 7] [] [⟨(some 5), .move (.t 0), none, []⟩,
    ⟨(some 6), .len false (.t 5), none, []⟩,
    ⟨(some 7), .move (.c false [(.int .i64 0)]), none, []⟩])
  (.block 0 (.loop (.seq (.region false [8] [] [⟨(some 8), .bin .lss (.t 7) (.t 6), none, []⟩])
  (.seq (.cond (.t 8)
  .skip
  (.exit 0))
  (.seq (.block 1 (.seq (.region false [9, 10, 11, 4, 45] [9, 10, 11] [⟨(some 9), .move (.t 7), none, []⟩,
    ⟨(some 10), .iaddr 2 (.t 5) (.t 7), none, []⟩,
    ⟨(some 11), .load true 2 (.t 10), none, []⟩,
    ⟨(some 4), .alloc [(.int .i64 0), (.row () [])], none, []⟩,
    ⟨(some 3), .assign (.t 9), none, []⟩,
    ⟨none, .store 2 (.t 4) (.t 11), none, []⟩])
  (.seq (.region true [12, 13, 14, 15, 16, 17, 18, 19, 20, 21, 22, 23, 24, 25, 26, 27, 28, 29, 30, 31, 32, 33, 34, 35, 36, 55, 63, 75] [12, 13, 14, 15, 16, 17, 18, 19, 20, 21, 22, 23, 24, 25, 26, 27, 28, 29, 30, 31, 32, 33, 34, 35] [⟨(some 12), .faddr 0 (.t 4), none, []⟩,
    ⟨(some 13), .load false 1 (.t 12), none, [0]⟩,
    ⟨(some 14), .call 232 [(.t 13), (.c false [(.int .i64 0)]), (.c false [(.int .i64 255)])], none, [1, 0]⟩,
    ⟨(some 15), .un .not (.t 14), none, [2, 1, 0]⟩,
    ⟨(some 16), .move (.t 15), none, [3, 2, 1, 0]⟩,
    ⟨(some 17), .move (.t 0), (some (16, false)), [4, 3, 2, 1, 0]⟩,
    ⟨(some 18), .move (.t 3), (some (16, false)), [4, 3, 2, 1, 0]⟩,
    ⟨(some 19), .slice 2 (.t 17) none (some (.t 18)), (some (16, false)), [5, 4, 3, 2, 1, 0, 6]⟩,
    ⟨(some 20), .faddr 0 (.t 4), (some (16, false)), [4, 3, 2, 1, 0]⟩,
    ⟨(some 21), .load false 1 (.t 20), (some (16, false)), [8, 4, 3, 2, 1, 0]⟩,
    ⟨(some 22), .call 290 [(.t 19), (.t 21)], (some (16, false)), [7, 5, 4, 3, 2, 1, 0, 6, 9, 8]⟩,
    ⟨(some 23), .bin .geq (.t 22) (.c false [(.int .i64 0)]), (some (16, false)), [10, 7, 5, 4, 3, 2, 1, 0, 6, 9, 8]⟩,
    ⟨(some 24), .pick (.t 16) (.c false [(.bool true)]) (.t 23), none, [4, 3, 2, 1, 0, 11, 10, 7, 5, 6, 9, 8]⟩,
    ⟨(some 25), .move (.t 24), none, [12, 4, 3, 2, 1, 0, 11, 10, 7, 5, 6, 9, 8]⟩,
    ⟨(some 26), .faddr 1 (.t 4), (some (25, false)), [13, 12, 4, 3, 2, 1, 0, 11, 10, 7, 5, 6, 9, 8]⟩,
    ⟨(some 27), .load false 1 (.t 26), (some (25, false)), [14, 13, 12, 4, 3, 2, 1, 0, 11, 10, 7, 5, 6, 9, 8]⟩,
    ⟨(some 28), .len false (.t 27), (some (25, false)), [15, 14, 13, 12, 4, 3, 2, 1, 0, 11, 10, 7, 5, 6, 9, 8]⟩,
    ⟨(some 29), .bin .gtr (.t 28) (.c false [(.int .i64 4)]), (some (25, false)), [16, 15, 14, 13, 12, 4, 3, 2, 1, 0, 11, 10, 7, 5, 6, 9, 8]⟩,
    ⟨(some 30), .pick (.t 25) (.c false [(.bool true)]) (.t 29), none, [13, 12, 4, 3, 2, 1, 0, 11, 10, 7, 5, 6, 9, 8, 17, 16, 15, 14]⟩,
    ⟨(some 31), .move (.t 30), none, [18, 13, 12, 4, 3, 2, 1, 0, 11, 10, 7, 5, 6, 9, 8, 17, 16, 15, 14]⟩,
    ⟨(some 32), .faddr 1 (.t 4), (some (31, false)), [19, 18, 13, 12, 4, 3, 2, 1, 0, 11, 10, 7, 5, 6, 9, 8, 17, 16, 15, 14]⟩,
    ⟨(some 33), .load false 1 (.t 32), (some (31, false)), [20, 19, 18, 13, 12, 4, 3, 2, 1, 0, 11, 10, 7, 5, 6, 9, 8, 17, 16, 15, 14]⟩,
    ⟨(some 34), .call 233 [(.t 33), (.c false [(.int .i64 0)]), (.c false [(.int .i64 255)])], (some (31, false)), [21, 20, 19, 18, 13, 12, 4, 3, 2, 1, 0, 11, 10, 7, 5, 6, 9, 8, 17, 16, 15, 14]⟩,
    ⟨(some 35), .un .not (.t 34), (some (31, false)), [22, 21, 20, 19, 18, 13, 12, 4, 3, 2, 1, 0, 11, 10, 7, 5, 6, 9, 8, 17, 16, 15, 14]⟩,
    ⟨(some 36), .pick (.t 31) (.c false [(.bool true)]) (.t 35), none, [19, 18, 13, 12, 4, 3, 2, 1, 0, 11, 10, 7, 5, 6, 9, 8, 17, 16, 15, 14, 23, 22, 21, 20]⟩])
  (.cond (.t 36)
  (.seq (.region false [] [] [⟨(some 2), .assign (.c false [(.bool false)]), none, []⟩])
  .ret)
  .skip))))
  (.region false [37] [37] [⟨(some 37), .bin .add (.t 7) (.c false [(.int .i64 1)]), none, []⟩,
    ⟨(some 7), .move (.t 37), none, []⟩])))))))
  (.seq (.region false [38, 39, 40] [38, 39, 40] [⟨(some 38), .move (.t 0), none, []⟩,
    ⟨(some 39), .len false (.t 38), none, []⟩,
    ⟨(some 40), .bin .leq (.t 39) (.c false [(.int .i64 6)]), none, []⟩,
    ⟨(some 2), .assign (.t 40), none, []⟩])
  .ret)))⟩
/- impl.IsHello -/
def ir113 : FnIr := ⟨0, 1, 11, [(2, none)], [],
  (.seq (.region false [1, 12] [] [⟨(some 1), .box (.t 0), none, []⟩,
    ⟨(some 2), .assign (.c false [(.bool false)]), none, []⟩])
  (.seq (.region false [3, 4, 5, 6, 7, 8, 9, 10, 16, 20] [3, 4, 5, 6, 7, 8, 9, 10] [⟨(some 3), .faddr 0 (.t 1), none, []⟩,
    ⟨(some 4), .load false 1 (.t 3), none, []⟩,
    ⟨(some 5), .call 255 [(.t 4)], none, []⟩,
    ⟨(some 6), .move (.t 5), none, []⟩,
    ⟨(some 7), .faddr 1 (.t 1), (some (6, true)), []⟩,
    ⟨(some 8), .load false 1 (.t 7), (some (6, true)), []⟩,
    ⟨(some 9), .call 258 [(.t 8)], (some (6, true)), []⟩,
    ⟨(some 10), .pick (.t 6) (.t 9) (.c false [(.bool false)]), none, []⟩,
    ⟨(some 2), .assign (.t 10), none, []⟩])
  .ret))⟩
/- impl.keptExts -/
def ir264 : FnIr := ⟨0, 2, 31, [(4, none)], [],
  (.seq (.region false [] [] [⟨(some 4), .assign (.c false [(.row () [])]), none, []⟩])
  (.seq (.region false [8] [8] [⟨(some 8), .bslice [(.int .i64 0), (.row () [])] 0 [], none, []⟩,
    ⟨(some 5), .assign (.t 8), none, []⟩])
  (.seq (.seq (.region false [9, 10, 11] [] [⟨(some 9), .move (.t 0), none, []⟩,
    ⟨(some 10), .len false (.t 9), none, []⟩,
    ⟨(some 11), .move (.c false [(.int .i64 0)]), none, []⟩])
  (.block 0 (.loop (.seq (.region false [12] [] [⟨(some 12), .bin .lss (.t 11) (.t 10), none, []⟩])
  (.seq (.cond (.t 12)
  .skip
  (.exit 0))
  (.seq (.block 1 (.seq (.region false [13, 14, 7, 38] [13, 14] [⟨(some 13), .iaddr 2 (.t 9) (.t 11), none, []⟩,
    ⟨(some 14), .load true 2 (.t 13), none, []⟩,
    ⟨(some 7), .alloc [(.int .i64 0), (.row () [])], none, []⟩,
    ⟨none, .store 2 (.t 7) (.t 14), none, []⟩])
  (.seq (.region false [15, 16, 17, 18, 49] [15, 16, 17] [⟨(some 15), .move (.t 1), none, []⟩,
    ⟨(some 16), .faddr 0 (.t 7), none, []⟩,
    ⟨(some 17), .load false 1 (.t 16), none, []⟩,
    ⟨(some 18), .callv (.t 15) [(.t 17)], none, []⟩])
  (.cond (.t 18)
  (.region true [19, 20, 21, 22, 23, 24, 25, 26, 27, 28] [19, 20, 21, 22, 23, 24, 25, 26, 27, 28] [⟨(some 19), .move (.t 5), none, []⟩,
    ⟨(some 20), .faddr 0 (.t 7), none, []⟩,
    ⟨(some 21), .load false 1 (.t 20), none, [1]⟩,
    ⟨(some 22), .bslice [(.int .i64 0)] 0 [], none, []⟩,
    ⟨(some 23), .faddr 1 (.t 7), none, []⟩,
    ⟨(some 24), .load false 1 (.t 23), none, [4]⟩,
    ⟨(some 25), .append 1 (.t 22) (.t 24), none, [3, 5, 4]⟩,
    ⟨(some 26), .build [(.int .i64 0), (.row () [])] [(0, 1, (.t 21)), (1, 1, (.t 25))], none, [2, 1, 6, 3, 5, 4]⟩,
    ⟨(some 27), .bslice [(.int .i64 0), (.row () [])] 1 [(0, (.t 26))], none, [7, 2, 1, 6, 3, 5, 4]⟩,
    ⟨(some 28), .append 2 (.t 19) (.t 27), none, [0, 8, 7, 2, 1, 6, 3, 5, 4]⟩,
    ⟨(some 5), .assign (.t 28), none, [9, 0, 8, 7, 2, 1, 6, 3, 5, 4]⟩])
  .skip))))
  (.region false [29] [29] [⟨(some 29), .bin .add (.t 11) (.c false [(.int .i64 1)]), none, []⟩,
    ⟨(some 11), .move (.t 29), none, []⟩])))))))
  (.seq (.region false [30] [30] [⟨(some 30), .move (.t 5), none, []⟩,
    ⟨(some 4), .assign (.t 30), none, []⟩])
  .ret))))⟩
/- slices.Index[[]int,int] -/
def ir354 : FnIr := ⟨0, 2, 19, [(4, none)], [],
  (.seq (.region false [] [] [⟨(some 4), .assign (.c false [(.int .i64 0)]), none, []⟩])
  (.seq (.seq (.region false [6, 7, 8] [6] [⟨(some 6), .move (.t 0), none, []⟩,
    ⟨(some 7), .len false (.t 6), none, []⟩,
    ⟨(some 8), .move (.c false [(.int .i64 0)]), none, []⟩])
  (.block 0 (.loop (.seq (.region false [9] [] [⟨(some 9), .bin .lss (.t 8) (.t 7), none, []⟩])
  (.seq (.cond (.t 9)
  .skip
  (.exit 0))
  (.seq (.block 1 (.seq (.region false [10] [10] [⟨(some 10), .move (.t 8), none, []⟩,
    ⟨(some 5), .assign (.t 10), none, []⟩])
  (.seq (.region false [11, 12, 13, 14, 15, 16] [11, 12, 13, 14, 15] [⟨(some 11), .move (.t 1), none, []⟩,
    ⟨(some 12), .move (.t 0), none, []⟩,
    ⟨(some 13), .move (.t 5), none, []⟩,
    ⟨(some 14), .iaddr 1 (.t 12) (.t 13), none, []⟩,
    ⟨(some 15), .load false 1 (.t 14), none, []⟩,
    ⟨(some 16), .bin .eql (.t 11) (.t 15), none, []⟩])
  (.cond (.t 16)
  (.seq (.region false [17] [17] [⟨(some 17), .move (.t 5), none, []⟩,
    ⟨(some 4), .assign (.t 17), none, []⟩])
  .ret)
  .skip))))
  (.region false [18] [18] [⟨(some 18), .bin .add (.t 8) (.c false [(.int .i64 1)]), none, []⟩,
    ⟨(some 8), .move (.t 18), none, []⟩])))))))
  (.seq (.region false [] [] [⟨(some 4), .assign (.c false [(.int .i64 (-1))]), none, []⟩])
  .ret)))⟩
/- slices.Contains[[]int,int] -/
def ir302 : FnIr := ⟨0, 2, 9, [(4, none)], [],
  (.seq (.region false [] [] [⟨(some 4), .assign (.c false [(.bool false)]), none, []⟩])
  (.seq (.region false [5, 6, 7, 8, 16] [5, 6, 7, 8] [⟨(some 5), .move (.t 0), none, []⟩,
    ⟨(some 6), .move (.t 1), none, []⟩,
    ⟨(some 7), .call 354 [(.t 5), (.t 6)], none, []⟩,
    ⟨(some 8), .bin .geq (.t 7) (.c false [(.int .i64 0)]), none, []⟩,
    ⟨(some 4), .assign (.t 8), none, []⟩])
  .ret))⟩
/- impl.without -/
def ir287 : FnIr := ⟨0, 2, 25, [(4, none)], [],
  (.seq (.region false [] [] [⟨(some 4), .assign (.c false [(.row () [])]), none, []⟩])
  (.seq (.region false [8] [8] [⟨(some 8), .bslice [(.int .i64 0)] 0 [], none, []⟩,
    ⟨(some 5), .assign (.t 8), none, []⟩])
  (.seq (.seq (.region false [9, 10, 11] [] [⟨(some 9), .move (.t 0), none, []⟩,
    ⟨(some 10), .len false (.t 9), none, []⟩,
    ⟨(some 11), .move (.c false [(.int .i64 0)]), none, []⟩])
  (.block 0 (.loop (.seq (.region false [12] [] [⟨(some 12), .bin .lss (.t 11) (.t 10), none, []⟩])
  (.seq (.cond (.t 12)
  .skip
  (.exit 0))
  (.seq (.block 1 (.seq (.region false [13, 14] [13, 14] [⟨(some 13), .iaddr 1 (.t 9) (.t 11), none, []⟩,
    ⟨(some 14), .load false 1 (.t 13), none, []⟩,
    ⟨(some 7), .assign (.t 14), none, []⟩])
  (.seq (.region false [15, 16, 17, 18, 42] [15, 16, 17] [⟨(some 15), .move (.t 1), none, []⟩,
    ⟨(some 16), .move (.t 7), none, []⟩,
    ⟨(some 17), .call 302 [(.t 15), (.t 16)], none, []⟩,
    ⟨(some 18), .un .not (.t 17), none, []⟩])
  (.cond (.t 18)
  (.region false [19, 20, 21, 22] [19, 20, 21, 22] [⟨(some 19), .move (.t 5), none, []⟩,
    ⟨(some 20), .move (.t 7), none, []⟩,
    ⟨(some 21), .bslice [(.int .i64 0)] 1 [(0, (.t 20))], none, []⟩,
    ⟨(some 22), .append 1 (.t 19) (.t 21), none, []⟩,
    ⟨(some 5), .assign (.t 22), none, []⟩])
  .skip))))
  (.region false [23] [23] [⟨(some 23), .bin .add (.t 11) (.c false [(.int .i64 1)]), none, []⟩,
    ⟨(some 11), .move (.t 23), none, []⟩])))))))
  (.seq (.region false [24] [24] [⟨(some 24), .move (.t 5), none, []⟩,
    ⟨(some 4), .assign (.t 24), none, []⟩])
  .ret))))⟩
/- impl.PartHello$1 -/
def ir305 : FnIr := ⟨0, 2, 8, [(3, none)], [],
  (.seq (.region false [] [] [⟨(some 3), .assign (.c false [(.bool false)]), none, []⟩])
  (.seq (.region false [4, 5, 6, 7, 14] [4, 5, 6, 7] [⟨(some 4), .load false 1 (.t 1), none, []⟩,
    ⟨(some 5), .move (.t 0), none, []⟩,
    ⟨(some 6), .call 302 [(.t 4), (.t 5)], none, []⟩,
    ⟨(some 7), .un .not (.t 6), none, []⟩,
    ⟨(some 3), .assign (.t 7), none, []⟩])
  .ret))⟩
/- impl.PartHello -/
def ir165 : FnIr := ⟨0, 3, 28, [(6, (some (true, 2))), (7, none)], [],
  (.seq (.region false [3, 5, 6, 31, 33, 34] [] [⟨(some 3), .box (.t 0), none, []⟩,
    ⟨(some 5), .box (.t 2), none, []⟩,
    ⟨(some 6), .alloc [(.row () []), (.row () [])], none, []⟩,
    ⟨(some 7), .assign (.c false [(.bool false)]), none, []⟩])
  (.seq (.region false [9, 10, 11, 12, 40] [9, 10, 11, 12] [⟨(some 9), .faddr 0 (.t 3), none, []⟩,
    ⟨(some 10), .load false 1 (.t 9), none, []⟩,
    ⟨(some 11), .move (.t 1), none, []⟩,
    ⟨(some 12), .call 287 [(.t 10), (.t 11)], none, []⟩,
    ⟨(some 8), .assign (.t 12), none, []⟩])
  (.seq (.seq (.region false [13, 14, 15, 16, 17, 18, 19, 20, 42] [13, 14, 15, 16, 17, 18, 19] [⟨(some 13), .load true 2 (.t 3), none, []⟩,
    ⟨(some 14), .call 113 [(.t 13)], none, []⟩,
    ⟨(some 15), .un .not (.t 14), none, []⟩,
    ⟨(some 16), .move (.t 15), none, []⟩,
    ⟨(some 17), .move (.t 8), (some (16, false)), []⟩,
    ⟨(some 18), .len false (.t 17), (some (16, false)), []⟩,
    ⟨(some 19), .bin .eql (.t 18) (.c false [(.int .i64 0)]), (some (16, false)), []⟩,
    ⟨(some 20), .pick (.t 16) (.c false [(.bool true)]) (.t 19), none, []⟩])
  (.cond (.t 20)
  (.seq (.region false [21] [21] [⟨(some 21), .build [(.row () []), (.row () [])] [], none, []⟩,
    ⟨none, .store 2 (.t 6) (.t 21), none, []⟩,
    ⟨(some 7), .assign (.c false [(.bool false)]), none, []⟩])
  .ret)
  .skip))
  (.seq (.region false [22, 23, 24, 25, 26, 27, 54] [22, 23, 24, 25, 26, 27] [⟨(some 22), .move (.t 8), none, []⟩,
    ⟨(some 23), .faddr 1 (.t 3), none, []⟩,
    ⟨(some 24), .load false 1 (.t 23), none, []⟩,
    ⟨(some 25), .mkfn 305 [5], none, []⟩,
    ⟨(some 26), .call 264 [(.t 24), (.t 25)], none, []⟩,
    ⟨(some 27), .build [(.row () []), (.row () [])] [(0, 1, (.t 22)), (1, 1, (.t 26))], none, []⟩,
    ⟨none, .store 2 (.t 6) (.t 27), none, []⟩,
    ⟨(some 7), .assign (.c false [(.bool true)]), none, []⟩])
  .ret))))⟩
/- laws.toIntS -/
def ir76 : FnIr := ⟨0, 1, 22, [(2, none)], [],
  (.seq (.region false [] [] [⟨(some 2), .assign (.c false [(.row () [])]), none, []⟩])
  (.seq (.region false [5, 6, 7] [5, 6, 7] [⟨(some 5), .move (.t 0), none, []⟩,
    ⟨(some 6), .len false (.t 5), none, []⟩,
    ⟨(some 7), .mkslice [(.int .i64 0)] (.t 6) (.t 6), none, []⟩,
    ⟨(some 3), .assign (.t 7), none, []⟩])
  (.seq (.seq (.region false [] [] [⟨(some 4), .assign (.c false [(.int .i64 0)]), none, []⟩])
  (.block 0 (.loop (.seq (.seq (.region false [8, 9, 10, 11] [8, 9, 10] [⟨(some 8), .move (.t 4), none, []⟩,
    ⟨(some 9), .move (.t 0), none, []⟩,
    ⟨(some 10), .len false (.t 9), none, []⟩,
    ⟨(some 11), .bin .lss (.t 8) (.t 10), none, []⟩])
  (.cond (.t 11)
  .skip
  (.exit 0)))
  (.seq (.block 1 (.region false [14, 15, 16, 17, 18, 19, 20] [14, 15, 16, 17, 18, 19, 20] [⟨(some 14), .move (.t 3), none, []⟩,
    ⟨(some 15), .move (.t 4), none, []⟩,
    ⟨(some 16), .move (.t 0), none, []⟩,
    ⟨(some 17), .move (.t 4), none, []⟩,
    ⟨(some 18), .iaddr 1 (.t 16) (.t 17), none, []⟩,
    ⟨(some 19), .load false 1 (.t 18), none, []⟩,
    ⟨(some 20), .iaddr 1 (.t 14) (.t 15), none, []⟩,
    ⟨none, .rstore 1 (.t 20) (.t 19), none, []⟩]))
  (.region false [12, 13] [12, 13] [⟨(some 12), .move (.t 4), none, []⟩,
    ⟨(some 13), .bin .add (.t 12) (.c false [(.int .i64 1)]), none, []⟩,
    ⟨(some 4), .assign (.t 13), none, []⟩]))))))
  (.seq (.region false [21] [21] [⟨(some 21), .move (.t 3), none, []⟩,
    ⟨(some 2), .assign (.t 21), none, []⟩])
  .ret))))⟩
/- laws.eqIntS -/
def ir79 : FnIr := ⟨0, 2, 26, [(4, none)], [],
  (.seq (.region false [] [] [⟨(some 4), .assign (.c false [(.bool false)]), none, []⟩])
  (.seq (.seq (.region false [6, 7, 8, 9, 10] [6, 7, 8, 9] [⟨(some 6), .move (.t 0), none, []⟩,
    ⟨(some 7), .len false (.t 6), none, []⟩,
    ⟨(some 8), .move (.t 1), none, []⟩,
    ⟨(some 9), .len false (.t 8), none, []⟩,
    ⟨(some 10), .bin .neq (.t 7) (.t 9), none, []⟩])
  (.cond (.t 10)
  (.seq (.region false [] [] [⟨(some 4), .assign (.c false [(.bool false)]), none, []⟩])
  .ret)
  .skip))
  (.seq (.seq (.region false [] [] [⟨(some 5), .assign (.c false [(.int .i64 0)]), none, []⟩])
  (.block 0 (.loop (.seq (.seq (.region false [11, 12, 13, 14] [11, 12, 13] [⟨(some 11), .move (.t 5), none, []⟩,
    ⟨(some 12), .move (.t 0), none, []⟩,
    ⟨(some 13), .len false (.t 12), none, []⟩,
    ⟨(some 14), .bin .lss (.t 11) (.t 13), none, []⟩])
  (.cond (.t 14)
  .skip
  (.exit 0)))
  (.seq (.block 1 (.seq (.region true [17, 18, 19, 20, 21, 22, 23, 24, 25] [17, 18, 19, 20, 21, 22, 23, 24] [⟨(some 17), .move (.t 0), none, []⟩,
    ⟨(some 18), .move (.t 5), none, []⟩,
    ⟨(some 19), .iaddr 1 (.t 17) (.t 18), none, [0, 1]⟩,
    ⟨(some 20), .load false 1 (.t 19), none, [2, 0, 1]⟩,
    ⟨(some 21), .move (.t 1), none, []⟩,
    ⟨(some 22), .move (.t 5), none, []⟩,
    ⟨(some 23), .iaddr 1 (.t 21) (.t 22), none, [4, 5]⟩,
    ⟨(some 24), .load false 1 (.t 23), none, [6, 4, 5]⟩,
    ⟨(some 25), .bin .neq (.t 20) (.t 24), none, [3, 2, 0, 1, 7, 6, 4, 5]⟩])
  (.cond (.t 25)
  (.seq (.region false [] [] [⟨(some 4), .assign (.c false [(.bool false)]), none, []⟩])
  .ret)
  .skip)))
  (.region false [15, 16] [15, 16] [⟨(some 15), .move (.t 5), none, []⟩,
    ⟨(some 16), .bin .add (.t 15) (.c false [(.int .i64 1)]), none, []⟩,
    ⟨(some 5), .assign (.t 16), none, []⟩]))))))
  (.seq (.region false [] [] [⟨(some 4), .assign (.c false [(.bool true)]), none, []⟩])
  .ret))))⟩
/- laws.eqExt -/
def ir321 : FnIr := ⟨0, 2, 16, [(4, none)], [],
  (.seq (.region false [2, 3, 18, 19] [] [⟨(some 2), .box (.t 0), none, []⟩,
    ⟨(some 3), .box (.t 1), none, []⟩,
    ⟨(some 4), .assign (.c false [(.bool false)]), none, []⟩])
  (.seq (.seq (.region false [5, 6, 7, 8, 9] [5, 6, 7, 8] [⟨(some 5), .faddr 0 (.t 2), none, []⟩,
    ⟨(some 6), .load false 1 (.t 5), none, []⟩,
    ⟨(some 7), .faddr 0 (.t 3), none, []⟩,
    ⟨(some 8), .load false 1 (.t 7), none, []⟩,
    ⟨(some 9), .bin .neq (.t 6) (.t 8), none, []⟩])
  (.cond (.t 9)
  (.seq (.region false [] [] [⟨(some 4), .assign (.c false [(.bool false)]), none, []⟩])
  .ret)
  .skip))
  (.seq (.seq (.region false [10, 11, 12, 13, 14, 15, 30] [10, 11, 12, 13, 14] [⟨(some 10), .faddr 1 (.t 2), none, []⟩,
    ⟨(some 11), .load false 1 (.t 10), none, []⟩,
    ⟨(some 12), .faddr 1 (.t 3), none, []⟩,
    ⟨(some 13), .load false 1 (.t 12), none, []⟩,
    ⟨(some 14), .call 79 [(.t 11), (.t 13)], none, []⟩,
    ⟨(some 15), .un .not (.t 14), none, []⟩])
  (.cond (.t 15)
  (.seq (.region false [] [] [⟨(some 4), .assign (.c false [(.bool false)]), none, []⟩])
  .ret)
  .skip))
  (.seq (.region false [] [] [⟨(some 4), .assign (.c false [(.bool true)]), none, []⟩])
  .ret))))⟩
/- laws.eqExtS -/
def ir200 : FnIr := ⟨0, 2, 27, [(4, none)], [],
  (.seq (.region false [] [] [⟨(some 4), .assign (.c false [(.bool false)]), none, []⟩])
  (.seq (.seq (.region false [6, 7, 8, 9, 10] [6, 7, 8, 9] [⟨(some 6), .move (.t 0), none, []⟩,
    ⟨(some 7), .len false (.t 6), none, []⟩,
    ⟨(some 8), .move (.t 1), none, []⟩,
    ⟨(some 9), .len false (.t 8), none, []⟩,
    ⟨(some 10), .bin .neq (.t 7) (.t 9), none, []⟩])
  (.cond (.t 10)
  (.seq (.region false [] [] [⟨(some 4), .assign (.c false [(.bool false)]), none, []⟩])
  .ret)
  .skip))
  (.seq (.seq (.region false [] [] [⟨(some 5), .assign (.c false [(.int .i64 0)]), none, []⟩])
  (.block 0 (.loop (.seq (.seq (.region false [11, 12, 13, 14] [11, 12, 13] [⟨(some 11), .move (.t 5), none, []⟩,
    ⟨(some 12), .move (.t 0), none, []⟩,
    ⟨(some 13), .len false (.t 12), none, []⟩,
    ⟨(some 14), .bin .lss (.t 11) (.t 13), none, []⟩])
  (.cond (.t 14)
  .skip
  (.exit 0)))
  (.seq (.block 1 (.seq (.region true [17, 18, 19, 20, 21, 22, 23, 24, 25, 26, 52] [17, 18, 19, 20, 21, 22, 23, 24, 25] [⟨(some 17), .move (.t 0), none, []⟩,
    ⟨(some 18), .move (.t 5), none, []⟩,
    ⟨(some 19), .iaddr 2 (.t 17) (.t 18), none, [0, 1]⟩,
    ⟨(some 20), .load true 2 (.t 19), none, [2, 0, 1]⟩,
    ⟨(some 21), .move (.t 1), none, []⟩,
    ⟨(some 22), .move (.t 5), none, []⟩,
    ⟨(some 23), .iaddr 2 (.t 21) (.t 22), none, [4, 5]⟩,
    ⟨(some 24), .load true 2 (.t 23), none, [6, 4, 5]⟩,
    ⟨(some 25), .call 321 [(.t 20), (.t 24)], none, [3, 2, 0, 1, 7, 6, 4, 5]⟩,
    ⟨(some 26), .un .not (.t 25), none, [8, 3, 2, 0, 1, 7, 6, 4, 5]⟩])
  (.cond (.t 26)
  (.seq (.region false [] [] [⟨(some 4), .assign (.c false [(.bool false)]), none, []⟩])
  .ret)
  .skip)))
  (.region false [15, 16] [15, 16] [⟨(some 15), .move (.t 5), none, []⟩,
    ⟨(some 16), .bin .add (.t 15) (.c false [(.int .i64 1)]), none, []⟩,
    ⟨(some 5), .assign (.t 16), none, []⟩]))))))
  (.seq (.region false [] [] [⟨(some 4), .assign (.c false [(.bool true)]), none, []⟩])
  .ret))))⟩
/- laws.eqHello -/
def ir78 : FnIr := ⟨0, 2, 17, [(4, none)], [],
  (.seq (.region false [2, 3, 19, 20] [] [⟨(some 2), .box (.t 0), none, []⟩,
    ⟨(some 3), .box (.t 1), none, []⟩,
    ⟨(some 4), .assign (.c false [(.bool false)]), none, []⟩])
  (.seq (.seq (.region false [5, 6, 7, 8, 9, 10, 26] [5, 6, 7, 8, 9] [⟨(some 5), .faddr 0 (.t 2), none, []⟩,
    ⟨(some 6), .load false 1 (.t 5), none, []⟩,
    ⟨(some 7), .faddr 0 (.t 3), none, []⟩,
    ⟨(some 8), .load false 1 (.t 7), none, []⟩,
    ⟨(some 9), .call 79 [(.t 6), (.t 8)], none, []⟩,
    ⟨(some 10), .un .not (.t 9), none, []⟩])
  (.cond (.t 10)
  (.seq (.region false [] [] [⟨(some 4), .assign (.c false [(.bool false)]), none, []⟩])
  .ret)
  .skip))
  (.seq (.seq (.region false [11, 12, 13, 14, 15, 16, 32] [11, 12, 13, 14, 15] [⟨(some 11), .faddr 1 (.t 2), none, []⟩,
    ⟨(some 12), .load false 1 (.t 11), none, []⟩,
    ⟨(some 13), .faddr 1 (.t 3), none, []⟩,
    ⟨(some 14), .load false 1 (.t 13), none, []⟩,
    ⟨(some 15), .call 200 [(.t 12), (.t 14)], none, []⟩,
    ⟨(some 16), .un .not (.t 15), none, []⟩])
  (.cond (.t 16)
  (.seq (.region false [] [] [⟨(some 4), .assign (.c false [(.bool false)]), none, []⟩])
  .ret)
  .skip))
  (.seq (.region false [] [] [⟨(some 4), .assign (.c false [(.bool true)]), none, []⟩])
  .ret))))⟩
/- laws.heldIntS -/
def ir125 : FnIr := ⟨0, 2, 21, [(4, none)], [],
  (.seq (.region false [] [] [⟨(some 4), .assign (.c false [(.int .i64 0)]), none, []⟩])
  (.seq (.seq (.region false [] [] [⟨(some 5), .assign (.c false [(.int .i64 0)]), none, []⟩])
  (.block 0 (.loop (.seq (.seq (.region false [6, 7, 8, 9] [6, 7, 8] [⟨(some 6), .move (.t 5), none, []⟩,
    ⟨(some 7), .move (.t 0), none, []⟩,
    ⟨(some 8), .len false (.t 7), none, []⟩,
    ⟨(some 9), .bin .lss (.t 6) (.t 8), none, []⟩])
  (.cond (.t 9)
  .skip
  (.exit 0)))
  (.seq (.block 1 (.seq (.seq (.region false [12, 13, 14, 15, 16, 17] [12, 13, 14, 15, 16] [⟨(some 12), .move (.t 0), none, []⟩,
    ⟨(some 13), .move (.t 5), none, []⟩,
    ⟨(some 14), .iaddr 1 (.t 12) (.t 13), none, []⟩,
    ⟨(some 15), .load false 1 (.t 14), none, []⟩,
    ⟨(some 16), .move (.t 1), none, []⟩,
    ⟨(some 17), .bin .neq (.t 15) (.t 16), none, []⟩])
  (.cond (.t 17)
  (.seq (.region false [] [] [⟨(some 4), .assign (.c false [(.int .i64 (-1))]), none, []⟩])
  .ret)
  .skip))
  (.region false [18, 19] [18, 19] [⟨(some 18), .move (.t 1), none, []⟩,
    ⟨(some 19), .bin .add (.t 18) (.c false [(.int .i64 1)]), none, []⟩,
    ⟨(some 1), .assign (.t 19), none, []⟩])))
  (.region false [10, 11] [10, 11] [⟨(some 10), .move (.t 5), none, []⟩,
    ⟨(some 11), .bin .add (.t 10) (.c false [(.int .i64 1)]), none, []⟩,
    ⟨(some 5), .assign (.t 11), none, []⟩]))))))
  (.seq (.region false [20] [20] [⟨(some 20), .move (.t 1), none, []⟩,
    ⟨(some 4), .assign (.t 20), none, []⟩])
  .ret)))⟩
/- laws.heldExtS -/
def ir236 : FnIr := ⟨0, 2, 31, [(4, none)], [],
  (.seq (.region false [] [] [⟨(some 4), .assign (.c false [(.int .i64 0)]), none, []⟩])
  (.seq (.seq (.region false [] [] [⟨(some 5), .assign (.c false [(.int .i64 0)]), none, []⟩])
  (.block 0 (.loop (.seq (.seq (.region false [6, 7, 8, 9] [6, 7, 8] [⟨(some 6), .move (.t 5), none, []⟩,
    ⟨(some 7), .move (.t 0), none, []⟩,
    ⟨(some 8), .len false (.t 7), none, []⟩,
    ⟨(some 9), .bin .lss (.t 6) (.t 8), none, []⟩])
  (.cond (.t 9)
  .skip
  (.exit 0)))
  (.seq (.block 1 (.seq (.seq (.region false [12, 13, 14, 15, 16, 17, 18] [12, 13, 14, 15, 16, 17] [⟨(some 12), .move (.t 0), none, []⟩,
    ⟨(some 13), .move (.t 5), none, []⟩,
    ⟨(some 14), .iaddr 2 (.t 12) (.t 13), none, []⟩,
    ⟨(some 15), .faddr 0 (.t 14), none, []⟩,
    ⟨(some 16), .load false 1 (.t 15), none, []⟩,
    ⟨(some 17), .move (.t 1), none, []⟩,
    ⟨(some 18), .bin .neq (.t 16) (.t 17), none, []⟩])
  (.cond (.t 18)
  (.seq (.region false [] [] [⟨(some 4), .assign (.c false [(.int .i64 (-1))]), none, []⟩])
  .ret)
  .skip))
  (.seq (.region false [19, 20] [19, 20] [⟨(some 19), .move (.t 1), none, []⟩,
    ⟨(some 20), .bin .add (.t 19) (.c false [(.int .i64 1)]), none, []⟩,
    ⟨(some 1), .assign (.t 20), none, []⟩])
  (.seq (.region false [21, 22, 23, 24, 25, 26, 27, 58] [21, 22, 23, 24, 25, 26, 27] [⟨(some 21), .move (.t 0), none, []⟩,
    ⟨(some 22), .move (.t 5), none, []⟩,
    ⟨(some 23), .iaddr 2 (.t 21) (.t 22), none, []⟩,
    ⟨(some 24), .faddr 1 (.t 23), none, []⟩,
    ⟨(some 25), .load false 1 (.t 24), none, []⟩,
    ⟨(some 26), .move (.t 1), none, []⟩,
    ⟨(some 27), .call 125 [(.t 25), (.t 26)], none, []⟩,
    ⟨(some 1), .assign (.t 27), none, []⟩])
  (.seq (.region false [28, 29] [28] [⟨(some 28), .move (.t 1), none, []⟩,
    ⟨(some 29), .bin .lss (.t 28) (.c false [(.int .i64 0)]), none, []⟩])
  (.cond (.t 29)
  (.seq (.region false [] [] [⟨(some 4), .assign (.c false [(.int .i64 (-1))]), none, []⟩])
  .ret)
  .skip))))))
  (.region false [10, 11] [10, 11] [⟨(some 10), .move (.t 5), none, []⟩,
    ⟨(some 11), .bin .add (.t 10) (.c false [(.int .i64 1)]), none, []⟩,
    ⟨(some 5), .assign (.t 11), none, []⟩]))))))
  (.seq (.region false [30] [30] [⟨(some 30), .move (.t 1), none, []⟩,
    ⟨(some 4), .assign (.t 30), none, []⟩])
  .ret)))⟩
/- laws.heldHello -/
def ir82 : FnIr := ⟨0, 2, 18, [(4, none)], [],
  (.seq (.region false [2, 20] [] [⟨(some 2), .box (.t 0), none, []⟩,
    ⟨(some 4), .assign (.c false [(.int .i64 0)]), none, []⟩])
  (.seq (.region false [5, 6, 7, 8, 26] [5, 6, 7, 8] [⟨(some 5), .faddr 0 (.t 2), none, []⟩,
    ⟨(some 6), .load false 1 (.t 5), none, []⟩,
    ⟨(some 7), .move (.t 1), none, []⟩,
    ⟨(some 8), .call 125 [(.t 6), (.t 7)], none, []⟩,
    ⟨(some 1), .assign (.t 8), none, []⟩])
  (.seq (.seq (.region false [9, 10] [9] [⟨(some 9), .move (.t 1), none, []⟩,
    ⟨(some 10), .bin .lss (.t 9) (.c false [(.int .i64 0)]), none, []⟩])
  (.cond (.t 10)
  (.seq (.region false [] [] [⟨(some 4), .assign (.c false [(.int .i64 (-1))]), none, []⟩])
  .ret)
  .skip))
  (.seq (.region false [11, 12, 13, 14, 32] [11, 12, 13, 14] [⟨(some 11), .faddr 1 (.t 2), none, []⟩,
    ⟨(some 12), .load false 1 (.t 11), none, []⟩,
    ⟨(some 13), .move (.t 1), none, []⟩,
    ⟨(some 14), .call 236 [(.t 12), (.t 13)], none, []⟩,
    ⟨(some 1), .assign (.t 14), none, []⟩])
  (.seq (.seq (.region false [15, 16] [15] [⟨(some 15), .move (.t 1), none, []⟩,
    ⟨(some 16), .bin .lss (.t 15) (.c false [(.int .i64 0)]), none, []⟩])
  (.cond (.t 16)
  (.seq (.region false [] [] [⟨(some 4), .assign (.c false [(.int .i64 (-1))]), none, []⟩])
  .ret)
  .skip))
  (.seq (.region false [17] [17] [⟨(some 17), .move (.t 1), none, []⟩,
    ⟨(some 4), .assign (.t 17), none, []⟩])
  .ret))))))⟩
/- laws.szIntS -/
def ir227 : FnIr := ⟨0, 2, 12, [(4, none)], [],
  (.seq (.region false [] [] [⟨(some 4), .assign (.c false [(.int .i64 0)]), none, []⟩])
  (.seq (.region false [5, 6, 7, 8] [5, 6, 7, 8] [⟨(some 5), .move (.t 1), none, []⟩,
    ⟨(some 6), .move (.t 0), none, []⟩,
    ⟨(some 7), .len false (.t 6), none, []⟩,
    ⟨(some 8), .bin .sub (.t 5) (.t 7), none, []⟩,
    ⟨(some 1), .assign (.t 8), none, []⟩])
  (.seq (.seq (.region false [9, 10] [9] [⟨(some 9), .move (.t 1), none, []⟩,
    ⟨(some 10), .bin .lss (.t 9) (.c false [(.int .i64 0)]), none, []⟩])
  (.cond (.t 10)
  (.seq (.region false [] [] [⟨(some 4), .assign (.c false [(.int .i64 (-1))]), none, []⟩])
  .ret)
  .skip))
  (.seq (.region false [11] [11] [⟨(some 11), .move (.t 1), none, []⟩,
    ⟨(some 4), .assign (.t 11), none, []⟩])
  .ret))))⟩
/- laws.szExt -/
def ir319 : FnIr := ⟨0, 2, 12, [(4, none)], [],
  (.seq (.region false [2, 14] [] [⟨(some 2), .box (.t 0), none, []⟩,
    ⟨(some 4), .assign (.c false [(.int .i64 0)]), none, []⟩])
  (.seq (.region false [5, 6, 7, 8, 20] [5, 6, 7, 8] [⟨(some 5), .faddr 1 (.t 2), none, []⟩,
    ⟨(some 6), .load false 1 (.t 5), none, []⟩,
    ⟨(some 7), .move (.t 1), none, []⟩,
    ⟨(some 8), .call 227 [(.t 6), (.t 7)], none, []⟩,
    ⟨(some 1), .assign (.t 8), none, []⟩])
  (.seq (.seq (.region false [9, 10] [9] [⟨(some 9), .move (.t 1), none, []⟩,
    ⟨(some 10), .bin .lss (.t 9) (.c false [(.int .i64 0)]), none, []⟩])
  (.cond (.t 10)
  (.seq (.region false [] [] [⟨(some 4), .assign (.c false [(.int .i64 (-1))]), none, []⟩])
  .ret)
  .skip))
  (.seq (.region false [11] [11] [⟨(some 11), .move (.t 1), none, []⟩,
    ⟨(some 4), .assign (.t 11), none, []⟩])
  .ret))))⟩
/- laws.szExtS -/
def ir197 : FnIr := ⟨0, 2, 27, [(4, none)], [],
  (.seq (.region false [] [] [⟨(some 4), .assign (.c false [(.int .i64 0)]), none, []⟩])
  (.seq (.region false [6, 7, 8, 9] [6, 7, 8, 9] [⟨(some 6), .move (.t 1), none, []⟩,
    ⟨(some 7), .move (.t 0), none, []⟩,
    ⟨(some 8), .len false (.t 7), none, []⟩,
    ⟨(some 9), .bin .sub (.t 6) (.t 8), none, []⟩,
    ⟨(some 1), .assign (.t 9), none, []⟩])
  (.seq (.seq (.region false [10, 11] [10] [⟨(some 10), .move (.t 1), none, []⟩,
    ⟨(some 11), .bin .lss (.t 10) (.c false [(.int .i64 0)]), none, []⟩])
  (.cond (.t 11)
  (.seq (.region false [] [] [⟨(some 4), .assign (.c false [(.int .i64 (-1))]), none, []⟩])
  .ret)
  .skip))
  (.seq (.seq (.region false [] [] [⟨(some 5), .assign (.c false [(.int .i64 0)]), none, []⟩])
  (.block 0 (.loop (.seq (.seq (.region false [12, 13, 14, 15] [12, 13, 14] [⟨(some 12), .move (.t 5), none, []⟩,
    ⟨(some 13), .move (.t 0), none, []⟩,
    ⟨(some 14), .len false (.t 13), none, []⟩,
    ⟨(some 15), .bin .lss (.t 12) (.t 14), none, []⟩])
  (.cond (.t 15)
  .skip
  (.exit 0)))
  (.seq (.block 1 (.seq (.region false [18, 19, 20, 21, 22, 23, 50] [18, 19, 20, 21, 22, 23] [⟨(some 18), .move (.t 0), none, []⟩,
    ⟨(some 19), .move (.t 5), none, []⟩,
    ⟨(some 20), .iaddr 2 (.t 18) (.t 19), none, []⟩,
    ⟨(some 21), .load true 2 (.t 20), none, []⟩,
    ⟨(some 22), .move (.t 1), none, []⟩,
    ⟨(some 23), .call 319 [(.t 21), (.t 22)], none, []⟩,
    ⟨(some 1), .assign (.t 23), none, []⟩])
  (.seq (.region false [24, 25] [24] [⟨(some 24), .move (.t 1), none, []⟩,
    ⟨(some 25), .bin .lss (.t 24) (.c false [(.int .i64 0)]), none, []⟩])
  (.cond (.t 25)
  (.seq (.region false [] [] [⟨(some 4), .assign (.c false [(.int .i64 (-1))]), none, []⟩])
  .ret)
  .skip))))
  (.region false [16, 17] [16, 17] [⟨(some 16), .move (.t 5), none, []⟩,
    ⟨(some 17), .bin .add (.t 16) (.c false [(.int .i64 1)]), none, []⟩,
    ⟨(some 5), .assign (.t 17), none, []⟩]))))))
  (.seq (.region false [26] [26] [⟨(some 26), .move (.t 1), none, []⟩,
    ⟨(some 4), .assign (.t 26), none, []⟩])
  .ret)))))⟩
/- laws.szHello -/
def ir83 : FnIr := ⟨0, 2, 18, [(4, none)], [],
  (.seq (.region false [2, 20] [] [⟨(some 2), .box (.t 0), none, []⟩,
    ⟨(some 4), .assign (.c false [(.int .i64 0)]), none, []⟩])
  (.seq (.region false [5, 6, 7, 8, 26] [5, 6, 7, 8] [⟨(some 5), .faddr 0 (.t 2), none, []⟩,
    ⟨(some 6), .load false 1 (.t 5), none, []⟩,
    ⟨(some 7), .move (.t 1), none, []⟩,
    ⟨(some 8), .call 227 [(.t 6), (.t 7)], none, []⟩,
    ⟨(some 1), .assign (.t 8), none, []⟩])
  (.seq (.seq (.region false [9, 10] [9] [⟨(some 9), .move (.t 1), none, []⟩,
    ⟨(some 10), .bin .lss (.t 9) (.c false [(.int .i64 0)]), none, []⟩])
  (.cond (.t 10)
  (.seq (.region false [] [] [⟨(some 4), .assign (.c false [(.int .i64 (-1))]), none, []⟩])
  .ret)
  .skip))
  (.seq (.region false [11, 12, 13, 14, 32] [11, 12, 13, 14] [⟨(some 11), .faddr 1 (.t 2), none, []⟩,
    ⟨(some 12), .load false 1 (.t 11), none, []⟩,
    ⟨(some 13), .move (.t 1), none, []⟩,
    ⟨(some 14), .call 197 [(.t 12), (.t 13)], none, []⟩,
    ⟨(some 1), .assign (.t 14), none, []⟩])
  (.seq (.seq (.region false [15, 16] [15] [⟨(some 15), .move (.t 1), none, []⟩,
    ⟨(some 16), .bin .lss (.t 15) (.c false [(.int .i64 0)]), none, []⟩])
  (.cond (.t 16)
  (.seq (.region false [] [] [⟨(some 4), .assign (.c false [(.int .i64 (-1))]), none, []⟩])
  .ret)
  .skip))
  (.seq (.region false [17] [17] [⟨(some 17), .move (.t 1), none, []⟩,
    ⟨(some 4), .assign (.t 17), none, []⟩])
  .ret))))))⟩
/- laws.toExt -/
def ir320 : FnIr := ⟨0, 1, 12, [(2, (some (true, 2)))], [],
  (.seq (.region false [1, 2, 13, 14] [] [⟨(some 1), .box (.t 0), none, []⟩,
    ⟨(some 2), .alloc [(.int .i64 0), (.row () [])], none, []⟩])
  (.seq (.region false [3, 15] [] [⟨(some 3), .alloc [(.int .i64 0), (.row () [])], none, []⟩])
  (.seq (.region false [4, 5, 6] [4, 5, 6] [⟨(some 4), .faddr 0 (.t 1), none, []⟩,
    ⟨(some 5), .load false 1 (.t 4), none, []⟩,
    ⟨(some 6), .faddr 0 (.t 3), none, []⟩,
    ⟨none, .store 1 (.t 6) (.t 5), none, []⟩])
  (.seq (.region false [7, 8, 9, 10, 21] [7, 8, 9, 10] [⟨(some 7), .faddr 1 (.t 1), none, []⟩,
    ⟨(some 8), .load false 1 (.t 7), none, []⟩,
    ⟨(some 9), .call 76 [(.t 8)], none, []⟩,
    ⟨(some 10), .faddr 1 (.t 3), none, []⟩,
    ⟨none, .store 1 (.t 10) (.t 9), none, []⟩])
  (.seq (.region false [11] [11] [⟨(some 11), .load true 2 (.t 3), none, []⟩,
    ⟨none, .store 2 (.t 2) (.t 11), none, []⟩])
  .ret)))))⟩
/- laws.toExtS -/
def ir199 : FnIr := ⟨0, 1, 23, [(2, none)], [],
  (.seq (.region false [] [] [⟨(some 2), .assign (.c false [(.row () [])]), none, []⟩])
  (.seq (.region false [5, 6, 7] [5, 6, 7] [⟨(some 5), .move (.t 0), none, []⟩,
    ⟨(some 6), .len false (.t 5), none, []⟩,
    ⟨(some 7), .mkslice [(.int .i64 0), (.row () [])] (.t 6) (.t 6), none, []⟩,
    ⟨(some 3), .assign (.t 7), none, []⟩])
  (.seq (.seq (.region false [] [] [⟨(some 4), .assign (.c false [(.int .i64 0)]), none, []⟩])
  (.block 0 (.loop (.seq (.seq (.region false [8, 9, 10, 11] [8, 9, 10] [⟨(some 8), .move (.t 4), none, []⟩,
    ⟨(some 9), .move (.t 0), none, []⟩,
    ⟨(some 10), .len false (.t 9), none, []⟩,
    ⟨(some 11), .bin .lss (.t 8) (.t 10), none, []⟩])
  (.cond (.t 11)
  .skip
  (.exit 0)))
  (.seq (.block 1 (.region false [14, 15, 16, 17, 18, 19, 20, 21, 43] [14, 15, 16, 17, 18, 19, 20, 21] [⟨(some 14), .move (.t 3), none, []⟩,
    ⟨(some 15), .move (.t 4), none, []⟩,
    ⟨(some 16), .move (.t 0), none, []⟩,
    ⟨(some 17), .move (.t 4), none, []⟩,
    ⟨(some 18), .iaddr 2 (.t 16) (.t 17), none, []⟩,
    ⟨(some 19), .load true 2 (.t 18), none, []⟩,
    ⟨(some 20), .call 320 [(.t 19)], none, []⟩,
    ⟨(some 21), .iaddr 2 (.t 14) (.t 15), none, []⟩,
    ⟨none, .rstore 2 (.t 21) (.t 20), none, []⟩]))
  (.region false [12, 13] [12, 13] [⟨(some 12), .move (.t 4), none, []⟩,
    ⟨(some 13), .bin .add (.t 12) (.c false [(.int .i64 1)]), none, []⟩,
    ⟨(some 4), .assign (.t 13), none, []⟩]))))))
  (.seq (.region false [22] [22] [⟨(some 22), .move (.t 3), none, []⟩,
    ⟨(some 2), .assign (.t 22), none, []⟩])
  .ret))))⟩
/- laws.toHello -/
def ir85 : FnIr := ⟨0, 1, 13, [(2, (some (true, 2)))], [],
  (.seq (.region false [1, 2, 14, 15] [] [⟨(some 1), .box (.t 0), none, []⟩,
    ⟨(some 2), .alloc [(.row () []), (.row () [])], none, []⟩])
  (.seq (.region false [3, 16] [] [⟨(some 3), .alloc [(.row () []), (.row () [])], none, []⟩])
  (.seq (.region false [4, 5, 6, 7, 19] [4, 5, 6, 7] [⟨(some 4), .faddr 0 (.t 1), none, []⟩,
    ⟨(some 5), .load false 1 (.t 4), none, []⟩,
    ⟨(some 6), .call 76 [(.t 5)], none, []⟩,
    ⟨(some 7), .faddr 0 (.t 3), none, []⟩,
    ⟨none, .store 1 (.t 7) (.t 6), none, []⟩])
  (.seq (.region false [8, 9, 10, 11, 23] [8, 9, 10, 11] [⟨(some 8), .faddr 1 (.t 1), none, []⟩,
    ⟨(some 9), .load false 1 (.t 8), none, []⟩,
    ⟨(some 10), .call 199 [(.t 9)], none, []⟩,
    ⟨(some 11), .faddr 1 (.t 3), none, []⟩,
    ⟨none, .store 1 (.t 11) (.t 10), none, []⟩])
  (.seq (.region false [12] [12] [⟨(some 12), .load true 2 (.t 3), none, []⟩,
    ⟨none, .store 2 (.t 2) (.t 12), none, []⟩])
  .ret)))))⟩
/- laws.FnExactPartHello -/
def ir34 : FnIr := ⟨0, 3, 138, [(6, none)], [],
  (.seq (.region false [3, 141] [] [⟨(some 3), .box (.t 0), none, []⟩,
    ⟨(some 6), .assign (.c false [(.bool false)]), none, []⟩])
  (.seq (.seq (.region false [20, 21, 22] [20, 21] [⟨(some 20), .move (.t 1), none, []⟩,
    ⟨(some 21), .len false (.t 20), none, []⟩,
    ⟨(some 22), .bin .gtr (.t 21) (.c false [(.int .i64 1048576)]), none, []⟩])
  (.cond (.t 22)
  (.seq (.region false [] [] [⟨(some 6), .assign (.c false [(.bool true)]), none, []⟩])
  .ret)
  .skip))
  (.seq (.seq (.region false [23, 24, 25] [23, 24] [⟨(some 23), .move (.t 2), none, []⟩,
    ⟨(some 24), .len false (.t 23), none, []⟩,
    ⟨(some 25), .bin .gtr (.t 24) (.c false [(.int .i64 1048576)]), none, []⟩])
  (.cond (.t 25)
  (.seq (.region false [] [] [⟨(some 6), .assign (.c false [(.bool true)]), none, []⟩])
  .ret)
  .skip))
  (.seq (.region false [] [] [⟨(some 7), .assign (.c false [(.int .i64 1048576)]), none, []⟩])
  (.seq (.region false [26, 27, 28, 166] [26, 27, 28] [⟨(some 26), .load true 2 (.t 3), none, []⟩,
    ⟨(some 27), .move (.t 7), none, []⟩,
    ⟨(some 28), .call 83 [(.t 26), (.t 27)], none, []⟩,
    ⟨(some 7), .assign (.t 28), none, []⟩])
  (.seq (.seq (.region false [29, 30] [29] [⟨(some 29), .move (.t 7), none, []⟩,
    ⟨(some 30), .bin .lss (.t 29) (.c false [(.int .i64 0)]), none, []⟩])
  (.cond (.t 30)
  (.seq (.region false [] [] [⟨(some 6), .assign (.c false [(.bool true)]), none, []⟩])
  .ret)
  .skip))
  (.seq (.region false [32, 33, 34, 35, 36, 37, 38, 31, 39, 40, 8, 171, 173, 175, 176, 146] [32, 33, 34, 35, 36, 37, 38, 31, 39, 40] [⟨(some 32), .load true 2 (.t 3), none, []⟩,
    ⟨(some 33), .call 85 [(.t 32)], none, []⟩,
    ⟨(some 34), .move (.t 1), none, []⟩,
    ⟨(some 35), .call 76 [(.t 34)], none, []⟩,
    ⟨(some 36), .move (.t 2), none, []⟩,
    ⟨(some 37), .call 76 [(.t 36)], none, []⟩,
    ⟨(some 38), .call 164 [(.t 33), (.t 35), (.t 37)], none, []⟩,
    ⟨(some 31), .move (.t 38), none, []⟩,
    ⟨(some 39), .extract 0 (.t 31), none, []⟩,
    ⟨(some 40), .extract 1 (.t 31), none, []⟩,
    ⟨(some 8), .alloc [(.row () []), (.row () [])], none, []⟩,
    ⟨none, .store 2 (.t 8) (.t 39), none, []⟩,
    ⟨(some 9), .assign (.t 40), none, []⟩])
  (.seq (.region false [41, 42, 10, 180, 148] [41, 42] [⟨(some 41), .load true 2 (.t 3), none, []⟩,
    ⟨(some 42), .call 85 [(.t 41)], none, []⟩,
    ⟨(some 10), .alloc [(.row () []), (.row () [])], none, []⟩,
    ⟨none, .store 2 (.t 10) (.t 42), none, []⟩])
  (.seq (.region false [43, 44, 182] [43, 44] [⟨(some 43), .move (.t 1), none, []⟩,
    ⟨(some 44), .call 76 [(.t 43)], none, []⟩,
    ⟨(some 11), .assign (.t 44), none, []⟩])
  (.seq (.region false [45, 46, 184] [45, 46] [⟨(some 45), .move (.t 2), none, []⟩,
    ⟨(some 46), .call 76 [(.t 45)], none, []⟩,
    ⟨(some 12), .assign (.t 46), none, []⟩])
  (.seq (.region false [48, 49, 50, 51, 47, 52, 53, 13, 189, 151] [48, 49, 50, 51, 47, 52, 53] [⟨(some 48), .load true 2 (.t 10), none, []⟩,
    ⟨(some 49), .move (.t 11), none, []⟩,
    ⟨(some 50), .move (.t 12), none, []⟩,
    ⟨(some 51), .call 165 [(.t 48), (.t 49), (.t 50)], none, []⟩,
    ⟨(some 47), .move (.t 51), none, []⟩,
    ⟨(some 52), .extract 0 (.t 47), none, []⟩,
    ⟨(some 53), .extract 1 (.t 47), none, []⟩,
    ⟨(some 13), .alloc [(.row () []), (.row () [])], none, []⟩,
    ⟨none, .store 2 (.t 13) (.t 52), none, []⟩,
    ⟨(some 14), .assign (.t 53), none, []⟩])
  (.seq (.seq (.region false [54, 55, 56, 57, 58, 59, 60, 61, 62, 194] [54, 55, 56, 57, 58, 59, 60, 61] [⟨(some 54), .load true 2 (.t 13), none, []⟩,
    ⟨(some 55), .load true 2 (.t 8), none, []⟩,
    ⟨(some 56), .call 78 [(.t 54), (.t 55)], none, []⟩,
    ⟨(some 57), .un .not (.t 56), none, []⟩,
    ⟨(some 58), .move (.t 57), none, []⟩,
    ⟨(some 59), .move (.t 14), (some (58, false)), []⟩,
    ⟨(some 60), .move (.t 9), (some (58, false)), []⟩,
    ⟨(some 61), .beq true (.t 59) (.t 60), (some (58, false)), []⟩,
    ⟨(some 62), .pick (.t 58) (.c false [(.bool true)]) (.t 61), none, []⟩])
  (.cond (.t 62)
  (.seq (.region false [] [] [⟨(some 6), .assign (.c false [(.bool false)]), none, []⟩])
  .ret)
  .skip))
  (.seq (.seq (.region true [63, 64, 65, 66, 67, 203, 204] [63, 64, 65, 66] [⟨(some 63), .load true 2 (.t 10), none, []⟩,
    ⟨(some 64), .load true 2 (.t 3), none, []⟩,
    ⟨(some 65), .call 85 [(.t 64)], none, [1]⟩,
    ⟨(some 66), .call 78 [(.t 63), (.t 65)], none, [0, 2, 1]⟩,
    ⟨(some 67), .un .not (.t 66), none, [3, 0, 2, 1]⟩])
  (.cond (.t 67)
  (.seq (.region false [] [] [⟨(some 6), .assign (.c false [(.bool false)]), none, []⟩])
  .ret)
  .skip))
  (.seq (.seq (.region false [68, 69, 70, 71, 72, 208, 209] [68, 69, 70, 71] [⟨(some 68), .move (.t 11), none, []⟩,
    ⟨(some 69), .move (.t 1), none, []⟩,
    ⟨(some 70), .call 76 [(.t 69)], none, []⟩,
    ⟨(some 71), .call 79 [(.t 68), (.t 70)], none, []⟩,
    ⟨(some 72), .un .not (.t 71), none, []⟩])
  (.cond (.t 72)
  (.seq (.region false [] [] [⟨(some 6), .assign (.c false [(.bool false)]), none, []⟩])
  .ret)
  .skip))
  (.seq (.seq (.region false [73, 74, 75, 76, 77, 213, 214] [73, 74, 75, 76] [⟨(some 73), .move (.t 12), none, []⟩,
    ⟨(some 74), .move (.t 2), none, []⟩,
    ⟨(some 75), .call 76 [(.t 74)], none, []⟩,
    ⟨(some 76), .call 79 [(.t 73), (.t 75)], none, []⟩,
    ⟨(some 77), .un .not (.t 76), none, []⟩])
  (.cond (.t 77)
  (.seq (.region false [] [] [⟨(some 6), .assign (.c false [(.bool false)]), none, []⟩])
  .ret)
  .skip))
  (.seq (.region false [] [] [⟨(some 15), .assign (.c false [(.int .i64 1)]), none, []⟩])
  (.seq (.region false [78, 79, 80, 218] [78, 79, 80] [⟨(some 78), .load true 2 (.t 10), none, []⟩,
    ⟨(some 79), .move (.t 15), none, []⟩,
    ⟨(some 80), .call 1081 [(.t 78), (.t 79)], none, []⟩,
    ⟨(some 15), .assign (.t 80), none, []⟩])
  (.seq (.region false [81, 82, 83, 221] [81, 82, 83] [⟨(some 81), .move (.t 11), none, []⟩,
    ⟨(some 82), .move (.t 15), none, []⟩,
    ⟨(some 83), .call 1080 [(.t 81), (.t 82)], none, []⟩,
    ⟨(some 15), .assign (.t 83), none, []⟩])
  (.seq (.region false [84, 85, 86, 224] [84, 85, 86] [⟨(some 84), .move (.t 12), none, []⟩,
    ⟨(some 85), .move (.t 15), none, []⟩,
    ⟨(some 86), .call 1080 [(.t 84), (.t 85)], none, []⟩,
    ⟨(some 15), .assign (.t 86), none, []⟩])
  (.seq (.seq (.region false [87, 88, 89, 90, 91, 92, 93, 94, 95, 96, 97, 98, 99, 230] [87, 88, 89, 90, 91, 92, 93, 94, 95, 96, 97, 98] [⟨(some 87), .move (.t 15), none, []⟩,
    ⟨(some 88), .bin .lss (.t 87) (.c false [(.int .i64 0)]), none, []⟩,
    ⟨(some 89), .move (.t 88), none, []⟩,
    ⟨(some 90), .load true 2 (.t 13), (some (89, false)), []⟩,
    ⟨(some 91), .load true 2 (.t 8), (some (89, false)), []⟩,
    ⟨(some 92), .call 78 [(.t 90), (.t 91)], (some (89, false)), []⟩,
    ⟨(some 93), .un .not (.t 92), (some (89, false)), []⟩,
    ⟨(some 94), .pick (.t 89) (.c false [(.bool true)]) (.t 93), none, []⟩,
    ⟨(some 95), .move (.t 94), none, []⟩,
    ⟨(some 96), .move (.t 14), (some (95, false)), []⟩,
    ⟨(some 97), .move (.t 9), (some (95, false)), []⟩,
    ⟨(some 98), .beq true (.t 96) (.t 97), (some (95, false)), []⟩,
    ⟨(some 99), .pick (.t 95) (.c false [(.bool true)]) (.t 98), none, []⟩])
  (.cond (.t 99)
  (.seq (.region false [] [] [⟨(some 6), .assign (.c false [(.bool false)]), none, []⟩])
  .ret)
  .skip))
  (.seq (.region false [] [] [⟨(some 16), .assign (.c false [(.int .i64 1)]), none, []⟩])
  (.seq (.region false [100, 101, 102, 240] [100, 101, 102] [⟨(some 100), .load true 2 (.t 13), none, []⟩,
    ⟨(some 101), .move (.t 16), none, []⟩,
    ⟨(some 102), .call 1081 [(.t 100), (.t 101)], none, []⟩,
    ⟨(some 16), .assign (.t 102), none, []⟩])
  (.seq (.region false [] [] [⟨(some 17), .assign (.c false [(.int .i64 1)]), none, []⟩])
  (.seq (.region false [103, 104, 105, 243] [103, 104, 105] [⟨(some 103), .load true 2 (.t 13), none, []⟩,
    ⟨(some 104), .move (.t 17), none, []⟩,
    ⟨(some 105), .call 82 [(.t 103), (.t 104)], none, []⟩,
    ⟨(some 17), .assign (.t 105), none, []⟩])
  (.seq (.seq (.region false [106, 107] [106] [⟨(some 106), .move (.t 17), none, []⟩,
    ⟨(some 107), .bin .lss (.t 106) (.c false [(.int .i64 0)]), none, []⟩])
  (.cond (.t 107)
  (.seq (.region false [] [] [⟨(some 6), .assign (.c false [(.bool false)]), none, []⟩])
  .ret)
  .skip))
  (.seq (.seq (.region false [108, 109, 110] [108, 109] [⟨(some 108), .move (.t 17), none, []⟩,
    ⟨(some 109), .move (.t 16), none, []⟩,
    ⟨(some 110), .bin .neq (.t 108) (.t 109), none, []⟩])
  (.cond (.t 110)
  (.seq (.region false [] [] [⟨(some 6), .assign (.c false [(.bool false)]), none, []⟩])
  .ret)
  .skip))
  (.seq (.region false [112, 113, 114, 115, 116, 117, 118, 111, 119, 120, 18, 251, 253, 255, 256, 156] [112, 113, 114, 115, 116, 117, 118, 111, 119, 120] [⟨(some 112), .load true 2 (.t 3), none, []⟩,
    ⟨(some 113), .call 85 [(.t 112)], none, []⟩,
    ⟨(some 114), .move (.t 1), none, []⟩,
    ⟨(some 115), .call 76 [(.t 114)], none, []⟩,
    ⟨(some 116), .move (.t 2), none, []⟩,
    ⟨(some 117), .call 76 [(.t 116)], none, []⟩,
    ⟨(some 118), .call 165 [(.t 113), (.t 115), (.t 117)], none, []⟩,
    ⟨(some 111), .move (.t 118), none, []⟩,
    ⟨(some 119), .extract 0 (.t 111), none, []⟩,
    ⟨(some 120), .extract 1 (.t 111), none, []⟩,
    ⟨(some 18), .alloc [(.row () []), (.row () [])], none, []⟩,
    ⟨none, .store 2 (.t 18) (.t 119), none, []⟩,
    ⟨(some 19), .assign (.t 120), none, []⟩])
  (.seq (.seq (.region false [121, 122, 123, 124, 125, 126, 127, 128, 129, 261] [121, 122, 123, 124, 125, 126, 127, 128] [⟨(some 121), .load true 2 (.t 18), none, []⟩,
    ⟨(some 122), .load true 2 (.t 8), none, []⟩,
    ⟨(some 123), .call 78 [(.t 121), (.t 122)], none, []⟩,
    ⟨(some 124), .un .not (.t 123), none, []⟩,
    ⟨(some 125), .move (.t 124), none, []⟩,
    ⟨(some 126), .move (.t 19), (some (125, false)), []⟩,
    ⟨(some 127), .move (.t 9), (some (125, false)), []⟩,
    ⟨(some 128), .beq true (.t 126) (.t 127), (some (125, false)), []⟩,
    ⟨(some 129), .pick (.t 125) (.c false [(.bool true)]) (.t 128), none, []⟩])
  (.cond (.t 129)
  (.seq (.region false [] [] [⟨(some 6), .assign (.c false [(.bool false)]), none, []⟩])
  .ret)
  .skip))
  (.seq (.region false [] [] [⟨(some 17), .assign (.c false [(.int .i64 1)]), none, []⟩])
  (.seq (.region false [130, 131, 132, 270] [130, 131, 132] [⟨(some 130), .load true 2 (.t 13), none, []⟩,
    ⟨(some 131), .move (.t 17), none, []⟩,
    ⟨(some 132), .call 82 [(.t 130), (.t 131)], none, []⟩,
    ⟨(some 17), .assign (.t 132), none, []⟩])
  (.seq (.seq (.region false [133, 134] [133] [⟨(some 133), .move (.t 17), none, []⟩,
    ⟨(some 134), .bin .lss (.t 133) (.c false [(.int .i64 0)]), none, []⟩])
  (.cond (.t 134)
  (.seq (.region false [] [] [⟨(some 6), .assign (.c false [(.bool false)]), none, []⟩])
  .ret)
  .skip))
  (.seq (.seq (.region false [135, 136, 137] [135, 136] [⟨(some 135), .move (.t 17), none, []⟩,
    ⟨(some 136), .move (.t 16), none, []⟩,
    ⟨(some 137), .bin .neq (.t 135) (.t 136), none, []⟩])
  (.cond (.t 137)
  (.seq (.region false [] [] [⟨(some 6), .assign (.c false [(.bool false)]), none, []⟩])
  .ret)
  .skip))
  (.seq (.region false [] [] [⟨(some 6), .assign (.c false [(.bool true)]), none, []⟩])
  .ret)))))))))))))))))))))))))))))))))⟩
def tbl : List (Nat × FnIr) := [(1080, ir1080), (1201, ir1201), (1081, ir1081), (230, ir230), (257, ir257), (231, ir231), (286, ir286), (271, ir271), (142, ir142), (285, ir285), (292, ir292), (307, ir307), (164, ir164), (232, ir232), (255, ir255), (377, ir377), (336, ir336), (340, ir340), (233, ir233), (351, ir351), (352, ir352), (290, ir290), (258, ir258), (113, ir113), (264, ir264), (354, ir354), (302, ir302), (287, ir287), (305, ir305), (165, ir165), (76, ir76), (79, ir79), (321, ir321), (200, ir200), (78, ir78), (125, ir125), (236, ir236), (82, ir82), (227, ir227), (319, ir319), (197, ir197), (83, ir83), (320, ir320), (199, ir199), (85, ir85), (34, ir34)]
def Tb (g : Nat) : Option FnIr := tbl.lookup g
theorem tb_1080 : Tb 1080 = some ir1080 := rfl
theorem tb_1201 : Tb 1201 = some ir1201 := rfl
theorem tb_1081 : Tb 1081 = some ir1081 := rfl
theorem tb_230 : Tb 230 = some ir230 := rfl
theorem tb_257 : Tb 257 = some ir257 := rfl
theorem tb_231 : Tb 231 = some ir231 := rfl
theorem tb_286 : Tb 286 = some ir286 := rfl
theorem tb_271 : Tb 271 = some ir271 := rfl
theorem tb_142 : Tb 142 = some ir142 := rfl
theorem tb_285 : Tb 285 = some ir285 := rfl
theorem tb_292 : Tb 292 = some ir292 := rfl
theorem tb_307 : Tb 307 = some ir307 := rfl
theorem tb_164 : Tb 164 = some ir164 := rfl
theorem tb_232 : Tb 232 = some ir232 := rfl
theorem tb_255 : Tb 255 = some ir255 := rfl
theorem tb_377 : Tb 377 = some ir377 := rfl
theorem tb_336 : Tb 336 = some ir336 := rfl
theorem tb_340 : Tb 340 = some ir340 := rfl
theorem tb_233 : Tb 233 = some ir233 := rfl
theorem tb_351 : Tb 351 = some ir351 := rfl
theorem tb_352 : Tb 352 = some ir352 := rfl
theorem tb_290 : Tb 290 = some ir290 := rfl
theorem tb_258 : Tb 258 = some ir258 := rfl
theorem tb_113 : Tb 113 = some ir113 := rfl
theorem tb_264 : Tb 264 = some ir264 := rfl
theorem tb_354 : Tb 354 = some ir354 := rfl
theorem tb_302 : Tb 302 = some ir302 := rfl
theorem tb_287 : Tb 287 = some ir287 := rfl
theorem tb_305 : Tb 305 = some ir305 := rfl
theorem tb_165 : Tb 165 = some ir165 := rfl
theorem tb_76 : Tb 76 = some ir76 := rfl
theorem tb_79 : Tb 79 = some ir79 := rfl
theorem tb_321 : Tb 321 = some ir321 := rfl
theorem tb_200 : Tb 200 = some ir200 := rfl
theorem tb_78 : Tb 78 = some ir78 := rfl
theorem tb_125 : Tb 125 = some ir125 := rfl
theorem tb_236 : Tb 236 = some ir236 := rfl
theorem tb_82 : Tb 82 = some ir82 := rfl
theorem tb_227 : Tb 227 = some ir227 := rfl
theorem tb_319 : Tb 319 = some ir319 := rfl
theorem tb_197 : Tb 197 = some ir197 := rfl
theorem tb_83 : Tb 83 = some ir83 := rfl
theorem tb_320 : Tb 320 = some ir320 := rfl
theorem tb_199 : Tb 199 = some ir199 := rfl
theorem tb_85 : Tb 85 = some ir85 := rfl
theorem tb_34 : Tb 34 = some ir34 := rfl
end Go.Vm
