/- The code of the functions that the law reaches, as data. -/
import Derived.Test.YtpjfkjkhmmbacaaVmF
set_option maxHeartbeats 4000000
set_option maxRecDepth 10000
set_option linter.unusedVariables false
set_option linter.unusedSimpArgs false
namespace Go.Vm
/- laws.markIntS -/
def ir1080 : FnIr := ⟨0, 2, 19, [(4, none)], [.mrow, .val],
  (.seq (.region false [] [] [⟨(some 4), .assign (.c false [(.int .i64 0)]), none, []⟩])
  (.seq (.seq (.region false [] [] [⟨(some 5), .assign (.c false [(.int .i64 0)]), none, []⟩])
  (.block 0 (.loop (.seq (.seq (.region false [6, 7, 8, 9] [6, 7, 8] [⟨(some 6), .move (.t 5), none, []⟩,
    ⟨(some 7), .move (.t 0), none, []⟩,
    ⟨(some 8), .len false (.t 7), none, []⟩,
    ⟨(some 9), .bin .lss (.t 6) (.t 8), none, []⟩])
  (.cond (.t 9)
  .skip
  (.exit 0)))
  (.seq (.block 1 (.seq (.region false [12, 13, 14, 15] [12, 13, 14, 15] [⟨(some 12), .move (.t 0), none, []⟩,
    ⟨(some 13), .move (.t 5), none, []⟩,
    ⟨(some 14), .move (.t 1), none, []⟩,
    ⟨(some 15), .iaddr 1 (.t 12) (.t 13), none, []⟩,
    ⟨none, .rstore 1 (.t 15) (.t 14), none, []⟩])
  (.region false [16, 17] [16, 17] [⟨(some 16), .move (.t 1), none, []⟩,
    ⟨(some 17), .bin .add (.t 16) (.c false [(.int .i64 1)]), none, []⟩,
    ⟨(some 1), .assign (.t 17), none, []⟩])))
  (.region false [10, 11] [10, 11] [⟨(some 10), .move (.t 5), none, []⟩,
    ⟨(some 11), .bin .add (.t 10) (.c false [(.int .i64 1)]), none, []⟩,
    ⟨(some 5), .assign (.t 11), none, []⟩]))))))
  (.seq (.region false [18] [18] [⟨(some 18), .move (.t 1), none, []⟩,
    ⟨(some 4), .assign (.t 18), none, []⟩])
  .ret)))⟩
/- laws.markExtS -/
def ir1201 : FnIr := ⟨0, 2, 27, [(4, none)], [.mrow, .val],
  (.seq (.region false [] [] [⟨(some 4), .assign (.c false [(.int .i64 0)]), none, []⟩])
  (.seq (.seq (.region false [] [] [⟨(some 5), .assign (.c false [(.int .i64 0)]), none, []⟩])
  (.block 0 (.loop (.seq (.seq (.region false [6, 7, 8, 9] [6, 7, 8] [⟨(some 6), .move (.t 5), none, []⟩,
    ⟨(some 7), .move (.t 0), none, []⟩,
    ⟨(some 8), .len false (.t 7), none, []⟩,
    ⟨(some 9), .bin .lss (.t 6) (.t 8), none, []⟩])
  (.cond (.t 9)
  .skip
  (.exit 0)))
  (.seq (.block 1 (.seq (.region false [12, 13, 14, 15, 16] [12, 13, 14, 15, 16] [⟨(some 12), .move (.t 0), none, []⟩,
    ⟨(some 13), .move (.t 5), none, []⟩,
    ⟨(some 14), .move (.t 1), none, []⟩,
    ⟨(some 15), .iaddr 2 (.t 12) (.t 13), none, []⟩,
    ⟨(some 16), .faddr 0 (.t 15), none, []⟩,
    ⟨none, .rstore 1 (.t 16) (.t 14), none, []⟩])
  (.seq (.region false [17, 18] [17, 18] [⟨(some 17), .move (.t 1), none, []⟩,
    ⟨(some 18), .bin .add (.t 17) (.c false [(.int .i64 1)]), none, []⟩,
    ⟨(some 1), .assign (.t 18), none, []⟩])
  (.region false [19, 20, 21, 22, 23, 24, 25, 52] [19, 20, 21, 22, 23, 24, 25] [⟨(some 19), .move (.t 0), none, []⟩,
    ⟨(some 20), .move (.t 5), none, []⟩,
    ⟨(some 21), .iaddr 2 (.t 19) (.t 20), none, []⟩,
    ⟨(some 22), .faddr 1 (.t 21), none, []⟩,
    ⟨(some 23), .load false 1 (.t 22), none, []⟩,
    ⟨(some 24), .move (.t 1), none, []⟩,
    ⟨(some 25), .call 1080 [(.t 23), (.t 24)], none, []⟩,
    ⟨(some 1), .assign (.t 25), none, []⟩]))))
  (.region false [10, 11] [10, 11] [⟨(some 10), .move (.t 5), none, []⟩,
    ⟨(some 11), .bin .add (.t 10) (.c false [(.int .i64 1)]), none, []⟩,
    ⟨(some 5), .assign (.t 11), none, []⟩]))))))
  (.seq (.region false [26] [26] [⟨(some 26), .move (.t 1), none, []⟩,
    ⟨(some 4), .assign (.t 26), none, []⟩])
  .ret)))⟩
/- laws.markHello -/
def ir1081 : FnIr := ⟨0, 2, 14, [(4, none)], [.mrow, .val],
  (.seq (.region false [2, 16] [] [⟨(some 2), .box (.t 0), none, []⟩,
    ⟨(some 4), .assign (.c false [(.int .i64 0)]), none, []⟩])
  (.seq (.region false [5, 6, 7, 8, 22] [5, 6, 7, 8] [⟨(some 5), .faddr 0 (.t 2), none, []⟩,
    ⟨(some 6), .load false 1 (.t 5), none, []⟩,
    ⟨(some 7), .move (.t 1), none, []⟩,
    ⟨(some 8), .call 1080 [(.t 6), (.t 7)], none, []⟩,
    ⟨(some 1), .assign (.t 8), none, []⟩])
  (.seq (.region false [9, 10, 11, 12, 26] [9, 10, 11, 12] [⟨(some 9), .faddr 1 (.t 2), none, []⟩,
    ⟨(some 10), .load false 1 (.t 9), none, []⟩,
    ⟨(some 11), .move (.t 1), none, []⟩,
    ⟨(some 12), .call 1201 [(.t 10), (.t 11)], none, []⟩,
    ⟨(some 1), .assign (.t 12), none, []⟩])
  (.seq (.region false [13] [13] [⟨(some 13), .move (.t 1), none, []⟩,
    ⟨(some 4), .assign (.t 13), none, []⟩])
  .ret))))⟩
/- spec.l1In -/
def ir230 : FnIr := ⟨0, 3, 15, [(6, none)], [],
  (.seq (.region false [] [] [⟨(some 6), .assign (.c false [(.bool false)]), none, []⟩])
  (.seq (.region false [7, 8, 9, 10, 11, 12, 13, 14] [7, 8, 9, 10, 11, 12, 13, 14] [⟨(some 7), .move (.t 0), none, []⟩,
    ⟨(some 8), .move (.t 1), none, []⟩,
    ⟨(some 9), .bin .geq (.t 7) (.t 8), none, []⟩,
    ⟨(some 10), .move (.t 9), none, []⟩,
    ⟨(some 11), .move (.t 0), (some (10, true)), []⟩,
    ⟨(some 12), .move (.t 2), (some (10, true)), []⟩,
    ⟨(some 13), .bin .leq (.t 11) (.t 12), (some (10, true)), []⟩,
    ⟨(some 14), .pick (.t 10) (.t 13) (.c false [(.bool false)]), none, []⟩,
    ⟨(some 6), .assign (.t 14), none, []⟩])
  .ret))⟩
/- spec.AreVersions -/
def ir257 : FnIr := ⟨0, 1, 35, [(2, none)], [],
  (.seq (.region false [] [] [⟨(some 2), .assign (.c false [(.bool false)]), none, []⟩])
  (.seq (.seq (.region false [] [] [⟨(some 3), .assign (.c false [(.int .i64 0)]), none, []⟩])
  (.block 0 (.loop (.seq (.seq (.region false [4, 5, 6, 7] [4, 5, 6] [⟨(some 4), .move (.t 3), none, []⟩,
    ⟨(some 5), .move (.t 0), none, []⟩,
    ⟨(some 6), .len false (.t 5), none, []⟩,
    ⟨(some 7), .bin .lss (.t 4) (.t 6), none, []⟩])
  (.cond (.t 7)
  .skip
  (.exit 0)))
  (.seq (.block 1 (.seq (.region true [10, 11, 12, 13, 14, 15, 16, 17, 18, 19, 20, 21, 22, 23, 24, 25, 26, 27, 28, 29, 30, 31, 49] [10, 11, 12, 13, 14, 15, 16, 17, 18, 19, 20, 21, 22, 23, 24, 25, 26, 27, 28, 29, 30] [⟨(some 10), .move (.t 0), none, []⟩,
    ⟨(some 11), .move (.t 3), none, []⟩,
    ⟨(some 12), .iaddr 1 (.t 10) (.t 11), none, [0, 1]⟩,
    ⟨(some 13), .load false 1 (.t 12), none, [2, 0, 1]⟩,
    ⟨(some 14), .call 230 [(.t 13), (.c false [(.int .i64 1)]), (.c false [(.int .i64 9)])], none, [3, 2, 0, 1]⟩,
    ⟨(some 15), .un .not (.t 14), none, [4, 3, 2, 0, 1]⟩,
    ⟨(some 16), .move (.t 15), none, [5, 4, 3, 2, 0, 1]⟩,
    ⟨(some 17), .move (.t 3), (some (16, false)), [6, 5, 4, 3, 2, 0, 1]⟩,
    ⟨(some 18), .bin .gtr (.t 17) (.c false [(.int .i64 0)]), (some (16, false)), [7, 6, 5, 4, 3, 2, 0, 1]⟩,
    ⟨(some 19), .move (.t 18), (some (16, false)), [8, 7, 6, 5, 4, 3, 2, 0, 1]⟩,
    ⟨(some 20), .move (.t 0), (some (19, true)), [9, 8, 7, 6, 5, 4, 3, 2, 0, 1]⟩,
    ⟨(some 21), .move (.t 3), (some (19, true)), [9, 8, 7, 6, 5, 4, 3, 2, 0, 1]⟩,
    ⟨(some 22), .bin .sub (.t 21) (.c false [(.int .i64 1)]), (some (19, true)), [11, 9, 8, 7, 6, 5, 4, 3, 2, 0, 1]⟩,
    ⟨(some 23), .iaddr 1 (.t 20) (.t 22), (some (19, true)), [10, 9, 8, 7, 6, 5, 4, 3, 2, 0, 1, 12, 11]⟩,
    ⟨(some 24), .load false 1 (.t 23), (some (19, true)), [13, 10, 9, 8, 7, 6, 5, 4, 3, 2, 0, 1, 12, 11]⟩,
    ⟨(some 25), .move (.t 0), (some (19, true)), [9, 8, 7, 6, 5, 4, 3, 2, 0, 1]⟩,
    ⟨(some 26), .move (.t 3), (some (19, true)), [9, 8, 7, 6, 5, 4, 3, 2, 0, 1]⟩,
    ⟨(some 27), .iaddr 1 (.t 25) (.t 26), (some (19, true)), [15, 9, 8, 7, 6, 5, 4, 3, 2, 0, 1, 16]⟩,
    ⟨(some 28), .load false 1 (.t 27), (some (19, true)), [17, 15, 9, 8, 7, 6, 5, 4, 3, 2, 0, 1, 16]⟩,
    ⟨(some 29), .bin .geq (.t 24) (.t 28), (some (19, true)), [14, 13, 10, 9, 8, 7, 6, 5, 4, 3, 2, 0, 1, 12, 11, 18, 17, 15, 16]⟩,
    ⟨(some 30), .pick (.t 19) (.t 29) (.c false [(.bool false)]), (some (16, false)), [9, 8, 7, 6, 5, 4, 3, 2, 0, 1, 19, 14, 13, 10, 12, 11, 18, 17, 15, 16]⟩,
    ⟨(some 31), .pick (.t 16) (.c false [(.bool true)]) (.t 30), none, [6, 5, 4, 3, 2, 0, 1, 20, 9, 8, 7, 19, 14, 13, 10, 12, 11, 18, 17, 15, 16]⟩])
  (.cond (.t 31)
  (.seq (.region false [] [] [⟨(some 2), .assign (.c false [(.bool false)]), none, []⟩])
  .ret)
  .skip)))
  (.region false [8, 9] [8, 9] [⟨(some 8), .move (.t 3), none, []⟩,
    ⟨(some 9), .bin .add (.t 8) (.c false [(.int .i64 1)]), none, []⟩,
    ⟨(some 3), .assign (.t 9), none, []⟩]))))))
  (.seq (.region false [32, 33, 34] [32, 33, 34] [⟨(some 32), .move (.t 0), none, []⟩,
    ⟨(some 33), .len false (.t 32), none, []⟩,
    ⟨(some 34), .bin .gtr (.t 33) (.c false [(.int .i64 0)]), none, []⟩,
    ⟨(some 2), .assign (.t 34), none, []⟩])
  .ret)))⟩
/- spec.l9Byte -/
def ir231 : FnIr := ⟨0, 1, 16, [(2, none)], [],
  (.seq (.region false [] [] [⟨(some 2), .assign (.c false [(.bool false)]), none, []⟩])
  (.seq (.seq (.region false [] [] [⟨(some 3), .assign (.c false [(.int .i64 0)]), none, []⟩])
  (.block 0 (.loop (.seq (.seq (.region false [4, 5, 6, 7] [4, 5, 6] [⟨(some 4), .move (.t 3), none, []⟩,
    ⟨(some 5), .move (.t 0), none, []⟩,
    ⟨(some 6), .len false (.t 5), none, []⟩,
    ⟨(some 7), .bin .lss (.t 4) (.t 6), none, []⟩])
  (.cond (.t 7)
  .skip
  (.exit 0)))
  (.seq (.block 1 (.seq (.region false [10, 11, 12, 13, 14, 15, 30] [10, 11, 12, 13, 14] [⟨(some 10), .move (.t 0), none, []⟩,
    ⟨(some 11), .move (.t 3), none, []⟩,
    ⟨(some 12), .iaddr 1 (.t 10) (.t 11), none, []⟩,
    ⟨(some 13), .load false 1 (.t 12), none, []⟩,
    ⟨(some 14), .call 230 [(.t 13), (.c false [(.int .i64 0)]), (.c false [(.int .i64 255)])], none, []⟩,
    ⟨(some 15), .un .not (.t 14), none, []⟩])
  (.cond (.t 15)
  (.seq (.region false [] [] [⟨(some 2), .assign (.c false [(.bool false)]), none, []⟩])
  .ret)
  .skip)))
  (.region false [8, 9] [8, 9] [⟨(some 8), .move (.t 3), none, []⟩,
    ⟨(some 9), .bin .add (.t 8) (.c false [(.int .i64 1)]), none, []⟩,
    ⟨(some 3), .assign (.t 9), none, []⟩]))))))
  (.seq (.region false [] [] [⟨(some 2), .assign (.c false [(.bool true)]), none, []⟩])
  .ret)))⟩
/- spec.ExtOf -/
def ir286 : FnIr := ⟨0, 2, 20, [(4, none)], [],
  (.seq (.region false [] [] [⟨(some 4), .assign (.c false [(.int .i64 0)]), none, []⟩])
  (.seq (.seq (.region false [] [] [⟨(some 5), .assign (.c false [(.int .i64 0)]), none, []⟩])
  (.block 0 (.loop (.seq (.seq (.region false [6, 7, 8, 9] [6, 7, 8] [⟨(some 6), .move (.t 5), none, []⟩,
    ⟨(some 7), .move (.t 0), none, []⟩,
    ⟨(some 8), .len false (.t 7), none, []⟩,
    ⟨(some 9), .bin .lss (.t 6) (.t 8), none, []⟩])
  (.cond (.t 9)
  .skip
  (.exit 0)))
  (.seq (.block 1 (.seq (.region false [12, 13, 14, 15, 16, 17, 18] [12, 13, 14, 15, 16, 17] [⟨(some 12), .move (.t 0), none, []⟩,
    ⟨(some 13), .move (.t 5), none, []⟩,
    ⟨(some 14), .iaddr 2 (.t 12) (.t 13), none, []⟩,
    ⟨(some 15), .faddr 0 (.t 14), none, []⟩,
    ⟨(some 16), .load false 1 (.t 15), none, []⟩,
    ⟨(some 17), .move (.t 1), none, []⟩,
    ⟨(some 18), .bin .eql (.t 16) (.t 17), none, []⟩])
  (.cond (.t 18)
  (.seq (.region false [19] [19] [⟨(some 19), .move (.t 5), none, []⟩,
    ⟨(some 4), .assign (.t 19), none, []⟩])
  .ret)
  .skip)))
  (.region false [10, 11] [10, 11] [⟨(some 10), .move (.t 5), none, []⟩,
    ⟨(some 11), .bin .add (.t 10) (.c false [(.int .i64 1)]), none, []⟩,
    ⟨(some 5), .assign (.t 11), none, []⟩]))))))
  (.seq (.region false [] [] [⟨(some 4), .assign (.c false [(.int .i64 (-1))]), none, []⟩])
  .ret)))⟩
/- spec.AreExts -/
def ir271 : FnIr := ⟨0, 1, 49, [(2, none)], [],
  (.seq (.region false [] [] [⟨(some 2), .assign (.c false [(.bool false)]), none, []⟩])
  (.seq (.seq (.region false [] [] [⟨(some 3), .assign (.c false [(.int .i64 0)]), none, []⟩])
  (.block 0 (.loop (.seq (.seq (.region false [4, 5, 6, 7] [4, 5, 6] [⟨(some 4), .move (.t 3), none, []⟩,
    ⟨(some 5), .move (.t 0), none, []⟩,
    ⟨(some 6), .len false (.t 5), none, []⟩,
    ⟨(some 7), .bin .lss (.t 4) (.t 6), none, []⟩])
  (.cond (.t 7)
  .skip
  (.exit 0)))
  (.seq (.block 1 (.seq (.region false [10, 11, 12, 13, 14, 15, 16, 17, 18, 19, 20, 21, 22, 23, 24, 25, 26, 27, 28, 29, 30, 31, 32, 33, 34, 35, 36, 37, 38, 39, 40, 41, 42, 43, 44, 45, 64, 81, 91] [10, 11, 12, 13, 14, 15, 16, 17, 18, 19, 20, 21, 22, 23, 24, 25, 26, 27, 28, 29, 30, 31, 32, 33, 34, 35, 36, 37, 38, 39, 40, 41, 42, 43, 44] [⟨(some 10), .move (.t 0), none, []⟩,
    ⟨(some 11), .move (.t 3), none, []⟩,
    ⟨(some 12), .iaddr 2 (.t 10) (.t 11), none, []⟩,
    ⟨(some 13), .faddr 0 (.t 12), none, []⟩,
    ⟨(some 14), .load false 1 (.t 13), none, []⟩,
    ⟨(some 15), .call 230 [(.t 14), (.c false [(.int .i64 0)]), (.c false [(.int .i64 255)])], none, []⟩,
    ⟨(some 16), .un .not (.t 15), none, []⟩,
    ⟨(some 17), .move (.t 16), none, []⟩,
    ⟨(some 18), .move (.t 0), (some (17, false)), []⟩,
    ⟨(some 19), .move (.t 3), (some (17, false)), []⟩,
    ⟨(some 20), .iaddr 2 (.t 18) (.t 19), (some (17, false)), []⟩,
    ⟨(some 21), .faddr 1 (.t 20), (some (17, false)), []⟩,
    ⟨(some 22), .load false 1 (.t 21), (some (17, false)), []⟩,
    ⟨(some 23), .len false (.t 22), (some (17, false)), []⟩,
    ⟨(some 24), .bin .gtr (.t 23) (.c false [(.int .i64 4)]), (some (17, false)), []⟩,
    ⟨(some 25), .pick (.t 17) (.c false [(.bool true)]) (.t 24), none, []⟩,
    ⟨(some 26), .move (.t 25), none, []⟩,
    ⟨(some 27), .move (.t 0), (some (26, false)), []⟩,
    ⟨(some 28), .move (.t 3), (some (26, false)), []⟩,
    ⟨(some 29), .iaddr 2 (.t 27) (.t 28), (some (26, false)), []⟩,
    ⟨(some 30), .faddr 1 (.t 29), (some (26, false)), []⟩,
    ⟨(some 31), .load false 1 (.t 30), (some (26, false)), []⟩,
    ⟨(some 32), .call 231 [(.t 31)], (some (26, false)), []⟩,
    ⟨(some 33), .un .not (.t 32), (some (26, false)), []⟩,
    ⟨(some 34), .pick (.t 26) (.c false [(.bool true)]) (.t 33), none, []⟩,
    ⟨(some 35), .move (.t 34), none, []⟩,
    ⟨(some 36), .move (.t 0), (some (35, false)), []⟩,
    ⟨(some 37), .move (.t 0), (some (35, false)), []⟩,
    ⟨(some 38), .move (.t 3), (some (35, false)), []⟩,
    ⟨(some 39), .iaddr 2 (.t 37) (.t 38), (some (35, false)), []⟩,
    ⟨(some 40), .faddr 0 (.t 39), (some (35, false)), []⟩,
    ⟨(some 41), .load false 1 (.t 40), (some (35, false)), []⟩,
    ⟨(some 42), .call 286 [(.t 36), (.t 41)], (some (35, false)), []⟩,
    ⟨(some 43), .move (.t 3), (some (35, false)), []⟩,
    ⟨(some 44), .bin .lss (.t 42) (.t 43), (some (35, false)), []⟩,
    ⟨(some 45), .pick (.t 35) (.c false [(.bool true)]) (.t 44), none, []⟩])
  (.cond (.t 45)
  (.seq (.region false [] [] [⟨(some 2), .assign (.c false [(.bool false)]), none, []⟩])
  .ret)
  .skip)))
  (.region false [8, 9] [8, 9] [⟨(some 8), .move (.t 3), none, []⟩,
    ⟨(some 9), .bin .add (.t 8) (.c false [(.int .i64 1)]), none, []⟩,
    ⟨(some 3), .assign (.t 9), none, []⟩]))))))
  (.seq (.region false [46, 47, 48] [46, 47, 48] [⟨(some 46), .move (.t 0), none, []⟩,
    ⟨(some 47), .len false (.t 46), none, []⟩,
    ⟨(some 48), .bin .leq (.t 47) (.c false [(.int .i64 6)]), none, []⟩,
    ⟨(some 2), .assign (.t 48), none, []⟩])
  .ret)))⟩
/- spec.IsHello -/
def ir142 : FnIr := ⟨0, 1, 11, [(2, none)], [],
  (.seq (.region false [1, 12] [] [⟨(some 1), .box (.t 0), none, []⟩,
    ⟨(some 2), .assign (.c false [(.bool false)]), none, []⟩])
  (.seq (.region false [3, 4, 5, 6, 7, 8, 9, 10, 16, 20] [3, 4, 5, 6, 7, 8, 9, 10] [⟨(some 3), .faddr 0 (.t 1), none, []⟩,
    ⟨(some 4), .load false 1 (.t 3), none, []⟩,
    ⟨(some 5), .call 257 [(.t 4)], none, []⟩,
    ⟨(some 6), .move (.t 5), none, []⟩,
    ⟨(some 7), .faddr 1 (.t 1), (some (6, true)), []⟩,
    ⟨(some 8), .load false 1 (.t 7), (some (6, true)), []⟩,
    ⟨(some 9), .call 271 [(.t 8)], (some (6, true)), []⟩,
    ⟨(some 10), .pick (.t 6) (.t 9) (.c false [(.bool false)]), none, []⟩,
    ⟨(some 2), .assign (.t 10), none, []⟩])
  .ret))⟩
/- spec.DecodeExts -/
def ir297 : FnIr := ⟨0, 1, 72, [(2, none), (3, none)], [],
  (.seq (.region false [] [] [⟨(some 2), .assign (.c false [(.row () [])]), none, []⟩,
    ⟨(some 3), .assign (.c false [(.bool false)]), none, []⟩])
  (.seq (.region false [7] [7] [⟨(some 7), .bslice [(.int .i64 0), (.row () [])] 0 [], none, []⟩,
    ⟨(some 4), .assign (.t 7), none, []⟩])
  (.seq (.seq (.region false [8, 9, 10] [8, 9] [⟨(some 8), .move (.t 0), none, []⟩,
    ⟨(some 9), .len false (.t 8), none, []⟩,
    ⟨(some 10), .bin .eql (.t 9) (.c false [(.int .i64 0)]), none, []⟩])
  (.cond (.t 10)
  (.seq (.region false [11] [11] [⟨(some 11), .move (.t 4), none, []⟩,
    ⟨(some 2), .assign (.t 11), none, []⟩,
    ⟨(some 3), .assign (.c false [(.bool false)]), none, []⟩])
  .ret)
  .skip))
  (.seq (.region false [] [] [⟨(some 5), .assign (.c false [(.int .i64 1)]), none, []⟩])
  (.seq (.block 0 (.loop (.seq (.seq (.region false [12, 13, 14, 15, 16] [12, 13, 14, 15] [⟨(some 12), .move (.t 5), none, []⟩,
    ⟨(some 13), .bin .add (.t 12) (.c false [(.int .i64 1)]), none, []⟩,
    ⟨(some 14), .move (.t 0), none, []⟩,
    ⟨(some 15), .len false (.t 14), none, []⟩,
    ⟨(some 16), .bin .lss (.t 13) (.t 15), none, []⟩])
  (.cond (.t 16)
  .skip
  (.exit 0)))
  (.block 1 (.seq (.region false [17, 18, 19, 20, 21] [17, 18, 19, 20, 21] [⟨(some 17), .move (.t 0), none, []⟩,
    ⟨(some 18), .move (.t 5), none, []⟩,
    ⟨(some 19), .bin .add (.t 18) (.c false [(.int .i64 1)]), none, []⟩,
    ⟨(some 20), .iaddr 1 (.t 17) (.t 19), none, []⟩,
    ⟨(some 21), .load false 1 (.t 20), none, []⟩,
    ⟨(some 6), .assign (.t 21), none, []⟩])
  (.seq (.seq (.region false [22, 23, 24, 25, 26, 27, 28, 29, 100] [22, 23, 24, 25, 26, 27, 28] [⟨(some 22), .move (.t 6), none, []⟩,
    ⟨(some 23), .move (.t 0), none, []⟩,
    ⟨(some 24), .len false (.t 23), none, []⟩,
    ⟨(some 25), .move (.t 5), none, []⟩,
    ⟨(some 26), .bin .sub (.t 24) (.t 25), none, []⟩,
    ⟨(some 27), .bin .sub (.t 26) (.c false [(.int .i64 2)]), none, []⟩,
    ⟨(some 28), .call 230 [(.t 22), (.c false [(.int .i64 0)]), (.t 27)], none, []⟩,
    ⟨(some 29), .un .not (.t 28), none, []⟩])
  (.cond (.t 29)
  (.seq (.region false [30] [30] [⟨(some 30), .bslice [(.int .i64 0), (.row () [])] 0 [], none, []⟩,
    ⟨(some 2), .assign (.t 30), none, []⟩,
    ⟨(some 3), .assign (.c false [(.bool false)]), none, []⟩])
  .ret)
  .skip))
  (.seq (.region true [31, 32, 33, 34, 35, 36, 37, 38, 39, 40, 41, 42, 43, 44, 45, 46, 47, 48] [31, 32, 33, 34, 35, 36, 37, 38, 39, 40, 41, 42, 43, 44, 45, 46, 47, 48] [⟨(some 31), .move (.t 4), none, []⟩,
    ⟨(some 32), .move (.t 0), none, []⟩,
    ⟨(some 33), .move (.t 5), none, []⟩,
    ⟨(some 34), .iaddr 1 (.t 32) (.t 33), none, [1, 2]⟩,
    ⟨(some 35), .load false 1 (.t 34), none, [3, 1, 2]⟩,
    ⟨(some 36), .bslice [(.int .i64 0)] 0 [], none, []⟩,
    ⟨(some 37), .move (.t 0), none, []⟩,
    ⟨(some 38), .move (.t 5), none, []⟩,
    ⟨(some 39), .bin .add (.t 38) (.c false [(.int .i64 2)]), none, [7]⟩,
    ⟨(some 40), .move (.t 5), none, []⟩,
    ⟨(some 41), .bin .add (.t 40) (.c false [(.int .i64 2)]), none, [9]⟩,
    ⟨(some 42), .move (.t 6), none, []⟩,
    ⟨(some 43), .bin .add (.t 41) (.t 42), none, [10, 9, 11]⟩,
    ⟨(some 44), .slice 1 (.t 37) (some (.t 39)) (some (.t 43)), none, [6, 8, 7, 12, 10, 9, 11]⟩,
    ⟨(some 45), .append 1 (.t 36) (.t 44), none, [5, 13, 6, 8, 7, 12, 10, 9, 11]⟩,
    ⟨(some 46), .build [(.int .i64 0), (.row () [])] [(0, 1, (.t 35)), (1, 1, (.t 45))], none, [4, 3, 1, 2, 14, 5, 13, 6, 8, 7, 12, 10, 9, 11]⟩,
    ⟨(some 47), .bslice [(.int .i64 0), (.row () [])] 1 [(0, (.t 46))], none, [15, 4, 3, 1, 2, 14, 5, 13, 6, 8, 7, 12, 10, 9, 11]⟩,
    ⟨(some 48), .append 2 (.t 31) (.t 47), none, [0, 16, 15, 4, 3, 1, 2, 14, 5, 13, 6, 8, 7, 12, 10, 9, 11]⟩,
    ⟨(some 4), .assign (.t 48), none, [17, 0, 16, 15, 4, 3, 1, 2, 14, 5, 13, 6, 8, 7, 12, 10, 9, 11]⟩])
  (.region false [49, 50, 51, 52] [49, 50, 51, 52] [⟨(some 49), .move (.t 5), none, []⟩,
    ⟨(some 50), .bin .add (.t 49) (.c false [(.int .i64 2)]), none, []⟩,
    ⟨(some 51), .move (.t 6), none, []⟩,
    ⟨(some 52), .bin .add (.t 50) (.t 51), none, []⟩,
    ⟨(some 5), .assign (.t 52), none, []⟩]))))))))
  (.seq (.seq (.region false [53, 54, 55, 56, 57, 58, 59, 60, 61, 62, 63, 64, 65, 66, 67, 68, 69, 139] [53, 54, 55, 56, 57, 58, 59, 60, 61, 62, 63, 64, 65, 66, 67, 68] [⟨(some 53), .move (.t 5), none, []⟩,
    ⟨(some 54), .move (.t 0), none, []⟩,
    ⟨(some 55), .len false (.t 54), none, []⟩,
    ⟨(some 56), .bin .neq (.t 53) (.t 55), none, []⟩,
    ⟨(some 57), .move (.t 56), none, []⟩,
    ⟨(some 58), .move (.t 4), (some (57, false)), []⟩,
    ⟨(some 59), .len false (.t 58), (some (57, false)), []⟩,
    ⟨(some 60), .move (.t 0), (some (57, false)), []⟩,
    ⟨(some 61), .iaddr 1 (.t 60) (.c false [(.int .i64 0)]), (some (57, false)), []⟩,
    ⟨(some 62), .load false 1 (.t 61), (some (57, false)), []⟩,
    ⟨(some 63), .bin .neq (.t 59) (.t 62), (some (57, false)), []⟩,
    ⟨(some 64), .pick (.t 57) (.c false [(.bool true)]) (.t 63), none, []⟩,
    ⟨(some 65), .move (.t 64), none, []⟩,
    ⟨(some 66), .move (.t 4), (some (65, false)), []⟩,
    ⟨(some 67), .call 271 [(.t 66)], (some (65, false)), []⟩,
    ⟨(some 68), .un .not (.t 67), (some (65, false)), []⟩,
    ⟨(some 69), .pick (.t 65) (.c false [(.bool true)]) (.t 68), none, []⟩])
  (.cond (.t 69)
  (.seq (.region false [70] [70] [⟨(some 70), .bslice [(.int .i64 0), (.row () [])] 0 [], none, []⟩,
    ⟨(some 2), .assign (.t 70), none, []⟩,
    ⟨(some 3), .assign (.c false [(.bool false)]), none, []⟩])
  .ret)
  .skip))
  (.seq (.region false [71] [71] [⟨(some 71), .move (.t 4), none, []⟩,
    ⟨(some 2), .assign (.t 71), none, []⟩,
    ⟨(some 3), .assign (.c false [(.bool true)]), none, []⟩])
  .ret)))))))⟩
/- spec.ReadHello -/
def ir157 : FnIr := ⟨0, 1, 50, [(2, (some (true, 2))), (3, none)], [],
  (.seq (.region false [2, 52] [] [⟨(some 2), .alloc [(.row () []), (.row () [])], none, []⟩,
    ⟨(some 3), .assign (.c false [(.bool false)]), none, []⟩])
  (.seq (.seq (.region false [7, 8, 9, 10, 11, 12, 13, 14, 15, 16, 17, 18, 19, 67] [7, 8, 9, 10, 11, 12, 13, 14, 15, 16, 17, 18] [⟨(some 7), .move (.t 0), none, []⟩,
    ⟨(some 8), .len false (.t 7), none, []⟩,
    ⟨(some 9), .bin .eql (.t 8) (.c false [(.int .i64 0)]), none, []⟩,
    ⟨(some 10), .move (.t 9), none, []⟩,
    ⟨(some 11), .move (.t 0), (some (10, false)), []⟩,
    ⟨(some 12), .iaddr 1 (.t 11) (.c false [(.int .i64 0)]), (some (10, false)), []⟩,
    ⟨(some 13), .load false 1 (.t 12), (some (10, false)), []⟩,
    ⟨(some 14), .move (.t 0), (some (10, false)), []⟩,
    ⟨(some 15), .len false (.t 14), (some (10, false)), []⟩,
    ⟨(some 16), .bin .sub (.t 15) (.c false [(.int .i64 1)]), (some (10, false)), []⟩,
    ⟨(some 17), .call 230 [(.t 13), (.c false [(.int .i64 1)]), (.t 16)], (some (10, false)), []⟩,
    ⟨(some 18), .un .not (.t 17), (some (10, false)), []⟩,
    ⟨(some 19), .pick (.t 10) (.c false [(.bool true)]) (.t 18), none, []⟩])
  (.cond (.t 19)
  (.seq (.region false [20] [20] [⟨(some 20), .build [(.row () []), (.row () [])] [], none, []⟩,
    ⟨none, .store 2 (.t 2) (.t 20), none, []⟩,
    ⟨(some 3), .assign (.c false [(.bool false)]), none, []⟩])
  .ret)
  .skip))
  (.seq (.region false [22, 23, 24, 25, 26, 27, 28, 21, 29, 30, 78] [22, 23, 24, 25, 26, 27, 28, 21, 29, 30] [⟨(some 22), .move (.t 0), none, []⟩,
    ⟨(some 23), .move (.t 0), none, []⟩,
    ⟨(some 24), .iaddr 1 (.t 23) (.c false [(.int .i64 0)]), none, []⟩,
    ⟨(some 25), .load false 1 (.t 24), none, []⟩,
    ⟨(some 26), .bin .add (.c false [(.int .i64 1)]) (.t 25), none, []⟩,
    ⟨(some 27), .slice 1 (.t 22) (some (.t 26)) none, none, []⟩,
    ⟨(some 28), .call 297 [(.t 27)], none, []⟩,
    ⟨(some 21), .move (.t 28), none, []⟩,
    ⟨(some 29), .extract 0 (.t 21), none, []⟩,
    ⟨(some 30), .extract 1 (.t 21), none, []⟩,
    ⟨(some 4), .assign (.t 29), none, []⟩,
    ⟨(some 5), .assign (.t 30), none, []⟩])
  (.seq (.region false [31, 32, 33, 34, 35, 36, 37, 38, 39, 40, 6, 56] [31, 32, 33, 34, 35, 36, 37, 38, 39, 40] [⟨(some 31), .bslice [(.int .i64 0)] 0 [], none, []⟩,
    ⟨(some 32), .move (.t 0), none, []⟩,
    ⟨(some 33), .move (.t 0), none, []⟩,
    ⟨(some 34), .iaddr 1 (.t 33) (.c false [(.int .i64 0)]), none, []⟩,
    ⟨(some 35), .load false 1 (.t 34), none, []⟩,
    ⟨(some 36), .bin .add (.c false [(.int .i64 1)]) (.t 35), none, []⟩,
    ⟨(some 37), .slice 1 (.t 32) (some (.c false [(.int .i64 1)])) (some (.t 36)), none, []⟩,
    ⟨(some 38), .append 1 (.t 31) (.t 37), none, []⟩,
    ⟨(some 39), .move (.t 4), none, []⟩,
    ⟨(some 40), .build [(.row () []), (.row () [])] [(0, 1, (.t 38)), (1, 1, (.t 39))], none, []⟩,
    ⟨(some 6), .alloc [(.row () []), (.row () [])], none, []⟩,
    ⟨none, .store 2 (.t 6) (.t 40), none, []⟩])
  (.seq (.seq (.region false [41, 42, 43, 44, 45, 46, 47, 95] [41, 42, 43, 44, 45, 46] [⟨(some 41), .move (.t 5), none, []⟩,
    ⟨(some 42), .un .not (.t 41), none, []⟩,
    ⟨(some 43), .move (.t 42), none, []⟩,
    ⟨(some 44), .load true 2 (.t 6), (some (43, false)), []⟩,
    ⟨(some 45), .call 142 [(.t 44)], (some (43, false)), []⟩,
    ⟨(some 46), .un .not (.t 45), (some (43, false)), []⟩,
    ⟨(some 47), .pick (.t 43) (.c false [(.bool true)]) (.t 46), none, []⟩])
  (.cond (.t 47)
  (.seq (.region false [48] [48] [⟨(some 48), .build [(.row () []), (.row () [])] [], none, []⟩,
    ⟨none, .store 2 (.t 2) (.t 48), none, []⟩,
    ⟨(some 3), .assign (.c false [(.bool false)]), none, []⟩])
  .ret)
  .skip))
  (.seq (.region false [49] [49] [⟨(some 49), .load true 2 (.t 6), none, []⟩,
    ⟨none, .store 2 (.t 2) (.t 49), none, []⟩,
    ⟨(some 3), .assign (.c false [(.bool true)]), none, []⟩])
  .ret))))))⟩
/- impl.InRange -/
def ir232 : FnIr := ⟨0, 3, 15, [(6, none)], [],
  (.seq (.region false [] [] [⟨(some 6), .assign (.c false [(.bool false)]), none, []⟩])
  (.seq (.region false [7, 8, 9, 10, 11, 12, 13, 14] [7, 8, 9, 10, 11, 12, 13, 14] [⟨(some 7), .move (.t 1), none, []⟩,
    ⟨(some 8), .move (.t 0), none, []⟩,
    ⟨(some 9), .bin .leq (.t 7) (.t 8), none, []⟩,
    ⟨(some 10), .move (.t 9), none, []⟩,
    ⟨(some 11), .move (.t 0), (some (10, true)), []⟩,
    ⟨(some 12), .move (.t 2), (some (10, true)), []⟩,
    ⟨(some 13), .bin .leq (.t 11) (.t 12), (some (10, true)), []⟩,
    ⟨(some 14), .pick (.t 10) (.t 13) (.c false [(.bool false)]), none, []⟩,
    ⟨(some 6), .assign (.t 14), none, []⟩])
  .ret))⟩
/- impl.AreVersions -/
def ir255 : FnIr := ⟨0, 1, 32, [(2, none)], [],
  (.seq (.region false [] [] [⟨(some 2), .assign (.c false [(.bool false)]), none, []⟩])
  (.seq (.seq (.region false [5, 6, 7] [] [⟨(some 5), .move (.t 0), none, []⟩,
    ⟨(some 6), .len false (.t 5), none, []⟩,
    ⟨(some 7), .move (.c false [(.int .i64 0)]), none, []⟩])
  (.block 0 (.loop (.seq (.region false [8] [] [⟨(some 8), .bin .lss (.t 7) (.t 6), none, []⟩])
  (.seq (.cond (.t 8)
  .skip
  (.exit 0))
  (.seq (.block 1 (.seq (.region false [9, 10, 11] [9, 10, 11] [⟨(some 9), .move (.t 7), none, []⟩,
    ⟨(some 10), .iaddr 1 (.t 5) (.t 7), none, []⟩,
    ⟨(some 11), .load false 1 (.t 10), none, []⟩,
    ⟨(some 3), .assign (.t 9), none, []⟩,
    ⟨(some 4), .assign (.t 11), none, []⟩])
  (.seq (.region false [12, 13, 14, 15, 16, 17, 18, 19, 20, 21, 22, 23, 24, 25, 26, 27, 45] [12, 13, 14, 15, 16, 17, 18, 19, 20, 21, 22, 23, 24, 25, 26] [⟨(some 12), .move (.t 4), none, []⟩,
    ⟨(some 13), .call 232 [(.t 12), (.c false [(.int .i64 1)]), (.c false [(.int .i64 9)])], none, []⟩,
    ⟨(some 14), .un .not (.t 13), none, []⟩,
    ⟨(some 15), .move (.t 14), none, []⟩,
    ⟨(some 16), .move (.t 3), (some (15, false)), []⟩,
    ⟨(some 17), .bin .gtr (.t 16) (.c false [(.int .i64 0)]), (some (15, false)), []⟩,
    ⟨(some 18), .move (.t 17), (some (15, false)), []⟩,
    ⟨(some 19), .move (.t 0), (some (18, true)), []⟩,
    ⟨(some 20), .move (.t 3), (some (18, true)), []⟩,
    ⟨(some 21), .bin .sub (.t 20) (.c false [(.int .i64 1)]), (some (18, true)), []⟩,
    ⟨(some 22), .iaddr 1 (.t 19) (.t 21), (some (18, true)), []⟩,
    ⟨(some 23), .load false 1 (.t 22), (some (18, true)), []⟩,
    ⟨(some 24), .move (.t 4), (some (18, true)), []⟩,
    ⟨(some 25), .bin .geq (.t 23) (.t 24), (some (18, true)), []⟩,
    ⟨(some 26), .pick (.t 18) (.t 25) (.c false [(.bool false)]), (some (15, false)), []⟩,
    ⟨(some 27), .pick (.t 15) (.c false [(.bool true)]) (.t 26), none, []⟩])
  (.cond (.t 27)
  (.seq (.region false [] [] [⟨(some 2), .assign (.c false [(.bool false)]), none, []⟩])
  .ret)
  .skip))))
  (.region false [28] [28] [⟨(some 28), .bin .add (.t 7) (.c false [(.int .i64 1)]), none, []⟩,
    ⟨(some 7), .move (.t 28), none, []⟩])))))))
  (.seq (.region false [29, 30, 31] [29, 30, 31] [⟨(some 29), .move (.t 0), none, []⟩,
    ⟨(some 30), .len false (.t 29), none, []⟩,
    ⟨(some 31), .bin .gtr (.t 30) (.c false [(.int .i64 0)]), none, []⟩,
    ⟨(some 2), .assign (.t 31), none, []⟩])
  .ret)))⟩
/- slices.IndexFunc[[]int,int] -/
def ir377 : FnIr := ⟨0, 2, 19, [(4, none)], [],
  (.seq (.region false [] [] [⟨(some 4), .assign (.c false [(.int .i64 0)]), none, []⟩])
  (.seq (.seq (.region false [6, 7, 8] [6] [⟨(some 6), .move (.t 0), none, []⟩,
    ⟨(some 7), .len false (.t 6), none, []⟩,
    ⟨(some 8), .move (.c false [(.int .i64 0)]), none, []⟩])
  (.block 0 (.loop (.seq (.region false [9] [] [⟨(some 9), .bin .lss (.t 8) (.t 7), none, []⟩])
  (.seq (.cond (.t 9)
  .skip
  (.exit 0))
  (.seq (.block 1 (.seq (.region false [10] [10] [⟨(some 10), .move (.t 8), none, []⟩,
    ⟨(some 5), .assign (.t 10), none, []⟩])
  (.seq (.region false [11, 12, 13, 14, 15, 16, 35] [11, 12, 13, 14, 15] [⟨(some 11), .move (.t 1), none, []⟩,
    ⟨(some 12), .move (.t 0), none, []⟩,
    ⟨(some 13), .move (.t 5), none, []⟩,
    ⟨(some 14), .iaddr 1 (.t 12) (.t 13), none, []⟩,
    ⟨(some 15), .load false 1 (.t 14), none, []⟩,
    ⟨(some 16), .callv (.t 11) [(.t 15)], none, []⟩])
  (.cond (.t 16)
  (.seq (.region false [17] [17] [⟨(some 17), .move (.t 5), none, []⟩,
    ⟨(some 4), .assign (.t 17), none, []⟩])
  .ret)
  .skip))))
  (.region false [18] [18] [⟨(some 18), .bin .add (.t 8) (.c false [(.int .i64 1)]), none, []⟩,
    ⟨(some 8), .move (.t 18), none, []⟩])))))))
  (.seq (.region false [] [] [⟨(some 4), .assign (.c false [(.int .i64 (-1))]), none, []⟩])
  .ret)))⟩
/- slices.ContainsFunc[[]int,int] -/
def ir336 : FnIr := ⟨0, 2, 9, [(4, none)], [],
  (.seq (.region false [] [] [⟨(some 4), .assign (.c false [(.bool false)]), none, []⟩])
  (.seq (.region false [5, 6, 7, 8, 16] [5, 6, 7, 8] [⟨(some 5), .move (.t 0), none, []⟩,
    ⟨(some 6), .move (.t 1), none, []⟩,
    ⟨(some 7), .call 377 [(.t 5), (.t 6)], none, []⟩,
    ⟨(some 8), .bin .geq (.t 7) (.c false [(.int .i64 0)]), none, []⟩,
    ⟨(some 4), .assign (.t 8), none, []⟩])
  .ret))⟩
/- impl.areNumbers$1 -/
def ir340 : FnIr := ⟨0, 3, 10, [(4, none)], [],
  (.seq (.region false [] [] [⟨(some 4), .assign (.c false [(.bool false)]), none, []⟩])
  (.seq (.region false [5, 6, 7, 8, 9, 18] [5, 6, 7, 8, 9] [⟨(some 5), .move (.t 0), none, []⟩,
    ⟨(some 6), .load false 1 (.t 1), none, []⟩,
    ⟨(some 7), .load false 1 (.t 2), none, []⟩,
    ⟨(some 8), .call 232 [(.t 5), (.t 6), (.t 7)], none, []⟩,
    ⟨(some 9), .un .not (.t 8), none, []⟩,
    ⟨(some 4), .assign (.t 9), none, []⟩])
  .ret))⟩
/- impl.areNumbers -/
def ir233 : FnIr := ⟨0, 3, 11, [(6, none)], [],
  (.seq (.region false [4, 5, 15, 16] [] [⟨(some 4), .box (.t 1), none, []⟩,
    ⟨(some 5), .box (.t 2), none, []⟩,
    ⟨(some 6), .assign (.c false [(.bool false)]), none, []⟩])
  (.seq (.region false [7, 8, 9, 10, 20] [7, 8, 9, 10] [⟨(some 7), .move (.t 0), none, []⟩,
    ⟨(some 8), .mkfn 340 [4, 5], none, []⟩,
    ⟨(some 9), .call 336 [(.t 7), (.t 8)], none, []⟩,
    ⟨(some 10), .un .not (.t 9), none, []⟩,
    ⟨(some 6), .assign (.t 10), none, []⟩])
  .ret))⟩
/- impl.Ext] -/
def ir351 : FnIr := ⟨0, 2, 19, [(4, none)], [],
  (.seq (.region false [] [] [⟨(some 4), .assign (.c false [(.int .i64 0)]), none, []⟩])
  (.seq (.seq (.region false [6, 7, 8] [6] [⟨(some 6), .move (.t 0), none, []⟩,
    ⟨(some 7), .len false (.t 6), none, []⟩,
    ⟨(some 8), .move (.c false [(.int .i64 0)]), none, []⟩])
  (.block 0 (.loop (.seq (.region false [9] [] [⟨(some 9), .bin .lss (.t 8) (.t 7), none, []⟩])
  (.seq (.cond (.t 9)
  .skip
  (.exit 0))
  (.seq (.block 1 (.seq (.region false [10] [10] [⟨(some 10), .move (.t 8), none, []⟩,
    ⟨(some 5), .assign (.t 10), none, []⟩])
  (.seq (.region false [11, 12, 13, 14, 15, 16, 35] [11, 12, 13, 14, 15] [⟨(some 11), .move (.t 1), none, []⟩,
    ⟨(some 12), .move (.t 0), none, []⟩,
    ⟨(some 13), .move (.t 5), none, []⟩,
    ⟨(some 14), .iaddr 2 (.t 12) (.t 13), none, []⟩,
    ⟨(some 15), .load true 2 (.t 14), none, []⟩,
    ⟨(some 16), .callv (.t 11) [(.t 15)], none, []⟩])
  (.cond (.t 16)
  (.seq (.region false [17] [17] [⟨(some 17), .move (.t 5), none, []⟩,
    ⟨(some 4), .assign (.t 17), none, []⟩])
  .ret)
  .skip))))
  (.region false [18] [18] [⟨(some 18), .bin .add (.t 8) (.c false [(.int .i64 1)]), none, []⟩,
    ⟨(some 8), .move (.t 18), none, []⟩])))))))
  (.seq (.region false [] [] [⟨(some 4), .assign (.c false [(.int .i64 (-1))]), none, []⟩])
  .ret)))⟩
/- impl.ExtOf$1 -/
def ir352 : FnIr := ⟨0, 2, 8, [(3, none)], [],
  (.seq (.region false [2, 10] [] [⟨(some 2), .box (.t 0), none, []⟩,
    ⟨(some 3), .assign (.c false [(.bool false)]), none, []⟩])
  (.seq (.region false [4, 5, 6, 7] [4, 5, 6, 7] [⟨(some 4), .faddr 0 (.t 2), none, []⟩,
    ⟨(some 5), .load false 1 (.t 4), none, []⟩,
    ⟨(some 6), .load false 1 (.t 1), none, []⟩,
    ⟨(some 7), .bin .eql (.t 5) (.t 6), none, []⟩,
    ⟨(some 3), .assign (.t 7), none, []⟩])
  .ret))⟩
/- impl.ExtOf -/
def ir290 : FnIr := ⟨0, 2, 8, [(4, none)], [],
  (.seq (.region false [3, 11] [] [⟨(some 3), .box (.t 1), none, []⟩,
    ⟨(some 4), .assign (.c false [(.int .i64 0)]), none, []⟩])
  (.seq (.region false [5, 6, 7, 15] [5, 6, 7] [⟨(some 5), .move (.t 0), none, []⟩,
    ⟨(some 6), .mkfn 352 [3], none, []⟩,
    ⟨(some 7), .call 351 [(.t 5), (.t 6)], none, []⟩,
    ⟨(some 4), .assign (.t 7), none, []⟩])
  .ret))⟩
/- impl.AreExts -/
def ir258 : FnIr := ⟨0, 1, 41, [(2, none)], [],
  (.seq (.region false [] [] [⟨(some 2), .assign (.c false [(.bool false)]), none, []⟩])
  (.seq (.seq (.region false [5, 6, 7] [] [⟨(some 5), .move (.t 0), none, []⟩,
    ⟨(some 6), .len false (.t 5), none, []⟩,
    ⟨(some 7), .move (.c false [(.int .i64 0)]), none, []⟩])
  (.block 0 (.loop (.seq (.region false [8] [] [⟨(some 8), .bin .lss (.t 7) (.t 6), none, []⟩])
  (.seq (.cond (.t 8)
  .skip
  (.exit 0))
  (.seq (.block 1 (.seq (.region false [9, 10, 11, 4, 45] [9, 10, 11] [⟨(some 9), .move (.t 7), none, []⟩,
    ⟨(some 10), .iaddr 2 (.t 5) (.t 7), none, []⟩,
    ⟨(some 11), .load true 2 (.t 10), none, []⟩,
    ⟨(some 4), .alloc [(.int .i64 0), (.row () [])], none, []⟩,
    ⟨(some 3), .assign (.t 9), none, []⟩,
    ⟨none, .store 2 (.t 4) (.t 11), none, []⟩])
  (.seq (.region true [12, 13, 14, 15, 16, 17, 18, 19, 20, 21, 22, 23, 24, 25, 26, 27, 28, 29, 30, 31, 32, 33, 34, 35, 36, 55, 63, 75] [12, 13, 14, 15, 16, 17, 18, 19, 20, 21, 22, 23, 24, 25, 26, 27, 28, 29, 30, 31, 32, 33, 34, 35] [⟨(some 12), .faddr 0 (.t 4), none, []⟩,
    ⟨(some 13), .load false 1 (.t 12), none, [0]⟩,
    ⟨(some 14), .call 232 [(.t 13), (.c false [(.int .i64 0)]), (.c false [(.int .i64 255)])], none, [1, 0]⟩,
    ⟨(some 15), .un .not (.t 14), none, [2, 1, 0]⟩,
    ⟨(some 16), .move (.t 15), none, [3, 2, 1, 0]⟩,
    ⟨(some 17), .move (.t 0), (some (16, false)), [4, 3, 2, 1, 0]⟩,
    ⟨(some 18), .move (.t 3), (some (16, false)), [4, 3, 2, 1, 0]⟩,
    ⟨(some 19), .slice 2 (.t 17) none (some (.t 18)), (some (16, false)), [5, 4, 3, 2, 1, 0, 6]⟩,
    ⟨(some 20), .faddr 0 (.t 4), (some (16, false)), [4, 3, 2, 1, 0]⟩,
    ⟨(some 21), .load false 1 (.t 20), (some (16, false)), [8, 4, 3, 2, 1, 0]⟩,
    ⟨(some 22), .call 290 [(.t 19), (.t 21)], (some (16, false)), [7, 5, 4, 3, 2, 1, 0, 6, 9, 8]⟩,
    ⟨(some 23), .bin .geq (.t 22) (.c false [(.int .i64 0)]), (some (16, false)), [10, 7, 5, 4, 3, 2, 1, 0, 6, 9, 8]⟩,
    ⟨(some 24), .pick (.t 16) (.c false [(.bool true)]) (.t 23), none, [4, 3, 2, 1, 0, 11, 10, 7, 5, 6, 9, 8]⟩,
    ⟨(some 25), .move (.t 24), none, [12, 4, 3, 2, 1, 0, 11, 10, 7, 5, 6, 9, 8]⟩,
    ⟨(some 26), .faddr 1 (.t 4), (some (25, false)), [13, 12, 4, 3, 2, 1, 0, 11, 10, 7, 5, 6, 9, 8]⟩,
    ⟨(some 27), .load false 1 (.t 26), (some (25, false)), [14, 13, 12, 4, 3, 2, 1, 0, 11, 10, 7, 5, 6, 9, 8]⟩,
    ⟨(some 28), .len false (.t 27), (some (25, false)), [15, 14, 13, 12, 4, 3, 2, 1, 0, 11, 10, 7, 5, 6, 9, 8]⟩,
    ⟨(some 29), .bin .gtr (.t 28) (.c false [(.int .i64 4)]), (some (25, false)), [16, 15, 14, 13, 12, 4, 3, 2, 1, 0, 11, 10, 7, 5, 6, 9, 8]⟩,
    ⟨(some 30), .pick (.t 25) (.c false [(.bool true)]) (.t 29), none, [13, 12, 4, 3, 2, 1, 0, 11, 10, 7, 5, 6, 9, 8, 17, 16, 15, 14]⟩,
    ⟨(some 31), .move (.t 30), none, [18, 13, 12, 4, 3, 2, 1, 0, 11, 10, 7, 5, 6, 9, 8, 17, 16, 15, 14]⟩,
    ⟨(some 32), .faddr 1 (.t 4), (some (31, false)), [19, 18, 13, 12, 4, 3, 2, 1, 0, 11, 10, 7, 5, 6, 9, 8, 17, 16, 15, 14]⟩,
    ⟨(some 33), .load false 1 (.t 32), (some (31, false)), [20, 19, 18, 13, 12, 4, 3, 2, 1, 0, 11, 10, 7, 5, 6, 9, 8, 17, 16, 15, 14]⟩,
    ⟨(some 34), .call 233 [(.t 33), (.c false [(.int .i64 0)]), (.c false [(.int .i64 255)])], (some (31, false)), [21, 20, 19, 18, 13, 12, 4, 3, 2, 1, 0, 11, 10, 7, 5, 6, 9, 8, 17, 16, 15, 14]⟩,
    ⟨(some 35), .un .not (.t 34), (some (31, false)), [22, 21, 20, 19, 18, 13, 12, 4, 3, 2, 1, 0, 11, 10, 7, 5, 6, 9, 8, 17, 16, 15, 14]⟩,
    ⟨(some 36), .pick (.t 31) (.c false [(.bool true)]) (.t 35), none, [19, 18, 13, 12, 4, 3, 2, 1, 0, 11, 10, 7, 5, 6, 9, 8, 17, 16, 15, 14, 23, 22, 21, 20]⟩])
  (.cond (.t 36)
  (.seq (.region false [] [] [⟨(some 2), .assign (.c false [(.bool false)]), none, []⟩])
  .ret)
  .skip))))
  (.region false [37] [37] [⟨(some 37), .bin .add (.t 7) (.c false [(.int .i64 1)]), none, []⟩,
    ⟨(some 7), .move (.t 37), none, []⟩])))))))
  (.seq (.region false [38, 39, 40] [38, 39, 40] [⟨(some 38), .move (.t 0), none, []⟩,
    ⟨(some 39), .len false (.t 38), none, []⟩,
    ⟨(some 40), .bin .leq (.t 39) (.c false [(.int .i64 6)]), none, []⟩,
    ⟨(some 2), .assign (.t 40), none, []⟩])
  .ret)))⟩
/- impl.IsHello -/
def ir113 : FnIr := ⟨0, 1, 11, [(2, none)], [],
  (.seq (.region false [1, 12] [] [⟨(some 1), .box (.t 0), none, []⟩,
    ⟨(some 2), .assign (.c false [(.bool false)]), none, []⟩])
  (.seq (.region false [3, 4, 5, 6, 7, 8, 9, 10, 16, 20] [3, 4, 5, 6, 7, 8, 9, 10] [⟨(some 3), .faddr 0 (.t 1), none, []⟩,
    ⟨(some 4), .load false 1 (.t 3), none, []⟩,
    ⟨(some 5), .call 255 [(.t 4)], none, []⟩,
    ⟨(some 6), .move (.t 5), none, []⟩,
    ⟨(some 7), .faddr 1 (.t 1), (some (6, true)), []⟩,
    ⟨(some 8), .load false 1 (.t 7), (some (6, true)), []⟩,
    ⟨(some 9), .call 258 [(.t 8)], (some (6, true)), []⟩,
    ⟨(some 10), .pick (.t 6) (.t 9) (.c false [(.bool false)]), none, []⟩,
    ⟨(some 2), .assign (.t 10), none, []⟩])
  .ret))⟩
/- slices.Clone[[]int,int] -/
def ir299 : FnIr := ⟨1, 1, 8, [(2, none)], [],
  (.seq (.region false [] [] [⟨(some 2), .assign (.c false [(.row () [])]), none, []⟩])
  (.seq (.seq (.region false [3, 4] [3] [⟨(some 3), .move (.t 0), none, []⟩,
    ⟨(some 4), .bad, none, []⟩])
  (.cond (.t 4)
  (.seq (.region false [] [] [⟨(some 2), .assign (.c false [(.row () [])]), none, []⟩])
  .ret)
  .skip))
  (.seq (.region false [5, 6, 7] [5, 6, 7] [⟨(some 5), .bslice [(.int .i64 0)] 0 [], none, []⟩,
    ⟨(some 6), .move (.t 0), none, []⟩,
    ⟨(some 7), .append 1 (.t 5) (.t 6), none, []⟩,
    ⟨(some 2), .assign (.t 7), none, []⟩])
  .ret)))⟩
/- impl.DecodeExts -/
def ir298 : FnIr := ⟨0, 1, 77, [(2, none), (3, none)], [],
  (.seq (.region false [] [] [⟨(some 2), .assign (.c false [(.row () [])]), none, []⟩,
    ⟨(some 3), .assign (.c false [(.bool false)]), none, []⟩])
  (.seq (.seq (.region false [7, 8, 9, 10, 11, 12, 13, 14, 15, 16, 91] [7, 8, 9, 10, 11, 12, 13, 14, 15] [⟨(some 7), .move (.t 0), none, []⟩,
    ⟨(some 8), .len false (.t 7), none, []⟩,
    ⟨(some 9), .bin .eql (.t 8) (.c false [(.int .i64 0)]), none, []⟩,
    ⟨(some 10), .move (.t 9), none, []⟩,
    ⟨(some 11), .move (.t 0), (some (10, false)), []⟩,
    ⟨(some 12), .iaddr 1 (.t 11) (.c false [(.int .i64 0)]), (some (10, false)), []⟩,
    ⟨(some 13), .load false 1 (.t 12), (some (10, false)), []⟩,
    ⟨(some 14), .call 232 [(.t 13), (.c false [(.int .i64 0)]), (.c false [(.int .i64 6)])], (some (10, false)), []⟩,
    ⟨(some 15), .un .not (.t 14), (some (10, false)), []⟩,
    ⟨(some 16), .pick (.t 10) (.c false [(.bool true)]) (.t 15), none, []⟩])
  (.cond (.t 16)
  (.seq (.region false [] [] [⟨(some 2), .assign (.c false [(.row () [])]), none, []⟩,
    ⟨(some 3), .assign (.c false [(.bool false)]), none, []⟩])
  .ret)
  .skip))
  (.seq (.region false [17] [17] [⟨(some 17), .bslice [(.int .i64 0), (.row () [])] 0 [], none, []⟩,
    ⟨(some 4), .assign (.t 17), none, []⟩,
    ⟨(some 5), .assign (.c false [(.int .i64 1)]), none, []⟩])
  (.seq (.seq (.region false [18, 19, 20, 21] [18, 19] [⟨(some 18), .move (.t 0), none, []⟩,
    ⟨(some 19), .iaddr 1 (.t 18) (.c false [(.int .i64 0)]), none, []⟩,
    ⟨(some 20), .load false 1 (.t 19), none, []⟩,
    ⟨(some 21), .move (.c false [(.int .i64 0)]), none, []⟩])
  (.block 0 (.loop (.seq (.region false [22] [] [⟨(some 22), .bin .lss (.t 21) (.t 20), none, []⟩])
  (.seq (.cond (.t 22)
  .skip
  (.exit 0))
  (.seq (.block 1 (.seq (.seq (.region false [23, 24, 25, 26, 27, 28, 29, 30, 31, 32, 33, 34, 35, 36, 37, 38, 39, 40, 41, 42, 117] [23, 24, 25, 26, 27, 28, 29, 30, 31, 32, 33, 34, 35, 36, 37, 38, 39, 40, 41] [⟨(some 23), .move (.t 0), none, []⟩,
    ⟨(some 24), .len false (.t 23), none, []⟩,
    ⟨(some 25), .move (.t 5), none, []⟩,
    ⟨(some 26), .bin .sub (.t 24) (.t 25), none, []⟩,
    ⟨(some 27), .bin .lss (.t 26) (.c false [(.int .i64 2)]), none, []⟩,
    ⟨(some 28), .move (.t 27), none, []⟩,
    ⟨(some 29), .move (.t 0), (some (28, false)), []⟩,
    ⟨(some 30), .move (.t 5), (some (28, false)), []⟩,
    ⟨(some 31), .bin .add (.t 30) (.c false [(.int .i64 1)]), (some (28, false)), []⟩,
    ⟨(some 32), .iaddr 1 (.t 29) (.t 31), (some (28, false)), []⟩,
    ⟨(some 33), .load false 1 (.t 32), (some (28, false)), []⟩,
    ⟨(some 34), .move (.t 0), (some (28, false)), []⟩,
    ⟨(some 35), .len false (.t 34), (some (28, false)), []⟩,
    ⟨(some 36), .move (.t 5), (some (28, false)), []⟩,
    ⟨(some 37), .bin .sub (.t 35) (.t 36), (some (28, false)), []⟩,
    ⟨(some 38), .bin .sub (.t 37) (.c false [(.int .i64 2)]), (some (28, false)), []⟩,
    ⟨(some 39), .min (.c false [(.int .i64 4)]) (.t 38), (some (28, false)), []⟩,
    ⟨(some 40), .call 232 [(.t 33), (.c false [(.int .i64 0)]), (.t 39)], (some (28, false)), []⟩,
    ⟨(some 41), .un .not (.t 40), (some (28, false)), []⟩,
    ⟨(some 42), .pick (.t 28) (.c false [(.bool true)]) (.t 41), none, []⟩])
  (.cond (.t 42)
  (.seq (.region false [] [] [⟨(some 2), .assign (.c false [(.row () [])]), none, []⟩,
    ⟨(some 3), .assign (.c false [(.bool false)]), none, []⟩])
  .ret)
  .skip))
  (.seq (.region false [43, 44, 45, 46, 47, 48, 49, 50] [43, 44, 45, 46, 47, 48, 49, 50] [⟨(some 43), .move (.t 5), none, []⟩,
    ⟨(some 44), .bin .add (.t 43) (.c false [(.int .i64 2)]), none, []⟩,
    ⟨(some 45), .move (.t 0), none, []⟩,
    ⟨(some 46), .move (.t 5), none, []⟩,
    ⟨(some 47), .bin .add (.t 46) (.c false [(.int .i64 1)]), none, []⟩,
    ⟨(some 48), .iaddr 1 (.t 45) (.t 47), none, []⟩,
    ⟨(some 49), .load false 1 (.t 48), none, []⟩,
    ⟨(some 50), .bin .add (.t 44) (.t 49), none, []⟩,
    ⟨(some 6), .assign (.t 50), none, []⟩])
  (.region true [51, 52, 53, 54, 55, 56, 57, 58, 59, 60, 61, 62, 63, 64, 65, 138] [51, 52, 53, 54, 55, 56, 57, 58, 59, 60, 61, 62, 63, 64, 65] [⟨(some 51), .move (.t 4), none, []⟩,
    ⟨(some 52), .move (.t 0), none, []⟩,
    ⟨(some 53), .move (.t 5), none, []⟩,
    ⟨(some 54), .iaddr 1 (.t 52) (.t 53), none, [1, 2]⟩,
    ⟨(some 55), .load false 1 (.t 54), none, [3, 1, 2]⟩,
    ⟨(some 56), .move (.t 0), none, []⟩,
    ⟨(some 57), .move (.t 5), none, []⟩,
    ⟨(some 58), .bin .add (.t 57) (.c false [(.int .i64 2)]), none, [6]⟩,
    ⟨(some 59), .move (.t 6), none, []⟩,
    ⟨(some 60), .slice 1 (.t 56) (some (.t 58)) (some (.t 59)), none, [5, 7, 6, 8]⟩,
    ⟨(some 61), .call 299 [(.t 60)], none, [9, 5, 7, 6, 8]⟩,
    ⟨(some 62), .build [(.int .i64 0), (.row () [])] [(0, 1, (.t 55)), (1, 1, (.t 61))], none, [4, 3, 1, 2, 10, 9, 5, 7, 6, 8]⟩,
    ⟨(some 63), .bslice [(.int .i64 0), (.row () [])] 1 [(0, (.t 62))], none, [11, 4, 3, 1, 2, 10, 9, 5, 7, 6, 8]⟩,
    ⟨(some 64), .append 2 (.t 51) (.t 63), none, [0, 12, 11, 4, 3, 1, 2, 10, 9, 5, 7, 6, 8]⟩,
    ⟨(some 65), .move (.t 6), none, []⟩,
    ⟨(some 4), .assign (.t 64), none, [13, 0, 12, 11, 4, 3, 1, 2, 10, 9, 5, 7, 6, 8]⟩,
    ⟨(some 5), .assign (.t 65), none, [14, 15, 13, 0, 12, 11, 4, 3, 1, 2, 10, 9, 5, 7, 6, 8]⟩]))))
  (.region false [66] [66] [⟨(some 66), .bin .add (.t 21) (.c false [(.int .i64 1)]), none, []⟩,
    ⟨(some 21), .move (.t 66), none, []⟩])))))))
  (.seq (.seq (.region false [67, 68, 69, 70, 71, 72, 73, 74, 75, 150] [67, 68, 69, 70, 71, 72, 73, 74] [⟨(some 67), .move (.t 5), none, []⟩,
    ⟨(some 68), .move (.t 0), none, []⟩,
    ⟨(some 69), .len false (.t 68), none, []⟩,
    ⟨(some 70), .bin .neq (.t 67) (.t 69), none, []⟩,
    ⟨(some 71), .move (.t 70), none, []⟩,
    ⟨(some 72), .move (.t 4), (some (71, false)), []⟩,
    ⟨(some 73), .call 258 [(.t 72)], (some (71, false)), []⟩,
    ⟨(some 74), .un .not (.t 73), (some (71, false)), []⟩,
    ⟨(some 75), .pick (.t 71) (.c false [(.bool true)]) (.t 74), none, []⟩])
  (.cond (.t 75)
  (.seq (.region false [] [] [⟨(some 2), .assign (.c false [(.row () [])]), none, []⟩,
    ⟨(some 3), .assign (.c false [(.bool false)]), none, []⟩])
  .ret)
  .skip))
  (.seq (.region false [76] [76] [⟨(some 76), .move (.t 4), none, []⟩,
    ⟨(some 2), .assign (.t 76), none, []⟩,
    ⟨(some 3), .assign (.c false [(.bool true)]), none, []⟩])
  .ret))))))⟩
/- impl.ReadHello -/
def ir158 : FnIr := ⟨0, 1, 50, [(2, (some (true, 2))), (3, none)], [],
  (.seq (.region false [2, 52] [] [⟨(some 2), .alloc [(.row () []), (.row () [])], none, []⟩,
    ⟨(some 3), .assign (.c false [(.bool false)]), none, []⟩])
  (.seq (.seq (.region false [7, 8, 9, 10, 11, 12, 13, 14, 15, 16, 17, 18, 19, 20, 68] [7, 8, 9, 10, 11, 12, 13, 14, 15, 16, 17, 18, 19] [⟨(some 7), .move (.t 0), none, []⟩,
    ⟨(some 8), .len false (.t 7), none, []⟩,
    ⟨(some 9), .bin .eql (.t 8) (.c false [(.int .i64 0)]), none, []⟩,
    ⟨(some 10), .move (.t 9), none, []⟩,
    ⟨(some 11), .move (.t 0), (some (10, false)), []⟩,
    ⟨(some 12), .iaddr 1 (.t 11) (.c false [(.int .i64 0)]), (some (10, false)), []⟩,
    ⟨(some 13), .load false 1 (.t 12), (some (10, false)), []⟩,
    ⟨(some 14), .move (.t 0), (some (10, false)), []⟩,
    ⟨(some 15), .len false (.t 14), (some (10, false)), []⟩,
    ⟨(some 16), .bin .sub (.t 15) (.c false [(.int .i64 1)]), (some (10, false)), []⟩,
    ⟨(some 17), .min (.c false [(.int .i64 9)]) (.t 16), (some (10, false)), []⟩,
    ⟨(some 18), .call 232 [(.t 13), (.c false [(.int .i64 1)]), (.t 17)], (some (10, false)), []⟩,
    ⟨(some 19), .un .not (.t 18), (some (10, false)), []⟩,
    ⟨(some 20), .pick (.t 10) (.c false [(.bool true)]) (.t 19), none, []⟩])
  (.cond (.t 20)
  (.seq (.region false [21] [21] [⟨(some 21), .build [(.row () []), (.row () [])] [], none, []⟩,
    ⟨none, .store 2 (.t 2) (.t 21), none, []⟩,
    ⟨(some 3), .assign (.c false [(.bool false)]), none, []⟩])
  .ret)
  .skip))
  (.seq (.region false [23, 24, 25, 26, 27, 28, 29, 22, 30, 31, 79] [23, 24, 25, 26, 27, 28, 29, 22, 30, 31] [⟨(some 23), .move (.t 0), none, []⟩,
    ⟨(some 24), .move (.t 0), none, []⟩,
    ⟨(some 25), .iaddr 1 (.t 24) (.c false [(.int .i64 0)]), none, []⟩,
    ⟨(some 26), .load false 1 (.t 25), none, []⟩,
    ⟨(some 27), .bin .add (.c false [(.int .i64 1)]) (.t 26), none, []⟩,
    ⟨(some 28), .slice 1 (.t 23) (some (.t 27)) none, none, []⟩,
    ⟨(some 29), .call 298 [(.t 28)], none, []⟩,
    ⟨(some 22), .move (.t 29), none, []⟩,
    ⟨(some 30), .extract 0 (.t 22), none, []⟩,
    ⟨(some 31), .extract 1 (.t 22), none, []⟩,
    ⟨(some 4), .assign (.t 30), none, []⟩,
    ⟨(some 5), .assign (.t 31), none, []⟩])
  (.seq (.region false [32, 33, 34, 35, 36, 37, 38, 39, 40, 6, 88, 56] [32, 33, 34, 35, 36, 37, 38, 39, 40] [⟨(some 32), .move (.t 0), none, []⟩,
    ⟨(some 33), .move (.t 0), none, []⟩,
    ⟨(some 34), .iaddr 1 (.t 33) (.c false [(.int .i64 0)]), none, []⟩,
    ⟨(some 35), .load false 1 (.t 34), none, []⟩,
    ⟨(some 36), .bin .add (.c false [(.int .i64 1)]) (.t 35), none, []⟩,
    ⟨(some 37), .slice 1 (.t 32) (some (.c false [(.int .i64 1)])) (some (.t 36)), none, []⟩,
    ⟨(some 38), .call 299 [(.t 37)], none, []⟩,
    ⟨(some 39), .move (.t 4), none, []⟩,
    ⟨(some 40), .build [(.row () []), (.row () [])] [(0, 1, (.t 38)), (1, 1, (.t 39))], none, []⟩,
    ⟨(some 6), .alloc [(.row () []), (.row () [])], none, []⟩,
    ⟨none, .store 2 (.t 6) (.t 40), none, []⟩])
  (.seq (.seq (.region false [41, 42, 43, 44, 45, 46, 47, 95] [41, 42, 43, 44, 45, 46] [⟨(some 41), .move (.t 5), none, []⟩,
    ⟨(some 42), .un .not (.t 41), none, []⟩,
    ⟨(some 43), .move (.t 42), none, []⟩,
    ⟨(some 44), .load true 2 (.t 6), (some (43, false)), []⟩,
    ⟨(some 45), .call 113 [(.t 44)], (some (43, false)), []⟩,
    ⟨(some 46), .un .not (.t 45), (some (43, false)), []⟩,
    ⟨(some 47), .pick (.t 43) (.c false [(.bool true)]) (.t 46), none, []⟩])
  (.cond (.t 47)
  (.seq (.region false [48] [48] [⟨(some 48), .build [(.row () []), (.row () [])] [], none, []⟩,
    ⟨none, .store 2 (.t 2) (.t 48), none, []⟩,
    ⟨(some 3), .assign (.c false [(.bool false)]), none, []⟩])
  .ret)
  .skip))
  (.seq (.region false [49] [49] [⟨(some 49), .load true 2 (.t 6), none, []⟩,
    ⟨none, .store 2 (.t 2) (.t 49), none, []⟩,
    ⟨(some 3), .assign (.c false [(.bool true)]), none, []⟩])
  .ret))))))⟩
/- laws.toIntS -/
def ir76 : FnIr := ⟨0, 1, 22, [(2, none)], [],
  (.seq (.region false [] [] [⟨(some 2), .assign (.c false [(.row () [])]), none, []⟩])
  (.seq (.region false [5, 6, 7] [5, 6, 7] [⟨(some 5), .move (.t 0), none, []⟩,
    ⟨(some 6), .len false (.t 5), none, []⟩,
    ⟨(some 7), .mkslice [(.int .i64 0)] (.t 6) (.t 6), none, []⟩,
    ⟨(some 3), .assign (.t 7), none, []⟩])
  (.seq (.seq (.region false [] [] [⟨(some 4), .assign (.c false [(.int .i64 0)]), none, []⟩])
  (.block 0 (.loop (.seq (.seq (.region false [8, 9, 10, 11] [8, 9, 10] [⟨(some 8), .move (.t 4), none, []⟩,
    ⟨(some 9), .move (.t 0), none, []⟩,
    ⟨(some 10), .len false (.t 9), none, []⟩,
    ⟨(some 11), .bin .lss (.t 8) (.t 10), none, []⟩])
  (.cond (.t 11)
  .skip
  (.exit 0)))
  (.seq (.block 1 (.region false [14, 15, 16, 17, 18, 19, 20] [14, 15, 16, 17, 18, 19, 20] [⟨(some 14), .move (.t 3), none, []⟩,
    ⟨(some 15), .move (.t 4), none, []⟩,
    ⟨(some 16), .move (.t 0), none, []⟩,
    ⟨(some 17), .move (.t 4), none, []⟩,
    ⟨(some 18), .iaddr 1 (.t 16) (.t 17), none, []⟩,
    ⟨(some 19), .load false 1 (.t 18), none, []⟩,
    ⟨(some 20), .iaddr 1 (.t 14) (.t 15), none, []⟩,
    ⟨none, .rstore 1 (.t 20) (.t 19), none, []⟩]))
  (.region false [12, 13] [12, 13] [⟨(some 12), .move (.t 4), none, []⟩,
    ⟨(some 13), .bin .add (.t 12) (.c false [(.int .i64 1)]), none, []⟩,
    ⟨(some 4), .assign (.t 13), none, []⟩]))))))
  (.seq (.region false [21] [21] [⟨(some 21), .move (.t 3), none, []⟩,
    ⟨(some 2), .assign (.t 21), none, []⟩])
  .ret))))⟩
/- laws.eqIntS -/
def ir79 : FnIr := ⟨0, 2, 26, [(4, none)], [],
  (.seq (.region false [] [] [⟨(some 4), .assign (.c false [(.bool false)]), none, []⟩])
  (.seq (.seq (.region false [6, 7, 8, 9, 10] [6, 7, 8, 9] [⟨(some 6), .move (.t 0), none, []⟩,
    ⟨(some 7), .len false (.t 6), none, []⟩,
    ⟨(some 8), .move (.t 1), none, []⟩,
    ⟨(some 9), .len false (.t 8), none, []⟩,
    ⟨(some 10), .bin .neq (.t 7) (.t 9), none, []⟩])
  (.cond (.t 10)
  (.seq (.region false [] [] [⟨(some 4), .assign (.c false [(.bool false)]), none, []⟩])
  .ret)
  .skip))
  (.seq (.seq (.region false [] [] [⟨(some 5), .assign (.c false [(.int .i64 0)]), none, []⟩])
  (.block 0 (.loop (.seq (.seq (.region false [11, 12, 13, 14] [11, 12, 13] [⟨(some 11), .move (.t 5), none, []⟩,
    ⟨(some 12), .move (.t 0), none, []⟩,
    ⟨(some 13), .len false (.t 12), none, []⟩,
    ⟨(some 14), .bin .lss (.t 11) (.t 13), none, []⟩])
  (.cond (.t 14)
  .skip
  (.exit 0)))
  (.seq (.block 1 (.seq (.region true [17, 18, 19, 20, 21, 22, 23, 24, 25] [17, 18, 19, 20, 21, 22, 23, 24] [⟨(some 17), .move (.t 0), none, []⟩,
    ⟨(some 18), .move (.t 5), none, []⟩,
    ⟨(some 19), .iaddr 1 (.t 17) (.t 18), none, [0, 1]⟩,
    ⟨(some 20), .load false 1 (.t 19), none, [2, 0, 1]⟩,
    ⟨(some 21), .move (.t 1), none, []⟩,
    ⟨(some 22), .move (.t 5), none, []⟩,
    ⟨(some 23), .iaddr 1 (.t 21) (.t 22), none, [4, 5]⟩,
    ⟨(some 24), .load false 1 (.t 23), none, [6, 4, 5]⟩,
    ⟨(some 25), .bin .neq (.t 20) (.t 24), none, [3, 2, 0, 1, 7, 6, 4, 5]⟩])
  (.cond (.t 25)
  (.seq (.region false [] [] [⟨(some 4), .assign (.c false [(.bool false)]), none, []⟩])
  .ret)
  .skip)))
  (.region false [15, 16] [15, 16] [⟨(some 15), .move (.t 5), none, []⟩,
    ⟨(some 16), .bin .add (.t 15) (.c false [(.int .i64 1)]), none, []⟩,
    ⟨(some 5), .assign (.t 16), none, []⟩]))))))
  (.seq (.region false [] [] [⟨(some 4), .assign (.c false [(.bool true)]), none, []⟩])
  .ret))))⟩
/- laws.eqExt -/
def ir321 : FnIr := ⟨0, 2, 16, [(4, none)], [],
  (.seq (.region false [2, 3, 18, 19] [] [⟨(some 2), .box (.t 0), none, []⟩,
    ⟨(some 3), .box (.t 1), none, []⟩,
    ⟨(some 4), .assign (.c false [(.bool false)]), none, []⟩])
  (.seq (.seq (.region false [5, 6, 7, 8, 9] [5, 6, 7, 8] [⟨(some 5), .faddr 0 (.t 2), none, []⟩,
    ⟨(some 6), .load false 1 (.t 5), none, []⟩,
    ⟨(some 7), .faddr 0 (.t 3), none, []⟩,
    ⟨(some 8), .load false 1 (.t 7), none, []⟩,
    ⟨(some 9), .bin .neq (.t 6) (.t 8), none, []⟩])
  (.cond (.t 9)
  (.seq (.region false [] [] [⟨(some 4), .assign (.c false [(.bool false)]), none, []⟩])
  .ret)
  .skip))
  (.seq (.seq (.region false [10, 11, 12, 13, 14, 15, 30] [10, 11, 12, 13, 14] [⟨(some 10), .faddr 1 (.t 2), none, []⟩,
    ⟨(some 11), .load false 1 (.t 10), none, []⟩,
    ⟨(some 12), .faddr 1 (.t 3), none, []⟩,
    ⟨(some 13), .load false 1 (.t 12), none, []⟩,
    ⟨(some 14), .call 79 [(.t 11), (.t 13)], none, []⟩,
    ⟨(some 15), .un .not (.t 14), none, []⟩])
  (.cond (.t 15)
  (.seq (.region false [] [] [⟨(some 4), .assign (.c false [(.bool false)]), none, []⟩])
  .ret)
  .skip))
  (.seq (.region false [] [] [⟨(some 4), .assign (.c false [(.bool true)]), none, []⟩])
  .ret))))⟩
/- laws.eqExtS -/
def ir200 : FnIr := ⟨0, 2, 27, [(4, none)], [],
  (.seq (.region false [] [] [⟨(some 4), .assign (.c false [(.bool false)]), none, []⟩])
  (.seq (.seq (.region false [6, 7, 8, 9, 10] [6, 7, 8, 9] [⟨(some 6), .move (.t 0), none, []⟩,
    ⟨(some 7), .len false (.t 6), none, []⟩,
    ⟨(some 8), .move (.t 1), none, []⟩,
    ⟨(some 9), .len false (.t 8), none, []⟩,
    ⟨(some 10), .bin .neq (.t 7) (.t 9), none, []⟩])
  (.cond (.t 10)
  (.seq (.region false [] [] [⟨(some 4), .assign (.c false [(.bool false)]), none, []⟩])
  .ret)
  .skip))
  (.seq (.seq (.region false [] [] [⟨(some 5), .assign (.c false [(.int .i64 0)]), none, []⟩])
  (.block 0 (.loop (.seq (.seq (.region false [11, 12, 13, 14] [11, 12, 13] [⟨(some 11), .move (.t 5), none, []⟩,
    ⟨(some 12), .move (.t 0), none, []⟩,
    ⟨(some 13), .len false (.t 12), none, []⟩,
    ⟨(some 14), .bin .lss (.t 11) (.t 13), none, []⟩])
  (.cond (.t 14)
  .skip
  (.exit 0)))
  (.seq (.block 1 (.seq (.region true [17, 18, 19, 20, 21, 22, 23, 24, 25, 26, 52] [17, 18, 19, 20, 21, 22, 23, 24, 25] [⟨(some 17), .move (.t 0), none, []⟩,
    ⟨(some 18), .move (.t 5), none, []⟩,
    ⟨(some 19), .iaddr 2 (.t 17) (.t 18), none, [0, 1]⟩,
    ⟨(some 20), .load true 2 (.t 19), none, [2, 0, 1]⟩,
    ⟨(some 21), .move (.t 1), none, []⟩,
    ⟨(some 22), .move (.t 5), none, []⟩,
    ⟨(some 23), .iaddr 2 (.t 21) (.t 22), none, [4, 5]⟩,
    ⟨(some 24), .load true 2 (.t 23), none, [6, 4, 5]⟩,
    ⟨(some 25), .call 321 [(.t 20), (.t 24)], none, [3, 2, 0, 1, 7, 6, 4, 5]⟩,
    ⟨(some 26), .un .not (.t 25), none, [8, 3, 2, 0, 1, 7, 6, 4, 5]⟩])
  (.cond (.t 26)
  (.seq (.region false [] [] [⟨(some 4), .assign (.c false [(.bool false)]), none, []⟩])
  .ret)
  .skip)))
  (.region false [15, 16] [15, 16] [⟨(some 15), .move (.t 5), none, []⟩,
    ⟨(some 16), .bin .add (.t 15) (.c false [(.int .i64 1)]), none, []⟩,
    ⟨(some 5), .assign (.t 16), none, []⟩]))))))
  (.seq (.region false [] [] [⟨(some 4), .assign (.c false [(.bool true)]), none, []⟩])
  .ret))))⟩
/- laws.eqHello -/
def ir78 : FnIr := ⟨0, 2, 17, [(4, none)], [],
  (.seq (.region false [2, 3, 19, 20] [] [⟨(some 2), .box (.t 0), none, []⟩,
    ⟨(some 3), .box (.t 1), none, []⟩,
    ⟨(some 4), .assign (.c false [(.bool false)]), none, []⟩])
  (.seq (.seq (.region false [5, 6, 7, 8, 9, 10, 26] [5, 6, 7, 8, 9] [⟨(some 5), .faddr 0 (.t 2), none, []⟩,
    ⟨(some 6), .load false 1 (.t 5), none, []⟩,
    ⟨(some 7), .faddr 0 (.t 3), none, []⟩,
    ⟨(some 8), .load false 1 (.t 7), none, []⟩,
    ⟨(some 9), .call 79 [(.t 6), (.t 8)], none, []⟩,
    ⟨(some 10), .un .not (.t 9), none, []⟩])
  (.cond (.t 10)
  (.seq (.region false [] [] [⟨(some 4), .assign (.c false [(.bool false)]), none, []⟩])
  .ret)
  .skip))
  (.seq (.seq (.region false [11, 12, 13, 14, 15, 16, 32] [11, 12, 13, 14, 15] [⟨(some 11), .faddr 1 (.t 2), none, []⟩,
    ⟨(some 12), .load false 1 (.t 11), none, []⟩,
    ⟨(some 13), .faddr 1 (.t 3), none, []⟩,
    ⟨(some 14), .load false 1 (.t 13), none, []⟩,
    ⟨(some 15), .call 200 [(.t 12), (.t 14)], none, []⟩,
    ⟨(some 16), .un .not (.t 15), none, []⟩])
  (.cond (.t 16)
  (.seq (.region false [] [] [⟨(some 4), .assign (.c false [(.bool false)]), none, []⟩])
  .ret)
  .skip))
  (.seq (.region false [] [] [⟨(some 4), .assign (.c false [(.bool true)]), none, []⟩])
  .ret))))⟩
/- laws.heldIntS -/
def ir125 : FnIr := ⟨0, 2, 21, [(4, none)], [],
  (.seq (.region false [] [] [⟨(some 4), .assign (.c false [(.int .i64 0)]), none, []⟩])
  (.seq (.seq (.region false [] [] [⟨(some 5), .assign (.c false [(.int .i64 0)]), none, []⟩])
  (.block 0 (.loop (.seq (.seq (.region false [6, 7, 8, 9] [6, 7, 8] [⟨(some 6), .move (.t 5), none, []⟩,
    ⟨(some 7), .move (.t 0), none, []⟩,
    ⟨(some 8), .len false (.t 7), none, []⟩,
    ⟨(some 9), .bin .lss (.t 6) (.t 8), none, []⟩])
  (.cond (.t 9)
  .skip
  (.exit 0)))
  (.seq (.block 1 (.seq (.seq (.region false [12, 13, 14, 15, 16, 17] [12, 13, 14, 15, 16] [⟨(some 12), .move (.t 0), none, []⟩,
    ⟨(some 13), .move (.t 5), none, []⟩,
    ⟨(some 14), .iaddr 1 (.t 12) (.t 13), none, []⟩,
    ⟨(some 15), .load false 1 (.t 14), none, []⟩,
    ⟨(some 16), .move (.t 1), none, []⟩,
    ⟨(some 17), .bin .neq (.t 15) (.t 16), none, []⟩])
  (.cond (.t 17)
  (.seq (.region false [] [] [⟨(some 4), .assign (.c false [(.int .i64 (-1))]), none, []⟩])
  .ret)
  .skip))
  (.region false [18, 19] [18, 19] [⟨(some 18), .move (.t 1), none, []⟩,
    ⟨(some 19), .bin .add (.t 18) (.c false [(.int .i64 1)]), none, []⟩,
    ⟨(some 1), .assign (.t 19), none, []⟩])))
  (.region false [10, 11] [10, 11] [⟨(some 10), .move (.t 5), none, []⟩,
    ⟨(some 11), .bin .add (.t 10) (.c false [(.int .i64 1)]), none, []⟩,
    ⟨(some 5), .assign (.t 11), none, []⟩]))))))
  (.seq (.region false [20] [20] [⟨(some 20), .move (.t 1), none, []⟩,
    ⟨(some 4), .assign (.t 20), none, []⟩])
  .ret)))⟩
/- laws.heldExtS -/
def ir236 : FnIr := ⟨0, 2, 31, [(4, none)], [],
  (.seq (.region false [] [] [⟨(some 4), .assign (.c false [(.int .i64 0)]), none, []⟩])
  (.seq (.seq (.region false [] [] [⟨(some 5), .assign (.c false [(.int .i64 0)]), none, []⟩])
  (.block 0 (.loop (.seq (.seq (.region false [6, 7, 8, 9] [6, 7, 8] [⟨(some 6), .move (.t 5), none, []⟩,
    ⟨(some 7), .move (.t 0), none, []⟩,
    ⟨(some 8), .len false (.t 7), none, []⟩,
    ⟨(some 9), .bin .lss (.t 6) (.t 8), none, []⟩])
  (.cond (.t 9)
  .skip
  (.exit 0)))
  (.seq (.block 1 (.seq (.seq (.region false [12, 13, 14, 15, 16, 17, 18] [12, 13, 14, 15, 16, 17] [⟨(some 12), .move (.t 0), none, []⟩,
    ⟨(some 13), .move (.t 5), none, []⟩,
    ⟨(some 14), .iaddr 2 (.t 12) (.t 13), none, []⟩,
    ⟨(some 15), .faddr 0 (.t 14), none, []⟩,
    ⟨(some 16), .load false 1 (.t 15), none, []⟩,
    ⟨(some 17), .move (.t 1), none, []⟩,
    ⟨(some 18), .bin .neq (.t 16) (.t 17), none, []⟩])
  (.cond (.t 18)
  (.seq (.region false [] [] [⟨(some 4), .assign (.c false [(.int .i64 (-1))]), none, []⟩])
  .ret)
  .skip))
  (.seq (.region false [19, 20] [19, 20] [⟨(some 19), .move (.t 1), none, []⟩,
    ⟨(some 20), .bin .add (.t 19) (.c false [(.int .i64 1)]), none, []⟩,
    ⟨(some 1), .assign (.t 20), none, []⟩])
  (.seq (.region false [21, 22, 23, 24, 25, 26, 27, 58] [21, 22, 23, 24, 25, 26, 27] [⟨(some 21), .move (.t 0), none, []⟩,
    ⟨(some 22), .move (.t 5), none, []⟩,
    ⟨(some 23), .iaddr 2 (.t 21) (.t 22), none, []⟩,
    ⟨(some 24), .faddr 1 (.t 23), none, []⟩,
    ⟨(some 25), .load false 1 (.t 24), none, []⟩,
    ⟨(some 26), .move (.t 1), none, []⟩,
    ⟨(some 27), .call 125 [(.t 25), (.t 26)], none, []⟩,
    ⟨(some 1), .assign (.t 27), none, []⟩])
  (.seq (.region false [28, 29] [28] [⟨(some 28), .move (.t 1), none, []⟩,
    ⟨(some 29), .bin .lss (.t 28) (.c false [(.int .i64 0)]), none, []⟩])
  (.cond (.t 29)
  (.seq (.region false [] [] [⟨(some 4), .assign (.c false [(.int .i64 (-1))]), none, []⟩])
  .ret)
  .skip))))))
  (.region false [10, 11] [10, 11] [⟨(some 10), .move (.t 5), none, []⟩,
    ⟨(some 11), .bin .add (.t 10) (.c false [(.int .i64 1)]), none, []⟩,
    ⟨(some 5), .assign (.t 11), none, []⟩]))))))
  (.seq (.region false [30] [30] [⟨(some 30), .move (.t 1), none, []⟩,
    ⟨(some 4), .assign (.t 30), none, []⟩])
  .ret)))⟩
/- laws.heldHello -/
def ir82 : FnIr := ⟨0, 2, 18, [(4, none)], [],
  (.seq (.region false [2, 20] [] [⟨(some 2), .box (.t 0), none, []⟩,
    ⟨(some 4), .assign (.c false [(.int .i64 0)]), none, []⟩])
  (.seq (.region false [5, 6, 7, 8, 26] [5, 6, 7, 8] [⟨(some 5), .faddr 0 (.t 2), none, []⟩,
    ⟨(some 6), .load false 1 (.t 5), none, []⟩,
    ⟨(some 7), .move (.t 1), none, []⟩,
    ⟨(some 8), .call 125 [(.t 6), (.t 7)], none, []⟩,
    ⟨(some 1), .assign (.t 8), none, []⟩])
  (.seq (.seq (.region false [9, 10] [9] [⟨(some 9), .move (.t 1), none, []⟩,
    ⟨(some 10), .bin .lss (.t 9) (.c false [(.int .i64 0)]), none, []⟩])
  (.cond (.t 10)
  (.seq (.region false [] [] [⟨(some 4), .assign (.c false [(.int .i64 (-1))]), none, []⟩])
  .ret)
  .skip))
  (.seq (.region false [11, 12, 13, 14, 32] [11, 12, 13, 14] [⟨(some 11), .faddr 1 (.t 2), none, []⟩,
    ⟨(some 12), .load false 1 (.t 11), none, []⟩,
    ⟨(some 13), .move (.t 1), none, []⟩,
    ⟨(some 14), .call 236 [(.t 12), (.t 13)], none, []⟩,
    ⟨(some 1), .assign (.t 14), none, []⟩])
  (.seq (.seq (.region false [15, 16] [15] [⟨(some 15), .move (.t 1), none, []⟩,
    ⟨(some 16), .bin .lss (.t 15) (.c false [(.int .i64 0)]), none, []⟩])
  (.cond (.t 16)
  (.seq (.region false [] [] [⟨(some 4), .assign (.c false [(.int .i64 (-1))]), none, []⟩])
  .ret)
  .skip))
  (.seq (.region false [17] [17] [⟨(some 17), .move (.t 1), none, []⟩,
    ⟨(some 4), .assign (.t 17), none, []⟩])
  .ret))))))⟩
/- laws.FnExactReadHello -/
def ir30 : FnIr := ⟨0, 1, 93, [(2, none)], [],
  (.seq (.region false [] [] [⟨(some 2), .assign (.c false [(.bool false)]), none, []⟩])
  (.seq (.seq (.region false [13, 14, 15] [13, 14] [⟨(some 13), .move (.t 0), none, []⟩,
    ⟨(some 14), .len false (.t 13), none, []⟩,
    ⟨(some 15), .bin .gtr (.t 14) (.c false [(.int .i64 1048576)]), none, []⟩])
  (.cond (.t 15)
  (.seq (.region false [] [] [⟨(some 2), .assign (.c false [(.bool true)]), none, []⟩])
  .ret)
  .skip))
  (.seq (.region false [17, 18, 19, 16, 20, 21, 3, 111, 112, 96] [17, 18, 19, 16, 20, 21] [⟨(some 17), .move (.t 0), none, []⟩,
    ⟨(some 18), .call 76 [(.t 17)], none, []⟩,
    ⟨(some 19), .call 157 [(.t 18)], none, []⟩,
    ⟨(some 16), .move (.t 19), none, []⟩,
    ⟨(some 20), .extract 0 (.t 16), none, []⟩,
    ⟨(some 21), .extract 1 (.t 16), none, []⟩,
    ⟨(some 3), .alloc [(.row () []), (.row () [])], none, []⟩,
    ⟨none, .store 2 (.t 3) (.t 20), none, []⟩,
    ⟨(some 4), .assign (.t 21), none, []⟩])
  (.seq (.region false [22, 23, 116] [22, 23] [⟨(some 22), .move (.t 0), none, []⟩,
    ⟨(some 23), .call 76 [(.t 22)], none, []⟩,
    ⟨(some 5), .assign (.t 23), none, []⟩])
  (.seq (.region false [25, 26, 24, 27, 28, 6, 119, 99] [25, 26, 24, 27, 28] [⟨(some 25), .move (.t 5), none, []⟩,
    ⟨(some 26), .call 158 [(.t 25)], none, []⟩,
    ⟨(some 24), .move (.t 26), none, []⟩,
    ⟨(some 27), .extract 0 (.t 24), none, []⟩,
    ⟨(some 28), .extract 1 (.t 24), none, []⟩,
    ⟨(some 6), .alloc [(.row () []), (.row () [])], none, []⟩,
    ⟨none, .store 2 (.t 6) (.t 27), none, []⟩,
    ⟨(some 7), .assign (.t 28), none, []⟩])
  (.seq (.seq (.region false [29, 30, 31, 32, 33, 34, 35, 36, 37, 124] [29, 30, 31, 32, 33, 34, 35, 36] [⟨(some 29), .load true 2 (.t 6), none, []⟩,
    ⟨(some 30), .load true 2 (.t 3), none, []⟩,
    ⟨(some 31), .call 78 [(.t 29), (.t 30)], none, []⟩,
    ⟨(some 32), .un .not (.t 31), none, []⟩,
    ⟨(some 33), .move (.t 32), none, []⟩,
    ⟨(some 34), .move (.t 7), (some (33, false)), []⟩,
    ⟨(some 35), .move (.t 4), (some (33, false)), []⟩,
    ⟨(some 36), .beq true (.t 34) (.t 35), (some (33, false)), []⟩,
    ⟨(some 37), .pick (.t 33) (.c false [(.bool true)]) (.t 36), none, []⟩])
  (.cond (.t 37)
  (.seq (.region false [] [] [⟨(some 2), .assign (.c false [(.bool false)]), none, []⟩])
  .ret)
  .skip))
  (.seq (.seq (.region false [38, 39, 40, 41, 42, 133, 134] [38, 39, 40, 41] [⟨(some 38), .move (.t 5), none, []⟩,
    ⟨(some 39), .move (.t 0), none, []⟩,
    ⟨(some 40), .call 76 [(.t 39)], none, []⟩,
    ⟨(some 41), .call 79 [(.t 38), (.t 40)], none, []⟩,
    ⟨(some 42), .un .not (.t 41), none, []⟩])
  (.cond (.t 42)
  (.seq (.region false [] [] [⟨(some 2), .assign (.c false [(.bool false)]), none, []⟩])
  .ret)
  .skip))
  (.seq (.region false [] [] [⟨(some 8), .assign (.c false [(.int .i64 1)]), none, []⟩])
  (.seq (.region false [43, 44, 45, 138] [43, 44, 45] [⟨(some 43), .move (.t 5), none, []⟩,
    ⟨(some 44), .move (.t 8), none, []⟩,
    ⟨(some 45), .call 1080 [(.t 43), (.t 44)], none, []⟩,
    ⟨(some 8), .assign (.t 45), none, []⟩])
  (.seq (.seq (.region false [46, 47, 48, 49, 50, 51, 52, 53, 54, 55, 56, 57, 58, 144] [46, 47, 48, 49, 50, 51, 52, 53, 54, 55, 56, 57] [⟨(some 46), .move (.t 8), none, []⟩,
    ⟨(some 47), .bin .lss (.t 46) (.c false [(.int .i64 0)]), none, []⟩,
    ⟨(some 48), .move (.t 47), none, []⟩,
    ⟨(some 49), .load true 2 (.t 6), (some (48, false)), []⟩,
    ⟨(some 50), .load true 2 (.t 3), (some (48, false)), []⟩,
    ⟨(some 51), .call 78 [(.t 49), (.t 50)], (some (48, false)), []⟩,
    ⟨(some 52), .un .not (.t 51), (some (48, false)), []⟩,
    ⟨(some 53), .pick (.t 48) (.c false [(.bool true)]) (.t 52), none, []⟩,
    ⟨(some 54), .move (.t 53), none, []⟩,
    ⟨(some 55), .move (.t 7), (some (54, false)), []⟩,
    ⟨(some 56), .move (.t 4), (some (54, false)), []⟩,
    ⟨(some 57), .beq true (.t 55) (.t 56), (some (54, false)), []⟩,
    ⟨(some 58), .pick (.t 54) (.c false [(.bool true)]) (.t 57), none, []⟩])
  (.cond (.t 58)
  (.seq (.region false [] [] [⟨(some 2), .assign (.c false [(.bool false)]), none, []⟩])
  .ret)
  .skip))
  (.seq (.region false [] [] [⟨(some 9), .assign (.c false [(.int .i64 1)]), none, []⟩])
  (.seq (.region false [59, 60, 61, 154] [59, 60, 61] [⟨(some 59), .load true 2 (.t 6), none, []⟩,
    ⟨(some 60), .move (.t 9), none, []⟩,
    ⟨(some 61), .call 1081 [(.t 59), (.t 60)], none, []⟩,
    ⟨(some 9), .assign (.t 61), none, []⟩])
  (.seq (.region false [] [] [⟨(some 10), .assign (.c false [(.int .i64 1)]), none, []⟩])
  (.seq (.region false [62, 63, 64, 157] [62, 63, 64] [⟨(some 62), .load true 2 (.t 6), none, []⟩,
    ⟨(some 63), .move (.t 10), none, []⟩,
    ⟨(some 64), .call 82 [(.t 62), (.t 63)], none, []⟩,
    ⟨(some 10), .assign (.t 64), none, []⟩])
  (.seq (.seq (.region false [65, 66] [65] [⟨(some 65), .move (.t 10), none, []⟩,
    ⟨(some 66), .bin .lss (.t 65) (.c false [(.int .i64 0)]), none, []⟩])
  (.cond (.t 66)
  (.seq (.region false [] [] [⟨(some 2), .assign (.c false [(.bool false)]), none, []⟩])
  .ret)
  .skip))
  (.seq (.seq (.region false [67, 68, 69] [67, 68] [⟨(some 67), .move (.t 10), none, []⟩,
    ⟨(some 68), .move (.t 9), none, []⟩,
    ⟨(some 69), .bin .neq (.t 67) (.t 68), none, []⟩])
  (.cond (.t 69)
  (.seq (.region false [] [] [⟨(some 2), .assign (.c false [(.bool false)]), none, []⟩])
  .ret)
  .skip))
  (.seq (.region false [71, 72, 73, 70, 74, 75, 11, 165, 166, 104] [71, 72, 73, 70, 74, 75] [⟨(some 71), .move (.t 0), none, []⟩,
    ⟨(some 72), .call 76 [(.t 71)], none, []⟩,
    ⟨(some 73), .call 158 [(.t 72)], none, []⟩,
    ⟨(some 70), .move (.t 73), none, []⟩,
    ⟨(some 74), .extract 0 (.t 70), none, []⟩,
    ⟨(some 75), .extract 1 (.t 70), none, []⟩,
    ⟨(some 11), .alloc [(.row () []), (.row () [])], none, []⟩,
    ⟨none, .store 2 (.t 11) (.t 74), none, []⟩,
    ⟨(some 12), .assign (.t 75), none, []⟩])
  (.seq (.seq (.region false [76, 77, 78, 79, 80, 81, 82, 83, 84, 171] [76, 77, 78, 79, 80, 81, 82, 83] [⟨(some 76), .load true 2 (.t 11), none, []⟩,
    ⟨(some 77), .load true 2 (.t 3), none, []⟩,
    ⟨(some 78), .call 78 [(.t 76), (.t 77)], none, []⟩,
    ⟨(some 79), .un .not (.t 78), none, []⟩,
    ⟨(some 80), .move (.t 79), none, []⟩,
    ⟨(some 81), .move (.t 12), (some (80, false)), []⟩,
    ⟨(some 82), .move (.t 4), (some (80, false)), []⟩,
    ⟨(some 83), .beq true (.t 81) (.t 82), (some (80, false)), []⟩,
    ⟨(some 84), .pick (.t 80) (.c false [(.bool true)]) (.t 83), none, []⟩])
  (.cond (.t 84)
  (.seq (.region false [] [] [⟨(some 2), .assign (.c false [(.bool false)]), none, []⟩])
  .ret)
  .skip))
  (.seq (.region false [] [] [⟨(some 10), .assign (.c false [(.int .i64 1)]), none, []⟩])
  (.seq (.region false [85, 86, 87, 180] [85, 86, 87] [⟨(some 85), .load true 2 (.t 6), none, []⟩,
    ⟨(some 86), .move (.t 10), none, []⟩,
    ⟨(some 87), .call 82 [(.t 85), (.t 86)], none, []⟩,
    ⟨(some 10), .assign (.t 87), none, []⟩])
  (.seq (.seq (.region false [88, 89] [88] [⟨(some 88), .move (.t 10), none, []⟩,
    ⟨(some 89), .bin .lss (.t 88) (.c false [(.int .i64 0)]), none, []⟩])
  (.cond (.t 89)
  (.seq (.region false [] [] [⟨(some 2), .assign (.c false [(.bool false)]), none, []⟩])
  .ret)
  .skip))
  (.seq (.seq (.region false [90, 91, 92] [90, 91] [⟨(some 90), .move (.t 10), none, []⟩,
    ⟨(some 91), .move (.t 9), none, []⟩,
    ⟨(some 92), .bin .neq (.t 90) (.t 91), none, []⟩])
  (.cond (.t 92)
  (.seq (.region false [] [] [⟨(some 2), .assign (.c false [(.bool false)]), none, []⟩])
  .ret)
  .skip))
  (.seq (.region false [] [] [⟨(some 2), .assign (.c false [(.bool true)]), none, []⟩])
  .ret)))))))))))))))))))))))⟩
def tbl : List (Nat × FnIr) := [(1080, ir1080), (1201, ir1201), (1081, ir1081), (230, ir230), (257, ir257), (231, ir231), (286, ir286), (271, ir271), (142, ir142), (297, ir297), (157, ir157), (232, ir232), (255, ir255), (377, ir377), (336, ir336), (340, ir340), (233, ir233), (351, ir351), (352, ir352), (290, ir290), (258, ir258), (113, ir113), (299, ir299), (298, ir298), (158, ir158), (76, ir76), (79, ir79), (321, ir321), (200, ir200), (78, ir78), (125, ir125), (236, ir236), (82, ir82), (30, ir30)]
def Tb (g : Nat) : Option FnIr := tbl.lookup g
theorem tb_1080 : Tb 1080 = some ir1080 := rfl
theorem tb_1201 : Tb 1201 = some ir1201 := rfl
theorem tb_1081 : Tb 1081 = some ir1081 := rfl
theorem tb_230 : Tb 230 = some ir230 := rfl
theorem tb_257 : Tb 257 = some ir257 := rfl
theorem tb_231 : Tb 231 = some ir231 := rfl
theorem tb_286 : Tb 286 = some ir286 := rfl
theorem tb_271 : Tb 271 = some ir271 := rfl
theorem tb_142 : Tb 142 = some ir142 := rfl
theorem tb_297 : Tb 297 = some ir297 := rfl
theorem tb_157 : Tb 157 = some ir157 := rfl
theorem tb_232 : Tb 232 = some ir232 := rfl
theorem tb_255 : Tb 255 = some ir255 := rfl
theorem tb_377 : Tb 377 = some ir377 := rfl
theorem tb_336 : Tb 336 = some ir336 := rfl
theorem tb_340 : Tb 340 = some ir340 := rfl
theorem tb_233 : Tb 233 = some ir233 := rfl
theorem tb_351 : Tb 351 = some ir351 := rfl
theorem tb_352 : Tb 352 = some ir352 := rfl
theorem tb_290 : Tb 290 = some ir290 := rfl
theorem tb_258 : Tb 258 = some ir258 := rfl
theorem tb_113 : Tb 113 = some ir113 := rfl
theorem tb_299 : Tb 299 = some ir299 := rfl
theorem tb_298 : Tb 298 = some ir298 := rfl
theorem tb_158 : Tb 158 = some ir158 := rfl
theorem tb_76 : Tb 76 = some ir76 := rfl
theorem tb_79 : Tb 79 = some ir79 := rfl
theorem tb_321 : Tb 321 = some ir321 := rfl
theorem tb_200 : Tb 200 = some ir200 := rfl
theorem tb_78 : Tb 78 = some ir78 := rfl
theorem tb_125 : Tb 125 = some ir125 := rfl
theorem tb_236 : Tb 236 = some ir236 := rfl
theorem tb_82 : Tb 82 = some ir82 := rfl
theorem tb_30 : Tb 30 = some ir30 := rfl
end Go.Vm
