/- The code of the functions that the law reaches, as data. -/
import Derived.Test.YtpjfkjkhmmbacaaVmF
set_option maxHeartbeats 4000000
set_option maxRecDepth 10000
set_option linter.unusedVariables false
set_option linter.unusedSimpArgs false
namespace Go.Vm
/- laws.markIntS -/
def ir1080 : FnIr := ⟨0, 2, 19, [(4, none)], [.mrow, .val],
  (.seq (.region false [] [] [⟨(some 4), .assign (.c false [(.int .i64 0)]), none, []⟩])
  (.seq (.seq (.region false [] [] [⟨(some 5), .assign (.c false [(.int .i64 0)]), none, []⟩])
  (.block 0 (.loop (.seq (.seq (.region false [6, 7, 8, 9] [6, 7, 8] [⟨(some 6), .move (.t 5), none, []⟩,
    ⟨(some 7), .move (.t 0), none, []⟩,
    ⟨(some 8), .len false (.t 7), none, []⟩,
    ⟨(some 9), .bin .lss (.t 6) (.t 8), none, []⟩])
  (.cond (.t 9)
  .skip
  (.exit 0)))
  (.seq (.block 1 (.seq (.region false [12, 13, 14, 15] [12, 13, 14, 15] [⟨(some 12), .move (.t 0), none, []⟩,
    ⟨(some 13), .move (.t 5), none, []⟩,
    ⟨(some 14), .move (.t 1), none, []⟩,
    ⟨(some 15), .iaddr 1 (.t 12) (.t 13), none, []⟩,
    ⟨none, .rstore 1 (.t 15) (.t 14), none, []⟩])
  (.region false [16, 17] [16, 17] [⟨(some 16), .move (.t 1), none, []⟩,
    ⟨(some 17), .bin .add (.t 16) (.c false [(.int .i64 1)]), none, []⟩,
    ⟨(some 1), .assign (.t 17), none, []⟩])))
  (.region false [10, 11] [10, 11] [⟨(some 10), .move (.t 5), none, []⟩,
    ⟨(some 11), .bin .add (.t 10) (.c false [(.int .i64 1)]), none, []⟩,
    ⟨(some 5), .assign (.t 11), none, []⟩]))))))
  (.seq (.region false [18] [18] [⟨(some 18), .move (.t 1), none, []⟩,
    ⟨(some 4), .assign (.t 18), none, []⟩])
  .ret)))⟩
/- laws.markExtS -/
def ir1201 : FnIr := ⟨0, 2, 27, [(4, none)], [.mrow, .val],
  (.seq (.region false [] [] [⟨(some 4), .assign (.c false [(.int .i64 0)]), none, []⟩])
  (.seq (.seq (.region false [] [] [⟨(some 5), .assign (.c false [(.int .i64 0)]), none, []⟩])
  (.block 0 (.loop (.seq (.seq (.region false [6, 7, 8, 9] [6, 7, 8] [⟨(some 6), .move (.t 5), none, []⟩,
    ⟨(some 7), .move (.t 0), none, []⟩,
    ⟨(some 8), .len false (.t 7), none, []⟩,
    ⟨(some 9), .bin .lss (.t 6) (.t 8), none, []⟩])
  (.cond (.t 9)
  .skip
  (.exit 0)))
  (.seq (.block 1 (.seq (.region false [12, 13, 14, 15, 16] [12, 13, 14, 15, 16] [⟨(some 12), .move (.t 0), none, []⟩,
    ⟨(some 13), .move (.t 5), none, []⟩,
    ⟨(some 14), .move (.t 1), none, []⟩,
    ⟨(some 15), .iaddr 2 (.t 12) (.t 13), none, []⟩,
    ⟨(some 16), .faddr 0 (.t 15), none, []⟩,
    ⟨none, .rstore 1 (.t 16) (.t 14), none, []⟩])
  (.seq (.region false [17, 18] [17, 18] [⟨(some 17), .move (.t 1), none, []⟩,
    ⟨(some 18), .bin .add (.t 17) (.c false [(.int .i64 1)]), none, []⟩,
    ⟨(some 1), .assign (.t 18), none, []⟩])
  (.region false [19, 20, 21, 22, 23, 24, 25, 52] [19, 20, 21, 22, 23, 24, 25] [⟨(some 19), .move (.t 0), none, []⟩,
    ⟨(some 20), .move (.t 5), none, []⟩,
    ⟨(some 21), .iaddr 2 (.t 19) (.t 20), none, []⟩,
    ⟨(some 22), .faddr 1 (.t 21), none, []⟩,
    ⟨(some 23), .load false 1 (.t 22), none, []⟩,
    ⟨(some 24), .move (.t 1), none, []⟩,
    ⟨(some 25), .call 1080 [(.t 23), (.t 24)], none, []⟩,
    ⟨(some 1), .assign (.t 25), none, []⟩]))))
  (.region false [10, 11] [10, 11] [⟨(some 10), .move (.t 5), none, []⟩,
    ⟨(some 11), .bin .add (.t 10) (.c false [(.int .i64 1)]), none, []⟩,
    ⟨(some 5), .assign (.t 11), none, []⟩]))))))
  (.seq (.region false [26] [26] [⟨(some 26), .move (.t 1), none, []⟩,
    ⟨(some 4), .assign (.t 26), none, []⟩])
  .ret)))⟩
/- laws.markAnswer -/
def ir1153 : FnIr := ⟨0, 2, 10, [(4, none)], [.mrow, .val],
  (.seq (.region false [2, 12] [] [⟨(some 2), .box (.t 0), none, []⟩,
    ⟨(some 4), .assign (.c false [(.int .i64 0)]), none, []⟩])
  (.seq (.region false [5, 6, 7, 8, 18] [5, 6, 7, 8] [⟨(some 5), .faddr 1 (.t 2), none, []⟩,
    ⟨(some 6), .load false 1 (.t 5), none, []⟩,
    ⟨(some 7), .move (.t 1), none, []⟩,
    ⟨(some 8), .call 1201 [(.t 6), (.t 7)], none, []⟩,
    ⟨(some 1), .assign (.t 8), none, []⟩])
  (.seq (.region false [9] [9] [⟨(some 9), .move (.t 1), none, []⟩,
    ⟨(some 4), .assign (.t 9), none, []⟩])
  .ret)))⟩
/- spec.l1In -/
def ir230 : FnIr := ⟨0, 3, 15, [(6, none)], [],
  (.seq (.region false [] [] [⟨(some 6), .assign (.c false [(.bool false)]), none, []⟩])
  (.seq (.region false [7, 8, 9, 10, 11, 12, 13, 14] [7, 8, 9, 10, 11, 12, 13, 14] [⟨(some 7), .move (.t 0), none, []⟩,
    ⟨(some 8), .move (.t 1), none, []⟩,
    ⟨(some 9), .bin .geq (.t 7) (.t 8), none, []⟩,
    ⟨(some 10), .move (.t 9), none, []⟩,
    ⟨(some 11), .move (.t 0), (some (10, true)), []⟩,
    ⟨(some 12), .move (.t 2), (some (10, true)), []⟩,
    ⟨(some 13), .bin .leq (.t 11) (.t 12), (some (10, true)), []⟩,
    ⟨(some 14), .pick (.t 10) (.t 13) (.c false [(.bool false)]), none, []⟩,
    ⟨(some 6), .assign (.t 14), none, []⟩])
  .ret))⟩
/- spec.TagsOf -/
def ir280 : FnIr := ⟨0, 1, 21, [(2, none)], [],
  (.seq (.region false [] [] [⟨(some 2), .assign (.c false [(.row () [])]), none, []⟩])
  (.seq (.region false [5] [5] [⟨(some 5), .bslice [(.int .i64 0)] 0 [], none, []⟩,
    ⟨(some 3), .assign (.t 5), none, []⟩])
  (.seq (.seq (.region false [] [] [⟨(some 4), .assign (.c false [(.int .i64 0)]), none, []⟩])
  (.block 0 (.loop (.seq (.seq (.region false [6, 7, 8, 9] [6, 7, 8] [⟨(some 6), .move (.t 4), none, []⟩,
    ⟨(some 7), .move (.t 0), none, []⟩,
    ⟨(some 8), .len false (.t 7), none, []⟩,
    ⟨(some 9), .bin .lss (.t 6) (.t 8), none, []⟩])
  (.cond (.t 9)
  .skip
  (.exit 0)))
  (.seq (.block 1 (.region false [12, 13, 14, 15, 16, 17, 18, 19] [12, 13, 14, 15, 16, 17, 18, 19] [⟨(some 12), .move (.t 3), none, []⟩,
    ⟨(some 13), .move (.t 0), none, []⟩,
    ⟨(some 14), .move (.t 4), none, []⟩,
    ⟨(some 15), .iaddr 2 (.t 13) (.t 14), none, []⟩,
    ⟨(some 16), .faddr 0 (.t 15), none, []⟩,
    ⟨(some 17), .load false 1 (.t 16), none, []⟩,
    ⟨(some 18), .bslice [(.int .i64 0)] 1 [(0, (.t 17))], none, []⟩,
    ⟨(some 19), .append 1 (.t 12) (.t 18), none, []⟩,
    ⟨(some 3), .assign (.t 19), none, []⟩]))
  (.region false [10, 11] [10, 11] [⟨(some 10), .move (.t 4), none, []⟩,
    ⟨(some 11), .bin .add (.t 10) (.c false [(.int .i64 1)]), none, []⟩,
    ⟨(some 4), .assign (.t 11), none, []⟩]))))))
  (.seq (.region false [20] [20] [⟨(some 20), .move (.t 3), none, []⟩,
    ⟨(some 2), .assign (.t 20), none, []⟩])
  .ret))))⟩
/- spec.l9Has -/
def ir285 : FnIr := ⟨0, 2, 18, [(4, none)], [],
  (.seq (.region false [] [] [⟨(some 4), .assign (.c false [(.bool false)]), none, []⟩])
  (.seq (.seq (.region false [] [] [⟨(some 5), .assign (.c false [(.int .i64 0)]), none, []⟩])
  (.block 0 (.loop (.seq (.seq (.region false [6, 7, 8, 9] [6, 7, 8] [⟨(some 6), .move (.t 5), none, []⟩,
    ⟨(some 7), .move (.t 0), none, []⟩,
    ⟨(some 8), .len false (.t 7), none, []⟩,
    ⟨(some 9), .bin .lss (.t 6) (.t 8), none, []⟩])
  (.cond (.t 9)
  .skip
  (.exit 0)))
  (.seq (.block 1 (.seq (.region false [12, 13, 14, 15, 16, 17] [12, 13, 14, 15, 16] [⟨(some 12), .move (.t 0), none, []⟩,
    ⟨(some 13), .move (.t 5), none, []⟩,
    ⟨(some 14), .iaddr 1 (.t 12) (.t 13), none, []⟩,
    ⟨(some 15), .load false 1 (.t 14), none, []⟩,
    ⟨(some 16), .move (.t 1), none, []⟩,
    ⟨(some 17), .bin .eql (.t 15) (.t 16), none, []⟩])
  (.cond (.t 17)
  (.seq (.region false [] [] [⟨(some 4), .assign (.c false [(.bool true)]), none, []⟩])
  .ret)
  .skip)))
  (.region false [10, 11] [10, 11] [⟨(some 10), .move (.t 5), none, []⟩,
    ⟨(some 11), .bin .add (.t 10) (.c false [(.int .i64 1)]), none, []⟩,
    ⟨(some 5), .assign (.t 11), none, []⟩]))))))
  (.seq (.region false [] [] [⟨(some 4), .assign (.c false [(.bool false)]), none, []⟩])
  .ret)))⟩
/- spec.KnownOf -/
def ir307 : FnIr := ⟨0, 2, 38, [(4, none)], [],
  (.seq (.region false [] [] [⟨(some 4), .assign (.c false [(.row () [])]), none, []⟩])
  (.seq (.region false [7] [7] [⟨(some 7), .bslice [(.int .i64 0), (.row () [])] 0 [], none, []⟩,
    ⟨(some 5), .assign (.t 7), none, []⟩])
  (.seq (.seq (.region false [] [] [⟨(some 6), .assign (.c false [(.int .i64 0)]), none, []⟩])
  (.block 0 (.loop (.seq (.seq (.region false [8, 9, 10, 11] [8, 9, 10] [⟨(some 8), .move (.t 6), none, []⟩,
    ⟨(some 9), .move (.t 0), none, []⟩,
    ⟨(some 10), .len false (.t 9), none, []⟩,
    ⟨(some 11), .bin .lss (.t 8) (.t 10), none, []⟩])
  (.cond (.t 11)
  .skip
  (.exit 0)))
  (.seq (.block 1 (.seq (.region false [14, 15, 16, 17, 18, 19, 20, 58] [14, 15, 16, 17, 18, 19] [⟨(some 14), .move (.t 1), none, []⟩,
    ⟨(some 15), .move (.t 0), none, []⟩,
    ⟨(some 16), .move (.t 6), none, []⟩,
    ⟨(some 17), .iaddr 2 (.t 15) (.t 16), none, []⟩,
    ⟨(some 18), .faddr 0 (.t 17), none, []⟩,
    ⟨(some 19), .load false 1 (.t 18), none, []⟩,
    ⟨(some 20), .call 285 [(.t 14), (.t 19)], none, []⟩])
  (.cond (.t 20)
  (.region true [21, 22, 23, 24, 25, 26, 27, 28, 29, 30, 31, 32, 33, 34, 35, 36] [21, 22, 23, 24, 25, 26, 27, 28, 29, 30, 31, 32, 33, 34, 35, 36] [⟨(some 21), .move (.t 5), none, []⟩,
    ⟨(some 22), .move (.t 0), none, []⟩,
    ⟨(some 23), .move (.t 6), none, []⟩,
    ⟨(some 24), .iaddr 2 (.t 22) (.t 23), none, [1, 2]⟩,
    ⟨(some 25), .faddr 0 (.t 24), none, [3, 1, 2]⟩,
    ⟨(some 26), .load false 1 (.t 25), none, [4, 3, 1, 2]⟩,
    ⟨(some 27), .bslice [(.int .i64 0)] 0 [], none, []⟩,
    ⟨(some 28), .move (.t 0), none, []⟩,
    ⟨(some 29), .move (.t 6), none, []⟩,
    ⟨(some 30), .iaddr 2 (.t 28) (.t 29), none, [7, 8]⟩,
    ⟨(some 31), .faddr 1 (.t 30), none, [9, 7, 8]⟩,
    ⟨(some 32), .load false 1 (.t 31), none, [10, 9, 7, 8]⟩,
    ⟨(some 33), .append 1 (.t 27) (.t 32), none, [6, 11, 10, 9, 7, 8]⟩,
    ⟨(some 34), .build [(.int .i64 0), (.row () [])] [(0, 1, (.t 26)), (1, 1, (.t 33))], none, [5, 4, 3, 1, 2, 12, 6, 11, 10, 9, 7, 8]⟩,
    ⟨(some 35), .bslice [(.int .i64 0), (.row () [])] 1 [(0, (.t 34))], none, [13, 5, 4, 3, 1, 2, 12, 6, 11, 10, 9, 7, 8]⟩,
    ⟨(some 36), .append 2 (.t 21) (.t 35), none, [0, 14, 13, 5, 4, 3, 1, 2, 12, 6, 11, 10, 9, 7, 8]⟩,
    ⟨(some 5), .assign (.t 36), none, [15, 0, 14, 13, 5, 4, 3, 1, 2, 12, 6, 11, 10, 9, 7, 8]⟩])
  .skip)))
  (.region false [12, 13] [12, 13] [⟨(some 12), .move (.t 6), none, []⟩,
    ⟨(some 13), .bin .add (.t 12) (.c false [(.int .i64 1)]), none, []⟩,
    ⟨(some 6), .assign (.t 13), none, []⟩]))))))
  (.seq (.region false [37] [37] [⟨(some 37), .move (.t 5), none, []⟩,
    ⟨(some 4), .assign (.t 37), none, []⟩])
  .ret))))⟩
/- spec.l11Copy -/
def ir295 : FnIr := ⟨0, 1, 7, [(2, none)], [],
  (.seq (.region false [] [] [⟨(some 2), .assign (.c false [(.row () [])]), none, []⟩])
  (.seq (.region false [3, 4, 5, 6, 12, 13] [3, 4, 5, 6] [⟨(some 3), .move (.t 0), none, []⟩,
    ⟨(some 4), .move (.t 0), none, []⟩,
    ⟨(some 5), .call 280 [(.t 4)], none, []⟩,
    ⟨(some 6), .call 307 [(.t 3), (.t 5)], none, []⟩,
    ⟨(some 2), .assign (.t 6), none, []⟩])
  .ret))⟩
/- spec.l18Drop -/
def ir296 : FnIr := ⟨0, 2, 38, [(4, none)], [],
  (.seq (.region false [] [] [⟨(some 4), .assign (.c false [(.row () [])]), none, []⟩])
  (.seq (.region false [7] [7] [⟨(some 7), .bslice [(.int .i64 0), (.row () [])] 0 [], none, []⟩,
    ⟨(some 5), .assign (.t 7), none, []⟩])
  (.seq (.seq (.region false [] [] [⟨(some 6), .assign (.c false [(.int .i64 0)]), none, []⟩])
  (.block 0 (.loop (.seq (.seq (.region false [8, 9, 10, 11] [8, 9, 10] [⟨(some 8), .move (.t 6), none, []⟩,
    ⟨(some 9), .move (.t 0), none, []⟩,
    ⟨(some 10), .len false (.t 9), none, []⟩,
    ⟨(some 11), .bin .lss (.t 8) (.t 10), none, []⟩])
  (.cond (.t 11)
  .skip
  (.exit 0)))
  (.seq (.block 1 (.seq (.region false [14, 15, 16, 17, 18, 19, 20] [14, 15, 16, 17, 18, 19] [⟨(some 14), .move (.t 0), none, []⟩,
    ⟨(some 15), .move (.t 6), none, []⟩,
    ⟨(some 16), .iaddr 2 (.t 14) (.t 15), none, []⟩,
    ⟨(some 17), .faddr 0 (.t 16), none, []⟩,
    ⟨(some 18), .load false 1 (.t 17), none, []⟩,
    ⟨(some 19), .move (.t 1), none, []⟩,
    ⟨(some 20), .bin .neq (.t 18) (.t 19), none, []⟩])
  (.cond (.t 20)
  (.region true [21, 22, 23, 24, 25, 26, 27, 28, 29, 30, 31, 32, 33, 34, 35, 36] [21, 22, 23, 24, 25, 26, 27, 28, 29, 30, 31, 32, 33, 34, 35, 36] [⟨(some 21), .move (.t 5), none, []⟩,
    ⟨(some 22), .move (.t 0), none, []⟩,
    ⟨(some 23), .move (.t 6), none, []⟩,
    ⟨(some 24), .iaddr 2 (.t 22) (.t 23), none, [1, 2]⟩,
    ⟨(some 25), .faddr 0 (.t 24), none, [3, 1, 2]⟩,
    ⟨(some 26), .load false 1 (.t 25), none, [4, 3, 1, 2]⟩,
    ⟨(some 27), .bslice [(.int .i64 0)] 0 [], none, []⟩,
    ⟨(some 28), .move (.t 0), none, []⟩,
    ⟨(some 29), .move (.t 6), none, []⟩,
    ⟨(some 30), .iaddr 2 (.t 28) (.t 29), none, [7, 8]⟩,
    ⟨(some 31), .faddr 1 (.t 30), none, [9, 7, 8]⟩,
    ⟨(some 32), .load false 1 (.t 31), none, [10, 9, 7, 8]⟩,
    ⟨(some 33), .append 1 (.t 27) (.t 32), none, [6, 11, 10, 9, 7, 8]⟩,
    ⟨(some 34), .build [(.int .i64 0), (.row () [])] [(0, 1, (.t 26)), (1, 1, (.t 33))], none, [5, 4, 3, 1, 2, 12, 6, 11, 10, 9, 7, 8]⟩,
    ⟨(some 35), .bslice [(.int .i64 0), (.row () [])] 1 [(0, (.t 34))], none, [13, 5, 4, 3, 1, 2, 12, 6, 11, 10, 9, 7, 8]⟩,
    ⟨(some 36), .append 2 (.t 21) (.t 35), none, [0, 14, 13, 5, 4, 3, 1, 2, 12, 6, 11, 10, 9, 7, 8]⟩,
    ⟨(some 5), .assign (.t 36), none, [15, 0, 14, 13, 5, 4, 3, 1, 2, 12, 6, 11, 10, 9, 7, 8]⟩])
  .skip)))
  (.region false [12, 13] [12, 13] [⟨(some 12), .move (.t 6), none, []⟩,
    ⟨(some 13), .bin .add (.t 12) (.c false [(.int .i64 1)]), none, []⟩,
    ⟨(some 6), .assign (.t 13), none, []⟩]))))))
  (.seq (.region false [37] [37] [⟨(some 37), .move (.t 5), none, []⟩,
    ⟨(some 4), .assign (.t 37), none, []⟩])
  .ret))))⟩
/- spec.EditAnswer -/
def ir154 : FnIr := ⟨0, 2, 35, [(4, (some (true, 2)))], [],
  (.seq (.region false [2, 3, 4, 37, 38, 39] [] [⟨(some 2), .box (.t 0), none, []⟩,
    ⟨(some 3), .box (.t 1), none, []⟩,
    ⟨(some 4), .alloc [(.int .i64 0), (.row () [])], none, []⟩])
  (.seq (.region true [6, 7, 8, 9, 10, 11, 5, 45, 40] [6, 7, 8, 9, 10, 11] [⟨(some 6), .faddr 0 (.t 2), none, []⟩,
    ⟨(some 7), .load false 1 (.t 6), none, [0]⟩,
    ⟨(some 8), .faddr 1 (.t 2), none, []⟩,
    ⟨(some 9), .load false 1 (.t 8), none, [2]⟩,
    ⟨(some 10), .call 295 [(.t 9)], none, [3, 2]⟩,
    ⟨(some 11), .build [(.int .i64 0), (.row () [])] [(0, 1, (.t 7)), (1, 1, (.t 10))], none, [1, 0, 4, 3, 2]⟩,
    ⟨(some 5), .alloc [(.int .i64 0), (.row () [])], none, []⟩,
    ⟨none, .store 2 (.t 5) (.t 11), none, [6, 5, 1, 0, 4, 3, 2]⟩])
  (.seq (.block 0 (.seq (.region false [13, 14, 15, 16, 17, 18, 19, 20, 54] [13, 14, 15, 16, 17, 18, 19, 20] [⟨(some 13), .faddr 0 (.t 3), none, []⟩,
    ⟨(some 14), .load false 1 (.t 13), none, []⟩,
    ⟨(some 15), .bin .eql (.t 14) (.c false [(.int .i64 4)]), none, []⟩,
    ⟨(some 16), .move (.t 15), none, []⟩,
    ⟨(some 17), .faddr 1 (.t 3), (some (16, true)), []⟩,
    ⟨(some 18), .load false 1 (.t 17), (some (16, true)), []⟩,
    ⟨(some 19), .call 230 [(.t 18), (.c false [(.int .i64 1)]), (.c false [(.int .i64 9)])], (some (16, true)), []⟩,
    ⟨(some 20), .pick (.t 16) (.t 19) (.c false [(.bool false)]), none, []⟩,
    ⟨(some 12), .assign (.t 20), none, []⟩])
  (.cond (.t 12)
  (.region false [21, 22, 23] [21, 22, 23] [⟨(some 21), .faddr 1 (.t 3), none, []⟩,
    ⟨(some 22), .load false 1 (.t 21), none, []⟩,
    ⟨(some 23), .faddr 0 (.t 5), none, []⟩,
    ⟨none, .store 1 (.t 23) (.t 22), none, []⟩])
  (.seq (.region false [25, 26, 27] [25, 26, 27] [⟨(some 25), .faddr 0 (.t 3), none, []⟩,
    ⟨(some 26), .load false 1 (.t 25), none, []⟩,
    ⟨(some 27), .bin .eql (.t 26) (.c false [(.int .i64 5)]), none, []⟩,
    ⟨(some 24), .assign (.t 27), none, []⟩])
  (.cond (.t 24)
  (.region false [28, 29, 30, 31, 32, 33, 67] [28, 29, 30, 31, 32, 33] [⟨(some 28), .faddr 1 (.t 2), none, []⟩,
    ⟨(some 29), .load false 1 (.t 28), none, []⟩,
    ⟨(some 30), .faddr 1 (.t 3), none, []⟩,
    ⟨(some 31), .load false 1 (.t 30), none, []⟩,
    ⟨(some 32), .call 296 [(.t 29), (.t 31)], none, []⟩,
    ⟨(some 33), .faddr 1 (.t 5), none, []⟩,
    ⟨none, .store 1 (.t 33) (.t 32), none, []⟩])
  .skip)))))
  (.seq (.region false [34] [34] [⟨(some 34), .load true 2 (.t 5), none, []⟩,
    ⟨none, .store 2 (.t 4) (.t 34), none, []⟩])
  .ret))))⟩
/- impl.InRange -/
def ir232 : FnIr := ⟨0, 3, 15, [(6, none)], [],
  (.seq (.region false [] [] [⟨(some 6), .assign (.c false [(.bool false)]), none, []⟩])
  (.seq (.region false [7, 8, 9, 10, 11, 12, 13, 14] [7, 8, 9, 10, 11, 12, 13, 14] [⟨(some 7), .move (.t 1), none, []⟩,
    ⟨(some 8), .move (.t 0), none, []⟩,
    ⟨(some 9), .bin .leq (.t 7) (.t 8), none, []⟩,
    ⟨(some 10), .move (.t 9), none, []⟩,
    ⟨(some 11), .move (.t 0), (some (10, true)), []⟩,
    ⟨(some 12), .move (.t 2), (some (10, true)), []⟩,
    ⟨(some 13), .bin .leq (.t 11) (.t 12), (some (10, true)), []⟩,
    ⟨(some 14), .pick (.t 10) (.t 13) (.c false [(.bool false)]), none, []⟩,
    ⟨(some 6), .assign (.t 14), none, []⟩])
  .ret))⟩
/- impl.keptExts -/
def ir264 : FnIr := ⟨0, 2, 31, [(4, none)], [],
  (.seq (.region false [] [] [⟨(some 4), .assign (.c false [(.row () [])]), none, []⟩])
  (.seq (.region false [8] [8] [⟨(some 8), .bslice [(.int .i64 0), (.row () [])] 0 [], none, []⟩,
    ⟨(some 5), .assign (.t 8), none, []⟩])
  (.seq (.seq (.region false [9, 10, 11] [] [⟨(some 9), .move (.t 0), none, []⟩,
    ⟨(some 10), .len false (.t 9), none, []⟩,
    ⟨(some 11), .move (.c false [(.int .i64 0)]), none, []⟩])
  (.block 0 (.loop (.seq (.region false [12] [] [⟨(some 12), .bin .lss (.t 11) (.t 10), none, []⟩])
  (.seq (.cond (.t 12)
  .skip
  (.exit 0))
  (.seq (.block 1 (.seq (.region false [13, 14, 7, 38] [13, 14] [⟨(some 13), .iaddr 2 (.t 9) (.t 11), none, []⟩,
    ⟨(some 14), .load true 2 (.t 13), none, []⟩,
    ⟨(some 7), .alloc [(.int .i64 0), (.row () [])], none, []⟩,
    ⟨none, .store 2 (.t 7) (.t 14), none, []⟩])
  (.seq (.region false [15, 16, 17, 18, 49] [15, 16, 17] [⟨(some 15), .move (.t 1), none, []⟩,
    ⟨(some 16), .faddr 0 (.t 7), none, []⟩,
    ⟨(some 17), .load false 1 (.t 16), none, []⟩,
    ⟨(some 18), .callv (.t 15) [(.t 17)], none, []⟩])
  (.cond (.t 18)
  (.region true [19, 20, 21, 22, 23, 24, 25, 26, 27, 28] [19, 20, 21, 22, 23, 24, 25, 26, 27, 28] [⟨(some 19), .move (.t 5), none, []⟩,
    ⟨(some 20), .faddr 0 (.t 7), none, []⟩,
    ⟨(some 21), .load false 1 (.t 20), none, [1]⟩,
    ⟨(some 22), .bslice [(.int .i64 0)] 0 [], none, []⟩,
    ⟨(some 23), .faddr 1 (.t 7), none, []⟩,
    ⟨(some 24), .load false 1 (.t 23), none, [4]⟩,
    ⟨(some 25), .append 1 (.t 22) (.t 24), none, [3, 5, 4]⟩,
    ⟨(some 26), .build [(.int .i64 0), (.row () [])] [(0, 1, (.t 21)), (1, 1, (.t 25))], none, [2, 1, 6, 3, 5, 4]⟩,
    ⟨(some 27), .bslice [(.int .i64 0), (.row () [])] 1 [(0, (.t 26))], none, [7, 2, 1, 6, 3, 5, 4]⟩,
    ⟨(some 28), .append 2 (.t 19) (.t 27), none, [0, 8, 7, 2, 1, 6, 3, 5, 4]⟩,
    ⟨(some 5), .assign (.t 28), none, [9, 0, 8, 7, 2, 1, 6, 3, 5, 4]⟩])
  .skip))))
  (.region false [29] [29] [⟨(some 29), .bin .add (.t 11) (.c false [(.int .i64 1)]), none, []⟩,
    ⟨(some 11), .move (.t 29), none, []⟩])))))))
  (.seq (.region false [30] [30] [⟨(some 30), .move (.t 5), none, []⟩,
    ⟨(some 4), .assign (.t 30), none, []⟩])
  .ret))))⟩
/- impl.copyExts$1 -/
def ir347 : FnIr := ⟨0, 1, 3, [(2, none)], [],
  (.seq (.region false [] [] [⟨(some 2), .assign (.c false [(.bool false)]), none, []⟩])
  (.seq (.region false [] [] [⟨(some 2), .assign (.c false [(.bool true)]), none, []⟩])
  .ret))⟩
/- impl.copyExts -/
def ir266 : FnIr := ⟨0, 1, 5, [(2, none)], [],
  (.seq (.region false [] [] [⟨(some 2), .assign (.c false [(.row () [])]), none, []⟩])
  (.seq (.region false [3, 4, 9] [3, 4] [⟨(some 3), .move (.t 0), none, []⟩,
    ⟨(some 4), .call 264 [(.t 3), (.f 347)], none, []⟩,
    ⟨(some 2), .assign (.t 4), none, []⟩])
  .ret))⟩
/- impl.EditAnswer$1 -/
def ir267 : FnIr := ⟨0, 2, 8, [(3, none)], [],
  (.seq (.region false [] [] [⟨(some 3), .assign (.c false [(.bool false)]), none, []⟩])
  (.seq (.region false [4, 5, 6, 7] [4, 5, 6, 7] [⟨(some 4), .move (.t 0), none, []⟩,
    ⟨(some 5), .faddr 1 (.t 1), none, []⟩,
    ⟨(some 6), .load false 1 (.t 5), none, []⟩,
    ⟨(some 7), .bin .neq (.t 4) (.t 6), none, []⟩,
    ⟨(some 3), .assign (.t 7), none, []⟩])
  .ret))⟩
/- impl.EditAnswer -/
def ir119 : FnIr := ⟨0, 2, 30, [(4, (some (true, 2)))], [],
  (.seq (.region false [2, 3, 4, 32, 33, 34] [] [⟨(some 2), .box (.t 0), none, []⟩,
    ⟨(some 3), .box (.t 1), none, []⟩,
    ⟨(some 4), .alloc [(.int .i64 0), (.row () [])], none, []⟩])
  (.seq (.region true [6, 7, 8, 9, 10, 11, 5, 40, 35] [6, 7, 8, 9, 10, 11] [⟨(some 6), .faddr 0 (.t 2), none, []⟩,
    ⟨(some 7), .load false 1 (.t 6), none, [0]⟩,
    ⟨(some 8), .faddr 1 (.t 2), none, []⟩,
    ⟨(some 9), .load false 1 (.t 8), none, [2]⟩,
    ⟨(some 10), .call 266 [(.t 9)], none, [3, 2]⟩,
    ⟨(some 11), .build [(.int .i64 0), (.row () [])] [(0, 1, (.t 7)), (1, 1, (.t 10))], none, [1, 0, 4, 3, 2]⟩,
    ⟨(some 5), .alloc [(.int .i64 0), (.row () [])], none, []⟩,
    ⟨none, .store 2 (.t 5) (.t 11), none, [6, 5, 1, 0, 4, 3, 2]⟩])
  (.seq (.seq (.region false [12, 13] [12] [⟨(some 12), .faddr 0 (.t 3), none, []⟩,
    ⟨(some 13), .load false 1 (.t 12), none, []⟩])
  (.block 0 (.seq (.region false [15] [15] [⟨(some 15), .bin .eql (.t 13) (.c false [(.int .i64 4)]), none, []⟩,
    ⟨(some 14), .assign (.t 15), none, []⟩])
  (.cond (.t 14)
  (.seq (.region false [16, 17, 18, 48] [16, 17] [⟨(some 16), .faddr 1 (.t 3), none, []⟩,
    ⟨(some 17), .load false 1 (.t 16), none, []⟩,
    ⟨(some 18), .call 232 [(.t 17), (.c false [(.int .i64 1)]), (.c false [(.int .i64 9)])], none, []⟩])
  (.cond (.t 18)
  (.region false [19, 20, 21] [19, 20, 21] [⟨(some 19), .faddr 1 (.t 3), none, []⟩,
    ⟨(some 20), .load false 1 (.t 19), none, []⟩,
    ⟨(some 21), .faddr 0 (.t 5), none, []⟩,
    ⟨none, .store 1 (.t 21) (.t 20), none, []⟩])
  .skip))
  (.seq (.region false [23] [23] [⟨(some 23), .bin .eql (.t 13) (.c false [(.int .i64 5)]), none, []⟩,
    ⟨(some 22), .assign (.t 23), none, []⟩])
  (.cond (.t 22)
  (.region false [24, 25, 26, 27, 28, 57] [24, 25, 26, 27, 28] [⟨(some 24), .faddr 1 (.t 2), none, []⟩,
    ⟨(some 25), .load false 1 (.t 24), none, []⟩,
    ⟨(some 26), .mkfn 267 [3], none, []⟩,
    ⟨(some 27), .call 264 [(.t 25), (.t 26)], none, []⟩,
    ⟨(some 28), .faddr 1 (.t 5), none, []⟩,
    ⟨none, .store 1 (.t 28) (.t 27), none, []⟩])
  .skip))))))
  (.seq (.region false [29] [29] [⟨(some 29), .load true 2 (.t 5), none, []⟩,
    ⟨none, .store 2 (.t 4) (.t 29), none, []⟩])
  .ret))))⟩
/- laws.szIntS -/
def ir227 : FnIr := ⟨0, 2, 12, [(4, none)], [],
  (.seq (.region false [] [] [⟨(some 4), .assign (.c false [(.int .i64 0)]), none, []⟩])
  (.seq (.region false [5, 6, 7, 8] [5, 6, 7, 8] [⟨(some 5), .move (.t 1), none, []⟩,
    ⟨(some 6), .move (.t 0), none, []⟩,
    ⟨(some 7), .len false (.t 6), none, []⟩,
    ⟨(some 8), .bin .sub (.t 5) (.t 7), none, []⟩,
    ⟨(some 1), .assign (.t 8), none, []⟩])
  (.seq (.seq (.region false [9, 10] [9] [⟨(some 9), .move (.t 1), none, []⟩,
    ⟨(some 10), .bin .lss (.t 9) (.c false [(.int .i64 0)]), none, []⟩])
  (.cond (.t 10)
  (.seq (.region false [] [] [⟨(some 4), .assign (.c false [(.int .i64 (-1))]), none, []⟩])
  .ret)
  .skip))
  (.seq (.region false [11] [11] [⟨(some 11), .move (.t 1), none, []⟩,
    ⟨(some 4), .assign (.t 11), none, []⟩])
  .ret))))⟩
/- laws.szExt -/
def ir319 : FnIr := ⟨0, 2, 12, [(4, none)], [],
  (.seq (.region false [2, 14] [] [⟨(some 2), .box (.t 0), none, []⟩,
    ⟨(some 4), .assign (.c false [(.int .i64 0)]), none, []⟩])
  (.seq (.region false [5, 6, 7, 8, 20] [5, 6, 7, 8] [⟨(some 5), .faddr 1 (.t 2), none, []⟩,
    ⟨(some 6), .load false 1 (.t 5), none, []⟩,
    ⟨(some 7), .move (.t 1), none, []⟩,
    ⟨(some 8), .call 227 [(.t 6), (.t 7)], none, []⟩,
    ⟨(some 1), .assign (.t 8), none, []⟩])
  (.seq (.seq (.region false [9, 10] [9] [⟨(some 9), .move (.t 1), none, []⟩,
    ⟨(some 10), .bin .lss (.t 9) (.c false [(.int .i64 0)]), none, []⟩])
  (.cond (.t 10)
  (.seq (.region false [] [] [⟨(some 4), .assign (.c false [(.int .i64 (-1))]), none, []⟩])
  .ret)
  .skip))
  (.seq (.region false [11] [11] [⟨(some 11), .move (.t 1), none, []⟩,
    ⟨(some 4), .assign (.t 11), none, []⟩])
  .ret))))⟩
/- laws.szExtS -/
def ir197 : FnIr := ⟨0, 2, 27, [(4, none)], [],
  (.seq (.region false [] [] [⟨(some 4), .assign (.c false [(.int .i64 0)]), none, []⟩])
  (.seq (.region false [6, 7, 8, 9] [6, 7, 8, 9] [⟨(some 6), .move (.t 1), none, []⟩,
    ⟨(some 7), .move (.t 0), none, []⟩,
    ⟨(some 8), .len false (.t 7), none, []⟩,
    ⟨(some 9), .bin .sub (.t 6) (.t 8), none, []⟩,
    ⟨(some 1), .assign (.t 9), none, []⟩])
  (.seq (.seq (.region false [10, 11] [10] [⟨(some 10), .move (.t 1), none, []⟩,
    ⟨(some 11), .bin .lss (.t 10) (.c false [(.int .i64 0)]), none, []⟩])
  (.cond (.t 11)
  (.seq (.region false [] [] [⟨(some 4), .assign (.c false [(.int .i64 (-1))]), none, []⟩])
  .ret)
  .skip))
  (.seq (.seq (.region false [] [] [⟨(some 5), .assign (.c false [(.int .i64 0)]), none, []⟩])
  (.block 0 (.loop (.seq (.seq (.region false [12, 13, 14, 15] [12, 13, 14] [⟨(some 12), .move (.t 5), none, []⟩,
    ⟨(some 13), .move (.t 0), none, []⟩,
    ⟨(some 14), .len false (.t 13), none, []⟩,
    ⟨(some 15), .bin .lss (.t 12) (.t 14), none, []⟩])
  (.cond (.t 15)
  .skip
  (.exit 0)))
  (.seq (.block 1 (.seq (.region false [18, 19, 20, 21, 22, 23, 50] [18, 19, 20, 21, 22, 23] [⟨(some 18), .move (.t 0), none, []⟩,
    ⟨(some 19), .move (.t 5), none, []⟩,
    ⟨(some 20), .iaddr 2 (.t 18) (.t 19), none, []⟩,
    ⟨(some 21), .load true 2 (.t 20), none, []⟩,
    ⟨(some 22), .move (.t 1), none, []⟩,
    ⟨(some 23), .call 319 [(.t 21), (.t 22)], none, []⟩,
    ⟨(some 1), .assign (.t 23), none, []⟩])
  (.seq (.region false [24, 25] [24] [⟨(some 24), .move (.t 1), none, []⟩,
    ⟨(some 25), .bin .lss (.t 24) (.c false [(.int .i64 0)]), none, []⟩])
  (.cond (.t 25)
  (.seq (.region false [] [] [⟨(some 4), .assign (.c false [(.int .i64 (-1))]), none, []⟩])
  .ret)
  .skip))))
  (.region false [16, 17] [16, 17] [⟨(some 16), .move (.t 5), none, []⟩,
    ⟨(some 17), .bin .add (.t 16) (.c false [(.int .i64 1)]), none, []⟩,
    ⟨(some 5), .assign (.t 17), none, []⟩]))))))
  (.seq (.region false [26] [26] [⟨(some 26), .move (.t 1), none, []⟩,
    ⟨(some 4), .assign (.t 26), none, []⟩])
  .ret)))))⟩
/- laws.szAnswer -/
def ir126 : FnIr := ⟨0, 2, 12, [(4, none)], [],
  (.seq (.region false [2, 14] [] [⟨(some 2), .box (.t 0), none, []⟩,
    ⟨(some 4), .assign (.c false [(.int .i64 0)]), none, []⟩])
  (.seq (.region false [5, 6, 7, 8, 20] [5, 6, 7, 8] [⟨(some 5), .faddr 1 (.t 2), none, []⟩,
    ⟨(some 6), .load false 1 (.t 5), none, []⟩,
    ⟨(some 7), .move (.t 1), none, []⟩,
    ⟨(some 8), .call 197 [(.t 6), (.t 7)], none, []⟩,
    ⟨(some 1), .assign (.t 8), none, []⟩])
  (.seq (.seq (.region false [9, 10] [9] [⟨(some 9), .move (.t 1), none, []⟩,
    ⟨(some 10), .bin .lss (.t 9) (.c false [(.int .i64 0)]), none, []⟩])
  (.cond (.t 10)
  (.seq (.region false [] [] [⟨(some 4), .assign (.c false [(.int .i64 (-1))]), none, []⟩])
  .ret)
  .skip))
  (.seq (.region false [11] [11] [⟨(some 11), .move (.t 1), none, []⟩,
    ⟨(some 4), .assign (.t 11), none, []⟩])
  .ret))))⟩
/- laws.toIntS -/
def ir76 : FnIr := ⟨0, 1, 22, [(2, none)], [],
  (.seq (.region false [] [] [⟨(some 2), .assign (.c false [(.row () [])]), none, []⟩])
  (.seq (.region false [5, 6, 7] [5, 6, 7] [⟨(some 5), .move (.t 0), none, []⟩,
    ⟨(some 6), .len false (.t 5), none, []⟩,
    ⟨(some 7), .mkslice [(.int .i64 0)] (.t 6) (.t 6), none, []⟩,
    ⟨(some 3), .assign (.t 7), none, []⟩])
  (.seq (.seq (.region false [] [] [⟨(some 4), .assign (.c false [(.int .i64 0)]), none, []⟩])
  (.block 0 (.loop (.seq (.seq (.region false [8, 9, 10, 11] [8, 9, 10] [⟨(some 8), .move (.t 4), none, []⟩,
    ⟨(some 9), .move (.t 0), none, []⟩,
    ⟨(some 10), .len false (.t 9), none, []⟩,
    ⟨(some 11), .bin .lss (.t 8) (.t 10), none, []⟩])
  (.cond (.t 11)
  .skip
  (.exit 0)))
  (.seq (.block 1 (.region false [14, 15, 16, 17, 18, 19, 20] [14, 15, 16, 17, 18, 19, 20] [⟨(some 14), .move (.t 3), none, []⟩,
    ⟨(some 15), .move (.t 4), none, []⟩,
    ⟨(some 16), .move (.t 0), none, []⟩,
    ⟨(some 17), .move (.t 4), none, []⟩,
    ⟨(some 18), .iaddr 1 (.t 16) (.t 17), none, []⟩,
    ⟨(some 19), .load false 1 (.t 18), none, []⟩,
    ⟨(some 20), .iaddr 1 (.t 14) (.t 15), none, []⟩,
    ⟨none, .rstore 1 (.t 20) (.t 19), none, []⟩]))
  (.region false [12, 13] [12, 13] [⟨(some 12), .move (.t 4), none, []⟩,
    ⟨(some 13), .bin .add (.t 12) (.c false [(.int .i64 1)]), none, []⟩,
    ⟨(some 4), .assign (.t 13), none, []⟩]))))))
  (.seq (.region false [21] [21] [⟨(some 21), .move (.t 3), none, []⟩,
    ⟨(some 2), .assign (.t 21), none, []⟩])
  .ret))))⟩
/- laws.toExt -/
def ir320 : FnIr := ⟨0, 1, 12, [(2, (some (true, 2)))], [],
  (.seq (.region false [1, 2, 13, 14] [] [⟨(some 1), .box (.t 0), none, []⟩,
    ⟨(some 2), .alloc [(.int .i64 0), (.row () [])], none, []⟩])
  (.seq (.region false [3, 15] [] [⟨(some 3), .alloc [(.int .i64 0), (.row () [])], none, []⟩])
  (.seq (.region false [4, 5, 6] [4, 5, 6] [⟨(some 4), .faddr 0 (.t 1), none, []⟩,
    ⟨(some 5), .load false 1 (.t 4), none, []⟩,
    ⟨(some 6), .faddr 0 (.t 3), none, []⟩,
    ⟨none, .store 1 (.t 6) (.t 5), none, []⟩])
  (.seq (.region false [7, 8, 9, 10, 21] [7, 8, 9, 10] [⟨(some 7), .faddr 1 (.t 1), none, []⟩,
    ⟨(some 8), .load false 1 (.t 7), none, []⟩,
    ⟨(some 9), .call 76 [(.t 8)], none, []⟩,
    ⟨(some 10), .faddr 1 (.t 3), none, []⟩,
    ⟨none, .store 1 (.t 10) (.t 9), none, []⟩])
  (.seq (.region false [11] [11] [⟨(some 11), .load true 2 (.t 3), none, []⟩,
    ⟨none, .store 2 (.t 2) (.t 11), none, []⟩])
  .ret)))))⟩
/- laws.toExtS -/
def ir199 : FnIr := ⟨0, 1, 23, [(2, none)], [],
  (.seq (.region false [] [] [⟨(some 2), .assign (.c false [(.row () [])]), none, []⟩])
  (.seq (.region false [5, 6, 7] [5, 6, 7] [⟨(some 5), .move (.t 0), none, []⟩,
    ⟨(some 6), .len false (.t 5), none, []⟩,
    ⟨(some 7), .mkslice [(.int .i64 0), (.row () [])] (.t 6) (.t 6), none, []⟩,
    ⟨(some 3), .assign (.t 7), none, []⟩])
  (.seq (.seq (.region false [] [] [⟨(some 4), .assign (.c false [(.int .i64 0)]), none, []⟩])
  (.block 0 (.loop (.seq (.seq (.region false [8, 9, 10, 11] [8, 9, 10] [⟨(some 8), .move (.t 4), none, []⟩,
    ⟨(some 9), .move (.t 0), none, []⟩,
    ⟨(some 10), .len false (.t 9), none, []⟩,
    ⟨(some 11), .bin .lss (.t 8) (.t 10), none, []⟩])
  (.cond (.t 11)
  .skip
  (.exit 0)))
  (.seq (.block 1 (.region false [14, 15, 16, 17, 18, 19, 20, 21, 43] [14, 15, 16, 17, 18, 19, 20, 21] [⟨(some 14), .move (.t 3), none, []⟩,
    ⟨(some 15), .move (.t 4), none, []⟩,
    ⟨(some 16), .move (.t 0), none, []⟩,
    ⟨(some 17), .move (.t 4), none, []⟩,
    ⟨(some 18), .iaddr 2 (.t 16) (.t 17), none, []⟩,
    ⟨(some 19), .load true 2 (.t 18), none, []⟩,
    ⟨(some 20), .call 320 [(.t 19)], none, []⟩,
    ⟨(some 21), .iaddr 2 (.t 14) (.t 15), none, []⟩,
    ⟨none, .rstore 2 (.t 21) (.t 20), none, []⟩]))
  (.region false [12, 13] [12, 13] [⟨(some 12), .move (.t 4), none, []⟩,
    ⟨(some 13), .bin .add (.t 12) (.c false [(.int .i64 1)]), none, []⟩,
    ⟨(some 4), .assign (.t 13), none, []⟩]))))))
  (.seq (.region false [22] [22] [⟨(some 22), .move (.t 3), none, []⟩,
    ⟨(some 2), .assign (.t 22), none, []⟩])
  .ret))))⟩
/- laws.toAnswer -/
def ir128 : FnIr := ⟨0, 1, 12, [(2, (some (true, 2)))], [],
  (.seq (.region false [1, 2, 13, 14] [] [⟨(some 1), .box (.t 0), none, []⟩,
    ⟨(some 2), .alloc [(.int .i64 0), (.row () [])], none, []⟩])
  (.seq (.region false [3, 15] [] [⟨(some 3), .alloc [(.int .i64 0), (.row () [])], none, []⟩])
  (.seq (.region false [4, 5, 6] [4, 5, 6] [⟨(some 4), .faddr 0 (.t 1), none, []⟩,
    ⟨(some 5), .load false 1 (.t 4), none, []⟩,
    ⟨(some 6), .faddr 0 (.t 3), none, []⟩,
    ⟨none, .store 1 (.t 6) (.t 5), none, []⟩])
  (.seq (.region false [7, 8, 9, 10, 21] [7, 8, 9, 10] [⟨(some 7), .faddr 1 (.t 1), none, []⟩,
    ⟨(some 8), .load false 1 (.t 7), none, []⟩,
    ⟨(some 9), .call 199 [(.t 8)], none, []⟩,
    ⟨(some 10), .faddr 1 (.t 3), none, []⟩,
    ⟨none, .store 1 (.t 10) (.t 9), none, []⟩])
  (.seq (.region false [11] [11] [⟨(some 11), .load true 2 (.t 3), none, []⟩,
    ⟨none, .store 2 (.t 2) (.t 11), none, []⟩])
  .ret)))))⟩
/- laws.eqIntS -/
def ir79 : FnIr := ⟨0, 2, 26, [(4, none)], [],
  (.seq (.region false [] [] [⟨(some 4), .assign (.c false [(.bool false)]), none, []⟩])
  (.seq (.seq (.region false [6, 7, 8, 9, 10] [6, 7, 8, 9] [⟨(some 6), .move (.t 0), none, []⟩,
    ⟨(some 7), .len false (.t 6), none, []⟩,
    ⟨(some 8), .move (.t 1), none, []⟩,
    ⟨(some 9), .len false (.t 8), none, []⟩,
    ⟨(some 10), .bin .neq (.t 7) (.t 9), none, []⟩])
  (.cond (.t 10)
  (.seq (.region false [] [] [⟨(some 4), .assign (.c false [(.bool false)]), none, []⟩])
  .ret)
  .skip))
  (.seq (.seq (.region false [] [] [⟨(some 5), .assign (.c false [(.int .i64 0)]), none, []⟩])
  (.block 0 (.loop (.seq (.seq (.region false [11, 12, 13, 14] [11, 12, 13] [⟨(some 11), .move (.t 5), none, []⟩,
    ⟨(some 12), .move (.t 0), none, []⟩,
    ⟨(some 13), .len false (.t 12), none, []⟩,
    ⟨(some 14), .bin .lss (.t 11) (.t 13), none, []⟩])
  (.cond (.t 14)
  .skip
  (.exit 0)))
  (.seq (.block 1 (.seq (.region true [17, 18, 19, 20, 21, 22, 23, 24, 25] [17, 18, 19, 20, 21, 22, 23, 24] [⟨(some 17), .move (.t 0), none, []⟩,
    ⟨(some 18), .move (.t 5), none, []⟩,
    ⟨(some 19), .iaddr 1 (.t 17) (.t 18), none, [0, 1]⟩,
    ⟨(some 20), .load false 1 (.t 19), none, [2, 0, 1]⟩,
    ⟨(some 21), .move (.t 1), none, []⟩,
    ⟨(some 22), .move (.t 5), none, []⟩,
    ⟨(some 23), .iaddr 1 (.t 21) (.t 22), none, [4, 5]⟩,
    ⟨(some 24), .load false 1 (.t 23), none, [6, 4, 5]⟩,
    ⟨(some 25), .bin .neq (.t 20) (.t 24), none, [3, 2, 0, 1, 7, 6, 4, 5]⟩])
  (.cond (.t 25)
  (.seq (.region false [] [] [⟨(some 4), .assign (.c false [(.bool false)]), none, []⟩])
  .ret)
  .skip)))
  (.region false [15, 16] [15, 16] [⟨(some 15), .move (.t 5), none, []⟩,
    ⟨(some 16), .bin .add (.t 15) (.c false [(.int .i64 1)]), none, []⟩,
    ⟨(some 5), .assign (.t 16), none, []⟩]))))))
  (.seq (.region false [] [] [⟨(some 4), .assign (.c false [(.bool true)]), none, []⟩])
  .ret))))⟩
/- laws.eqExt -/
def ir321 : FnIr := ⟨0, 2, 16, [(4, none)], [],
  (.seq (.region false [2, 3, 18, 19] [] [⟨(some 2), .box (.t 0), none, []⟩,
    ⟨(some 3), .box (.t 1), none, []⟩,
    ⟨(some 4), .assign (.c false [(.bool false)]), none, []⟩])
  (.seq (.seq (.region false [5, 6, 7, 8, 9] [5, 6, 7, 8] [⟨(some 5), .faddr 0 (.t 2), none, []⟩,
    ⟨(some 6), .load false 1 (.t 5), none, []⟩,
    ⟨(some 7), .faddr 0 (.t 3), none, []⟩,
    ⟨(some 8), .load false 1 (.t 7), none, []⟩,
    ⟨(some 9), .bin .neq (.t 6) (.t 8), none, []⟩])
  (.cond (.t 9)
  (.seq (.region false [] [] [⟨(some 4), .assign (.c false [(.bool false)]), none, []⟩])
  .ret)
  .skip))
  (.seq (.seq (.region false [10, 11, 12, 13, 14, 15, 30] [10, 11, 12, 13, 14] [⟨(some 10), .faddr 1 (.t 2), none, []⟩,
    ⟨(some 11), .load false 1 (.t 10), none, []⟩,
    ⟨(some 12), .faddr 1 (.t 3), none, []⟩,
    ⟨(some 13), .load false 1 (.t 12), none, []⟩,
    ⟨(some 14), .call 79 [(.t 11), (.t 13)], none, []⟩,
    ⟨(some 15), .un .not (.t 14), none, []⟩])
  (.cond (.t 15)
  (.seq (.region false [] [] [⟨(some 4), .assign (.c false [(.bool false)]), none, []⟩])
  .ret)
  .skip))
  (.seq (.region false [] [] [⟨(some 4), .assign (.c false [(.bool true)]), none, []⟩])
  .ret))))⟩
/- laws.eqExtS -/
def ir200 : FnIr := ⟨0, 2, 27, [(4, none)], [],
  (.seq (.region false [] [] [⟨(some 4), .assign (.c false [(.bool false)]), none, []⟩])
  (.seq (.seq (.region false [6, 7, 8, 9, 10] [6, 7, 8, 9] [⟨(some 6), .move (.t 0), none, []⟩,
    ⟨(some 7), .len false (.t 6), none, []⟩,
    ⟨(some 8), .move (.t 1), none, []⟩,
    ⟨(some 9), .len false (.t 8), none, []⟩,
    ⟨(some 10), .bin .neq (.t 7) (.t 9), none, []⟩])
  (.cond (.t 10)
  (.seq (.region false [] [] [⟨(some 4), .assign (.c false [(.bool false)]), none, []⟩])
  .ret)
  .skip))
  (.seq (.seq (.region false [] [] [⟨(some 5), .assign (.c false [(.int .i64 0)]), none, []⟩])
  (.block 0 (.loop (.seq (.seq (.region false [11, 12, 13, 14] [11, 12, 13] [⟨(some 11), .move (.t 5), none, []⟩,
    ⟨(some 12), .move (.t 0), none, []⟩,
    ⟨(some 13), .len false (.t 12), none, []⟩,
    ⟨(some 14), .bin .lss (.t 11) (.t 13), none, []⟩])
  (.cond (.t 14)
  .skip
  (.exit 0)))
  (.seq (.block 1 (.seq (.region true [17, 18, 19, 20, 21, 22, 23, 24, 25, 26, 52] [17, 18, 19, 20, 21, 22, 23, 24, 25] [⟨(some 17), .move (.t 0), none, []⟩,
    ⟨(some 18), .move (.t 5), none, []⟩,
    ⟨(some 19), .iaddr 2 (.t 17) (.t 18), none, [0, 1]⟩,
    ⟨(some 20), .load true 2 (.t 19), none, [2, 0, 1]⟩,
    ⟨(some 21), .move (.t 1), none, []⟩,
    ⟨(some 22), .move (.t 5), none, []⟩,
    ⟨(some 23), .iaddr 2 (.t 21) (.t 22), none, [4, 5]⟩,
    ⟨(some 24), .load true 2 (.t 23), none, [6, 4, 5]⟩,
    ⟨(some 25), .call 321 [(.t 20), (.t 24)], none, [3, 2, 0, 1, 7, 6, 4, 5]⟩,
    ⟨(some 26), .un .not (.t 25), none, [8, 3, 2, 0, 1, 7, 6, 4, 5]⟩])
  (.cond (.t 26)
  (.seq (.region false [] [] [⟨(some 4), .assign (.c false [(.bool false)]), none, []⟩])
  .ret)
  .skip)))
  (.region false [15, 16] [15, 16] [⟨(some 15), .move (.t 5), none, []⟩,
    ⟨(some 16), .bin .add (.t 15) (.c false [(.int .i64 1)]), none, []⟩,
    ⟨(some 5), .assign (.t 16), none, []⟩]))))))
  (.seq (.region false [] [] [⟨(some 4), .assign (.c false [(.bool true)]), none, []⟩])
  .ret))))⟩
/- laws.eqAnswer -/
def ir129 : FnIr := ⟨0, 2, 16, [(4, none)], [],
  (.seq (.region false [2, 3, 18, 19] [] [⟨(some 2), .box (.t 0), none, []⟩,
    ⟨(some 3), .box (.t 1), none, []⟩,
    ⟨(some 4), .assign (.c false [(.bool false)]), none, []⟩])
  (.seq (.seq (.region false [5, 6, 7, 8, 9] [5, 6, 7, 8] [⟨(some 5), .faddr 0 (.t 2), none, []⟩,
    ⟨(some 6), .load false 1 (.t 5), none, []⟩,
    ⟨(some 7), .faddr 0 (.t 3), none, []⟩,
    ⟨(some 8), .load false 1 (.t 7), none, []⟩,
    ⟨(some 9), .bin .neq (.t 6) (.t 8), none, []⟩])
  (.cond (.t 9)
  (.seq (.region false [] [] [⟨(some 4), .assign (.c false [(.bool false)]), none, []⟩])
  .ret)
  .skip))
  (.seq (.seq (.region false [10, 11, 12, 13, 14, 15, 30] [10, 11, 12, 13, 14] [⟨(some 10), .faddr 1 (.t 2), none, []⟩,
    ⟨(some 11), .load false 1 (.t 10), none, []⟩,
    ⟨(some 12), .faddr 1 (.t 3), none, []⟩,
    ⟨(some 13), .load false 1 (.t 12), none, []⟩,
    ⟨(some 14), .call 200 [(.t 11), (.t 13)], none, []⟩,
    ⟨(some 15), .un .not (.t 14), none, []⟩])
  (.cond (.t 15)
  (.seq (.region false [] [] [⟨(some 4), .assign (.c false [(.bool false)]), none, []⟩])
  .ret)
  .skip))
  (.seq (.region false [] [] [⟨(some 4), .assign (.c false [(.bool true)]), none, []⟩])
  .ret))))⟩
/- laws.toEdit -/
def ir155 : FnIr := ⟨0, 1, 11, [(2, (some (true, 2)))], [],
  (.seq (.region false [1, 2, 12, 13] [] [⟨(some 1), .box (.t 0), none, []⟩,
    ⟨(some 2), .alloc [(.int .i64 0), (.int .i64 0)], none, []⟩])
  (.seq (.region false [3, 14] [] [⟨(some 3), .alloc [(.int .i64 0), (.int .i64 0)], none, []⟩])
  (.seq (.region false [4, 5, 6] [4, 5, 6] [⟨(some 4), .faddr 0 (.t 1), none, []⟩,
    ⟨(some 5), .load false 1 (.t 4), none, []⟩,
    ⟨(some 6), .faddr 0 (.t 3), none, []⟩,
    ⟨none, .store 1 (.t 6) (.t 5), none, []⟩])
  (.seq (.region false [7, 8, 9] [7, 8, 9] [⟨(some 7), .faddr 1 (.t 1), none, []⟩,
    ⟨(some 8), .load false 1 (.t 7), none, []⟩,
    ⟨(some 9), .faddr 1 (.t 3), none, []⟩,
    ⟨none, .store 1 (.t 9) (.t 8), none, []⟩])
  (.seq (.region false [10] [10] [⟨(some 10), .load true 2 (.t 3), none, []⟩,
    ⟨none, .store 2 (.t 2) (.t 10), none, []⟩])
  .ret)))))⟩
/- laws.heldIntS -/
def ir125 : FnIr := ⟨0, 2, 21, [(4, none)], [],
  (.seq (.region false [] [] [⟨(some 4), .assign (.c false [(.int .i64 0)]), none, []⟩])
  (.seq (.seq (.region false [] [] [⟨(some 5), .assign (.c false [(.int .i64 0)]), none, []⟩])
  (.block 0 (.loop (.seq (.seq (.region false [6, 7, 8, 9] [6, 7, 8] [⟨(some 6), .move (.t 5), none, []⟩,
    ⟨(some 7), .move (.t 0), none, []⟩,
    ⟨(some 8), .len false (.t 7), none, []⟩,
    ⟨(some 9), .bin .lss (.t 6) (.t 8), none, []⟩])
  (.cond (.t 9)
  .skip
  (.exit 0)))
  (.seq (.block 1 (.seq (.seq (.region false [12, 13, 14, 15, 16, 17] [12, 13, 14, 15, 16] [⟨(some 12), .move (.t 0), none, []⟩,
    ⟨(some 13), .move (.t 5), none, []⟩,
    ⟨(some 14), .iaddr 1 (.t 12) (.t 13), none, []⟩,
    ⟨(some 15), .load false 1 (.t 14), none, []⟩,
    ⟨(some 16), .move (.t 1), none, []⟩,
    ⟨(some 17), .bin .neq (.t 15) (.t 16), none, []⟩])
  (.cond (.t 17)
  (.seq (.region false [] [] [⟨(some 4), .assign (.c false [(.int .i64 (-1))]), none, []⟩])
  .ret)
  .skip))
  (.region false [18, 19] [18, 19] [⟨(some 18), .move (.t 1), none, []⟩,
    ⟨(some 19), .bin .add (.t 18) (.c false [(.int .i64 1)]), none, []⟩,
    ⟨(some 1), .assign (.t 19), none, []⟩])))
  (.region false [10, 11] [10, 11] [⟨(some 10), .move (.t 5), none, []⟩,
    ⟨(some 11), .bin .add (.t 10) (.c false [(.int .i64 1)]), none, []⟩,
    ⟨(some 5), .assign (.t 11), none, []⟩]))))))
  (.seq (.region false [20] [20] [⟨(some 20), .move (.t 1), none, []⟩,
    ⟨(some 4), .assign (.t 20), none, []⟩])
  .ret)))⟩
/- laws.heldExtS -/
def ir236 : FnIr := ⟨0, 2, 31, [(4, none)], [],
  (.seq (.region false [] [] [⟨(some 4), .assign (.c false [(.int .i64 0)]), none, []⟩])
  (.seq (.seq (.region false [] [] [⟨(some 5), .assign (.c false [(.int .i64 0)]), none, []⟩])
  (.block 0 (.loop (.seq (.seq (.region false [6, 7, 8, 9] [6, 7, 8] [⟨(some 6), .move (.t 5), none, []⟩,
    ⟨(some 7), .move (.t 0), none, []⟩,
    ⟨(some 8), .len false (.t 7), none, []⟩,
    ⟨(some 9), .bin .lss (.t 6) (.t 8), none, []⟩])
  (.cond (.t 9)
  .skip
  (.exit 0)))
  (.seq (.block 1 (.seq (.seq (.region false [12, 13, 14, 15, 16, 17, 18] [12, 13, 14, 15, 16, 17] [⟨(some 12), .move (.t 0), none, []⟩,
    ⟨(some 13), .move (.t 5), none, []⟩,
    ⟨(some 14), .iaddr 2 (.t 12) (.t 13), none, []⟩,
    ⟨(some 15), .faddr 0 (.t 14), none, []⟩,
    ⟨(some 16), .load false 1 (.t 15), none, []⟩,
    ⟨(some 17), .move (.t 1), none, []⟩,
    ⟨(some 18), .bin .neq (.t 16) (.t 17), none, []⟩])
  (.cond (.t 18)
  (.seq (.region false [] [] [⟨(some 4), .assign (.c false [(.int .i64 (-1))]), none, []⟩])
  .ret)
  .skip))
  (.seq (.region false [19, 20] [19, 20] [⟨(some 19), .move (.t 1), none, []⟩,
    ⟨(some 20), .bin .add (.t 19) (.c false [(.int .i64 1)]), none, []⟩,
    ⟨(some 1), .assign (.t 20), none, []⟩])
  (.seq (.region false [21, 22, 23, 24, 25, 26, 27, 58] [21, 22, 23, 24, 25, 26, 27] [⟨(some 21), .move (.t 0), none, []⟩,
    ⟨(some 22), .move (.t 5), none, []⟩,
    ⟨(some 23), .iaddr 2 (.t 21) (.t 22), none, []⟩,
    ⟨(some 24), .faddr 1 (.t 23), none, []⟩,
    ⟨(some 25), .load false 1 (.t 24), none, []⟩,
    ⟨(some 26), .move (.t 1), none, []⟩,
    ⟨(some 27), .call 125 [(.t 25), (.t 26)], none, []⟩,
    ⟨(some 1), .assign (.t 27), none, []⟩])
  (.seq (.region false [28, 29] [28] [⟨(some 28), .move (.t 1), none, []⟩,
    ⟨(some 29), .bin .lss (.t 28) (.c false [(.int .i64 0)]), none, []⟩])
  (.cond (.t 29)
  (.seq (.region false [] [] [⟨(some 4), .assign (.c false [(.int .i64 (-1))]), none, []⟩])
  .ret)
  .skip))))))
  (.region false [10, 11] [10, 11] [⟨(some 10), .move (.t 5), none, []⟩,
    ⟨(some 11), .bin .add (.t 10) (.c false [(.int .i64 1)]), none, []⟩,
    ⟨(some 5), .assign (.t 11), none, []⟩]))))))
  (.seq (.region false [30] [30] [⟨(some 30), .move (.t 1), none, []⟩,
    ⟨(some 4), .assign (.t 30), none, []⟩])
  .ret)))⟩
/- laws.heldAnswer -/
def ir156 : FnIr := ⟨0, 2, 12, [(4, none)], [],
  (.seq (.region false [2, 14] [] [⟨(some 2), .box (.t 0), none, []⟩,
    ⟨(some 4), .assign (.c false [(.int .i64 0)]), none, []⟩])
  (.seq (.region false [5, 6, 7, 8, 20] [5, 6, 7, 8] [⟨(some 5), .faddr 1 (.t 2), none, []⟩,
    ⟨(some 6), .load false 1 (.t 5), none, []⟩,
    ⟨(some 7), .move (.t 1), none, []⟩,
    ⟨(some 8), .call 236 [(.t 6), (.t 7)], none, []⟩,
    ⟨(some 1), .assign (.t 8), none, []⟩])
  (.seq (.seq (.region false [9, 10] [9] [⟨(some 9), .move (.t 1), none, []⟩,
    ⟨(some 10), .bin .lss (.t 9) (.c false [(.int .i64 0)]), none, []⟩])
  (.cond (.t 10)
  (.seq (.region false [] [] [⟨(some 4), .assign (.c false [(.int .i64 (-1))]), none, []⟩])
  .ret)
  .skip))
  (.seq (.region false [11] [11] [⟨(some 11), .move (.t 1), none, []⟩,
    ⟨(some 4), .assign (.t 11), none, []⟩])
  .ret))))⟩
/- laws.FnExactEditAnswer -/
def ir29 : FnIr := ⟨0, 2, 77, [(4, none)], [],
  (.seq (.region false [2, 3, 79, 80] [] [⟨(some 2), .box (.t 0), none, []⟩,
    ⟨(some 3), .box (.t 1), none, []⟩,
    ⟨(some 4), .assign (.c false [(.bool false)]), none, []⟩])
  (.seq (.region false [] [] [⟨(some 5), .assign (.c false [(.int .i64 1048576)]), none, []⟩])
  (.seq (.region false [13, 14, 15, 92] [13, 14, 15] [⟨(some 13), .load true 2 (.t 2), none, []⟩,
    ⟨(some 14), .move (.t 5), none, []⟩,
    ⟨(some 15), .call 126 [(.t 13), (.t 14)], none, []⟩,
    ⟨(some 5), .assign (.t 15), none, []⟩])
  (.seq (.seq (.region false [16, 17] [16] [⟨(some 16), .move (.t 5), none, []⟩,
    ⟨(some 17), .bin .lss (.t 16) (.c false [(.int .i64 0)]), none, []⟩])
  (.cond (.t 17)
  (.seq (.region false [] [] [⟨(some 4), .assign (.c false [(.bool true)]), none, []⟩])
  .ret)
  .skip))
  (.seq (.region true [18, 19, 20, 21, 22, 6, 96, 98, 99, 83] [18, 19, 20, 21, 22] [⟨(some 18), .load true 2 (.t 2), none, []⟩,
    ⟨(some 19), .call 128 [(.t 18)], none, [0]⟩,
    ⟨(some 20), .load true 2 (.t 3), none, []⟩,
    ⟨(some 21), .call 155 [(.t 20)], none, [2, 1, 0]⟩,
    ⟨(some 22), .call 154 [(.t 19), (.t 21)], none, [1, 0, 3, 2]⟩,
    ⟨(some 6), .alloc [(.int .i64 0), (.row () [])], none, []⟩,
    ⟨none, .store 2 (.t 6) (.t 22), none, [5, 4, 1, 0, 3, 2]⟩])
  (.seq (.region false [23, 24, 7, 101, 84] [23, 24] [⟨(some 23), .load true 2 (.t 2), none, []⟩,
    ⟨(some 24), .call 128 [(.t 23)], none, []⟩,
    ⟨(some 7), .alloc [(.int .i64 0), (.row () [])], none, []⟩,
    ⟨none, .store 2 (.t 7) (.t 24), none, []⟩])
  (.seq (.region true [25, 26, 27, 28, 8, 104, 105, 85] [25, 26, 27, 28] [⟨(some 25), .load true 2 (.t 7), none, []⟩,
    ⟨(some 26), .load true 2 (.t 3), none, []⟩,
    ⟨(some 27), .call 155 [(.t 26)], none, [1]⟩,
    ⟨(some 28), .call 119 [(.t 25), (.t 27)], none, [0, 2, 1]⟩,
    ⟨(some 8), .alloc [(.int .i64 0), (.row () [])], none, []⟩,
    ⟨none, .store 2 (.t 8) (.t 28), none, [4, 3, 0, 2, 1]⟩])
  (.seq (.seq (.region false [29, 30, 31, 32, 108] [29, 30, 31] [⟨(some 29), .load true 2 (.t 8), none, []⟩,
    ⟨(some 30), .load true 2 (.t 6), none, []⟩,
    ⟨(some 31), .call 129 [(.t 29), (.t 30)], none, []⟩,
    ⟨(some 32), .un .not (.t 31), none, []⟩])
  (.cond (.t 32)
  (.seq (.region false [] [] [⟨(some 4), .assign (.c false [(.bool false)]), none, []⟩])
  .ret)
  .skip))
  (.seq (.seq (.region true [33, 34, 35, 36, 37, 112, 113] [33, 34, 35, 36] [⟨(some 33), .load true 2 (.t 7), none, []⟩,
    ⟨(some 34), .load true 2 (.t 2), none, []⟩,
    ⟨(some 35), .call 128 [(.t 34)], none, [1]⟩,
    ⟨(some 36), .call 129 [(.t 33), (.t 35)], none, [0, 2, 1]⟩,
    ⟨(some 37), .un .not (.t 36), none, [3, 0, 2, 1]⟩])
  (.cond (.t 37)
  (.seq (.region false [] [] [⟨(some 4), .assign (.c false [(.bool false)]), none, []⟩])
  .ret)
  .skip))
  (.seq (.region false [] [] [⟨(some 9), .assign (.c false [(.int .i64 1)]), none, []⟩])
  (.seq (.region false [38, 39, 40, 117] [38, 39, 40] [⟨(some 38), .load true 2 (.t 7), none, []⟩,
    ⟨(some 39), .move (.t 9), none, []⟩,
    ⟨(some 40), .call 1153 [(.t 38), (.t 39)], none, []⟩,
    ⟨(some 9), .assign (.t 40), none, []⟩])
  (.seq (.seq (.region false [41, 42, 43, 44, 45, 46, 47, 48, 123] [41, 42, 43, 44, 45, 46, 47] [⟨(some 41), .move (.t 9), none, []⟩,
    ⟨(some 42), .bin .lss (.t 41) (.c false [(.int .i64 0)]), none, []⟩,
    ⟨(some 43), .move (.t 42), none, []⟩,
    ⟨(some 44), .load true 2 (.t 8), (some (43, false)), []⟩,
    ⟨(some 45), .load true 2 (.t 6), (some (43, false)), []⟩,
    ⟨(some 46), .call 129 [(.t 44), (.t 45)], (some (43, false)), []⟩,
    ⟨(some 47), .un .not (.t 46), (some (43, false)), []⟩,
    ⟨(some 48), .pick (.t 43) (.c false [(.bool true)]) (.t 47), none, []⟩])
  (.cond (.t 48)
  (.seq (.region false [] [] [⟨(some 4), .assign (.c false [(.bool false)]), none, []⟩])
  .ret)
  .skip))
  (.seq (.region false [] [] [⟨(some 10), .assign (.c false [(.int .i64 1)]), none, []⟩])
  (.seq (.region false [49, 50, 51, 128] [49, 50, 51] [⟨(some 49), .load true 2 (.t 8), none, []⟩,
    ⟨(some 50), .move (.t 10), none, []⟩,
    ⟨(some 51), .call 1153 [(.t 49), (.t 50)], none, []⟩,
    ⟨(some 10), .assign (.t 51), none, []⟩])
  (.seq (.region false [] [] [⟨(some 11), .assign (.c false [(.int .i64 1)]), none, []⟩])
  (.seq (.region false [52, 53, 54, 131] [52, 53, 54] [⟨(some 52), .load true 2 (.t 8), none, []⟩,
    ⟨(some 53), .move (.t 11), none, []⟩,
    ⟨(some 54), .call 156 [(.t 52), (.t 53)], none, []⟩,
    ⟨(some 11), .assign (.t 54), none, []⟩])
  (.seq (.seq (.region false [55, 56] [55] [⟨(some 55), .move (.t 11), none, []⟩,
    ⟨(some 56), .bin .lss (.t 55) (.c false [(.int .i64 0)]), none, []⟩])
  (.cond (.t 56)
  (.seq (.region false [] [] [⟨(some 4), .assign (.c false [(.bool false)]), none, []⟩])
  .ret)
  .skip))
  (.seq (.seq (.region false [57, 58, 59] [57, 58] [⟨(some 57), .move (.t 11), none, []⟩,
    ⟨(some 58), .move (.t 10), none, []⟩,
    ⟨(some 59), .bin .neq (.t 57) (.t 58), none, []⟩])
  (.cond (.t 59)
  (.seq (.region false [] [] [⟨(some 4), .assign (.c false [(.bool false)]), none, []⟩])
  .ret)
  .skip))
  (.seq (.region true [60, 61, 62, 63, 64, 12, 138, 140, 141, 89] [60, 61, 62, 63, 64] [⟨(some 60), .load true 2 (.t 2), none, []⟩,
    ⟨(some 61), .call 128 [(.t 60)], none, [0]⟩,
    ⟨(some 62), .load true 2 (.t 3), none, []⟩,
    ⟨(some 63), .call 155 [(.t 62)], none, [2, 1, 0]⟩,
    ⟨(some 64), .call 119 [(.t 61), (.t 63)], none, [1, 0, 3, 2]⟩,
    ⟨(some 12), .alloc [(.int .i64 0), (.row () [])], none, []⟩,
    ⟨none, .store 2 (.t 12) (.t 64), none, [5, 4, 1, 0, 3, 2]⟩])
  (.seq (.seq (.region false [65, 66, 67, 68, 144] [65, 66, 67] [⟨(some 65), .load true 2 (.t 12), none, []⟩,
    ⟨(some 66), .load true 2 (.t 6), none, []⟩,
    ⟨(some 67), .call 129 [(.t 65), (.t 66)], none, []⟩,
    ⟨(some 68), .un .not (.t 67), none, []⟩])
  (.cond (.t 68)
  (.seq (.region false [] [] [⟨(some 4), .assign (.c false [(.bool false)]), none, []⟩])
  .ret)
  .skip))
  (.seq (.region false [] [] [⟨(some 11), .assign (.c false [(.int .i64 1)]), none, []⟩])
  (.seq (.region false [69, 70, 71, 148] [69, 70, 71] [⟨(some 69), .load true 2 (.t 8), none, []⟩,
    ⟨(some 70), .move (.t 11), none, []⟩,
    ⟨(some 71), .call 156 [(.t 69), (.t 70)], none, []⟩,
    ⟨(some 11), .assign (.t 71), none, []⟩])
  (.seq (.seq (.region false [72, 73] [72] [⟨(some 72), .move (.t 11), none, []⟩,
    ⟨(some 73), .bin .lss (.t 72) (.c false [(.int .i64 0)]), none, []⟩])
  (.cond (.t 73)
  (.seq (.region false [] [] [⟨(some 4), .assign (.c false [(.bool false)]), none, []⟩])
  .ret)
  .skip))
  (.seq (.seq (.region false [74, 75, 76] [74, 75] [⟨(some 74), .move (.t 11), none, []⟩,
    ⟨(some 75), .move (.t 10), none, []⟩,
    ⟨(some 76), .bin .neq (.t 74) (.t 75), none, []⟩])
  (.cond (.t 76)
  (.seq (.region false [] [] [⟨(some 4), .assign (.c false [(.bool false)]), none, []⟩])
  .ret)
  .skip))
  (.seq (.region false [] [] [⟨(some 4), .assign (.c false [(.bool true)]), none, []⟩])
  .ret)))))))))))))))))))))))))⟩
def tbl : List (Nat × FnIr) := [(1080, ir1080), (1201, ir1201), (1153, ir1153), (230, ir230), (280, ir280), (285, ir285), (307, ir307), (295, ir295), (296, ir296), (154, ir154), (232, ir232), (264, ir264), (347, ir347), (266, ir266), (267, ir267), (119, ir119), (227, ir227), (319, ir319), (197, ir197), (126, ir126), (76, ir76), (320, ir320), (199, ir199), (128, ir128), (79, ir79), (321, ir321), (200, ir200), (129, ir129), (155, ir155), (125, ir125), (236, ir236), (156, ir156), (29, ir29)]
def Tb (g : Nat) : Option FnIr := tbl.lookup g
theorem tb_1080 : Tb 1080 = some ir1080 := rfl
theorem tb_1201 : Tb 1201 = some ir1201 := rfl
theorem tb_1153 : Tb 1153 = some ir1153 := rfl
theorem tb_230 : Tb 230 = some ir230 := rfl
theorem tb_280 : Tb 280 = some ir280 := rfl
theorem tb_285 : Tb 285 = some ir285 := rfl
theorem tb_307 : Tb 307 = some ir307 := rfl
theorem tb_295 : Tb 295 = some ir295 := rfl
theorem tb_296 : Tb 296 = some ir296 := rfl
theorem tb_154 : Tb 154 = some ir154 := rfl
theorem tb_232 : Tb 232 = some ir232 := rfl
theorem tb_264 : Tb 264 = some ir264 := rfl
theorem tb_347 : Tb 347 = some ir347 := rfl
theorem tb_266 : Tb 266 = some ir266 := rfl
theorem tb_267 : Tb 267 = some ir267 := rfl
theorem tb_119 : Tb 119 = some ir119 := rfl
theorem tb_227 : Tb 227 = some ir227 := rfl
theorem tb_319 : Tb 319 = some ir319 := rfl
theorem tb_197 : Tb 197 = some ir197 := rfl
theorem tb_126 : Tb 126 = some ir126 := rfl
theorem tb_76 : Tb 76 = some ir76 := rfl
theorem tb_320 : Tb 320 = some ir320 := rfl
theorem tb_199 : Tb 199 = some ir199 := rfl
theorem tb_128 : Tb 128 = some ir128 := rfl
theorem tb_79 : Tb 79 = some ir79 := rfl
theorem tb_321 : Tb 321 = some ir321 := rfl
theorem tb_200 : Tb 200 = some ir200 := rfl
theorem tb_129 : Tb 129 = some ir129 := rfl
theorem tb_155 : Tb 155 = some ir155 := rfl
theorem tb_125 : Tb 125 = some ir125 := rfl
theorem tb_236 : Tb 236 = some ir236 := rfl
theorem tb_156 : Tb 156 = some ir156 := rfl
theorem tb_29 : Tb 29 = some ir29 := rfl
end Go.Vm
