/- The code of the functions that the law reaches, as data. -/
import Derived.Test.YtplnbpiaacohnaaVmF
set_option maxHeartbeats 4000000
set_option maxRecDepth 10000
set_option linter.unusedVariables false
set_option linter.unusedSimpArgs false
namespace Go.Vm
/- laws.eqIntS -/
def ir79 : FnIr := ⟨0, 2, 26, [(4, none)], [],
  (.seq (.region false [] [] [⟨(some 4), .assign (.c false [(.bool false)]), none, []⟩])
  (.seq (.seq (.region false [6, 7, 8, 9, 10] [6, 7, 8, 9] [⟨(some 6), .move (.t 0), none, []⟩,
    ⟨(some 7), .len false (.t 6), none, []⟩,
    ⟨(some 8), .move (.t 1), none, []⟩,
    ⟨(some 9), .len false (.t 8), none, []⟩,
    ⟨(some 10), .bin .neq (.t 7) (.t 9), none, []⟩])
  (.cond (.t 10)
  (.seq (.region false [] [] [⟨(some 4), .assign (.c false [(.bool false)]), none, []⟩])
  .ret)
  .skip))
  (.seq (.seq (.region false [] [] [⟨(some 5), .assign (.c false [(.int .i64 0)]), none, []⟩])
  (.block 0 (.loop (.seq (.seq (.region false [11, 12, 13, 14] [11, 12, 13] [⟨(some 11), .move (.t 5), none, []⟩,
    ⟨(some 12), .move (.t 0), none, []⟩,
    ⟨(some 13), .len false (.t 12), none, []⟩,
    ⟨(some 14), .bin .lss (.t 11) (.t 13), none, []⟩])
  (.cond (.t 14)
  .skip
  (.exit 0)))
  (.seq (.block 1 (.seq (.region true [17, 18, 19, 20, 21, 22, 23, 24, 25] [17, 18, 19, 20, 21, 22, 23, 24] [⟨(some 17), .move (.t 0), none, []⟩,
    ⟨(some 18), .move (.t 5), none, []⟩,
    ⟨(some 19), .iaddr 1 (.t 17) (.t 18), none, [0, 1]⟩,
    ⟨(some 20), .load false 1 (.t 19), none, [2, 0, 1]⟩,
    ⟨(some 21), .move (.t 1), none, []⟩,
    ⟨(some 22), .move (.t 5), none, []⟩,
    ⟨(some 23), .iaddr 1 (.t 21) (.t 22), none, [4, 5]⟩,
    ⟨(some 24), .load false 1 (.t 23), none, [6, 4, 5]⟩,
    ⟨(some 25), .bin .neq (.t 20) (.t 24), none, [3, 2, 0, 1, 7, 6, 4, 5]⟩])
  (.cond (.t 25)
  (.seq (.region false [] [] [⟨(some 4), .assign (.c false [(.bool false)]), none, []⟩])
  .ret)
  .skip)))
  (.region false [15, 16] [15, 16] [⟨(some 15), .move (.t 5), none, []⟩,
    ⟨(some 16), .bin .add (.t 15) (.c false [(.int .i64 1)]), none, []⟩,
    ⟨(some 5), .assign (.t 16), none, []⟩]))))))
  (.seq (.region false [] [] [⟨(some 4), .assign (.c false [(.bool true)]), none, []⟩])
  .ret))))⟩
/- laws.eqKnown -/
def ir242 : FnIr := ⟨0, 2, 21, [(4, none)], [],
  (.seq (.region false [2, 3, 23, 24] [] [⟨(some 2), .box (.t 0), none, []⟩,
    ⟨(some 3), .box (.t 1), none, []⟩,
    ⟨(some 4), .assign (.c false [(.bool false)]), none, []⟩])
  (.seq (.seq (.region false [5, 6, 7, 8, 9] [5, 6, 7, 8] [⟨(some 5), .faddr 0 (.t 2), none, []⟩,
    ⟨(some 6), .load false 1 (.t 5), none, []⟩,
    ⟨(some 7), .faddr 0 (.t 3), none, []⟩,
    ⟨(some 8), .load false 1 (.t 7), none, []⟩,
    ⟨(some 9), .bin .neq (.t 6) (.t 8), none, []⟩])
  (.cond (.t 9)
  (.seq (.region false [] [] [⟨(some 4), .assign (.c false [(.bool false)]), none, []⟩])
  .ret)
  .skip))
  (.seq (.seq (.region false [10, 11, 12, 13, 14, 15, 35] [10, 11, 12, 13, 14] [⟨(some 10), .faddr 1 (.t 2), none, []⟩,
    ⟨(some 11), .load false 1 (.t 10), none, []⟩,
    ⟨(some 12), .faddr 1 (.t 3), none, []⟩,
    ⟨(some 13), .load false 1 (.t 12), none, []⟩,
    ⟨(some 14), .call 79 [(.t 11), (.t 13)], none, []⟩,
    ⟨(some 15), .un .not (.t 14), none, []⟩])
  (.cond (.t 15)
  (.seq (.region false [] [] [⟨(some 4), .assign (.c false [(.bool false)]), none, []⟩])
  .ret)
  .skip))
  (.seq (.seq (.region false [16, 17, 18, 19, 20] [16, 17, 18, 19] [⟨(some 16), .faddr 2 (.t 2), none, []⟩,
    ⟨(some 17), .load false 1 (.t 16), none, []⟩,
    ⟨(some 18), .faddr 2 (.t 3), none, []⟩,
    ⟨(some 19), .load false 1 (.t 18), none, []⟩,
    ⟨(some 20), .bin .neq (.t 17) (.t 19), none, []⟩])
  (.cond (.t 20)
  (.seq (.region false [] [] [⟨(some 4), .assign (.c false [(.bool false)]), none, []⟩])
  .ret)
  .skip))
  (.seq (.region false [] [] [⟨(some 4), .assign (.c false [(.bool true)]), none, []⟩])
  .ret)))))⟩
/- laws.eqKnownS -/
def ir100 : FnIr := ⟨0, 2, 27, [(4, none)], [],
  (.seq (.region false [] [] [⟨(some 4), .assign (.c false [(.bool false)]), none, []⟩])
  (.seq (.seq (.region false [6, 7, 8, 9, 10] [6, 7, 8, 9] [⟨(some 6), .move (.t 0), none, []⟩,
    ⟨(some 7), .len false (.t 6), none, []⟩,
    ⟨(some 8), .move (.t 1), none, []⟩,
    ⟨(some 9), .len false (.t 8), none, []⟩,
    ⟨(some 10), .bin .neq (.t 7) (.t 9), none, []⟩])
  (.cond (.t 10)
  (.seq (.region false [] [] [⟨(some 4), .assign (.c false [(.bool false)]), none, []⟩])
  .ret)
  .skip))
  (.seq (.seq (.region false [] [] [⟨(some 5), .assign (.c false [(.int .i64 0)]), none, []⟩])
  (.block 0 (.loop (.seq (.seq (.region false [11, 12, 13, 14] [11, 12, 13] [⟨(some 11), .move (.t 5), none, []⟩,
    ⟨(some 12), .move (.t 0), none, []⟩,
    ⟨(some 13), .len false (.t 12), none, []⟩,
    ⟨(some 14), .bin .lss (.t 11) (.t 13), none, []⟩])
  (.cond (.t 14)
  .skip
  (.exit 0)))
  (.seq (.block 1 (.seq (.region true [17, 18, 19, 20, 21, 22, 23, 24, 25, 26, 52] [17, 18, 19, 20, 21, 22, 23, 24, 25] [⟨(some 17), .move (.t 0), none, []⟩,
    ⟨(some 18), .move (.t 5), none, []⟩,
    ⟨(some 19), .iaddr 3 (.t 17) (.t 18), none, [0, 1]⟩,
    ⟨(some 20), .load true 3 (.t 19), none, [2, 0, 1]⟩,
    ⟨(some 21), .move (.t 1), none, []⟩,
    ⟨(some 22), .move (.t 5), none, []⟩,
    ⟨(some 23), .iaddr 3 (.t 21) (.t 22), none, [4, 5]⟩,
    ⟨(some 24), .load true 3 (.t 23), none, [6, 4, 5]⟩,
    ⟨(some 25), .call 242 [(.t 20), (.t 24)], none, [3, 2, 0, 1, 7, 6, 4, 5]⟩,
    ⟨(some 26), .un .not (.t 25), none, [8, 3, 2, 0, 1, 7, 6, 4, 5]⟩])
  (.cond (.t 26)
  (.seq (.region false [] [] [⟨(some 4), .assign (.c false [(.bool false)]), none, []⟩])
  .ret)
  .skip)))
  (.region false [15, 16] [15, 16] [⟨(some 15), .move (.t 5), none, []⟩,
    ⟨(some 16), .bin .add (.t 15) (.c false [(.int .i64 1)]), none, []⟩,
    ⟨(some 5), .assign (.t 16), none, []⟩]))))))
  (.seq (.region false [] [] [⟨(some 4), .assign (.c false [(.bool true)]), none, []⟩])
  .ret))))⟩
/- spec.EqualInts -/
def ir228 : FnIr := ⟨0, 2, 26, [(4, none)], [],
  (.seq (.region false [] [] [⟨(some 4), .assign (.c false [(.bool false)]), none, []⟩])
  (.seq (.seq (.region false [6, 7, 8, 9, 10] [6, 7, 8, 9] [⟨(some 6), .move (.t 0), none, []⟩,
    ⟨(some 7), .len false (.t 6), none, []⟩,
    ⟨(some 8), .move (.t 1), none, []⟩,
    ⟨(some 9), .len false (.t 8), none, []⟩,
    ⟨(some 10), .bin .neq (.t 7) (.t 9), none, []⟩])
  (.cond (.t 10)
  (.seq (.region false [] [] [⟨(some 4), .assign (.c false [(.bool false)]), none, []⟩])
  .ret)
  .skip))
  (.seq (.seq (.region false [] [] [⟨(some 5), .assign (.c false [(.int .i64 0)]), none, []⟩])
  (.block 0 (.loop (.seq (.seq (.region false [11, 12, 13, 14] [11, 12, 13] [⟨(some 11), .move (.t 5), none, []⟩,
    ⟨(some 12), .move (.t 0), none, []⟩,
    ⟨(some 13), .len false (.t 12), none, []⟩,
    ⟨(some 14), .bin .lss (.t 11) (.t 13), none, []⟩])
  (.cond (.t 14)
  .skip
  (.exit 0)))
  (.seq (.block 1 (.seq (.region true [17, 18, 19, 20, 21, 22, 23, 24, 25] [17, 18, 19, 20, 21, 22, 23, 24] [⟨(some 17), .move (.t 0), none, []⟩,
    ⟨(some 18), .move (.t 5), none, []⟩,
    ⟨(some 19), .iaddr 1 (.t 17) (.t 18), none, [0, 1]⟩,
    ⟨(some 20), .load false 1 (.t 19), none, [2, 0, 1]⟩,
    ⟨(some 21), .move (.t 1), none, []⟩,
    ⟨(some 22), .move (.t 5), none, []⟩,
    ⟨(some 23), .iaddr 1 (.t 21) (.t 22), none, [4, 5]⟩,
    ⟨(some 24), .load false 1 (.t 23), none, [6, 4, 5]⟩,
    ⟨(some 25), .bin .neq (.t 20) (.t 24), none, [3, 2, 0, 1, 7, 6, 4, 5]⟩])
  (.cond (.t 25)
  (.seq (.region false [] [] [⟨(some 4), .assign (.c false [(.bool false)]), none, []⟩])
  .ret)
  .skip)))
  (.region false [15, 16] [15, 16] [⟨(some 15), .move (.t 5), none, []⟩,
    ⟨(some 16), .bin .add (.t 15) (.c false [(.int .i64 1)]), none, []⟩,
    ⟨(some 5), .assign (.t 16), none, []⟩]))))))
  (.seq (.region false [] [] [⟨(some 4), .assign (.c false [(.bool true)]), none, []⟩])
  .ret))))⟩
/- spec.CountStates -/
def ir106 : FnIr := ⟨0, 1, 37, [(2, none)], [],
  (.seq (.region false [] [] [⟨(some 2), .assign (.c false [(.int .i64 0)]), none, []⟩])
  (.seq (.region false [] [] [⟨(some 3), .assign (.c false [(.int .i64 0)]), none, []⟩])
  (.seq (.seq (.region false [] [] [⟨(some 4), .assign (.c false [(.int .i64 0)]), none, []⟩])
  (.block 0 (.loop (.seq (.seq (.region false [7, 8, 9, 10] [7, 8, 9] [⟨(some 7), .move (.t 4), none, []⟩,
    ⟨(some 8), .move (.t 0), none, []⟩,
    ⟨(some 9), .len false (.t 8), none, []⟩,
    ⟨(some 10), .bin .lss (.t 7) (.t 9), none, []⟩])
  (.cond (.t 10)
  .skip
  (.exit 0)))
  (.seq (.block 1 (.seq (.region false [] [] [⟨(some 5), .assign (.c false [(.bool true)]), none, []⟩])
  (.seq (.seq (.region false [] [] [⟨(some 6), .assign (.c false [(.int .i64 0)]), none, []⟩])
  (.block 2 (.loop (.seq (.seq (.region false [13, 14, 15] [13, 14] [⟨(some 13), .move (.t 6), none, []⟩,
    ⟨(some 14), .move (.t 4), none, []⟩,
    ⟨(some 15), .bin .lss (.t 13) (.t 14), none, []⟩])
  (.cond (.t 15)
  .skip
  (.exit 2)))
  (.seq (.block 3 (.region true [18, 19, 20, 21, 22, 23, 24, 25, 26, 27, 28, 29, 30, 31, 32, 67] [18, 19, 20, 21, 22, 23, 24, 25, 26, 27, 28, 29, 30, 31, 32] [⟨(some 18), .move (.t 5), none, []⟩,
    ⟨(some 19), .move (.t 18), none, [0]⟩,
    ⟨(some 20), .move (.t 0), (some (19, true)), [1, 0]⟩,
    ⟨(some 21), .move (.t 6), (some (19, true)), [1, 0]⟩,
    ⟨(some 22), .iaddr 3 (.t 20) (.t 21), (some (19, true)), [2, 1, 0, 3]⟩,
    ⟨(some 23), .faddr 1 (.t 22), (some (19, true)), [4, 2, 1, 0, 3]⟩,
    ⟨(some 24), .load false 1 (.t 23), (some (19, true)), [5, 4, 2, 1, 0, 3]⟩,
    ⟨(some 25), .move (.t 0), (some (19, true)), [1, 0]⟩,
    ⟨(some 26), .move (.t 4), (some (19, true)), [1, 0]⟩,
    ⟨(some 27), .iaddr 3 (.t 25) (.t 26), (some (19, true)), [7, 1, 0, 8]⟩,
    ⟨(some 28), .faddr 1 (.t 27), (some (19, true)), [9, 7, 1, 0, 8]⟩,
    ⟨(some 29), .load false 1 (.t 28), (some (19, true)), [10, 9, 7, 1, 0, 8]⟩,
    ⟨(some 30), .call 228 [(.t 24), (.t 29)], (some (19, true)), [6, 5, 4, 2, 1, 0, 3, 11, 10, 9, 7, 8]⟩,
    ⟨(some 31), .un .not (.t 30), (some (19, true)), [12, 6, 5, 4, 2, 1, 0, 3, 11, 10, 9, 7, 8]⟩,
    ⟨(some 32), .pick (.t 19) (.t 31) (.c false [(.bool false)]), none, [1, 0, 13, 12, 6, 5, 4, 2, 3, 11, 10, 9, 7, 8]⟩,
    ⟨(some 5), .assign (.t 32), none, [14, 1, 0, 13, 12, 6, 5, 4, 2, 3, 11, 10, 9, 7, 8]⟩]))
  (.region false [16, 17] [16, 17] [⟨(some 16), .move (.t 6), none, []⟩,
    ⟨(some 17), .bin .add (.t 16) (.c false [(.int .i64 1)]), none, []⟩,
    ⟨(some 6), .assign (.t 17), none, []⟩]))))))
  (.seq (.region false [33] [] [⟨(some 33), .move (.t 5), none, []⟩])
  (.cond (.t 33)
  (.region false [34, 35] [34, 35] [⟨(some 34), .move (.t 3), none, []⟩,
    ⟨(some 35), .bin .add (.t 34) (.c false [(.int .i64 1)]), none, []⟩,
    ⟨(some 3), .assign (.t 35), none, []⟩])
  .skip)))))
  (.region false [11, 12] [11, 12] [⟨(some 11), .move (.t 4), none, []⟩,
    ⟨(some 12), .bin .add (.t 11) (.c false [(.int .i64 1)]), none, []⟩,
    ⟨(some 4), .assign (.t 12), none, []⟩]))))))
  (.seq (.region false [36] [36] [⟨(some 36), .move (.t 3), none, []⟩,
    ⟨(some 2), .assign (.t 36), none, []⟩])
  .ret))))⟩
/- impl.Known] -/
def ir342 : FnIr := ⟨0, 2, 19, [(4, none)], [],
  (.seq (.region false [] [] [⟨(some 4), .assign (.c false [(.int .i64 0)]), none, []⟩])
  (.seq (.seq (.region false [6, 7, 8] [6] [⟨(some 6), .move (.t 0), none, []⟩,
    ⟨(some 7), .len false (.t 6), none, []⟩,
    ⟨(some 8), .move (.c false [(.int .i64 0)]), none, []⟩])
  (.block 0 (.loop (.seq (.region false [9] [] [⟨(some 9), .bin .lss (.t 8) (.t 7), none, []⟩])
  (.seq (.cond (.t 9)
  .skip
  (.exit 0))
  (.seq (.block 1 (.seq (.region false [10] [10] [⟨(some 10), .move (.t 8), none, []⟩,
    ⟨(some 5), .assign (.t 10), none, []⟩])
  (.seq (.region false [11, 12, 13, 14, 15, 16, 35] [11, 12, 13, 14, 15] [⟨(some 11), .move (.t 1), none, []⟩,
    ⟨(some 12), .move (.t 0), none, []⟩,
    ⟨(some 13), .move (.t 5), none, []⟩,
    ⟨(some 14), .iaddr 3 (.t 12) (.t 13), none, []⟩,
    ⟨(some 15), .load true 3 (.t 14), none, []⟩,
    ⟨(some 16), .callv (.t 11) [(.t 15)], none, []⟩])
  (.cond (.t 16)
  (.seq (.region false [17] [17] [⟨(some 17), .move (.t 5), none, []⟩,
    ⟨(some 4), .assign (.t 17), none, []⟩])
  .ret)
  .skip))))
  (.region false [18] [18] [⟨(some 18), .bin .add (.t 8) (.c false [(.int .i64 1)]), none, []⟩,
    ⟨(some 8), .move (.t 18), none, []⟩])))))))
  (.seq (.region false [] [] [⟨(some 4), .assign (.c false [(.int .i64 (-1))]), none, []⟩])
  .ret)))⟩
/- impl.Known] -/
def ir240 : FnIr := ⟨0, 2, 9, [(4, none)], [],
  (.seq (.region false [] [] [⟨(some 4), .assign (.c false [(.bool false)]), none, []⟩])
  (.seq (.region false [5, 6, 7, 8, 16] [5, 6, 7, 8] [⟨(some 5), .move (.t 0), none, []⟩,
    ⟨(some 6), .move (.t 1), none, []⟩,
    ⟨(some 7), .call 342 [(.t 5), (.t 6)], none, []⟩,
    ⟨(some 8), .bin .geq (.t 7) (.c false [(.int .i64 0)]), none, []⟩,
    ⟨(some 4), .assign (.t 8), none, []⟩])
  .ret))⟩
/- slices.Equal[[]int,int] -/
def ir229 : FnIr := ⟨0, 2, 26, [(4, none)], [],
  (.seq (.region false [] [] [⟨(some 4), .assign (.c false [(.bool false)]), none, []⟩])
  (.seq (.seq (.region false [6, 7, 8, 9, 10] [6, 7, 8, 9] [⟨(some 6), .move (.t 0), none, []⟩,
    ⟨(some 7), .len false (.t 6), none, []⟩,
    ⟨(some 8), .move (.t 1), none, []⟩,
    ⟨(some 9), .len false (.t 8), none, []⟩,
    ⟨(some 10), .bin .neq (.t 7) (.t 9), none, []⟩])
  (.cond (.t 10)
  (.seq (.region false [] [] [⟨(some 4), .assign (.c false [(.bool false)]), none, []⟩])
  .ret)
  .skip))
  (.seq (.seq (.region false [11, 12, 13] [11] [⟨(some 11), .move (.t 0), none, []⟩,
    ⟨(some 12), .len false (.t 11), none, []⟩,
    ⟨(some 13), .move (.c false [(.int .i64 0)]), none, []⟩])
  (.block 0 (.loop (.seq (.region false [14] [] [⟨(some 14), .bin .lss (.t 13) (.t 12), none, []⟩])
  (.seq (.cond (.t 14)
  .skip
  (.exit 0))
  (.seq (.block 1 (.seq (.region false [15] [15] [⟨(some 15), .move (.t 13), none, []⟩,
    ⟨(some 5), .assign (.t 15), none, []⟩])
  (.seq (.region true [16, 17, 18, 19, 20, 21, 22, 23, 24] [16, 17, 18, 19, 20, 21, 22, 23] [⟨(some 16), .move (.t 0), none, []⟩,
    ⟨(some 17), .move (.t 5), none, []⟩,
    ⟨(some 18), .iaddr 1 (.t 16) (.t 17), none, [0, 1]⟩,
    ⟨(some 19), .load false 1 (.t 18), none, [2, 0, 1]⟩,
    ⟨(some 20), .move (.t 1), none, []⟩,
    ⟨(some 21), .move (.t 5), none, []⟩,
    ⟨(some 22), .iaddr 1 (.t 20) (.t 21), none, [4, 5]⟩,
    ⟨(some 23), .load false 1 (.t 22), none, [6, 4, 5]⟩,
    ⟨(some 24), .bin .neq (.t 19) (.t 23), none, [3, 2, 0, 1, 7, 6, 4, 5]⟩])
  (.cond (.t 24)
  (.seq (.region false [] [] [⟨(some 4), .assign (.c false [(.bool false)]), none, []⟩])
  .ret)
  .skip))))
  (.region false [25] [25] [⟨(some 25), .bin .add (.t 13) (.c false [(.int .i64 1)]), none, []⟩,
    ⟨(some 13), .move (.t 25), none, []⟩])))))))
  (.seq (.region false [] [] [⟨(some 4), .assign (.c false [(.bool true)]), none, []⟩])
  .ret))))⟩
/- impl.CountStates$1 -/
def ir245 : FnIr := ⟨0, 2, 9, [(3, none)], [],
  (.seq (.region false [2, 11] [] [⟨(some 2), .box (.t 0), none, []⟩,
    ⟨(some 3), .assign (.c false [(.bool false)]), none, []⟩])
  (.seq (.region false [4, 5, 6, 7, 8, 17] [4, 5, 6, 7, 8] [⟨(some 4), .faddr 1 (.t 2), none, []⟩,
    ⟨(some 5), .load false 1 (.t 4), none, []⟩,
    ⟨(some 6), .faddr 1 (.t 1), none, []⟩,
    ⟨(some 7), .load false 1 (.t 6), none, []⟩,
    ⟨(some 8), .call 229 [(.t 5), (.t 7)], none, []⟩,
    ⟨(some 3), .assign (.t 8), none, []⟩])
  .ret))⟩
/- impl.CountStates -/
def ir107 : FnIr := ⟨0, 1, 23, [(2, none)], [],
  (.seq (.region false [] [] [⟨(some 2), .assign (.c false [(.int .i64 0)]), none, []⟩])
  (.seq (.region false [] [] [⟨(some 3), .assign (.c false [(.int .i64 0)]), none, []⟩])
  (.seq (.seq (.region false [6, 7, 8] [] [⟨(some 6), .move (.t 0), none, []⟩,
    ⟨(some 7), .len false (.t 6), none, []⟩,
    ⟨(some 8), .move (.c false [(.int .i64 0)]), none, []⟩])
  (.block 0 (.loop (.seq (.region false [9] [] [⟨(some 9), .bin .lss (.t 8) (.t 7), none, []⟩])
  (.seq (.cond (.t 9)
  .skip
  (.exit 0))
  (.seq (.block 1 (.seq (.region false [10, 11, 12, 5, 28] [10, 11, 12] [⟨(some 10), .move (.t 8), none, []⟩,
    ⟨(some 11), .iaddr 3 (.t 6) (.t 8), none, []⟩,
    ⟨(some 12), .load true 3 (.t 11), none, []⟩,
    ⟨(some 5), .alloc [(.int .i64 0), (.row () []), (.int .i64 0)], none, []⟩,
    ⟨(some 4), .assign (.t 10), none, []⟩,
    ⟨none, .store 3 (.t 5) (.t 12), none, []⟩])
  (.seq (.region false [13, 14, 15, 16, 17, 18, 40] [13, 14, 15, 16, 17] [⟨(some 13), .move (.t 0), none, []⟩,
    ⟨(some 14), .move (.t 4), none, []⟩,
    ⟨(some 15), .slice 3 (.t 13) none (some (.t 14)), none, []⟩,
    ⟨(some 16), .mkfn 245 [5], none, []⟩,
    ⟨(some 17), .call 240 [(.t 15), (.t 16)], none, []⟩,
    ⟨(some 18), .un .not (.t 17), none, []⟩])
  (.cond (.t 18)
  (.region false [19, 20] [19, 20] [⟨(some 19), .move (.t 3), none, []⟩,
    ⟨(some 20), .bin .add (.t 19) (.c false [(.int .i64 1)]), none, []⟩,
    ⟨(some 3), .assign (.t 20), none, []⟩])
  .skip))))
  (.region false [21] [21] [⟨(some 21), .bin .add (.t 8) (.c false [(.int .i64 1)]), none, []⟩,
    ⟨(some 8), .move (.t 21), none, []⟩])))))))
  (.seq (.region false [22] [22] [⟨(some 22), .move (.t 3), none, []⟩,
    ⟨(some 2), .assign (.t 22), none, []⟩])
  .ret))))⟩
/- laws.szIntS -/
def ir227 : FnIr := ⟨0, 2, 12, [(4, none)], [],
  (.seq (.region false [] [] [⟨(some 4), .assign (.c false [(.int .i64 0)]), none, []⟩])
  (.seq (.region false [5, 6, 7, 8] [5, 6, 7, 8] [⟨(some 5), .move (.t 1), none, []⟩,
    ⟨(some 6), .move (.t 0), none, []⟩,
    ⟨(some 7), .len false (.t 6), none, []⟩,
    ⟨(some 8), .bin .sub (.t 5) (.t 7), none, []⟩,
    ⟨(some 1), .assign (.t 8), none, []⟩])
  (.seq (.seq (.region false [9, 10] [9] [⟨(some 9), .move (.t 1), none, []⟩,
    ⟨(some 10), .bin .lss (.t 9) (.c false [(.int .i64 0)]), none, []⟩])
  (.cond (.t 10)
  (.seq (.region false [] [] [⟨(some 4), .assign (.c false [(.int .i64 (-1))]), none, []⟩])
  .ret)
  .skip))
  (.seq (.region false [11] [11] [⟨(some 11), .move (.t 1), none, []⟩,
    ⟨(some 4), .assign (.t 11), none, []⟩])
  .ret))))⟩
/- laws.szKnown -/
def ir238 : FnIr := ⟨0, 2, 12, [(4, none)], [],
  (.seq (.region false [2, 14] [] [⟨(some 2), .box (.t 0), none, []⟩,
    ⟨(some 4), .assign (.c false [(.int .i64 0)]), none, []⟩])
  (.seq (.region false [5, 6, 7, 8, 20] [5, 6, 7, 8] [⟨(some 5), .faddr 1 (.t 2), none, []⟩,
    ⟨(some 6), .load false 1 (.t 5), none, []⟩,
    ⟨(some 7), .move (.t 1), none, []⟩,
    ⟨(some 8), .call 227 [(.t 6), (.t 7)], none, []⟩,
    ⟨(some 1), .assign (.t 8), none, []⟩])
  (.seq (.seq (.region false [9, 10] [9] [⟨(some 9), .move (.t 1), none, []⟩,
    ⟨(some 10), .bin .lss (.t 9) (.c false [(.int .i64 0)]), none, []⟩])
  (.cond (.t 10)
  (.seq (.region false [] [] [⟨(some 4), .assign (.c false [(.int .i64 (-1))]), none, []⟩])
  .ret)
  .skip))
  (.seq (.region false [11] [11] [⟨(some 11), .move (.t 1), none, []⟩,
    ⟨(some 4), .assign (.t 11), none, []⟩])
  .ret))))⟩
/- laws.szKnownS -/
def ir96 : FnIr := ⟨0, 2, 27, [(4, none)], [],
  (.seq (.region false [] [] [⟨(some 4), .assign (.c false [(.int .i64 0)]), none, []⟩])
  (.seq (.region false [6, 7, 8, 9] [6, 7, 8, 9] [⟨(some 6), .move (.t 1), none, []⟩,
    ⟨(some 7), .move (.t 0), none, []⟩,
    ⟨(some 8), .len false (.t 7), none, []⟩,
    ⟨(some 9), .bin .sub (.t 6) (.t 8), none, []⟩,
    ⟨(some 1), .assign (.t 9), none, []⟩])
  (.seq (.seq (.region false [10, 11] [10] [⟨(some 10), .move (.t 1), none, []⟩,
    ⟨(some 11), .bin .lss (.t 10) (.c false [(.int .i64 0)]), none, []⟩])
  (.cond (.t 11)
  (.seq (.region false [] [] [⟨(some 4), .assign (.c false [(.int .i64 (-1))]), none, []⟩])
  .ret)
  .skip))
  (.seq (.seq (.region false [] [] [⟨(some 5), .assign (.c false [(.int .i64 0)]), none, []⟩])
  (.block 0 (.loop (.seq (.seq (.region false [12, 13, 14, 15] [12, 13, 14] [⟨(some 12), .move (.t 5), none, []⟩,
    ⟨(some 13), .move (.t 0), none, []⟩,
    ⟨(some 14), .len false (.t 13), none, []⟩,
    ⟨(some 15), .bin .lss (.t 12) (.t 14), none, []⟩])
  (.cond (.t 15)
  .skip
  (.exit 0)))
  (.seq (.block 1 (.seq (.region false [18, 19, 20, 21, 22, 23, 50] [18, 19, 20, 21, 22, 23] [⟨(some 18), .move (.t 0), none, []⟩,
    ⟨(some 19), .move (.t 5), none, []⟩,
    ⟨(some 20), .iaddr 3 (.t 18) (.t 19), none, []⟩,
    ⟨(some 21), .load true 3 (.t 20), none, []⟩,
    ⟨(some 22), .move (.t 1), none, []⟩,
    ⟨(some 23), .call 238 [(.t 21), (.t 22)], none, []⟩,
    ⟨(some 1), .assign (.t 23), none, []⟩])
  (.seq (.region false [24, 25] [24] [⟨(some 24), .move (.t 1), none, []⟩,
    ⟨(some 25), .bin .lss (.t 24) (.c false [(.int .i64 0)]), none, []⟩])
  (.cond (.t 25)
  (.seq (.region false [] [] [⟨(some 4), .assign (.c false [(.int .i64 (-1))]), none, []⟩])
  .ret)
  .skip))))
  (.region false [16, 17] [16, 17] [⟨(some 16), .move (.t 5), none, []⟩,
    ⟨(some 17), .bin .add (.t 16) (.c false [(.int .i64 1)]), none, []⟩,
    ⟨(some 5), .assign (.t 17), none, []⟩]))))))
  (.seq (.region false [26] [26] [⟨(some 26), .move (.t 1), none, []⟩,
    ⟨(some 4), .assign (.t 26), none, []⟩])
  .ret)))))⟩
/- laws.toIntS -/
def ir76 : FnIr := ⟨0, 1, 22, [(2, none)], [],
  (.seq (.region false [] [] [⟨(some 2), .assign (.c false [(.row () [])]), none, []⟩])
  (.seq (.region false [5, 6, 7] [5, 6, 7] [⟨(some 5), .move (.t 0), none, []⟩,
    ⟨(some 6), .len false (.t 5), none, []⟩,
    ⟨(some 7), .mkslice [(.int .i64 0)] (.t 6) (.t 6), none, []⟩,
    ⟨(some 3), .assign (.t 7), none, []⟩])
  (.seq (.seq (.region false [] [] [⟨(some 4), .assign (.c false [(.int .i64 0)]), none, []⟩])
  (.block 0 (.loop (.seq (.seq (.region false [8, 9, 10, 11] [8, 9, 10] [⟨(some 8), .move (.t 4), none, []⟩,
    ⟨(some 9), .move (.t 0), none, []⟩,
    ⟨(some 10), .len false (.t 9), none, []⟩,
    ⟨(some 11), .bin .lss (.t 8) (.t 10), none, []⟩])
  (.cond (.t 11)
  .skip
  (.exit 0)))
  (.seq (.block 1 (.region false [14, 15, 16, 17, 18, 19, 20] [14, 15, 16, 17, 18, 19, 20] [⟨(some 14), .move (.t 3), none, []⟩,
    ⟨(some 15), .move (.t 4), none, []⟩,
    ⟨(some 16), .move (.t 0), none, []⟩,
    ⟨(some 17), .move (.t 4), none, []⟩,
    ⟨(some 18), .iaddr 1 (.t 16) (.t 17), none, []⟩,
    ⟨(some 19), .load false 1 (.t 18), none, []⟩,
    ⟨(some 20), .iaddr 1 (.t 14) (.t 15), none, []⟩,
    ⟨none, .rstore 1 (.t 20) (.t 19), none, []⟩]))
  (.region false [12, 13] [12, 13] [⟨(some 12), .move (.t 4), none, []⟩,
    ⟨(some 13), .bin .add (.t 12) (.c false [(.int .i64 1)]), none, []⟩,
    ⟨(some 4), .assign (.t 13), none, []⟩]))))))
  (.seq (.region false [21] [21] [⟨(some 21), .move (.t 3), none, []⟩,
    ⟨(some 2), .assign (.t 21), none, []⟩])
  .ret))))⟩
/- laws.toKnown -/
def ir239 : FnIr := ⟨0, 1, 15, [(2, (some (true, 3)))], [],
  (.seq (.region false [1, 2, 16, 17] [] [⟨(some 1), .box (.t 0), none, []⟩,
    ⟨(some 2), .alloc [(.int .i64 0), (.row () []), (.int .i64 0)], none, []⟩])
  (.seq (.region false [3, 18] [] [⟨(some 3), .alloc [(.int .i64 0), (.row () []), (.int .i64 0)], none, []⟩])
  (.seq (.region false [4, 5, 6] [4, 5, 6] [⟨(some 4), .faddr 0 (.t 1), none, []⟩,
    ⟨(some 5), .load false 1 (.t 4), none, []⟩,
    ⟨(some 6), .faddr 0 (.t 3), none, []⟩,
    ⟨none, .store 1 (.t 6) (.t 5), none, []⟩])
  (.seq (.region false [7, 8, 9, 10, 24] [7, 8, 9, 10] [⟨(some 7), .faddr 1 (.t 1), none, []⟩,
    ⟨(some 8), .load false 1 (.t 7), none, []⟩,
    ⟨(some 9), .call 76 [(.t 8)], none, []⟩,
    ⟨(some 10), .faddr 1 (.t 3), none, []⟩,
    ⟨none, .store 1 (.t 10) (.t 9), none, []⟩])
  (.seq (.region false [11, 12, 13] [11, 12, 13] [⟨(some 11), .faddr 2 (.t 1), none, []⟩,
    ⟨(some 12), .load false 1 (.t 11), none, []⟩,
    ⟨(some 13), .faddr 2 (.t 3), none, []⟩,
    ⟨none, .store 1 (.t 13) (.t 12), none, []⟩])
  (.seq (.region false [14] [14] [⟨(some 14), .load true 3 (.t 3), none, []⟩,
    ⟨none, .store 3 (.t 2) (.t 14), none, []⟩])
  .ret))))))⟩
/- laws.toKnownS -/
def ir98 : FnIr := ⟨0, 1, 23, [(2, none)], [],
  (.seq (.region false [] [] [⟨(some 2), .assign (.c false [(.row () [])]), none, []⟩])
  (.seq (.region false [5, 6, 7] [5, 6, 7] [⟨(some 5), .move (.t 0), none, []⟩,
    ⟨(some 6), .len false (.t 5), none, []⟩,
    ⟨(some 7), .mkslice [(.int .i64 0), (.row () []), (.int .i64 0)] (.t 6) (.t 6), none, []⟩,
    ⟨(some 3), .assign (.t 7), none, []⟩])
  (.seq (.seq (.region false [] [] [⟨(some 4), .assign (.c false [(.int .i64 0)]), none, []⟩])
  (.block 0 (.loop (.seq (.seq (.region false [8, 9, 10, 11] [8, 9, 10] [⟨(some 8), .move (.t 4), none, []⟩,
    ⟨(some 9), .move (.t 0), none, []⟩,
    ⟨(some 10), .len false (.t 9), none, []⟩,
    ⟨(some 11), .bin .lss (.t 8) (.t 10), none, []⟩])
  (.cond (.t 11)
  .skip
  (.exit 0)))
  (.seq (.block 1 (.region false [14, 15, 16, 17, 18, 19, 20, 21, 43] [14, 15, 16, 17, 18, 19, 20, 21] [⟨(some 14), .move (.t 3), none, []⟩,
    ⟨(some 15), .move (.t 4), none, []⟩,
    ⟨(some 16), .move (.t 0), none, []⟩,
    ⟨(some 17), .move (.t 4), none, []⟩,
    ⟨(some 18), .iaddr 3 (.t 16) (.t 17), none, []⟩,
    ⟨(some 19), .load true 3 (.t 18), none, []⟩,
    ⟨(some 20), .call 239 [(.t 19)], none, []⟩,
    ⟨(some 21), .iaddr 3 (.t 14) (.t 15), none, []⟩,
    ⟨none, .rstore 3 (.t 21) (.t 20), none, []⟩]))
  (.region false [12, 13] [12, 13] [⟨(some 12), .move (.t 4), none, []⟩,
    ⟨(some 13), .bin .add (.t 12) (.c false [(.int .i64 1)]), none, []⟩,
    ⟨(some 4), .assign (.t 13), none, []⟩]))))))
  (.seq (.region false [22] [22] [⟨(some 22), .move (.t 3), none, []⟩,
    ⟨(some 2), .assign (.t 22), none, []⟩])
  .ret))))⟩
/- laws.FnExactCountStates -/
def ir14 : FnIr := ⟨0, 1, 27, [(2, none)], [],
  (.seq (.region false [] [] [⟨(some 2), .assign (.c false [(.bool false)]), none, []⟩])
  (.seq (.region false [] [] [⟨(some 3), .assign (.c false [(.int .i64 1048576)]), none, []⟩])
  (.seq (.region false [7, 8, 9, 36] [7, 8, 9] [⟨(some 7), .move (.t 0), none, []⟩,
    ⟨(some 8), .move (.t 3), none, []⟩,
    ⟨(some 9), .call 96 [(.t 7), (.t 8)], none, []⟩,
    ⟨(some 3), .assign (.t 9), none, []⟩])
  (.seq (.seq (.region false [10, 11] [10] [⟨(some 10), .move (.t 3), none, []⟩,
    ⟨(some 11), .bin .lss (.t 10) (.c false [(.int .i64 0)]), none, []⟩])
  (.cond (.t 11)
  (.seq (.region false [] [] [⟨(some 2), .assign (.c false [(.bool true)]), none, []⟩])
  .ret)
  .skip))
  (.seq (.region false [12, 13, 14, 40, 41] [12, 13, 14] [⟨(some 12), .move (.t 0), none, []⟩,
    ⟨(some 13), .call 98 [(.t 12)], none, []⟩,
    ⟨(some 14), .call 106 [(.t 13)], none, []⟩,
    ⟨(some 4), .assign (.t 14), none, []⟩])
  (.seq (.region false [15, 16, 43] [15, 16] [⟨(some 15), .move (.t 0), none, []⟩,
    ⟨(some 16), .call 98 [(.t 15)], none, []⟩,
    ⟨(some 5), .assign (.t 16), none, []⟩])
  (.seq (.region false [17, 18, 45] [17, 18] [⟨(some 17), .move (.t 5), none, []⟩,
    ⟨(some 18), .call 107 [(.t 17)], none, []⟩,
    ⟨(some 6), .assign (.t 18), none, []⟩])
  (.seq (.seq (.region false [19, 20, 21] [19, 20] [⟨(some 19), .move (.t 6), none, []⟩,
    ⟨(some 20), .move (.t 4), none, []⟩,
    ⟨(some 21), .bin .neq (.t 19) (.t 20), none, []⟩])
  (.cond (.t 21)
  (.seq (.region false [] [] [⟨(some 2), .assign (.c false [(.bool false)]), none, []⟩])
  .ret)
  .skip))
  (.seq (.seq (.region false [22, 23, 24, 25, 26, 51, 52] [22, 23, 24, 25] [⟨(some 22), .move (.t 5), none, []⟩,
    ⟨(some 23), .move (.t 0), none, []⟩,
    ⟨(some 24), .call 98 [(.t 23)], none, []⟩,
    ⟨(some 25), .call 100 [(.t 22), (.t 24)], none, []⟩,
    ⟨(some 26), .un .not (.t 25), none, []⟩])
  (.cond (.t 26)
  (.seq (.region false [] [] [⟨(some 2), .assign (.c false [(.bool false)]), none, []⟩])
  .ret)
  .skip))
  (.seq (.region false [] [] [⟨(some 2), .assign (.c false [(.bool true)]), none, []⟩])
  .ret))))))))))⟩
def tbl : List (Nat × FnIr) := [(79, ir79), (242, ir242), (100, ir100), (228, ir228), (106, ir106), (342, ir342), (240, ir240), (229, ir229), (245, ir245), (107, ir107), (227, ir227), (238, ir238), (96, ir96), (76, ir76), (239, ir239), (98, ir98), (14, ir14)]
def Tb (g : Nat) : Option FnIr := tbl.lookup g
theorem tb_79 : Tb 79 = some ir79 := rfl
theorem tb_242 : Tb 242 = some ir242 := rfl
theorem tb_100 : Tb 100 = some ir100 := rfl
theorem tb_228 : Tb 228 = some ir228 := rfl
theorem tb_106 : Tb 106 = some ir106 := rfl
theorem tb_342 : Tb 342 = some ir342 := rfl
theorem tb_240 : Tb 240 = some ir240 := rfl
theorem tb_229 : Tb 229 = some ir229 := rfl
theorem tb_245 : Tb 245 = some ir245 := rfl
theorem tb_107 : Tb 107 = some ir107 := rfl
theorem tb_227 : Tb 227 = some ir227 := rfl
theorem tb_238 : Tb 238 = some ir238 := rfl
theorem tb_96 : Tb 96 = some ir96 := rfl
theorem tb_76 : Tb 76 = some ir76 := rfl
theorem tb_239 : Tb 239 = some ir239 := rfl
theorem tb_98 : Tb 98 = some ir98 := rfl
theorem tb_14 : Tb 14 = some ir14 := rfl
end Go.Vm
