/- The code of the functions that the law reaches, as data. -/
import Derived.Test.YtplnbpiaacohnaaVmF
set_option maxHeartbeats 4000000
set_option maxRecDepth 10000
set_option linter.unusedVariables false
set_option linter.unusedSimpArgs false
namespace Go.Vm
/- spec.l1In -/
def ir230 : FnIr := ⟨0, 3, 15, [(6, none)], [],
  (.seq (.region false [] [] [⟨(some 6), .assign (.c false [(.bool false)]), none, []⟩])
  (.seq (.region false [7, 8, 9, 10, 11, 12, 13, 14] [7, 8, 9, 10, 11, 12, 13, 14] [⟨(some 7), .move (.t 0), none, []⟩,
    ⟨(some 8), .move (.t 1), none, []⟩,
    ⟨(some 9), .bin .geq (.t 7) (.t 8), none, []⟩,
    ⟨(some 10), .move (.t 9), none, []⟩,
    ⟨(some 11), .move (.t 0), (some (10, true)), []⟩,
    ⟨(some 12), .move (.t 2), (some (10, true)), []⟩,
    ⟨(some 13), .bin .leq (.t 11) (.t 12), (some (10, true)), []⟩,
    ⟨(some 14), .pick (.t 10) (.t 13) (.c false [(.bool false)]), none, []⟩,
    ⟨(some 6), .assign (.t 14), none, []⟩])
  .ret))⟩
/- spec.Mod -/
def ir348 : FnIr := ⟨0, 2, 15, [(4, none)], [],
  (.seq (.region false [] [] [⟨(some 4), .assign (.c false [(.int .i64 0)]), none, []⟩])
  (.seq (.seq (.region false [5, 6, 7, 21] [5, 6] [⟨(some 5), .move (.t 1), none, []⟩,
    ⟨(some 6), .call 230 [(.t 5), (.c false [(.int .i64 1)]), (.c false [(.int .i64 1000000000000)])], none, []⟩,
    ⟨(some 7), .un .not (.t 6), none, []⟩])
  (.cond (.t 7)
  (.seq (.region false [] [] [⟨(some 4), .assign (.c false [(.int .i64 0)]), none, []⟩])
  .ret)
  .skip))
  (.seq (.region false [8, 9, 10, 11, 12, 13, 14] [8, 9, 10, 11, 12, 13, 14] [⟨(some 8), .move (.t 0), none, []⟩,
    ⟨(some 9), .move (.t 1), none, []⟩,
    ⟨(some 10), .bin .rem (.t 8) (.t 9), none, []⟩,
    ⟨(some 11), .move (.t 1), none, []⟩,
    ⟨(some 12), .bin .add (.t 10) (.t 11), none, []⟩,
    ⟨(some 13), .move (.t 1), none, []⟩,
    ⟨(some 14), .bin .rem (.t 12) (.t 13), none, []⟩,
    ⟨(some 4), .assign (.t 14), none, []⟩])
  .ret)))⟩
/- spec.Hash -/
def ir268 : FnIr := ⟨0, 1, 22, [(2, none)], [],
  (.seq (.region false [] [] [⟨(some 2), .assign (.c false [(.int .i64 0)]), none, []⟩])
  (.seq (.region false [] [] [⟨(some 3), .assign (.c false [(.int .i64 11)]), none, []⟩])
  (.seq (.seq (.region false [] [] [⟨(some 4), .assign (.c false [(.int .i64 0)]), none, []⟩])
  (.block 0 (.loop (.seq (.seq (.region false [5, 6, 7, 8] [5, 6, 7] [⟨(some 5), .move (.t 4), none, []⟩,
    ⟨(some 6), .move (.t 0), none, []⟩,
    ⟨(some 7), .len false (.t 6), none, []⟩,
    ⟨(some 8), .bin .lss (.t 5) (.t 7), none, []⟩])
  (.cond (.t 8)
  .skip
  (.exit 0)))
  (.seq (.block 1 (.region false [11, 12, 13, 14, 15, 16, 17, 18, 19, 20, 39] [11, 12, 13, 14, 15, 16, 17, 18, 19, 20] [⟨(some 11), .move (.t 3), none, []⟩,
    ⟨(some 12), .bin .mul (.t 11) (.c false [(.int .i64 1000003)]), none, []⟩,
    ⟨(some 13), .move (.t 0), none, []⟩,
    ⟨(some 14), .move (.t 4), none, []⟩,
    ⟨(some 15), .iaddr 1 (.t 13) (.t 14), none, []⟩,
    ⟨(some 16), .load false 1 (.t 15), none, []⟩,
    ⟨(some 17), .call 348 [(.t 16), (.c false [(.int .i64 2147483647)])], none, []⟩,
    ⟨(some 18), .bin .add (.t 12) (.t 17), none, []⟩,
    ⟨(some 19), .bin .add (.t 18) (.c false [(.int .i64 13)]), none, []⟩,
    ⟨(some 20), .bin .rem (.t 19) (.c false [(.int .i64 2147483647)]), none, []⟩,
    ⟨(some 3), .assign (.t 20), none, []⟩]))
  (.region false [9, 10] [9, 10] [⟨(some 9), .move (.t 4), none, []⟩,
    ⟨(some 10), .bin .add (.t 9) (.c false [(.int .i64 1)]), none, []⟩,
    ⟨(some 4), .assign (.t 10), none, []⟩]))))))
  (.seq (.region false [21] [21] [⟨(some 21), .move (.t 3), none, []⟩,
    ⟨(some 2), .assign (.t 21), none, []⟩])
  .ret))))⟩
/- spec.l9Byte -/
def ir231 : FnIr := ⟨0, 1, 16, [(2, none)], [],
  (.seq (.region false [] [] [⟨(some 2), .assign (.c false [(.bool false)]), none, []⟩])
  (.seq (.seq (.region false [] [] [⟨(some 3), .assign (.c false [(.int .i64 0)]), none, []⟩])
  (.block 0 (.loop (.seq (.seq (.region false [4, 5, 6, 7] [4, 5, 6] [⟨(some 4), .move (.t 3), none, []⟩,
    ⟨(some 5), .move (.t 0), none, []⟩,
    ⟨(some 6), .len false (.t 5), none, []⟩,
    ⟨(some 7), .bin .lss (.t 4) (.t 6), none, []⟩])
  (.cond (.t 7)
  .skip
  (.exit 0)))
  (.seq (.block 1 (.seq (.region false [10, 11, 12, 13, 14, 15, 30] [10, 11, 12, 13, 14] [⟨(some 10), .move (.t 0), none, []⟩,
    ⟨(some 11), .move (.t 3), none, []⟩,
    ⟨(some 12), .iaddr 1 (.t 10) (.t 11), none, []⟩,
    ⟨(some 13), .load false 1 (.t 12), none, []⟩,
    ⟨(some 14), .call 230 [(.t 13), (.c false [(.int .i64 0)]), (.c false [(.int .i64 255)])], none, []⟩,
    ⟨(some 15), .un .not (.t 14), none, []⟩])
  (.cond (.t 15)
  (.seq (.region false [] [] [⟨(some 2), .assign (.c false [(.bool false)]), none, []⟩])
  .ret)
  .skip)))
  (.region false [8, 9] [8, 9] [⟨(some 8), .move (.t 3), none, []⟩,
    ⟨(some 9), .bin .add (.t 8) (.c false [(.int .i64 1)]), none, []⟩,
    ⟨(some 3), .assign (.t 9), none, []⟩]))))))
  (.seq (.region false [] [] [⟨(some 2), .assign (.c false [(.bool true)]), none, []⟩])
  .ret)))⟩
/- spec.IsTranscript -/
def ir71 : FnIr := ⟨0, 1, 19, [(2, none)], [],
  (.seq (.region false [] [] [⟨(some 2), .assign (.c false [(.bool false)]), none, []⟩])
  (.seq (.seq (.region false [] [] [⟨(some 3), .assign (.c false [(.int .i64 0)]), none, []⟩])
  (.block 0 (.loop (.seq (.seq (.region false [4, 5, 6, 7] [4, 5, 6] [⟨(some 4), .move (.t 3), none, []⟩,
    ⟨(some 5), .move (.t 0), none, []⟩,
    ⟨(some 6), .len false (.t 5), none, []⟩,
    ⟨(some 7), .bin .lss (.t 4) (.t 6), none, []⟩])
  (.cond (.t 7)
  .skip
  (.exit 0)))
  (.seq (.block 1 (.seq (.region false [10, 11, 12, 13, 14, 15, 33] [10, 11, 12, 13, 14] [⟨(some 10), .move (.t 0), none, []⟩,
    ⟨(some 11), .move (.t 3), none, []⟩,
    ⟨(some 12), .iaddr 1 (.t 10) (.t 11), none, []⟩,
    ⟨(some 13), .load false 1 (.t 12), none, []⟩,
    ⟨(some 14), .call 231 [(.t 13)], none, []⟩,
    ⟨(some 15), .un .not (.t 14), none, []⟩])
  (.cond (.t 15)
  (.seq (.region false [] [] [⟨(some 2), .assign (.c false [(.bool false)]), none, []⟩])
  .ret)
  .skip)))
  (.region false [8, 9] [8, 9] [⟨(some 8), .move (.t 3), none, []⟩,
    ⟨(some 9), .bin .add (.t 8) (.c false [(.int .i64 1)]), none, []⟩,
    ⟨(some 3), .assign (.t 9), none, []⟩]))))))
  (.seq (.region false [16, 17, 18] [16, 17, 18] [⟨(some 16), .move (.t 0), none, []⟩,
    ⟨(some 17), .len false (.t 16), none, []⟩,
    ⟨(some 18), .bin .leq (.t 17) (.c false [(.int .i64 12)]), none, []⟩,
    ⟨(some 2), .assign (.t 18), none, []⟩])
  .ret)))⟩
/- spec.TranscriptHash -/
def ir120 : FnIr := ⟨0, 1, 28, [(2, none)], [],
  (.seq (.region false [] [] [⟨(some 2), .assign (.c false [(.int .i64 0)]), none, []⟩])
  (.seq (.region false [] [] [⟨(some 3), .assign (.c false [(.int .i64 1)]), none, []⟩])
  (.seq (.seq (.region false [5, 6, 7, 34] [5, 6] [⟨(some 5), .move (.t 0), none, []⟩,
    ⟨(some 6), .call 71 [(.t 5)], none, []⟩,
    ⟨(some 7), .un .not (.t 6), none, []⟩])
  (.cond (.t 7)
  (.seq (.region false [] [] [⟨(some 2), .assign (.c false [(.int .i64 0)]), none, []⟩])
  .ret)
  .skip))
  (.seq (.seq (.region false [] [] [⟨(some 4), .assign (.c false [(.int .i64 0)]), none, []⟩])
  (.block 0 (.loop (.seq (.seq (.region false [8, 9, 10, 11] [8, 9, 10] [⟨(some 8), .move (.t 4), none, []⟩,
    ⟨(some 9), .move (.t 0), none, []⟩,
    ⟨(some 10), .len false (.t 9), none, []⟩,
    ⟨(some 11), .bin .lss (.t 8) (.t 10), none, []⟩])
  (.cond (.t 11)
  .skip
  (.exit 0)))
  (.seq (.block 1 (.region true [14, 15, 16, 17, 18, 19, 20, 21, 22, 23, 24, 25, 26, 54] [14, 15, 16, 17, 18, 19, 20, 21, 22, 23, 24, 25, 26] [⟨(some 14), .move (.t 3), none, []⟩,
    ⟨(some 15), .move (.t 0), none, []⟩,
    ⟨(some 16), .move (.t 4), none, []⟩,
    ⟨(some 17), .iaddr 1 (.t 15) (.t 16), none, [1, 2]⟩,
    ⟨(some 18), .load false 1 (.t 17), none, [3, 1, 2]⟩,
    ⟨(some 19), .len false (.t 18), none, [4, 3, 1, 2]⟩,
    ⟨(some 20), .bslice [(.int .i64 0)] 2 [(0, (.t 14)), (1, (.t 19))], none, [0, 5, 4, 3, 1, 2]⟩,
    ⟨(some 21), .move (.t 0), none, []⟩,
    ⟨(some 22), .move (.t 4), none, []⟩,
    ⟨(some 23), .iaddr 1 (.t 21) (.t 22), none, [7, 8]⟩,
    ⟨(some 24), .load false 1 (.t 23), none, [9, 7, 8]⟩,
    ⟨(some 25), .append 1 (.t 20) (.t 24), none, [6, 0, 5, 4, 3, 1, 2, 10, 9, 7, 8]⟩,
    ⟨(some 26), .call 268 [(.t 25)], none, [11, 6, 0, 5, 4, 3, 1, 2, 10, 9, 7, 8]⟩,
    ⟨(some 3), .assign (.t 26), none, [12, 11, 6, 0, 5, 4, 3, 1, 2, 10, 9, 7, 8]⟩]))
  (.region false [12, 13] [12, 13] [⟨(some 12), .move (.t 4), none, []⟩,
    ⟨(some 13), .bin .add (.t 12) (.c false [(.int .i64 1)]), none, []⟩,
    ⟨(some 4), .assign (.t 13), none, []⟩]))))))
  (.seq (.region false [27] [27] [⟨(some 27), .move (.t 3), none, []⟩,
    ⟨(some 2), .assign (.t 27), none, []⟩])
  .ret)))))⟩
/- impl.InRange -/
def ir232 : FnIr := ⟨0, 3, 15, [(6, none)], [],
  (.seq (.region false [] [] [⟨(some 6), .assign (.c false [(.bool false)]), none, []⟩])
  (.seq (.region false [7, 8, 9, 10, 11, 12, 13, 14] [7, 8, 9, 10, 11, 12, 13, 14] [⟨(some 7), .move (.t 1), none, []⟩,
    ⟨(some 8), .move (.t 0), none, []⟩,
    ⟨(some 9), .bin .leq (.t 7) (.t 8), none, []⟩,
    ⟨(some 10), .move (.t 9), none, []⟩,
    ⟨(some 11), .move (.t 0), (some (10, true)), []⟩,
    ⟨(some 12), .move (.t 2), (some (10, true)), []⟩,
    ⟨(some 13), .bin .leq (.t 11) (.t 12), (some (10, true)), []⟩,
    ⟨(some 14), .pick (.t 10) (.t 13) (.c false [(.bool false)]), none, []⟩,
    ⟨(some 6), .assign (.t 14), none, []⟩])
  .ret))⟩
/- impl.Mod -/
def ir349 : FnIr := ⟨0, 2, 15, [(4, none)], [],
  (.seq (.region false [] [] [⟨(some 4), .assign (.c false [(.int .i64 0)]), none, []⟩])
  (.seq (.seq (.region false [5, 6, 7, 21] [5, 6] [⟨(some 5), .move (.t 1), none, []⟩,
    ⟨(some 6), .call 232 [(.t 5), (.c false [(.int .i64 1)]), (.c false [(.int .i64 1000000000000)])], none, []⟩,
    ⟨(some 7), .un .not (.t 6), none, []⟩])
  (.cond (.t 7)
  (.seq (.region false [] [] [⟨(some 4), .assign (.c false [(.int .i64 0)]), none, []⟩])
  .ret)
  .skip))
  (.seq (.region false [8, 9, 10, 11, 12, 13, 14] [8, 9, 10, 11, 12, 13, 14] [⟨(some 8), .move (.t 0), none, []⟩,
    ⟨(some 9), .move (.t 1), none, []⟩,
    ⟨(some 10), .bin .rem (.t 8) (.t 9), none, []⟩,
    ⟨(some 11), .move (.t 1), none, []⟩,
    ⟨(some 12), .bin .add (.t 10) (.t 11), none, []⟩,
    ⟨(some 13), .move (.t 1), none, []⟩,
    ⟨(some 14), .bin .rem (.t 12) (.t 13), none, []⟩,
    ⟨(some 4), .assign (.t 14), none, []⟩])
  .ret)))⟩
/- impl.Hash -/
def ir269 : FnIr := ⟨0, 1, 21, [(2, none)], [],
  (.seq (.region false [] [] [⟨(some 2), .assign (.c false [(.int .i64 0)]), none, []⟩])
  (.seq (.region false [] [] [⟨(some 3), .assign (.c false [(.int .i64 11)]), none, []⟩])
  (.seq (.seq (.region false [6, 7, 8] [] [⟨(some 6), .move (.t 0), none, []⟩,
    ⟨(some 7), .len false (.t 6), none, []⟩,
    ⟨(some 8), .move (.c false [(.int .i64 0)]), none, []⟩])
  (.block 0 (.loop (.seq (.region false [9] [] [⟨(some 9), .bin .lss (.t 8) (.t 7), none, []⟩])
  (.seq (.cond (.t 9)
  .skip
  (.exit 0))
  (.seq (.block 1 (.seq (.region false [10, 11] [10, 11] [⟨(some 10), .iaddr 1 (.t 6) (.t 8), none, []⟩,
    ⟨(some 11), .load false 1 (.t 10), none, []⟩,
    ⟨(some 5), .assign (.t 11), none, []⟩])
  (.region false [12, 13, 14, 15, 16, 17, 18, 36] [12, 13, 14, 15, 16, 17, 18] [⟨(some 12), .move (.t 3), none, []⟩,
    ⟨(some 13), .bin .mul (.t 12) (.c false [(.int .i64 1000003)]), none, []⟩,
    ⟨(some 14), .move (.t 5), none, []⟩,
    ⟨(some 15), .call 349 [(.t 14), (.c false [(.int .i64 2147483647)])], none, []⟩,
    ⟨(some 16), .bin .add (.t 13) (.t 15), none, []⟩,
    ⟨(some 17), .bin .add (.t 16) (.c false [(.int .i64 13)]), none, []⟩,
    ⟨(some 18), .bin .rem (.t 17) (.c false [(.int .i64 2147483647)]), none, []⟩,
    ⟨(some 3), .assign (.t 18), none, []⟩])))
  (.region false [19] [19] [⟨(some 19), .bin .add (.t 8) (.c false [(.int .i64 1)]), none, []⟩,
    ⟨(some 8), .move (.t 19), none, []⟩])))))))
  (.seq (.region false [20] [20] [⟨(some 20), .move (.t 3), none, []⟩,
    ⟨(some 2), .assign (.t 20), none, []⟩])
  .ret))))⟩
/- slices.IndexFunc[[][]int,[]int] -/
def ir341 : FnIr := ⟨0, 2, 19, [(4, none)], [],
  (.seq (.region false [] [] [⟨(some 4), .assign (.c false [(.int .i64 0)]), none, []⟩])
  (.seq (.seq (.region false [6, 7, 8] [6] [⟨(some 6), .move (.t 0), none, []⟩,
    ⟨(some 7), .len false (.t 6), none, []⟩,
    ⟨(some 8), .move (.c false [(.int .i64 0)]), none, []⟩])
  (.block 0 (.loop (.seq (.region false [9] [] [⟨(some 9), .bin .lss (.t 8) (.t 7), none, []⟩])
  (.seq (.cond (.t 9)
  .skip
  (.exit 0))
  (.seq (.block 1 (.seq (.region false [10] [10] [⟨(some 10), .move (.t 8), none, []⟩,
    ⟨(some 5), .assign (.t 10), none, []⟩])
  (.seq (.region false [11, 12, 13, 14, 15, 16, 35] [11, 12, 13, 14, 15] [⟨(some 11), .move (.t 1), none, []⟩,
    ⟨(some 12), .move (.t 0), none, []⟩,
    ⟨(some 13), .move (.t 5), none, []⟩,
    ⟨(some 14), .iaddr 1 (.t 12) (.t 13), none, []⟩,
    ⟨(some 15), .load false 1 (.t 14), none, []⟩,
    ⟨(some 16), .callv (.t 11) [(.t 15)], none, []⟩])
  (.cond (.t 16)
  (.seq (.region false [17] [17] [⟨(some 17), .move (.t 5), none, []⟩,
    ⟨(some 4), .assign (.t 17), none, []⟩])
  .ret)
  .skip))))
  (.region false [18] [18] [⟨(some 18), .bin .add (.t 8) (.c false [(.int .i64 1)]), none, []⟩,
    ⟨(some 8), .move (.t 18), none, []⟩])))))))
  (.seq (.region false [] [] [⟨(some 4), .assign (.c false [(.int .i64 (-1))]), none, []⟩])
  .ret)))⟩
/- slices.ContainsFunc[[][]int,[]int] -/
def ir234 : FnIr := ⟨0, 2, 9, [(4, none)], [],
  (.seq (.region false [] [] [⟨(some 4), .assign (.c false [(.bool false)]), none, []⟩])
  (.seq (.region false [5, 6, 7, 8, 16] [5, 6, 7, 8] [⟨(some 5), .move (.t 0), none, []⟩,
    ⟨(some 6), .move (.t 1), none, []⟩,
    ⟨(some 7), .call 341 [(.t 5), (.t 6)], none, []⟩,
    ⟨(some 8), .bin .geq (.t 7) (.c false [(.int .i64 0)]), none, []⟩,
    ⟨(some 4), .assign (.t 8), none, []⟩])
  .ret))⟩
/- slices.IndexFunc[[]int,int] -/
def ir377 : FnIr := ⟨0, 2, 19, [(4, none)], [],
  (.seq (.region false [] [] [⟨(some 4), .assign (.c false [(.int .i64 0)]), none, []⟩])
  (.seq (.seq (.region false [6, 7, 8] [6] [⟨(some 6), .move (.t 0), none, []⟩,
    ⟨(some 7), .len false (.t 6), none, []⟩,
    ⟨(some 8), .move (.c false [(.int .i64 0)]), none, []⟩])
  (.block 0 (.loop (.seq (.region false [9] [] [⟨(some 9), .bin .lss (.t 8) (.t 7), none, []⟩])
  (.seq (.cond (.t 9)
  .skip
  (.exit 0))
  (.seq (.block 1 (.seq (.region false [10] [10] [⟨(some 10), .move (.t 8), none, []⟩,
    ⟨(some 5), .assign (.t 10), none, []⟩])
  (.seq (.region false [11, 12, 13, 14, 15, 16, 35] [11, 12, 13, 14, 15] [⟨(some 11), .move (.t 1), none, []⟩,
    ⟨(some 12), .move (.t 0), none, []⟩,
    ⟨(some 13), .move (.t 5), none, []⟩,
    ⟨(some 14), .iaddr 1 (.t 12) (.t 13), none, []⟩,
    ⟨(some 15), .load false 1 (.t 14), none, []⟩,
    ⟨(some 16), .callv (.t 11) [(.t 15)], none, []⟩])
  (.cond (.t 16)
  (.seq (.region false [17] [17] [⟨(some 17), .move (.t 5), none, []⟩,
    ⟨(some 4), .assign (.t 17), none, []⟩])
  .ret)
  .skip))))
  (.region false [18] [18] [⟨(some 18), .bin .add (.t 8) (.c false [(.int .i64 1)]), none, []⟩,
    ⟨(some 8), .move (.t 18), none, []⟩])))))))
  (.seq (.region false [] [] [⟨(some 4), .assign (.c false [(.int .i64 (-1))]), none, []⟩])
  .ret)))⟩
/- slices.ContainsFunc[[]int,int] -/
def ir336 : FnIr := ⟨0, 2, 9, [(4, none)], [],
  (.seq (.region false [] [] [⟨(some 4), .assign (.c false [(.bool false)]), none, []⟩])
  (.seq (.region false [5, 6, 7, 8, 16] [5, 6, 7, 8] [⟨(some 5), .move (.t 0), none, []⟩,
    ⟨(some 6), .move (.t 1), none, []⟩,
    ⟨(some 7), .call 377 [(.t 5), (.t 6)], none, []⟩,
    ⟨(some 8), .bin .geq (.t 7) (.c false [(.int .i64 0)]), none, []⟩,
    ⟨(some 4), .assign (.t 8), none, []⟩])
  .ret))⟩
/- impl.areNumbers$1 -/
def ir340 : FnIr := ⟨0, 3, 10, [(4, none)], [],
  (.seq (.region false [] [] [⟨(some 4), .assign (.c false [(.bool false)]), none, []⟩])
  (.seq (.region false [5, 6, 7, 8, 9, 18] [5, 6, 7, 8, 9] [⟨(some 5), .move (.t 0), none, []⟩,
    ⟨(some 6), .load false 1 (.t 1), none, []⟩,
    ⟨(some 7), .load false 1 (.t 2), none, []⟩,
    ⟨(some 8), .call 232 [(.t 5), (.t 6), (.t 7)], none, []⟩,
    ⟨(some 9), .un .not (.t 8), none, []⟩,
    ⟨(some 4), .assign (.t 9), none, []⟩])
  .ret))⟩
/- impl.areNumbers -/
def ir233 : FnIr := ⟨0, 3, 11, [(6, none)], [],
  (.seq (.region false [4, 5, 15, 16] [] [⟨(some 4), .box (.t 1), none, []⟩,
    ⟨(some 5), .box (.t 2), none, []⟩,
    ⟨(some 6), .assign (.c false [(.bool false)]), none, []⟩])
  (.seq (.region false [7, 8, 9, 10, 20] [7, 8, 9, 10] [⟨(some 7), .move (.t 0), none, []⟩,
    ⟨(some 8), .mkfn 340 [4, 5], none, []⟩,
    ⟨(some 9), .call 336 [(.t 7), (.t 8)], none, []⟩,
    ⟨(some 10), .un .not (.t 9), none, []⟩,
    ⟨(some 6), .assign (.t 10), none, []⟩])
  .ret))⟩
/- impl.IsTranscript$1 -/
def ir235 : FnIr := ⟨0, 1, 6, [(2, none)], [],
  (.seq (.region false [] [] [⟨(some 2), .assign (.c false [(.bool false)]), none, []⟩])
  (.seq (.region false [3, 4, 5, 10] [3, 4, 5] [⟨(some 3), .move (.t 0), none, []⟩,
    ⟨(some 4), .call 233 [(.t 3), (.c false [(.int .i64 0)]), (.c false [(.int .i64 255)])], none, []⟩,
    ⟨(some 5), .un .not (.t 4), none, []⟩,
    ⟨(some 2), .assign (.t 5), none, []⟩])
  .ret))⟩
/- impl.IsTranscript -/
def ir73 : FnIr := ⟨0, 1, 11, [(2, none)], [],
  (.seq (.region false [] [] [⟨(some 2), .assign (.c false [(.bool false)]), none, []⟩])
  (.seq (.region false [3, 4, 5, 6, 7, 8, 9, 10, 19] [3, 4, 5, 6, 7, 8, 9, 10] [⟨(some 3), .move (.t 0), none, []⟩,
    ⟨(some 4), .len false (.t 3), none, []⟩,
    ⟨(some 5), .bin .leq (.t 4) (.c false [(.int .i64 12)]), none, []⟩,
    ⟨(some 6), .move (.t 5), none, []⟩,
    ⟨(some 7), .move (.t 0), (some (6, true)), []⟩,
    ⟨(some 8), .call 234 [(.t 7), (.f 235)], (some (6, true)), []⟩,
    ⟨(some 9), .un .not (.t 8), (some (6, true)), []⟩,
    ⟨(some 10), .pick (.t 6) (.t 9) (.c false [(.bool false)]), none, []⟩,
    ⟨(some 2), .assign (.t 10), none, []⟩])
  .ret))⟩
/- impl.TranscriptHash -/
def ir121 : FnIr := ⟨0, 1, 24, [(2, none)], [],
  (.seq (.region false [] [] [⟨(some 2), .assign (.c false [(.int .i64 0)]), none, []⟩])
  (.seq (.seq (.region false [6, 7, 8, 31] [6, 7] [⟨(some 6), .move (.t 0), none, []⟩,
    ⟨(some 7), .call 73 [(.t 6)], none, []⟩,
    ⟨(some 8), .un .not (.t 7), none, []⟩])
  (.cond (.t 8)
  (.seq (.region false [] [] [⟨(some 2), .assign (.c false [(.int .i64 0)]), none, []⟩])
  .ret)
  .skip))
  (.seq (.region false [] [] [⟨(some 3), .assign (.c false [(.int .i64 1)]), none, []⟩])
  (.seq (.seq (.region false [9, 10, 11] [] [⟨(some 9), .move (.t 0), none, []⟩,
    ⟨(some 10), .len false (.t 9), none, []⟩,
    ⟨(some 11), .move (.c false [(.int .i64 0)]), none, []⟩])
  (.block 0 (.loop (.seq (.region false [12] [] [⟨(some 12), .bin .lss (.t 11) (.t 10), none, []⟩])
  (.seq (.cond (.t 12)
  .skip
  (.exit 0))
  (.seq (.block 1 (.seq (.region false [13, 14] [13, 14] [⟨(some 13), .iaddr 1 (.t 9) (.t 11), none, []⟩,
    ⟨(some 14), .load false 1 (.t 13), none, []⟩,
    ⟨(some 5), .assign (.t 14), none, []⟩])
  (.region false [15, 16, 17, 18, 19, 20, 21, 45] [15, 16, 17, 18, 19, 20, 21] [⟨(some 15), .move (.t 3), none, []⟩,
    ⟨(some 16), .move (.t 5), none, []⟩,
    ⟨(some 17), .len false (.t 16), none, []⟩,
    ⟨(some 18), .bslice [(.int .i64 0)] 2 [(0, (.t 15)), (1, (.t 17))], none, []⟩,
    ⟨(some 19), .move (.t 5), none, []⟩,
    ⟨(some 20), .append 1 (.t 18) (.t 19), none, []⟩,
    ⟨(some 21), .call 269 [(.t 20)], none, []⟩,
    ⟨(some 3), .assign (.t 21), none, []⟩])))
  (.region false [22] [22] [⟨(some 22), .bin .add (.t 11) (.c false [(.int .i64 1)]), none, []⟩,
    ⟨(some 11), .move (.t 22), none, []⟩])))))))
  (.seq (.region false [23] [23] [⟨(some 23), .move (.t 3), none, []⟩,
    ⟨(some 2), .assign (.t 23), none, []⟩])
  .ret)))))⟩
/- laws.szIntS -/
def ir227 : FnIr := ⟨0, 2, 12, [(4, none)], [],
  (.seq (.region false [] [] [⟨(some 4), .assign (.c false [(.int .i64 0)]), none, []⟩])
  (.seq (.region false [5, 6, 7, 8] [5, 6, 7, 8] [⟨(some 5), .move (.t 1), none, []⟩,
    ⟨(some 6), .move (.t 0), none, []⟩,
    ⟨(some 7), .len false (.t 6), none, []⟩,
    ⟨(some 8), .bin .sub (.t 5) (.t 7), none, []⟩,
    ⟨(some 1), .assign (.t 8), none, []⟩])
  (.seq (.seq (.region false [9, 10] [9] [⟨(some 9), .move (.t 1), none, []⟩,
    ⟨(some 10), .bin .lss (.t 9) (.c false [(.int .i64 0)]), none, []⟩])
  (.cond (.t 10)
  (.seq (.region false [] [] [⟨(some 4), .assign (.c false [(.int .i64 (-1))]), none, []⟩])
  .ret)
  .skip))
  (.seq (.region false [11] [11] [⟨(some 11), .move (.t 1), none, []⟩,
    ⟨(some 4), .assign (.t 11), none, []⟩])
  .ret))))⟩
/- laws.szIntSS -/
def ir70 : FnIr := ⟨0, 2, 27, [(4, none)], [],
  (.seq (.region false [] [] [⟨(some 4), .assign (.c false [(.int .i64 0)]), none, []⟩])
  (.seq (.region false [6, 7, 8, 9] [6, 7, 8, 9] [⟨(some 6), .move (.t 1), none, []⟩,
    ⟨(some 7), .move (.t 0), none, []⟩,
    ⟨(some 8), .len false (.t 7), none, []⟩,
    ⟨(some 9), .bin .sub (.t 6) (.t 8), none, []⟩,
    ⟨(some 1), .assign (.t 9), none, []⟩])
  (.seq (.seq (.region false [10, 11] [10] [⟨(some 10), .move (.t 1), none, []⟩,
    ⟨(some 11), .bin .lss (.t 10) (.c false [(.int .i64 0)]), none, []⟩])
  (.cond (.t 11)
  (.seq (.region false [] [] [⟨(some 4), .assign (.c false [(.int .i64 (-1))]), none, []⟩])
  .ret)
  .skip))
  (.seq (.seq (.region false [] [] [⟨(some 5), .assign (.c false [(.int .i64 0)]), none, []⟩])
  (.block 0 (.loop (.seq (.seq (.region false [12, 13, 14, 15] [12, 13, 14] [⟨(some 12), .move (.t 5), none, []⟩,
    ⟨(some 13), .move (.t 0), none, []⟩,
    ⟨(some 14), .len false (.t 13), none, []⟩,
    ⟨(some 15), .bin .lss (.t 12) (.t 14), none, []⟩])
  (.cond (.t 15)
  .skip
  (.exit 0)))
  (.seq (.block 1 (.seq (.region false [18, 19, 20, 21, 22, 23, 50] [18, 19, 20, 21, 22, 23] [⟨(some 18), .move (.t 0), none, []⟩,
    ⟨(some 19), .move (.t 5), none, []⟩,
    ⟨(some 20), .iaddr 1 (.t 18) (.t 19), none, []⟩,
    ⟨(some 21), .load false 1 (.t 20), none, []⟩,
    ⟨(some 22), .move (.t 1), none, []⟩,
    ⟨(some 23), .call 227 [(.t 21), (.t 22)], none, []⟩,
    ⟨(some 1), .assign (.t 23), none, []⟩])
  (.seq (.region false [24, 25] [24] [⟨(some 24), .move (.t 1), none, []⟩,
    ⟨(some 25), .bin .lss (.t 24) (.c false [(.int .i64 0)]), none, []⟩])
  (.cond (.t 25)
  (.seq (.region false [] [] [⟨(some 4), .assign (.c false [(.int .i64 (-1))]), none, []⟩])
  .ret)
  .skip))))
  (.region false [16, 17] [16, 17] [⟨(some 16), .move (.t 5), none, []⟩,
    ⟨(some 17), .bin .add (.t 16) (.c false [(.int .i64 1)]), none, []⟩,
    ⟨(some 5), .assign (.t 17), none, []⟩]))))))
  (.seq (.region false [26] [26] [⟨(some 26), .move (.t 1), none, []⟩,
    ⟨(some 4), .assign (.t 26), none, []⟩])
  .ret)))))⟩
/- laws.toIntS -/
def ir76 : FnIr := ⟨0, 1, 22, [(2, none)], [],
  (.seq (.region false [] [] [⟨(some 2), .assign (.c false [(.row () [])]), none, []⟩])
  (.seq (.region false [5, 6, 7] [5, 6, 7] [⟨(some 5), .move (.t 0), none, []⟩,
    ⟨(some 6), .len false (.t 5), none, []⟩,
    ⟨(some 7), .mkslice [(.int .i64 0)] (.t 6) (.t 6), none, []⟩,
    ⟨(some 3), .assign (.t 7), none, []⟩])
  (.seq (.seq (.region false [] [] [⟨(some 4), .assign (.c false [(.int .i64 0)]), none, []⟩])
  (.block 0 (.loop (.seq (.seq (.region false [8, 9, 10, 11] [8, 9, 10] [⟨(some 8), .move (.t 4), none, []⟩,
    ⟨(some 9), .move (.t 0), none, []⟩,
    ⟨(some 10), .len false (.t 9), none, []⟩,
    ⟨(some 11), .bin .lss (.t 8) (.t 10), none, []⟩])
  (.cond (.t 11)
  .skip
  (.exit 0)))
  (.seq (.block 1 (.region false [14, 15, 16, 17, 18, 19, 20] [14, 15, 16, 17, 18, 19, 20] [⟨(some 14), .move (.t 3), none, []⟩,
    ⟨(some 15), .move (.t 4), none, []⟩,
    ⟨(some 16), .move (.t 0), none, []⟩,
    ⟨(some 17), .move (.t 4), none, []⟩,
    ⟨(some 18), .iaddr 1 (.t 16) (.t 17), none, []⟩,
    ⟨(some 19), .load false 1 (.t 18), none, []⟩,
    ⟨(some 20), .iaddr 1 (.t 14) (.t 15), none, []⟩,
    ⟨none, .rstore 1 (.t 20) (.t 19), none, []⟩]))
  (.region false [12, 13] [12, 13] [⟨(some 12), .move (.t 4), none, []⟩,
    ⟨(some 13), .bin .add (.t 12) (.c false [(.int .i64 1)]), none, []⟩,
    ⟨(some 4), .assign (.t 13), none, []⟩]))))))
  (.seq (.region false [21] [21] [⟨(some 21), .move (.t 3), none, []⟩,
    ⟨(some 2), .assign (.t 21), none, []⟩])
  .ret))))⟩
/- laws.toIntSS -/
def ir72 : FnIr := ⟨0, 1, 23, [(2, none)], [],
  (.seq (.region false [] [] [⟨(some 2), .assign (.c false [(.row () [])]), none, []⟩])
  (.seq (.region false [5, 6, 7] [5, 6, 7] [⟨(some 5), .move (.t 0), none, []⟩,
    ⟨(some 6), .len false (.t 5), none, []⟩,
    ⟨(some 7), .mkslice [(.row () [])] (.t 6) (.t 6), none, []⟩,
    ⟨(some 3), .assign (.t 7), none, []⟩])
  (.seq (.seq (.region false [] [] [⟨(some 4), .assign (.c false [(.int .i64 0)]), none, []⟩])
  (.block 0 (.loop (.seq (.seq (.region false [8, 9, 10, 11] [8, 9, 10] [⟨(some 8), .move (.t 4), none, []⟩,
    ⟨(some 9), .move (.t 0), none, []⟩,
    ⟨(some 10), .len false (.t 9), none, []⟩,
    ⟨(some 11), .bin .lss (.t 8) (.t 10), none, []⟩])
  (.cond (.t 11)
  .skip
  (.exit 0)))
  (.seq (.block 1 (.region false [14, 15, 16, 17, 18, 19, 20, 21, 43] [14, 15, 16, 17, 18, 19, 20, 21] [⟨(some 14), .move (.t 3), none, []⟩,
    ⟨(some 15), .move (.t 4), none, []⟩,
    ⟨(some 16), .move (.t 0), none, []⟩,
    ⟨(some 17), .move (.t 4), none, []⟩,
    ⟨(some 18), .iaddr 1 (.t 16) (.t 17), none, []⟩,
    ⟨(some 19), .load false 1 (.t 18), none, []⟩,
    ⟨(some 20), .call 76 [(.t 19)], none, []⟩,
    ⟨(some 21), .iaddr 1 (.t 14) (.t 15), none, []⟩,
    ⟨none, .rstore 1 (.t 21) (.t 20), none, []⟩]))
  (.region false [12, 13] [12, 13] [⟨(some 12), .move (.t 4), none, []⟩,
    ⟨(some 13), .bin .add (.t 12) (.c false [(.int .i64 1)]), none, []⟩,
    ⟨(some 4), .assign (.t 13), none, []⟩]))))))
  (.seq (.region false [22] [22] [⟨(some 22), .move (.t 3), none, []⟩,
    ⟨(some 2), .assign (.t 22), none, []⟩])
  .ret))))⟩
/- laws.eqIntS -/
def ir79 : FnIr := ⟨0, 2, 26, [(4, none)], [],
  (.seq (.region false [] [] [⟨(some 4), .assign (.c false [(.bool false)]), none, []⟩])
  (.seq (.seq (.region false [6, 7, 8, 9, 10] [6, 7, 8, 9] [⟨(some 6), .move (.t 0), none, []⟩,
    ⟨(some 7), .len false (.t 6), none, []⟩,
    ⟨(some 8), .move (.t 1), none, []⟩,
    ⟨(some 9), .len false (.t 8), none, []⟩,
    ⟨(some 10), .bin .neq (.t 7) (.t 9), none, []⟩])
  (.cond (.t 10)
  (.seq (.region false [] [] [⟨(some 4), .assign (.c false [(.bool false)]), none, []⟩])
  .ret)
  .skip))
  (.seq (.seq (.region false [] [] [⟨(some 5), .assign (.c false [(.int .i64 0)]), none, []⟩])
  (.block 0 (.loop (.seq (.seq (.region false [11, 12, 13, 14] [11, 12, 13] [⟨(some 11), .move (.t 5), none, []⟩,
    ⟨(some 12), .move (.t 0), none, []⟩,
    ⟨(some 13), .len false (.t 12), none, []⟩,
    ⟨(some 14), .bin .lss (.t 11) (.t 13), none, []⟩])
  (.cond (.t 14)
  .skip
  (.exit 0)))
  (.seq (.block 1 (.seq (.region true [17, 18, 19, 20, 21, 22, 23, 24, 25] [17, 18, 19, 20, 21, 22, 23, 24] [⟨(some 17), .move (.t 0), none, []⟩,
    ⟨(some 18), .move (.t 5), none, []⟩,
    ⟨(some 19), .iaddr 1 (.t 17) (.t 18), none, [0, 1]⟩,
    ⟨(some 20), .load false 1 (.t 19), none, [2, 0, 1]⟩,
    ⟨(some 21), .move (.t 1), none, []⟩,
    ⟨(some 22), .move (.t 5), none, []⟩,
    ⟨(some 23), .iaddr 1 (.t 21) (.t 22), none, [4, 5]⟩,
    ⟨(some 24), .load false 1 (.t 23), none, [6, 4, 5]⟩,
    ⟨(some 25), .bin .neq (.t 20) (.t 24), none, [3, 2, 0, 1, 7, 6, 4, 5]⟩])
  (.cond (.t 25)
  (.seq (.region false [] [] [⟨(some 4), .assign (.c false [(.bool false)]), none, []⟩])
  .ret)
  .skip)))
  (.region false [15, 16] [15, 16] [⟨(some 15), .move (.t 5), none, []⟩,
    ⟨(some 16), .bin .add (.t 15) (.c false [(.int .i64 1)]), none, []⟩,
    ⟨(some 5), .assign (.t 16), none, []⟩]))))))
  (.seq (.region false [] [] [⟨(some 4), .assign (.c false [(.bool true)]), none, []⟩])
  .ret))))⟩
/- laws.eqIntSS -/
def ir74 : FnIr := ⟨0, 2, 27, [(4, none)], [],
  (.seq (.region false [] [] [⟨(some 4), .assign (.c false [(.bool false)]), none, []⟩])
  (.seq (.seq (.region false [6, 7, 8, 9, 10] [6, 7, 8, 9] [⟨(some 6), .move (.t 0), none, []⟩,
    ⟨(some 7), .len false (.t 6), none, []⟩,
    ⟨(some 8), .move (.t 1), none, []⟩,
    ⟨(some 9), .len false (.t 8), none, []⟩,
    ⟨(some 10), .bin .neq (.t 7) (.t 9), none, []⟩])
  (.cond (.t 10)
  (.seq (.region false [] [] [⟨(some 4), .assign (.c false [(.bool false)]), none, []⟩])
  .ret)
  .skip))
  (.seq (.seq (.region false [] [] [⟨(some 5), .assign (.c false [(.int .i64 0)]), none, []⟩])
  (.block 0 (.loop (.seq (.seq (.region false [11, 12, 13, 14] [11, 12, 13] [⟨(some 11), .move (.t 5), none, []⟩,
    ⟨(some 12), .move (.t 0), none, []⟩,
    ⟨(some 13), .len false (.t 12), none, []⟩,
    ⟨(some 14), .bin .lss (.t 11) (.t 13), none, []⟩])
  (.cond (.t 14)
  .skip
  (.exit 0)))
  (.seq (.block 1 (.seq (.region true [17, 18, 19, 20, 21, 22, 23, 24, 25, 26, 52] [17, 18, 19, 20, 21, 22, 23, 24, 25] [⟨(some 17), .move (.t 0), none, []⟩,
    ⟨(some 18), .move (.t 5), none, []⟩,
    ⟨(some 19), .iaddr 1 (.t 17) (.t 18), none, [0, 1]⟩,
    ⟨(some 20), .load false 1 (.t 19), none, [2, 0, 1]⟩,
    ⟨(some 21), .move (.t 1), none, []⟩,
    ⟨(some 22), .move (.t 5), none, []⟩,
    ⟨(some 23), .iaddr 1 (.t 21) (.t 22), none, [4, 5]⟩,
    ⟨(some 24), .load false 1 (.t 23), none, [6, 4, 5]⟩,
    ⟨(some 25), .call 79 [(.t 20), (.t 24)], none, [3, 2, 0, 1, 7, 6, 4, 5]⟩,
    ⟨(some 26), .un .not (.t 25), none, [8, 3, 2, 0, 1, 7, 6, 4, 5]⟩])
  (.cond (.t 26)
  (.seq (.region false [] [] [⟨(some 4), .assign (.c false [(.bool false)]), none, []⟩])
  .ret)
  .skip)))
  (.region false [15, 16] [15, 16] [⟨(some 15), .move (.t 5), none, []⟩,
    ⟨(some 16), .bin .add (.t 15) (.c false [(.int .i64 1)]), none, []⟩,
    ⟨(some 5), .assign (.t 16), none, []⟩]))))))
  (.seq (.region false [] [] [⟨(some 4), .assign (.c false [(.bool true)]), none, []⟩])
  .ret))))⟩
/- laws.FnExactTranscriptHash -/
def ir16 : FnIr := ⟨0, 1, 27, [(2, none)], [],
  (.seq (.region false [] [] [⟨(some 2), .assign (.c false [(.bool false)]), none, []⟩])
  (.seq (.region false [] [] [⟨(some 3), .assign (.c false [(.int .i64 1048576)]), none, []⟩])
  (.seq (.region false [7, 8, 9, 36] [7, 8, 9] [⟨(some 7), .move (.t 0), none, []⟩,
    ⟨(some 8), .move (.t 3), none, []⟩,
    ⟨(some 9), .call 70 [(.t 7), (.t 8)], none, []⟩,
    ⟨(some 3), .assign (.t 9), none, []⟩])
  (.seq (.seq (.region false [10, 11] [10] [⟨(some 10), .move (.t 3), none, []⟩,
    ⟨(some 11), .bin .lss (.t 10) (.c false [(.int .i64 0)]), none, []⟩])
  (.cond (.t 11)
  (.seq (.region false [] [] [⟨(some 2), .assign (.c false [(.bool true)]), none, []⟩])
  .ret)
  .skip))
  (.seq (.region false [12, 13, 14, 40, 41] [12, 13, 14] [⟨(some 12), .move (.t 0), none, []⟩,
    ⟨(some 13), .call 72 [(.t 12)], none, []⟩,
    ⟨(some 14), .call 120 [(.t 13)], none, []⟩,
    ⟨(some 4), .assign (.t 14), none, []⟩])
  (.seq (.region false [15, 16, 43] [15, 16] [⟨(some 15), .move (.t 0), none, []⟩,
    ⟨(some 16), .call 72 [(.t 15)], none, []⟩,
    ⟨(some 5), .assign (.t 16), none, []⟩])
  (.seq (.region false [17, 18, 45] [17, 18] [⟨(some 17), .move (.t 5), none, []⟩,
    ⟨(some 18), .call 121 [(.t 17)], none, []⟩,
    ⟨(some 6), .assign (.t 18), none, []⟩])
  (.seq (.seq (.region false [19, 20, 21] [19, 20] [⟨(some 19), .move (.t 6), none, []⟩,
    ⟨(some 20), .move (.t 4), none, []⟩,
    ⟨(some 21), .bin .neq (.t 19) (.t 20), none, []⟩])
  (.cond (.t 21)
  (.seq (.region false [] [] [⟨(some 2), .assign (.c false [(.bool false)]), none, []⟩])
  .ret)
  .skip))
  (.seq (.seq (.region false [22, 23, 24, 25, 26, 51, 52] [22, 23, 24, 25] [⟨(some 22), .move (.t 5), none, []⟩,
    ⟨(some 23), .move (.t 0), none, []⟩,
    ⟨(some 24), .call 72 [(.t 23)], none, []⟩,
    ⟨(some 25), .call 74 [(.t 22), (.t 24)], none, []⟩,
    ⟨(some 26), .un .not (.t 25), none, []⟩])
  (.cond (.t 26)
  (.seq (.region false [] [] [⟨(some 2), .assign (.c false [(.bool false)]), none, []⟩])
  .ret)
  .skip))
  (.seq (.region false [] [] [⟨(some 2), .assign (.c false [(.bool true)]), none, []⟩])
  .ret))))))))))⟩
def tbl : List (Nat × FnIr) := [(230, ir230), (348, ir348), (268, ir268), (231, ir231), (71, ir71), (120, ir120), (232, ir232), (349, ir349), (269, ir269), (341, ir341), (234, ir234), (377, ir377), (336, ir336), (340, ir340), (233, ir233), (235, ir235), (73, ir73), (121, ir121), (227, ir227), (70, ir70), (76, ir76), (72, ir72), (79, ir79), (74, ir74), (16, ir16)]
def Tb (g : Nat) : Option FnIr := tbl.lookup g
theorem tb_230 : Tb 230 = some ir230 := rfl
theorem tb_348 : Tb 348 = some ir348 := rfl
theorem tb_268 : Tb 268 = some ir268 := rfl
theorem tb_231 : Tb 231 = some ir231 := rfl
theorem tb_71 : Tb 71 = some ir71 := rfl
theorem tb_120 : Tb 120 = some ir120 := rfl
theorem tb_232 : Tb 232 = some ir232 := rfl
theorem tb_349 : Tb 349 = some ir349 := rfl
theorem tb_269 : Tb 269 = some ir269 := rfl
theorem tb_341 : Tb 341 = some ir341 := rfl
theorem tb_234 : Tb 234 = some ir234 := rfl
theorem tb_377 : Tb 377 = some ir377 := rfl
theorem tb_336 : Tb 336 = some ir336 := rfl
theorem tb_340 : Tb 340 = some ir340 := rfl
theorem tb_233 : Tb 233 = some ir233 := rfl
theorem tb_235 : Tb 235 = some ir235 := rfl
theorem tb_73 : Tb 73 = some ir73 := rfl
theorem tb_121 : Tb 121 = some ir121 := rfl
theorem tb_227 : Tb 227 = some ir227 := rfl
theorem tb_70 : Tb 70 = some ir70 := rfl
theorem tb_76 : Tb 76 = some ir76 := rfl
theorem tb_72 : Tb 72 = some ir72 := rfl
theorem tb_79 : Tb 79 = some ir79 := rfl
theorem tb_74 : Tb 74 = some ir74 := rfl
theorem tb_16 : Tb 16 = some ir16 := rfl
end Go.Vm
