/- The code of the functions that the law reaches, as data. -/
import Derived.Test.YtplnbpiaacohnaaVmF
set_option maxHeartbeats 4000000
set_option maxRecDepth 10000
set_option linter.unusedVariables false
set_option linter.unusedSimpArgs false
namespace Go.Vm
/- laws.eqIntS -/
def ir79 : FnIr := ⟨0, 2, 26, [(4, none)], [],
  (.seq (.region false [] [] [⟨(some 4), .assign (.c false [(.bool false)]), none, []⟩])
  (.seq (.seq (.region false [6, 7, 8, 9, 10] [6, 7, 8, 9] [⟨(some 6), .move (.t 0), none, []⟩,
    ⟨(some 7), .len false (.t 6), none, []⟩,
    ⟨(some 8), .move (.t 1), none, []⟩,
    ⟨(some 9), .len false (.t 8), none, []⟩,
    ⟨(some 10), .bin .neq (.t 7) (.t 9), none, []⟩])
  (.cond (.t 10)
  (.seq (.region false [] [] [⟨(some 4), .assign (.c false [(.bool false)]), none, []⟩])
  .ret)
  .skip))
  (.seq (.seq (.region false [] [] [⟨(some 5), .assign (.c false [(.int .i64 0)]), none, []⟩])
  (.block 0 (.loop (.seq (.seq (.region false [11, 12, 13, 14] [11, 12, 13] [⟨(some 11), .move (.t 5), none, []⟩,
    ⟨(some 12), .move (.t 0), none, []⟩,
    ⟨(some 13), .len false (.t 12), none, []⟩,
    ⟨(some 14), .bin .lss (.t 11) (.t 13), none, []⟩])
  (.cond (.t 14)
  .skip
  (.exit 0)))
  (.seq (.block 1 (.seq (.region true [17, 18, 19, 20, 21, 22, 23, 24, 25] [17, 18, 19, 20, 21, 22, 23, 24] [⟨(some 17), .move (.t 0), none, []⟩,
    ⟨(some 18), .move (.t 5), none, []⟩,
    ⟨(some 19), .iaddr 1 (.t 17) (.t 18), none, [0, 1]⟩,
    ⟨(some 20), .load false 1 (.t 19), none, [2, 0, 1]⟩,
    ⟨(some 21), .move (.t 1), none, []⟩,
    ⟨(some 22), .move (.t 5), none, []⟩,
    ⟨(some 23), .iaddr 1 (.t 21) (.t 22), none, [4, 5]⟩,
    ⟨(some 24), .load false 1 (.t 23), none, [6, 4, 5]⟩,
    ⟨(some 25), .bin .neq (.t 20) (.t 24), none, [3, 2, 0, 1, 7, 6, 4, 5]⟩])
  (.cond (.t 25)
  (.seq (.region false [] [] [⟨(some 4), .assign (.c false [(.bool false)]), none, []⟩])
  .ret)
  .skip)))
  (.region false [15, 16] [15, 16] [⟨(some 15), .move (.t 5), none, []⟩,
    ⟨(some 16), .bin .add (.t 15) (.c false [(.int .i64 1)]), none, []⟩,
    ⟨(some 5), .assign (.t 16), none, []⟩]))))))
  (.seq (.region false [] [] [⟨(some 4), .assign (.c false [(.bool true)]), none, []⟩])
  .ret))))⟩
/- laws.eqKnown -/
def ir242 : FnIr := ⟨0, 2, 21, [(4, none)], [],
  (.seq (.region false [2, 3, 23, 24] [] [⟨(some 2), .box (.t 0), none, []⟩,
    ⟨(some 3), .box (.t 1), none, []⟩,
    ⟨(some 4), .assign (.c false [(.bool false)]), none, []⟩])
  (.seq (.seq (.region false [5, 6, 7, 8, 9] [5, 6, 7, 8] [⟨(some 5), .faddr 0 (.t 2), none, []⟩,
    ⟨(some 6), .load false 1 (.t 5), none, []⟩,
    ⟨(some 7), .faddr 0 (.t 3), none, []⟩,
    ⟨(some 8), .load false 1 (.t 7), none, []⟩,
    ⟨(some 9), .bin .neq (.t 6) (.t 8), none, []⟩])
  (.cond (.t 9)
  (.seq (.region false [] [] [⟨(some 4), .assign (.c false [(.bool false)]), none, []⟩])
  .ret)
  .skip))
  (.seq (.seq (.region false [10, 11, 12, 13, 14, 15, 35] [10, 11, 12, 13, 14] [⟨(some 10), .faddr 1 (.t 2), none, []⟩,
    ⟨(some 11), .load false 1 (.t 10), none, []⟩,
    ⟨(some 12), .faddr 1 (.t 3), none, []⟩,
    ⟨(some 13), .load false 1 (.t 12), none, []⟩,
    ⟨(some 14), .call 79 [(.t 11), (.t 13)], none, []⟩,
    ⟨(some 15), .un .not (.t 14), none, []⟩])
  (.cond (.t 15)
  (.seq (.region false [] [] [⟨(some 4), .assign (.c false [(.bool false)]), none, []⟩])
  .ret)
  .skip))
  (.seq (.seq (.region false [16, 17, 18, 19, 20] [16, 17, 18, 19] [⟨(some 16), .faddr 2 (.t 2), none, []⟩,
    ⟨(some 17), .load false 1 (.t 16), none, []⟩,
    ⟨(some 18), .faddr 2 (.t 3), none, []⟩,
    ⟨(some 19), .load false 1 (.t 18), none, []⟩,
    ⟨(some 20), .bin .neq (.t 17) (.t 19), none, []⟩])
  (.cond (.t 20)
  (.seq (.region false [] [] [⟨(some 4), .assign (.c false [(.bool false)]), none, []⟩])
  .ret)
  .skip))
  (.seq (.region false [] [] [⟨(some 4), .assign (.c false [(.bool true)]), none, []⟩])
  .ret)))))⟩
/- laws.eqKnownS -/
def ir100 : FnIr := ⟨0, 2, 27, [(4, none)], [],
  (.seq (.region false [] [] [⟨(some 4), .assign (.c false [(.bool false)]), none, []⟩])
  (.seq (.seq (.region false [6, 7, 8, 9, 10] [6, 7, 8, 9] [⟨(some 6), .move (.t 0), none, []⟩,
    ⟨(some 7), .len false (.t 6), none, []⟩,
    ⟨(some 8), .move (.t 1), none, []⟩,
    ⟨(some 9), .len false (.t 8), none, []⟩,
    ⟨(some 10), .bin .neq (.t 7) (.t 9), none, []⟩])
  (.cond (.t 10)
  (.seq (.region false [] [] [⟨(some 4), .assign (.c false [(.bool false)]), none, []⟩])
  .ret)
  .skip))
  (.seq (.seq (.region false [] [] [⟨(some 5), .assign (.c false [(.int .i64 0)]), none, []⟩])
  (.block 0 (.loop (.seq (.seq (.region false [11, 12, 13, 14] [11, 12, 13] [⟨(some 11), .move (.t 5), none, []⟩,
    ⟨(some 12), .move (.t 0), none, []⟩,
    ⟨(some 13), .len false (.t 12), none, []⟩,
    ⟨(some 14), .bin .lss (.t 11) (.t 13), none, []⟩])
  (.cond (.t 14)
  .skip
  (.exit 0)))
  (.seq (.block 1 (.seq (.region true [17, 18, 19, 20, 21, 22, 23, 24, 25, 26, 52] [17, 18, 19, 20, 21, 22, 23, 24, 25] [⟨(some 17), .move (.t 0), none, []⟩,
    ⟨(some 18), .move (.t 5), none, []⟩,
    ⟨(some 19), .iaddr 3 (.t 17) (.t 18), none, [0, 1]⟩,
    ⟨(some 20), .load true 3 (.t 19), none, [2, 0, 1]⟩,
    ⟨(some 21), .move (.t 1), none, []⟩,
    ⟨(some 22), .move (.t 5), none, []⟩,
    ⟨(some 23), .iaddr 3 (.t 21) (.t 22), none, [4, 5]⟩,
    ⟨(some 24), .load true 3 (.t 23), none, [6, 4, 5]⟩,
    ⟨(some 25), .call 242 [(.t 20), (.t 24)], none, [3, 2, 0, 1, 7, 6, 4, 5]⟩,
    ⟨(some 26), .un .not (.t 25), none, [8, 3, 2, 0, 1, 7, 6, 4, 5]⟩])
  (.cond (.t 26)
  (.seq (.region false [] [] [⟨(some 4), .assign (.c false [(.bool false)]), none, []⟩])
  .ret)
  .skip)))
  (.region false [15, 16] [15, 16] [⟨(some 15), .move (.t 5), none, []⟩,
    ⟨(some 16), .bin .add (.t 15) (.c false [(.int .i64 1)]), none, []⟩,
    ⟨(some 5), .assign (.t 16), none, []⟩]))))))
  (.seq (.region false [] [] [⟨(some 4), .assign (.c false [(.bool true)]), none, []⟩])
  .ret))))⟩
/- laws.markIntS -/
def ir1080 : FnIr := ⟨0, 2, 19, [(4, none)], [.mrow, .val],
  (.seq (.region false [] [] [⟨(some 4), .assign (.c false [(.int .i64 0)]), none, []⟩])
  (.seq (.seq (.region false [] [] [⟨(some 5), .assign (.c false [(.int .i64 0)]), none, []⟩])
  (.block 0 (.loop (.seq (.seq (.region false [6, 7, 8, 9] [6, 7, 8] [⟨(some 6), .move (.t 5), none, []⟩,
    ⟨(some 7), .move (.t 0), none, []⟩,
    ⟨(some 8), .len false (.t 7), none, []⟩,
    ⟨(some 9), .bin .lss (.t 6) (.t 8), none, []⟩])
  (.cond (.t 9)
  .skip
  (.exit 0)))
  (.seq (.block 1 (.seq (.region false [12, 13, 14, 15] [12, 13, 14, 15] [⟨(some 12), .move (.t 0), none, []⟩,
    ⟨(some 13), .move (.t 5), none, []⟩,
    ⟨(some 14), .move (.t 1), none, []⟩,
    ⟨(some 15), .iaddr 1 (.t 12) (.t 13), none, []⟩,
    ⟨none, .rstore 1 (.t 15) (.t 14), none, []⟩])
  (.region false [16, 17] [16, 17] [⟨(some 16), .move (.t 1), none, []⟩,
    ⟨(some 17), .bin .add (.t 16) (.c false [(.int .i64 1)]), none, []⟩,
    ⟨(some 1), .assign (.t 17), none, []⟩])))
  (.region false [10, 11] [10, 11] [⟨(some 10), .move (.t 5), none, []⟩,
    ⟨(some 11), .bin .add (.t 10) (.c false [(.int .i64 1)]), none, []⟩,
    ⟨(some 5), .assign (.t 11), none, []⟩]))))))
  (.seq (.region false [18] [18] [⟨(some 18), .move (.t 1), none, []⟩,
    ⟨(some 4), .assign (.t 18), none, []⟩])
  .ret)))⟩
/- laws.markKnownS -/
def ir1124 : FnIr := ⟨0, 2, 34, [(4, none)], [.mrow, .val],
  (.seq (.region false [] [] [⟨(some 4), .assign (.c false [(.int .i64 0)]), none, []⟩])
  (.seq (.seq (.region false [] [] [⟨(some 5), .assign (.c false [(.int .i64 0)]), none, []⟩])
  (.block 0 (.loop (.seq (.seq (.region false [6, 7, 8, 9] [6, 7, 8] [⟨(some 6), .move (.t 5), none, []⟩,
    ⟨(some 7), .move (.t 0), none, []⟩,
    ⟨(some 8), .len false (.t 7), none, []⟩,
    ⟨(some 9), .bin .lss (.t 6) (.t 8), none, []⟩])
  (.cond (.t 9)
  .skip
  (.exit 0)))
  (.seq (.block 1 (.seq (.region false [12, 13, 14, 15, 16] [12, 13, 14, 15, 16] [⟨(some 12), .move (.t 0), none, []⟩,
    ⟨(some 13), .move (.t 5), none, []⟩,
    ⟨(some 14), .move (.t 1), none, []⟩,
    ⟨(some 15), .iaddr 3 (.t 12) (.t 13), none, []⟩,
    ⟨(some 16), .faddr 0 (.t 15), none, []⟩,
    ⟨none, .rstore 1 (.t 16) (.t 14), none, []⟩])
  (.seq (.region false [17, 18] [17, 18] [⟨(some 17), .move (.t 1), none, []⟩,
    ⟨(some 18), .bin .add (.t 17) (.c false [(.int .i64 1)]), none, []⟩,
    ⟨(some 1), .assign (.t 18), none, []⟩])
  (.seq (.region false [19, 20, 21, 22, 23, 24, 25, 59] [19, 20, 21, 22, 23, 24, 25] [⟨(some 19), .move (.t 0), none, []⟩,
    ⟨(some 20), .move (.t 5), none, []⟩,
    ⟨(some 21), .iaddr 3 (.t 19) (.t 20), none, []⟩,
    ⟨(some 22), .faddr 1 (.t 21), none, []⟩,
    ⟨(some 23), .load false 1 (.t 22), none, []⟩,
    ⟨(some 24), .move (.t 1), none, []⟩,
    ⟨(some 25), .call 1080 [(.t 23), (.t 24)], none, []⟩,
    ⟨(some 1), .assign (.t 25), none, []⟩])
  (.seq (.region false [26, 27, 28, 29, 30] [26, 27, 28, 29, 30] [⟨(some 26), .move (.t 0), none, []⟩,
    ⟨(some 27), .move (.t 5), none, []⟩,
    ⟨(some 28), .move (.t 1), none, []⟩,
    ⟨(some 29), .iaddr 3 (.t 26) (.t 27), none, []⟩,
    ⟨(some 30), .faddr 2 (.t 29), none, []⟩,
    ⟨none, .rstore 1 (.t 30) (.t 28), none, []⟩])
  (.region false [31, 32] [31, 32] [⟨(some 31), .move (.t 1), none, []⟩,
    ⟨(some 32), .bin .add (.t 31) (.c false [(.int .i64 1)]), none, []⟩,
    ⟨(some 1), .assign (.t 32), none, []⟩]))))))
  (.region false [10, 11] [10, 11] [⟨(some 10), .move (.t 5), none, []⟩,
    ⟨(some 11), .bin .add (.t 10) (.c false [(.int .i64 1)]), none, []⟩,
    ⟨(some 5), .assign (.t 11), none, []⟩]))))))
  (.seq (.region false [33] [33] [⟨(some 33), .move (.t 1), none, []⟩,
    ⟨(some 4), .assign (.t 33), none, []⟩])
  .ret)))⟩
/- spec.l1In -/
def ir230 : FnIr := ⟨0, 3, 15, [(6, none)], [],
  (.seq (.region false [] [] [⟨(some 6), .assign (.c false [(.bool false)]), none, []⟩])
  (.seq (.region false [7, 8, 9, 10, 11, 12, 13, 14] [7, 8, 9, 10, 11, 12, 13, 14] [⟨(some 7), .move (.t 0), none, []⟩,
    ⟨(some 8), .move (.t 1), none, []⟩,
    ⟨(some 9), .bin .geq (.t 7) (.t 8), none, []⟩,
    ⟨(some 10), .move (.t 9), none, []⟩,
    ⟨(some 11), .move (.t 0), (some (10, true)), []⟩,
    ⟨(some 12), .move (.t 2), (some (10, true)), []⟩,
    ⟨(some 13), .bin .leq (.t 11) (.t 12), (some (10, true)), []⟩,
    ⟨(some 14), .pick (.t 10) (.t 13) (.c false [(.bool false)]), none, []⟩,
    ⟨(some 6), .assign (.t 14), none, []⟩])
  .ret))⟩
/- spec.l23Fresh -/
def ir270 : FnIr := ⟨0, 2, 15, [(4, none)], [],
  (.seq (.region false [2, 17] [] [⟨(some 2), .box (.t 0), none, []⟩,
    ⟨(some 4), .assign (.c false [(.bool false)]), none, []⟩])
  (.seq (.region false [5, 6, 7, 8, 9, 10, 11, 12, 13, 14, 21, 28] [5, 6, 7, 8, 9, 10, 11, 12, 13, 14] [⟨(some 5), .move (.t 1), none, []⟩,
    ⟨(some 6), .call 230 [(.t 5), (.c false [(.int .i64 0)]), (.c false [(.int .i64 100000)])], none, []⟩,
    ⟨(some 7), .move (.t 6), none, []⟩,
    ⟨(some 8), .faddr 2 (.t 2), (some (7, true)), []⟩,
    ⟨(some 9), .load false 1 (.t 8), (some (7, true)), []⟩,
    ⟨(some 10), .move (.t 1), (some (7, true)), []⟩,
    ⟨(some 11), .bin .sub (.t 10) (.c false [(.int .i64 20)]), (some (7, true)), []⟩,
    ⟨(some 12), .move (.t 1), (some (7, true)), []⟩,
    ⟨(some 13), .call 230 [(.t 9), (.t 11), (.t 12)], (some (7, true)), []⟩,
    ⟨(some 14), .pick (.t 7) (.t 13) (.c false [(.bool false)]), none, []⟩,
    ⟨(some 4), .assign (.t 14), none, []⟩])
  .ret))⟩
/- spec.l23Copy -/
def ir274 : FnIr := ⟨0, 1, 12, [(2, (some (true, 3)))], [],
  (.seq (.region false [1, 2, 13, 14] [] [⟨(some 1), .box (.t 0), none, []⟩,
    ⟨(some 2), .alloc [(.int .i64 0), (.row () []), (.int .i64 0)], none, []⟩])
  (.seq (.region true [3, 4, 5, 6, 7, 8, 9, 10, 11] [3, 4, 5, 6, 7, 8, 9, 10, 11] [⟨(some 3), .faddr 0 (.t 1), none, []⟩,
    ⟨(some 4), .load false 1 (.t 3), none, [0]⟩,
    ⟨(some 5), .bslice [(.int .i64 0)] 0 [], none, []⟩,
    ⟨(some 6), .faddr 1 (.t 1), none, []⟩,
    ⟨(some 7), .load false 1 (.t 6), none, [3]⟩,
    ⟨(some 8), .append 1 (.t 5) (.t 7), none, [2, 4, 3]⟩,
    ⟨(some 9), .faddr 2 (.t 1), none, []⟩,
    ⟨(some 10), .load false 1 (.t 9), none, [6]⟩,
    ⟨(some 11), .build [(.int .i64 0), (.row () []), (.int .i64 0)] [(0, 1, (.t 4)), (1, 1, (.t 8)), (2, 1, (.t 10))], none, [1, 0, 5, 2, 4, 3, 7, 6]⟩,
    ⟨none, .store 3 (.t 2) (.t 11), none, [8, 1, 0, 5, 2, 4, 3, 7, 6]⟩])
  .ret))⟩
/- spec.ForgetOld -/
def ir132 : FnIr := ⟨0, 2, 29, [(4, none)], [],
  (.seq (.region false [] [] [⟨(some 4), .assign (.c false [(.row () [])]), none, []⟩])
  (.seq (.region false [7] [7] [⟨(some 7), .bslice [(.int .i64 0), (.row () []), (.int .i64 0)] 0 [], none, []⟩,
    ⟨(some 5), .assign (.t 7), none, []⟩])
  (.seq (.seq (.region false [] [] [⟨(some 6), .assign (.c false [(.int .i64 0)]), none, []⟩])
  (.block 0 (.loop (.seq (.seq (.region false [8, 9, 10, 11] [8, 9, 10] [⟨(some 8), .move (.t 6), none, []⟩,
    ⟨(some 9), .move (.t 0), none, []⟩,
    ⟨(some 10), .len false (.t 9), none, []⟩,
    ⟨(some 11), .bin .lss (.t 8) (.t 10), none, []⟩])
  (.cond (.t 11)
  .skip
  (.exit 0)))
  (.seq (.block 1 (.seq (.region false [14, 15, 16, 17, 18, 19, 48] [14, 15, 16, 17, 18] [⟨(some 14), .move (.t 0), none, []⟩,
    ⟨(some 15), .move (.t 6), none, []⟩,
    ⟨(some 16), .iaddr 3 (.t 14) (.t 15), none, []⟩,
    ⟨(some 17), .load true 3 (.t 16), none, []⟩,
    ⟨(some 18), .move (.t 1), none, []⟩,
    ⟨(some 19), .call 270 [(.t 17), (.t 18)], none, []⟩])
  (.cond (.t 19)
  (.region false [20, 21, 22, 23, 24, 25, 26, 27, 54] [20, 21, 22, 23, 24, 25, 26, 27] [⟨(some 20), .move (.t 5), none, []⟩,
    ⟨(some 21), .move (.t 0), none, []⟩,
    ⟨(some 22), .move (.t 6), none, []⟩,
    ⟨(some 23), .iaddr 3 (.t 21) (.t 22), none, []⟩,
    ⟨(some 24), .load true 3 (.t 23), none, []⟩,
    ⟨(some 25), .call 274 [(.t 24)], none, []⟩,
    ⟨(some 26), .bslice [(.int .i64 0), (.row () []), (.int .i64 0)] 1 [(0, (.t 25))], none, []⟩,
    ⟨(some 27), .append 3 (.t 20) (.t 26), none, []⟩,
    ⟨(some 5), .assign (.t 27), none, []⟩])
  .skip)))
  (.region false [12, 13] [12, 13] [⟨(some 12), .move (.t 6), none, []⟩,
    ⟨(some 13), .bin .add (.t 12) (.c false [(.int .i64 1)]), none, []⟩,
    ⟨(some 6), .assign (.t 13), none, []⟩]))))))
  (.seq (.region false [28] [28] [⟨(some 28), .move (.t 5), none, []⟩,
    ⟨(some 4), .assign (.t 28), none, []⟩])
  .ret))))⟩
/- spec.Recall -/
def ir122 : FnIr := ⟨0, 3, 37, [(6, none)], [],
  (.seq (.region false [] [] [⟨(some 6), .assign (.c false [(.row () [])]), none, []⟩])
  (.seq (.seq (.region false [] [] [⟨(some 7), .assign (.c false [(.int .i64 0)]), none, []⟩])
  (.block 0 (.loop (.seq (.seq (.region false [8, 9, 10, 11] [8, 9, 10] [⟨(some 8), .move (.t 7), none, []⟩,
    ⟨(some 9), .move (.t 0), none, []⟩,
    ⟨(some 10), .len false (.t 9), none, []⟩,
    ⟨(some 11), .bin .lss (.t 8) (.t 10), none, []⟩])
  (.cond (.t 11)
  .skip
  (.exit 0)))
  (.seq (.block 1 (.seq (.region false [14, 15, 16, 17, 18, 19, 20, 21, 22, 23, 24, 25, 26, 27, 28, 64] [14, 15, 16, 17, 18, 19, 20, 21, 22, 23, 24, 25, 26, 27] [⟨(some 14), .move (.t 0), none, []⟩,
    ⟨(some 15), .move (.t 7), none, []⟩,
    ⟨(some 16), .iaddr 3 (.t 14) (.t 15), none, []⟩,
    ⟨(some 17), .faddr 0 (.t 16), none, []⟩,
    ⟨(some 18), .load false 1 (.t 17), none, []⟩,
    ⟨(some 19), .move (.t 1), none, []⟩,
    ⟨(some 20), .bin .eql (.t 18) (.t 19), none, []⟩,
    ⟨(some 21), .move (.t 20), none, []⟩,
    ⟨(some 22), .move (.t 0), (some (21, true)), []⟩,
    ⟨(some 23), .move (.t 7), (some (21, true)), []⟩,
    ⟨(some 24), .iaddr 3 (.t 22) (.t 23), (some (21, true)), []⟩,
    ⟨(some 25), .load true 3 (.t 24), (some (21, true)), []⟩,
    ⟨(some 26), .move (.t 2), (some (21, true)), []⟩,
    ⟨(some 27), .call 270 [(.t 25), (.t 26)], (some (21, true)), []⟩,
    ⟨(some 28), .pick (.t 21) (.t 27) (.c false [(.bool false)]), none, []⟩])
  (.cond (.t 28)
  (.seq (.region false [29, 30, 31, 32, 33, 34, 35] [29, 30, 31, 32, 33, 34, 35] [⟨(some 29), .bslice [(.int .i64 0)] 0 [], none, []⟩,
    ⟨(some 30), .move (.t 0), none, []⟩,
    ⟨(some 31), .move (.t 7), none, []⟩,
    ⟨(some 32), .iaddr 3 (.t 30) (.t 31), none, []⟩,
    ⟨(some 33), .faddr 1 (.t 32), none, []⟩,
    ⟨(some 34), .load false 1 (.t 33), none, []⟩,
    ⟨(some 35), .append 1 (.t 29) (.t 34), none, []⟩,
    ⟨(some 6), .assign (.t 35), none, []⟩])
  .ret)
  .skip)))
  (.region false [12, 13] [12, 13] [⟨(some 12), .move (.t 7), none, []⟩,
    ⟨(some 13), .bin .add (.t 12) (.c false [(.int .i64 1)]), none, []⟩,
    ⟨(some 7), .assign (.t 13), none, []⟩]))))))
  (.seq (.region false [36] [36] [⟨(some 36), .bslice [(.int .i64 0)] 0 [], none, []⟩,
    ⟨(some 6), .assign (.t 36), none, []⟩])
  .ret)))⟩
/- impl.InRange -/
def ir232 : FnIr := ⟨0, 3, 15, [(6, none)], [],
  (.seq (.region false [] [] [⟨(some 6), .assign (.c false [(.bool false)]), none, []⟩])
  (.seq (.region false [7, 8, 9, 10, 11, 12, 13, 14] [7, 8, 9, 10, 11, 12, 13, 14] [⟨(some 7), .move (.t 1), none, []⟩,
    ⟨(some 8), .move (.t 0), none, []⟩,
    ⟨(some 9), .bin .leq (.t 7) (.t 8), none, []⟩,
    ⟨(some 10), .move (.t 9), none, []⟩,
    ⟨(some 11), .move (.t 0), (some (10, true)), []⟩,
    ⟨(some 12), .move (.t 2), (some (10, true)), []⟩,
    ⟨(some 13), .bin .leq (.t 11) (.t 12), (some (10, true)), []⟩,
    ⟨(some 14), .pick (.t 10) (.t 13) (.c false [(.bool false)]), none, []⟩,
    ⟨(some 6), .assign (.t 14), none, []⟩])
  .ret))⟩
/- impl.keptKnown -/
def ir275 : FnIr := ⟨0, 2, 32, [(4, none)], [],
  (.seq (.region false [] [] [⟨(some 4), .assign (.c false [(.row () [])]), none, []⟩])
  (.seq (.region false [8] [8] [⟨(some 8), .bslice [(.int .i64 0), (.row () []), (.int .i64 0)] 0 [], none, []⟩,
    ⟨(some 5), .assign (.t 8), none, []⟩])
  (.seq (.seq (.region false [9, 10, 11] [] [⟨(some 9), .move (.t 0), none, []⟩,
    ⟨(some 10), .len false (.t 9), none, []⟩,
    ⟨(some 11), .move (.c false [(.int .i64 0)]), none, []⟩])
  (.block 0 (.loop (.seq (.region false [12] [] [⟨(some 12), .bin .lss (.t 11) (.t 10), none, []⟩])
  (.seq (.cond (.t 12)
  .skip
  (.exit 0))
  (.seq (.block 1 (.seq (.region false [13, 14, 7, 39] [13, 14] [⟨(some 13), .iaddr 3 (.t 9) (.t 11), none, []⟩,
    ⟨(some 14), .load true 3 (.t 13), none, []⟩,
    ⟨(some 7), .alloc [(.int .i64 0), (.row () []), (.int .i64 0)], none, []⟩,
    ⟨none, .store 3 (.t 7) (.t 14), none, []⟩])
  (.seq (.region false [15, 16, 17, 49] [15, 16] [⟨(some 15), .move (.t 1), none, []⟩,
    ⟨(some 16), .load true 3 (.t 7), none, []⟩,
    ⟨(some 17), .callv (.t 15) [(.t 16)], none, []⟩])
  (.cond (.t 17)
  (.region true [18, 19, 20, 21, 22, 23, 24, 25, 26, 27, 28, 29] [18, 19, 20, 21, 22, 23, 24, 25, 26, 27, 28, 29] [⟨(some 18), .move (.t 5), none, []⟩,
    ⟨(some 19), .faddr 0 (.t 7), none, []⟩,
    ⟨(some 20), .load false 1 (.t 19), none, [1]⟩,
    ⟨(some 21), .bslice [(.int .i64 0)] 0 [], none, []⟩,
    ⟨(some 22), .faddr 1 (.t 7), none, []⟩,
    ⟨(some 23), .load false 1 (.t 22), none, [4]⟩,
    ⟨(some 24), .append 1 (.t 21) (.t 23), none, [3, 5, 4]⟩,
    ⟨(some 25), .faddr 2 (.t 7), none, []⟩,
    ⟨(some 26), .load false 1 (.t 25), none, [7]⟩,
    ⟨(some 27), .build [(.int .i64 0), (.row () []), (.int .i64 0)] [(0, 1, (.t 20)), (1, 1, (.t 24)), (2, 1, (.t 26))], none, [2, 1, 6, 3, 5, 4, 8, 7]⟩,
    ⟨(some 28), .bslice [(.int .i64 0), (.row () []), (.int .i64 0)] 1 [(0, (.t 27))], none, [9, 2, 1, 6, 3, 5, 4, 8, 7]⟩,
    ⟨(some 29), .append 3 (.t 18) (.t 28), none, [0, 10, 9, 2, 1, 6, 3, 5, 4, 8, 7]⟩,
    ⟨(some 5), .assign (.t 29), none, [11, 0, 10, 9, 2, 1, 6, 3, 5, 4, 8, 7]⟩])
  .skip))))
  (.region false [30] [30] [⟨(some 30), .bin .add (.t 11) (.c false [(.int .i64 1)]), none, []⟩,
    ⟨(some 11), .move (.t 30), none, []⟩])))))))
  (.seq (.region false [31] [31] [⟨(some 31), .move (.t 5), none, []⟩,
    ⟨(some 4), .assign (.t 31), none, []⟩])
  .ret))))⟩
/- impl.ForgetOld$1 -/
def ir276 : FnIr := ⟨0, 2, 10, [(3, none)], [],
  (.seq (.region false [2, 12] [] [⟨(some 2), .box (.t 0), none, []⟩,
    ⟨(some 3), .assign (.c false [(.bool false)]), none, []⟩])
  (.seq (.region false [4, 5, 6, 7, 8, 9, 19] [4, 5, 6, 7, 8, 9] [⟨(some 4), .faddr 2 (.t 2), none, []⟩,
    ⟨(some 5), .load false 1 (.t 4), none, []⟩,
    ⟨(some 6), .load false 1 (.t 1), none, []⟩,
    ⟨(some 7), .bin .sub (.t 6) (.c false [(.int .i64 20)]), none, []⟩,
    ⟨(some 8), .load false 1 (.t 1), none, []⟩,
    ⟨(some 9), .call 232 [(.t 5), (.t 7), (.t 8)], none, []⟩,
    ⟨(some 3), .assign (.t 9), none, []⟩])
  .ret))⟩
/- impl.ForgetOld -/
def ir133 : FnIr := ⟨0, 2, 11, [(4, none)], [],
  (.seq (.region false [3, 14] [] [⟨(some 3), .box (.t 1), none, []⟩,
    ⟨(some 4), .assign (.c false [(.row () [])]), none, []⟩])
  (.seq (.seq (.region false [5, 6, 7, 17] [5, 6] [⟨(some 5), .load false 1 (.t 3), none, []⟩,
    ⟨(some 6), .call 232 [(.t 5), (.c false [(.int .i64 0)]), (.c false [(.int .i64 100000)])], none, []⟩,
    ⟨(some 7), .un .not (.t 6), none, []⟩])
  (.cond (.t 7)
  (.seq (.region false [] [] [⟨(some 4), .assign (.c false [(.row () [])]), none, []⟩])
  .ret)
  .skip))
  (.seq (.region false [8, 9, 10, 21] [8, 9, 10] [⟨(some 8), .move (.t 0), none, []⟩,
    ⟨(some 9), .mkfn 276 [3], none, []⟩,
    ⟨(some 10), .call 275 [(.t 8), (.t 9)], none, []⟩,
    ⟨(some 4), .assign (.t 10), none, []⟩])
  .ret)))⟩
/- impl.Recall -/
def ir123 : FnIr := ⟨0, 3, 24, [(6, none)], [],
  (.seq (.region false [] [] [⟨(some 6), .assign (.c false [(.row () [])]), none, []⟩])
  (.seq (.seq (.region false [9, 10, 11, 12, 13, 35] [9, 10] [⟨(some 9), .move (.t 0), none, []⟩,
    ⟨(some 10), .move (.t 2), none, []⟩,
    ⟨(some 11), .call 133 [(.t 9), (.t 10)], none, []⟩,
    ⟨(some 12), .len false (.t 11), none, []⟩,
    ⟨(some 13), .move (.c false [(.int .i64 0)]), none, []⟩])
  (.block 0 (.loop (.seq (.region false [14] [] [⟨(some 14), .bin .lss (.t 13) (.t 12), none, []⟩])
  (.seq (.cond (.t 14)
  .skip
  (.exit 0))
  (.seq (.block 1 (.seq (.region false [15, 16, 8, 32] [15, 16] [⟨(some 15), .iaddr 3 (.t 11) (.t 13), none, []⟩,
    ⟨(some 16), .load true 3 (.t 15), none, []⟩,
    ⟨(some 8), .alloc [(.int .i64 0), (.row () []), (.int .i64 0)], none, []⟩,
    ⟨none, .store 3 (.t 8) (.t 16), none, []⟩])
  (.seq (.region false [17, 18, 19, 20] [17, 18, 19] [⟨(some 17), .faddr 0 (.t 8), none, []⟩,
    ⟨(some 18), .load false 1 (.t 17), none, []⟩,
    ⟨(some 19), .move (.t 1), none, []⟩,
    ⟨(some 20), .bin .eql (.t 18) (.t 19), none, []⟩])
  (.cond (.t 20)
  (.seq (.region false [21, 22] [21, 22] [⟨(some 21), .faddr 1 (.t 8), none, []⟩,
    ⟨(some 22), .load false 1 (.t 21), none, []⟩,
    ⟨(some 6), .assign (.t 22), none, []⟩])
  .ret)
  .skip))))
  (.region false [23] [23] [⟨(some 23), .bin .add (.t 13) (.c false [(.int .i64 1)]), none, []⟩,
    ⟨(some 13), .move (.t 23), none, []⟩])))))))
  (.seq (.region false [] [] [⟨(some 6), .assign (.c false [(.row () [])]), none, []⟩])
  .ret)))⟩
/- laws.heldIntS -/
def ir125 : FnIr := ⟨0, 2, 21, [(4, none)], [],
  (.seq (.region false [] [] [⟨(some 4), .assign (.c false [(.int .i64 0)]), none, []⟩])
  (.seq (.seq (.region false [] [] [⟨(some 5), .assign (.c false [(.int .i64 0)]), none, []⟩])
  (.block 0 (.loop (.seq (.seq (.region false [6, 7, 8, 9] [6, 7, 8] [⟨(some 6), .move (.t 5), none, []⟩,
    ⟨(some 7), .move (.t 0), none, []⟩,
    ⟨(some 8), .len false (.t 7), none, []⟩,
    ⟨(some 9), .bin .lss (.t 6) (.t 8), none, []⟩])
  (.cond (.t 9)
  .skip
  (.exit 0)))
  (.seq (.block 1 (.seq (.seq (.region false [12, 13, 14, 15, 16, 17] [12, 13, 14, 15, 16] [⟨(some 12), .move (.t 0), none, []⟩,
    ⟨(some 13), .move (.t 5), none, []⟩,
    ⟨(some 14), .iaddr 1 (.t 12) (.t 13), none, []⟩,
    ⟨(some 15), .load false 1 (.t 14), none, []⟩,
    ⟨(some 16), .move (.t 1), none, []⟩,
    ⟨(some 17), .bin .neq (.t 15) (.t 16), none, []⟩])
  (.cond (.t 17)
  (.seq (.region false [] [] [⟨(some 4), .assign (.c false [(.int .i64 (-1))]), none, []⟩])
  .ret)
  .skip))
  (.region false [18, 19] [18, 19] [⟨(some 18), .move (.t 1), none, []⟩,
    ⟨(some 19), .bin .add (.t 18) (.c false [(.int .i64 1)]), none, []⟩,
    ⟨(some 1), .assign (.t 19), none, []⟩])))
  (.region false [10, 11] [10, 11] [⟨(some 10), .move (.t 5), none, []⟩,
    ⟨(some 11), .bin .add (.t 10) (.c false [(.int .i64 1)]), none, []⟩,
    ⟨(some 5), .assign (.t 11), none, []⟩]))))))
  (.seq (.region false [20] [20] [⟨(some 20), .move (.t 1), none, []⟩,
    ⟨(some 4), .assign (.t 20), none, []⟩])
  .ret)))⟩
/- laws.szIntS -/
def ir227 : FnIr := ⟨0, 2, 12, [(4, none)], [],
  (.seq (.region false [] [] [⟨(some 4), .assign (.c false [(.int .i64 0)]), none, []⟩])
  (.seq (.region false [5, 6, 7, 8] [5, 6, 7, 8] [⟨(some 5), .move (.t 1), none, []⟩,
    ⟨(some 6), .move (.t 0), none, []⟩,
    ⟨(some 7), .len false (.t 6), none, []⟩,
    ⟨(some 8), .bin .sub (.t 5) (.t 7), none, []⟩,
    ⟨(some 1), .assign (.t 8), none, []⟩])
  (.seq (.seq (.region false [9, 10] [9] [⟨(some 9), .move (.t 1), none, []⟩,
    ⟨(some 10), .bin .lss (.t 9) (.c false [(.int .i64 0)]), none, []⟩])
  (.cond (.t 10)
  (.seq (.region false [] [] [⟨(some 4), .assign (.c false [(.int .i64 (-1))]), none, []⟩])
  .ret)
  .skip))
  (.seq (.region false [11] [11] [⟨(some 11), .move (.t 1), none, []⟩,
    ⟨(some 4), .assign (.t 11), none, []⟩])
  .ret))))⟩
/- laws.szKnown -/
def ir238 : FnIr := ⟨0, 2, 12, [(4, none)], [],
  (.seq (.region false [2, 14] [] [⟨(some 2), .box (.t 0), none, []⟩,
    ⟨(some 4), .assign (.c false [(.int .i64 0)]), none, []⟩])
  (.seq (.region false [5, 6, 7, 8, 20] [5, 6, 7, 8] [⟨(some 5), .faddr 1 (.t 2), none, []⟩,
    ⟨(some 6), .load false 1 (.t 5), none, []⟩,
    ⟨(some 7), .move (.t 1), none, []⟩,
    ⟨(some 8), .call 227 [(.t 6), (.t 7)], none, []⟩,
    ⟨(some 1), .assign (.t 8), none, []⟩])
  (.seq (.seq (.region false [9, 10] [9] [⟨(some 9), .move (.t 1), none, []⟩,
    ⟨(some 10), .bin .lss (.t 9) (.c false [(.int .i64 0)]), none, []⟩])
  (.cond (.t 10)
  (.seq (.region false [] [] [⟨(some 4), .assign (.c false [(.int .i64 (-1))]), none, []⟩])
  .ret)
  .skip))
  (.seq (.region false [11] [11] [⟨(some 11), .move (.t 1), none, []⟩,
    ⟨(some 4), .assign (.t 11), none, []⟩])
  .ret))))⟩
/- laws.szKnownS -/
def ir96 : FnIr := ⟨0, 2, 27, [(4, none)], [],
  (.seq (.region false [] [] [⟨(some 4), .assign (.c false [(.int .i64 0)]), none, []⟩])
  (.seq (.region false [6, 7, 8, 9] [6, 7, 8, 9] [⟨(some 6), .move (.t 1), none, []⟩,
    ⟨(some 7), .move (.t 0), none, []⟩,
    ⟨(some 8), .len false (.t 7), none, []⟩,
    ⟨(some 9), .bin .sub (.t 6) (.t 8), none, []⟩,
    ⟨(some 1), .assign (.t 9), none, []⟩])
  (.seq (.seq (.region false [10, 11] [10] [⟨(some 10), .move (.t 1), none, []⟩,
    ⟨(some 11), .bin .lss (.t 10) (.c false [(.int .i64 0)]), none, []⟩])
  (.cond (.t 11)
  (.seq (.region false [] [] [⟨(some 4), .assign (.c false [(.int .i64 (-1))]), none, []⟩])
  .ret)
  .skip))
  (.seq (.seq (.region false [] [] [⟨(some 5), .assign (.c false [(.int .i64 0)]), none, []⟩])
  (.block 0 (.loop (.seq (.seq (.region false [12, 13, 14, 15] [12, 13, 14] [⟨(some 12), .move (.t 5), none, []⟩,
    ⟨(some 13), .move (.t 0), none, []⟩,
    ⟨(some 14), .len false (.t 13), none, []⟩,
    ⟨(some 15), .bin .lss (.t 12) (.t 14), none, []⟩])
  (.cond (.t 15)
  .skip
  (.exit 0)))
  (.seq (.block 1 (.seq (.region false [18, 19, 20, 21, 22, 23, 50] [18, 19, 20, 21, 22, 23] [⟨(some 18), .move (.t 0), none, []⟩,
    ⟨(some 19), .move (.t 5), none, []⟩,
    ⟨(some 20), .iaddr 3 (.t 18) (.t 19), none, []⟩,
    ⟨(some 21), .load true 3 (.t 20), none, []⟩,
    ⟨(some 22), .move (.t 1), none, []⟩,
    ⟨(some 23), .call 238 [(.t 21), (.t 22)], none, []⟩,
    ⟨(some 1), .assign (.t 23), none, []⟩])
  (.seq (.region false [24, 25] [24] [⟨(some 24), .move (.t 1), none, []⟩,
    ⟨(some 25), .bin .lss (.t 24) (.c false [(.int .i64 0)]), none, []⟩])
  (.cond (.t 25)
  (.seq (.region false [] [] [⟨(some 4), .assign (.c false [(.int .i64 (-1))]), none, []⟩])
  .ret)
  .skip))))
  (.region false [16, 17] [16, 17] [⟨(some 16), .move (.t 5), none, []⟩,
    ⟨(some 17), .bin .add (.t 16) (.c false [(.int .i64 1)]), none, []⟩,
    ⟨(some 5), .assign (.t 17), none, []⟩]))))))
  (.seq (.region false [26] [26] [⟨(some 26), .move (.t 1), none, []⟩,
    ⟨(some 4), .assign (.t 26), none, []⟩])
  .ret)))))⟩
/- laws.toIntS -/
def ir76 : FnIr := ⟨0, 1, 22, [(2, none)], [],
  (.seq (.region false [] [] [⟨(some 2), .assign (.c false [(.row () [])]), none, []⟩])
  (.seq (.region false [5, 6, 7] [5, 6, 7] [⟨(some 5), .move (.t 0), none, []⟩,
    ⟨(some 6), .len false (.t 5), none, []⟩,
    ⟨(some 7), .mkslice [(.int .i64 0)] (.t 6) (.t 6), none, []⟩,
    ⟨(some 3), .assign (.t 7), none, []⟩])
  (.seq (.seq (.region false [] [] [⟨(some 4), .assign (.c false [(.int .i64 0)]), none, []⟩])
  (.block 0 (.loop (.seq (.seq (.region false [8, 9, 10, 11] [8, 9, 10] [⟨(some 8), .move (.t 4), none, []⟩,
    ⟨(some 9), .move (.t 0), none, []⟩,
    ⟨(some 10), .len false (.t 9), none, []⟩,
    ⟨(some 11), .bin .lss (.t 8) (.t 10), none, []⟩])
  (.cond (.t 11)
  .skip
  (.exit 0)))
  (.seq (.block 1 (.region false [14, 15, 16, 17, 18, 19, 20] [14, 15, 16, 17, 18, 19, 20] [⟨(some 14), .move (.t 3), none, []⟩,
    ⟨(some 15), .move (.t 4), none, []⟩,
    ⟨(some 16), .move (.t 0), none, []⟩,
    ⟨(some 17), .move (.t 4), none, []⟩,
    ⟨(some 18), .iaddr 1 (.t 16) (.t 17), none, []⟩,
    ⟨(some 19), .load false 1 (.t 18), none, []⟩,
    ⟨(some 20), .iaddr 1 (.t 14) (.t 15), none, []⟩,
    ⟨none, .rstore 1 (.t 20) (.t 19), none, []⟩]))
  (.region false [12, 13] [12, 13] [⟨(some 12), .move (.t 4), none, []⟩,
    ⟨(some 13), .bin .add (.t 12) (.c false [(.int .i64 1)]), none, []⟩,
    ⟨(some 4), .assign (.t 13), none, []⟩]))))))
  (.seq (.region false [21] [21] [⟨(some 21), .move (.t 3), none, []⟩,
    ⟨(some 2), .assign (.t 21), none, []⟩])
  .ret))))⟩
/- laws.toKnown -/
def ir239 : FnIr := ⟨0, 1, 15, [(2, (some (true, 3)))], [],
  (.seq (.region false [1, 2, 16, 17] [] [⟨(some 1), .box (.t 0), none, []⟩,
    ⟨(some 2), .alloc [(.int .i64 0), (.row () []), (.int .i64 0)], none, []⟩])
  (.seq (.region false [3, 18] [] [⟨(some 3), .alloc [(.int .i64 0), (.row () []), (.int .i64 0)], none, []⟩])
  (.seq (.region false [4, 5, 6] [4, 5, 6] [⟨(some 4), .faddr 0 (.t 1), none, []⟩,
    ⟨(some 5), .load false 1 (.t 4), none, []⟩,
    ⟨(some 6), .faddr 0 (.t 3), none, []⟩,
    ⟨none, .store 1 (.t 6) (.t 5), none, []⟩])
  (.seq (.region false [7, 8, 9, 10, 24] [7, 8, 9, 10] [⟨(some 7), .faddr 1 (.t 1), none, []⟩,
    ⟨(some 8), .load false 1 (.t 7), none, []⟩,
    ⟨(some 9), .call 76 [(.t 8)], none, []⟩,
    ⟨(some 10), .faddr 1 (.t 3), none, []⟩,
    ⟨none, .store 1 (.t 10) (.t 9), none, []⟩])
  (.seq (.region false [11, 12, 13] [11, 12, 13] [⟨(some 11), .faddr 2 (.t 1), none, []⟩,
    ⟨(some 12), .load false 1 (.t 11), none, []⟩,
    ⟨(some 13), .faddr 2 (.t 3), none, []⟩,
    ⟨none, .store 1 (.t 13) (.t 12), none, []⟩])
  (.seq (.region false [14] [14] [⟨(some 14), .load true 3 (.t 3), none, []⟩,
    ⟨none, .store 3 (.t 2) (.t 14), none, []⟩])
  .ret))))))⟩
/- laws.toKnownS -/
def ir98 : FnIr := ⟨0, 1, 23, [(2, none)], [],
  (.seq (.region false [] [] [⟨(some 2), .assign (.c false [(.row () [])]), none, []⟩])
  (.seq (.region false [5, 6, 7] [5, 6, 7] [⟨(some 5), .move (.t 0), none, []⟩,
    ⟨(some 6), .len false (.t 5), none, []⟩,
    ⟨(some 7), .mkslice [(.int .i64 0), (.row () []), (.int .i64 0)] (.t 6) (.t 6), none, []⟩,
    ⟨(some 3), .assign (.t 7), none, []⟩])
  (.seq (.seq (.region false [] [] [⟨(some 4), .assign (.c false [(.int .i64 0)]), none, []⟩])
  (.block 0 (.loop (.seq (.seq (.region false [8, 9, 10, 11] [8, 9, 10] [⟨(some 8), .move (.t 4), none, []⟩,
    ⟨(some 9), .move (.t 0), none, []⟩,
    ⟨(some 10), .len false (.t 9), none, []⟩,
    ⟨(some 11), .bin .lss (.t 8) (.t 10), none, []⟩])
  (.cond (.t 11)
  .skip
  (.exit 0)))
  (.seq (.block 1 (.region false [14, 15, 16, 17, 18, 19, 20, 21, 43] [14, 15, 16, 17, 18, 19, 20, 21] [⟨(some 14), .move (.t 3), none, []⟩,
    ⟨(some 15), .move (.t 4), none, []⟩,
    ⟨(some 16), .move (.t 0), none, []⟩,
    ⟨(some 17), .move (.t 4), none, []⟩,
    ⟨(some 18), .iaddr 3 (.t 16) (.t 17), none, []⟩,
    ⟨(some 19), .load true 3 (.t 18), none, []⟩,
    ⟨(some 20), .call 239 [(.t 19)], none, []⟩,
    ⟨(some 21), .iaddr 3 (.t 14) (.t 15), none, []⟩,
    ⟨none, .rstore 3 (.t 21) (.t 20), none, []⟩]))
  (.region false [12, 13] [12, 13] [⟨(some 12), .move (.t 4), none, []⟩,
    ⟨(some 13), .bin .add (.t 12) (.c false [(.int .i64 1)]), none, []⟩,
    ⟨(some 4), .assign (.t 13), none, []⟩]))))))
  (.seq (.region false [22] [22] [⟨(some 22), .move (.t 3), none, []⟩,
    ⟨(some 2), .assign (.t 22), none, []⟩])
  .ret))))⟩
/- laws.FnExactRecall -/
def ir17 : FnIr := ⟨0, 3, 79, [(6, none)], [],
  (.seq (.region false [] [] [⟨(some 6), .assign (.c false [(.bool false)]), none, []⟩])
  (.seq (.region false [] [] [⟨(some 7), .assign (.c false [(.int .i64 1048576)]), none, []⟩])
  (.seq (.region false [15, 16, 17, 96] [15, 16, 17] [⟨(some 15), .move (.t 0), none, []⟩,
    ⟨(some 16), .move (.t 7), none, []⟩,
    ⟨(some 17), .call 96 [(.t 15), (.t 16)], none, []⟩,
    ⟨(some 7), .assign (.t 17), none, []⟩])
  (.seq (.seq (.region false [18, 19] [18] [⟨(some 18), .move (.t 7), none, []⟩,
    ⟨(some 19), .bin .lss (.t 18) (.c false [(.int .i64 0)]), none, []⟩])
  (.cond (.t 19)
  (.seq (.region false [] [] [⟨(some 6), .assign (.c false [(.bool true)]), none, []⟩])
  .ret)
  .skip))
  (.seq (.region false [20, 21, 22, 23, 24, 100, 103] [20, 21, 22, 23, 24] [⟨(some 20), .move (.t 0), none, []⟩,
    ⟨(some 21), .call 98 [(.t 20)], none, []⟩,
    ⟨(some 22), .move (.t 1), none, []⟩,
    ⟨(some 23), .move (.t 2), none, []⟩,
    ⟨(some 24), .call 122 [(.t 21), (.t 22), (.t 23)], none, []⟩,
    ⟨(some 8), .assign (.t 24), none, []⟩])
  (.seq (.region false [25, 26, 105] [25, 26] [⟨(some 25), .move (.t 0), none, []⟩,
    ⟨(some 26), .call 98 [(.t 25)], none, []⟩,
    ⟨(some 9), .assign (.t 26), none, []⟩])
  (.seq (.region false [27, 28, 29, 30, 109] [27, 28, 29, 30] [⟨(some 27), .move (.t 9), none, []⟩,
    ⟨(some 28), .move (.t 1), none, []⟩,
    ⟨(some 29), .move (.t 2), none, []⟩,
    ⟨(some 30), .call 123 [(.t 27), (.t 28), (.t 29)], none, []⟩,
    ⟨(some 10), .assign (.t 30), none, []⟩])
  (.seq (.seq (.region false [31, 32, 33, 34, 112] [31, 32, 33] [⟨(some 31), .move (.t 10), none, []⟩,
    ⟨(some 32), .move (.t 8), none, []⟩,
    ⟨(some 33), .call 79 [(.t 31), (.t 32)], none, []⟩,
    ⟨(some 34), .un .not (.t 33), none, []⟩])
  (.cond (.t 34)
  (.seq (.region false [] [] [⟨(some 6), .assign (.c false [(.bool false)]), none, []⟩])
  .ret)
  .skip))
  (.seq (.seq (.region false [35, 36, 37, 38, 39, 116, 117] [35, 36, 37, 38] [⟨(some 35), .move (.t 9), none, []⟩,
    ⟨(some 36), .move (.t 0), none, []⟩,
    ⟨(some 37), .call 98 [(.t 36)], none, []⟩,
    ⟨(some 38), .call 100 [(.t 35), (.t 37)], none, []⟩,
    ⟨(some 39), .un .not (.t 38), none, []⟩])
  (.cond (.t 39)
  (.seq (.region false [] [] [⟨(some 6), .assign (.c false [(.bool false)]), none, []⟩])
  .ret)
  .skip))
  (.seq (.region false [] [] [⟨(some 11), .assign (.c false [(.int .i64 1)]), none, []⟩])
  (.seq (.region false [40, 41, 42, 121] [40, 41, 42] [⟨(some 40), .move (.t 9), none, []⟩,
    ⟨(some 41), .move (.t 11), none, []⟩,
    ⟨(some 42), .call 1124 [(.t 40), (.t 41)], none, []⟩,
    ⟨(some 11), .assign (.t 42), none, []⟩])
  (.seq (.seq (.region false [43, 44, 45, 46, 47, 48, 49, 50, 127] [43, 44, 45, 46, 47, 48, 49] [⟨(some 43), .move (.t 11), none, []⟩,
    ⟨(some 44), .bin .lss (.t 43) (.c false [(.int .i64 0)]), none, []⟩,
    ⟨(some 45), .move (.t 44), none, []⟩,
    ⟨(some 46), .move (.t 10), (some (45, false)), []⟩,
    ⟨(some 47), .move (.t 8), (some (45, false)), []⟩,
    ⟨(some 48), .call 79 [(.t 46), (.t 47)], (some (45, false)), []⟩,
    ⟨(some 49), .un .not (.t 48), (some (45, false)), []⟩,
    ⟨(some 50), .pick (.t 45) (.c false [(.bool true)]) (.t 49), none, []⟩])
  (.cond (.t 50)
  (.seq (.region false [] [] [⟨(some 6), .assign (.c false [(.bool false)]), none, []⟩])
  .ret)
  .skip))
  (.seq (.region false [] [] [⟨(some 12), .assign (.c false [(.int .i64 1)]), none, []⟩])
  (.seq (.region false [51, 52, 53, 132] [51, 52, 53] [⟨(some 51), .move (.t 10), none, []⟩,
    ⟨(some 52), .move (.t 12), none, []⟩,
    ⟨(some 53), .call 1080 [(.t 51), (.t 52)], none, []⟩,
    ⟨(some 12), .assign (.t 53), none, []⟩])
  (.seq (.region false [] [] [⟨(some 13), .assign (.c false [(.int .i64 1)]), none, []⟩])
  (.seq (.region false [54, 55, 56, 135] [54, 55, 56] [⟨(some 54), .move (.t 10), none, []⟩,
    ⟨(some 55), .move (.t 13), none, []⟩,
    ⟨(some 56), .call 125 [(.t 54), (.t 55)], none, []⟩,
    ⟨(some 13), .assign (.t 56), none, []⟩])
  (.seq (.seq (.region false [57, 58] [57] [⟨(some 57), .move (.t 13), none, []⟩,
    ⟨(some 58), .bin .lss (.t 57) (.c false [(.int .i64 0)]), none, []⟩])
  (.cond (.t 58)
  (.seq (.region false [] [] [⟨(some 6), .assign (.c false [(.bool false)]), none, []⟩])
  .ret)
  .skip))
  (.seq (.seq (.region false [59, 60, 61] [59, 60] [⟨(some 59), .move (.t 13), none, []⟩,
    ⟨(some 60), .move (.t 12), none, []⟩,
    ⟨(some 61), .bin .neq (.t 59) (.t 60), none, []⟩])
  (.cond (.t 61)
  (.seq (.region false [] [] [⟨(some 6), .assign (.c false [(.bool false)]), none, []⟩])
  .ret)
  .skip))
  (.seq (.region false [62, 63, 64, 65, 66, 142, 145] [62, 63, 64, 65, 66] [⟨(some 62), .move (.t 0), none, []⟩,
    ⟨(some 63), .call 98 [(.t 62)], none, []⟩,
    ⟨(some 64), .move (.t 1), none, []⟩,
    ⟨(some 65), .move (.t 2), none, []⟩,
    ⟨(some 66), .call 123 [(.t 63), (.t 64), (.t 65)], none, []⟩,
    ⟨(some 14), .assign (.t 66), none, []⟩])
  (.seq (.seq (.region false [67, 68, 69, 70, 148] [67, 68, 69] [⟨(some 67), .move (.t 14), none, []⟩,
    ⟨(some 68), .move (.t 8), none, []⟩,
    ⟨(some 69), .call 79 [(.t 67), (.t 68)], none, []⟩,
    ⟨(some 70), .un .not (.t 69), none, []⟩])
  (.cond (.t 70)
  (.seq (.region false [] [] [⟨(some 6), .assign (.c false [(.bool false)]), none, []⟩])
  .ret)
  .skip))
  (.seq (.region false [] [] [⟨(some 13), .assign (.c false [(.int .i64 1)]), none, []⟩])
  (.seq (.region false [71, 72, 73, 152] [71, 72, 73] [⟨(some 71), .move (.t 10), none, []⟩,
    ⟨(some 72), .move (.t 13), none, []⟩,
    ⟨(some 73), .call 125 [(.t 71), (.t 72)], none, []⟩,
    ⟨(some 13), .assign (.t 73), none, []⟩])
  (.seq (.seq (.region false [74, 75] [74] [⟨(some 74), .move (.t 13), none, []⟩,
    ⟨(some 75), .bin .lss (.t 74) (.c false [(.int .i64 0)]), none, []⟩])
  (.cond (.t 75)
  (.seq (.region false [] [] [⟨(some 6), .assign (.c false [(.bool false)]), none, []⟩])
  .ret)
  .skip))
  (.seq (.seq (.region false [76, 77, 78] [76, 77] [⟨(some 76), .move (.t 13), none, []⟩,
    ⟨(some 77), .move (.t 12), none, []⟩,
    ⟨(some 78), .bin .neq (.t 76) (.t 77), none, []⟩])
  (.cond (.t 78)
  (.seq (.region false [] [] [⟨(some 6), .assign (.c false [(.bool false)]), none, []⟩])
  .ret)
  .skip))
  (.seq (.region false [] [] [⟨(some 6), .assign (.c false [(.bool true)]), none, []⟩])
  .ret)))))))))))))))))))))))))⟩
def tbl : List (Nat × FnIr) := [(79, ir79), (242, ir242), (100, ir100), (1080, ir1080), (1124, ir1124), (230, ir230), (270, ir270), (274, ir274), (132, ir132), (122, ir122), (232, ir232), (275, ir275), (276, ir276), (133, ir133), (123, ir123), (125, ir125), (227, ir227), (238, ir238), (96, ir96), (76, ir76), (239, ir239), (98, ir98), (17, ir17)]
def Tb (g : Nat) : Option FnIr := tbl.lookup g
theorem tb_79 : Tb 79 = some ir79 := rfl
theorem tb_242 : Tb 242 = some ir242 := rfl
theorem tb_100 : Tb 100 = some ir100 := rfl
theorem tb_1080 : Tb 1080 = some ir1080 := rfl
theorem tb_1124 : Tb 1124 = some ir1124 := rfl
theorem tb_230 : Tb 230 = some ir230 := rfl
theorem tb_270 : Tb 270 = some ir270 := rfl
theorem tb_274 : Tb 274 = some ir274 := rfl
theorem tb_132 : Tb 132 = some ir132 := rfl
theorem tb_122 : Tb 122 = some ir122 := rfl
theorem tb_232 : Tb 232 = some ir232 := rfl
theorem tb_275 : Tb 275 = some ir275 := rfl
theorem tb_276 : Tb 276 = some ir276 := rfl
theorem tb_133 : Tb 133 = some ir133 := rfl
theorem tb_123 : Tb 123 = some ir123 := rfl
theorem tb_125 : Tb 125 = some ir125 := rfl
theorem tb_227 : Tb 227 = some ir227 := rfl
theorem tb_238 : Tb 238 = some ir238 := rfl
theorem tb_96 : Tb 96 = some ir96 := rfl
theorem tb_76 : Tb 76 = some ir76 := rfl
theorem tb_239 : Tb 239 = some ir239 := rfl
theorem tb_98 : Tb 98 = some ir98 := rfl
theorem tb_17 : Tb 17 = some ir17 := rfl
end Go.Vm
