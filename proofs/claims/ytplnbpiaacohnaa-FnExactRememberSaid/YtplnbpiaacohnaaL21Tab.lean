/- The code of the functions that the law reaches, as data. -/
import Derived.Test.YtplnbpiaacohnaaVmF
set_option maxHeartbeats 4000000
set_option maxRecDepth 10000
set_option linter.unusedVariables false
set_option linter.unusedSimpArgs false
namespace Go.Vm
/- laws.eqIntS -/
def ir79 : FnIr := ⟨0, 2, 26, [(4, none)], [],
  (.seq (.region false [] [] [⟨(some 4), .assign (.c false [(.bool false)]), none, []⟩])
  (.seq (.seq (.region false [6, 7, 8, 9, 10] [6, 7, 8, 9] [⟨(some 6), .move (.t 0), none, []⟩,
    ⟨(some 7), .len false (.t 6), none, []⟩,
    ⟨(some 8), .move (.t 1), none, []⟩,
    ⟨(some 9), .len false (.t 8), none, []⟩,
    ⟨(some 10), .bin .neq (.t 7) (.t 9), none, []⟩])
  (.cond (.t 10)
  (.seq (.region false [] [] [⟨(some 4), .assign (.c false [(.bool false)]), none, []⟩])
  .ret)
  .skip))
  (.seq (.seq (.region false [] [] [⟨(some 5), .assign (.c false [(.int .i64 0)]), none, []⟩])
  (.block 0 (.loop (.seq (.seq (.region false [11, 12, 13, 14] [11, 12, 13] [⟨(some 11), .move (.t 5), none, []⟩,
    ⟨(some 12), .move (.t 0), none, []⟩,
    ⟨(some 13), .len false (.t 12), none, []⟩,
    ⟨(some 14), .bin .lss (.t 11) (.t 13), none, []⟩])
  (.cond (.t 14)
  .skip
  (.exit 0)))
  (.seq (.block 1 (.seq (.region true [17, 18, 19, 20, 21, 22, 23, 24, 25] [17, 18, 19, 20, 21, 22, 23, 24] [⟨(some 17), .move (.t 0), none, []⟩,
    ⟨(some 18), .move (.t 5), none, []⟩,
    ⟨(some 19), .iaddr 1 (.t 17) (.t 18), none, [0, 1]⟩,
    ⟨(some 20), .load false 1 (.t 19), none, [2, 0, 1]⟩,
    ⟨(some 21), .move (.t 1), none, []⟩,
    ⟨(some 22), .move (.t 5), none, []⟩,
    ⟨(some 23), .iaddr 1 (.t 21) (.t 22), none, [4, 5]⟩,
    ⟨(some 24), .load false 1 (.t 23), none, [6, 4, 5]⟩,
    ⟨(some 25), .bin .neq (.t 20) (.t 24), none, [3, 2, 0, 1, 7, 6, 4, 5]⟩])
  (.cond (.t 25)
  (.seq (.region false [] [] [⟨(some 4), .assign (.c false [(.bool false)]), none, []⟩])
  .ret)
  .skip)))
  (.region false [15, 16] [15, 16] [⟨(some 15), .move (.t 5), none, []⟩,
    ⟨(some 16), .bin .add (.t 15) (.c false [(.int .i64 1)]), none, []⟩,
    ⟨(some 5), .assign (.t 16), none, []⟩]))))))
  (.seq (.region false [] [] [⟨(some 4), .assign (.c false [(.bool true)]), none, []⟩])
  .ret))))⟩
/- laws.eqKnown -/
def ir242 : FnIr := ⟨0, 2, 21, [(4, none)], [],
  (.seq (.region false [2, 3, 23, 24] [] [⟨(some 2), .box (.t 0), none, []⟩,
    ⟨(some 3), .box (.t 1), none, []⟩,
    ⟨(some 4), .assign (.c false [(.bool false)]), none, []⟩])
  (.seq (.seq (.region false [5, 6, 7, 8, 9] [5, 6, 7, 8] [⟨(some 5), .faddr 0 (.t 2), none, []⟩,
    ⟨(some 6), .load false 1 (.t 5), none, []⟩,
    ⟨(some 7), .faddr 0 (.t 3), none, []⟩,
    ⟨(some 8), .load false 1 (.t 7), none, []⟩,
    ⟨(some 9), .bin .neq (.t 6) (.t 8), none, []⟩])
  (.cond (.t 9)
  (.seq (.region false [] [] [⟨(some 4), .assign (.c false [(.bool false)]), none, []⟩])
  .ret)
  .skip))
  (.seq (.seq (.region false [10, 11, 12, 13, 14, 15, 35] [10, 11, 12, 13, 14] [⟨(some 10), .faddr 1 (.t 2), none, []⟩,
    ⟨(some 11), .load false 1 (.t 10), none, []⟩,
    ⟨(some 12), .faddr 1 (.t 3), none, []⟩,
    ⟨(some 13), .load false 1 (.t 12), none, []⟩,
    ⟨(some 14), .call 79 [(.t 11), (.t 13)], none, []⟩,
    ⟨(some 15), .un .not (.t 14), none, []⟩])
  (.cond (.t 15)
  (.seq (.region false [] [] [⟨(some 4), .assign (.c false [(.bool false)]), none, []⟩])
  .ret)
  .skip))
  (.seq (.seq (.region false [16, 17, 18, 19, 20] [16, 17, 18, 19] [⟨(some 16), .faddr 2 (.t 2), none, []⟩,
    ⟨(some 17), .load false 1 (.t 16), none, []⟩,
    ⟨(some 18), .faddr 2 (.t 3), none, []⟩,
    ⟨(some 19), .load false 1 (.t 18), none, []⟩,
    ⟨(some 20), .bin .neq (.t 17) (.t 19), none, []⟩])
  (.cond (.t 20)
  (.seq (.region false [] [] [⟨(some 4), .assign (.c false [(.bool false)]), none, []⟩])
  .ret)
  .skip))
  (.seq (.region false [] [] [⟨(some 4), .assign (.c false [(.bool true)]), none, []⟩])
  .ret)))))⟩
/- laws.eqKnownS -/
def ir100 : FnIr := ⟨0, 2, 27, [(4, none)], [],
  (.seq (.region false [] [] [⟨(some 4), .assign (.c false [(.bool false)]), none, []⟩])
  (.seq (.seq (.region false [6, 7, 8, 9, 10] [6, 7, 8, 9] [⟨(some 6), .move (.t 0), none, []⟩,
    ⟨(some 7), .len false (.t 6), none, []⟩,
    ⟨(some 8), .move (.t 1), none, []⟩,
    ⟨(some 9), .len false (.t 8), none, []⟩,
    ⟨(some 10), .bin .neq (.t 7) (.t 9), none, []⟩])
  (.cond (.t 10)
  (.seq (.region false [] [] [⟨(some 4), .assign (.c false [(.bool false)]), none, []⟩])
  .ret)
  .skip))
  (.seq (.seq (.region false [] [] [⟨(some 5), .assign (.c false [(.int .i64 0)]), none, []⟩])
  (.block 0 (.loop (.seq (.seq (.region false [11, 12, 13, 14] [11, 12, 13] [⟨(some 11), .move (.t 5), none, []⟩,
    ⟨(some 12), .move (.t 0), none, []⟩,
    ⟨(some 13), .len false (.t 12), none, []⟩,
    ⟨(some 14), .bin .lss (.t 11) (.t 13), none, []⟩])
  (.cond (.t 14)
  .skip
  (.exit 0)))
  (.seq (.block 1 (.seq (.region true [17, 18, 19, 20, 21, 22, 23, 24, 25, 26, 52] [17, 18, 19, 20, 21, 22, 23, 24, 25] [⟨(some 17), .move (.t 0), none, []⟩,
    ⟨(some 18), .move (.t 5), none, []⟩,
    ⟨(some 19), .iaddr 3 (.t 17) (.t 18), none, [0, 1]⟩,
    ⟨(some 20), .load true 3 (.t 19), none, [2, 0, 1]⟩,
    ⟨(some 21), .move (.t 1), none, []⟩,
    ⟨(some 22), .move (.t 5), none, []⟩,
    ⟨(some 23), .iaddr 3 (.t 21) (.t 22), none, [4, 5]⟩,
    ⟨(some 24), .load true 3 (.t 23), none, [6, 4, 5]⟩,
    ⟨(some 25), .call 242 [(.t 20), (.t 24)], none, [3, 2, 0, 1, 7, 6, 4, 5]⟩,
    ⟨(some 26), .un .not (.t 25), none, [8, 3, 2, 0, 1, 7, 6, 4, 5]⟩])
  (.cond (.t 26)
  (.seq (.region false [] [] [⟨(some 4), .assign (.c false [(.bool false)]), none, []⟩])
  .ret)
  .skip)))
  (.region false [15, 16] [15, 16] [⟨(some 15), .move (.t 5), none, []⟩,
    ⟨(some 16), .bin .add (.t 15) (.c false [(.int .i64 1)]), none, []⟩,
    ⟨(some 5), .assign (.t 16), none, []⟩]))))))
  (.seq (.region false [] [] [⟨(some 4), .assign (.c false [(.bool true)]), none, []⟩])
  .ret))))⟩
/- laws.markIntS -/
def ir1080 : FnIr := ⟨0, 2, 19, [(4, none)], [.mrow, .val],
  (.seq (.region false [] [] [⟨(some 4), .assign (.c false [(.int .i64 0)]), none, []⟩])
  (.seq (.seq (.region false [] [] [⟨(some 5), .assign (.c false [(.int .i64 0)]), none, []⟩])
  (.block 0 (.loop (.seq (.seq (.region false [6, 7, 8, 9] [6, 7, 8] [⟨(some 6), .move (.t 5), none, []⟩,
    ⟨(some 7), .move (.t 0), none, []⟩,
    ⟨(some 8), .len false (.t 7), none, []⟩,
    ⟨(some 9), .bin .lss (.t 6) (.t 8), none, []⟩])
  (.cond (.t 9)
  .skip
  (.exit 0)))
  (.seq (.block 1 (.seq (.region false [12, 13, 14, 15] [12, 13, 14, 15] [⟨(some 12), .move (.t 0), none, []⟩,
    ⟨(some 13), .move (.t 5), none, []⟩,
    ⟨(some 14), .move (.t 1), none, []⟩,
    ⟨(some 15), .iaddr 1 (.t 12) (.t 13), none, []⟩,
    ⟨none, .rstore 1 (.t 15) (.t 14), none, []⟩])
  (.region false [16, 17] [16, 17] [⟨(some 16), .move (.t 1), none, []⟩,
    ⟨(some 17), .bin .add (.t 16) (.c false [(.int .i64 1)]), none, []⟩,
    ⟨(some 1), .assign (.t 17), none, []⟩])))
  (.region false [10, 11] [10, 11] [⟨(some 10), .move (.t 5), none, []⟩,
    ⟨(some 11), .bin .add (.t 10) (.c false [(.int .i64 1)]), none, []⟩,
    ⟨(some 5), .assign (.t 11), none, []⟩]))))))
  (.seq (.region false [18] [18] [⟨(some 18), .move (.t 1), none, []⟩,
    ⟨(some 4), .assign (.t 18), none, []⟩])
  .ret)))⟩
/- laws.markKnownS -/
def ir1124 : FnIr := ⟨0, 2, 34, [(4, none)], [.mrow, .val],
  (.seq (.region false [] [] [⟨(some 4), .assign (.c false [(.int .i64 0)]), none, []⟩])
  (.seq (.seq (.region false [] [] [⟨(some 5), .assign (.c false [(.int .i64 0)]), none, []⟩])
  (.block 0 (.loop (.seq (.seq (.region false [6, 7, 8, 9] [6, 7, 8] [⟨(some 6), .move (.t 5), none, []⟩,
    ⟨(some 7), .move (.t 0), none, []⟩,
    ⟨(some 8), .len false (.t 7), none, []⟩,
    ⟨(some 9), .bin .lss (.t 6) (.t 8), none, []⟩])
  (.cond (.t 9)
  .skip
  (.exit 0)))
  (.seq (.block 1 (.seq (.region false [12, 13, 14, 15, 16] [12, 13, 14, 15, 16] [⟨(some 12), .move (.t 0), none, []⟩,
    ⟨(some 13), .move (.t 5), none, []⟩,
    ⟨(some 14), .move (.t 1), none, []⟩,
    ⟨(some 15), .iaddr 3 (.t 12) (.t 13), none, []⟩,
    ⟨(some 16), .faddr 0 (.t 15), none, []⟩,
    ⟨none, .rstore 1 (.t 16) (.t 14), none, []⟩])
  (.seq (.region false [17, 18] [17, 18] [⟨(some 17), .move (.t 1), none, []⟩,
    ⟨(some 18), .bin .add (.t 17) (.c false [(.int .i64 1)]), none, []⟩,
    ⟨(some 1), .assign (.t 18), none, []⟩])
  (.seq (.region false [19, 20, 21, 22, 23, 24, 25, 59] [19, 20, 21, 22, 23, 24, 25] [⟨(some 19), .move (.t 0), none, []⟩,
    ⟨(some 20), .move (.t 5), none, []⟩,
    ⟨(some 21), .iaddr 3 (.t 19) (.t 20), none, []⟩,
    ⟨(some 22), .faddr 1 (.t 21), none, []⟩,
    ⟨(some 23), .load false 1 (.t 22), none, []⟩,
    ⟨(some 24), .move (.t 1), none, []⟩,
    ⟨(some 25), .call 1080 [(.t 23), (.t 24)], none, []⟩,
    ⟨(some 1), .assign (.t 25), none, []⟩])
  (.seq (.region false [26, 27, 28, 29, 30] [26, 27, 28, 29, 30] [⟨(some 26), .move (.t 0), none, []⟩,
    ⟨(some 27), .move (.t 5), none, []⟩,
    ⟨(some 28), .move (.t 1), none, []⟩,
    ⟨(some 29), .iaddr 3 (.t 26) (.t 27), none, []⟩,
    ⟨(some 30), .faddr 2 (.t 29), none, []⟩,
    ⟨none, .rstore 1 (.t 30) (.t 28), none, []⟩])
  (.region false [31, 32] [31, 32] [⟨(some 31), .move (.t 1), none, []⟩,
    ⟨(some 32), .bin .add (.t 31) (.c false [(.int .i64 1)]), none, []⟩,
    ⟨(some 1), .assign (.t 32), none, []⟩]))))))
  (.region false [10, 11] [10, 11] [⟨(some 10), .move (.t 5), none, []⟩,
    ⟨(some 11), .bin .add (.t 10) (.c false [(.int .i64 1)]), none, []⟩,
    ⟨(some 5), .assign (.t 11), none, []⟩]))))))
  (.seq (.region false [33] [33] [⟨(some 33), .move (.t 1), none, []⟩,
    ⟨(some 4), .assign (.t 33), none, []⟩])
  .ret)))⟩
/- laws.heldIntS -/
def ir125 : FnIr := ⟨0, 2, 21, [(4, none)], [],
  (.seq (.region false [] [] [⟨(some 4), .assign (.c false [(.int .i64 0)]), none, []⟩])
  (.seq (.seq (.region false [] [] [⟨(some 5), .assign (.c false [(.int .i64 0)]), none, []⟩])
  (.block 0 (.loop (.seq (.seq (.region false [6, 7, 8, 9] [6, 7, 8] [⟨(some 6), .move (.t 5), none, []⟩,
    ⟨(some 7), .move (.t 0), none, []⟩,
    ⟨(some 8), .len false (.t 7), none, []⟩,
    ⟨(some 9), .bin .lss (.t 6) (.t 8), none, []⟩])
  (.cond (.t 9)
  .skip
  (.exit 0)))
  (.seq (.block 1 (.seq (.seq (.region false [12, 13, 14, 15, 16, 17] [12, 13, 14, 15, 16] [⟨(some 12), .move (.t 0), none, []⟩,
    ⟨(some 13), .move (.t 5), none, []⟩,
    ⟨(some 14), .iaddr 1 (.t 12) (.t 13), none, []⟩,
    ⟨(some 15), .load false 1 (.t 14), none, []⟩,
    ⟨(some 16), .move (.t 1), none, []⟩,
    ⟨(some 17), .bin .neq (.t 15) (.t 16), none, []⟩])
  (.cond (.t 17)
  (.seq (.region false [] [] [⟨(some 4), .assign (.c false [(.int .i64 (-1))]), none, []⟩])
  .ret)
  .skip))
  (.region false [18, 19] [18, 19] [⟨(some 18), .move (.t 1), none, []⟩,
    ⟨(some 19), .bin .add (.t 18) (.c false [(.int .i64 1)]), none, []⟩,
    ⟨(some 1), .assign (.t 19), none, []⟩])))
  (.region false [10, 11] [10, 11] [⟨(some 10), .move (.t 5), none, []⟩,
    ⟨(some 11), .bin .add (.t 10) (.c false [(.int .i64 1)]), none, []⟩,
    ⟨(some 5), .assign (.t 11), none, []⟩]))))))
  (.seq (.region false [20] [20] [⟨(some 20), .move (.t 1), none, []⟩,
    ⟨(some 4), .assign (.t 20), none, []⟩])
  .ret)))⟩
/- laws.heldKnownS -/
def ir134 : FnIr := ⟨0, 2, 40, [(4, none)], [],
  (.seq (.region false [] [] [⟨(some 4), .assign (.c false [(.int .i64 0)]), none, []⟩])
  (.seq (.seq (.region false [] [] [⟨(some 5), .assign (.c false [(.int .i64 0)]), none, []⟩])
  (.block 0 (.loop (.seq (.seq (.region false [6, 7, 8, 9] [6, 7, 8] [⟨(some 6), .move (.t 5), none, []⟩,
    ⟨(some 7), .move (.t 0), none, []⟩,
    ⟨(some 8), .len false (.t 7), none, []⟩,
    ⟨(some 9), .bin .lss (.t 6) (.t 8), none, []⟩])
  (.cond (.t 9)
  .skip
  (.exit 0)))
  (.seq (.block 1 (.seq (.seq (.region false [12, 13, 14, 15, 16, 17, 18] [12, 13, 14, 15, 16, 17] [⟨(some 12), .move (.t 0), none, []⟩,
    ⟨(some 13), .move (.t 5), none, []⟩,
    ⟨(some 14), .iaddr 3 (.t 12) (.t 13), none, []⟩,
    ⟨(some 15), .faddr 0 (.t 14), none, []⟩,
    ⟨(some 16), .load false 1 (.t 15), none, []⟩,
    ⟨(some 17), .move (.t 1), none, []⟩,
    ⟨(some 18), .bin .neq (.t 16) (.t 17), none, []⟩])
  (.cond (.t 18)
  (.seq (.region false [] [] [⟨(some 4), .assign (.c false [(.int .i64 (-1))]), none, []⟩])
  .ret)
  .skip))
  (.seq (.region false [19, 20] [19, 20] [⟨(some 19), .move (.t 1), none, []⟩,
    ⟨(some 20), .bin .add (.t 19) (.c false [(.int .i64 1)]), none, []⟩,
    ⟨(some 1), .assign (.t 20), none, []⟩])
  (.seq (.region false [21, 22, 23, 24, 25, 26, 27, 67] [21, 22, 23, 24, 25, 26, 27] [⟨(some 21), .move (.t 0), none, []⟩,
    ⟨(some 22), .move (.t 5), none, []⟩,
    ⟨(some 23), .iaddr 3 (.t 21) (.t 22), none, []⟩,
    ⟨(some 24), .faddr 1 (.t 23), none, []⟩,
    ⟨(some 25), .load false 1 (.t 24), none, []⟩,
    ⟨(some 26), .move (.t 1), none, []⟩,
    ⟨(some 27), .call 125 [(.t 25), (.t 26)], none, []⟩,
    ⟨(some 1), .assign (.t 27), none, []⟩])
  (.seq (.seq (.region false [28, 29] [28] [⟨(some 28), .move (.t 1), none, []⟩,
    ⟨(some 29), .bin .lss (.t 28) (.c false [(.int .i64 0)]), none, []⟩])
  (.cond (.t 29)
  (.seq (.region false [] [] [⟨(some 4), .assign (.c false [(.int .i64 (-1))]), none, []⟩])
  .ret)
  .skip))
  (.seq (.seq (.region false [30, 31, 32, 33, 34, 35, 36] [30, 31, 32, 33, 34, 35] [⟨(some 30), .move (.t 0), none, []⟩,
    ⟨(some 31), .move (.t 5), none, []⟩,
    ⟨(some 32), .iaddr 3 (.t 30) (.t 31), none, []⟩,
    ⟨(some 33), .faddr 2 (.t 32), none, []⟩,
    ⟨(some 34), .load false 1 (.t 33), none, []⟩,
    ⟨(some 35), .move (.t 1), none, []⟩,
    ⟨(some 36), .bin .neq (.t 34) (.t 35), none, []⟩])
  (.cond (.t 36)
  (.seq (.region false [] [] [⟨(some 4), .assign (.c false [(.int .i64 (-1))]), none, []⟩])
  .ret)
  .skip))
  (.region false [37, 38] [37, 38] [⟨(some 37), .move (.t 1), none, []⟩,
    ⟨(some 38), .bin .add (.t 37) (.c false [(.int .i64 1)]), none, []⟩,
    ⟨(some 1), .assign (.t 38), none, []⟩])))))))
  (.region false [10, 11] [10, 11] [⟨(some 10), .move (.t 5), none, []⟩,
    ⟨(some 11), .bin .add (.t 10) (.c false [(.int .i64 1)]), none, []⟩,
    ⟨(some 5), .assign (.t 11), none, []⟩]))))))
  (.seq (.region false [39] [39] [⟨(some 39), .move (.t 1), none, []⟩,
    ⟨(some 4), .assign (.t 39), none, []⟩])
  .ret)))⟩
/- spec.l1In -/
def ir230 : FnIr := ⟨0, 3, 15, [(6, none)], [],
  (.seq (.region false [] [] [⟨(some 6), .assign (.c false [(.bool false)]), none, []⟩])
  (.seq (.region false [7, 8, 9, 10, 11, 12, 13, 14] [7, 8, 9, 10, 11, 12, 13, 14] [⟨(some 7), .move (.t 0), none, []⟩,
    ⟨(some 8), .move (.t 1), none, []⟩,
    ⟨(some 9), .bin .geq (.t 7) (.t 8), none, []⟩,
    ⟨(some 10), .move (.t 9), none, []⟩,
    ⟨(some 11), .move (.t 0), (some (10, true)), []⟩,
    ⟨(some 12), .move (.t 2), (some (10, true)), []⟩,
    ⟨(some 13), .bin .leq (.t 11) (.t 12), (some (10, true)), []⟩,
    ⟨(some 14), .pick (.t 10) (.t 13) (.c false [(.bool false)]), none, []⟩,
    ⟨(some 6), .assign (.t 14), none, []⟩])
  .ret))⟩
/- spec.l23Copy -/
def ir274 : FnIr := ⟨0, 1, 12, [(2, (some (true, 3)))], [],
  (.seq (.region false [1, 2, 13, 14] [] [⟨(some 1), .box (.t 0), none, []⟩,
    ⟨(some 2), .alloc [(.int .i64 0), (.row () []), (.int .i64 0)], none, []⟩])
  (.seq (.region true [3, 4, 5, 6, 7, 8, 9, 10, 11] [3, 4, 5, 6, 7, 8, 9, 10, 11] [⟨(some 3), .faddr 0 (.t 1), none, []⟩,
    ⟨(some 4), .load false 1 (.t 3), none, [0]⟩,
    ⟨(some 5), .bslice [(.int .i64 0)] 0 [], none, []⟩,
    ⟨(some 6), .faddr 1 (.t 1), none, []⟩,
    ⟨(some 7), .load false 1 (.t 6), none, [3]⟩,
    ⟨(some 8), .append 1 (.t 5) (.t 7), none, [2, 4, 3]⟩,
    ⟨(some 9), .faddr 2 (.t 1), none, []⟩,
    ⟨(some 10), .load false 1 (.t 9), none, [6]⟩,
    ⟨(some 11), .build [(.int .i64 0), (.row () []), (.int .i64 0)] [(0, 1, (.t 4)), (1, 1, (.t 8)), (2, 1, (.t 10))], none, [1, 0, 5, 2, 4, 3, 7, 6]⟩,
    ⟨none, .store 3 (.t 2) (.t 11), none, [8, 1, 0, 5, 2, 4, 3, 7, 6]⟩])
  .ret))⟩
/- spec.Remember -/
def ir135 : FnIr := ⟨0, 4, 55, [(8, none)], [],
  (.seq (.region false [] [] [⟨(some 8), .assign (.c false [(.row () [])]), none, []⟩])
  (.seq (.region false [12] [12] [⟨(some 12), .bslice [(.int .i64 0), (.row () []), (.int .i64 0)] 0 [], none, []⟩,
    ⟨(some 9), .assign (.t 12), none, []⟩])
  (.seq (.region false [13, 14, 15, 16, 17, 18, 69] [13, 14, 15, 16, 17, 18] [⟨(some 13), .move (.t 1), none, []⟩,
    ⟨(some 14), .call 230 [(.t 13), (.c false [(.int .i64 0)]), (.c false [(.int .i64 5)])], none, []⟩,
    ⟨(some 15), .move (.t 14), none, []⟩,
    ⟨(some 16), .move (.t 3), (some (15, true)), []⟩,
    ⟨(some 17), .bin .geq (.t 16) (.c false [(.int .i64 0)]), (some (15, true)), []⟩,
    ⟨(some 18), .pick (.t 15) (.t 17) (.c false [(.bool false)]), none, []⟩,
    ⟨(some 10), .assign (.t 18), none, []⟩])
  (.seq (.seq (.region false [] [] [⟨(some 11), .assign (.c false [(.int .i64 0)]), none, []⟩])
  (.block 0 (.loop (.seq (.seq (.region false [19, 20, 21, 22] [19, 20, 21] [⟨(some 19), .move (.t 11), none, []⟩,
    ⟨(some 20), .move (.t 0), none, []⟩,
    ⟨(some 21), .len false (.t 20), none, []⟩,
    ⟨(some 22), .bin .lss (.t 19) (.t 21), none, []⟩])
  (.cond (.t 22)
  .skip
  (.exit 0)))
  (.seq (.block 1 (.seq (.region false [25, 26, 27, 28, 29, 30, 31, 32, 33, 34, 35] [25, 26, 27, 28, 29, 30, 31, 32, 33, 34] [⟨(some 25), .move (.t 10), none, []⟩,
    ⟨(some 26), .un .not (.t 25), none, []⟩,
    ⟨(some 27), .move (.t 26), none, []⟩,
    ⟨(some 28), .move (.t 0), (some (27, false)), []⟩,
    ⟨(some 29), .move (.t 11), (some (27, false)), []⟩,
    ⟨(some 30), .iaddr 3 (.t 28) (.t 29), (some (27, false)), []⟩,
    ⟨(some 31), .faddr 0 (.t 30), (some (27, false)), []⟩,
    ⟨(some 32), .load false 1 (.t 31), (some (27, false)), []⟩,
    ⟨(some 33), .move (.t 1), (some (27, false)), []⟩,
    ⟨(some 34), .bin .neq (.t 32) (.t 33), (some (27, false)), []⟩,
    ⟨(some 35), .pick (.t 27) (.c false [(.bool true)]) (.t 34), none, []⟩])
  (.cond (.t 35)
  (.region false [36, 37, 38, 39, 40, 41, 42, 43, 96] [36, 37, 38, 39, 40, 41, 42, 43] [⟨(some 36), .move (.t 9), none, []⟩,
    ⟨(some 37), .move (.t 0), none, []⟩,
    ⟨(some 38), .move (.t 11), none, []⟩,
    ⟨(some 39), .iaddr 3 (.t 37) (.t 38), none, []⟩,
    ⟨(some 40), .load true 3 (.t 39), none, []⟩,
    ⟨(some 41), .call 274 [(.t 40)], none, []⟩,
    ⟨(some 42), .bslice [(.int .i64 0), (.row () []), (.int .i64 0)] 1 [(0, (.t 41))], none, []⟩,
    ⟨(some 43), .append 3 (.t 36) (.t 42), none, []⟩,
    ⟨(some 9), .assign (.t 43), none, []⟩])
  .skip)))
  (.region false [23, 24] [23, 24] [⟨(some 23), .move (.t 11), none, []⟩,
    ⟨(some 24), .bin .add (.t 23) (.c false [(.int .i64 1)]), none, []⟩,
    ⟨(some 11), .assign (.t 24), none, []⟩]))))))
  (.seq (.seq (.region false [44] [] [⟨(some 44), .move (.t 10), none, []⟩])
  (.cond (.t 44)
  (.region false [45, 46, 47, 48, 49, 50, 51, 52, 53] [45, 46, 47, 48, 49, 50, 51, 52, 53] [⟨(some 45), .move (.t 9), none, []⟩,
    ⟨(some 46), .move (.t 1), none, []⟩,
    ⟨(some 47), .bslice [(.int .i64 0)] 0 [], none, []⟩,
    ⟨(some 48), .move (.t 2), none, []⟩,
    ⟨(some 49), .append 1 (.t 47) (.t 48), none, []⟩,
    ⟨(some 50), .move (.t 3), none, []⟩,
    ⟨(some 51), .build [(.int .i64 0), (.row () []), (.int .i64 0)] [(0, 1, (.t 46)), (1, 1, (.t 49)), (2, 1, (.t 50))], none, []⟩,
    ⟨(some 52), .bslice [(.int .i64 0), (.row () []), (.int .i64 0)] 1 [(0, (.t 51))], none, []⟩,
    ⟨(some 53), .append 3 (.t 45) (.t 52), none, []⟩,
    ⟨(some 9), .assign (.t 53), none, []⟩])
  .skip))
  (.seq (.region false [54] [54] [⟨(some 54), .move (.t 9), none, []⟩,
    ⟨(some 8), .assign (.t 54), none, []⟩])
  .ret))))))⟩
/- impl.InRange -/
def ir232 : FnIr := ⟨0, 3, 15, [(6, none)], [],
  (.seq (.region false [] [] [⟨(some 6), .assign (.c false [(.bool false)]), none, []⟩])
  (.seq (.region false [7, 8, 9, 10, 11, 12, 13, 14] [7, 8, 9, 10, 11, 12, 13, 14] [⟨(some 7), .move (.t 1), none, []⟩,
    ⟨(some 8), .move (.t 0), none, []⟩,
    ⟨(some 9), .bin .leq (.t 7) (.t 8), none, []⟩,
    ⟨(some 10), .move (.t 9), none, []⟩,
    ⟨(some 11), .move (.t 0), (some (10, true)), []⟩,
    ⟨(some 12), .move (.t 2), (some (10, true)), []⟩,
    ⟨(some 13), .bin .leq (.t 11) (.t 12), (some (10, true)), []⟩,
    ⟨(some 14), .pick (.t 10) (.t 13) (.c false [(.bool false)]), none, []⟩,
    ⟨(some 6), .assign (.t 14), none, []⟩])
  .ret))⟩
/- impl.keptKnown -/
def ir275 : FnIr := ⟨0, 2, 32, [(4, none)], [],
  (.seq (.region false [] [] [⟨(some 4), .assign (.c false [(.row () [])]), none, []⟩])
  (.seq (.region false [8] [8] [⟨(some 8), .bslice [(.int .i64 0), (.row () []), (.int .i64 0)] 0 [], none, []⟩,
    ⟨(some 5), .assign (.t 8), none, []⟩])
  (.seq (.seq (.region false [9, 10, 11] [] [⟨(some 9), .move (.t 0), none, []⟩,
    ⟨(some 10), .len false (.t 9), none, []⟩,
    ⟨(some 11), .move (.c false [(.int .i64 0)]), none, []⟩])
  (.block 0 (.loop (.seq (.region false [12] [] [⟨(some 12), .bin .lss (.t 11) (.t 10), none, []⟩])
  (.seq (.cond (.t 12)
  .skip
  (.exit 0))
  (.seq (.block 1 (.seq (.region false [13, 14, 7, 39] [13, 14] [⟨(some 13), .iaddr 3 (.t 9) (.t 11), none, []⟩,
    ⟨(some 14), .load true 3 (.t 13), none, []⟩,
    ⟨(some 7), .alloc [(.int .i64 0), (.row () []), (.int .i64 0)], none, []⟩,
    ⟨none, .store 3 (.t 7) (.t 14), none, []⟩])
  (.seq (.region false [15, 16, 17, 49] [15, 16] [⟨(some 15), .move (.t 1), none, []⟩,
    ⟨(some 16), .load true 3 (.t 7), none, []⟩,
    ⟨(some 17), .callv (.t 15) [(.t 16)], none, []⟩])
  (.cond (.t 17)
  (.region true [18, 19, 20, 21, 22, 23, 24, 25, 26, 27, 28, 29] [18, 19, 20, 21, 22, 23, 24, 25, 26, 27, 28, 29] [⟨(some 18), .move (.t 5), none, []⟩,
    ⟨(some 19), .faddr 0 (.t 7), none, []⟩,
    ⟨(some 20), .load false 1 (.t 19), none, [1]⟩,
    ⟨(some 21), .bslice [(.int .i64 0)] 0 [], none, []⟩,
    ⟨(some 22), .faddr 1 (.t 7), none, []⟩,
    ⟨(some 23), .load false 1 (.t 22), none, [4]⟩,
    ⟨(some 24), .append 1 (.t 21) (.t 23), none, [3, 5, 4]⟩,
    ⟨(some 25), .faddr 2 (.t 7), none, []⟩,
    ⟨(some 26), .load false 1 (.t 25), none, [7]⟩,
    ⟨(some 27), .build [(.int .i64 0), (.row () []), (.int .i64 0)] [(0, 1, (.t 20)), (1, 1, (.t 24)), (2, 1, (.t 26))], none, [2, 1, 6, 3, 5, 4, 8, 7]⟩,
    ⟨(some 28), .bslice [(.int .i64 0), (.row () []), (.int .i64 0)] 1 [(0, (.t 27))], none, [9, 2, 1, 6, 3, 5, 4, 8, 7]⟩,
    ⟨(some 29), .append 3 (.t 18) (.t 28), none, [0, 10, 9, 2, 1, 6, 3, 5, 4, 8, 7]⟩,
    ⟨(some 5), .assign (.t 29), none, [11, 0, 10, 9, 2, 1, 6, 3, 5, 4, 8, 7]⟩])
  .skip))))
  (.region false [30] [30] [⟨(some 30), .bin .add (.t 11) (.c false [(.int .i64 1)]), none, []⟩,
    ⟨(some 11), .move (.t 30), none, []⟩])))))))
  (.seq (.region false [31] [31] [⟨(some 31), .move (.t 5), none, []⟩,
    ⟨(some 4), .assign (.t 31), none, []⟩])
  .ret))))⟩
/- impl.Remember$1 -/
def ir277 : FnIr := ⟨0, 1, 3, [(2, none)], [],
  (.seq (.region false [1, 4] [1] [⟨(some 1), .box (.t 0), none, []⟩,
    ⟨(some 2), .assign (.c false [(.bool false)]), none, []⟩])
  (.seq (.region false [] [] [⟨(some 2), .assign (.c false [(.bool true)]), none, []⟩])
  .ret))⟩
/- impl.Remember$2 -/
def ir278 : FnIr := ⟨0, 2, 8, [(3, none)], [],
  (.seq (.region false [2, 10] [] [⟨(some 2), .box (.t 0), none, []⟩,
    ⟨(some 3), .assign (.c false [(.bool false)]), none, []⟩])
  (.seq (.region false [4, 5, 6, 7] [4, 5, 6, 7] [⟨(some 4), .faddr 0 (.t 2), none, []⟩,
    ⟨(some 5), .load false 1 (.t 4), none, []⟩,
    ⟨(some 6), .load false 1 (.t 1), none, []⟩,
    ⟨(some 7), .bin .neq (.t 5) (.t 6), none, []⟩,
    ⟨(some 3), .assign (.t 7), none, []⟩])
  .ret))⟩
/- impl.Remember -/
def ir136 : FnIr := ⟨0, 4, 31, [(8, none)], [],
  (.seq (.region false [5, 36] [] [⟨(some 5), .box (.t 1), none, []⟩,
    ⟨(some 8), .assign (.c false [(.row () [])]), none, []⟩])
  (.seq (.seq (.region false [10, 11, 12, 13, 14, 15, 16, 42] [10, 11, 12, 13, 14, 15] [⟨(some 10), .load false 1 (.t 5), none, []⟩,
    ⟨(some 11), .call 232 [(.t 10), (.c false [(.int .i64 0)]), (.c false [(.int .i64 5)])], none, []⟩,
    ⟨(some 12), .un .not (.t 11), none, []⟩,
    ⟨(some 13), .move (.t 12), none, []⟩,
    ⟨(some 14), .move (.t 3), (some (13, false)), []⟩,
    ⟨(some 15), .bin .lss (.t 14) (.c false [(.int .i64 0)]), (some (13, false)), []⟩,
    ⟨(some 16), .pick (.t 13) (.c false [(.bool true)]) (.t 15), none, []⟩])
  (.cond (.t 16)
  (.seq (.region false [17, 18, 49] [17, 18] [⟨(some 17), .move (.t 0), none, []⟩,
    ⟨(some 18), .call 275 [(.t 17), (.f 277)], none, []⟩,
    ⟨(some 8), .assign (.t 18), none, []⟩])
  .ret)
  .skip))
  (.seq (.region false [19, 20, 21, 52] [19, 20, 21] [⟨(some 19), .move (.t 0), none, []⟩,
    ⟨(some 20), .mkfn 278 [5], none, []⟩,
    ⟨(some 21), .call 275 [(.t 19), (.t 20)], none, []⟩,
    ⟨(some 9), .assign (.t 21), none, []⟩])
  (.seq (.region true [22, 23, 24, 25, 26, 27, 28, 29, 30] [22, 23, 24, 25, 26, 27, 28, 29, 30] [⟨(some 22), .move (.t 9), none, []⟩,
    ⟨(some 23), .load false 1 (.t 5), none, []⟩,
    ⟨(some 24), .bslice [(.int .i64 0)] 0 [], none, []⟩,
    ⟨(some 25), .move (.t 2), none, []⟩,
    ⟨(some 26), .append 1 (.t 24) (.t 25), none, [2, 3]⟩,
    ⟨(some 27), .move (.t 3), none, []⟩,
    ⟨(some 28), .build [(.int .i64 0), (.row () []), (.int .i64 0)] [(0, 1, (.t 23)), (1, 1, (.t 26)), (2, 1, (.t 27))], none, [1, 4, 2, 3, 5]⟩,
    ⟨(some 29), .bslice [(.int .i64 0), (.row () []), (.int .i64 0)] 1 [(0, (.t 28))], none, [6, 1, 4, 2, 3, 5]⟩,
    ⟨(some 30), .append 3 (.t 22) (.t 29), none, [0, 7, 6, 1, 4, 2, 3, 5]⟩,
    ⟨(some 8), .assign (.t 30), none, [8, 0, 7, 6, 1, 4, 2, 3, 5]⟩])
  .ret))))⟩
/- laws.toIntS -/
def ir76 : FnIr := ⟨0, 1, 22, [(2, none)], [],
  (.seq (.region false [] [] [⟨(some 2), .assign (.c false [(.row () [])]), none, []⟩])
  (.seq (.region false [5, 6, 7] [5, 6, 7] [⟨(some 5), .move (.t 0), none, []⟩,
    ⟨(some 6), .len false (.t 5), none, []⟩,
    ⟨(some 7), .mkslice [(.int .i64 0)] (.t 6) (.t 6), none, []⟩,
    ⟨(some 3), .assign (.t 7), none, []⟩])
  (.seq (.seq (.region false [] [] [⟨(some 4), .assign (.c false [(.int .i64 0)]), none, []⟩])
  (.block 0 (.loop (.seq (.seq (.region false [8, 9, 10, 11] [8, 9, 10] [⟨(some 8), .move (.t 4), none, []⟩,
    ⟨(some 9), .move (.t 0), none, []⟩,
    ⟨(some 10), .len false (.t 9), none, []⟩,
    ⟨(some 11), .bin .lss (.t 8) (.t 10), none, []⟩])
  (.cond (.t 11)
  .skip
  (.exit 0)))
  (.seq (.block 1 (.region false [14, 15, 16, 17, 18, 19, 20] [14, 15, 16, 17, 18, 19, 20] [⟨(some 14), .move (.t 3), none, []⟩,
    ⟨(some 15), .move (.t 4), none, []⟩,
    ⟨(some 16), .move (.t 0), none, []⟩,
    ⟨(some 17), .move (.t 4), none, []⟩,
    ⟨(some 18), .iaddr 1 (.t 16) (.t 17), none, []⟩,
    ⟨(some 19), .load false 1 (.t 18), none, []⟩,
    ⟨(some 20), .iaddr 1 (.t 14) (.t 15), none, []⟩,
    ⟨none, .rstore 1 (.t 20) (.t 19), none, []⟩]))
  (.region false [12, 13] [12, 13] [⟨(some 12), .move (.t 4), none, []⟩,
    ⟨(some 13), .bin .add (.t 12) (.c false [(.int .i64 1)]), none, []⟩,
    ⟨(some 4), .assign (.t 13), none, []⟩]))))))
  (.seq (.region false [21] [21] [⟨(some 21), .move (.t 3), none, []⟩,
    ⟨(some 2), .assign (.t 21), none, []⟩])
  .ret))))⟩
/- laws.szIntS -/
def ir227 : FnIr := ⟨0, 2, 12, [(4, none)], [],
  (.seq (.region false [] [] [⟨(some 4), .assign (.c false [(.int .i64 0)]), none, []⟩])
  (.seq (.region false [5, 6, 7, 8] [5, 6, 7, 8] [⟨(some 5), .move (.t 1), none, []⟩,
    ⟨(some 6), .move (.t 0), none, []⟩,
    ⟨(some 7), .len false (.t 6), none, []⟩,
    ⟨(some 8), .bin .sub (.t 5) (.t 7), none, []⟩,
    ⟨(some 1), .assign (.t 8), none, []⟩])
  (.seq (.seq (.region false [9, 10] [9] [⟨(some 9), .move (.t 1), none, []⟩,
    ⟨(some 10), .bin .lss (.t 9) (.c false [(.int .i64 0)]), none, []⟩])
  (.cond (.t 10)
  (.seq (.region false [] [] [⟨(some 4), .assign (.c false [(.int .i64 (-1))]), none, []⟩])
  .ret)
  .skip))
  (.seq (.region false [11] [11] [⟨(some 11), .move (.t 1), none, []⟩,
    ⟨(some 4), .assign (.t 11), none, []⟩])
  .ret))))⟩
/- laws.szKnown -/
def ir238 : FnIr := ⟨0, 2, 12, [(4, none)], [],
  (.seq (.region false [2, 14] [] [⟨(some 2), .box (.t 0), none, []⟩,
    ⟨(some 4), .assign (.c false [(.int .i64 0)]), none, []⟩])
  (.seq (.region false [5, 6, 7, 8, 20] [5, 6, 7, 8] [⟨(some 5), .faddr 1 (.t 2), none, []⟩,
    ⟨(some 6), .load false 1 (.t 5), none, []⟩,
    ⟨(some 7), .move (.t 1), none, []⟩,
    ⟨(some 8), .call 227 [(.t 6), (.t 7)], none, []⟩,
    ⟨(some 1), .assign (.t 8), none, []⟩])
  (.seq (.seq (.region false [9, 10] [9] [⟨(some 9), .move (.t 1), none, []⟩,
    ⟨(some 10), .bin .lss (.t 9) (.c false [(.int .i64 0)]), none, []⟩])
  (.cond (.t 10)
  (.seq (.region false [] [] [⟨(some 4), .assign (.c false [(.int .i64 (-1))]), none, []⟩])
  .ret)
  .skip))
  (.seq (.region false [11] [11] [⟨(some 11), .move (.t 1), none, []⟩,
    ⟨(some 4), .assign (.t 11), none, []⟩])
  .ret))))⟩
/- laws.szKnownS -/
def ir96 : FnIr := ⟨0, 2, 27, [(4, none)], [],
  (.seq (.region false [] [] [⟨(some 4), .assign (.c false [(.int .i64 0)]), none, []⟩])
  (.seq (.region false [6, 7, 8, 9] [6, 7, 8, 9] [⟨(some 6), .move (.t 1), none, []⟩,
    ⟨(some 7), .move (.t 0), none, []⟩,
    ⟨(some 8), .len false (.t 7), none, []⟩,
    ⟨(some 9), .bin .sub (.t 6) (.t 8), none, []⟩,
    ⟨(some 1), .assign (.t 9), none, []⟩])
  (.seq (.seq (.region false [10, 11] [10] [⟨(some 10), .move (.t 1), none, []⟩,
    ⟨(some 11), .bin .lss (.t 10) (.c false [(.int .i64 0)]), none, []⟩])
  (.cond (.t 11)
  (.seq (.region false [] [] [⟨(some 4), .assign (.c false [(.int .i64 (-1))]), none, []⟩])
  .ret)
  .skip))
  (.seq (.seq (.region false [] [] [⟨(some 5), .assign (.c false [(.int .i64 0)]), none, []⟩])
  (.block 0 (.loop (.seq (.seq (.region false [12, 13, 14, 15] [12, 13, 14] [⟨(some 12), .move (.t 5), none, []⟩,
    ⟨(some 13), .move (.t 0), none, []⟩,
    ⟨(some 14), .len false (.t 13), none, []⟩,
    ⟨(some 15), .bin .lss (.t 12) (.t 14), none, []⟩])
  (.cond (.t 15)
  .skip
  (.exit 0)))
  (.seq (.block 1 (.seq (.region false [18, 19, 20, 21, 22, 23, 50] [18, 19, 20, 21, 22, 23] [⟨(some 18), .move (.t 0), none, []⟩,
    ⟨(some 19), .move (.t 5), none, []⟩,
    ⟨(some 20), .iaddr 3 (.t 18) (.t 19), none, []⟩,
    ⟨(some 21), .load true 3 (.t 20), none, []⟩,
    ⟨(some 22), .move (.t 1), none, []⟩,
    ⟨(some 23), .call 238 [(.t 21), (.t 22)], none, []⟩,
    ⟨(some 1), .assign (.t 23), none, []⟩])
  (.seq (.region false [24, 25] [24] [⟨(some 24), .move (.t 1), none, []⟩,
    ⟨(some 25), .bin .lss (.t 24) (.c false [(.int .i64 0)]), none, []⟩])
  (.cond (.t 25)
  (.seq (.region false [] [] [⟨(some 4), .assign (.c false [(.int .i64 (-1))]), none, []⟩])
  .ret)
  .skip))))
  (.region false [16, 17] [16, 17] [⟨(some 16), .move (.t 5), none, []⟩,
    ⟨(some 17), .bin .add (.t 16) (.c false [(.int .i64 1)]), none, []⟩,
    ⟨(some 5), .assign (.t 17), none, []⟩]))))))
  (.seq (.region false [26] [26] [⟨(some 26), .move (.t 1), none, []⟩,
    ⟨(some 4), .assign (.t 26), none, []⟩])
  .ret)))))⟩
/- laws.toKnown -/
def ir239 : FnIr := ⟨0, 1, 15, [(2, (some (true, 3)))], [],
  (.seq (.region false [1, 2, 16, 17] [] [⟨(some 1), .box (.t 0), none, []⟩,
    ⟨(some 2), .alloc [(.int .i64 0), (.row () []), (.int .i64 0)], none, []⟩])
  (.seq (.region false [3, 18] [] [⟨(some 3), .alloc [(.int .i64 0), (.row () []), (.int .i64 0)], none, []⟩])
  (.seq (.region false [4, 5, 6] [4, 5, 6] [⟨(some 4), .faddr 0 (.t 1), none, []⟩,
    ⟨(some 5), .load false 1 (.t 4), none, []⟩,
    ⟨(some 6), .faddr 0 (.t 3), none, []⟩,
    ⟨none, .store 1 (.t 6) (.t 5), none, []⟩])
  (.seq (.region false [7, 8, 9, 10, 24] [7, 8, 9, 10] [⟨(some 7), .faddr 1 (.t 1), none, []⟩,
    ⟨(some 8), .load false 1 (.t 7), none, []⟩,
    ⟨(some 9), .call 76 [(.t 8)], none, []⟩,
    ⟨(some 10), .faddr 1 (.t 3), none, []⟩,
    ⟨none, .store 1 (.t 10) (.t 9), none, []⟩])
  (.seq (.region false [11, 12, 13] [11, 12, 13] [⟨(some 11), .faddr 2 (.t 1), none, []⟩,
    ⟨(some 12), .load false 1 (.t 11), none, []⟩,
    ⟨(some 13), .faddr 2 (.t 3), none, []⟩,
    ⟨none, .store 1 (.t 13) (.t 12), none, []⟩])
  (.seq (.region false [14] [14] [⟨(some 14), .load true 3 (.t 3), none, []⟩,
    ⟨none, .store 3 (.t 2) (.t 14), none, []⟩])
  .ret))))))⟩
/- laws.toKnownS -/
def ir98 : FnIr := ⟨0, 1, 23, [(2, none)], [],
  (.seq (.region false [] [] [⟨(some 2), .assign (.c false [(.row () [])]), none, []⟩])
  (.seq (.region false [5, 6, 7] [5, 6, 7] [⟨(some 5), .move (.t 0), none, []⟩,
    ⟨(some 6), .len false (.t 5), none, []⟩,
    ⟨(some 7), .mkslice [(.int .i64 0), (.row () []), (.int .i64 0)] (.t 6) (.t 6), none, []⟩,
    ⟨(some 3), .assign (.t 7), none, []⟩])
  (.seq (.seq (.region false [] [] [⟨(some 4), .assign (.c false [(.int .i64 0)]), none, []⟩])
  (.block 0 (.loop (.seq (.seq (.region false [8, 9, 10, 11] [8, 9, 10] [⟨(some 8), .move (.t 4), none, []⟩,
    ⟨(some 9), .move (.t 0), none, []⟩,
    ⟨(some 10), .len false (.t 9), none, []⟩,
    ⟨(some 11), .bin .lss (.t 8) (.t 10), none, []⟩])
  (.cond (.t 11)
  .skip
  (.exit 0)))
  (.seq (.block 1 (.region false [14, 15, 16, 17, 18, 19, 20, 21, 43] [14, 15, 16, 17, 18, 19, 20, 21] [⟨(some 14), .move (.t 3), none, []⟩,
    ⟨(some 15), .move (.t 4), none, []⟩,
    ⟨(some 16), .move (.t 0), none, []⟩,
    ⟨(some 17), .move (.t 4), none, []⟩,
    ⟨(some 18), .iaddr 3 (.t 16) (.t 17), none, []⟩,
    ⟨(some 19), .load true 3 (.t 18), none, []⟩,
    ⟨(some 20), .call 239 [(.t 19)], none, []⟩,
    ⟨(some 21), .iaddr 3 (.t 14) (.t 15), none, []⟩,
    ⟨none, .rstore 3 (.t 21) (.t 20), none, []⟩]))
  (.region false [12, 13] [12, 13] [⟨(some 12), .move (.t 4), none, []⟩,
    ⟨(some 13), .bin .add (.t 12) (.c false [(.int .i64 1)]), none, []⟩,
    ⟨(some 4), .assign (.t 13), none, []⟩]))))))
  (.seq (.region false [22] [22] [⟨(some 22), .move (.t 3), none, []⟩,
    ⟨(some 2), .assign (.t 22), none, []⟩])
  .ret))))⟩
/- laws.FnExactRemember -/
def ir21 : FnIr := ⟨0, 4, 100, [(8, none)], [],
  (.seq (.region false [] [] [⟨(some 8), .assign (.c false [(.bool false)]), none, []⟩])
  (.seq (.seq (.region false [18, 19, 20] [18, 19] [⟨(some 18), .move (.t 2), none, []⟩,
    ⟨(some 19), .len false (.t 18), none, []⟩,
    ⟨(some 20), .bin .gtr (.t 19) (.c false [(.int .i64 1048576)]), none, []⟩])
  (.cond (.t 20)
  (.seq (.region false [] [] [⟨(some 8), .assign (.c false [(.bool true)]), none, []⟩])
  .ret)
  .skip))
  (.seq (.region false [] [] [⟨(some 9), .assign (.c false [(.int .i64 1048576)]), none, []⟩])
  (.seq (.region false [21, 22, 23, 123] [21, 22, 23] [⟨(some 21), .move (.t 0), none, []⟩,
    ⟨(some 22), .move (.t 9), none, []⟩,
    ⟨(some 23), .call 96 [(.t 21), (.t 22)], none, []⟩,
    ⟨(some 9), .assign (.t 23), none, []⟩])
  (.seq (.seq (.region false [24, 25] [24] [⟨(some 24), .move (.t 9), none, []⟩,
    ⟨(some 25), .bin .lss (.t 24) (.c false [(.int .i64 0)]), none, []⟩])
  (.cond (.t 25)
  (.seq (.region false [] [] [⟨(some 8), .assign (.c false [(.bool true)]), none, []⟩])
  .ret)
  .skip))
  (.seq (.region false [26, 27, 28, 29, 30, 31, 32, 127, 130, 132] [26, 27, 28, 29, 30, 31, 32] [⟨(some 26), .move (.t 0), none, []⟩,
    ⟨(some 27), .call 98 [(.t 26)], none, []⟩,
    ⟨(some 28), .move (.t 1), none, []⟩,
    ⟨(some 29), .move (.t 2), none, []⟩,
    ⟨(some 30), .call 76 [(.t 29)], none, []⟩,
    ⟨(some 31), .move (.t 3), none, []⟩,
    ⟨(some 32), .call 135 [(.t 27), (.t 28), (.t 30), (.t 31)], none, []⟩,
    ⟨(some 10), .assign (.t 32), none, []⟩])
  (.seq (.region false [33, 34, 134] [33, 34] [⟨(some 33), .move (.t 0), none, []⟩,
    ⟨(some 34), .call 98 [(.t 33)], none, []⟩,
    ⟨(some 11), .assign (.t 34), none, []⟩])
  (.seq (.region false [35, 36, 136] [35, 36] [⟨(some 35), .move (.t 2), none, []⟩,
    ⟨(some 36), .call 76 [(.t 35)], none, []⟩,
    ⟨(some 12), .assign (.t 36), none, []⟩])
  (.seq (.region false [37, 38, 39, 40, 41, 141] [37, 38, 39, 40, 41] [⟨(some 37), .move (.t 11), none, []⟩,
    ⟨(some 38), .move (.t 1), none, []⟩,
    ⟨(some 39), .move (.t 12), none, []⟩,
    ⟨(some 40), .move (.t 3), none, []⟩,
    ⟨(some 41), .call 136 [(.t 37), (.t 38), (.t 39), (.t 40)], none, []⟩,
    ⟨(some 13), .assign (.t 41), none, []⟩])
  (.seq (.seq (.region false [42, 43, 44, 45, 144] [42, 43, 44] [⟨(some 42), .move (.t 13), none, []⟩,
    ⟨(some 43), .move (.t 10), none, []⟩,
    ⟨(some 44), .call 100 [(.t 42), (.t 43)], none, []⟩,
    ⟨(some 45), .un .not (.t 44), none, []⟩])
  (.cond (.t 45)
  (.seq (.region false [] [] [⟨(some 8), .assign (.c false [(.bool false)]), none, []⟩])
  .ret)
  .skip))
  (.seq (.seq (.region false [46, 47, 48, 49, 50, 148, 149] [46, 47, 48, 49] [⟨(some 46), .move (.t 11), none, []⟩,
    ⟨(some 47), .move (.t 0), none, []⟩,
    ⟨(some 48), .call 98 [(.t 47)], none, []⟩,
    ⟨(some 49), .call 100 [(.t 46), (.t 48)], none, []⟩,
    ⟨(some 50), .un .not (.t 49), none, []⟩])
  (.cond (.t 50)
  (.seq (.region false [] [] [⟨(some 8), .assign (.c false [(.bool false)]), none, []⟩])
  .ret)
  .skip))
  (.seq (.seq (.region false [51, 52, 53, 54, 55, 153, 154] [51, 52, 53, 54] [⟨(some 51), .move (.t 12), none, []⟩,
    ⟨(some 52), .move (.t 2), none, []⟩,
    ⟨(some 53), .call 76 [(.t 52)], none, []⟩,
    ⟨(some 54), .call 79 [(.t 51), (.t 53)], none, []⟩,
    ⟨(some 55), .un .not (.t 54), none, []⟩])
  (.cond (.t 55)
  (.seq (.region false [] [] [⟨(some 8), .assign (.c false [(.bool false)]), none, []⟩])
  .ret)
  .skip))
  (.seq (.region false [] [] [⟨(some 14), .assign (.c false [(.int .i64 1)]), none, []⟩])
  (.seq (.region false [56, 57, 58, 158] [56, 57, 58] [⟨(some 56), .move (.t 11), none, []⟩,
    ⟨(some 57), .move (.t 14), none, []⟩,
    ⟨(some 58), .call 1124 [(.t 56), (.t 57)], none, []⟩,
    ⟨(some 14), .assign (.t 58), none, []⟩])
  (.seq (.region false [59, 60, 61, 161] [59, 60, 61] [⟨(some 59), .move (.t 12), none, []⟩,
    ⟨(some 60), .move (.t 14), none, []⟩,
    ⟨(some 61), .call 1080 [(.t 59), (.t 60)], none, []⟩,
    ⟨(some 14), .assign (.t 61), none, []⟩])
  (.seq (.seq (.region false [62, 63, 64, 65, 66, 67, 68, 69, 167] [62, 63, 64, 65, 66, 67, 68] [⟨(some 62), .move (.t 14), none, []⟩,
    ⟨(some 63), .bin .lss (.t 62) (.c false [(.int .i64 0)]), none, []⟩,
    ⟨(some 64), .move (.t 63), none, []⟩,
    ⟨(some 65), .move (.t 13), (some (64, false)), []⟩,
    ⟨(some 66), .move (.t 10), (some (64, false)), []⟩,
    ⟨(some 67), .call 100 [(.t 65), (.t 66)], (some (64, false)), []⟩,
    ⟨(some 68), .un .not (.t 67), (some (64, false)), []⟩,
    ⟨(some 69), .pick (.t 64) (.c false [(.bool true)]) (.t 68), none, []⟩])
  (.cond (.t 69)
  (.seq (.region false [] [] [⟨(some 8), .assign (.c false [(.bool false)]), none, []⟩])
  .ret)
  .skip))
  (.seq (.region false [] [] [⟨(some 15), .assign (.c false [(.int .i64 1)]), none, []⟩])
  (.seq (.region false [70, 71, 72, 172] [70, 71, 72] [⟨(some 70), .move (.t 13), none, []⟩,
    ⟨(some 71), .move (.t 15), none, []⟩,
    ⟨(some 72), .call 1124 [(.t 70), (.t 71)], none, []⟩,
    ⟨(some 15), .assign (.t 72), none, []⟩])
  (.seq (.region false [] [] [⟨(some 16), .assign (.c false [(.int .i64 1)]), none, []⟩])
  (.seq (.region false [73, 74, 75, 175] [73, 74, 75] [⟨(some 73), .move (.t 13), none, []⟩,
    ⟨(some 74), .move (.t 16), none, []⟩,
    ⟨(some 75), .call 134 [(.t 73), (.t 74)], none, []⟩,
    ⟨(some 16), .assign (.t 75), none, []⟩])
  (.seq (.seq (.region false [76, 77] [76] [⟨(some 76), .move (.t 16), none, []⟩,
    ⟨(some 77), .bin .lss (.t 76) (.c false [(.int .i64 0)]), none, []⟩])
  (.cond (.t 77)
  (.seq (.region false [] [] [⟨(some 8), .assign (.c false [(.bool false)]), none, []⟩])
  .ret)
  .skip))
  (.seq (.seq (.region false [78, 79, 80] [78, 79] [⟨(some 78), .move (.t 16), none, []⟩,
    ⟨(some 79), .move (.t 15), none, []⟩,
    ⟨(some 80), .bin .neq (.t 78) (.t 79), none, []⟩])
  (.cond (.t 80)
  (.seq (.region false [] [] [⟨(some 8), .assign (.c false [(.bool false)]), none, []⟩])
  .ret)
  .skip))
  (.seq (.region false [81, 82, 83, 84, 85, 86, 87, 182, 185, 187] [81, 82, 83, 84, 85, 86, 87] [⟨(some 81), .move (.t 0), none, []⟩,
    ⟨(some 82), .call 98 [(.t 81)], none, []⟩,
    ⟨(some 83), .move (.t 1), none, []⟩,
    ⟨(some 84), .move (.t 2), none, []⟩,
    ⟨(some 85), .call 76 [(.t 84)], none, []⟩,
    ⟨(some 86), .move (.t 3), none, []⟩,
    ⟨(some 87), .call 136 [(.t 82), (.t 83), (.t 85), (.t 86)], none, []⟩,
    ⟨(some 17), .assign (.t 87), none, []⟩])
  (.seq (.seq (.region false [88, 89, 90, 91, 190] [88, 89, 90] [⟨(some 88), .move (.t 17), none, []⟩,
    ⟨(some 89), .move (.t 10), none, []⟩,
    ⟨(some 90), .call 100 [(.t 88), (.t 89)], none, []⟩,
    ⟨(some 91), .un .not (.t 90), none, []⟩])
  (.cond (.t 91)
  (.seq (.region false [] [] [⟨(some 8), .assign (.c false [(.bool false)]), none, []⟩])
  .ret)
  .skip))
  (.seq (.region false [] [] [⟨(some 16), .assign (.c false [(.int .i64 1)]), none, []⟩])
  (.seq (.region false [92, 93, 94, 194] [92, 93, 94] [⟨(some 92), .move (.t 13), none, []⟩,
    ⟨(some 93), .move (.t 16), none, []⟩,
    ⟨(some 94), .call 134 [(.t 92), (.t 93)], none, []⟩,
    ⟨(some 16), .assign (.t 94), none, []⟩])
  (.seq (.seq (.region false [95, 96] [95] [⟨(some 95), .move (.t 16), none, []⟩,
    ⟨(some 96), .bin .lss (.t 95) (.c false [(.int .i64 0)]), none, []⟩])
  (.cond (.t 96)
  (.seq (.region false [] [] [⟨(some 8), .assign (.c false [(.bool false)]), none, []⟩])
  .ret)
  .skip))
  (.seq (.seq (.region false [97, 98, 99] [97, 98] [⟨(some 97), .move (.t 16), none, []⟩,
    ⟨(some 98), .move (.t 15), none, []⟩,
    ⟨(some 99), .bin .neq (.t 97) (.t 98), none, []⟩])
  (.cond (.t 99)
  (.seq (.region false [] [] [⟨(some 8), .assign (.c false [(.bool false)]), none, []⟩])
  .ret)
  .skip))
  (.seq (.region false [] [] [⟨(some 8), .assign (.c false [(.bool true)]), none, []⟩])
  .ret)))))))))))))))))))))))))))))⟩
def tbl : List (Nat × FnIr) := [(79, ir79), (242, ir242), (100, ir100), (1080, ir1080), (1124, ir1124), (125, ir125), (134, ir134), (230, ir230), (274, ir274), (135, ir135), (232, ir232), (275, ir275), (277, ir277), (278, ir278), (136, ir136), (76, ir76), (227, ir227), (238, ir238), (96, ir96), (239, ir239), (98, ir98), (21, ir21)]
def Tb (g : Nat) : Option FnIr := tbl.lookup g
theorem tb_79 : Tb 79 = some ir79 := rfl
theorem tb_242 : Tb 242 = some ir242 := rfl
theorem tb_100 : Tb 100 = some ir100 := rfl
theorem tb_1080 : Tb 1080 = some ir1080 := rfl
theorem tb_1124 : Tb 1124 = some ir1124 := rfl
theorem tb_125 : Tb 125 = some ir125 := rfl
theorem tb_134 : Tb 134 = some ir134 := rfl
theorem tb_230 : Tb 230 = some ir230 := rfl
theorem tb_274 : Tb 274 = some ir274 := rfl
theorem tb_135 : Tb 135 = some ir135 := rfl
theorem tb_232 : Tb 232 = some ir232 := rfl
theorem tb_275 : Tb 275 = some ir275 := rfl
theorem tb_277 : Tb 277 = some ir277 := rfl
theorem tb_278 : Tb 278 = some ir278 := rfl
theorem tb_136 : Tb 136 = some ir136 := rfl
theorem tb_76 : Tb 76 = some ir76 := rfl
theorem tb_227 : Tb 227 = some ir227 := rfl
theorem tb_238 : Tb 238 = some ir238 := rfl
theorem tb_96 : Tb 96 = some ir96 := rfl
theorem tb_239 : Tb 239 = some ir239 := rfl
theorem tb_98 : Tb 98 = some ir98 := rfl
theorem tb_21 : Tb 21 = some ir21 := rfl
end Go.Vm
