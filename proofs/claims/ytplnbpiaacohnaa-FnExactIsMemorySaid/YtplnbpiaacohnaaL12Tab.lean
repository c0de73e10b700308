/- The code of the functions that the law reaches, as data. -/
import Derived.Test.YtplnbpiaacohnaaVmF
set_option maxHeartbeats 4000000
set_option maxRecDepth 10000
set_option linter.unusedVariables false
set_option linter.unusedSimpArgs false
namespace Go.Vm
/- laws.eqIntS -/
def ir79 : FnIr := ⟨0, 2, 26, [(4, none)], [],
  (.seq (.region false [] [] [⟨(some 4), .assign (.c false [(.bool false)]), none, []⟩])
  (.seq (.seq (.region false [6, 7, 8, 9, 10] [6, 7, 8, 9] [⟨(some 6), .move (.t 0), none, []⟩,
    ⟨(some 7), .len false (.t 6), none, []⟩,
    ⟨(some 8), .move (.t 1), none, []⟩,
    ⟨(some 9), .len false (.t 8), none, []⟩,
    ⟨(some 10), .bin .neq (.t 7) (.t 9), none, []⟩])
  (.cond (.t 10)
  (.seq (.region false [] [] [⟨(some 4), .assign (.c false [(.bool false)]), none, []⟩])
  .ret)
  .skip))
  (.seq (.seq (.region false [] [] [⟨(some 5), .assign (.c false [(.int .i64 0)]), none, []⟩])
  (.block 0 (.loop (.seq (.seq (.region false [11, 12, 13, 14] [11, 12, 13] [⟨(some 11), .move (.t 5), none, []⟩,
    ⟨(some 12), .move (.t 0), none, []⟩,
    ⟨(some 13), .len false (.t 12), none, []⟩,
    ⟨(some 14), .bin .lss (.t 11) (.t 13), none, []⟩])
  (.cond (.t 14)
  .skip
  (.exit 0)))
  (.seq (.block 1 (.seq (.region true [17, 18, 19, 20, 21, 22, 23, 24, 25] [17, 18, 19, 20, 21, 22, 23, 24] [⟨(some 17), .move (.t 0), none, []⟩,
    ⟨(some 18), .move (.t 5), none, []⟩,
    ⟨(some 19), .iaddr 1 (.t 17) (.t 18), none, [0, 1]⟩,
    ⟨(some 20), .load false 1 (.t 19), none, [2, 0, 1]⟩,
    ⟨(some 21), .move (.t 1), none, []⟩,
    ⟨(some 22), .move (.t 5), none, []⟩,
    ⟨(some 23), .iaddr 1 (.t 21) (.t 22), none, [4, 5]⟩,
    ⟨(some 24), .load false 1 (.t 23), none, [6, 4, 5]⟩,
    ⟨(some 25), .bin .neq (.t 20) (.t 24), none, [3, 2, 0, 1, 7, 6, 4, 5]⟩])
  (.cond (.t 25)
  (.seq (.region false [] [] [⟨(some 4), .assign (.c false [(.bool false)]), none, []⟩])
  .ret)
  .skip)))
  (.region false [15, 16] [15, 16] [⟨(some 15), .move (.t 5), none, []⟩,
    ⟨(some 16), .bin .add (.t 15) (.c false [(.int .i64 1)]), none, []⟩,
    ⟨(some 5), .assign (.t 16), none, []⟩]))))))
  (.seq (.region false [] [] [⟨(some 4), .assign (.c false [(.bool true)]), none, []⟩])
  .ret))))⟩
/- laws.eqKnown -/
def ir242 : FnIr := ⟨0, 2, 21, [(4, none)], [],
  (.seq (.region false [2, 3, 23, 24] [] [⟨(some 2), .box (.t 0), none, []⟩,
    ⟨(some 3), .box (.t 1), none, []⟩,
    ⟨(some 4), .assign (.c false [(.bool false)]), none, []⟩])
  (.seq (.seq (.region false [5, 6, 7, 8, 9] [5, 6, 7, 8] [⟨(some 5), .faddr 0 (.t 2), none, []⟩,
    ⟨(some 6), .load false 1 (.t 5), none, []⟩,
    ⟨(some 7), .faddr 0 (.t 3), none, []⟩,
    ⟨(some 8), .load false 1 (.t 7), none, []⟩,
    ⟨(some 9), .bin .neq (.t 6) (.t 8), none, []⟩])
  (.cond (.t 9)
  (.seq (.region false [] [] [⟨(some 4), .assign (.c false [(.bool false)]), none, []⟩])
  .ret)
  .skip))
  (.seq (.seq (.region false [10, 11, 12, 13, 14, 15, 35] [10, 11, 12, 13, 14] [⟨(some 10), .faddr 1 (.t 2), none, []⟩,
    ⟨(some 11), .load false 1 (.t 10), none, []⟩,
    ⟨(some 12), .faddr 1 (.t 3), none, []⟩,
    ⟨(some 13), .load false 1 (.t 12), none, []⟩,
    ⟨(some 14), .call 79 [(.t 11), (.t 13)], none, []⟩,
    ⟨(some 15), .un .not (.t 14), none, []⟩])
  (.cond (.t 15)
  (.seq (.region false [] [] [⟨(some 4), .assign (.c false [(.bool false)]), none, []⟩])
  .ret)
  .skip))
  (.seq (.seq (.region false [16, 17, 18, 19, 20] [16, 17, 18, 19] [⟨(some 16), .faddr 2 (.t 2), none, []⟩,
    ⟨(some 17), .load false 1 (.t 16), none, []⟩,
    ⟨(some 18), .faddr 2 (.t 3), none, []⟩,
    ⟨(some 19), .load false 1 (.t 18), none, []⟩,
    ⟨(some 20), .bin .neq (.t 17) (.t 19), none, []⟩])
  (.cond (.t 20)
  (.seq (.region false [] [] [⟨(some 4), .assign (.c false [(.bool false)]), none, []⟩])
  .ret)
  .skip))
  (.seq (.region false [] [] [⟨(some 4), .assign (.c false [(.bool true)]), none, []⟩])
  .ret)))))⟩
/- laws.eqKnownS -/
def ir100 : FnIr := ⟨0, 2, 27, [(4, none)], [],
  (.seq (.region false [] [] [⟨(some 4), .assign (.c false [(.bool false)]), none, []⟩])
  (.seq (.seq (.region false [6, 7, 8, 9, 10] [6, 7, 8, 9] [⟨(some 6), .move (.t 0), none, []⟩,
    ⟨(some 7), .len false (.t 6), none, []⟩,
    ⟨(some 8), .move (.t 1), none, []⟩,
    ⟨(some 9), .len false (.t 8), none, []⟩,
    ⟨(some 10), .bin .neq (.t 7) (.t 9), none, []⟩])
  (.cond (.t 10)
  (.seq (.region false [] [] [⟨(some 4), .assign (.c false [(.bool false)]), none, []⟩])
  .ret)
  .skip))
  (.seq (.seq (.region false [] [] [⟨(some 5), .assign (.c false [(.int .i64 0)]), none, []⟩])
  (.block 0 (.loop (.seq (.seq (.region false [11, 12, 13, 14] [11, 12, 13] [⟨(some 11), .move (.t 5), none, []⟩,
    ⟨(some 12), .move (.t 0), none, []⟩,
    ⟨(some 13), .len false (.t 12), none, []⟩,
    ⟨(some 14), .bin .lss (.t 11) (.t 13), none, []⟩])
  (.cond (.t 14)
  .skip
  (.exit 0)))
  (.seq (.block 1 (.seq (.region true [17, 18, 19, 20, 21, 22, 23, 24, 25, 26, 52] [17, 18, 19, 20, 21, 22, 23, 24, 25] [⟨(some 17), .move (.t 0), none, []⟩,
    ⟨(some 18), .move (.t 5), none, []⟩,
    ⟨(some 19), .iaddr 3 (.t 17) (.t 18), none, [0, 1]⟩,
    ⟨(some 20), .load true 3 (.t 19), none, [2, 0, 1]⟩,
    ⟨(some 21), .move (.t 1), none, []⟩,
    ⟨(some 22), .move (.t 5), none, []⟩,
    ⟨(some 23), .iaddr 3 (.t 21) (.t 22), none, [4, 5]⟩,
    ⟨(some 24), .load true 3 (.t 23), none, [6, 4, 5]⟩,
    ⟨(some 25), .call 242 [(.t 20), (.t 24)], none, [3, 2, 0, 1, 7, 6, 4, 5]⟩,
    ⟨(some 26), .un .not (.t 25), none, [8, 3, 2, 0, 1, 7, 6, 4, 5]⟩])
  (.cond (.t 26)
  (.seq (.region false [] [] [⟨(some 4), .assign (.c false [(.bool false)]), none, []⟩])
  .ret)
  .skip)))
  (.region false [15, 16] [15, 16] [⟨(some 15), .move (.t 5), none, []⟩,
    ⟨(some 16), .bin .add (.t 15) (.c false [(.int .i64 1)]), none, []⟩,
    ⟨(some 5), .assign (.t 16), none, []⟩]))))))
  (.seq (.region false [] [] [⟨(some 4), .assign (.c false [(.bool true)]), none, []⟩])
  .ret))))⟩
/- laws.szIntS -/
def ir227 : FnIr := ⟨0, 2, 12, [(4, none)], [],
  (.seq (.region false [] [] [⟨(some 4), .assign (.c false [(.int .i64 0)]), none, []⟩])
  (.seq (.region false [5, 6, 7, 8] [5, 6, 7, 8] [⟨(some 5), .move (.t 1), none, []⟩,
    ⟨(some 6), .move (.t 0), none, []⟩,
    ⟨(some 7), .len false (.t 6), none, []⟩,
    ⟨(some 8), .bin .sub (.t 5) (.t 7), none, []⟩,
    ⟨(some 1), .assign (.t 8), none, []⟩])
  (.seq (.seq (.region false [9, 10] [9] [⟨(some 9), .move (.t 1), none, []⟩,
    ⟨(some 10), .bin .lss (.t 9) (.c false [(.int .i64 0)]), none, []⟩])
  (.cond (.t 10)
  (.seq (.region false [] [] [⟨(some 4), .assign (.c false [(.int .i64 (-1))]), none, []⟩])
  .ret)
  .skip))
  (.seq (.region false [11] [11] [⟨(some 11), .move (.t 1), none, []⟩,
    ⟨(some 4), .assign (.t 11), none, []⟩])
  .ret))))⟩
/- laws.szKnown -/
def ir238 : FnIr := ⟨0, 2, 12, [(4, none)], [],
  (.seq (.region false [2, 14] [] [⟨(some 2), .box (.t 0), none, []⟩,
    ⟨(some 4), .assign (.c false [(.int .i64 0)]), none, []⟩])
  (.seq (.region false [5, 6, 7, 8, 20] [5, 6, 7, 8] [⟨(some 5), .faddr 1 (.t 2), none, []⟩,
    ⟨(some 6), .load false 1 (.t 5), none, []⟩,
    ⟨(some 7), .move (.t 1), none, []⟩,
    ⟨(some 8), .call 227 [(.t 6), (.t 7)], none, []⟩,
    ⟨(some 1), .assign (.t 8), none, []⟩])
  (.seq (.seq (.region false [9, 10] [9] [⟨(some 9), .move (.t 1), none, []⟩,
    ⟨(some 10), .bin .lss (.t 9) (.c false [(.int .i64 0)]), none, []⟩])
  (.cond (.t 10)
  (.seq (.region false [] [] [⟨(some 4), .assign (.c false [(.int .i64 (-1))]), none, []⟩])
  .ret)
  .skip))
  (.seq (.region false [11] [11] [⟨(some 11), .move (.t 1), none, []⟩,
    ⟨(some 4), .assign (.t 11), none, []⟩])
  .ret))))⟩
/- laws.szKnownS -/
def ir96 : FnIr := ⟨0, 2, 27, [(4, none)], [],
  (.seq (.region false [] [] [⟨(some 4), .assign (.c false [(.int .i64 0)]), none, []⟩])
  (.seq (.region false [6, 7, 8, 9] [6, 7, 8, 9] [⟨(some 6), .move (.t 1), none, []⟩,
    ⟨(some 7), .move (.t 0), none, []⟩,
    ⟨(some 8), .len false (.t 7), none, []⟩,
    ⟨(some 9), .bin .sub (.t 6) (.t 8), none, []⟩,
    ⟨(some 1), .assign (.t 9), none, []⟩])
  (.seq (.seq (.region false [10, 11] [10] [⟨(some 10), .move (.t 1), none, []⟩,
    ⟨(some 11), .bin .lss (.t 10) (.c false [(.int .i64 0)]), none, []⟩])
  (.cond (.t 11)
  (.seq (.region false [] [] [⟨(some 4), .assign (.c false [(.int .i64 (-1))]), none, []⟩])
  .ret)
  .skip))
  (.seq (.seq (.region false [] [] [⟨(some 5), .assign (.c false [(.int .i64 0)]), none, []⟩])
  (.block 0 (.loop (.seq (.seq (.region false [12, 13, 14, 15] [12, 13, 14] [⟨(some 12), .move (.t 5), none, []⟩,
    ⟨(some 13), .move (.t 0), none, []⟩,
    ⟨(some 14), .len false (.t 13), none, []⟩,
    ⟨(some 15), .bin .lss (.t 12) (.t 14), none, []⟩])
  (.cond (.t 15)
  .skip
  (.exit 0)))
  (.seq (.block 1 (.seq (.region false [18, 19, 20, 21, 22, 23, 50] [18, 19, 20, 21, 22, 23] [⟨(some 18), .move (.t 0), none, []⟩,
    ⟨(some 19), .move (.t 5), none, []⟩,
    ⟨(some 20), .iaddr 3 (.t 18) (.t 19), none, []⟩,
    ⟨(some 21), .load true 3 (.t 20), none, []⟩,
    ⟨(some 22), .move (.t 1), none, []⟩,
    ⟨(some 23), .call 238 [(.t 21), (.t 22)], none, []⟩,
    ⟨(some 1), .assign (.t 23), none, []⟩])
  (.seq (.region false [24, 25] [24] [⟨(some 24), .move (.t 1), none, []⟩,
    ⟨(some 25), .bin .lss (.t 24) (.c false [(.int .i64 0)]), none, []⟩])
  (.cond (.t 25)
  (.seq (.region false [] [] [⟨(some 4), .assign (.c false [(.int .i64 (-1))]), none, []⟩])
  .ret)
  .skip))))
  (.region false [16, 17] [16, 17] [⟨(some 16), .move (.t 5), none, []⟩,
    ⟨(some 17), .bin .add (.t 16) (.c false [(.int .i64 1)]), none, []⟩,
    ⟨(some 5), .assign (.t 17), none, []⟩]))))))
  (.seq (.region false [26] [26] [⟨(some 26), .move (.t 1), none, []⟩,
    ⟨(some 4), .assign (.t 26), none, []⟩])
  .ret)))))⟩
/- spec.l1In -/
def ir230 : FnIr := ⟨0, 3, 15, [(6, none)], [],
  (.seq (.region false [] [] [⟨(some 6), .assign (.c false [(.bool false)]), none, []⟩])
  (.seq (.region false [7, 8, 9, 10, 11, 12, 13, 14] [7, 8, 9, 10, 11, 12, 13, 14] [⟨(some 7), .move (.t 0), none, []⟩,
    ⟨(some 8), .move (.t 1), none, []⟩,
    ⟨(some 9), .bin .geq (.t 7) (.t 8), none, []⟩,
    ⟨(some 10), .move (.t 9), none, []⟩,
    ⟨(some 11), .move (.t 0), (some (10, true)), []⟩,
    ⟨(some 12), .move (.t 2), (some (10, true)), []⟩,
    ⟨(some 13), .bin .leq (.t 11) (.t 12), (some (10, true)), []⟩,
    ⟨(some 14), .pick (.t 10) (.t 13) (.c false [(.bool false)]), none, []⟩,
    ⟨(some 6), .assign (.t 14), none, []⟩])
  .ret))⟩
/- slices.IndexFunc[[]int,int] -/
def ir377 : FnIr := ⟨0, 2, 19, [(4, none)], [],
  (.seq (.region false [] [] [⟨(some 4), .assign (.c false [(.int .i64 0)]), none, []⟩])
  (.seq (.seq (.region false [6, 7, 8] [6] [⟨(some 6), .move (.t 0), none, []⟩,
    ⟨(some 7), .len false (.t 6), none, []⟩,
    ⟨(some 8), .move (.c false [(.int .i64 0)]), none, []⟩])
  (.block 0 (.loop (.seq (.region false [9] [] [⟨(some 9), .bin .lss (.t 8) (.t 7), none, []⟩])
  (.seq (.cond (.t 9)
  .skip
  (.exit 0))
  (.seq (.block 1 (.seq (.region false [10] [10] [⟨(some 10), .move (.t 8), none, []⟩,
    ⟨(some 5), .assign (.t 10), none, []⟩])
  (.seq (.region false [11, 12, 13, 14, 15, 16, 35] [11, 12, 13, 14, 15] [⟨(some 11), .move (.t 1), none, []⟩,
    ⟨(some 12), .move (.t 0), none, []⟩,
    ⟨(some 13), .move (.t 5), none, []⟩,
    ⟨(some 14), .iaddr 1 (.t 12) (.t 13), none, []⟩,
    ⟨(some 15), .load false 1 (.t 14), none, []⟩,
    ⟨(some 16), .callv (.t 11) [(.t 15)], none, []⟩])
  (.cond (.t 16)
  (.seq (.region false [17] [17] [⟨(some 17), .move (.t 5), none, []⟩,
    ⟨(some 4), .assign (.t 17), none, []⟩])
  .ret)
  .skip))))
  (.region false [18] [18] [⟨(some 18), .bin .add (.t 8) (.c false [(.int .i64 1)]), none, []⟩,
    ⟨(some 8), .move (.t 18), none, []⟩])))))))
  (.seq (.region false [] [] [⟨(some 4), .assign (.c false [(.int .i64 (-1))]), none, []⟩])
  .ret)))⟩
/- slices.ContainsFunc[[]int,int] -/
def ir336 : FnIr := ⟨0, 2, 9, [(4, none)], [],
  (.seq (.region false [] [] [⟨(some 4), .assign (.c false [(.bool false)]), none, []⟩])
  (.seq (.region false [5, 6, 7, 8, 16] [5, 6, 7, 8] [⟨(some 5), .move (.t 0), none, []⟩,
    ⟨(some 6), .move (.t 1), none, []⟩,
    ⟨(some 7), .call 377 [(.t 5), (.t 6)], none, []⟩,
    ⟨(some 8), .bin .geq (.t 7) (.c false [(.int .i64 0)]), none, []⟩,
    ⟨(some 4), .assign (.t 8), none, []⟩])
  .ret))⟩
/- impl.InRange -/
def ir232 : FnIr := ⟨0, 3, 15, [(6, none)], [],
  (.seq (.region false [] [] [⟨(some 6), .assign (.c false [(.bool false)]), none, []⟩])
  (.seq (.region false [7, 8, 9, 10, 11, 12, 13, 14] [7, 8, 9, 10, 11, 12, 13, 14] [⟨(some 7), .move (.t 1), none, []⟩,
    ⟨(some 8), .move (.t 0), none, []⟩,
    ⟨(some 9), .bin .leq (.t 7) (.t 8), none, []⟩,
    ⟨(some 10), .move (.t 9), none, []⟩,
    ⟨(some 11), .move (.t 0), (some (10, true)), []⟩,
    ⟨(some 12), .move (.t 2), (some (10, true)), []⟩,
    ⟨(some 13), .bin .leq (.t 11) (.t 12), (some (10, true)), []⟩,
    ⟨(some 14), .pick (.t 10) (.t 13) (.c false [(.bool false)]), none, []⟩,
    ⟨(some 6), .assign (.t 14), none, []⟩])
  .ret))⟩
/- impl.areNumbers$1 -/
def ir340 : FnIr := ⟨0, 3, 10, [(4, none)], [],
  (.seq (.region false [] [] [⟨(some 4), .assign (.c false [(.bool false)]), none, []⟩])
  (.seq (.region false [5, 6, 7, 8, 9, 18] [5, 6, 7, 8, 9] [⟨(some 5), .move (.t 0), none, []⟩,
    ⟨(some 6), .load false 1 (.t 1), none, []⟩,
    ⟨(some 7), .load false 1 (.t 2), none, []⟩,
    ⟨(some 8), .call 232 [(.t 5), (.t 6), (.t 7)], none, []⟩,
    ⟨(some 9), .un .not (.t 8), none, []⟩,
    ⟨(some 4), .assign (.t 9), none, []⟩])
  .ret))⟩
/- impl.areNumbers -/
def ir233 : FnIr := ⟨0, 3, 11, [(6, none)], [],
  (.seq (.region false [4, 5, 15, 16] [] [⟨(some 4), .box (.t 1), none, []⟩,
    ⟨(some 5), .box (.t 2), none, []⟩,
    ⟨(some 6), .assign (.c false [(.bool false)]), none, []⟩])
  (.seq (.region false [7, 8, 9, 10, 20] [7, 8, 9, 10] [⟨(some 7), .move (.t 0), none, []⟩,
    ⟨(some 8), .mkfn 340 [4, 5], none, []⟩,
    ⟨(some 9), .call 336 [(.t 7), (.t 8)], none, []⟩,
    ⟨(some 10), .un .not (.t 9), none, []⟩,
    ⟨(some 6), .assign (.t 10), none, []⟩])
  .ret))⟩
/- spec.IsMemory -/
def ir97 : FnIr := ⟨0, 2, 79, [(4, none)], [],
  (.seq (.region false [] [] [⟨(some 4), .assign (.c false [(.bool false)]), none, []⟩])
  (.seq (.seq (.region false [] [] [⟨(some 5), .assign (.c false [(.int .i64 0)]), none, []⟩])
  (.block 0 (.loop (.seq (.seq (.region false [8, 9, 10, 11] [8, 9, 10] [⟨(some 8), .move (.t 5), none, []⟩,
    ⟨(some 9), .move (.t 0), none, []⟩,
    ⟨(some 10), .len false (.t 9), none, []⟩,
    ⟨(some 11), .bin .lss (.t 8) (.t 10), none, []⟩])
  (.cond (.t 11)
  .skip
  (.exit 0)))
  (.seq (.block 1 (.seq (.seq (.region false [14, 15, 16, 17, 18, 19, 20, 21, 22, 23, 24, 25, 26, 27, 28, 29, 30, 31, 32, 33, 34, 35, 36, 37, 38, 39, 98, 116] [14, 15, 16, 17, 18, 19, 20, 21, 22, 23, 24, 25, 26, 27, 28, 29, 30, 31, 32, 33, 34, 35, 36, 37, 38] [⟨(some 14), .move (.t 0), none, []⟩,
    ⟨(some 15), .move (.t 5), none, []⟩,
    ⟨(some 16), .iaddr 3 (.t 14) (.t 15), none, []⟩,
    ⟨(some 17), .faddr 0 (.t 16), none, []⟩,
    ⟨(some 18), .load false 1 (.t 17), none, []⟩,
    ⟨(some 19), .call 230 [(.t 18), (.c false [(.int .i64 0)]), (.c false [(.int .i64 5)])], none, []⟩,
    ⟨(some 20), .un .not (.t 19), none, []⟩,
    ⟨(some 21), .move (.t 20), none, []⟩,
    ⟨(some 22), .move (.t 0), (some (21, false)), []⟩,
    ⟨(some 23), .move (.t 5), (some (21, false)), []⟩,
    ⟨(some 24), .iaddr 3 (.t 22) (.t 23), (some (21, false)), []⟩,
    ⟨(some 25), .faddr 1 (.t 24), (some (21, false)), []⟩,
    ⟨(some 26), .load false 1 (.t 25), (some (21, false)), []⟩,
    ⟨(some 27), .len false (.t 26), (some (21, false)), []⟩,
    ⟨(some 28), .bin .gtr (.t 27) (.c false [(.int .i64 12)]), (some (21, false)), []⟩,
    ⟨(some 29), .pick (.t 21) (.c false [(.bool true)]) (.t 28), none, []⟩,
    ⟨(some 30), .move (.t 29), none, []⟩,
    ⟨(some 31), .move (.t 0), (some (30, false)), []⟩,
    ⟨(some 32), .move (.t 5), (some (30, false)), []⟩,
    ⟨(some 33), .iaddr 3 (.t 31) (.t 32), (some (30, false)), []⟩,
    ⟨(some 34), .faddr 2 (.t 33), (some (30, false)), []⟩,
    ⟨(some 35), .load false 1 (.t 34), (some (30, false)), []⟩,
    ⟨(some 36), .move (.t 1), (some (30, false)), []⟩,
    ⟨(some 37), .call 230 [(.t 35), (.c false [(.int .i64 0)]), (.t 36)], (some (30, false)), []⟩,
    ⟨(some 38), .un .not (.t 37), (some (30, false)), []⟩,
    ⟨(some 39), .pick (.t 30) (.c false [(.bool true)]) (.t 38), none, []⟩])
  (.cond (.t 39)
  (.seq (.region false [] [] [⟨(some 4), .assign (.c false [(.bool false)]), none, []⟩])
  .ret)
  .skip))
  (.seq (.seq (.region false [] [] [⟨(some 6), .assign (.c false [(.int .i64 0)]), none, []⟩])
  (.block 2 (.loop (.seq (.seq (.region false [40, 41, 42] [40, 41] [⟨(some 40), .move (.t 6), none, []⟩,
    ⟨(some 41), .move (.t 5), none, []⟩,
    ⟨(some 42), .bin .lss (.t 40) (.t 41), none, []⟩])
  (.cond (.t 42)
  .skip
  (.exit 2)))
  (.seq (.block 3 (.seq (.region true [45, 46, 47, 48, 49, 50, 51, 52, 53, 54, 55] [45, 46, 47, 48, 49, 50, 51, 52, 53, 54] [⟨(some 45), .move (.t 0), none, []⟩,
    ⟨(some 46), .move (.t 6), none, []⟩,
    ⟨(some 47), .iaddr 3 (.t 45) (.t 46), none, [0, 1]⟩,
    ⟨(some 48), .faddr 0 (.t 47), none, [2, 0, 1]⟩,
    ⟨(some 49), .load false 1 (.t 48), none, [3, 2, 0, 1]⟩,
    ⟨(some 50), .move (.t 0), none, []⟩,
    ⟨(some 51), .move (.t 5), none, []⟩,
    ⟨(some 52), .iaddr 3 (.t 50) (.t 51), none, [5, 6]⟩,
    ⟨(some 53), .faddr 0 (.t 52), none, [7, 5, 6]⟩,
    ⟨(some 54), .load false 1 (.t 53), none, [8, 7, 5, 6]⟩,
    ⟨(some 55), .bin .eql (.t 49) (.t 54), none, [4, 3, 2, 0, 1, 9, 8, 7, 5, 6]⟩])
  (.cond (.t 55)
  (.seq (.region false [] [] [⟨(some 4), .assign (.c false [(.bool false)]), none, []⟩])
  .ret)
  .skip)))
  (.region false [43, 44] [43, 44] [⟨(some 43), .move (.t 6), none, []⟩,
    ⟨(some 44), .bin .add (.t 43) (.c false [(.int .i64 1)]), none, []⟩,
    ⟨(some 6), .assign (.t 44), none, []⟩]))))))
  (.seq (.region false [] [] [⟨(some 7), .assign (.c false [(.int .i64 0)]), none, []⟩])
  (.block 4 (.loop (.seq (.seq (.region false [56, 57, 58, 59, 60, 61, 62, 63] [56, 57, 58, 59, 60, 61, 62] [⟨(some 56), .move (.t 7), none, []⟩,
    ⟨(some 57), .move (.t 0), none, []⟩,
    ⟨(some 58), .move (.t 5), none, []⟩,
    ⟨(some 59), .iaddr 3 (.t 57) (.t 58), none, []⟩,
    ⟨(some 60), .faddr 1 (.t 59), none, []⟩,
    ⟨(some 61), .load false 1 (.t 60), none, []⟩,
    ⟨(some 62), .len false (.t 61), none, []⟩,
    ⟨(some 63), .bin .lss (.t 56) (.t 62), none, []⟩])
  (.cond (.t 63)
  .skip
  (.exit 4)))
  (.seq (.block 5 (.seq (.region false [66, 67, 68, 69, 70, 71, 72, 73, 74, 75, 153] [66, 67, 68, 69, 70, 71, 72, 73, 74] [⟨(some 66), .move (.t 0), none, []⟩,
    ⟨(some 67), .move (.t 5), none, []⟩,
    ⟨(some 68), .iaddr 3 (.t 66) (.t 67), none, []⟩,
    ⟨(some 69), .faddr 1 (.t 68), none, []⟩,
    ⟨(some 70), .load false 1 (.t 69), none, []⟩,
    ⟨(some 71), .move (.t 7), none, []⟩,
    ⟨(some 72), .iaddr 1 (.t 70) (.t 71), none, []⟩,
    ⟨(some 73), .load false 1 (.t 72), none, []⟩,
    ⟨(some 74), .call 230 [(.t 73), (.c false [(.int .i64 1)]), (.c false [(.int .i64 1255)])], none, []⟩,
    ⟨(some 75), .un .not (.t 74), none, []⟩])
  (.cond (.t 75)
  (.seq (.region false [] [] [⟨(some 4), .assign (.c false [(.bool false)]), none, []⟩])
  .ret)
  .skip)))
  (.region false [64, 65] [64, 65] [⟨(some 64), .move (.t 7), none, []⟩,
    ⟨(some 65), .bin .add (.t 64) (.c false [(.int .i64 1)]), none, []⟩,
    ⟨(some 7), .assign (.t 65), none, []⟩])))))))))
  (.region false [12, 13] [12, 13] [⟨(some 12), .move (.t 5), none, []⟩,
    ⟨(some 13), .bin .add (.t 12) (.c false [(.int .i64 1)]), none, []⟩,
    ⟨(some 5), .assign (.t 13), none, []⟩]))))))
  (.seq (.region false [76, 77, 78] [76, 77, 78] [⟨(some 76), .move (.t 0), none, []⟩,
    ⟨(some 77), .len false (.t 76), none, []⟩,
    ⟨(some 78), .bin .leq (.t 77) (.c false [(.int .i64 6)]), none, []⟩,
    ⟨(some 4), .assign (.t 78), none, []⟩])
  .ret)))⟩
/- laws.toIntS -/
def ir76 : FnIr := ⟨0, 1, 22, [(2, none)], [],
  (.seq (.region false [] [] [⟨(some 2), .assign (.c false [(.row () [])]), none, []⟩])
  (.seq (.region false [5, 6, 7] [5, 6, 7] [⟨(some 5), .move (.t 0), none, []⟩,
    ⟨(some 6), .len false (.t 5), none, []⟩,
    ⟨(some 7), .mkslice [(.int .i64 0)] (.t 6) (.t 6), none, []⟩,
    ⟨(some 3), .assign (.t 7), none, []⟩])
  (.seq (.seq (.region false [] [] [⟨(some 4), .assign (.c false [(.int .i64 0)]), none, []⟩])
  (.block 0 (.loop (.seq (.seq (.region false [8, 9, 10, 11] [8, 9, 10] [⟨(some 8), .move (.t 4), none, []⟩,
    ⟨(some 9), .move (.t 0), none, []⟩,
    ⟨(some 10), .len false (.t 9), none, []⟩,
    ⟨(some 11), .bin .lss (.t 8) (.t 10), none, []⟩])
  (.cond (.t 11)
  .skip
  (.exit 0)))
  (.seq (.block 1 (.region false [14, 15, 16, 17, 18, 19, 20] [14, 15, 16, 17, 18, 19, 20] [⟨(some 14), .move (.t 3), none, []⟩,
    ⟨(some 15), .move (.t 4), none, []⟩,
    ⟨(some 16), .move (.t 0), none, []⟩,
    ⟨(some 17), .move (.t 4), none, []⟩,
    ⟨(some 18), .iaddr 1 (.t 16) (.t 17), none, []⟩,
    ⟨(some 19), .load false 1 (.t 18), none, []⟩,
    ⟨(some 20), .iaddr 1 (.t 14) (.t 15), none, []⟩,
    ⟨none, .rstore 1 (.t 20) (.t 19), none, []⟩]))
  (.region false [12, 13] [12, 13] [⟨(some 12), .move (.t 4), none, []⟩,
    ⟨(some 13), .bin .add (.t 12) (.c false [(.int .i64 1)]), none, []⟩,
    ⟨(some 4), .assign (.t 13), none, []⟩]))))))
  (.seq (.region false [21] [21] [⟨(some 21), .move (.t 3), none, []⟩,
    ⟨(some 2), .assign (.t 21), none, []⟩])
  .ret))))⟩
/- laws.toKnown -/
def ir239 : FnIr := ⟨0, 1, 15, [(2, (some (true, 3)))], [],
  (.seq (.region false [1, 2, 16, 17] [] [⟨(some 1), .box (.t 0), none, []⟩,
    ⟨(some 2), .alloc [(.int .i64 0), (.row () []), (.int .i64 0)], none, []⟩])
  (.seq (.region false [3, 18] [] [⟨(some 3), .alloc [(.int .i64 0), (.row () []), (.int .i64 0)], none, []⟩])
  (.seq (.region false [4, 5, 6] [4, 5, 6] [⟨(some 4), .faddr 0 (.t 1), none, []⟩,
    ⟨(some 5), .load false 1 (.t 4), none, []⟩,
    ⟨(some 6), .faddr 0 (.t 3), none, []⟩,
    ⟨none, .store 1 (.t 6) (.t 5), none, []⟩])
  (.seq (.region false [7, 8, 9, 10, 24] [7, 8, 9, 10] [⟨(some 7), .faddr 1 (.t 1), none, []⟩,
    ⟨(some 8), .load false 1 (.t 7), none, []⟩,
    ⟨(some 9), .call 76 [(.t 8)], none, []⟩,
    ⟨(some 10), .faddr 1 (.t 3), none, []⟩,
    ⟨none, .store 1 (.t 10) (.t 9), none, []⟩])
  (.seq (.region false [11, 12, 13] [11, 12, 13] [⟨(some 11), .faddr 2 (.t 1), none, []⟩,
    ⟨(some 12), .load false 1 (.t 11), none, []⟩,
    ⟨(some 13), .faddr 2 (.t 3), none, []⟩,
    ⟨none, .store 1 (.t 13) (.t 12), none, []⟩])
  (.seq (.region false [14] [14] [⟨(some 14), .load true 3 (.t 3), none, []⟩,
    ⟨none, .store 3 (.t 2) (.t 14), none, []⟩])
  .ret))))))⟩
/- laws.toKnownS -/
def ir98 : FnIr := ⟨0, 1, 23, [(2, none)], [],
  (.seq (.region false [] [] [⟨(some 2), .assign (.c false [(.row () [])]), none, []⟩])
  (.seq (.region false [5, 6, 7] [5, 6, 7] [⟨(some 5), .move (.t 0), none, []⟩,
    ⟨(some 6), .len false (.t 5), none, []⟩,
    ⟨(some 7), .mkslice [(.int .i64 0), (.row () []), (.int .i64 0)] (.t 6) (.t 6), none, []⟩,
    ⟨(some 3), .assign (.t 7), none, []⟩])
  (.seq (.seq (.region false [] [] [⟨(some 4), .assign (.c false [(.int .i64 0)]), none, []⟩])
  (.block 0 (.loop (.seq (.seq (.region false [8, 9, 10, 11] [8, 9, 10] [⟨(some 8), .move (.t 4), none, []⟩,
    ⟨(some 9), .move (.t 0), none, []⟩,
    ⟨(some 10), .len false (.t 9), none, []⟩,
    ⟨(some 11), .bin .lss (.t 8) (.t 10), none, []⟩])
  (.cond (.t 11)
  .skip
  (.exit 0)))
  (.seq (.block 1 (.region false [14, 15, 16, 17, 18, 19, 20, 21, 43] [14, 15, 16, 17, 18, 19, 20, 21] [⟨(some 14), .move (.t 3), none, []⟩,
    ⟨(some 15), .move (.t 4), none, []⟩,
    ⟨(some 16), .move (.t 0), none, []⟩,
    ⟨(some 17), .move (.t 4), none, []⟩,
    ⟨(some 18), .iaddr 3 (.t 16) (.t 17), none, []⟩,
    ⟨(some 19), .load true 3 (.t 18), none, []⟩,
    ⟨(some 20), .call 239 [(.t 19)], none, []⟩,
    ⟨(some 21), .iaddr 3 (.t 14) (.t 15), none, []⟩,
    ⟨none, .rstore 3 (.t 21) (.t 20), none, []⟩]))
  (.region false [12, 13] [12, 13] [⟨(some 12), .move (.t 4), none, []⟩,
    ⟨(some 13), .bin .add (.t 12) (.c false [(.int .i64 1)]), none, []⟩,
    ⟨(some 4), .assign (.t 13), none, []⟩]))))))
  (.seq (.region false [22] [22] [⟨(some 22), .move (.t 3), none, []⟩,
    ⟨(some 2), .assign (.t 22), none, []⟩])
  .ret))))⟩
/- impl.Known] -/
def ir342 : FnIr := ⟨0, 2, 19, [(4, none)], [],
  (.seq (.region false [] [] [⟨(some 4), .assign (.c false [(.int .i64 0)]), none, []⟩])
  (.seq (.seq (.region false [6, 7, 8] [6] [⟨(some 6), .move (.t 0), none, []⟩,
    ⟨(some 7), .len false (.t 6), none, []⟩,
    ⟨(some 8), .move (.c false [(.int .i64 0)]), none, []⟩])
  (.block 0 (.loop (.seq (.region false [9] [] [⟨(some 9), .bin .lss (.t 8) (.t 7), none, []⟩])
  (.seq (.cond (.t 9)
  .skip
  (.exit 0))
  (.seq (.block 1 (.seq (.region false [10] [10] [⟨(some 10), .move (.t 8), none, []⟩,
    ⟨(some 5), .assign (.t 10), none, []⟩])
  (.seq (.region false [11, 12, 13, 14, 15, 16, 35] [11, 12, 13, 14, 15] [⟨(some 11), .move (.t 1), none, []⟩,
    ⟨(some 12), .move (.t 0), none, []⟩,
    ⟨(some 13), .move (.t 5), none, []⟩,
    ⟨(some 14), .iaddr 3 (.t 12) (.t 13), none, []⟩,
    ⟨(some 15), .load true 3 (.t 14), none, []⟩,
    ⟨(some 16), .callv (.t 11) [(.t 15)], none, []⟩])
  (.cond (.t 16)
  (.seq (.region false [17] [17] [⟨(some 17), .move (.t 5), none, []⟩,
    ⟨(some 4), .assign (.t 17), none, []⟩])
  .ret)
  .skip))))
  (.region false [18] [18] [⟨(some 18), .bin .add (.t 8) (.c false [(.int .i64 1)]), none, []⟩,
    ⟨(some 8), .move (.t 18), none, []⟩])))))))
  (.seq (.region false [] [] [⟨(some 4), .assign (.c false [(.int .i64 (-1))]), none, []⟩])
  .ret)))⟩
/- impl.Known] -/
def ir240 : FnIr := ⟨0, 2, 9, [(4, none)], [],
  (.seq (.region false [] [] [⟨(some 4), .assign (.c false [(.bool false)]), none, []⟩])
  (.seq (.region false [5, 6, 7, 8, 16] [5, 6, 7, 8] [⟨(some 5), .move (.t 0), none, []⟩,
    ⟨(some 6), .move (.t 1), none, []⟩,
    ⟨(some 7), .call 342 [(.t 5), (.t 6)], none, []⟩,
    ⟨(some 8), .bin .geq (.t 7) (.c false [(.int .i64 0)]), none, []⟩,
    ⟨(some 4), .assign (.t 8), none, []⟩])
  .ret))⟩
/- impl.IsMemory$1 -/
def ir241 : FnIr := ⟨0, 2, 9, [(3, none)], [],
  (.seq (.region false [2, 11] [] [⟨(some 2), .box (.t 0), none, []⟩,
    ⟨(some 3), .assign (.c false [(.bool false)]), none, []⟩])
  (.seq (.region false [4, 5, 6, 7, 8] [4, 5, 6, 7, 8] [⟨(some 4), .faddr 0 (.t 2), none, []⟩,
    ⟨(some 5), .load false 1 (.t 4), none, []⟩,
    ⟨(some 6), .faddr 0 (.t 1), none, []⟩,
    ⟨(some 7), .load false 1 (.t 6), none, []⟩,
    ⟨(some 8), .bin .eql (.t 5) (.t 7), none, []⟩,
    ⟨(some 3), .assign (.t 8), none, []⟩])
  .ret))⟩
/- impl.IsMemory -/
def ir99 : FnIr := ⟨0, 2, 46, [(4, none)], [],
  (.seq (.region false [] [] [⟨(some 4), .assign (.c false [(.bool false)]), none, []⟩])
  (.seq (.seq (.region false [7, 8, 9] [] [⟨(some 7), .move (.t 0), none, []⟩,
    ⟨(some 8), .len false (.t 7), none, []⟩,
    ⟨(some 9), .move (.c false [(.int .i64 0)]), none, []⟩])
  (.block 0 (.loop (.seq (.region false [10] [] [⟨(some 10), .bin .lss (.t 9) (.t 8), none, []⟩])
  (.seq (.cond (.t 10)
  .skip
  (.exit 0))
  (.seq (.block 1 (.seq (.region false [11, 12, 13, 6, 52] [11, 12, 13] [⟨(some 11), .move (.t 9), none, []⟩,
    ⟨(some 12), .iaddr 3 (.t 7) (.t 9), none, []⟩,
    ⟨(some 13), .load true 3 (.t 12), none, []⟩,
    ⟨(some 6), .alloc [(.int .i64 0), (.row () []), (.int .i64 0)], none, []⟩,
    ⟨(some 5), .assign (.t 11), none, []⟩,
    ⟨none, .store 3 (.t 6) (.t 13), none, []⟩])
  (.seq (.seq (.region false [14, 15, 16, 17, 18, 19, 20, 21, 22, 23, 24, 25, 26, 27, 28, 29, 30, 31, 32, 33, 34, 35, 36, 62, 73, 80] [14, 15, 16, 17, 18, 19, 20, 21, 22, 23, 24, 25, 26, 27, 28, 29, 30, 31, 32, 33, 34, 35] [⟨(some 14), .faddr 0 (.t 6), none, []⟩,
    ⟨(some 15), .load false 1 (.t 14), none, []⟩,
    ⟨(some 16), .call 232 [(.t 15), (.c false [(.int .i64 0)]), (.c false [(.int .i64 5)])], none, []⟩,
    ⟨(some 17), .un .not (.t 16), none, []⟩,
    ⟨(some 18), .move (.t 17), none, []⟩,
    ⟨(some 19), .faddr 1 (.t 6), (some (18, false)), []⟩,
    ⟨(some 20), .load false 1 (.t 19), (some (18, false)), []⟩,
    ⟨(some 21), .len false (.t 20), (some (18, false)), []⟩,
    ⟨(some 22), .bin .gtr (.t 21) (.c false [(.int .i64 12)]), (some (18, false)), []⟩,
    ⟨(some 23), .pick (.t 18) (.c false [(.bool true)]) (.t 22), none, []⟩,
    ⟨(some 24), .move (.t 23), none, []⟩,
    ⟨(some 25), .faddr 1 (.t 6), (some (24, false)), []⟩,
    ⟨(some 26), .load false 1 (.t 25), (some (24, false)), []⟩,
    ⟨(some 27), .call 233 [(.t 26), (.c false [(.int .i64 1)]), (.c false [(.int .i64 1255)])], (some (24, false)), []⟩,
    ⟨(some 28), .un .not (.t 27), (some (24, false)), []⟩,
    ⟨(some 29), .pick (.t 24) (.c false [(.bool true)]) (.t 28), none, []⟩,
    ⟨(some 30), .move (.t 29), none, []⟩,
    ⟨(some 31), .faddr 2 (.t 6), (some (30, false)), []⟩,
    ⟨(some 32), .load false 1 (.t 31), (some (30, false)), []⟩,
    ⟨(some 33), .move (.t 1), (some (30, false)), []⟩,
    ⟨(some 34), .call 232 [(.t 32), (.c false [(.int .i64 0)]), (.t 33)], (some (30, false)), []⟩,
    ⟨(some 35), .un .not (.t 34), (some (30, false)), []⟩,
    ⟨(some 36), .pick (.t 30) (.c false [(.bool true)]) (.t 35), none, []⟩])
  (.cond (.t 36)
  (.seq (.region false [] [] [⟨(some 4), .assign (.c false [(.bool false)]), none, []⟩])
  .ret)
  .skip))
  (.seq (.region false [37, 38, 39, 40, 41, 87] [37, 38, 39, 40] [⟨(some 37), .move (.t 0), none, []⟩,
    ⟨(some 38), .move (.t 5), none, []⟩,
    ⟨(some 39), .slice 3 (.t 37) none (some (.t 38)), none, []⟩,
    ⟨(some 40), .mkfn 241 [6], none, []⟩,
    ⟨(some 41), .call 240 [(.t 39), (.t 40)], none, []⟩])
  (.cond (.t 41)
  (.seq (.region false [] [] [⟨(some 4), .assign (.c false [(.bool false)]), none, []⟩])
  .ret)
  .skip)))))
  (.region false [42] [42] [⟨(some 42), .bin .add (.t 9) (.c false [(.int .i64 1)]), none, []⟩,
    ⟨(some 9), .move (.t 42), none, []⟩])))))))
  (.seq (.region false [43, 44, 45] [43, 44, 45] [⟨(some 43), .move (.t 0), none, []⟩,
    ⟨(some 44), .len false (.t 43), none, []⟩,
    ⟨(some 45), .bin .leq (.t 44) (.c false [(.int .i64 6)]), none, []⟩,
    ⟨(some 4), .assign (.t 45), none, []⟩])
  .ret)))⟩
/- laws.FnExactIsMemory -/
def ir12 : FnIr := ⟨0, 2, 31, [(4, none)], [],
  (.seq (.region false [] [] [⟨(some 4), .assign (.c false [(.bool false)]), none, []⟩])
  (.seq (.region false [] [] [⟨(some 5), .assign (.c false [(.int .i64 1048576)]), none, []⟩])
  (.seq (.region false [9, 10, 11, 42] [9, 10, 11] [⟨(some 9), .move (.t 0), none, []⟩,
    ⟨(some 10), .move (.t 5), none, []⟩,
    ⟨(some 11), .call 96 [(.t 9), (.t 10)], none, []⟩,
    ⟨(some 5), .assign (.t 11), none, []⟩])
  (.seq (.seq (.region false [12, 13] [12] [⟨(some 12), .move (.t 5), none, []⟩,
    ⟨(some 13), .bin .lss (.t 12) (.c false [(.int .i64 0)]), none, []⟩])
  (.cond (.t 13)
  (.seq (.region false [] [] [⟨(some 4), .assign (.c false [(.bool true)]), none, []⟩])
  .ret)
  .skip))
  (.seq (.region false [14, 15, 16, 17, 46, 48] [14, 15, 16, 17] [⟨(some 14), .move (.t 0), none, []⟩,
    ⟨(some 15), .call 98 [(.t 14)], none, []⟩,
    ⟨(some 16), .move (.t 1), none, []⟩,
    ⟨(some 17), .call 97 [(.t 15), (.t 16)], none, []⟩,
    ⟨(some 6), .assign (.t 17), none, []⟩])
  (.seq (.region false [18, 19, 50] [18, 19] [⟨(some 18), .move (.t 0), none, []⟩,
    ⟨(some 19), .call 98 [(.t 18)], none, []⟩,
    ⟨(some 7), .assign (.t 19), none, []⟩])
  (.seq (.region false [20, 21, 22, 53] [20, 21, 22] [⟨(some 20), .move (.t 7), none, []⟩,
    ⟨(some 21), .move (.t 1), none, []⟩,
    ⟨(some 22), .call 99 [(.t 20), (.t 21)], none, []⟩,
    ⟨(some 8), .assign (.t 22), none, []⟩])
  (.seq (.seq (.region false [23, 24, 25] [23, 24] [⟨(some 23), .move (.t 8), none, []⟩,
    ⟨(some 24), .move (.t 6), none, []⟩,
    ⟨(some 25), .beq true (.t 23) (.t 24), none, []⟩])
  (.cond (.t 25)
  (.seq (.region false [] [] [⟨(some 4), .assign (.c false [(.bool false)]), none, []⟩])
  .ret)
  .skip))
  (.seq (.seq (.region false [26, 27, 28, 29, 30, 59, 60] [26, 27, 28, 29] [⟨(some 26), .move (.t 7), none, []⟩,
    ⟨(some 27), .move (.t 0), none, []⟩,
    ⟨(some 28), .call 98 [(.t 27)], none, []⟩,
    ⟨(some 29), .call 100 [(.t 26), (.t 28)], none, []⟩,
    ⟨(some 30), .un .not (.t 29), none, []⟩])
  (.cond (.t 30)
  (.seq (.region false [] [] [⟨(some 4), .assign (.c false [(.bool false)]), none, []⟩])
  .ret)
  .skip))
  (.seq (.region false [] [] [⟨(some 4), .assign (.c false [(.bool true)]), none, []⟩])
  .ret))))))))))⟩
def tbl : List (Nat × FnIr) := [(79, ir79), (242, ir242), (100, ir100), (227, ir227), (238, ir238), (96, ir96), (230, ir230), (377, ir377), (336, ir336), (232, ir232), (340, ir340), (233, ir233), (97, ir97), (76, ir76), (239, ir239), (98, ir98), (342, ir342), (240, ir240), (241, ir241), (99, ir99), (12, ir12)]
def Tb (g : Nat) : Option FnIr := tbl.lookup g
theorem tb_79 : Tb 79 = some ir79 := rfl
theorem tb_242 : Tb 242 = some ir242 := rfl
theorem tb_100 : Tb 100 = some ir100 := rfl
theorem tb_227 : Tb 227 = some ir227 := rfl
theorem tb_238 : Tb 238 = some ir238 := rfl
theorem tb_96 : Tb 96 = some ir96 := rfl
theorem tb_230 : Tb 230 = some ir230 := rfl
theorem tb_377 : Tb 377 = some ir377 := rfl
theorem tb_336 : Tb 336 = some ir336 := rfl
theorem tb_232 : Tb 232 = some ir232 := rfl
theorem tb_340 : Tb 340 = some ir340 := rfl
theorem tb_233 : Tb 233 = some ir233 := rfl
theorem tb_97 : Tb 97 = some ir97 := rfl
theorem tb_76 : Tb 76 = some ir76 := rfl
theorem tb_239 : Tb 239 = some ir239 := rfl
theorem tb_98 : Tb 98 = some ir98 := rfl
theorem tb_342 : Tb 342 = some ir342 := rfl
theorem tb_240 : Tb 240 = some ir240 := rfl
theorem tb_241 : Tb 241 = some ir241 := rfl
theorem tb_99 : Tb 99 = some ir99 := rfl
theorem tb_12 : Tb 12 = some ir12 := rfl
end Go.Vm
