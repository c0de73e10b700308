/- The code of the functions that the law reaches, as data. -/
import Derived.Test.YtpjfkjkhmmbacaaVmF
set_option maxHeartbeats 4000000
set_option maxRecDepth 10000
set_option linter.unusedVariables false
set_option linter.unusedSimpArgs false
namespace Go.Vm
/- laws.szIntS -/
def ir227 : FnIr := ⟨0, 2, 12, [(4, none)], [],
  (.seq (.region false [] [] [⟨(some 4), .assign (.c false [(.int .i64 0)]), none, []⟩])
  (.seq (.region false [5, 6, 7, 8] [5, 6, 7, 8] [⟨(some 5), .move (.t 1), none, []⟩,
    ⟨(some 6), .move (.t 0), none, []⟩,
    ⟨(some 7), .len false (.t 6), none, []⟩,
    ⟨(some 8), .bin .sub (.t 5) (.t 7), none, []⟩,
    ⟨(some 1), .assign (.t 8), none, []⟩])
  (.seq (.seq (.region false [9, 10] [9] [⟨(some 9), .move (.t 1), none, []⟩,
    ⟨(some 10), .bin .lss (.t 9) (.c false [(.int .i64 0)]), none, []⟩])
  (.cond (.t 10)
  (.seq (.region false [] [] [⟨(some 4), .assign (.c false [(.int .i64 (-1))]), none, []⟩])
  .ret)
  .skip))
  (.seq (.region false [11] [11] [⟨(some 11), .move (.t 1), none, []⟩,
    ⟨(some 4), .assign (.t 11), none, []⟩])
  .ret))))⟩
/- laws.szExt -/
def ir319 : FnIr := ⟨0, 2, 12, [(4, none)], [],
  (.seq (.region false [2, 14] [] [⟨(some 2), .box (.t 0), none, []⟩,
    ⟨(some 4), .assign (.c false [(.int .i64 0)]), none, []⟩])
  (.seq (.region false [5, 6, 7, 8, 20] [5, 6, 7, 8] [⟨(some 5), .faddr 1 (.t 2), none, []⟩,
    ⟨(some 6), .load false 1 (.t 5), none, []⟩,
    ⟨(some 7), .move (.t 1), none, []⟩,
    ⟨(some 8), .call 227 [(.t 6), (.t 7)], none, []⟩,
    ⟨(some 1), .assign (.t 8), none, []⟩])
  (.seq (.seq (.region false [9, 10] [9] [⟨(some 9), .move (.t 1), none, []⟩,
    ⟨(some 10), .bin .lss (.t 9) (.c false [(.int .i64 0)]), none, []⟩])
  (.cond (.t 10)
  (.seq (.region false [] [] [⟨(some 4), .assign (.c false [(.int .i64 (-1))]), none, []⟩])
  .ret)
  .skip))
  (.seq (.region false [11] [11] [⟨(some 11), .move (.t 1), none, []⟩,
    ⟨(some 4), .assign (.t 11), none, []⟩])
  .ret))))⟩
/- laws.szExtS -/
def ir197 : FnIr := ⟨0, 2, 27, [(4, none)], [],
  (.seq (.region false [] [] [⟨(some 4), .assign (.c false [(.int .i64 0)]), none, []⟩])
  (.seq (.region false [6, 7, 8, 9] [6, 7, 8, 9] [⟨(some 6), .move (.t 1), none, []⟩,
    ⟨(some 7), .move (.t 0), none, []⟩,
    ⟨(some 8), .len false (.t 7), none, []⟩,
    ⟨(some 9), .bin .sub (.t 6) (.t 8), none, []⟩,
    ⟨(some 1), .assign (.t 9), none, []⟩])
  (.seq (.seq (.region false [10, 11] [10] [⟨(some 10), .move (.t 1), none, []⟩,
    ⟨(some 11), .bin .lss (.t 10) (.c false [(.int .i64 0)]), none, []⟩])
  (.cond (.t 11)
  (.seq (.region false [] [] [⟨(some 4), .assign (.c false [(.int .i64 (-1))]), none, []⟩])
  .ret)
  .skip))
  (.seq (.seq (.region false [] [] [⟨(some 5), .assign (.c false [(.int .i64 0)]), none, []⟩])
  (.block 0 (.loop (.seq (.seq (.region false [12, 13, 14, 15] [12, 13, 14] [⟨(some 12), .move (.t 5), none, []⟩,
    ⟨(some 13), .move (.t 0), none, []⟩,
    ⟨(some 14), .len false (.t 13), none, []⟩,
    ⟨(some 15), .bin .lss (.t 12) (.t 14), none, []⟩])
  (.cond (.t 15)
  .skip
  (.exit 0)))
  (.seq (.block 1 (.seq (.region false [18, 19, 20, 21, 22, 23, 50] [18, 19, 20, 21, 22, 23] [⟨(some 18), .move (.t 0), none, []⟩,
    ⟨(some 19), .move (.t 5), none, []⟩,
    ⟨(some 20), .iaddr 2 (.t 18) (.t 19), none, []⟩,
    ⟨(some 21), .load true 2 (.t 20), none, []⟩,
    ⟨(some 22), .move (.t 1), none, []⟩,
    ⟨(some 23), .call 319 [(.t 21), (.t 22)], none, []⟩,
    ⟨(some 1), .assign (.t 23), none, []⟩])
  (.seq (.region false [24, 25] [24] [⟨(some 24), .move (.t 1), none, []⟩,
    ⟨(some 25), .bin .lss (.t 24) (.c false [(.int .i64 0)]), none, []⟩])
  (.cond (.t 25)
  (.seq (.region false [] [] [⟨(some 4), .assign (.c false [(.int .i64 (-1))]), none, []⟩])
  .ret)
  .skip))))
  (.region false [16, 17] [16, 17] [⟨(some 16), .move (.t 5), none, []⟩,
    ⟨(some 17), .bin .add (.t 16) (.c false [(.int .i64 1)]), none, []⟩,
    ⟨(some 5), .assign (.t 17), none, []⟩]))))))
  (.seq (.region false [26] [26] [⟨(some 26), .move (.t 1), none, []⟩,
    ⟨(some 4), .assign (.t 26), none, []⟩])
  .ret)))))⟩
/- laws.szAnswer -/
def ir126 : FnIr := ⟨0, 2, 12, [(4, none)], [],
  (.seq (.region false [2, 14] [] [⟨(some 2), .box (.t 0), none, []⟩,
    ⟨(some 4), .assign (.c false [(.int .i64 0)]), none, []⟩])
  (.seq (.region false [5, 6, 7, 8, 20] [5, 6, 7, 8] [⟨(some 5), .faddr 1 (.t 2), none, []⟩,
    ⟨(some 6), .load false 1 (.t 5), none, []⟩,
    ⟨(some 7), .move (.t 1), none, []⟩,
    ⟨(some 8), .call 197 [(.t 6), (.t 7)], none, []⟩,
    ⟨(some 1), .assign (.t 8), none, []⟩])
  (.seq (.seq (.region false [9, 10] [9] [⟨(some 9), .move (.t 1), none, []⟩,
    ⟨(some 10), .bin .lss (.t 9) (.c false [(.int .i64 0)]), none, []⟩])
  (.cond (.t 10)
  (.seq (.region false [] [] [⟨(some 4), .assign (.c false [(.int .i64 (-1))]), none, []⟩])
  .ret)
  .skip))
  (.seq (.region false [11] [11] [⟨(some 11), .move (.t 1), none, []⟩,
    ⟨(some 4), .assign (.t 11), none, []⟩])
  .ret))))⟩
/- laws.toIntS -/
def ir76 : FnIr := ⟨0, 1, 22, [(2, none)], [],
  (.seq (.region false [] [] [⟨(some 2), .assign (.c false [(.row () [])]), none, []⟩])
  (.seq (.region false [5, 6, 7] [5, 6, 7] [⟨(some 5), .move (.t 0), none, []⟩,
    ⟨(some 6), .len false (.t 5), none, []⟩,
    ⟨(some 7), .mkslice [(.int .i64 0)] (.t 6) (.t 6), none, []⟩,
    ⟨(some 3), .assign (.t 7), none, []⟩])
  (.seq (.seq (.region false [] [] [⟨(some 4), .assign (.c false [(.int .i64 0)]), none, []⟩])
  (.block 0 (.loop (.seq (.seq (.region false [8, 9, 10, 11] [8, 9, 10] [⟨(some 8), .move (.t 4), none, []⟩,
    ⟨(some 9), .move (.t 0), none, []⟩,
    ⟨(some 10), .len false (.t 9), none, []⟩,
    ⟨(some 11), .bin .lss (.t 8) (.t 10), none, []⟩])
  (.cond (.t 11)
  .skip
  (.exit 0)))
  (.seq (.block 1 (.region false [14, 15, 16, 17, 18, 19, 20] [14, 15, 16, 17, 18, 19, 20] [⟨(some 14), .move (.t 3), none, []⟩,
    ⟨(some 15), .move (.t 4), none, []⟩,
    ⟨(some 16), .move (.t 0), none, []⟩,
    ⟨(some 17), .move (.t 4), none, []⟩,
    ⟨(some 18), .iaddr 1 (.t 16) (.t 17), none, []⟩,
    ⟨(some 19), .load false 1 (.t 18), none, []⟩,
    ⟨(some 20), .iaddr 1 (.t 14) (.t 15), none, []⟩,
    ⟨none, .rstore 1 (.t 20) (.t 19), none, []⟩]))
  (.region false [12, 13] [12, 13] [⟨(some 12), .move (.t 4), none, []⟩,
    ⟨(some 13), .bin .add (.t 12) (.c false [(.int .i64 1)]), none, []⟩,
    ⟨(some 4), .assign (.t 13), none, []⟩]))))))
  (.seq (.region false [21] [21] [⟨(some 21), .move (.t 3), none, []⟩,
    ⟨(some 2), .assign (.t 21), none, []⟩])
  .ret))))⟩
/- laws.toExt -/
def ir320 : FnIr := ⟨0, 1, 12, [(2, (some (true, 2)))], [],
  (.seq (.region false [1, 2, 13, 14] [] [⟨(some 1), .box (.t 0), none, []⟩,
    ⟨(some 2), .alloc [(.int .i64 0), (.row () [])], none, []⟩])
  (.seq (.region false [3, 15] [] [⟨(some 3), .alloc [(.int .i64 0), (.row () [])], none, []⟩])
  (.seq (.region false [4, 5, 6] [4, 5, 6] [⟨(some 4), .faddr 0 (.t 1), none, []⟩,
    ⟨(some 5), .load false 1 (.t 4), none, []⟩,
    ⟨(some 6), .faddr 0 (.t 3), none, []⟩,
    ⟨none, .store 1 (.t 6) (.t 5), none, []⟩])
  (.seq (.region false [7, 8, 9, 10, 21] [7, 8, 9, 10] [⟨(some 7), .faddr 1 (.t 1), none, []⟩,
    ⟨(some 8), .load false 1 (.t 7), none, []⟩,
    ⟨(some 9), .call 76 [(.t 8)], none, []⟩,
    ⟨(some 10), .faddr 1 (.t 3), none, []⟩,
    ⟨none, .store 1 (.t 10) (.t 9), none, []⟩])
  (.seq (.region false [11] [11] [⟨(some 11), .load true 2 (.t 3), none, []⟩,
    ⟨none, .store 2 (.t 2) (.t 11), none, []⟩])
  .ret)))))⟩
/- laws.toExtS -/
def ir199 : FnIr := ⟨0, 1, 23, [(2, none)], [],
  (.seq (.region false [] [] [⟨(some 2), .assign (.c false [(.row () [])]), none, []⟩])
  (.seq (.region false [5, 6, 7] [5, 6, 7] [⟨(some 5), .move (.t 0), none, []⟩,
    ⟨(some 6), .len false (.t 5), none, []⟩,
    ⟨(some 7), .mkslice [(.int .i64 0), (.row () [])] (.t 6) (.t 6), none, []⟩,
    ⟨(some 3), .assign (.t 7), none, []⟩])
  (.seq (.seq (.region false [] [] [⟨(some 4), .assign (.c false [(.int .i64 0)]), none, []⟩])
  (.block 0 (.loop (.seq (.seq (.region false [8, 9, 10, 11] [8, 9, 10] [⟨(some 8), .move (.t 4), none, []⟩,
    ⟨(some 9), .move (.t 0), none, []⟩,
    ⟨(some 10), .len false (.t 9), none, []⟩,
    ⟨(some 11), .bin .lss (.t 8) (.t 10), none, []⟩])
  (.cond (.t 11)
  .skip
  (.exit 0)))
  (.seq (.block 1 (.region false [14, 15, 16, 17, 18, 19, 20, 21, 43] [14, 15, 16, 17, 18, 19, 20, 21] [⟨(some 14), .move (.t 3), none, []⟩,
    ⟨(some 15), .move (.t 4), none, []⟩,
    ⟨(some 16), .move (.t 0), none, []⟩,
    ⟨(some 17), .move (.t 4), none, []⟩,
    ⟨(some 18), .iaddr 2 (.t 16) (.t 17), none, []⟩,
    ⟨(some 19), .load true 2 (.t 18), none, []⟩,
    ⟨(some 20), .call 320 [(.t 19)], none, []⟩,
    ⟨(some 21), .iaddr 2 (.t 14) (.t 15), none, []⟩,
    ⟨none, .rstore 2 (.t 21) (.t 20), none, []⟩]))
  (.region false [12, 13] [12, 13] [⟨(some 12), .move (.t 4), none, []⟩,
    ⟨(some 13), .bin .add (.t 12) (.c false [(.int .i64 1)]), none, []⟩,
    ⟨(some 4), .assign (.t 13), none, []⟩]))))))
  (.seq (.region false [22] [22] [⟨(some 22), .move (.t 3), none, []⟩,
    ⟨(some 2), .assign (.t 22), none, []⟩])
  .ret))))⟩
/- laws.toAnswer -/
def ir128 : FnIr := ⟨0, 1, 12, [(2, (some (true, 2)))], [],
  (.seq (.region false [1, 2, 13, 14] [] [⟨(some 1), .box (.t 0), none, []⟩,
    ⟨(some 2), .alloc [(.int .i64 0), (.row () [])], none, []⟩])
  (.seq (.region false [3, 15] [] [⟨(some 3), .alloc [(.int .i64 0), (.row () [])], none, []⟩])
  (.seq (.region false [4, 5, 6] [4, 5, 6] [⟨(some 4), .faddr 0 (.t 1), none, []⟩,
    ⟨(some 5), .load false 1 (.t 4), none, []⟩,
    ⟨(some 6), .faddr 0 (.t 3), none, []⟩,
    ⟨none, .store 1 (.t 6) (.t 5), none, []⟩])
  (.seq (.region false [7, 8, 9, 10, 21] [7, 8, 9, 10] [⟨(some 7), .faddr 1 (.t 1), none, []⟩,
    ⟨(some 8), .load false 1 (.t 7), none, []⟩,
    ⟨(some 9), .call 199 [(.t 8)], none, []⟩,
    ⟨(some 10), .faddr 1 (.t 3), none, []⟩,
    ⟨none, .store 1 (.t 10) (.t 9), none, []⟩])
  (.seq (.region false [11] [11] [⟨(some 11), .load true 2 (.t 3), none, []⟩,
    ⟨none, .store 2 (.t 2) (.t 11), none, []⟩])
  .ret)))))⟩
/- laws.eqIntS -/
def ir79 : FnIr := ⟨0, 2, 26, [(4, none)], [],
  (.seq (.region false [] [] [⟨(some 4), .assign (.c false [(.bool false)]), none, []⟩])
  (.seq (.seq (.region false [6, 7, 8, 9, 10] [6, 7, 8, 9] [⟨(some 6), .move (.t 0), none, []⟩,
    ⟨(some 7), .len false (.t 6), none, []⟩,
    ⟨(some 8), .move (.t 1), none, []⟩,
    ⟨(some 9), .len false (.t 8), none, []⟩,
    ⟨(some 10), .bin .neq (.t 7) (.t 9), none, []⟩])
  (.cond (.t 10)
  (.seq (.region false [] [] [⟨(some 4), .assign (.c false [(.bool false)]), none, []⟩])
  .ret)
  .skip))
  (.seq (.seq (.region false [] [] [⟨(some 5), .assign (.c false [(.int .i64 0)]), none, []⟩])
  (.block 0 (.loop (.seq (.seq (.region false [11, 12, 13, 14] [11, 12, 13] [⟨(some 11), .move (.t 5), none, []⟩,
    ⟨(some 12), .move (.t 0), none, []⟩,
    ⟨(some 13), .len false (.t 12), none, []⟩,
    ⟨(some 14), .bin .lss (.t 11) (.t 13), none, []⟩])
  (.cond (.t 14)
  .skip
  (.exit 0)))
  (.seq (.block 1 (.seq (.region true [17, 18, 19, 20, 21, 22, 23, 24, 25] [17, 18, 19, 20, 21, 22, 23, 24] [⟨(some 17), .move (.t 0), none, []⟩,
    ⟨(some 18), .move (.t 5), none, []⟩,
    ⟨(some 19), .iaddr 1 (.t 17) (.t 18), none, [0, 1]⟩,
    ⟨(some 20), .load false 1 (.t 19), none, [2, 0, 1]⟩,
    ⟨(some 21), .move (.t 1), none, []⟩,
    ⟨(some 22), .move (.t 5), none, []⟩,
    ⟨(some 23), .iaddr 1 (.t 21) (.t 22), none, [4, 5]⟩,
    ⟨(some 24), .load false 1 (.t 23), none, [6, 4, 5]⟩,
    ⟨(some 25), .bin .neq (.t 20) (.t 24), none, [3, 2, 0, 1, 7, 6, 4, 5]⟩])
  (.cond (.t 25)
  (.seq (.region false [] [] [⟨(some 4), .assign (.c false [(.bool false)]), none, []⟩])
  .ret)
  .skip)))
  (.region false [15, 16] [15, 16] [⟨(some 15), .move (.t 5), none, []⟩,
    ⟨(some 16), .bin .add (.t 15) (.c false [(.int .i64 1)]), none, []⟩,
    ⟨(some 5), .assign (.t 16), none, []⟩]))))))
  (.seq (.region false [] [] [⟨(some 4), .assign (.c false [(.bool true)]), none, []⟩])
  .ret))))⟩
/- laws.eqExt -/
def ir321 : FnIr := ⟨0, 2, 16, [(4, none)], [],
  (.seq (.region false [2, 3, 18, 19] [] [⟨(some 2), .box (.t 0), none, []⟩,
    ⟨(some 3), .box (.t 1), none, []⟩,
    ⟨(some 4), .assign (.c false [(.bool false)]), none, []⟩])
  (.seq (.seq (.region false [5, 6, 7, 8, 9] [5, 6, 7, 8] [⟨(some 5), .faddr 0 (.t 2), none, []⟩,
    ⟨(some 6), .load false 1 (.t 5), none, []⟩,
    ⟨(some 7), .faddr 0 (.t 3), none, []⟩,
    ⟨(some 8), .load false 1 (.t 7), none, []⟩,
    ⟨(some 9), .bin .neq (.t 6) (.t 8), none, []⟩])
  (.cond (.t 9)
  (.seq (.region false [] [] [⟨(some 4), .assign (.c false [(.bool false)]), none, []⟩])
  .ret)
  .skip))
  (.seq (.seq (.region false [10, 11, 12, 13, 14, 15, 30] [10, 11, 12, 13, 14] [⟨(some 10), .faddr 1 (.t 2), none, []⟩,
    ⟨(some 11), .load false 1 (.t 10), none, []⟩,
    ⟨(some 12), .faddr 1 (.t 3), none, []⟩,
    ⟨(some 13), .load false 1 (.t 12), none, []⟩,
    ⟨(some 14), .call 79 [(.t 11), (.t 13)], none, []⟩,
    ⟨(some 15), .un .not (.t 14), none, []⟩])
  (.cond (.t 15)
  (.seq (.region false [] [] [⟨(some 4), .assign (.c false [(.bool false)]), none, []⟩])
  .ret)
  .skip))
  (.seq (.region false [] [] [⟨(some 4), .assign (.c false [(.bool true)]), none, []⟩])
  .ret))))⟩
/- laws.eqExtS -/
def ir200 : FnIr := ⟨0, 2, 27, [(4, none)], [],
  (.seq (.region false [] [] [⟨(some 4), .assign (.c false [(.bool false)]), none, []⟩])
  (.seq (.seq (.region false [6, 7, 8, 9, 10] [6, 7, 8, 9] [⟨(some 6), .move (.t 0), none, []⟩,
    ⟨(some 7), .len false (.t 6), none, []⟩,
    ⟨(some 8), .move (.t 1), none, []⟩,
    ⟨(some 9), .len false (.t 8), none, []⟩,
    ⟨(some 10), .bin .neq (.t 7) (.t 9), none, []⟩])
  (.cond (.t 10)
  (.seq (.region false [] [] [⟨(some 4), .assign (.c false [(.bool false)]), none, []⟩])
  .ret)
  .skip))
  (.seq (.seq (.region false [] [] [⟨(some 5), .assign (.c false [(.int .i64 0)]), none, []⟩])
  (.block 0 (.loop (.seq (.seq (.region false [11, 12, 13, 14] [11, 12, 13] [⟨(some 11), .move (.t 5), none, []⟩,
    ⟨(some 12), .move (.t 0), none, []⟩,
    ⟨(some 13), .len false (.t 12), none, []⟩,
    ⟨(some 14), .bin .lss (.t 11) (.t 13), none, []⟩])
  (.cond (.t 14)
  .skip
  (.exit 0)))
  (.seq (.block 1 (.seq (.region true [17, 18, 19, 20, 21, 22, 23, 24, 25, 26, 52] [17, 18, 19, 20, 21, 22, 23, 24, 25] [⟨(some 17), .move (.t 0), none, []⟩,
    ⟨(some 18), .move (.t 5), none, []⟩,
    ⟨(some 19), .iaddr 2 (.t 17) (.t 18), none, [0, 1]⟩,
    ⟨(some 20), .load true 2 (.t 19), none, [2, 0, 1]⟩,
    ⟨(some 21), .move (.t 1), none, []⟩,
    ⟨(some 22), .move (.t 5), none, []⟩,
    ⟨(some 23), .iaddr 2 (.t 21) (.t 22), none, [4, 5]⟩,
    ⟨(some 24), .load true 2 (.t 23), none, [6, 4, 5]⟩,
    ⟨(some 25), .call 321 [(.t 20), (.t 24)], none, [3, 2, 0, 1, 7, 6, 4, 5]⟩,
    ⟨(some 26), .un .not (.t 25), none, [8, 3, 2, 0, 1, 7, 6, 4, 5]⟩])
  (.cond (.t 26)
  (.seq (.region false [] [] [⟨(some 4), .assign (.c false [(.bool false)]), none, []⟩])
  .ret)
  .skip)))
  (.region false [15, 16] [15, 16] [⟨(some 15), .move (.t 5), none, []⟩,
    ⟨(some 16), .bin .add (.t 15) (.c false [(.int .i64 1)]), none, []⟩,
    ⟨(some 5), .assign (.t 16), none, []⟩]))))))
  (.seq (.region false [] [] [⟨(some 4), .assign (.c false [(.bool true)]), none, []⟩])
  .ret))))⟩
/- laws.eqAnswer -/
def ir129 : FnIr := ⟨0, 2, 16, [(4, none)], [],
  (.seq (.region false [2, 3, 18, 19] [] [⟨(some 2), .box (.t 0), none, []⟩,
    ⟨(some 3), .box (.t 1), none, []⟩,
    ⟨(some 4), .assign (.c false [(.bool false)]), none, []⟩])
  (.seq (.seq (.region false [5, 6, 7, 8, 9] [5, 6, 7, 8] [⟨(some 5), .faddr 0 (.t 2), none, []⟩,
    ⟨(some 6), .load false 1 (.t 5), none, []⟩,
    ⟨(some 7), .faddr 0 (.t 3), none, []⟩,
    ⟨(some 8), .load false 1 (.t 7), none, []⟩,
    ⟨(some 9), .bin .neq (.t 6) (.t 8), none, []⟩])
  (.cond (.t 9)
  (.seq (.region false [] [] [⟨(some 4), .assign (.c false [(.bool false)]), none, []⟩])
  .ret)
  .skip))
  (.seq (.seq (.region false [10, 11, 12, 13, 14, 15, 30] [10, 11, 12, 13, 14] [⟨(some 10), .faddr 1 (.t 2), none, []⟩,
    ⟨(some 11), .load false 1 (.t 10), none, []⟩,
    ⟨(some 12), .faddr 1 (.t 3), none, []⟩,
    ⟨(some 13), .load false 1 (.t 12), none, []⟩,
    ⟨(some 14), .call 200 [(.t 11), (.t 13)], none, []⟩,
    ⟨(some 15), .un .not (.t 14), none, []⟩])
  (.cond (.t 15)
  (.seq (.region false [] [] [⟨(some 4), .assign (.c false [(.bool false)]), none, []⟩])
  .ret)
  .skip))
  (.seq (.region false [] [] [⟨(some 4), .assign (.c false [(.bool true)]), none, []⟩])
  .ret))))⟩
/- spec.l1In -/
def ir230 : FnIr := ⟨0, 3, 15, [(6, none)], [],
  (.seq (.region false [] [] [⟨(some 6), .assign (.c false [(.bool false)]), none, []⟩])
  (.seq (.region false [7, 8, 9, 10, 11, 12, 13, 14] [7, 8, 9, 10, 11, 12, 13, 14] [⟨(some 7), .move (.t 0), none, []⟩,
    ⟨(some 8), .move (.t 1), none, []⟩,
    ⟨(some 9), .bin .geq (.t 7) (.t 8), none, []⟩,
    ⟨(some 10), .move (.t 9), none, []⟩,
    ⟨(some 11), .move (.t 0), (some (10, true)), []⟩,
    ⟨(some 12), .move (.t 2), (some (10, true)), []⟩,
    ⟨(some 13), .bin .leq (.t 11) (.t 12), (some (10, true)), []⟩,
    ⟨(some 14), .pick (.t 10) (.t 13) (.c false [(.bool false)]), none, []⟩,
    ⟨(some 6), .assign (.t 14), none, []⟩])
  .ret))⟩
/- spec.l9Byte -/
def ir231 : FnIr := ⟨0, 1, 16, [(2, none)], [],
  (.seq (.region false [] [] [⟨(some 2), .assign (.c false [(.bool false)]), none, []⟩])
  (.seq (.seq (.region false [] [] [⟨(some 3), .assign (.c false [(.int .i64 0)]), none, []⟩])
  (.block 0 (.loop (.seq (.seq (.region false [4, 5, 6, 7] [4, 5, 6] [⟨(some 4), .move (.t 3), none, []⟩,
    ⟨(some 5), .move (.t 0), none, []⟩,
    ⟨(some 6), .len false (.t 5), none, []⟩,
    ⟨(some 7), .bin .lss (.t 4) (.t 6), none, []⟩])
  (.cond (.t 7)
  .skip
  (.exit 0)))
  (.seq (.block 1 (.seq (.region false [10, 11, 12, 13, 14, 15, 30] [10, 11, 12, 13, 14] [⟨(some 10), .move (.t 0), none, []⟩,
    ⟨(some 11), .move (.t 3), none, []⟩,
    ⟨(some 12), .iaddr 1 (.t 10) (.t 11), none, []⟩,
    ⟨(some 13), .load false 1 (.t 12), none, []⟩,
    ⟨(some 14), .call 230 [(.t 13), (.c false [(.int .i64 0)]), (.c false [(.int .i64 255)])], none, []⟩,
    ⟨(some 15), .un .not (.t 14), none, []⟩])
  (.cond (.t 15)
  (.seq (.region false [] [] [⟨(some 2), .assign (.c false [(.bool false)]), none, []⟩])
  .ret)
  .skip)))
  (.region false [8, 9] [8, 9] [⟨(some 8), .move (.t 3), none, []⟩,
    ⟨(some 9), .bin .add (.t 8) (.c false [(.int .i64 1)]), none, []⟩,
    ⟨(some 3), .assign (.t 9), none, []⟩]))))))
  (.seq (.region false [] [] [⟨(some 2), .assign (.c false [(.bool true)]), none, []⟩])
  .ret)))⟩
/- spec.ExtOf -/
def ir286 : FnIr := ⟨0, 2, 20, [(4, none)], [],
  (.seq (.region false [] [] [⟨(some 4), .assign (.c false [(.int .i64 0)]), none, []⟩])
  (.seq (.seq (.region false [] [] [⟨(some 5), .assign (.c false [(.int .i64 0)]), none, []⟩])
  (.block 0 (.loop (.seq (.seq (.region false [6, 7, 8, 9] [6, 7, 8] [⟨(some 6), .move (.t 5), none, []⟩,
    ⟨(some 7), .move (.t 0), none, []⟩,
    ⟨(some 8), .len false (.t 7), none, []⟩,
    ⟨(some 9), .bin .lss (.t 6) (.t 8), none, []⟩])
  (.cond (.t 9)
  .skip
  (.exit 0)))
  (.seq (.block 1 (.seq (.region false [12, 13, 14, 15, 16, 17, 18] [12, 13, 14, 15, 16, 17] [⟨(some 12), .move (.t 0), none, []⟩,
    ⟨(some 13), .move (.t 5), none, []⟩,
    ⟨(some 14), .iaddr 2 (.t 12) (.t 13), none, []⟩,
    ⟨(some 15), .faddr 0 (.t 14), none, []⟩,
    ⟨(some 16), .load false 1 (.t 15), none, []⟩,
    ⟨(some 17), .move (.t 1), none, []⟩,
    ⟨(some 18), .bin .eql (.t 16) (.t 17), none, []⟩])
  (.cond (.t 18)
  (.seq (.region false [19] [19] [⟨(some 19), .move (.t 5), none, []⟩,
    ⟨(some 4), .assign (.t 19), none, []⟩])
  .ret)
  .skip)))
  (.region false [10, 11] [10, 11] [⟨(some 10), .move (.t 5), none, []⟩,
    ⟨(some 11), .bin .add (.t 10) (.c false [(.int .i64 1)]), none, []⟩,
    ⟨(some 5), .assign (.t 11), none, []⟩]))))))
  (.seq (.region false [] [] [⟨(some 4), .assign (.c false [(.int .i64 (-1))]), none, []⟩])
  .ret)))⟩
/- spec.AreExts -/
def ir271 : FnIr := ⟨0, 1, 49, [(2, none)], [],
  (.seq (.region false [] [] [⟨(some 2), .assign (.c false [(.bool false)]), none, []⟩])
  (.seq (.seq (.region false [] [] [⟨(some 3), .assign (.c false [(.int .i64 0)]), none, []⟩])
  (.block 0 (.loop (.seq (.seq (.region false [4, 5, 6, 7] [4, 5, 6] [⟨(some 4), .move (.t 3), none, []⟩,
    ⟨(some 5), .move (.t 0), none, []⟩,
    ⟨(some 6), .len false (.t 5), none, []⟩,
    ⟨(some 7), .bin .lss (.t 4) (.t 6), none, []⟩])
  (.cond (.t 7)
  .skip
  (.exit 0)))
  (.seq (.block 1 (.seq (.region false [10, 11, 12, 13, 14, 15, 16, 17, 18, 19, 20, 21, 22, 23, 24, 25, 26, 27, 28, 29, 30, 31, 32, 33, 34, 35, 36, 37, 38, 39, 40, 41, 42, 43, 44, 45, 64, 81, 91] [10, 11, 12, 13, 14, 15, 16, 17, 18, 19, 20, 21, 22, 23, 24, 25, 26, 27, 28, 29, 30, 31, 32, 33, 34, 35, 36, 37, 38, 39, 40, 41, 42, 43, 44] [⟨(some 10), .move (.t 0), none, []⟩,
    ⟨(some 11), .move (.t 3), none, []⟩,
    ⟨(some 12), .iaddr 2 (.t 10) (.t 11), none, []⟩,
    ⟨(some 13), .faddr 0 (.t 12), none, []⟩,
    ⟨(some 14), .load false 1 (.t 13), none, []⟩,
    ⟨(some 15), .call 230 [(.t 14), (.c false [(.int .i64 0)]), (.c false [(.int .i64 255)])], none, []⟩,
    ⟨(some 16), .un .not (.t 15), none, []⟩,
    ⟨(some 17), .move (.t 16), none, []⟩,
    ⟨(some 18), .move (.t 0), (some (17, false)), []⟩,
    ⟨(some 19), .move (.t 3), (some (17, false)), []⟩,
    ⟨(some 20), .iaddr 2 (.t 18) (.t 19), (some (17, false)), []⟩,
    ⟨(some 21), .faddr 1 (.t 20), (some (17, false)), []⟩,
    ⟨(some 22), .load false 1 (.t 21), (some (17, false)), []⟩,
    ⟨(some 23), .len false (.t 22), (some (17, false)), []⟩,
    ⟨(some 24), .bin .gtr (.t 23) (.c false [(.int .i64 4)]), (some (17, false)), []⟩,
    ⟨(some 25), .pick (.t 17) (.c false [(.bool true)]) (.t 24), none, []⟩,
    ⟨(some 26), .move (.t 25), none, []⟩,
    ⟨(some 27), .move (.t 0), (some (26, false)), []⟩,
    ⟨(some 28), .move (.t 3), (some (26, false)), []⟩,
    ⟨(some 29), .iaddr 2 (.t 27) (.t 28), (some (26, false)), []⟩,
    ⟨(some 30), .faddr 1 (.t 29), (some (26, false)), []⟩,
    ⟨(some 31), .load false 1 (.t 30), (some (26, false)), []⟩,
    ⟨(some 32), .call 231 [(.t 31)], (some (26, false)), []⟩,
    ⟨(some 33), .un .not (.t 32), (some (26, false)), []⟩,
    ⟨(some 34), .pick (.t 26) (.c false [(.bool true)]) (.t 33), none, []⟩,
    ⟨(some 35), .move (.t 34), none, []⟩,
    ⟨(some 36), .move (.t 0), (some (35, false)), []⟩,
    ⟨(some 37), .move (.t 0), (some (35, false)), []⟩,
    ⟨(some 38), .move (.t 3), (some (35, false)), []⟩,
    ⟨(some 39), .iaddr 2 (.t 37) (.t 38), (some (35, false)), []⟩,
    ⟨(some 40), .faddr 0 (.t 39), (some (35, false)), []⟩,
    ⟨(some 41), .load false 1 (.t 40), (some (35, false)), []⟩,
    ⟨(some 42), .call 286 [(.t 36), (.t 41)], (some (35, false)), []⟩,
    ⟨(some 43), .move (.t 3), (some (35, false)), []⟩,
    ⟨(some 44), .bin .lss (.t 42) (.t 43), (some (35, false)), []⟩,
    ⟨(some 45), .pick (.t 35) (.c false [(.bool true)]) (.t 44), none, []⟩])
  (.cond (.t 45)
  (.seq (.region false [] [] [⟨(some 2), .assign (.c false [(.bool false)]), none, []⟩])
  .ret)
  .skip)))
  (.region false [8, 9] [8, 9] [⟨(some 8), .move (.t 3), none, []⟩,
    ⟨(some 9), .bin .add (.t 8) (.c false [(.int .i64 1)]), none, []⟩,
    ⟨(some 3), .assign (.t 9), none, []⟩]))))))
  (.seq (.region false [46, 47, 48] [46, 47, 48] [⟨(some 46), .move (.t 0), none, []⟩,
    ⟨(some 47), .len false (.t 46), none, []⟩,
    ⟨(some 48), .bin .leq (.t 47) (.c false [(.int .i64 6)]), none, []⟩,
    ⟨(some 2), .assign (.t 48), none, []⟩])
  .ret)))⟩
/- spec.IsAnswer -/
def ir127 : FnIr := ⟨0, 1, 11, [(2, none)], [],
  (.seq (.region false [1, 12] [] [⟨(some 1), .box (.t 0), none, []⟩,
    ⟨(some 2), .assign (.c false [(.bool false)]), none, []⟩])
  (.seq (.region false [3, 4, 5, 6, 7, 8, 9, 10, 16, 20] [3, 4, 5, 6, 7, 8, 9, 10] [⟨(some 3), .faddr 0 (.t 1), none, []⟩,
    ⟨(some 4), .load false 1 (.t 3), none, []⟩,
    ⟨(some 5), .call 230 [(.t 4), (.c false [(.int .i64 1)]), (.c false [(.int .i64 9)])], none, []⟩,
    ⟨(some 6), .move (.t 5), none, []⟩,
    ⟨(some 7), .faddr 1 (.t 1), (some (6, true)), []⟩,
    ⟨(some 8), .load false 1 (.t 7), (some (6, true)), []⟩,
    ⟨(some 9), .call 271 [(.t 8)], (some (6, true)), []⟩,
    ⟨(some 10), .pick (.t 6) (.t 9) (.c false [(.bool false)]), none, []⟩,
    ⟨(some 2), .assign (.t 10), none, []⟩])
  .ret))⟩
/- spec.AreVersions -/
def ir257 : FnIr := ⟨0, 1, 35, [(2, none)], [],
  (.seq (.region false [] [] [⟨(some 2), .assign (.c false [(.bool false)]), none, []⟩])
  (.seq (.seq (.region false [] [] [⟨(some 3), .assign (.c false [(.int .i64 0)]), none, []⟩])
  (.block 0 (.loop (.seq (.seq (.region false [4, 5, 6, 7] [4, 5, 6] [⟨(some 4), .move (.t 3), none, []⟩,
    ⟨(some 5), .move (.t 0), none, []⟩,
    ⟨(some 6), .len false (.t 5), none, []⟩,
    ⟨(some 7), .bin .lss (.t 4) (.t 6), none, []⟩])
  (.cond (.t 7)
  .skip
  (.exit 0)))
  (.seq (.block 1 (.seq (.region true [10, 11, 12, 13, 14, 15, 16, 17, 18, 19, 20, 21, 22, 23, 24, 25, 26, 27, 28, 29, 30, 31, 49] [10, 11, 12, 13, 14, 15, 16, 17, 18, 19, 20, 21, 22, 23, 24, 25, 26, 27, 28, 29, 30] [⟨(some 10), .move (.t 0), none, []⟩,
    ⟨(some 11), .move (.t 3), none, []⟩,
    ⟨(some 12), .iaddr 1 (.t 10) (.t 11), none, [0, 1]⟩,
    ⟨(some 13), .load false 1 (.t 12), none, [2, 0, 1]⟩,
    ⟨(some 14), .call 230 [(.t 13), (.c false [(.int .i64 1)]), (.c false [(.int .i64 9)])], none, [3, 2, 0, 1]⟩,
    ⟨(some 15), .un .not (.t 14), none, [4, 3, 2, 0, 1]⟩,
    ⟨(some 16), .move (.t 15), none, [5, 4, 3, 2, 0, 1]⟩,
    ⟨(some 17), .move (.t 3), (some (16, false)), [6, 5, 4, 3, 2, 0, 1]⟩,
    ⟨(some 18), .bin .gtr (.t 17) (.c false [(.int .i64 0)]), (some (16, false)), [7, 6, 5, 4, 3, 2, 0, 1]⟩,
    ⟨(some 19), .move (.t 18), (some (16, false)), [8, 7, 6, 5, 4, 3, 2, 0, 1]⟩,
    ⟨(some 20), .move (.t 0), (some (19, true)), [9, 8, 7, 6, 5, 4, 3, 2, 0, 1]⟩,
    ⟨(some 21), .move (.t 3), (some (19, true)), [9, 8, 7, 6, 5, 4, 3, 2, 0, 1]⟩,
    ⟨(some 22), .bin .sub (.t 21) (.c false [(.int .i64 1)]), (some (19, true)), [11, 9, 8, 7, 6, 5, 4, 3, 2, 0, 1]⟩,
    ⟨(some 23), .iaddr 1 (.t 20) (.t 22), (some (19, true)), [10, 9, 8, 7, 6, 5, 4, 3, 2, 0, 1, 12, 11]⟩,
    ⟨(some 24), .load false 1 (.t 23), (some (19, true)), [13, 10, 9, 8, 7, 6, 5, 4, 3, 2, 0, 1, 12, 11]⟩,
    ⟨(some 25), .move (.t 0), (some (19, true)), [9, 8, 7, 6, 5, 4, 3, 2, 0, 1]⟩,
    ⟨(some 26), .move (.t 3), (some (19, true)), [9, 8, 7, 6, 5, 4, 3, 2, 0, 1]⟩,
    ⟨(some 27), .iaddr 1 (.t 25) (.t 26), (some (19, true)), [15, 9, 8, 7, 6, 5, 4, 3, 2, 0, 1, 16]⟩,
    ⟨(some 28), .load false 1 (.t 27), (some (19, true)), [17, 15, 9, 8, 7, 6, 5, 4, 3, 2, 0, 1, 16]⟩,
    ⟨(some 29), .bin .geq (.t 24) (.t 28), (some (19, true)), [14, 13, 10, 9, 8, 7, 6, 5, 4, 3, 2, 0, 1, 12, 11, 18, 17, 15, 16]⟩,
    ⟨(some 30), .pick (.t 19) (.t 29) (.c false [(.bool false)]), (some (16, false)), [9, 8, 7, 6, 5, 4, 3, 2, 0, 1, 19, 14, 13, 10, 12, 11, 18, 17, 15, 16]⟩,
    ⟨(some 31), .pick (.t 16) (.c false [(.bool true)]) (.t 30), none, [6, 5, 4, 3, 2, 0, 1, 20, 9, 8, 7, 19, 14, 13, 10, 12, 11, 18, 17, 15, 16]⟩])
  (.cond (.t 31)
  (.seq (.region false [] [] [⟨(some 2), .assign (.c false [(.bool false)]), none, []⟩])
  .ret)
  .skip)))
  (.region false [8, 9] [8, 9] [⟨(some 8), .move (.t 3), none, []⟩,
    ⟨(some 9), .bin .add (.t 8) (.c false [(.int .i64 1)]), none, []⟩,
    ⟨(some 3), .assign (.t 9), none, []⟩]))))))
  (.seq (.region false [32, 33, 34] [32, 33, 34] [⟨(some 32), .move (.t 0), none, []⟩,
    ⟨(some 33), .len false (.t 32), none, []⟩,
    ⟨(some 34), .bin .gtr (.t 33) (.c false [(.int .i64 0)]), none, []⟩,
    ⟨(some 2), .assign (.t 34), none, []⟩])
  .ret)))⟩
/- spec.IsHello -/
def ir142 : FnIr := ⟨0, 1, 11, [(2, none)], [],
  (.seq (.region false [1, 12] [] [⟨(some 1), .box (.t 0), none, []⟩,
    ⟨(some 2), .assign (.c false [(.bool false)]), none, []⟩])
  (.seq (.region false [3, 4, 5, 6, 7, 8, 9, 10, 16, 20] [3, 4, 5, 6, 7, 8, 9, 10] [⟨(some 3), .faddr 0 (.t 1), none, []⟩,
    ⟨(some 4), .load false 1 (.t 3), none, []⟩,
    ⟨(some 5), .call 257 [(.t 4)], none, []⟩,
    ⟨(some 6), .move (.t 5), none, []⟩,
    ⟨(some 7), .faddr 1 (.t 1), (some (6, true)), []⟩,
    ⟨(some 8), .load false 1 (.t 7), (some (6, true)), []⟩,
    ⟨(some 9), .call 271 [(.t 8)], (some (6, true)), []⟩,
    ⟨(some 10), .pick (.t 6) (.t 9) (.c false [(.bool false)]), none, []⟩,
    ⟨(some 2), .assign (.t 10), none, []⟩])
  .ret))⟩
/- spec.l9Has -/
def ir285 : FnIr := ⟨0, 2, 18, [(4, none)], [],
  (.seq (.region false [] [] [⟨(some 4), .assign (.c false [(.bool false)]), none, []⟩])
  (.seq (.seq (.region false [] [] [⟨(some 5), .assign (.c false [(.int .i64 0)]), none, []⟩])
  (.block 0 (.loop (.seq (.seq (.region false [6, 7, 8, 9] [6, 7, 8] [⟨(some 6), .move (.t 5), none, []⟩,
    ⟨(some 7), .move (.t 0), none, []⟩,
    ⟨(some 8), .len false (.t 7), none, []⟩,
    ⟨(some 9), .bin .lss (.t 6) (.t 8), none, []⟩])
  (.cond (.t 9)
  .skip
  (.exit 0)))
  (.seq (.block 1 (.seq (.region false [12, 13, 14, 15, 16, 17] [12, 13, 14, 15, 16] [⟨(some 12), .move (.t 0), none, []⟩,
    ⟨(some 13), .move (.t 5), none, []⟩,
    ⟨(some 14), .iaddr 1 (.t 12) (.t 13), none, []⟩,
    ⟨(some 15), .load false 1 (.t 14), none, []⟩,
    ⟨(some 16), .move (.t 1), none, []⟩,
    ⟨(some 17), .bin .eql (.t 15) (.t 16), none, []⟩])
  (.cond (.t 17)
  (.seq (.region false [] [] [⟨(some 4), .assign (.c false [(.bool true)]), none, []⟩])
  .ret)
  .skip)))
  (.region false [10, 11] [10, 11] [⟨(some 10), .move (.t 5), none, []⟩,
    ⟨(some 11), .bin .add (.t 10) (.c false [(.int .i64 1)]), none, []⟩,
    ⟨(some 5), .assign (.t 11), none, []⟩]))))))
  (.seq (.region false [] [] [⟨(some 4), .assign (.c false [(.bool false)]), none, []⟩])
  .ret)))⟩
/- spec.IsReserved -/
def ir301 : FnIr := ⟨0, 1, 10, [(2, none)], [],
  (.seq (.region false [] [] [⟨(some 2), .assign (.c false [(.bool false)]), none, []⟩])
  (.seq (.region false [3, 4, 5, 6, 7, 8, 9, 14] [3, 4, 5, 6, 7, 8, 9] [⟨(some 3), .move (.t 0), none, []⟩,
    ⟨(some 4), .call 230 [(.t 3), (.c false [(.int .i64 0)]), (.c false [(.int .i64 255)])], none, []⟩,
    ⟨(some 5), .move (.t 4), none, []⟩,
    ⟨(some 6), .move (.t 0), (some (5, true)), []⟩,
    ⟨(some 7), .bin .rem (.t 6) (.c false [(.int .i64 16)]), (some (5, true)), []⟩,
    ⟨(some 8), .bin .eql (.t 7) (.c false [(.int .i64 10)]), (some (5, true)), []⟩,
    ⟨(some 9), .pick (.t 5) (.t 8) (.c false [(.bool false)]), none, []⟩,
    ⟨(some 2), .assign (.t 9), none, []⟩])
  .ret))⟩
/- spec.FitsHello -/
def ir160 : FnIr := ⟨0, 2, 45, [(4, none)], [],
  (.seq (.region false [2, 3, 47, 48] [] [⟨(some 2), .box (.t 0), none, []⟩,
    ⟨(some 3), .box (.t 1), none, []⟩,
    ⟨(some 4), .assign (.c false [(.bool false)]), none, []⟩])
  (.seq (.seq (.region false [] [] [⟨(some 5), .assign (.c false [(.int .i64 0)]), none, []⟩])
  (.block 0 (.loop (.seq (.seq (.region false [6, 7, 8, 9, 10] [6, 7, 8, 9] [⟨(some 6), .move (.t 5), none, []⟩,
    ⟨(some 7), .faddr 1 (.t 3), none, []⟩,
    ⟨(some 8), .load false 1 (.t 7), none, []⟩,
    ⟨(some 9), .len false (.t 8), none, []⟩,
    ⟨(some 10), .bin .lss (.t 6) (.t 9), none, []⟩])
  (.cond (.t 10)
  .skip
  (.exit 0)))
  (.seq (.block 1 (.seq (.region true [13, 14, 15, 16, 17, 18, 19, 20, 21, 22, 23, 24, 25, 26, 27, 28, 29, 30, 31, 66, 75] [13, 14, 15, 16, 17, 18, 19, 20, 21, 22, 23, 24, 25, 26, 27, 28, 29, 30] [⟨(some 13), .faddr 1 (.t 2), none, []⟩,
    ⟨(some 14), .load false 1 (.t 13), none, [0]⟩,
    ⟨(some 15), .faddr 1 (.t 3), none, []⟩,
    ⟨(some 16), .load false 1 (.t 15), none, [2]⟩,
    ⟨(some 17), .move (.t 5), none, []⟩,
    ⟨(some 18), .iaddr 2 (.t 16) (.t 17), none, [3, 2, 4]⟩,
    ⟨(some 19), .faddr 0 (.t 18), none, [5, 3, 2, 4]⟩,
    ⟨(some 20), .load false 1 (.t 19), none, [6, 5, 3, 2, 4]⟩,
    ⟨(some 21), .call 286 [(.t 14), (.t 20)], none, [1, 0, 7, 6, 5, 3, 2, 4]⟩,
    ⟨(some 22), .bin .lss (.t 21) (.c false [(.int .i64 0)]), none, [8, 1, 0, 7, 6, 5, 3, 2, 4]⟩,
    ⟨(some 23), .move (.t 22), none, [9, 8, 1, 0, 7, 6, 5, 3, 2, 4]⟩,
    ⟨(some 24), .faddr 1 (.t 3), (some (23, false)), [10, 9, 8, 1, 0, 7, 6, 5, 3, 2, 4]⟩,
    ⟨(some 25), .load false 1 (.t 24), (some (23, false)), [11, 10, 9, 8, 1, 0, 7, 6, 5, 3, 2, 4]⟩,
    ⟨(some 26), .move (.t 5), (some (23, false)), [10, 9, 8, 1, 0, 7, 6, 5, 3, 2, 4]⟩,
    ⟨(some 27), .iaddr 2 (.t 25) (.t 26), (some (23, false)), [12, 11, 10, 9, 8, 1, 0, 7, 6, 5, 3, 2, 4, 13]⟩,
    ⟨(some 28), .faddr 0 (.t 27), (some (23, false)), [14, 12, 11, 10, 9, 8, 1, 0, 7, 6, 5, 3, 2, 4, 13]⟩,
    ⟨(some 29), .load false 1 (.t 28), (some (23, false)), [15, 14, 12, 11, 10, 9, 8, 1, 0, 7, 6, 5, 3, 2, 4, 13]⟩,
    ⟨(some 30), .call 301 [(.t 29)], (some (23, false)), [16, 15, 14, 12, 11, 10, 9, 8, 1, 0, 7, 6, 5, 3, 2, 4, 13]⟩,
    ⟨(some 31), .pick (.t 23) (.c false [(.bool true)]) (.t 30), none, [10, 9, 8, 1, 0, 7, 6, 5, 3, 2, 4, 17, 16, 15, 14, 12, 11, 13]⟩])
  (.cond (.t 31)
  (.seq (.region false [] [] [⟨(some 4), .assign (.c false [(.bool false)]), none, []⟩])
  .ret)
  .skip)))
  (.region false [11, 12] [11, 12] [⟨(some 11), .move (.t 5), none, []⟩,
    ⟨(some 12), .bin .add (.t 11) (.c false [(.int .i64 1)]), none, []⟩,
    ⟨(some 5), .assign (.t 12), none, []⟩]))))))
  (.seq (.region false [32, 33, 34, 35, 36, 37, 38, 39, 40, 41, 42, 43, 44, 78, 81, 88] [32, 33, 34, 35, 36, 37, 38, 39, 40, 41, 42, 43, 44] [⟨(some 32), .load true 2 (.t 2), none, []⟩,
    ⟨(some 33), .call 142 [(.t 32)], none, []⟩,
    ⟨(some 34), .move (.t 33), none, []⟩,
    ⟨(some 35), .load true 2 (.t 3), (some (34, true)), []⟩,
    ⟨(some 36), .call 127 [(.t 35)], (some (34, true)), []⟩,
    ⟨(some 37), .pick (.t 34) (.t 36) (.c false [(.bool false)]), none, []⟩,
    ⟨(some 38), .move (.t 37), none, []⟩,
    ⟨(some 39), .faddr 0 (.t 2), (some (38, true)), []⟩,
    ⟨(some 40), .load false 1 (.t 39), (some (38, true)), []⟩,
    ⟨(some 41), .faddr 0 (.t 3), (some (38, true)), []⟩,
    ⟨(some 42), .load false 1 (.t 41), (some (38, true)), []⟩,
    ⟨(some 43), .call 285 [(.t 40), (.t 42)], (some (38, true)), []⟩,
    ⟨(some 44), .pick (.t 38) (.t 43) (.c false [(.bool false)]), none, []⟩,
    ⟨(some 4), .assign (.t 44), none, []⟩])
  .ret)))⟩
/- impl.InRange -/
def ir232 : FnIr := ⟨0, 3, 15, [(6, none)], [],
  (.seq (.region false [] [] [⟨(some 6), .assign (.c false [(.bool false)]), none, []⟩])
  (.seq (.region false [7, 8, 9, 10, 11, 12, 13, 14] [7, 8, 9, 10, 11, 12, 13, 14] [⟨(some 7), .move (.t 1), none, []⟩,
    ⟨(some 8), .move (.t 0), none, []⟩,
    ⟨(some 9), .bin .leq (.t 7) (.t 8), none, []⟩,
    ⟨(some 10), .move (.t 9), none, []⟩,
    ⟨(some 11), .move (.t 0), (some (10, true)), []⟩,
    ⟨(some 12), .move (.t 2), (some (10, true)), []⟩,
    ⟨(some 13), .bin .leq (.t 11) (.t 12), (some (10, true)), []⟩,
    ⟨(some 14), .pick (.t 10) (.t 13) (.c false [(.bool false)]), none, []⟩,
    ⟨(some 6), .assign (.t 14), none, []⟩])
  .ret))⟩
/- impl.AreVersions -/
def ir255 : FnIr := ⟨0, 1, 32, [(2, none)], [],
  (.seq (.region false [] [] [⟨(some 2), .assign (.c false [(.bool false)]), none, []⟩])
  (.seq (.seq (.region false [5, 6, 7] [] [⟨(some 5), .move (.t 0), none, []⟩,
    ⟨(some 6), .len false (.t 5), none, []⟩,
    ⟨(some 7), .move (.c false [(.int .i64 0)]), none, []⟩])
  (.block 0 (.loop (.seq (.region false [8] [] [⟨(some 8), .bin .lss (.t 7) (.t 6), none, []⟩])
  (.seq (.cond (.t 8)
  .skip
  (.exit 0))
  (.seq (.block 1 (.seq (.region false [9, 10, 11] [9, 10, 11] [⟨(some 9), .move (.t 7), none, []⟩,
    ⟨(some 10), .iaddr 1 (.t 5) (.t 7), none, []⟩,
    ⟨(some 11), .load false 1 (.t 10), none, []⟩,
    ⟨(some 3), .assign (.t 9), none, []⟩,
    ⟨(some 4), .assign (.t 11), none, []⟩])
  (.seq (.region false [12, 13, 14, 15, 16, 17, 18, 19, 20, 21, 22, 23, 24, 25, 26, 27, 45] [12, 13, 14, 15, 16, 17, 18, 19, 20, 21, 22, 23, 24, 25, 26] [⟨(some 12), .move (.t 4), none, []⟩,
    ⟨(some 13), .call 232 [(.t 12), (.c false [(.int .i64 1)]), (.c false [(.int .i64 9)])], none, []⟩,
    ⟨(some 14), .un .not (.t 13), none, []⟩,
    ⟨(some 15), .move (.t 14), none, []⟩,
    ⟨(some 16), .move (.t 3), (some (15, false)), []⟩,
    ⟨(some 17), .bin .gtr (.t 16) (.c false [(.int .i64 0)]), (some (15, false)), []⟩,
    ⟨(some 18), .move (.t 17), (some (15, false)), []⟩,
    ⟨(some 19), .move (.t 0), (some (18, true)), []⟩,
    ⟨(some 20), .move (.t 3), (some (18, true)), []⟩,
    ⟨(some 21), .bin .sub (.t 20) (.c false [(.int .i64 1)]), (some (18, true)), []⟩,
    ⟨(some 22), .iaddr 1 (.t 19) (.t 21), (some (18, true)), []⟩,
    ⟨(some 23), .load false 1 (.t 22), (some (18, true)), []⟩,
    ⟨(some 24), .move (.t 4), (some (18, true)), []⟩,
    ⟨(some 25), .bin .geq (.t 23) (.t 24), (some (18, true)), []⟩,
    ⟨(some 26), .pick (.t 18) (.t 25) (.c false [(.bool false)]), (some (15, false)), []⟩,
    ⟨(some 27), .pick (.t 15) (.c false [(.bool true)]) (.t 26), none, []⟩])
  (.cond (.t 27)
  (.seq (.region false [] [] [⟨(some 2), .assign (.c false [(.bool false)]), none, []⟩])
  .ret)
  .skip))))
  (.region false [28] [28] [⟨(some 28), .bin .add (.t 7) (.c false [(.int .i64 1)]), none, []⟩,
    ⟨(some 7), .move (.t 28), none, []⟩])))))))
  (.seq (.region false [29, 30, 31] [29, 30, 31] [⟨(some 29), .move (.t 0), none, []⟩,
    ⟨(some 30), .len false (.t 29), none, []⟩,
    ⟨(some 31), .bin .gtr (.t 30) (.c false [(.int .i64 0)]), none, []⟩,
    ⟨(some 2), .assign (.t 31), none, []⟩])
  .ret)))⟩
/- slices.IndexFunc[[]int,int] -/
def ir377 : FnIr := ⟨0, 2, 19, [(4, none)], [],
  (.seq (.region false [] [] [⟨(some 4), .assign (.c false [(.int .i64 0)]), none, []⟩])
  (.seq (.seq (.region false [6, 7, 8] [6] [⟨(some 6), .move (.t 0), none, []⟩,
    ⟨(some 7), .len false (.t 6), none, []⟩,
    ⟨(some 8), .move (.c false [(.int .i64 0)]), none, []⟩])
  (.block 0 (.loop (.seq (.region false [9] [] [⟨(some 9), .bin .lss (.t 8) (.t 7), none, []⟩])
  (.seq (.cond (.t 9)
  .skip
  (.exit 0))
  (.seq (.block 1 (.seq (.region false [10] [10] [⟨(some 10), .move (.t 8), none, []⟩,
    ⟨(some 5), .assign (.t 10), none, []⟩])
  (.seq (.region false [11, 12, 13, 14, 15, 16, 35] [11, 12, 13, 14, 15] [⟨(some 11), .move (.t 1), none, []⟩,
    ⟨(some 12), .move (.t 0), none, []⟩,
    ⟨(some 13), .move (.t 5), none, []⟩,
    ⟨(some 14), .iaddr 1 (.t 12) (.t 13), none, []⟩,
    ⟨(some 15), .load false 1 (.t 14), none, []⟩,
    ⟨(some 16), .callv (.t 11) [(.t 15)], none, []⟩])
  (.cond (.t 16)
  (.seq (.region false [17] [17] [⟨(some 17), .move (.t 5), none, []⟩,
    ⟨(some 4), .assign (.t 17), none, []⟩])
  .ret)
  .skip))))
  (.region false [18] [18] [⟨(some 18), .bin .add (.t 8) (.c false [(.int .i64 1)]), none, []⟩,
    ⟨(some 8), .move (.t 18), none, []⟩])))))))
  (.seq (.region false [] [] [⟨(some 4), .assign (.c false [(.int .i64 (-1))]), none, []⟩])
  .ret)))⟩
/- slices.ContainsFunc[[]int,int] -/
def ir336 : FnIr := ⟨0, 2, 9, [(4, none)], [],
  (.seq (.region false [] [] [⟨(some 4), .assign (.c false [(.bool false)]), none, []⟩])
  (.seq (.region false [5, 6, 7, 8, 16] [5, 6, 7, 8] [⟨(some 5), .move (.t 0), none, []⟩,
    ⟨(some 6), .move (.t 1), none, []⟩,
    ⟨(some 7), .call 377 [(.t 5), (.t 6)], none, []⟩,
    ⟨(some 8), .bin .geq (.t 7) (.c false [(.int .i64 0)]), none, []⟩,
    ⟨(some 4), .assign (.t 8), none, []⟩])
  .ret))⟩
/- impl.areNumbers$1 -/
def ir340 : FnIr := ⟨0, 3, 10, [(4, none)], [],
  (.seq (.region false [] [] [⟨(some 4), .assign (.c false [(.bool false)]), none, []⟩])
  (.seq (.region false [5, 6, 7, 8, 9, 18] [5, 6, 7, 8, 9] [⟨(some 5), .move (.t 0), none, []⟩,
    ⟨(some 6), .load false 1 (.t 1), none, []⟩,
    ⟨(some 7), .load false 1 (.t 2), none, []⟩,
    ⟨(some 8), .call 232 [(.t 5), (.t 6), (.t 7)], none, []⟩,
    ⟨(some 9), .un .not (.t 8), none, []⟩,
    ⟨(some 4), .assign (.t 9), none, []⟩])
  .ret))⟩
/- impl.areNumbers -/
def ir233 : FnIr := ⟨0, 3, 11, [(6, none)], [],
  (.seq (.region false [4, 5, 15, 16] [] [⟨(some 4), .box (.t 1), none, []⟩,
    ⟨(some 5), .box (.t 2), none, []⟩,
    ⟨(some 6), .assign (.c false [(.bool false)]), none, []⟩])
  (.seq (.region false [7, 8, 9, 10, 20] [7, 8, 9, 10] [⟨(some 7), .move (.t 0), none, []⟩,
    ⟨(some 8), .mkfn 340 [4, 5], none, []⟩,
    ⟨(some 9), .call 336 [(.t 7), (.t 8)], none, []⟩,
    ⟨(some 10), .un .not (.t 9), none, []⟩,
    ⟨(some 6), .assign (.t 10), none, []⟩])
  .ret))⟩
/- impl.Ext] -/
def ir351 : FnIr := ⟨0, 2, 19, [(4, none)], [],
  (.seq (.region false [] [] [⟨(some 4), .assign (.c false [(.int .i64 0)]), none, []⟩])
  (.seq (.seq (.region false [6, 7, 8] [6] [⟨(some 6), .move (.t 0), none, []⟩,
    ⟨(some 7), .len false (.t 6), none, []⟩,
    ⟨(some 8), .move (.c false [(.int .i64 0)]), none, []⟩])
  (.block 0 (.loop (.seq (.region false [9] [] [⟨(some 9), .bin .lss (.t 8) (.t 7), none, []⟩])
  (.seq (.cond (.t 9)
  .skip
  (.exit 0))
  (.seq (.block 1 (.seq (.region false [10] [10] [⟨(some 10), .move (.t 8), none, []⟩,
    ⟨(some 5), .assign (.t 10), none, []⟩])
  (.seq (.region false [11, 12, 13, 14, 15, 16, 35] [11, 12, 13, 14, 15] [⟨(some 11), .move (.t 1), none, []⟩,
    ⟨(some 12), .move (.t 0), none, []⟩,
    ⟨(some 13), .move (.t 5), none, []⟩,
    ⟨(some 14), .iaddr 2 (.t 12) (.t 13), none, []⟩,
    ⟨(some 15), .load true 2 (.t 14), none, []⟩,
    ⟨(some 16), .callv (.t 11) [(.t 15)], none, []⟩])
  (.cond (.t 16)
  (.seq (.region false [17] [17] [⟨(some 17), .move (.t 5), none, []⟩,
    ⟨(some 4), .assign (.t 17), none, []⟩])
  .ret)
  .skip))))
  (.region false [18] [18] [⟨(some 18), .bin .add (.t 8) (.c false [(.int .i64 1)]), none, []⟩,
    ⟨(some 8), .move (.t 18), none, []⟩])))))))
  (.seq (.region false [] [] [⟨(some 4), .assign (.c false [(.int .i64 (-1))]), none, []⟩])
  .ret)))⟩
/- impl.ExtOf$1 -/
def ir352 : FnIr := ⟨0, 2, 8, [(3, none)], [],
  (.seq (.region false [2, 10] [] [⟨(some 2), .box (.t 0), none, []⟩,
    ⟨(some 3), .assign (.c false [(.bool false)]), none, []⟩])
  (.seq (.region false [4, 5, 6, 7] [4, 5, 6, 7] [⟨(some 4), .faddr 0 (.t 2), none, []⟩,
    ⟨(some 5), .load false 1 (.t 4), none, []⟩,
    ⟨(some 6), .load false 1 (.t 1), none, []⟩,
    ⟨(some 7), .bin .eql (.t 5) (.t 6), none, []⟩,
    ⟨(some 3), .assign (.t 7), none, []⟩])
  .ret))⟩
/- impl.ExtOf -/
def ir290 : FnIr := ⟨0, 2, 8, [(4, none)], [],
  (.seq (.region false [3, 11] [] [⟨(some 3), .box (.t 1), none, []⟩,
    ⟨(some 4), .assign (.c false [(.int .i64 0)]), none, []⟩])
  (.seq (.region false [5, 6, 7, 15] [5, 6, 7] [⟨(some 5), .move (.t 0), none, []⟩,
    ⟨(some 6), .mkfn 352 [3], none, []⟩,
    ⟨(some 7), .call 351 [(.t 5), (.t 6)], none, []⟩,
    ⟨(some 4), .assign (.t 7), none, []⟩])
  .ret))⟩
/- impl.AreExts -/
def ir258 : FnIr := ⟨0, 1, 41, [(2, none)], [],
  (.seq (.region false [] [] [⟨(some 2), .assign (.c false [(.bool false)]), none, []⟩])
  (.seq (.seq (.region false [5, 6, 7] [] [⟨(some 5), .move (.t 0), none, []⟩,
    ⟨(some 6), .len false (.t 5), none, []⟩,
    ⟨(some 7), .move (.c false [(.int .i64 0)]), none, []⟩])
  (.block 0 (.loop (.seq (.region false [8] [] [⟨(some 8), .bin .lss (.t 7) (.t 6), none, []⟩])
  (.seq (.cond (.t 8)
  .skip
  (.exit 0))
  (.seq (.block 1 (.seq (.region false [9, 10, 11, 4, 45] [9, 10, 11] [⟨(some 9), .move (.t 7), none, []⟩,
    ⟨(some 10), .iaddr 2 (.t 5) (.t 7), none, []⟩,
    ⟨(some 11), .load true 2 (.t 10), none, []⟩,
    ⟨(some 4), .alloc [(.int .i64 0), (.row () [])], none, []⟩,
    ⟨(some 3), .assign (.t 9), none, []⟩,
    ⟨none, .store 2 (.t 4) (.t 11), none, []⟩])
  (.seq (.region true [12, 13, 14, 15, 16, 17, 18, 19, 20, 21, 22, 23, 24, 25, 26, 27, 28, 29, 30, 31, 32, 33, 34, 35, 36, 55, 63, 75] [12, 13, 14, 15, 16, 17, 18, 19, 20, 21, 22, 23, 24, 25, 26, 27, 28, 29, 30, 31, 32, 33, 34, 35] [⟨(some 12), .faddr 0 (.t 4), none, []⟩,
    ⟨(some 13), .load false 1 (.t 12), none, [0]⟩,
    ⟨(some 14), .call 232 [(.t 13), (.c false [(.int .i64 0)]), (.c false [(.int .i64 255)])], none, [1, 0]⟩,
    ⟨(some 15), .un .not (.t 14), none, [2, 1, 0]⟩,
    ⟨(some 16), .move (.t 15), none, [3, 2, 1, 0]⟩,
    ⟨(some 17), .move (.t 0), (some (16, false)), [4, 3, 2, 1, 0]⟩,
    ⟨(some 18), .move (.t 3), (some (16, false)), [4, 3, 2, 1, 0]⟩,
    ⟨(some 19), .slice 2 (.t 17) none (some (.t 18)), (some (16, false)), [5, 4, 3, 2, 1, 0, 6]⟩,
    ⟨(some 20), .faddr 0 (.t 4), (some (16, false)), [4, 3, 2, 1, 0]⟩,
    ⟨(some 21), .load false 1 (.t 20), (some (16, false)), [8, 4, 3, 2, 1, 0]⟩,
    ⟨(some 22), .call 290 [(.t 19), (.t 21)], (some (16, false)), [7, 5, 4, 3, 2, 1, 0, 6, 9, 8]⟩,
    ⟨(some 23), .bin .geq (.t 22) (.c false [(.int .i64 0)]), (some (16, false)), [10, 7, 5, 4, 3, 2, 1, 0, 6, 9, 8]⟩,
    ⟨(some 24), .pick (.t 16) (.c false [(.bool true)]) (.t 23), none, [4, 3, 2, 1, 0, 11, 10, 7, 5, 6, 9, 8]⟩,
    ⟨(some 25), .move (.t 24), none, [12, 4, 3, 2, 1, 0, 11, 10, 7, 5, 6, 9, 8]⟩,
    ⟨(some 26), .faddr 1 (.t 4), (some (25, false)), [13, 12, 4, 3, 2, 1, 0, 11, 10, 7, 5, 6, 9, 8]⟩,
    ⟨(some 27), .load false 1 (.t 26), (some (25, false)), [14, 13, 12, 4, 3, 2, 1, 0, 11, 10, 7, 5, 6, 9, 8]⟩,
    ⟨(some 28), .len false (.t 27), (some (25, false)), [15, 14, 13, 12, 4, 3, 2, 1, 0, 11, 10, 7, 5, 6, 9, 8]⟩,
    ⟨(some 29), .bin .gtr (.t 28) (.c false [(.int .i64 4)]), (some (25, false)), [16, 15, 14, 13, 12, 4, 3, 2, 1, 0, 11, 10, 7, 5, 6, 9, 8]⟩,
    ⟨(some 30), .pick (.t 25) (.c false [(.bool true)]) (.t 29), none, [13, 12, 4, 3, 2, 1, 0, 11, 10, 7, 5, 6, 9, 8, 17, 16, 15, 14]⟩,
    ⟨(some 31), .move (.t 30), none, [18, 13, 12, 4, 3, 2, 1, 0, 11, 10, 7, 5, 6, 9, 8, 17, 16, 15, 14]⟩,
    ⟨(some 32), .faddr 1 (.t 4), (some (31, false)), [19, 18, 13, 12, 4, 3, 2, 1, 0, 11, 10, 7, 5, 6, 9, 8, 17, 16, 15, 14]⟩,
    ⟨(some 33), .load false 1 (.t 32), (some (31, false)), [20, 19, 18, 13, 12, 4, 3, 2, 1, 0, 11, 10, 7, 5, 6, 9, 8, 17, 16, 15, 14]⟩,
    ⟨(some 34), .call 233 [(.t 33), (.c false [(.int .i64 0)]), (.c false [(.int .i64 255)])], (some (31, false)), [21, 20, 19, 18, 13, 12, 4, 3, 2, 1, 0, 11, 10, 7, 5, 6, 9, 8, 17, 16, 15, 14]⟩,
    ⟨(some 35), .un .not (.t 34), (some (31, false)), [22, 21, 20, 19, 18, 13, 12, 4, 3, 2, 1, 0, 11, 10, 7, 5, 6, 9, 8, 17, 16, 15, 14]⟩,
    ⟨(some 36), .pick (.t 31) (.c false [(.bool true)]) (.t 35), none, [19, 18, 13, 12, 4, 3, 2, 1, 0, 11, 10, 7, 5, 6, 9, 8, 17, 16, 15, 14, 23, 22, 21, 20]⟩])
  (.cond (.t 36)
  (.seq (.region false [] [] [⟨(some 2), .assign (.c false [(.bool false)]), none, []⟩])
  .ret)
  .skip))))
  (.region false [37] [37] [⟨(some 37), .bin .add (.t 7) (.c false [(.int .i64 1)]), none, []⟩,
    ⟨(some 7), .move (.t 37), none, []⟩])))))))
  (.seq (.region false [38, 39, 40] [38, 39, 40] [⟨(some 38), .move (.t 0), none, []⟩,
    ⟨(some 39), .len false (.t 38), none, []⟩,
    ⟨(some 40), .bin .leq (.t 39) (.c false [(.int .i64 6)]), none, []⟩,
    ⟨(some 2), .assign (.t 40), none, []⟩])
  .ret)))⟩
/- impl.IsHello -/
def ir113 : FnIr := ⟨0, 1, 11, [(2, none)], [],
  (.seq (.region false [1, 12] [] [⟨(some 1), .box (.t 0), none, []⟩,
    ⟨(some 2), .assign (.c false [(.bool false)]), none, []⟩])
  (.seq (.region false [3, 4, 5, 6, 7, 8, 9, 10, 16, 20] [3, 4, 5, 6, 7, 8, 9, 10] [⟨(some 3), .faddr 0 (.t 1), none, []⟩,
    ⟨(some 4), .load false 1 (.t 3), none, []⟩,
    ⟨(some 5), .call 255 [(.t 4)], none, []⟩,
    ⟨(some 6), .move (.t 5), none, []⟩,
    ⟨(some 7), .faddr 1 (.t 1), (some (6, true)), []⟩,
    ⟨(some 8), .load false 1 (.t 7), (some (6, true)), []⟩,
    ⟨(some 9), .call 258 [(.t 8)], (some (6, true)), []⟩,
    ⟨(some 10), .pick (.t 6) (.t 9) (.c false [(.bool false)]), none, []⟩,
    ⟨(some 2), .assign (.t 10), none, []⟩])
  .ret))⟩
/- impl.IsAnswer -/
def ir118 : FnIr := ⟨0, 1, 11, [(2, none)], [],
  (.seq (.region false [1, 12] [] [⟨(some 1), .box (.t 0), none, []⟩,
    ⟨(some 2), .assign (.c false [(.bool false)]), none, []⟩])
  (.seq (.region false [3, 4, 5, 6, 7, 8, 9, 10, 16, 20] [3, 4, 5, 6, 7, 8, 9, 10] [⟨(some 3), .faddr 0 (.t 1), none, []⟩,
    ⟨(some 4), .load false 1 (.t 3), none, []⟩,
    ⟨(some 5), .call 232 [(.t 4), (.c false [(.int .i64 1)]), (.c false [(.int .i64 9)])], none, []⟩,
    ⟨(some 6), .move (.t 5), none, []⟩,
    ⟨(some 7), .faddr 1 (.t 1), (some (6, true)), []⟩,
    ⟨(some 8), .load false 1 (.t 7), (some (6, true)), []⟩,
    ⟨(some 9), .call 258 [(.t 8)], (some (6, true)), []⟩,
    ⟨(some 10), .pick (.t 6) (.t 9) (.c false [(.bool false)]), none, []⟩,
    ⟨(some 2), .assign (.t 10), none, []⟩])
  .ret))⟩
/- spec.EqualInts -/
def ir228 : FnIr := ⟨0, 2, 26, [(4, none)], [],
  (.seq (.region false [] [] [⟨(some 4), .assign (.c false [(.bool false)]), none, []⟩])
  (.seq (.seq (.region false [6, 7, 8, 9, 10] [6, 7, 8, 9] [⟨(some 6), .move (.t 0), none, []⟩,
    ⟨(some 7), .len false (.t 6), none, []⟩,
    ⟨(some 8), .move (.t 1), none, []⟩,
    ⟨(some 9), .len false (.t 8), none, []⟩,
    ⟨(some 10), .bin .neq (.t 7) (.t 9), none, []⟩])
  (.cond (.t 10)
  (.seq (.region false [] [] [⟨(some 4), .assign (.c false [(.bool false)]), none, []⟩])
  .ret)
  .skip))
  (.seq (.seq (.region false [] [] [⟨(some 5), .assign (.c false [(.int .i64 0)]), none, []⟩])
  (.block 0 (.loop (.seq (.seq (.region false [11, 12, 13, 14] [11, 12, 13] [⟨(some 11), .move (.t 5), none, []⟩,
    ⟨(some 12), .move (.t 0), none, []⟩,
    ⟨(some 13), .len false (.t 12), none, []⟩,
    ⟨(some 14), .bin .lss (.t 11) (.t 13), none, []⟩])
  (.cond (.t 14)
  .skip
  (.exit 0)))
  (.seq (.block 1 (.seq (.region true [17, 18, 19, 20, 21, 22, 23, 24, 25] [17, 18, 19, 20, 21, 22, 23, 24] [⟨(some 17), .move (.t 0), none, []⟩,
    ⟨(some 18), .move (.t 5), none, []⟩,
    ⟨(some 19), .iaddr 1 (.t 17) (.t 18), none, [0, 1]⟩,
    ⟨(some 20), .load false 1 (.t 19), none, [2, 0, 1]⟩,
    ⟨(some 21), .move (.t 1), none, []⟩,
    ⟨(some 22), .move (.t 5), none, []⟩,
    ⟨(some 23), .iaddr 1 (.t 21) (.t 22), none, [4, 5]⟩,
    ⟨(some 24), .load false 1 (.t 23), none, [6, 4, 5]⟩,
    ⟨(some 25), .bin .neq (.t 20) (.t 24), none, [3, 2, 0, 1, 7, 6, 4, 5]⟩])
  (.cond (.t 25)
  (.seq (.region false [] [] [⟨(some 4), .assign (.c false [(.bool false)]), none, []⟩])
  .ret)
  .skip)))
  (.region false [15, 16] [15, 16] [⟨(some 15), .move (.t 5), none, []⟩,
    ⟨(some 16), .bin .add (.t 15) (.c false [(.int .i64 1)]), none, []⟩,
    ⟨(some 5), .assign (.t 16), none, []⟩]))))))
  (.seq (.region false [] [] [⟨(some 4), .assign (.c false [(.bool true)]), none, []⟩])
  .ret))))⟩
/- spec.IsPartOf -/
def ir147 : FnIr := ⟨0, 2, 58, [(4, none)], [],
  (.seq (.region false [2, 3, 60, 61] [] [⟨(some 2), .box (.t 0), none, []⟩,
    ⟨(some 3), .box (.t 1), none, []⟩,
    ⟨(some 4), .assign (.c false [(.bool false)]), none, []⟩])
  (.seq (.seq (.region false [] [] [⟨(some 5), .assign (.c false [(.int .i64 0)]), none, []⟩])
  (.block 0 (.loop (.seq (.seq (.region false [8, 9, 10, 11, 12] [8, 9, 10, 11] [⟨(some 8), .move (.t 5), none, []⟩,
    ⟨(some 9), .faddr 0 (.t 2), none, []⟩,
    ⟨(some 10), .load false 1 (.t 9), none, []⟩,
    ⟨(some 11), .len false (.t 10), none, []⟩,
    ⟨(some 12), .bin .lss (.t 8) (.t 11), none, []⟩])
  (.cond (.t 12)
  .skip
  (.exit 0)))
  (.seq (.block 1 (.seq (.region true [15, 16, 17, 18, 19, 20, 21, 22, 23, 80] [15, 16, 17, 18, 19, 20, 21, 22] [⟨(some 15), .faddr 0 (.t 3), none, []⟩,
    ⟨(some 16), .load false 1 (.t 15), none, [0]⟩,
    ⟨(some 17), .faddr 0 (.t 2), none, []⟩,
    ⟨(some 18), .load false 1 (.t 17), none, [2]⟩,
    ⟨(some 19), .move (.t 5), none, []⟩,
    ⟨(some 20), .iaddr 1 (.t 18) (.t 19), none, [3, 2, 4]⟩,
    ⟨(some 21), .load false 1 (.t 20), none, [5, 3, 2, 4]⟩,
    ⟨(some 22), .call 285 [(.t 16), (.t 21)], none, [1, 0, 6, 5, 3, 2, 4]⟩,
    ⟨(some 23), .un .not (.t 22), none, [7, 1, 0, 6, 5, 3, 2, 4]⟩])
  (.cond (.t 23)
  (.seq (.region false [] [] [⟨(some 4), .assign (.c false [(.bool false)]), none, []⟩])
  .ret)
  .skip)))
  (.region false [13, 14] [13, 14] [⟨(some 13), .move (.t 5), none, []⟩,
    ⟨(some 14), .bin .add (.t 13) (.c false [(.int .i64 1)]), none, []⟩,
    ⟨(some 5), .assign (.t 14), none, []⟩]))))))
  (.seq (.seq (.region false [] [] [⟨(some 6), .assign (.c false [(.int .i64 0)]), none, []⟩])
  (.block 2 (.loop (.seq (.seq (.region false [24, 25, 26, 27, 28] [24, 25, 26, 27] [⟨(some 24), .move (.t 6), none, []⟩,
    ⟨(some 25), .faddr 1 (.t 2), none, []⟩,
    ⟨(some 26), .load false 1 (.t 25), none, []⟩,
    ⟨(some 27), .len false (.t 26), none, []⟩,
    ⟨(some 28), .bin .lss (.t 24) (.t 27), none, []⟩])
  (.cond (.t 28)
  .skip
  (.exit 2)))
  (.seq (.block 3 (.seq (.region true [31, 32, 33, 34, 35, 36, 37, 38, 39, 97] [31, 32, 33, 34, 35, 36, 37, 38, 39] [⟨(some 31), .faddr 1 (.t 3), none, []⟩,
    ⟨(some 32), .load false 1 (.t 31), none, [0]⟩,
    ⟨(some 33), .faddr 1 (.t 2), none, []⟩,
    ⟨(some 34), .load false 1 (.t 33), none, [2]⟩,
    ⟨(some 35), .move (.t 6), none, []⟩,
    ⟨(some 36), .iaddr 2 (.t 34) (.t 35), none, [3, 2, 4]⟩,
    ⟨(some 37), .faddr 0 (.t 36), none, [5, 3, 2, 4]⟩,
    ⟨(some 38), .load false 1 (.t 37), none, [6, 5, 3, 2, 4]⟩,
    ⟨(some 39), .call 286 [(.t 32), (.t 38)], none, [1, 0, 7, 6, 5, 3, 2, 4]⟩,
    ⟨(some 7), .assign (.t 39), none, [8, 1, 0, 7, 6, 5, 3, 2, 4]⟩])
  (.seq (.region true [40, 41, 42, 43, 44, 45, 46, 47, 48, 49, 50, 51, 52, 53, 54, 55, 56, 57, 113] [40, 41, 42, 43, 44, 45, 46, 47, 48, 49, 50, 51, 52, 53, 54, 55, 56] [⟨(some 40), .move (.t 7), none, []⟩,
    ⟨(some 41), .bin .lss (.t 40) (.c false [(.int .i64 0)]), none, [0]⟩,
    ⟨(some 42), .move (.t 41), none, [1, 0]⟩,
    ⟨(some 43), .faddr 1 (.t 3), (some (42, false)), [2, 1, 0]⟩,
    ⟨(some 44), .load false 1 (.t 43), (some (42, false)), [3, 2, 1, 0]⟩,
    ⟨(some 45), .move (.t 7), (some (42, false)), [2, 1, 0]⟩,
    ⟨(some 46), .iaddr 2 (.t 44) (.t 45), (some (42, false)), [4, 3, 2, 1, 0, 5]⟩,
    ⟨(some 47), .faddr 1 (.t 46), (some (42, false)), [6, 4, 3, 2, 1, 0, 5]⟩,
    ⟨(some 48), .load false 1 (.t 47), (some (42, false)), [7, 6, 4, 3, 2, 1, 0, 5]⟩,
    ⟨(some 49), .faddr 1 (.t 2), (some (42, false)), [2, 1, 0]⟩,
    ⟨(some 50), .load false 1 (.t 49), (some (42, false)), [9, 2, 1, 0]⟩,
    ⟨(some 51), .move (.t 6), (some (42, false)), [2, 1, 0]⟩,
    ⟨(some 52), .iaddr 2 (.t 50) (.t 51), (some (42, false)), [10, 9, 2, 1, 0, 11]⟩,
    ⟨(some 53), .faddr 1 (.t 52), (some (42, false)), [12, 10, 9, 2, 1, 0, 11]⟩,
    ⟨(some 54), .load false 1 (.t 53), (some (42, false)), [13, 12, 10, 9, 2, 1, 0, 11]⟩,
    ⟨(some 55), .call 228 [(.t 48), (.t 54)], (some (42, false)), [8, 7, 6, 4, 3, 2, 1, 0, 5, 14, 13, 12, 10, 9, 11]⟩,
    ⟨(some 56), .un .not (.t 55), (some (42, false)), [15, 8, 7, 6, 4, 3, 2, 1, 0, 5, 14, 13, 12, 10, 9, 11]⟩,
    ⟨(some 57), .pick (.t 42) (.c false [(.bool true)]) (.t 56), none, [2, 1, 0, 16, 15, 8, 7, 6, 4, 3, 5, 14, 13, 12, 10, 9, 11]⟩])
  (.cond (.t 57)
  (.seq (.region false [] [] [⟨(some 4), .assign (.c false [(.bool false)]), none, []⟩])
  .ret)
  .skip))))
  (.region false [29, 30] [29, 30] [⟨(some 29), .move (.t 6), none, []⟩,
    ⟨(some 30), .bin .add (.t 29) (.c false [(.int .i64 1)]), none, []⟩,
    ⟨(some 6), .assign (.t 30), none, []⟩]))))))
  (.seq (.region false [] [] [⟨(some 4), .assign (.c false [(.bool true)]), none, []⟩])
  .ret))))⟩
/- spec.l21Left -/
def ir292 : FnIr := ⟨0, 2, 29, [(4, none)], [],
  (.seq (.region false [] [] [⟨(some 4), .assign (.c false [(.row () [])]), none, []⟩])
  (.seq (.region false [7] [7] [⟨(some 7), .bslice [(.int .i64 0)] 0 [], none, []⟩,
    ⟨(some 5), .assign (.t 7), none, []⟩])
  (.seq (.seq (.region false [] [] [⟨(some 6), .assign (.c false [(.int .i64 0)]), none, []⟩])
  (.block 0 (.loop (.seq (.seq (.region false [8, 9, 10, 11] [8, 9, 10] [⟨(some 8), .move (.t 6), none, []⟩,
    ⟨(some 9), .move (.t 0), none, []⟩,
    ⟨(some 10), .len false (.t 9), none, []⟩,
    ⟨(some 11), .bin .lss (.t 8) (.t 10), none, []⟩])
  (.cond (.t 11)
  .skip
  (.exit 0)))
  (.seq (.block 1 (.seq (.region false [14, 15, 16, 17, 18, 19, 20, 48] [14, 15, 16, 17, 18, 19] [⟨(some 14), .move (.t 1), none, []⟩,
    ⟨(some 15), .move (.t 0), none, []⟩,
    ⟨(some 16), .move (.t 6), none, []⟩,
    ⟨(some 17), .iaddr 1 (.t 15) (.t 16), none, []⟩,
    ⟨(some 18), .load false 1 (.t 17), none, []⟩,
    ⟨(some 19), .call 285 [(.t 14), (.t 18)], none, []⟩,
    ⟨(some 20), .un .not (.t 19), none, []⟩])
  (.cond (.t 20)
  (.region false [21, 22, 23, 24, 25, 26, 27] [21, 22, 23, 24, 25, 26, 27] [⟨(some 21), .move (.t 5), none, []⟩,
    ⟨(some 22), .move (.t 0), none, []⟩,
    ⟨(some 23), .move (.t 6), none, []⟩,
    ⟨(some 24), .iaddr 1 (.t 22) (.t 23), none, []⟩,
    ⟨(some 25), .load false 1 (.t 24), none, []⟩,
    ⟨(some 26), .bslice [(.int .i64 0)] 1 [(0, (.t 25))], none, []⟩,
    ⟨(some 27), .append 1 (.t 21) (.t 26), none, []⟩,
    ⟨(some 5), .assign (.t 27), none, []⟩])
  .skip)))
  (.region false [12, 13] [12, 13] [⟨(some 12), .move (.t 6), none, []⟩,
    ⟨(some 13), .bin .add (.t 12) (.c false [(.int .i64 1)]), none, []⟩,
    ⟨(some 6), .assign (.t 13), none, []⟩]))))))
  (.seq (.region false [28] [28] [⟨(some 28), .move (.t 5), none, []⟩,
    ⟨(some 4), .assign (.t 28), none, []⟩])
  .ret))))⟩
/- slices.Index[[]int,int] -/
def ir354 : FnIr := ⟨0, 2, 19, [(4, none)], [],
  (.seq (.region false [] [] [⟨(some 4), .assign (.c false [(.int .i64 0)]), none, []⟩])
  (.seq (.seq (.region false [6, 7, 8] [6] [⟨(some 6), .move (.t 0), none, []⟩,
    ⟨(some 7), .len false (.t 6), none, []⟩,
    ⟨(some 8), .move (.c false [(.int .i64 0)]), none, []⟩])
  (.block 0 (.loop (.seq (.region false [9] [] [⟨(some 9), .bin .lss (.t 8) (.t 7), none, []⟩])
  (.seq (.cond (.t 9)
  .skip
  (.exit 0))
  (.seq (.block 1 (.seq (.region false [10] [10] [⟨(some 10), .move (.t 8), none, []⟩,
    ⟨(some 5), .assign (.t 10), none, []⟩])
  (.seq (.region false [11, 12, 13, 14, 15, 16] [11, 12, 13, 14, 15] [⟨(some 11), .move (.t 1), none, []⟩,
    ⟨(some 12), .move (.t 0), none, []⟩,
    ⟨(some 13), .move (.t 5), none, []⟩,
    ⟨(some 14), .iaddr 1 (.t 12) (.t 13), none, []⟩,
    ⟨(some 15), .load false 1 (.t 14), none, []⟩,
    ⟨(some 16), .bin .eql (.t 11) (.t 15), none, []⟩])
  (.cond (.t 16)
  (.seq (.region false [17] [17] [⟨(some 17), .move (.t 5), none, []⟩,
    ⟨(some 4), .assign (.t 17), none, []⟩])
  .ret)
  .skip))))
  (.region false [18] [18] [⟨(some 18), .bin .add (.t 8) (.c false [(.int .i64 1)]), none, []⟩,
    ⟨(some 8), .move (.t 18), none, []⟩])))))))
  (.seq (.region false [] [] [⟨(some 4), .assign (.c false [(.int .i64 (-1))]), none, []⟩])
  .ret)))⟩
/- slices.Contains[[]int,int] -/
def ir302 : FnIr := ⟨0, 2, 9, [(4, none)], [],
  (.seq (.region false [] [] [⟨(some 4), .assign (.c false [(.bool false)]), none, []⟩])
  (.seq (.region false [5, 6, 7, 8, 16] [5, 6, 7, 8] [⟨(some 5), .move (.t 0), none, []⟩,
    ⟨(some 6), .move (.t 1), none, []⟩,
    ⟨(some 7), .call 354 [(.t 5), (.t 6)], none, []⟩,
    ⟨(some 8), .bin .geq (.t 7) (.c false [(.int .i64 0)]), none, []⟩,
    ⟨(some 4), .assign (.t 8), none, []⟩])
  .ret))⟩
/- impl.without -/
def ir287 : FnIr := ⟨0, 2, 25, [(4, none)], [],
  (.seq (.region false [] [] [⟨(some 4), .assign (.c false [(.row () [])]), none, []⟩])
  (.seq (.region false [8] [8] [⟨(some 8), .bslice [(.int .i64 0)] 0 [], none, []⟩,
    ⟨(some 5), .assign (.t 8), none, []⟩])
  (.seq (.seq (.region false [9, 10, 11] [] [⟨(some 9), .move (.t 0), none, []⟩,
    ⟨(some 10), .len false (.t 9), none, []⟩,
    ⟨(some 11), .move (.c false [(.int .i64 0)]), none, []⟩])
  (.block 0 (.loop (.seq (.region false [12] [] [⟨(some 12), .bin .lss (.t 11) (.t 10), none, []⟩])
  (.seq (.cond (.t 12)
  .skip
  (.exit 0))
  (.seq (.block 1 (.seq (.region false [13, 14] [13, 14] [⟨(some 13), .iaddr 1 (.t 9) (.t 11), none, []⟩,
    ⟨(some 14), .load false 1 (.t 13), none, []⟩,
    ⟨(some 7), .assign (.t 14), none, []⟩])
  (.seq (.region false [15, 16, 17, 18, 42] [15, 16, 17] [⟨(some 15), .move (.t 1), none, []⟩,
    ⟨(some 16), .move (.t 7), none, []⟩,
    ⟨(some 17), .call 302 [(.t 15), (.t 16)], none, []⟩,
    ⟨(some 18), .un .not (.t 17), none, []⟩])
  (.cond (.t 18)
  (.region false [19, 20, 21, 22] [19, 20, 21, 22] [⟨(some 19), .move (.t 5), none, []⟩,
    ⟨(some 20), .move (.t 7), none, []⟩,
    ⟨(some 21), .bslice [(.int .i64 0)] 1 [(0, (.t 20))], none, []⟩,
    ⟨(some 22), .append 1 (.t 19) (.t 21), none, []⟩,
    ⟨(some 5), .assign (.t 22), none, []⟩])
  .skip))))
  (.region false [23] [23] [⟨(some 23), .bin .add (.t 11) (.c false [(.int .i64 1)]), none, []⟩,
    ⟨(some 11), .move (.t 23), none, []⟩])))))))
  (.seq (.region false [24] [24] [⟨(some 24), .move (.t 5), none, []⟩,
    ⟨(some 4), .assign (.t 24), none, []⟩])
  .ret))))⟩
/- impl.Ext] -/
def ir288 : FnIr := ⟨0, 2, 9, [(4, none)], [],
  (.seq (.region false [] [] [⟨(some 4), .assign (.c false [(.bool false)]), none, []⟩])
  (.seq (.region false [5, 6, 7, 8, 16] [5, 6, 7, 8] [⟨(some 5), .move (.t 0), none, []⟩,
    ⟨(some 6), .move (.t 1), none, []⟩,
    ⟨(some 7), .call 351 [(.t 5), (.t 6)], none, []⟩,
    ⟨(some 8), .bin .geq (.t 7) (.c false [(.int .i64 0)]), none, []⟩,
    ⟨(some 4), .assign (.t 8), none, []⟩])
  .ret))⟩
/- slices.Equal[[]int,int] -/
def ir229 : FnIr := ⟨0, 2, 26, [(4, none)], [],
  (.seq (.region false [] [] [⟨(some 4), .assign (.c false [(.bool false)]), none, []⟩])
  (.seq (.seq (.region false [6, 7, 8, 9, 10] [6, 7, 8, 9] [⟨(some 6), .move (.t 0), none, []⟩,
    ⟨(some 7), .len false (.t 6), none, []⟩,
    ⟨(some 8), .move (.t 1), none, []⟩,
    ⟨(some 9), .len false (.t 8), none, []⟩,
    ⟨(some 10), .bin .neq (.t 7) (.t 9), none, []⟩])
  (.cond (.t 10)
  (.seq (.region false [] [] [⟨(some 4), .assign (.c false [(.bool false)]), none, []⟩])
  .ret)
  .skip))
  (.seq (.seq (.region false [11, 12, 13] [11] [⟨(some 11), .move (.t 0), none, []⟩,
    ⟨(some 12), .len false (.t 11), none, []⟩,
    ⟨(some 13), .move (.c false [(.int .i64 0)]), none, []⟩])
  (.block 0 (.loop (.seq (.region false [14] [] [⟨(some 14), .bin .lss (.t 13) (.t 12), none, []⟩])
  (.seq (.cond (.t 14)
  .skip
  (.exit 0))
  (.seq (.block 1 (.seq (.region false [15] [15] [⟨(some 15), .move (.t 13), none, []⟩,
    ⟨(some 5), .assign (.t 15), none, []⟩])
  (.seq (.region true [16, 17, 18, 19, 20, 21, 22, 23, 24] [16, 17, 18, 19, 20, 21, 22, 23] [⟨(some 16), .move (.t 0), none, []⟩,
    ⟨(some 17), .move (.t 5), none, []⟩,
    ⟨(some 18), .iaddr 1 (.t 16) (.t 17), none, [0, 1]⟩,
    ⟨(some 19), .load false 1 (.t 18), none, [2, 0, 1]⟩,
    ⟨(some 20), .move (.t 1), none, []⟩,
    ⟨(some 21), .move (.t 5), none, []⟩,
    ⟨(some 22), .iaddr 1 (.t 20) (.t 21), none, [4, 5]⟩,
    ⟨(some 23), .load false 1 (.t 22), none, [6, 4, 5]⟩,
    ⟨(some 24), .bin .neq (.t 19) (.t 23), none, [3, 2, 0, 1, 7, 6, 4, 5]⟩])
  (.cond (.t 24)
  (.seq (.region false [] [] [⟨(some 4), .assign (.c false [(.bool false)]), none, []⟩])
  .ret)
  .skip))))
  (.region false [25] [25] [⟨(some 25), .bin .add (.t 13) (.c false [(.int .i64 1)]), none, []⟩,
    ⟨(some 13), .move (.t 25), none, []⟩])))))))
  (.seq (.region false [] [] [⟨(some 4), .assign (.c false [(.bool true)]), none, []⟩])
  .ret))))⟩
/- impl.equalExt -/
def ir291 : FnIr := ⟨0, 2, 17, [(4, none)], [],
  (.seq (.region false [2, 3, 19, 20] [] [⟨(some 2), .box (.t 0), none, []⟩,
    ⟨(some 3), .box (.t 1), none, []⟩,
    ⟨(some 4), .assign (.c false [(.bool false)]), none, []⟩])
  (.seq (.region false [5, 6, 7, 8, 9, 10, 11, 12, 13, 14, 15, 16, 32] [5, 6, 7, 8, 9, 10, 11, 12, 13, 14, 15, 16] [⟨(some 5), .faddr 0 (.t 2), none, []⟩,
    ⟨(some 6), .load false 1 (.t 5), none, []⟩,
    ⟨(some 7), .faddr 0 (.t 3), none, []⟩,
    ⟨(some 8), .load false 1 (.t 7), none, []⟩,
    ⟨(some 9), .bin .eql (.t 6) (.t 8), none, []⟩,
    ⟨(some 10), .move (.t 9), none, []⟩,
    ⟨(some 11), .faddr 1 (.t 2), (some (10, true)), []⟩,
    ⟨(some 12), .load false 1 (.t 11), (some (10, true)), []⟩,
    ⟨(some 13), .faddr 1 (.t 3), (some (10, true)), []⟩,
    ⟨(some 14), .load false 1 (.t 13), (some (10, true)), []⟩,
    ⟨(some 15), .call 229 [(.t 12), (.t 14)], (some (10, true)), []⟩,
    ⟨(some 16), .pick (.t 10) (.t 15) (.c false [(.bool false)]), none, []⟩,
    ⟨(some 4), .assign (.t 16), none, []⟩])
  .ret))⟩
/- impl.IsPartOf$1 -/
def ir289 : FnIr := ⟨0, 2, 22, [(3, none)], [],
  (.seq (.region false [2, 24] [] [⟨(some 2), .box (.t 0), none, []⟩,
    ⟨(some 3), .assign (.c false [(.bool false)]), none, []⟩])
  (.seq (.region false [5, 6, 7, 8, 9, 31] [5, 6, 7, 8, 9] [⟨(some 5), .faddr 1 (.t 1), none, []⟩,
    ⟨(some 6), .load false 1 (.t 5), none, []⟩,
    ⟨(some 7), .faddr 0 (.t 2), none, []⟩,
    ⟨(some 8), .load false 1 (.t 7), none, []⟩,
    ⟨(some 9), .call 290 [(.t 6), (.t 8)], none, []⟩,
    ⟨(some 4), .assign (.t 9), none, []⟩])
  (.seq (.region true [10, 11, 12, 13, 14, 15, 16, 17, 18, 19, 20, 21, 41] [10, 11, 12, 13, 14, 15, 16, 17, 18, 19, 20, 21] [⟨(some 10), .move (.t 4), none, []⟩,
    ⟨(some 11), .bin .lss (.t 10) (.c false [(.int .i64 0)]), none, [0]⟩,
    ⟨(some 12), .move (.t 11), none, [1, 0]⟩,
    ⟨(some 13), .faddr 1 (.t 1), (some (12, false)), [2, 1, 0]⟩,
    ⟨(some 14), .load false 1 (.t 13), (some (12, false)), [3, 2, 1, 0]⟩,
    ⟨(some 15), .move (.t 4), (some (12, false)), [2, 1, 0]⟩,
    ⟨(some 16), .iaddr 2 (.t 14) (.t 15), (some (12, false)), [4, 3, 2, 1, 0, 5]⟩,
    ⟨(some 17), .load true 2 (.t 16), (some (12, false)), [6, 4, 3, 2, 1, 0, 5]⟩,
    ⟨(some 18), .load true 2 (.t 2), (some (12, false)), [2, 1, 0]⟩,
    ⟨(some 19), .call 291 [(.t 17), (.t 18)], (some (12, false)), [7, 6, 4, 3, 2, 1, 0, 5, 8]⟩,
    ⟨(some 20), .un .not (.t 19), (some (12, false)), [9, 7, 6, 4, 3, 2, 1, 0, 5, 8]⟩,
    ⟨(some 21), .pick (.t 12) (.c false [(.bool true)]) (.t 20), none, [2, 1, 0, 10, 9, 7, 6, 4, 3, 5, 8]⟩,
    ⟨(some 3), .assign (.t 21), none, [11, 2, 1, 0, 10, 9, 7, 6, 4, 3, 5, 8]⟩])
  .ret)))⟩
/- impl.IsPartOf -/
def ir148 : FnIr := ⟨0, 2, 19, [(4, none)], [],
  (.seq (.region false [2, 3, 21, 22] [] [⟨(some 2), .box (.t 0), none, []⟩,
    ⟨(some 3), .box (.t 1), none, []⟩,
    ⟨(some 4), .assign (.c false [(.bool false)]), none, []⟩])
  (.seq (.region false [5, 6, 7, 8, 9, 10, 11, 12, 13, 14, 15, 16, 17, 18, 28, 35] [5, 6, 7, 8, 9, 10, 11, 12, 13, 14, 15, 16, 17, 18] [⟨(some 5), .faddr 0 (.t 2), none, []⟩,
    ⟨(some 6), .load false 1 (.t 5), none, []⟩,
    ⟨(some 7), .faddr 0 (.t 3), none, []⟩,
    ⟨(some 8), .load false 1 (.t 7), none, []⟩,
    ⟨(some 9), .call 287 [(.t 6), (.t 8)], none, []⟩,
    ⟨(some 10), .len false (.t 9), none, []⟩,
    ⟨(some 11), .bin .eql (.t 10) (.c false [(.int .i64 0)]), none, []⟩,
    ⟨(some 12), .move (.t 11), none, []⟩,
    ⟨(some 13), .faddr 1 (.t 2), (some (12, true)), []⟩,
    ⟨(some 14), .load false 1 (.t 13), (some (12, true)), []⟩,
    ⟨(some 15), .mkfn 289 [3], (some (12, true)), []⟩,
    ⟨(some 16), .call 288 [(.t 14), (.t 15)], (some (12, true)), []⟩,
    ⟨(some 17), .un .not (.t 16), (some (12, true)), []⟩,
    ⟨(some 18), .pick (.t 12) (.t 17) (.c false [(.bool false)]), none, []⟩,
    ⟨(some 4), .assign (.t 18), none, []⟩])
  .ret))⟩
/- spec.GivenUp -/
def ir149 : FnIr := ⟨0, 2, 49, [(4, none)], [],
  (.seq (.region false [2, 3, 51, 52] [] [⟨(some 2), .box (.t 0), none, []⟩,
    ⟨(some 3), .box (.t 1), none, []⟩,
    ⟨(some 4), .assign (.c false [(.row () [])]), none, []⟩])
  (.seq (.region false [7, 8, 9, 10, 11, 60] [7, 8, 9, 10, 11] [⟨(some 7), .faddr 0 (.t 2), none, []⟩,
    ⟨(some 8), .load false 1 (.t 7), none, []⟩,
    ⟨(some 9), .faddr 0 (.t 3), none, []⟩,
    ⟨(some 10), .load false 1 (.t 9), none, []⟩,
    ⟨(some 11), .call 292 [(.t 8), (.t 10)], none, []⟩,
    ⟨(some 5), .assign (.t 11), none, []⟩])
  (.seq (.seq (.region false [] [] [⟨(some 6), .assign (.c false [(.int .i64 0)]), none, []⟩])
  (.block 0 (.loop (.seq (.seq (.region false [12, 13, 14, 15, 16] [12, 13, 14, 15] [⟨(some 12), .move (.t 6), none, []⟩,
    ⟨(some 13), .faddr 1 (.t 2), none, []⟩,
    ⟨(some 14), .load false 1 (.t 13), none, []⟩,
    ⟨(some 15), .len false (.t 14), none, []⟩,
    ⟨(some 16), .bin .lss (.t 12) (.t 15), none, []⟩])
  (.cond (.t 16)
  .skip
  (.exit 0)))
  (.seq (.block 1 (.seq (.region true [19, 20, 21, 22, 23, 24, 25, 26, 27, 28, 29, 30, 31, 32, 33, 34, 35, 36, 37, 76, 85] [19, 20, 21, 22, 23, 24, 25, 26, 27, 28, 29, 30, 31, 32, 33, 34, 35, 36] [⟨(some 19), .faddr 1 (.t 3), none, []⟩,
    ⟨(some 20), .load false 1 (.t 19), none, [0]⟩,
    ⟨(some 21), .faddr 1 (.t 2), none, []⟩,
    ⟨(some 22), .load false 1 (.t 21), none, [2]⟩,
    ⟨(some 23), .move (.t 6), none, []⟩,
    ⟨(some 24), .iaddr 2 (.t 22) (.t 23), none, [3, 2, 4]⟩,
    ⟨(some 25), .faddr 0 (.t 24), none, [5, 3, 2, 4]⟩,
    ⟨(some 26), .load false 1 (.t 25), none, [6, 5, 3, 2, 4]⟩,
    ⟨(some 27), .call 286 [(.t 20), (.t 26)], none, [1, 0, 7, 6, 5, 3, 2, 4]⟩,
    ⟨(some 28), .bin .lss (.t 27) (.c false [(.int .i64 0)]), none, [8, 1, 0, 7, 6, 5, 3, 2, 4]⟩,
    ⟨(some 29), .move (.t 28), none, [9, 8, 1, 0, 7, 6, 5, 3, 2, 4]⟩,
    ⟨(some 30), .faddr 1 (.t 2), (some (29, true)), [10, 9, 8, 1, 0, 7, 6, 5, 3, 2, 4]⟩,
    ⟨(some 31), .load false 1 (.t 30), (some (29, true)), [11, 10, 9, 8, 1, 0, 7, 6, 5, 3, 2, 4]⟩,
    ⟨(some 32), .move (.t 6), (some (29, true)), [10, 9, 8, 1, 0, 7, 6, 5, 3, 2, 4]⟩,
    ⟨(some 33), .iaddr 2 (.t 31) (.t 32), (some (29, true)), [12, 11, 10, 9, 8, 1, 0, 7, 6, 5, 3, 2, 4, 13]⟩,
    ⟨(some 34), .faddr 0 (.t 33), (some (29, true)), [14, 12, 11, 10, 9, 8, 1, 0, 7, 6, 5, 3, 2, 4, 13]⟩,
    ⟨(some 35), .load false 1 (.t 34), (some (29, true)), [15, 14, 12, 11, 10, 9, 8, 1, 0, 7, 6, 5, 3, 2, 4, 13]⟩,
    ⟨(some 36), .call 230 [(.t 35), (.c false [(.int .i64 0)]), (.c false [(.int .i64 255)])], (some (29, true)), [16, 15, 14, 12, 11, 10, 9, 8, 1, 0, 7, 6, 5, 3, 2, 4, 13]⟩,
    ⟨(some 37), .pick (.t 29) (.t 36) (.c false [(.bool false)]), none, [10, 9, 8, 1, 0, 7, 6, 5, 3, 2, 4, 17, 16, 15, 14, 12, 11, 13]⟩])
  (.cond (.t 37)
  (.region false [38, 39, 40, 41, 42, 43, 44, 45, 46, 47] [38, 39, 40, 41, 42, 43, 44, 45, 46, 47] [⟨(some 38), .move (.t 5), none, []⟩,
    ⟨(some 39), .faddr 1 (.t 2), none, []⟩,
    ⟨(some 40), .load false 1 (.t 39), none, []⟩,
    ⟨(some 41), .move (.t 6), none, []⟩,
    ⟨(some 42), .iaddr 2 (.t 40) (.t 41), none, []⟩,
    ⟨(some 43), .faddr 0 (.t 42), none, []⟩,
    ⟨(some 44), .load false 1 (.t 43), none, []⟩,
    ⟨(some 45), .bin .add (.c false [(.int .i64 1000)]) (.t 44), none, []⟩,
    ⟨(some 46), .bslice [(.int .i64 0)] 1 [(0, (.t 45))], none, []⟩,
    ⟨(some 47), .append 1 (.t 38) (.t 46), none, []⟩,
    ⟨(some 5), .assign (.t 47), none, []⟩])
  .skip)))
  (.region false [17, 18] [17, 18] [⟨(some 17), .move (.t 6), none, []⟩,
    ⟨(some 18), .bin .add (.t 17) (.c false [(.int .i64 1)]), none, []⟩,
    ⟨(some 6), .assign (.t 18), none, []⟩]))))))
  (.seq (.region false [48] [48] [⟨(some 48), .move (.t 5), none, []⟩,
    ⟨(some 4), .assign (.t 48), none, []⟩])
  .ret))))⟩
/- spec.TagsOf -/
def ir280 : FnIr := ⟨0, 1, 21, [(2, none)], [],
  (.seq (.region false [] [] [⟨(some 2), .assign (.c false [(.row () [])]), none, []⟩])
  (.seq (.region false [5] [5] [⟨(some 5), .bslice [(.int .i64 0)] 0 [], none, []⟩,
    ⟨(some 3), .assign (.t 5), none, []⟩])
  (.seq (.seq (.region false [] [] [⟨(some 4), .assign (.c false [(.int .i64 0)]), none, []⟩])
  (.block 0 (.loop (.seq (.seq (.region false [6, 7, 8, 9] [6, 7, 8] [⟨(some 6), .move (.t 4), none, []⟩,
    ⟨(some 7), .move (.t 0), none, []⟩,
    ⟨(some 8), .len false (.t 7), none, []⟩,
    ⟨(some 9), .bin .lss (.t 6) (.t 8), none, []⟩])
  (.cond (.t 9)
  .skip
  (.exit 0)))
  (.seq (.block 1 (.region false [12, 13, 14, 15, 16, 17, 18, 19] [12, 13, 14, 15, 16, 17, 18, 19] [⟨(some 12), .move (.t 3), none, []⟩,
    ⟨(some 13), .move (.t 0), none, []⟩,
    ⟨(some 14), .move (.t 4), none, []⟩,
    ⟨(some 15), .iaddr 2 (.t 13) (.t 14), none, []⟩,
    ⟨(some 16), .faddr 0 (.t 15), none, []⟩,
    ⟨(some 17), .load false 1 (.t 16), none, []⟩,
    ⟨(some 18), .bslice [(.int .i64 0)] 1 [(0, (.t 17))], none, []⟩,
    ⟨(some 19), .append 1 (.t 12) (.t 18), none, []⟩,
    ⟨(some 3), .assign (.t 19), none, []⟩]))
  (.region false [10, 11] [10, 11] [⟨(some 10), .move (.t 4), none, []⟩,
    ⟨(some 11), .bin .add (.t 10) (.c false [(.int .i64 1)]), none, []⟩,
    ⟨(some 4), .assign (.t 11), none, []⟩]))))))
  (.seq (.region false [20] [20] [⟨(some 20), .move (.t 3), none, []⟩,
    ⟨(some 2), .assign (.t 20), none, []⟩])
  .ret))))⟩
/- impl.TagsOf -/
def ir179 : FnIr := ⟨0, 1, 20, [(2, none)], [],
  (.seq (.region false [] [] [⟨(some 2), .assign (.c false [(.row () [])]), none, []⟩])
  (.seq (.region false [6] [6] [⟨(some 6), .bslice [(.int .i64 0)] 0 [], none, []⟩,
    ⟨(some 3), .assign (.t 6), none, []⟩])
  (.seq (.seq (.region false [7, 8, 9] [] [⟨(some 7), .move (.t 0), none, []⟩,
    ⟨(some 8), .len false (.t 7), none, []⟩,
    ⟨(some 9), .move (.c false [(.int .i64 0)]), none, []⟩])
  (.block 0 (.loop (.seq (.region false [10] [] [⟨(some 10), .bin .lss (.t 9) (.t 8), none, []⟩])
  (.seq (.cond (.t 10)
  .skip
  (.exit 0))
  (.seq (.block 1 (.seq (.region false [11, 12, 5, 25] [11, 12] [⟨(some 11), .iaddr 2 (.t 7) (.t 9), none, []⟩,
    ⟨(some 12), .load true 2 (.t 11), none, []⟩,
    ⟨(some 5), .alloc [(.int .i64 0), (.row () [])], none, []⟩,
    ⟨none, .store 2 (.t 5) (.t 12), none, []⟩])
  (.region false [13, 14, 15, 16, 17] [13, 14, 15, 16, 17] [⟨(some 13), .move (.t 3), none, []⟩,
    ⟨(some 14), .faddr 0 (.t 5), none, []⟩,
    ⟨(some 15), .load false 1 (.t 14), none, []⟩,
    ⟨(some 16), .bslice [(.int .i64 0)] 1 [(0, (.t 15))], none, []⟩,
    ⟨(some 17), .append 1 (.t 13) (.t 16), none, []⟩,
    ⟨(some 3), .assign (.t 17), none, []⟩])))
  (.region false [18] [18] [⟨(some 18), .bin .add (.t 9) (.c false [(.int .i64 1)]), none, []⟩,
    ⟨(some 9), .move (.t 18), none, []⟩])))))))
  (.seq (.region false [19] [19] [⟨(some 19), .move (.t 3), none, []⟩,
    ⟨(some 2), .assign (.t 19), none, []⟩])
  .ret))))⟩
/- impl.GivenUp -/
def ir150 : FnIr := ⟨0, 2, 34, [(4, none)], [],
  (.seq (.region false [2, 3, 36, 37] [] [⟨(some 2), .box (.t 0), none, []⟩,
    ⟨(some 3), .box (.t 1), none, []⟩,
    ⟨(some 4), .assign (.c false [(.row () [])]), none, []⟩])
  (.seq (.region false [8, 9, 10, 11, 12, 46] [8, 9, 10, 11, 12] [⟨(some 8), .faddr 0 (.t 2), none, []⟩,
    ⟨(some 9), .load false 1 (.t 8), none, []⟩,
    ⟨(some 10), .faddr 0 (.t 3), none, []⟩,
    ⟨(some 11), .load false 1 (.t 10), none, []⟩,
    ⟨(some 12), .call 287 [(.t 9), (.t 11)], none, []⟩,
    ⟨(some 5), .assign (.t 12), none, []⟩])
  (.seq (.seq (.region true [13, 14, 15, 16, 17, 18, 19, 20, 21, 49, 52, 53] [13, 14, 15, 16, 17, 18] [⟨(some 13), .faddr 1 (.t 2), none, []⟩,
    ⟨(some 14), .load false 1 (.t 13), none, [0]⟩,
    ⟨(some 15), .call 179 [(.t 14)], none, [1, 0]⟩,
    ⟨(some 16), .faddr 1 (.t 3), none, []⟩,
    ⟨(some 17), .load false 1 (.t 16), none, [3]⟩,
    ⟨(some 18), .call 179 [(.t 17)], none, [4, 3, 2, 1, 0]⟩,
    ⟨(some 19), .call 287 [(.t 15), (.t 18)], none, [2, 1, 0, 5, 4, 3]⟩,
    ⟨(some 20), .len false (.t 19), none, [6, 2, 1, 0, 5, 4, 3]⟩,
    ⟨(some 21), .move (.c false [(.int .i64 0)]), none, []⟩])
  (.block 0 (.loop (.seq (.region false [22] [] [⟨(some 22), .bin .lss (.t 21) (.t 20), none, []⟩])
  (.seq (.cond (.t 22)
  .skip
  (.exit 0))
  (.seq (.block 1 (.seq (.region false [23, 24] [23, 24] [⟨(some 23), .iaddr 1 (.t 19) (.t 21), none, []⟩,
    ⟨(some 24), .load false 1 (.t 23), none, []⟩,
    ⟨(some 7), .assign (.t 24), none, []⟩])
  (.seq (.region false [25, 26, 60] [25] [⟨(some 25), .move (.t 7), none, []⟩,
    ⟨(some 26), .call 232 [(.t 25), (.c false [(.int .i64 0)]), (.c false [(.int .i64 255)])], none, []⟩])
  (.cond (.t 26)
  (.region false [27, 28, 29, 30, 31] [27, 28, 29, 30, 31] [⟨(some 27), .move (.t 5), none, []⟩,
    ⟨(some 28), .move (.t 7), none, []⟩,
    ⟨(some 29), .bin .add (.c false [(.int .i64 1000)]) (.t 28), none, []⟩,
    ⟨(some 30), .bslice [(.int .i64 0)] 1 [(0, (.t 29))], none, []⟩,
    ⟨(some 31), .append 1 (.t 27) (.t 30), none, []⟩,
    ⟨(some 5), .assign (.t 31), none, []⟩])
  .skip))))
  (.region false [32] [32] [⟨(some 32), .bin .add (.t 21) (.c false [(.int .i64 1)]), none, []⟩,
    ⟨(some 21), .move (.t 32), none, []⟩])))))))
  (.seq (.region false [33] [33] [⟨(some 33), .move (.t 5), none, []⟩,
    ⟨(some 4), .assign (.t 33), none, []⟩])
  .ret))))⟩
/- impl.IsReserved -/
def ir337 : FnIr := ⟨0, 1, 10, [(2, none)], [],
  (.seq (.region false [] [] [⟨(some 2), .assign (.c false [(.bool false)]), none, []⟩])
  (.seq (.region false [3, 4, 5, 6, 7, 8, 9, 14] [3, 4, 5, 6, 7, 8, 9] [⟨(some 3), .move (.t 0), none, []⟩,
    ⟨(some 4), .call 232 [(.t 3), (.c false [(.int .i64 0)]), (.c false [(.int .i64 255)])], none, []⟩,
    ⟨(some 5), .move (.t 4), none, []⟩,
    ⟨(some 6), .move (.t 0), (some (5, true)), []⟩,
    ⟨(some 7), .bin .rem (.t 6) (.c false [(.int .i64 16)]), (some (5, true)), []⟩,
    ⟨(some 8), .bin .eql (.t 7) (.c false [(.int .i64 10)]), (some (5, true)), []⟩,
    ⟨(some 9), .pick (.t 5) (.t 8) (.c false [(.bool false)]), none, []⟩,
    ⟨(some 2), .assign (.t 9), none, []⟩])
  .ret))⟩
/- impl.IsHardened -/
def ir223 : FnIr := ⟨0, 1, 5, [(2, none)], [],
  (.seq (.region false [] [] [⟨(some 2), .assign (.c false [(.bool false)]), none, []⟩])
  (.seq (.region false [3, 4, 9] [3, 4] [⟨(some 3), .move (.t 0), none, []⟩,
    ⟨(some 4), .call 336 [(.t 3), (.f 337)], none, []⟩,
    ⟨(some 2), .assign (.t 4), none, []⟩])
  .ret))⟩
/- impl.HasGrease -/
def ir303 : FnIr := ⟨0, 1, 6, [(2, none)], [],
  (.seq (.region false [] [] [⟨(some 2), .assign (.c false [(.bool false)]), none, []⟩])
  (.seq (.region false [3, 4, 5, 10, 11] [3, 4, 5] [⟨(some 3), .move (.t 0), none, []⟩,
    ⟨(some 4), .call 179 [(.t 3)], none, []⟩,
    ⟨(some 5), .call 223 [(.t 4)], none, []⟩,
    ⟨(some 2), .assign (.t 5), none, []⟩])
  .ret))⟩
/- impl.FitsHello -/
def ir161 : FnIr := ⟨0, 2, 35, [(4, none)], [],
  (.seq (.region false [2, 3, 37, 38] [] [⟨(some 2), .box (.t 0), none, []⟩,
    ⟨(some 3), .box (.t 1), none, []⟩,
    ⟨(some 4), .assign (.c false [(.bool false)]), none, []⟩])
  (.seq (.region true [5, 6, 7, 8, 9, 10, 11, 12, 13, 14, 15, 16, 17, 18, 19, 20, 21, 22, 23, 24, 25, 26, 27, 28, 29, 30, 31, 32, 33, 34, 41, 44, 51, 56, 59, 60, 67] [5, 6, 7, 8, 9, 10, 11, 12, 13, 14, 15, 16, 17, 18, 19, 20, 21, 22, 23, 24, 25, 26, 27, 28, 29, 30, 31, 32, 33, 34] [⟨(some 5), .load true 2 (.t 2), none, []⟩,
    ⟨(some 6), .call 113 [(.t 5)], none, [0]⟩,
    ⟨(some 7), .move (.t 6), none, [1, 0]⟩,
    ⟨(some 8), .load true 2 (.t 3), (some (7, true)), [2, 1, 0]⟩,
    ⟨(some 9), .call 118 [(.t 8)], (some (7, true)), [3, 2, 1, 0]⟩,
    ⟨(some 10), .pick (.t 7) (.t 9) (.c false [(.bool false)]), none, [2, 1, 0, 4, 3]⟩,
    ⟨(some 11), .move (.t 10), none, [5, 2, 1, 0, 4, 3]⟩,
    ⟨(some 12), .faddr 0 (.t 2), (some (11, true)), [6, 5, 2, 1, 0, 4, 3]⟩,
    ⟨(some 13), .load false 1 (.t 12), (some (11, true)), [7, 6, 5, 2, 1, 0, 4, 3]⟩,
    ⟨(some 14), .faddr 0 (.t 3), (some (11, true)), [6, 5, 2, 1, 0, 4, 3]⟩,
    ⟨(some 15), .load false 1 (.t 14), (some (11, true)), [9, 6, 5, 2, 1, 0, 4, 3]⟩,
    ⟨(some 16), .call 302 [(.t 13), (.t 15)], (some (11, true)), [8, 7, 6, 5, 2, 1, 0, 4, 3, 10, 9]⟩,
    ⟨(some 17), .pick (.t 11) (.t 16) (.c false [(.bool false)]), none, [6, 5, 2, 1, 0, 4, 3, 11, 8, 7, 10, 9]⟩,
    ⟨(some 18), .move (.t 17), none, [12, 6, 5, 2, 1, 0, 4, 3, 11, 8, 7, 10, 9]⟩,
    ⟨(some 19), .faddr 1 (.t 3), (some (18, true)), [13, 12, 6, 5, 2, 1, 0, 4, 3, 11, 8, 7, 10, 9]⟩,
    ⟨(some 20), .load false 1 (.t 19), (some (18, true)), [14, 13, 12, 6, 5, 2, 1, 0, 4, 3, 11, 8, 7, 10, 9]⟩,
    ⟨(some 21), .call 179 [(.t 20)], (some (18, true)), [15, 14, 13, 12, 6, 5, 2, 1, 0, 4, 3, 11, 8, 7, 10, 9]⟩,
    ⟨(some 22), .faddr 1 (.t 2), (some (18, true)), [13, 12, 6, 5, 2, 1, 0, 4, 3, 11, 8, 7, 10, 9]⟩,
    ⟨(some 23), .load false 1 (.t 22), (some (18, true)), [17, 13, 12, 6, 5, 2, 1, 0, 4, 3, 11, 8, 7, 10, 9]⟩,
    ⟨(some 24), .call 179 [(.t 23)], (some (18, true)), [18, 17, 13, 12, 6, 5, 2, 1, 0, 4, 3, 11, 8, 7, 10, 9, 16, 15, 14]⟩,
    ⟨(some 25), .call 287 [(.t 21), (.t 24)], (some (18, true)), [16, 15, 14, 13, 12, 6, 5, 2, 1, 0, 4, 3, 11, 8, 7, 10, 9, 19, 18, 17]⟩,
    ⟨(some 26), .len false (.t 25), (some (18, true)), [20, 16, 15, 14, 13, 12, 6, 5, 2, 1, 0, 4, 3, 11, 8, 7, 10, 9, 19, 18, 17]⟩,
    ⟨(some 27), .bin .eql (.t 26) (.c false [(.int .i64 0)]), (some (18, true)), [21, 20, 16, 15, 14, 13, 12, 6, 5, 2, 1, 0, 4, 3, 11, 8, 7, 10, 9, 19, 18, 17]⟩,
    ⟨(some 28), .pick (.t 18) (.t 27) (.c false [(.bool false)]), none, [13, 12, 6, 5, 2, 1, 0, 4, 3, 11, 8, 7, 10, 9, 22, 21, 20, 16, 15, 14, 19, 18, 17]⟩,
    ⟨(some 29), .move (.t 28), none, [23, 13, 12, 6, 5, 2, 1, 0, 4, 3, 11, 8, 7, 10, 9, 22, 21, 20, 16, 15, 14, 19, 18, 17]⟩,
    ⟨(some 30), .faddr 1 (.t 3), (some (29, true)), [24, 23, 13, 12, 6, 5, 2, 1, 0, 4, 3, 11, 8, 7, 10, 9, 22, 21, 20, 16, 15, 14, 19, 18, 17]⟩,
    ⟨(some 31), .load false 1 (.t 30), (some (29, true)), [25, 24, 23, 13, 12, 6, 5, 2, 1, 0, 4, 3, 11, 8, 7, 10, 9, 22, 21, 20, 16, 15, 14, 19, 18, 17]⟩,
    ⟨(some 32), .call 303 [(.t 31)], (some (29, true)), [26, 25, 24, 23, 13, 12, 6, 5, 2, 1, 0, 4, 3, 11, 8, 7, 10, 9, 22, 21, 20, 16, 15, 14, 19, 18, 17]⟩,
    ⟨(some 33), .un .not (.t 32), (some (29, true)), [27, 26, 25, 24, 23, 13, 12, 6, 5, 2, 1, 0, 4, 3, 11, 8, 7, 10, 9, 22, 21, 20, 16, 15, 14, 19, 18, 17]⟩,
    ⟨(some 34), .pick (.t 29) (.t 33) (.c false [(.bool false)]), none, [24, 23, 13, 12, 6, 5, 2, 1, 0, 4, 3, 11, 8, 7, 10, 9, 22, 21, 20, 16, 15, 14, 19, 18, 17, 28, 27, 26, 25]⟩,
    ⟨(some 4), .assign (.t 34), none, [29, 24, 23, 13, 12, 6, 5, 2, 1, 0, 4, 3, 11, 8, 7, 10, 9, 22, 21, 20, 16, 15, 14, 19, 18, 17, 28, 27, 26, 25]⟩])
  .ret))⟩
/- laws.eqHello -/
def ir78 : FnIr := ⟨0, 2, 17, [(4, none)], [],
  (.seq (.region false [2, 3, 19, 20] [] [⟨(some 2), .box (.t 0), none, []⟩,
    ⟨(some 3), .box (.t 1), none, []⟩,
    ⟨(some 4), .assign (.c false [(.bool false)]), none, []⟩])
  (.seq (.seq (.region false [5, 6, 7, 8, 9, 10, 26] [5, 6, 7, 8, 9] [⟨(some 5), .faddr 0 (.t 2), none, []⟩,
    ⟨(some 6), .load false 1 (.t 5), none, []⟩,
    ⟨(some 7), .faddr 0 (.t 3), none, []⟩,
    ⟨(some 8), .load false 1 (.t 7), none, []⟩,
    ⟨(some 9), .call 79 [(.t 6), (.t 8)], none, []⟩,
    ⟨(some 10), .un .not (.t 9), none, []⟩])
  (.cond (.t 10)
  (.seq (.region false [] [] [⟨(some 4), .assign (.c false [(.bool false)]), none, []⟩])
  .ret)
  .skip))
  (.seq (.seq (.region false [11, 12, 13, 14, 15, 16, 32] [11, 12, 13, 14, 15] [⟨(some 11), .faddr 1 (.t 2), none, []⟩,
    ⟨(some 12), .load false 1 (.t 11), none, []⟩,
    ⟨(some 13), .faddr 1 (.t 3), none, []⟩,
    ⟨(some 14), .load false 1 (.t 13), none, []⟩,
    ⟨(some 15), .call 200 [(.t 12), (.t 14)], none, []⟩,
    ⟨(some 16), .un .not (.t 15), none, []⟩])
  (.cond (.t 16)
  (.seq (.region false [] [] [⟨(some 4), .assign (.c false [(.bool false)]), none, []⟩])
  .ret)
  .skip))
  (.seq (.region false [] [] [⟨(some 4), .assign (.c false [(.bool true)]), none, []⟩])
  .ret))))⟩
/- laws.szHello -/
def ir83 : FnIr := ⟨0, 2, 18, [(4, none)], [],
  (.seq (.region false [2, 20] [] [⟨(some 2), .box (.t 0), none, []⟩,
    ⟨(some 4), .assign (.c false [(.int .i64 0)]), none, []⟩])
  (.seq (.region false [5, 6, 7, 8, 26] [5, 6, 7, 8] [⟨(some 5), .faddr 0 (.t 2), none, []⟩,
    ⟨(some 6), .load false 1 (.t 5), none, []⟩,
    ⟨(some 7), .move (.t 1), none, []⟩,
    ⟨(some 8), .call 227 [(.t 6), (.t 7)], none, []⟩,
    ⟨(some 1), .assign (.t 8), none, []⟩])
  (.seq (.seq (.region false [9, 10] [9] [⟨(some 9), .move (.t 1), none, []⟩,
    ⟨(some 10), .bin .lss (.t 9) (.c false [(.int .i64 0)]), none, []⟩])
  (.cond (.t 10)
  (.seq (.region false [] [] [⟨(some 4), .assign (.c false [(.int .i64 (-1))]), none, []⟩])
  .ret)
  .skip))
  (.seq (.region false [11, 12, 13, 14, 32] [11, 12, 13, 14] [⟨(some 11), .faddr 1 (.t 2), none, []⟩,
    ⟨(some 12), .load false 1 (.t 11), none, []⟩,
    ⟨(some 13), .move (.t 1), none, []⟩,
    ⟨(some 14), .call 197 [(.t 12), (.t 13)], none, []⟩,
    ⟨(some 1), .assign (.t 14), none, []⟩])
  (.seq (.seq (.region false [15, 16] [15] [⟨(some 15), .move (.t 1), none, []⟩,
    ⟨(some 16), .bin .lss (.t 15) (.c false [(.int .i64 0)]), none, []⟩])
  (.cond (.t 16)
  (.seq (.region false [] [] [⟨(some 4), .assign (.c false [(.int .i64 (-1))]), none, []⟩])
  .ret)
  .skip))
  (.seq (.region false [17] [17] [⟨(some 17), .move (.t 1), none, []⟩,
    ⟨(some 4), .assign (.t 17), none, []⟩])
  .ret))))))⟩
/- laws.toHello -/
def ir85 : FnIr := ⟨0, 1, 13, [(2, (some (true, 2)))], [],
  (.seq (.region false [1, 2, 14, 15] [] [⟨(some 1), .box (.t 0), none, []⟩,
    ⟨(some 2), .alloc [(.row () []), (.row () [])], none, []⟩])
  (.seq (.region false [3, 16] [] [⟨(some 3), .alloc [(.row () []), (.row () [])], none, []⟩])
  (.seq (.region false [4, 5, 6, 7, 19] [4, 5, 6, 7] [⟨(some 4), .faddr 0 (.t 1), none, []⟩,
    ⟨(some 5), .load false 1 (.t 4), none, []⟩,
    ⟨(some 6), .call 76 [(.t 5)], none, []⟩,
    ⟨(some 7), .faddr 0 (.t 3), none, []⟩,
    ⟨none, .store 1 (.t 7) (.t 6), none, []⟩])
  (.seq (.region false [8, 9, 10, 11, 23] [8, 9, 10, 11] [⟨(some 8), .faddr 1 (.t 1), none, []⟩,
    ⟨(some 9), .load false 1 (.t 8), none, []⟩,
    ⟨(some 10), .call 199 [(.t 9)], none, []⟩,
    ⟨(some 11), .faddr 1 (.t 3), none, []⟩,
    ⟨none, .store 1 (.t 11) (.t 10), none, []⟩])
  (.seq (.region false [12] [12] [⟨(some 12), .load true 2 (.t 3), none, []⟩,
    ⟨none, .store 2 (.t 2) (.t 12), none, []⟩])
  .ret)))))⟩
/- laws.FnExactFitsHello -/
def ir32 : FnIr := ⟨0, 2, 45, [(4, none)], [],
  (.seq (.region false [2, 3, 47, 48] [] [⟨(some 2), .box (.t 0), none, []⟩,
    ⟨(some 3), .box (.t 1), none, []⟩,
    ⟨(some 4), .assign (.c false [(.bool false)]), none, []⟩])
  (.seq (.region false [] [] [⟨(some 5), .assign (.c false [(.int .i64 1048576)]), none, []⟩])
  (.seq (.region false [10, 11, 12, 57] [10, 11, 12] [⟨(some 10), .load true 2 (.t 2), none, []⟩,
    ⟨(some 11), .move (.t 5), none, []⟩,
    ⟨(some 12), .call 83 [(.t 10), (.t 11)], none, []⟩,
    ⟨(some 5), .assign (.t 12), none, []⟩])
  (.seq (.seq (.region false [13, 14] [13] [⟨(some 13), .move (.t 5), none, []⟩,
    ⟨(some 14), .bin .lss (.t 13) (.c false [(.int .i64 0)]), none, []⟩])
  (.cond (.t 14)
  (.seq (.region false [] [] [⟨(some 4), .assign (.c false [(.bool true)]), none, []⟩])
  .ret)
  .skip))
  (.seq (.region false [15, 16, 17, 62] [15, 16, 17] [⟨(some 15), .load true 2 (.t 3), none, []⟩,
    ⟨(some 16), .move (.t 5), none, []⟩,
    ⟨(some 17), .call 126 [(.t 15), (.t 16)], none, []⟩,
    ⟨(some 5), .assign (.t 17), none, []⟩])
  (.seq (.seq (.region false [18, 19] [18] [⟨(some 18), .move (.t 5), none, []⟩,
    ⟨(some 19), .bin .lss (.t 18) (.c false [(.int .i64 0)]), none, []⟩])
  (.cond (.t 19)
  (.seq (.region false [] [] [⟨(some 4), .assign (.c false [(.bool true)]), none, []⟩])
  .ret)
  .skip))
  (.seq (.region true [20, 21, 22, 23, 24, 66, 68, 69] [20, 21, 22, 23, 24] [⟨(some 20), .load true 2 (.t 2), none, []⟩,
    ⟨(some 21), .call 85 [(.t 20)], none, [0]⟩,
    ⟨(some 22), .load true 2 (.t 3), none, []⟩,
    ⟨(some 23), .call 128 [(.t 22)], none, [2, 1, 0]⟩,
    ⟨(some 24), .call 160 [(.t 21), (.t 23)], none, [1, 0, 3, 2]⟩,
    ⟨(some 6), .assign (.t 24), none, [4, 1, 0, 3, 2]⟩])
  (.seq (.region false [25, 26, 7, 71, 52] [25, 26] [⟨(some 25), .load true 2 (.t 2), none, []⟩,
    ⟨(some 26), .call 85 [(.t 25)], none, []⟩,
    ⟨(some 7), .alloc [(.row () []), (.row () [])], none, []⟩,
    ⟨none, .store 2 (.t 7) (.t 26), none, []⟩])
  (.seq (.region false [27, 28, 8, 73, 53] [27, 28] [⟨(some 27), .load true 2 (.t 3), none, []⟩,
    ⟨(some 28), .call 128 [(.t 27)], none, []⟩,
    ⟨(some 8), .alloc [(.int .i64 0), (.row () [])], none, []⟩,
    ⟨none, .store 2 (.t 8) (.t 28), none, []⟩])
  (.seq (.region false [29, 30, 31, 76] [29, 30, 31] [⟨(some 29), .load true 2 (.t 7), none, []⟩,
    ⟨(some 30), .load true 2 (.t 8), none, []⟩,
    ⟨(some 31), .call 161 [(.t 29), (.t 30)], none, []⟩,
    ⟨(some 9), .assign (.t 31), none, []⟩])
  (.seq (.seq (.region false [32, 33, 34] [32, 33] [⟨(some 32), .move (.t 9), none, []⟩,
    ⟨(some 33), .move (.t 6), none, []⟩,
    ⟨(some 34), .beq true (.t 32) (.t 33), none, []⟩])
  (.cond (.t 34)
  (.seq (.region false [] [] [⟨(some 4), .assign (.c false [(.bool false)]), none, []⟩])
  .ret)
  .skip))
  (.seq (.seq (.region true [35, 36, 37, 38, 39, 82, 83] [35, 36, 37, 38] [⟨(some 35), .load true 2 (.t 7), none, []⟩,
    ⟨(some 36), .load true 2 (.t 2), none, []⟩,
    ⟨(some 37), .call 85 [(.t 36)], none, [1]⟩,
    ⟨(some 38), .call 78 [(.t 35), (.t 37)], none, [0, 2, 1]⟩,
    ⟨(some 39), .un .not (.t 38), none, [3, 0, 2, 1]⟩])
  (.cond (.t 39)
  (.seq (.region false [] [] [⟨(some 4), .assign (.c false [(.bool false)]), none, []⟩])
  .ret)
  .skip))
  (.seq (.seq (.region true [40, 41, 42, 43, 44, 87, 88] [40, 41, 42, 43] [⟨(some 40), .load true 2 (.t 8), none, []⟩,
    ⟨(some 41), .load true 2 (.t 3), none, []⟩,
    ⟨(some 42), .call 128 [(.t 41)], none, [1]⟩,
    ⟨(some 43), .call 129 [(.t 40), (.t 42)], none, [0, 2, 1]⟩,
    ⟨(some 44), .un .not (.t 43), none, [3, 0, 2, 1]⟩])
  (.cond (.t 44)
  (.seq (.region false [] [] [⟨(some 4), .assign (.c false [(.bool false)]), none, []⟩])
  .ret)
  .skip))
  (.seq (.region false [] [] [⟨(some 4), .assign (.c false [(.bool true)]), none, []⟩])
  .ret))))))))))))))⟩
def tbl : List (Nat × FnIr) := [(227, ir227), (319, ir319), (197, ir197), (126, ir126), (76, ir76), (320, ir320), (199, ir199), (128, ir128), (79, ir79), (321, ir321), (200, ir200), (129, ir129), (230, ir230), (231, ir231), (286, ir286), (271, ir271), (127, ir127), (257, ir257), (142, ir142), (285, ir285), (301, ir301), (160, ir160), (232, ir232), (255, ir255), (377, ir377), (336, ir336), (340, ir340), (233, ir233), (351, ir351), (352, ir352), (290, ir290), (258, ir258), (113, ir113), (118, ir118), (228, ir228), (147, ir147), (292, ir292), (354, ir354), (302, ir302), (287, ir287), (288, ir288), (229, ir229), (291, ir291), (289, ir289), (148, ir148), (149, ir149), (280, ir280), (179, ir179), (150, ir150), (337, ir337), (223, ir223), (303, ir303), (161, ir161), (78, ir78), (83, ir83), (85, ir85), (32, ir32)]
def Tb (g : Nat) : Option FnIr := tbl.lookup g
theorem tb_227 : Tb 227 = some ir227 := rfl
theorem tb_319 : Tb 319 = some ir319 := rfl
theorem tb_197 : Tb 197 = some ir197 := rfl
theorem tb_126 : Tb 126 = some ir126 := rfl
theorem tb_76 : Tb 76 = some ir76 := rfl
theorem tb_320 : Tb 320 = some ir320 := rfl
theorem tb_199 : Tb 199 = some ir199 := rfl
theorem tb_128 : Tb 128 = some ir128 := rfl
theorem tb_79 : Tb 79 = some ir79 := rfl
theorem tb_321 : Tb 321 = some ir321 := rfl
theorem tb_200 : Tb 200 = some ir200 := rfl
theorem tb_129 : Tb 129 = some ir129 := rfl
theorem tb_230 : Tb 230 = some ir230 := rfl
theorem tb_231 : Tb 231 = some ir231 := rfl
theorem tb_286 : Tb 286 = some ir286 := rfl
theorem tb_271 : Tb 271 = some ir271 := rfl
theorem tb_127 : Tb 127 = some ir127 := rfl
theorem tb_257 : Tb 257 = some ir257 := rfl
theorem tb_142 : Tb 142 = some ir142 := rfl
theorem tb_285 : Tb 285 = some ir285 := rfl
theorem tb_301 : Tb 301 = some ir301 := rfl
theorem tb_160 : Tb 160 = some ir160 := rfl
theorem tb_232 : Tb 232 = some ir232 := rfl
theorem tb_255 : Tb 255 = some ir255 := rfl
theorem tb_377 : Tb 377 = some ir377 := rfl
theorem tb_336 : Tb 336 = some ir336 := rfl
theorem tb_340 : Tb 340 = some ir340 := rfl
theorem tb_233 : Tb 233 = some ir233 := rfl
theorem tb_351 : Tb 351 = some ir351 := rfl
theorem tb_352 : Tb 352 = some ir352 := rfl
theorem tb_290 : Tb 290 = some ir290 := rfl
theorem tb_258 : Tb 258 = some ir258 := rfl
theorem tb_113 : Tb 113 = some ir113 := rfl
theorem tb_118 : Tb 118 = some ir118 := rfl
theorem tb_228 : Tb 228 = some ir228 := rfl
theorem tb_147 : Tb 147 = some ir147 := rfl
theorem tb_292 : Tb 292 = some ir292 := rfl
theorem tb_354 : Tb 354 = some ir354 := rfl
theorem tb_302 : Tb 302 = some ir302 := rfl
theorem tb_287 : Tb 287 = some ir287 := rfl
theorem tb_288 : Tb 288 = some ir288 := rfl
theorem tb_229 : Tb 229 = some ir229 := rfl
theorem tb_291 : Tb 291 = some ir291 := rfl
theorem tb_289 : Tb 289 = some ir289 := rfl
theorem tb_148 : Tb 148 = some ir148 := rfl
theorem tb_149 : Tb 149 = some ir149 := rfl
theorem tb_280 : Tb 280 = some ir280 := rfl
theorem tb_179 : Tb 179 = some ir179 := rfl
theorem tb_150 : Tb 150 = some ir150 := rfl
theorem tb_337 : Tb 337 = some ir337 := rfl
theorem tb_223 : Tb 223 = some ir223 := rfl
theorem tb_303 : Tb 303 = some ir303 := rfl
theorem tb_161 : Tb 161 = some ir161 := rfl
theorem tb_78 : Tb 78 = some ir78 := rfl
theorem tb_83 : Tb 83 = some ir83 := rfl
theorem tb_85 : Tb 85 = some ir85 := rfl
theorem tb_32 : Tb 32 = some ir32 := rfl
end Go.Vm
