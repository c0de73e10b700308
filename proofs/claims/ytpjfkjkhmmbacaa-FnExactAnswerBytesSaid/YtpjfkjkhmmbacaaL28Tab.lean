/- The code of the functions that the law reaches, as data. -/
import Derived.Test.YtpjfkjkhmmbacaaVmF
set_option maxHeartbeats 4000000
set_option maxRecDepth 10000
set_option linter.unusedVariables false
set_option linter.unusedSimpArgs false
namespace Go.Vm
/- laws.markIntS -/
def ir1080 : FnIr := ⟨0, 2, 19, [(4, none)], [.mrow, .val],
  (.seq (.region false [] [] [⟨(some 4), .assign (.c false [(.int .i64 0)]), none, []⟩])
  (.seq (.seq (.region false [] [] [⟨(some 5), .assign (.c false [(.int .i64 0)]), none, []⟩])
  (.block 0 (.loop (.seq (.seq (.region false [6, 7, 8, 9] [6, 7, 8] [⟨(some 6), .move (.t 5), none, []⟩,
    ⟨(some 7), .move (.t 0), none, []⟩,
    ⟨(some 8), .len false (.t 7), none, []⟩,
    ⟨(some 9), .bin .lss (.t 6) (.t 8), none, []⟩])
  (.cond (.t 9)
  .skip
  (.exit 0)))
  (.seq (.block 1 (.seq (.region false [12, 13, 14, 15] [12, 13, 14, 15] [⟨(some 12), .move (.t 0), none, []⟩,
    ⟨(some 13), .move (.t 5), none, []⟩,
    ⟨(some 14), .move (.t 1), none, []⟩,
    ⟨(some 15), .iaddr 1 (.t 12) (.t 13), none, []⟩,
    ⟨none, .rstore 1 (.t 15) (.t 14), none, []⟩])
  (.region false [16, 17] [16, 17] [⟨(some 16), .move (.t 1), none, []⟩,
    ⟨(some 17), .bin .add (.t 16) (.c false [(.int .i64 1)]), none, []⟩,
    ⟨(some 1), .assign (.t 17), none, []⟩])))
  (.region false [10, 11] [10, 11] [⟨(some 10), .move (.t 5), none, []⟩,
    ⟨(some 11), .bin .add (.t 10) (.c false [(.int .i64 1)]), none, []⟩,
    ⟨(some 5), .assign (.t 11), none, []⟩]))))))
  (.seq (.region false [18] [18] [⟨(some 18), .move (.t 1), none, []⟩,
    ⟨(some 4), .assign (.t 18), none, []⟩])
  .ret)))⟩
/- laws.markExtS -/
def ir1201 : FnIr := ⟨0, 2, 27, [(4, none)], [.mrow, .val],
  (.seq (.region false [] [] [⟨(some 4), .assign (.c false [(.int .i64 0)]), none, []⟩])
  (.seq (.seq (.region false [] [] [⟨(some 5), .assign (.c false [(.int .i64 0)]), none, []⟩])
  (.block 0 (.loop (.seq (.seq (.region false [6, 7, 8, 9] [6, 7, 8] [⟨(some 6), .move (.t 5), none, []⟩,
    ⟨(some 7), .move (.t 0), none, []⟩,
    ⟨(some 8), .len false (.t 7), none, []⟩,
    ⟨(some 9), .bin .lss (.t 6) (.t 8), none, []⟩])
  (.cond (.t 9)
  .skip
  (.exit 0)))
  (.seq (.block 1 (.seq (.region false [12, 13, 14, 15, 16] [12, 13, 14, 15, 16] [⟨(some 12), .move (.t 0), none, []⟩,
    ⟨(some 13), .move (.t 5), none, []⟩,
    ⟨(some 14), .move (.t 1), none, []⟩,
    ⟨(some 15), .iaddr 2 (.t 12) (.t 13), none, []⟩,
    ⟨(some 16), .faddr 0 (.t 15), none, []⟩,
    ⟨none, .rstore 1 (.t 16) (.t 14), none, []⟩])
  (.seq (.region false [17, 18] [17, 18] [⟨(some 17), .move (.t 1), none, []⟩,
    ⟨(some 18), .bin .add (.t 17) (.c false [(.int .i64 1)]), none, []⟩,
    ⟨(some 1), .assign (.t 18), none, []⟩])
  (.region false [19, 20, 21, 22, 23, 24, 25, 52] [19, 20, 21, 22, 23, 24, 25] [⟨(some 19), .move (.t 0), none, []⟩,
    ⟨(some 20), .move (.t 5), none, []⟩,
    ⟨(some 21), .iaddr 2 (.t 19) (.t 20), none, []⟩,
    ⟨(some 22), .faddr 1 (.t 21), none, []⟩,
    ⟨(some 23), .load false 1 (.t 22), none, []⟩,
    ⟨(some 24), .move (.t 1), none, []⟩,
    ⟨(some 25), .call 1080 [(.t 23), (.t 24)], none, []⟩,
    ⟨(some 1), .assign (.t 25), none, []⟩]))))
  (.region false [10, 11] [10, 11] [⟨(some 10), .move (.t 5), none, []⟩,
    ⟨(some 11), .bin .add (.t 10) (.c false [(.int .i64 1)]), none, []⟩,
    ⟨(some 5), .assign (.t 11), none, []⟩]))))))
  (.seq (.region false [26] [26] [⟨(some 26), .move (.t 1), none, []⟩,
    ⟨(some 4), .assign (.t 26), none, []⟩])
  .ret)))⟩
/- laws.markAnswer -/
def ir1153 : FnIr := ⟨0, 2, 10, [(4, none)], [.mrow, .val],
  (.seq (.region false [2, 12] [] [⟨(some 2), .box (.t 0), none, []⟩,
    ⟨(some 4), .assign (.c false [(.int .i64 0)]), none, []⟩])
  (.seq (.region false [5, 6, 7, 8, 18] [5, 6, 7, 8] [⟨(some 5), .faddr 1 (.t 2), none, []⟩,
    ⟨(some 6), .load false 1 (.t 5), none, []⟩,
    ⟨(some 7), .move (.t 1), none, []⟩,
    ⟨(some 8), .call 1201 [(.t 6), (.t 7)], none, []⟩,
    ⟨(some 1), .assign (.t 8), none, []⟩])
  (.seq (.region false [9] [9] [⟨(some 9), .move (.t 1), none, []⟩,
    ⟨(some 4), .assign (.t 9), none, []⟩])
  .ret)))⟩
/- laws.heldIntS -/
def ir125 : FnIr := ⟨0, 2, 21, [(4, none)], [],
  (.seq (.region false [] [] [⟨(some 4), .assign (.c false [(.int .i64 0)]), none, []⟩])
  (.seq (.seq (.region false [] [] [⟨(some 5), .assign (.c false [(.int .i64 0)]), none, []⟩])
  (.block 0 (.loop (.seq (.seq (.region false [6, 7, 8, 9] [6, 7, 8] [⟨(some 6), .move (.t 5), none, []⟩,
    ⟨(some 7), .move (.t 0), none, []⟩,
    ⟨(some 8), .len false (.t 7), none, []⟩,
    ⟨(some 9), .bin .lss (.t 6) (.t 8), none, []⟩])
  (.cond (.t 9)
  .skip
  (.exit 0)))
  (.seq (.block 1 (.seq (.seq (.region false [12, 13, 14, 15, 16, 17] [12, 13, 14, 15, 16] [⟨(some 12), .move (.t 0), none, []⟩,
    ⟨(some 13), .move (.t 5), none, []⟩,
    ⟨(some 14), .iaddr 1 (.t 12) (.t 13), none, []⟩,
    ⟨(some 15), .load false 1 (.t 14), none, []⟩,
    ⟨(some 16), .move (.t 1), none, []⟩,
    ⟨(some 17), .bin .neq (.t 15) (.t 16), none, []⟩])
  (.cond (.t 17)
  (.seq (.region false [] [] [⟨(some 4), .assign (.c false [(.int .i64 (-1))]), none, []⟩])
  .ret)
  .skip))
  (.region false [18, 19] [18, 19] [⟨(some 18), .move (.t 1), none, []⟩,
    ⟨(some 19), .bin .add (.t 18) (.c false [(.int .i64 1)]), none, []⟩,
    ⟨(some 1), .assign (.t 19), none, []⟩])))
  (.region false [10, 11] [10, 11] [⟨(some 10), .move (.t 5), none, []⟩,
    ⟨(some 11), .bin .add (.t 10) (.c false [(.int .i64 1)]), none, []⟩,
    ⟨(some 5), .assign (.t 11), none, []⟩]))))))
  (.seq (.region false [20] [20] [⟨(some 20), .move (.t 1), none, []⟩,
    ⟨(some 4), .assign (.t 20), none, []⟩])
  .ret)))⟩
/- laws.szIntS -/
def ir227 : FnIr := ⟨0, 2, 12, [(4, none)], [],
  (.seq (.region false [] [] [⟨(some 4), .assign (.c false [(.int .i64 0)]), none, []⟩])
  (.seq (.region false [5, 6, 7, 8] [5, 6, 7, 8] [⟨(some 5), .move (.t 1), none, []⟩,
    ⟨(some 6), .move (.t 0), none, []⟩,
    ⟨(some 7), .len false (.t 6), none, []⟩,
    ⟨(some 8), .bin .sub (.t 5) (.t 7), none, []⟩,
    ⟨(some 1), .assign (.t 8), none, []⟩])
  (.seq (.seq (.region false [9, 10] [9] [⟨(some 9), .move (.t 1), none, []⟩,
    ⟨(some 10), .bin .lss (.t 9) (.c false [(.int .i64 0)]), none, []⟩])
  (.cond (.t 10)
  (.seq (.region false [] [] [⟨(some 4), .assign (.c false [(.int .i64 (-1))]), none, []⟩])
  .ret)
  .skip))
  (.seq (.region false [11] [11] [⟨(some 11), .move (.t 1), none, []⟩,
    ⟨(some 4), .assign (.t 11), none, []⟩])
  .ret))))⟩
/- laws.szExt -/
def ir319 : FnIr := ⟨0, 2, 12, [(4, none)], [],
  (.seq (.region false [2, 14] [] [⟨(some 2), .box (.t 0), none, []⟩,
    ⟨(some 4), .assign (.c false [(.int .i64 0)]), none, []⟩])
  (.seq (.region false [5, 6, 7, 8, 20] [5, 6, 7, 8] [⟨(some 5), .faddr 1 (.t 2), none, []⟩,
    ⟨(some 6), .load false 1 (.t 5), none, []⟩,
    ⟨(some 7), .move (.t 1), none, []⟩,
    ⟨(some 8), .call 227 [(.t 6), (.t 7)], none, []⟩,
    ⟨(some 1), .assign (.t 8), none, []⟩])
  (.seq (.seq (.region false [9, 10] [9] [⟨(some 9), .move (.t 1), none, []⟩,
    ⟨(some 10), .bin .lss (.t 9) (.c false [(.int .i64 0)]), none, []⟩])
  (.cond (.t 10)
  (.seq (.region false [] [] [⟨(some 4), .assign (.c false [(.int .i64 (-1))]), none, []⟩])
  .ret)
  .skip))
  (.seq (.region false [11] [11] [⟨(some 11), .move (.t 1), none, []⟩,
    ⟨(some 4), .assign (.t 11), none, []⟩])
  .ret))))⟩
/- laws.szExtS -/
def ir197 : FnIr := ⟨0, 2, 27, [(4, none)], [],
  (.seq (.region false [] [] [⟨(some 4), .assign (.c false [(.int .i64 0)]), none, []⟩])
  (.seq (.region false [6, 7, 8, 9] [6, 7, 8, 9] [⟨(some 6), .move (.t 1), none, []⟩,
    ⟨(some 7), .move (.t 0), none, []⟩,
    ⟨(some 8), .len false (.t 7), none, []⟩,
    ⟨(some 9), .bin .sub (.t 6) (.t 8), none, []⟩,
    ⟨(some 1), .assign (.t 9), none, []⟩])
  (.seq (.seq (.region false [10, 11] [10] [⟨(some 10), .move (.t 1), none, []⟩,
    ⟨(some 11), .bin .lss (.t 10) (.c false [(.int .i64 0)]), none, []⟩])
  (.cond (.t 11)
  (.seq (.region false [] [] [⟨(some 4), .assign (.c false [(.int .i64 (-1))]), none, []⟩])
  .ret)
  .skip))
  (.seq (.seq (.region false [] [] [⟨(some 5), .assign (.c false [(.int .i64 0)]), none, []⟩])
  (.block 0 (.loop (.seq (.seq (.region false [12, 13, 14, 15] [12, 13, 14] [⟨(some 12), .move (.t 5), none, []⟩,
    ⟨(some 13), .move (.t 0), none, []⟩,
    ⟨(some 14), .len false (.t 13), none, []⟩,
    ⟨(some 15), .bin .lss (.t 12) (.t 14), none, []⟩])
  (.cond (.t 15)
  .skip
  (.exit 0)))
  (.seq (.block 1 (.seq (.region false [18, 19, 20, 21, 22, 23, 50] [18, 19, 20, 21, 22, 23] [⟨(some 18), .move (.t 0), none, []⟩,
    ⟨(some 19), .move (.t 5), none, []⟩,
    ⟨(some 20), .iaddr 2 (.t 18) (.t 19), none, []⟩,
    ⟨(some 21), .load true 2 (.t 20), none, []⟩,
    ⟨(some 22), .move (.t 1), none, []⟩,
    ⟨(some 23), .call 319 [(.t 21), (.t 22)], none, []⟩,
    ⟨(some 1), .assign (.t 23), none, []⟩])
  (.seq (.region false [24, 25] [24] [⟨(some 24), .move (.t 1), none, []⟩,
    ⟨(some 25), .bin .lss (.t 24) (.c false [(.int .i64 0)]), none, []⟩])
  (.cond (.t 25)
  (.seq (.region false [] [] [⟨(some 4), .assign (.c false [(.int .i64 (-1))]), none, []⟩])
  .ret)
  .skip))))
  (.region false [16, 17] [16, 17] [⟨(some 16), .move (.t 5), none, []⟩,
    ⟨(some 17), .bin .add (.t 16) (.c false [(.int .i64 1)]), none, []⟩,
    ⟨(some 5), .assign (.t 17), none, []⟩]))))))
  (.seq (.region false [26] [26] [⟨(some 26), .move (.t 1), none, []⟩,
    ⟨(some 4), .assign (.t 26), none, []⟩])
  .ret)))))⟩
/- laws.szAnswer -/
def ir126 : FnIr := ⟨0, 2, 12, [(4, none)], [],
  (.seq (.region false [2, 14] [] [⟨(some 2), .box (.t 0), none, []⟩,
    ⟨(some 4), .assign (.c false [(.int .i64 0)]), none, []⟩])
  (.seq (.region false [5, 6, 7, 8, 20] [5, 6, 7, 8] [⟨(some 5), .faddr 1 (.t 2), none, []⟩,
    ⟨(some 6), .load false 1 (.t 5), none, []⟩,
    ⟨(some 7), .move (.t 1), none, []⟩,
    ⟨(some 8), .call 197 [(.t 6), (.t 7)], none, []⟩,
    ⟨(some 1), .assign (.t 8), none, []⟩])
  (.seq (.seq (.region false [9, 10] [9] [⟨(some 9), .move (.t 1), none, []⟩,
    ⟨(some 10), .bin .lss (.t 9) (.c false [(.int .i64 0)]), none, []⟩])
  (.cond (.t 10)
  (.seq (.region false [] [] [⟨(some 4), .assign (.c false [(.int .i64 (-1))]), none, []⟩])
  .ret)
  .skip))
  (.seq (.region false [11] [11] [⟨(some 11), .move (.t 1), none, []⟩,
    ⟨(some 4), .assign (.t 11), none, []⟩])
  .ret))))⟩
/- laws.toIntS -/
def ir76 : FnIr := ⟨0, 1, 22, [(2, none)], [],
  (.seq (.region false [] [] [⟨(some 2), .assign (.c false [(.row () [])]), none, []⟩])
  (.seq (.region false [5, 6, 7] [5, 6, 7] [⟨(some 5), .move (.t 0), none, []⟩,
    ⟨(some 6), .len false (.t 5), none, []⟩,
    ⟨(some 7), .mkslice [(.int .i64 0)] (.t 6) (.t 6), none, []⟩,
    ⟨(some 3), .assign (.t 7), none, []⟩])
  (.seq (.seq (.region false [] [] [⟨(some 4), .assign (.c false [(.int .i64 0)]), none, []⟩])
  (.block 0 (.loop (.seq (.seq (.region false [8, 9, 10, 11] [8, 9, 10] [⟨(some 8), .move (.t 4), none, []⟩,
    ⟨(some 9), .move (.t 0), none, []⟩,
    ⟨(some 10), .len false (.t 9), none, []⟩,
    ⟨(some 11), .bin .lss (.t 8) (.t 10), none, []⟩])
  (.cond (.t 11)
  .skip
  (.exit 0)))
  (.seq (.block 1 (.region false [14, 15, 16, 17, 18, 19, 20] [14, 15, 16, 17, 18, 19, 20] [⟨(some 14), .move (.t 3), none, []⟩,
    ⟨(some 15), .move (.t 4), none, []⟩,
    ⟨(some 16), .move (.t 0), none, []⟩,
    ⟨(some 17), .move (.t 4), none, []⟩,
    ⟨(some 18), .iaddr 1 (.t 16) (.t 17), none, []⟩,
    ⟨(some 19), .load false 1 (.t 18), none, []⟩,
    ⟨(some 20), .iaddr 1 (.t 14) (.t 15), none, []⟩,
    ⟨none, .rstore 1 (.t 20) (.t 19), none, []⟩]))
  (.region false [12, 13] [12, 13] [⟨(some 12), .move (.t 4), none, []⟩,
    ⟨(some 13), .bin .add (.t 12) (.c false [(.int .i64 1)]), none, []⟩,
    ⟨(some 4), .assign (.t 13), none, []⟩]))))))
  (.seq (.region false [21] [21] [⟨(some 21), .move (.t 3), none, []⟩,
    ⟨(some 2), .assign (.t 21), none, []⟩])
  .ret))))⟩
/- laws.toExt -/
def ir320 : FnIr := ⟨0, 1, 12, [(2, (some (true, 2)))], [],
  (.seq (.region false [1, 2, 13, 14] [] [⟨(some 1), .box (.t 0), none, []⟩,
    ⟨(some 2), .alloc [(.int .i64 0), (.row () [])], none, []⟩])
  (.seq (.region false [3, 15] [] [⟨(some 3), .alloc [(.int .i64 0), (.row () [])], none, []⟩])
  (.seq (.region false [4, 5, 6] [4, 5, 6] [⟨(some 4), .faddr 0 (.t 1), none, []⟩,
    ⟨(some 5), .load false 1 (.t 4), none, []⟩,
    ⟨(some 6), .faddr 0 (.t 3), none, []⟩,
    ⟨none, .store 1 (.t 6) (.t 5), none, []⟩])
  (.seq (.region false [7, 8, 9, 10, 21] [7, 8, 9, 10] [⟨(some 7), .faddr 1 (.t 1), none, []⟩,
    ⟨(some 8), .load false 1 (.t 7), none, []⟩,
    ⟨(some 9), .call 76 [(.t 8)], none, []⟩,
    ⟨(some 10), .faddr 1 (.t 3), none, []⟩,
    ⟨none, .store 1 (.t 10) (.t 9), none, []⟩])
  (.seq (.region false [11] [11] [⟨(some 11), .load true 2 (.t 3), none, []⟩,
    ⟨none, .store 2 (.t 2) (.t 11), none, []⟩])
  .ret)))))⟩
/- laws.toExtS -/
def ir199 : FnIr := ⟨0, 1, 23, [(2, none)], [],
  (.seq (.region false [] [] [⟨(some 2), .assign (.c false [(.row () [])]), none, []⟩])
  (.seq (.region false [5, 6, 7] [5, 6, 7] [⟨(some 5), .move (.t 0), none, []⟩,
    ⟨(some 6), .len false (.t 5), none, []⟩,
    ⟨(some 7), .mkslice [(.int .i64 0), (.row () [])] (.t 6) (.t 6), none, []⟩,
    ⟨(some 3), .assign (.t 7), none, []⟩])
  (.seq (.seq (.region false [] [] [⟨(some 4), .assign (.c false [(.int .i64 0)]), none, []⟩])
  (.block 0 (.loop (.seq (.seq (.region false [8, 9, 10, 11] [8, 9, 10] [⟨(some 8), .move (.t 4), none, []⟩,
    ⟨(some 9), .move (.t 0), none, []⟩,
    ⟨(some 10), .len false (.t 9), none, []⟩,
    ⟨(some 11), .bin .lss (.t 8) (.t 10), none, []⟩])
  (.cond (.t 11)
  .skip
  (.exit 0)))
  (.seq (.block 1 (.region false [14, 15, 16, 17, 18, 19, 20, 21, 43] [14, 15, 16, 17, 18, 19, 20, 21] [⟨(some 14), .move (.t 3), none, []⟩,
    ⟨(some 15), .move (.t 4), none, []⟩,
    ⟨(some 16), .move (.t 0), none, []⟩,
    ⟨(some 17), .move (.t 4), none, []⟩,
    ⟨(some 18), .iaddr 2 (.t 16) (.t 17), none, []⟩,
    ⟨(some 19), .load true 2 (.t 18), none, []⟩,
    ⟨(some 20), .call 320 [(.t 19)], none, []⟩,
    ⟨(some 21), .iaddr 2 (.t 14) (.t 15), none, []⟩,
    ⟨none, .rstore 2 (.t 21) (.t 20), none, []⟩]))
  (.region false [12, 13] [12, 13] [⟨(some 12), .move (.t 4), none, []⟩,
    ⟨(some 13), .bin .add (.t 12) (.c false [(.int .i64 1)]), none, []⟩,
    ⟨(some 4), .assign (.t 13), none, []⟩]))))))
  (.seq (.region false [22] [22] [⟨(some 22), .move (.t 3), none, []⟩,
    ⟨(some 2), .assign (.t 22), none, []⟩])
  .ret))))⟩
/- laws.toAnswer -/
def ir128 : FnIr := ⟨0, 1, 12, [(2, (some (true, 2)))], [],
  (.seq (.region false [1, 2, 13, 14] [] [⟨(some 1), .box (.t 0), none, []⟩,
    ⟨(some 2), .alloc [(.int .i64 0), (.row () [])], none, []⟩])
  (.seq (.region false [3, 15] [] [⟨(some 3), .alloc [(.int .i64 0), (.row () [])], none, []⟩])
  (.seq (.region false [4, 5, 6] [4, 5, 6] [⟨(some 4), .faddr 0 (.t 1), none, []⟩,
    ⟨(some 5), .load false 1 (.t 4), none, []⟩,
    ⟨(some 6), .faddr 0 (.t 3), none, []⟩,
    ⟨none, .store 1 (.t 6) (.t 5), none, []⟩])
  (.seq (.region false [7, 8, 9, 10, 21] [7, 8, 9, 10] [⟨(some 7), .faddr 1 (.t 1), none, []⟩,
    ⟨(some 8), .load false 1 (.t 7), none, []⟩,
    ⟨(some 9), .call 199 [(.t 8)], none, []⟩,
    ⟨(some 10), .faddr 1 (.t 3), none, []⟩,
    ⟨none, .store 1 (.t 10) (.t 9), none, []⟩])
  (.seq (.region false [11] [11] [⟨(some 11), .load true 2 (.t 3), none, []⟩,
    ⟨none, .store 2 (.t 2) (.t 11), none, []⟩])
  .ret)))))⟩
/- laws.eqIntS -/
def ir79 : FnIr := ⟨0, 2, 26, [(4, none)], [],
  (.seq (.region false [] [] [⟨(some 4), .assign (.c false [(.bool false)]), none, []⟩])
  (.seq (.seq (.region false [6, 7, 8, 9, 10] [6, 7, 8, 9] [⟨(some 6), .move (.t 0), none, []⟩,
    ⟨(some 7), .len false (.t 6), none, []⟩,
    ⟨(some 8), .move (.t 1), none, []⟩,
    ⟨(some 9), .len false (.t 8), none, []⟩,
    ⟨(some 10), .bin .neq (.t 7) (.t 9), none, []⟩])
  (.cond (.t 10)
  (.seq (.region false [] [] [⟨(some 4), .assign (.c false [(.bool false)]), none, []⟩])
  .ret)
  .skip))
  (.seq (.seq (.region false [] [] [⟨(some 5), .assign (.c false [(.int .i64 0)]), none, []⟩])
  (.block 0 (.loop (.seq (.seq (.region false [11, 12, 13, 14] [11, 12, 13] [⟨(some 11), .move (.t 5), none, []⟩,
    ⟨(some 12), .move (.t 0), none, []⟩,
    ⟨(some 13), .len false (.t 12), none, []⟩,
    ⟨(some 14), .bin .lss (.t 11) (.t 13), none, []⟩])
  (.cond (.t 14)
  .skip
  (.exit 0)))
  (.seq (.block 1 (.seq (.region true [17, 18, 19, 20, 21, 22, 23, 24, 25] [17, 18, 19, 20, 21, 22, 23, 24] [⟨(some 17), .move (.t 0), none, []⟩,
    ⟨(some 18), .move (.t 5), none, []⟩,
    ⟨(some 19), .iaddr 1 (.t 17) (.t 18), none, [0, 1]⟩,
    ⟨(some 20), .load false 1 (.t 19), none, [2, 0, 1]⟩,
    ⟨(some 21), .move (.t 1), none, []⟩,
    ⟨(some 22), .move (.t 5), none, []⟩,
    ⟨(some 23), .iaddr 1 (.t 21) (.t 22), none, [4, 5]⟩,
    ⟨(some 24), .load false 1 (.t 23), none, [6, 4, 5]⟩,
    ⟨(some 25), .bin .neq (.t 20) (.t 24), none, [3, 2, 0, 1, 7, 6, 4, 5]⟩])
  (.cond (.t 25)
  (.seq (.region false [] [] [⟨(some 4), .assign (.c false [(.bool false)]), none, []⟩])
  .ret)
  .skip)))
  (.region false [15, 16] [15, 16] [⟨(some 15), .move (.t 5), none, []⟩,
    ⟨(some 16), .bin .add (.t 15) (.c false [(.int .i64 1)]), none, []⟩,
    ⟨(some 5), .assign (.t 16), none, []⟩]))))))
  (.seq (.region false [] [] [⟨(some 4), .assign (.c false [(.bool true)]), none, []⟩])
  .ret))))⟩
/- laws.eqExt -/
def ir321 : FnIr := ⟨0, 2, 16, [(4, none)], [],
  (.seq (.region false [2, 3, 18, 19] [] [⟨(some 2), .box (.t 0), none, []⟩,
    ⟨(some 3), .box (.t 1), none, []⟩,
    ⟨(some 4), .assign (.c false [(.bool false)]), none, []⟩])
  (.seq (.seq (.region false [5, 6, 7, 8, 9] [5, 6, 7, 8] [⟨(some 5), .faddr 0 (.t 2), none, []⟩,
    ⟨(some 6), .load false 1 (.t 5), none, []⟩,
    ⟨(some 7), .faddr 0 (.t 3), none, []⟩,
    ⟨(some 8), .load false 1 (.t 7), none, []⟩,
    ⟨(some 9), .bin .neq (.t 6) (.t 8), none, []⟩])
  (.cond (.t 9)
  (.seq (.region false [] [] [⟨(some 4), .assign (.c false [(.bool false)]), none, []⟩])
  .ret)
  .skip))
  (.seq (.seq (.region false [10, 11, 12, 13, 14, 15, 30] [10, 11, 12, 13, 14] [⟨(some 10), .faddr 1 (.t 2), none, []⟩,
    ⟨(some 11), .load false 1 (.t 10), none, []⟩,
    ⟨(some 12), .faddr 1 (.t 3), none, []⟩,
    ⟨(some 13), .load false 1 (.t 12), none, []⟩,
    ⟨(some 14), .call 79 [(.t 11), (.t 13)], none, []⟩,
    ⟨(some 15), .un .not (.t 14), none, []⟩])
  (.cond (.t 15)
  (.seq (.region false [] [] [⟨(some 4), .assign (.c false [(.bool false)]), none, []⟩])
  .ret)
  .skip))
  (.seq (.region false [] [] [⟨(some 4), .assign (.c false [(.bool true)]), none, []⟩])
  .ret))))⟩
/- laws.eqExtS -/
def ir200 : FnIr := ⟨0, 2, 27, [(4, none)], [],
  (.seq (.region false [] [] [⟨(some 4), .assign (.c false [(.bool false)]), none, []⟩])
  (.seq (.seq (.region false [6, 7, 8, 9, 10] [6, 7, 8, 9] [⟨(some 6), .move (.t 0), none, []⟩,
    ⟨(some 7), .len false (.t 6), none, []⟩,
    ⟨(some 8), .move (.t 1), none, []⟩,
    ⟨(some 9), .len false (.t 8), none, []⟩,
    ⟨(some 10), .bin .neq (.t 7) (.t 9), none, []⟩])
  (.cond (.t 10)
  (.seq (.region false [] [] [⟨(some 4), .assign (.c false [(.bool false)]), none, []⟩])
  .ret)
  .skip))
  (.seq (.seq (.region false [] [] [⟨(some 5), .assign (.c false [(.int .i64 0)]), none, []⟩])
  (.block 0 (.loop (.seq (.seq (.region false [11, 12, 13, 14] [11, 12, 13] [⟨(some 11), .move (.t 5), none, []⟩,
    ⟨(some 12), .move (.t 0), none, []⟩,
    ⟨(some 13), .len false (.t 12), none, []⟩,
    ⟨(some 14), .bin .lss (.t 11) (.t 13), none, []⟩])
  (.cond (.t 14)
  .skip
  (.exit 0)))
  (.seq (.block 1 (.seq (.region true [17, 18, 19, 20, 21, 22, 23, 24, 25, 26, 52] [17, 18, 19, 20, 21, 22, 23, 24, 25] [⟨(some 17), .move (.t 0), none, []⟩,
    ⟨(some 18), .move (.t 5), none, []⟩,
    ⟨(some 19), .iaddr 2 (.t 17) (.t 18), none, [0, 1]⟩,
    ⟨(some 20), .load true 2 (.t 19), none, [2, 0, 1]⟩,
    ⟨(some 21), .move (.t 1), none, []⟩,
    ⟨(some 22), .move (.t 5), none, []⟩,
    ⟨(some 23), .iaddr 2 (.t 21) (.t 22), none, [4, 5]⟩,
    ⟨(some 24), .load true 2 (.t 23), none, [6, 4, 5]⟩,
    ⟨(some 25), .call 321 [(.t 20), (.t 24)], none, [3, 2, 0, 1, 7, 6, 4, 5]⟩,
    ⟨(some 26), .un .not (.t 25), none, [8, 3, 2, 0, 1, 7, 6, 4, 5]⟩])
  (.cond (.t 26)
  (.seq (.region false [] [] [⟨(some 4), .assign (.c false [(.bool false)]), none, []⟩])
  .ret)
  .skip)))
  (.region false [15, 16] [15, 16] [⟨(some 15), .move (.t 5), none, []⟩,
    ⟨(some 16), .bin .add (.t 15) (.c false [(.int .i64 1)]), none, []⟩,
    ⟨(some 5), .assign (.t 16), none, []⟩]))))))
  (.seq (.region false [] [] [⟨(some 4), .assign (.c false [(.bool true)]), none, []⟩])
  .ret))))⟩
/- laws.eqAnswer -/
def ir129 : FnIr := ⟨0, 2, 16, [(4, none)], [],
  (.seq (.region false [2, 3, 18, 19] [] [⟨(some 2), .box (.t 0), none, []⟩,
    ⟨(some 3), .box (.t 1), none, []⟩,
    ⟨(some 4), .assign (.c false [(.bool false)]), none, []⟩])
  (.seq (.seq (.region false [5, 6, 7, 8, 9] [5, 6, 7, 8] [⟨(some 5), .faddr 0 (.t 2), none, []⟩,
    ⟨(some 6), .load false 1 (.t 5), none, []⟩,
    ⟨(some 7), .faddr 0 (.t 3), none, []⟩,
    ⟨(some 8), .load false 1 (.t 7), none, []⟩,
    ⟨(some 9), .bin .neq (.t 6) (.t 8), none, []⟩])
  (.cond (.t 9)
  (.seq (.region false [] [] [⟨(some 4), .assign (.c false [(.bool false)]), none, []⟩])
  .ret)
  .skip))
  (.seq (.seq (.region false [10, 11, 12, 13, 14, 15, 30] [10, 11, 12, 13, 14] [⟨(some 10), .faddr 1 (.t 2), none, []⟩,
    ⟨(some 11), .load false 1 (.t 10), none, []⟩,
    ⟨(some 12), .faddr 1 (.t 3), none, []⟩,
    ⟨(some 13), .load false 1 (.t 12), none, []⟩,
    ⟨(some 14), .call 200 [(.t 11), (.t 13)], none, []⟩,
    ⟨(some 15), .un .not (.t 14), none, []⟩])
  (.cond (.t 15)
  (.seq (.region false [] [] [⟨(some 4), .assign (.c false [(.bool false)]), none, []⟩])
  .ret)
  .skip))
  (.seq (.region false [] [] [⟨(some 4), .assign (.c false [(.bool true)]), none, []⟩])
  .ret))))⟩
/- spec.l1In -/
def ir230 : FnIr := ⟨0, 3, 15, [(6, none)], [],
  (.seq (.region false [] [] [⟨(some 6), .assign (.c false [(.bool false)]), none, []⟩])
  (.seq (.region false [7, 8, 9, 10, 11, 12, 13, 14] [7, 8, 9, 10, 11, 12, 13, 14] [⟨(some 7), .move (.t 0), none, []⟩,
    ⟨(some 8), .move (.t 1), none, []⟩,
    ⟨(some 9), .bin .geq (.t 7) (.t 8), none, []⟩,
    ⟨(some 10), .move (.t 9), none, []⟩,
    ⟨(some 11), .move (.t 0), (some (10, true)), []⟩,
    ⟨(some 12), .move (.t 2), (some (10, true)), []⟩,
    ⟨(some 13), .bin .leq (.t 11) (.t 12), (some (10, true)), []⟩,
    ⟨(some 14), .pick (.t 10) (.t 13) (.c false [(.bool false)]), none, []⟩,
    ⟨(some 6), .assign (.t 14), none, []⟩])
  .ret))⟩
/- spec.l9Byte -/
def ir231 : FnIr := ⟨0, 1, 16, [(2, none)], [],
  (.seq (.region false [] [] [⟨(some 2), .assign (.c false [(.bool false)]), none, []⟩])
  (.seq (.seq (.region false [] [] [⟨(some 3), .assign (.c false [(.int .i64 0)]), none, []⟩])
  (.block 0 (.loop (.seq (.seq (.region false [4, 5, 6, 7] [4, 5, 6] [⟨(some 4), .move (.t 3), none, []⟩,
    ⟨(some 5), .move (.t 0), none, []⟩,
    ⟨(some 6), .len false (.t 5), none, []⟩,
    ⟨(some 7), .bin .lss (.t 4) (.t 6), none, []⟩])
  (.cond (.t 7)
  .skip
  (.exit 0)))
  (.seq (.block 1 (.seq (.region false [10, 11, 12, 13, 14, 15, 30] [10, 11, 12, 13, 14] [⟨(some 10), .move (.t 0), none, []⟩,
    ⟨(some 11), .move (.t 3), none, []⟩,
    ⟨(some 12), .iaddr 1 (.t 10) (.t 11), none, []⟩,
    ⟨(some 13), .load false 1 (.t 12), none, []⟩,
    ⟨(some 14), .call 230 [(.t 13), (.c false [(.int .i64 0)]), (.c false [(.int .i64 255)])], none, []⟩,
    ⟨(some 15), .un .not (.t 14), none, []⟩])
  (.cond (.t 15)
  (.seq (.region false [] [] [⟨(some 2), .assign (.c false [(.bool false)]), none, []⟩])
  .ret)
  .skip)))
  (.region false [8, 9] [8, 9] [⟨(some 8), .move (.t 3), none, []⟩,
    ⟨(some 9), .bin .add (.t 8) (.c false [(.int .i64 1)]), none, []⟩,
    ⟨(some 3), .assign (.t 9), none, []⟩]))))))
  (.seq (.region false [] [] [⟨(some 2), .assign (.c false [(.bool true)]), none, []⟩])
  .ret)))⟩
/- spec.ExtOf -/
def ir286 : FnIr := ⟨0, 2, 20, [(4, none)], [],
  (.seq (.region false [] [] [⟨(some 4), .assign (.c false [(.int .i64 0)]), none, []⟩])
  (.seq (.seq (.region false [] [] [⟨(some 5), .assign (.c false [(.int .i64 0)]), none, []⟩])
  (.block 0 (.loop (.seq (.seq (.region false [6, 7, 8, 9] [6, 7, 8] [⟨(some 6), .move (.t 5), none, []⟩,
    ⟨(some 7), .move (.t 0), none, []⟩,
    ⟨(some 8), .len false (.t 7), none, []⟩,
    ⟨(some 9), .bin .lss (.t 6) (.t 8), none, []⟩])
  (.cond (.t 9)
  .skip
  (.exit 0)))
  (.seq (.block 1 (.seq (.region false [12, 13, 14, 15, 16, 17, 18] [12, 13, 14, 15, 16, 17] [⟨(some 12), .move (.t 0), none, []⟩,
    ⟨(some 13), .move (.t 5), none, []⟩,
    ⟨(some 14), .iaddr 2 (.t 12) (.t 13), none, []⟩,
    ⟨(some 15), .faddr 0 (.t 14), none, []⟩,
    ⟨(some 16), .load false 1 (.t 15), none, []⟩,
    ⟨(some 17), .move (.t 1), none, []⟩,
    ⟨(some 18), .bin .eql (.t 16) (.t 17), none, []⟩])
  (.cond (.t 18)
  (.seq (.region false [19] [19] [⟨(some 19), .move (.t 5), none, []⟩,
    ⟨(some 4), .assign (.t 19), none, []⟩])
  .ret)
  .skip)))
  (.region false [10, 11] [10, 11] [⟨(some 10), .move (.t 5), none, []⟩,
    ⟨(some 11), .bin .add (.t 10) (.c false [(.int .i64 1)]), none, []⟩,
    ⟨(some 5), .assign (.t 11), none, []⟩]))))))
  (.seq (.region false [] [] [⟨(some 4), .assign (.c false [(.int .i64 (-1))]), none, []⟩])
  .ret)))⟩
/- spec.AreExts -/
def ir271 : FnIr := ⟨0, 1, 49, [(2, none)], [],
  (.seq (.region false [] [] [⟨(some 2), .assign (.c false [(.bool false)]), none, []⟩])
  (.seq (.seq (.region false [] [] [⟨(some 3), .assign (.c false [(.int .i64 0)]), none, []⟩])
  (.block 0 (.loop (.seq (.seq (.region false [4, 5, 6, 7] [4, 5, 6] [⟨(some 4), .move (.t 3), none, []⟩,
    ⟨(some 5), .move (.t 0), none, []⟩,
    ⟨(some 6), .len false (.t 5), none, []⟩,
    ⟨(some 7), .bin .lss (.t 4) (.t 6), none, []⟩])
  (.cond (.t 7)
  .skip
  (.exit 0)))
  (.seq (.block 1 (.seq (.region false [10, 11, 12, 13, 14, 15, 16, 17, 18, 19, 20, 21, 22, 23, 24, 25, 26, 27, 28, 29, 30, 31, 32, 33, 34, 35, 36, 37, 38, 39, 40, 41, 42, 43, 44, 45, 64, 81, 91] [10, 11, 12, 13, 14, 15, 16, 17, 18, 19, 20, 21, 22, 23, 24, 25, 26, 27, 28, 29, 30, 31, 32, 33, 34, 35, 36, 37, 38, 39, 40, 41, 42, 43, 44] [⟨(some 10), .move (.t 0), none, []⟩,
    ⟨(some 11), .move (.t 3), none, []⟩,
    ⟨(some 12), .iaddr 2 (.t 10) (.t 11), none, []⟩,
    ⟨(some 13), .faddr 0 (.t 12), none, []⟩,
    ⟨(some 14), .load false 1 (.t 13), none, []⟩,
    ⟨(some 15), .call 230 [(.t 14), (.c false [(.int .i64 0)]), (.c false [(.int .i64 255)])], none, []⟩,
    ⟨(some 16), .un .not (.t 15), none, []⟩,
    ⟨(some 17), .move (.t 16), none, []⟩,
    ⟨(some 18), .move (.t 0), (some (17, false)), []⟩,
    ⟨(some 19), .move (.t 3), (some (17, false)), []⟩,
    ⟨(some 20), .iaddr 2 (.t 18) (.t 19), (some (17, false)), []⟩,
    ⟨(some 21), .faddr 1 (.t 20), (some (17, false)), []⟩,
    ⟨(some 22), .load false 1 (.t 21), (some (17, false)), []⟩,
    ⟨(some 23), .len false (.t 22), (some (17, false)), []⟩,
    ⟨(some 24), .bin .gtr (.t 23) (.c false [(.int .i64 4)]), (some (17, false)), []⟩,
    ⟨(some 25), .pick (.t 17) (.c false [(.bool true)]) (.t 24), none, []⟩,
    ⟨(some 26), .move (.t 25), none, []⟩,
    ⟨(some 27), .move (.t 0), (some (26, false)), []⟩,
    ⟨(some 28), .move (.t 3), (some (26, false)), []⟩,
    ⟨(some 29), .iaddr 2 (.t 27) (.t 28), (some (26, false)), []⟩,
    ⟨(some 30), .faddr 1 (.t 29), (some (26, false)), []⟩,
    ⟨(some 31), .load false 1 (.t 30), (some (26, false)), []⟩,
    ⟨(some 32), .call 231 [(.t 31)], (some (26, false)), []⟩,
    ⟨(some 33), .un .not (.t 32), (some (26, false)), []⟩,
    ⟨(some 34), .pick (.t 26) (.c false [(.bool true)]) (.t 33), none, []⟩,
    ⟨(some 35), .move (.t 34), none, []⟩,
    ⟨(some 36), .move (.t 0), (some (35, false)), []⟩,
    ⟨(some 37), .move (.t 0), (some (35, false)), []⟩,
    ⟨(some 38), .move (.t 3), (some (35, false)), []⟩,
    ⟨(some 39), .iaddr 2 (.t 37) (.t 38), (some (35, false)), []⟩,
    ⟨(some 40), .faddr 0 (.t 39), (some (35, false)), []⟩,
    ⟨(some 41), .load false 1 (.t 40), (some (35, false)), []⟩,
    ⟨(some 42), .call 286 [(.t 36), (.t 41)], (some (35, false)), []⟩,
    ⟨(some 43), .move (.t 3), (some (35, false)), []⟩,
    ⟨(some 44), .bin .lss (.t 42) (.t 43), (some (35, false)), []⟩,
    ⟨(some 45), .pick (.t 35) (.c false [(.bool true)]) (.t 44), none, []⟩])
  (.cond (.t 45)
  (.seq (.region false [] [] [⟨(some 2), .assign (.c false [(.bool false)]), none, []⟩])
  .ret)
  .skip)))
  (.region false [8, 9] [8, 9] [⟨(some 8), .move (.t 3), none, []⟩,
    ⟨(some 9), .bin .add (.t 8) (.c false [(.int .i64 1)]), none, []⟩,
    ⟨(some 3), .assign (.t 9), none, []⟩]))))))
  (.seq (.region false [46, 47, 48] [46, 47, 48] [⟨(some 46), .move (.t 0), none, []⟩,
    ⟨(some 47), .len false (.t 46), none, []⟩,
    ⟨(some 48), .bin .leq (.t 47) (.c false [(.int .i64 6)]), none, []⟩,
    ⟨(some 2), .assign (.t 48), none, []⟩])
  .ret)))⟩
/- spec.IsAnswer -/
def ir127 : FnIr := ⟨0, 1, 11, [(2, none)], [],
  (.seq (.region false [1, 12] [] [⟨(some 1), .box (.t 0), none, []⟩,
    ⟨(some 2), .assign (.c false [(.bool false)]), none, []⟩])
  (.seq (.region false [3, 4, 5, 6, 7, 8, 9, 10, 16, 20] [3, 4, 5, 6, 7, 8, 9, 10] [⟨(some 3), .faddr 0 (.t 1), none, []⟩,
    ⟨(some 4), .load false 1 (.t 3), none, []⟩,
    ⟨(some 5), .call 230 [(.t 4), (.c false [(.int .i64 1)]), (.c false [(.int .i64 9)])], none, []⟩,
    ⟨(some 6), .move (.t 5), none, []⟩,
    ⟨(some 7), .faddr 1 (.t 1), (some (6, true)), []⟩,
    ⟨(some 8), .load false 1 (.t 7), (some (6, true)), []⟩,
    ⟨(some 9), .call 271 [(.t 8)], (some (6, true)), []⟩,
    ⟨(some 10), .pick (.t 6) (.t 9) (.c false [(.bool false)]), none, []⟩,
    ⟨(some 2), .assign (.t 10), none, []⟩])
  .ret))⟩
/- spec.EncodeExts -/
def ir293 : FnIr := ⟨0, 1, 41, [(2, none), (3, none)], [],
  (.seq (.region false [] [] [⟨(some 2), .assign (.c false [(.row () [])]), none, []⟩,
    ⟨(some 3), .assign (.c false [(.bool false)]), none, []⟩])
  (.seq (.seq (.region false [6, 7, 8, 48] [6, 7] [⟨(some 6), .move (.t 0), none, []⟩,
    ⟨(some 7), .call 271 [(.t 6)], none, []⟩,
    ⟨(some 8), .un .not (.t 7), none, []⟩])
  (.cond (.t 8)
  (.seq (.region false [9] [9] [⟨(some 9), .bslice [(.int .i64 0)] 0 [], none, []⟩,
    ⟨(some 2), .assign (.t 9), none, []⟩,
    ⟨(some 3), .assign (.c false [(.bool false)]), none, []⟩])
  .ret)
  .skip))
  (.seq (.region false [10, 11, 12] [10, 11, 12] [⟨(some 10), .move (.t 0), none, []⟩,
    ⟨(some 11), .len false (.t 10), none, []⟩,
    ⟨(some 12), .bslice [(.int .i64 0)] 1 [(0, (.t 11))], none, []⟩,
    ⟨(some 4), .assign (.t 12), none, []⟩])
  (.seq (.seq (.region false [] [] [⟨(some 5), .assign (.c false [(.int .i64 0)]), none, []⟩])
  (.block 0 (.loop (.seq (.seq (.region false [13, 14, 15, 16] [13, 14, 15] [⟨(some 13), .move (.t 5), none, []⟩,
    ⟨(some 14), .move (.t 0), none, []⟩,
    ⟨(some 15), .len false (.t 14), none, []⟩,
    ⟨(some 16), .bin .lss (.t 13) (.t 15), none, []⟩])
  (.cond (.t 16)
  .skip
  (.exit 0)))
  (.seq (.block 1 (.seq (.region true [19, 20, 21, 22, 23, 24, 25, 26, 27, 28, 29, 30, 31, 32] [19, 20, 21, 22, 23, 24, 25, 26, 27, 28, 29, 30, 31, 32] [⟨(some 19), .move (.t 4), none, []⟩,
    ⟨(some 20), .move (.t 0), none, []⟩,
    ⟨(some 21), .move (.t 5), none, []⟩,
    ⟨(some 22), .iaddr 2 (.t 20) (.t 21), none, [1, 2]⟩,
    ⟨(some 23), .faddr 0 (.t 22), none, [3, 1, 2]⟩,
    ⟨(some 24), .load false 1 (.t 23), none, [4, 3, 1, 2]⟩,
    ⟨(some 25), .move (.t 0), none, []⟩,
    ⟨(some 26), .move (.t 5), none, []⟩,
    ⟨(some 27), .iaddr 2 (.t 25) (.t 26), none, [6, 7]⟩,
    ⟨(some 28), .faddr 1 (.t 27), none, [8, 6, 7]⟩,
    ⟨(some 29), .load false 1 (.t 28), none, [9, 8, 6, 7]⟩,
    ⟨(some 30), .len false (.t 29), none, [10, 9, 8, 6, 7]⟩,
    ⟨(some 31), .bslice [(.int .i64 0)] 2 [(0, (.t 24)), (1, (.t 30))], none, [5, 4, 3, 1, 2, 11, 10, 9, 8, 6, 7]⟩,
    ⟨(some 32), .append 1 (.t 19) (.t 31), none, [0, 12, 5, 4, 3, 1, 2, 11, 10, 9, 8, 6, 7]⟩,
    ⟨(some 4), .assign (.t 32), none, [13, 0, 12, 5, 4, 3, 1, 2, 11, 10, 9, 8, 6, 7]⟩])
  (.region false [33, 34, 35, 36, 37, 38, 39] [33, 34, 35, 36, 37, 38, 39] [⟨(some 33), .move (.t 4), none, []⟩,
    ⟨(some 34), .move (.t 0), none, []⟩,
    ⟨(some 35), .move (.t 5), none, []⟩,
    ⟨(some 36), .iaddr 2 (.t 34) (.t 35), none, []⟩,
    ⟨(some 37), .faddr 1 (.t 36), none, []⟩,
    ⟨(some 38), .load false 1 (.t 37), none, []⟩,
    ⟨(some 39), .append 1 (.t 33) (.t 38), none, []⟩,
    ⟨(some 4), .assign (.t 39), none, []⟩])))
  (.region false [17, 18] [17, 18] [⟨(some 17), .move (.t 5), none, []⟩,
    ⟨(some 18), .bin .add (.t 17) (.c false [(.int .i64 1)]), none, []⟩,
    ⟨(some 5), .assign (.t 18), none, []⟩]))))))
  (.seq (.region false [40] [40] [⟨(some 40), .move (.t 4), none, []⟩,
    ⟨(some 2), .assign (.t 40), none, []⟩,
    ⟨(some 3), .assign (.c false [(.bool true)]), none, []⟩])
  .ret)))))⟩
/- spec.AnswerBytes -/
def ir151 : FnIr := ⟨0, 1, 20, [(2, none)], [],
  (.seq (.region false [1, 21] [] [⟨(some 1), .box (.t 0), none, []⟩,
    ⟨(some 2), .assign (.c false [(.row () [])]), none, []⟩])
  (.seq (.seq (.region false [5, 6, 7, 26] [5, 6] [⟨(some 5), .load true 2 (.t 1), none, []⟩,
    ⟨(some 6), .call 127 [(.t 5)], none, []⟩,
    ⟨(some 7), .un .not (.t 6), none, []⟩])
  (.cond (.t 7)
  (.seq (.region false [8] [8] [⟨(some 8), .bslice [(.int .i64 0)] 0 [], none, []⟩,
    ⟨(some 2), .assign (.t 8), none, []⟩])
  .ret)
  .skip))
  (.seq (.region false [10, 11, 12, 9, 13, 14, 32] [10, 11, 12, 9, 13, 14] [⟨(some 10), .faddr 1 (.t 1), none, []⟩,
    ⟨(some 11), .load false 1 (.t 10), none, []⟩,
    ⟨(some 12), .call 293 [(.t 11)], none, []⟩,
    ⟨(some 9), .move (.t 12), none, []⟩,
    ⟨(some 13), .extract 0 (.t 9), none, []⟩,
    ⟨(some 14), .extract 1 (.t 9), none, []⟩,
    ⟨(some 3), .assign (.t 13), none, []⟩,
    ⟨(some 4), .assign (.t 14), none, []⟩])
  (.seq (.region false [15, 16, 17, 18, 19] [15, 16, 17, 18, 19] [⟨(some 15), .faddr 0 (.t 1), none, []⟩,
    ⟨(some 16), .load false 1 (.t 15), none, []⟩,
    ⟨(some 17), .bslice [(.int .i64 0)] 1 [(0, (.t 16))], none, []⟩,
    ⟨(some 18), .move (.t 3), none, []⟩,
    ⟨(some 19), .append 1 (.t 17) (.t 18), none, []⟩,
    ⟨(some 2), .assign (.t 19), none, []⟩])
  .ret))))⟩
/- impl.InRange -/
def ir232 : FnIr := ⟨0, 3, 15, [(6, none)], [],
  (.seq (.region false [] [] [⟨(some 6), .assign (.c false [(.bool false)]), none, []⟩])
  (.seq (.region false [7, 8, 9, 10, 11, 12, 13, 14] [7, 8, 9, 10, 11, 12, 13, 14] [⟨(some 7), .move (.t 1), none, []⟩,
    ⟨(some 8), .move (.t 0), none, []⟩,
    ⟨(some 9), .bin .leq (.t 7) (.t 8), none, []⟩,
    ⟨(some 10), .move (.t 9), none, []⟩,
    ⟨(some 11), .move (.t 0), (some (10, true)), []⟩,
    ⟨(some 12), .move (.t 2), (some (10, true)), []⟩,
    ⟨(some 13), .bin .leq (.t 11) (.t 12), (some (10, true)), []⟩,
    ⟨(some 14), .pick (.t 10) (.t 13) (.c false [(.bool false)]), none, []⟩,
    ⟨(some 6), .assign (.t 14), none, []⟩])
  .ret))⟩
/- slices.IndexFunc[[]int,int] -/
def ir377 : FnIr := ⟨0, 2, 19, [(4, none)], [],
  (.seq (.region false [] [] [⟨(some 4), .assign (.c false [(.int .i64 0)]), none, []⟩])
  (.seq (.seq (.region false [6, 7, 8] [6] [⟨(some 6), .move (.t 0), none, []⟩,
    ⟨(some 7), .len false (.t 6), none, []⟩,
    ⟨(some 8), .move (.c false [(.int .i64 0)]), none, []⟩])
  (.block 0 (.loop (.seq (.region false [9] [] [⟨(some 9), .bin .lss (.t 8) (.t 7), none, []⟩])
  (.seq (.cond (.t 9)
  .skip
  (.exit 0))
  (.seq (.block 1 (.seq (.region false [10] [10] [⟨(some 10), .move (.t 8), none, []⟩,
    ⟨(some 5), .assign (.t 10), none, []⟩])
  (.seq (.region false [11, 12, 13, 14, 15, 16, 35] [11, 12, 13, 14, 15] [⟨(some 11), .move (.t 1), none, []⟩,
    ⟨(some 12), .move (.t 0), none, []⟩,
    ⟨(some 13), .move (.t 5), none, []⟩,
    ⟨(some 14), .iaddr 1 (.t 12) (.t 13), none, []⟩,
    ⟨(some 15), .load false 1 (.t 14), none, []⟩,
    ⟨(some 16), .callv (.t 11) [(.t 15)], none, []⟩])
  (.cond (.t 16)
  (.seq (.region false [17] [17] [⟨(some 17), .move (.t 5), none, []⟩,
    ⟨(some 4), .assign (.t 17), none, []⟩])
  .ret)
  .skip))))
  (.region false [18] [18] [⟨(some 18), .bin .add (.t 8) (.c false [(.int .i64 1)]), none, []⟩,
    ⟨(some 8), .move (.t 18), none, []⟩])))))))
  (.seq (.region false [] [] [⟨(some 4), .assign (.c false [(.int .i64 (-1))]), none, []⟩])
  .ret)))⟩
/- slices.ContainsFunc[[]int,int] -/
def ir336 : FnIr := ⟨0, 2, 9, [(4, none)], [],
  (.seq (.region false [] [] [⟨(some 4), .assign (.c false [(.bool false)]), none, []⟩])
  (.seq (.region false [5, 6, 7, 8, 16] [5, 6, 7, 8] [⟨(some 5), .move (.t 0), none, []⟩,
    ⟨(some 6), .move (.t 1), none, []⟩,
    ⟨(some 7), .call 377 [(.t 5), (.t 6)], none, []⟩,
    ⟨(some 8), .bin .geq (.t 7) (.c false [(.int .i64 0)]), none, []⟩,
    ⟨(some 4), .assign (.t 8), none, []⟩])
  .ret))⟩
/- impl.areNumbers$1 -/
def ir340 : FnIr := ⟨0, 3, 10, [(4, none)], [],
  (.seq (.region false [] [] [⟨(some 4), .assign (.c false [(.bool false)]), none, []⟩])
  (.seq (.region false [5, 6, 7, 8, 9, 18] [5, 6, 7, 8, 9] [⟨(some 5), .move (.t 0), none, []⟩,
    ⟨(some 6), .load false 1 (.t 1), none, []⟩,
    ⟨(some 7), .load false 1 (.t 2), none, []⟩,
    ⟨(some 8), .call 232 [(.t 5), (.t 6), (.t 7)], none, []⟩,
    ⟨(some 9), .un .not (.t 8), none, []⟩,
    ⟨(some 4), .assign (.t 9), none, []⟩])
  .ret))⟩
/- impl.areNumbers -/
def ir233 : FnIr := ⟨0, 3, 11, [(6, none)], [],
  (.seq (.region false [4, 5, 15, 16] [] [⟨(some 4), .box (.t 1), none, []⟩,
    ⟨(some 5), .box (.t 2), none, []⟩,
    ⟨(some 6), .assign (.c false [(.bool false)]), none, []⟩])
  (.seq (.region false [7, 8, 9, 10, 20] [7, 8, 9, 10] [⟨(some 7), .move (.t 0), none, []⟩,
    ⟨(some 8), .mkfn 340 [4, 5], none, []⟩,
    ⟨(some 9), .call 336 [(.t 7), (.t 8)], none, []⟩,
    ⟨(some 10), .un .not (.t 9), none, []⟩,
    ⟨(some 6), .assign (.t 10), none, []⟩])
  .ret))⟩
/- impl.Ext] -/
def ir351 : FnIr := ⟨0, 2, 19, [(4, none)], [],
  (.seq (.region false [] [] [⟨(some 4), .assign (.c false [(.int .i64 0)]), none, []⟩])
  (.seq (.seq (.region false [6, 7, 8] [6] [⟨(some 6), .move (.t 0), none, []⟩,
    ⟨(some 7), .len false (.t 6), none, []⟩,
    ⟨(some 8), .move (.c false [(.int .i64 0)]), none, []⟩])
  (.block 0 (.loop (.seq (.region false [9] [] [⟨(some 9), .bin .lss (.t 8) (.t 7), none, []⟩])
  (.seq (.cond (.t 9)
  .skip
  (.exit 0))
  (.seq (.block 1 (.seq (.region false [10] [10] [⟨(some 10), .move (.t 8), none, []⟩,
    ⟨(some 5), .assign (.t 10), none, []⟩])
  (.seq (.region false [11, 12, 13, 14, 15, 16, 35] [11, 12, 13, 14, 15] [⟨(some 11), .move (.t 1), none, []⟩,
    ⟨(some 12), .move (.t 0), none, []⟩,
    ⟨(some 13), .move (.t 5), none, []⟩,
    ⟨(some 14), .iaddr 2 (.t 12) (.t 13), none, []⟩,
    ⟨(some 15), .load true 2 (.t 14), none, []⟩,
    ⟨(some 16), .callv (.t 11) [(.t 15)], none, []⟩])
  (.cond (.t 16)
  (.seq (.region false [17] [17] [⟨(some 17), .move (.t 5), none, []⟩,
    ⟨(some 4), .assign (.t 17), none, []⟩])
  .ret)
  .skip))))
  (.region false [18] [18] [⟨(some 18), .bin .add (.t 8) (.c false [(.int .i64 1)]), none, []⟩,
    ⟨(some 8), .move (.t 18), none, []⟩])))))))
  (.seq (.region false [] [] [⟨(some 4), .assign (.c false [(.int .i64 (-1))]), none, []⟩])
  .ret)))⟩
/- impl.ExtOf$1 -/
def ir352 : FnIr := ⟨0, 2, 8, [(3, none)], [],
  (.seq (.region false [2, 10] [] [⟨(some 2), .box (.t 0), none, []⟩,
    ⟨(some 3), .assign (.c false [(.bool false)]), none, []⟩])
  (.seq (.region false [4, 5, 6, 7] [4, 5, 6, 7] [⟨(some 4), .faddr 0 (.t 2), none, []⟩,
    ⟨(some 5), .load false 1 (.t 4), none, []⟩,
    ⟨(some 6), .load false 1 (.t 1), none, []⟩,
    ⟨(some 7), .bin .eql (.t 5) (.t 6), none, []⟩,
    ⟨(some 3), .assign (.t 7), none, []⟩])
  .ret))⟩
/- impl.ExtOf -/
def ir290 : FnIr := ⟨0, 2, 8, [(4, none)], [],
  (.seq (.region false [3, 11] [] [⟨(some 3), .box (.t 1), none, []⟩,
    ⟨(some 4), .assign (.c false [(.int .i64 0)]), none, []⟩])
  (.seq (.region false [5, 6, 7, 15] [5, 6, 7] [⟨(some 5), .move (.t 0), none, []⟩,
    ⟨(some 6), .mkfn 352 [3], none, []⟩,
    ⟨(some 7), .call 351 [(.t 5), (.t 6)], none, []⟩,
    ⟨(some 4), .assign (.t 7), none, []⟩])
  .ret))⟩
/- impl.AreExts -/
def ir258 : FnIr := ⟨0, 1, 41, [(2, none)], [],
  (.seq (.region false [] [] [⟨(some 2), .assign (.c false [(.bool false)]), none, []⟩])
  (.seq (.seq (.region false [5, 6, 7] [] [⟨(some 5), .move (.t 0), none, []⟩,
    ⟨(some 6), .len false (.t 5), none, []⟩,
    ⟨(some 7), .move (.c false [(.int .i64 0)]), none, []⟩])
  (.block 0 (.loop (.seq (.region false [8] [] [⟨(some 8), .bin .lss (.t 7) (.t 6), none, []⟩])
  (.seq (.cond (.t 8)
  .skip
  (.exit 0))
  (.seq (.block 1 (.seq (.region false [9, 10, 11, 4, 45] [9, 10, 11] [⟨(some 9), .move (.t 7), none, []⟩,
    ⟨(some 10), .iaddr 2 (.t 5) (.t 7), none, []⟩,
    ⟨(some 11), .load true 2 (.t 10), none, []⟩,
    ⟨(some 4), .alloc [(.int .i64 0), (.row () [])], none, []⟩,
    ⟨(some 3), .assign (.t 9), none, []⟩,
    ⟨none, .store 2 (.t 4) (.t 11), none, []⟩])
  (.seq (.region true [12, 13, 14, 15, 16, 17, 18, 19, 20, 21, 22, 23, 24, 25, 26, 27, 28, 29, 30, 31, 32, 33, 34, 35, 36, 55, 63, 75] [12, 13, 14, 15, 16, 17, 18, 19, 20, 21, 22, 23, 24, 25, 26, 27, 28, 29, 30, 31, 32, 33, 34, 35] [⟨(some 12), .faddr 0 (.t 4), none, []⟩,
    ⟨(some 13), .load false 1 (.t 12), none, [0]⟩,
    ⟨(some 14), .call 232 [(.t 13), (.c false [(.int .i64 0)]), (.c false [(.int .i64 255)])], none, [1, 0]⟩,
    ⟨(some 15), .un .not (.t 14), none, [2, 1, 0]⟩,
    ⟨(some 16), .move (.t 15), none, [3, 2, 1, 0]⟩,
    ⟨(some 17), .move (.t 0), (some (16, false)), [4, 3, 2, 1, 0]⟩,
    ⟨(some 18), .move (.t 3), (some (16, false)), [4, 3, 2, 1, 0]⟩,
    ⟨(some 19), .slice 2 (.t 17) none (some (.t 18)), (some (16, false)), [5, 4, 3, 2, 1, 0, 6]⟩,
    ⟨(some 20), .faddr 0 (.t 4), (some (16, false)), [4, 3, 2, 1, 0]⟩,
    ⟨(some 21), .load false 1 (.t 20), (some (16, false)), [8, 4, 3, 2, 1, 0]⟩,
    ⟨(some 22), .call 290 [(.t 19), (.t 21)], (some (16, false)), [7, 5, 4, 3, 2, 1, 0, 6, 9, 8]⟩,
    ⟨(some 23), .bin .geq (.t 22) (.c false [(.int .i64 0)]), (some (16, false)), [10, 7, 5, 4, 3, 2, 1, 0, 6, 9, 8]⟩,
    ⟨(some 24), .pick (.t 16) (.c false [(.bool true)]) (.t 23), none, [4, 3, 2, 1, 0, 11, 10, 7, 5, 6, 9, 8]⟩,
    ⟨(some 25), .move (.t 24), none, [12, 4, 3, 2, 1, 0, 11, 10, 7, 5, 6, 9, 8]⟩,
    ⟨(some 26), .faddr 1 (.t 4), (some (25, false)), [13, 12, 4, 3, 2, 1, 0, 11, 10, 7, 5, 6, 9, 8]⟩,
    ⟨(some 27), .load false 1 (.t 26), (some (25, false)), [14, 13, 12, 4, 3, 2, 1, 0, 11, 10, 7, 5, 6, 9, 8]⟩,
    ⟨(some 28), .len false (.t 27), (some (25, false)), [15, 14, 13, 12, 4, 3, 2, 1, 0, 11, 10, 7, 5, 6, 9, 8]⟩,
    ⟨(some 29), .bin .gtr (.t 28) (.c false [(.int .i64 4)]), (some (25, false)), [16, 15, 14, 13, 12, 4, 3, 2, 1, 0, 11, 10, 7, 5, 6, 9, 8]⟩,
    ⟨(some 30), .pick (.t 25) (.c false [(.bool true)]) (.t 29), none, [13, 12, 4, 3, 2, 1, 0, 11, 10, 7, 5, 6, 9, 8, 17, 16, 15, 14]⟩,
    ⟨(some 31), .move (.t 30), none, [18, 13, 12, 4, 3, 2, 1, 0, 11, 10, 7, 5, 6, 9, 8, 17, 16, 15, 14]⟩,
    ⟨(some 32), .faddr 1 (.t 4), (some (31, false)), [19, 18, 13, 12, 4, 3, 2, 1, 0, 11, 10, 7, 5, 6, 9, 8, 17, 16, 15, 14]⟩,
    ⟨(some 33), .load false 1 (.t 32), (some (31, false)), [20, 19, 18, 13, 12, 4, 3, 2, 1, 0, 11, 10, 7, 5, 6, 9, 8, 17, 16, 15, 14]⟩,
    ⟨(some 34), .call 233 [(.t 33), (.c false [(.int .i64 0)]), (.c false [(.int .i64 255)])], (some (31, false)), [21, 20, 19, 18, 13, 12, 4, 3, 2, 1, 0, 11, 10, 7, 5, 6, 9, 8, 17, 16, 15, 14]⟩,
    ⟨(some 35), .un .not (.t 34), (some (31, false)), [22, 21, 20, 19, 18, 13, 12, 4, 3, 2, 1, 0, 11, 10, 7, 5, 6, 9, 8, 17, 16, 15, 14]⟩,
    ⟨(some 36), .pick (.t 31) (.c false [(.bool true)]) (.t 35), none, [19, 18, 13, 12, 4, 3, 2, 1, 0, 11, 10, 7, 5, 6, 9, 8, 17, 16, 15, 14, 23, 22, 21, 20]⟩])
  (.cond (.t 36)
  (.seq (.region false [] [] [⟨(some 2), .assign (.c false [(.bool false)]), none, []⟩])
  .ret)
  .skip))))
  (.region false [37] [37] [⟨(some 37), .bin .add (.t 7) (.c false [(.int .i64 1)]), none, []⟩,
    ⟨(some 7), .move (.t 37), none, []⟩])))))))
  (.seq (.region false [38, 39, 40] [38, 39, 40] [⟨(some 38), .move (.t 0), none, []⟩,
    ⟨(some 39), .len false (.t 38), none, []⟩,
    ⟨(some 40), .bin .leq (.t 39) (.c false [(.int .i64 6)]), none, []⟩,
    ⟨(some 2), .assign (.t 40), none, []⟩])
  .ret)))⟩
/- impl.IsAnswer -/
def ir118 : FnIr := ⟨0, 1, 11, [(2, none)], [],
  (.seq (.region false [1, 12] [] [⟨(some 1), .box (.t 0), none, []⟩,
    ⟨(some 2), .assign (.c false [(.bool false)]), none, []⟩])
  (.seq (.region false [3, 4, 5, 6, 7, 8, 9, 10, 16, 20] [3, 4, 5, 6, 7, 8, 9, 10] [⟨(some 3), .faddr 0 (.t 1), none, []⟩,
    ⟨(some 4), .load false 1 (.t 3), none, []⟩,
    ⟨(some 5), .call 232 [(.t 4), (.c false [(.int .i64 1)]), (.c false [(.int .i64 9)])], none, []⟩,
    ⟨(some 6), .move (.t 5), none, []⟩,
    ⟨(some 7), .faddr 1 (.t 1), (some (6, true)), []⟩,
    ⟨(some 8), .load false 1 (.t 7), (some (6, true)), []⟩,
    ⟨(some 9), .call 258 [(.t 8)], (some (6, true)), []⟩,
    ⟨(some 10), .pick (.t 6) (.t 9) (.c false [(.bool false)]), none, []⟩,
    ⟨(some 2), .assign (.t 10), none, []⟩])
  .ret))⟩
/- impl.EncodeExts -/
def ir294 : FnIr := ⟨0, 1, 32, [(2, none), (3, none)], [],
  (.seq (.region false [] [] [⟨(some 2), .assign (.c false [(.row () [])]), none, []⟩,
    ⟨(some 3), .assign (.c false [(.bool false)]), none, []⟩])
  (.seq (.seq (.region false [7, 8, 9, 40] [7, 8] [⟨(some 7), .move (.t 0), none, []⟩,
    ⟨(some 8), .call 258 [(.t 7)], none, []⟩,
    ⟨(some 9), .un .not (.t 8), none, []⟩])
  (.cond (.t 9)
  (.seq (.region false [] [] [⟨(some 2), .assign (.c false [(.row () [])]), none, []⟩,
    ⟨(some 3), .assign (.c false [(.bool false)]), none, []⟩])
  .ret)
  .skip))
  (.seq (.region false [10, 11, 12] [10, 11, 12] [⟨(some 10), .move (.t 0), none, []⟩,
    ⟨(some 11), .len false (.t 10), none, []⟩,
    ⟨(some 12), .bslice [(.int .i64 0)] 1 [(0, (.t 11))], none, []⟩,
    ⟨(some 4), .assign (.t 12), none, []⟩])
  (.seq (.seq (.region false [13, 14, 15] [] [⟨(some 13), .move (.t 0), none, []⟩,
    ⟨(some 14), .len false (.t 13), none, []⟩,
    ⟨(some 15), .move (.c false [(.int .i64 0)]), none, []⟩])
  (.block 0 (.loop (.seq (.region false [16] [] [⟨(some 16), .bin .lss (.t 15) (.t 14), none, []⟩])
  (.seq (.cond (.t 16)
  .skip
  (.exit 0))
  (.seq (.block 1 (.seq (.region false [17, 18, 6, 38] [17, 18] [⟨(some 17), .iaddr 2 (.t 13) (.t 15), none, []⟩,
    ⟨(some 18), .load true 2 (.t 17), none, []⟩,
    ⟨(some 6), .alloc [(.int .i64 0), (.row () [])], none, []⟩,
    ⟨none, .store 2 (.t 6) (.t 18), none, []⟩])
  (.region true [19, 20, 21, 22, 23, 24, 25, 26, 27, 28, 29] [19, 20, 21, 22, 23, 24, 25, 26, 27, 28, 29] [⟨(some 19), .move (.t 4), none, []⟩,
    ⟨(some 20), .faddr 0 (.t 6), none, []⟩,
    ⟨(some 21), .load false 1 (.t 20), none, [1]⟩,
    ⟨(some 22), .faddr 1 (.t 6), none, []⟩,
    ⟨(some 23), .load false 1 (.t 22), none, [3]⟩,
    ⟨(some 24), .len false (.t 23), none, [4, 3]⟩,
    ⟨(some 25), .bslice [(.int .i64 0)] 2 [(0, (.t 21)), (1, (.t 24))], none, [2, 1, 5, 4, 3]⟩,
    ⟨(some 26), .append 1 (.t 19) (.t 25), none, [0, 6, 2, 1, 5, 4, 3]⟩,
    ⟨(some 27), .faddr 1 (.t 6), none, []⟩,
    ⟨(some 28), .load false 1 (.t 27), none, [8]⟩,
    ⟨(some 29), .append 1 (.t 26) (.t 28), none, [7, 0, 6, 2, 1, 5, 4, 3, 9, 8]⟩,
    ⟨(some 4), .assign (.t 29), none, [10, 7, 0, 6, 2, 1, 5, 4, 3, 9, 8]⟩])))
  (.region false [30] [30] [⟨(some 30), .bin .add (.t 15) (.c false [(.int .i64 1)]), none, []⟩,
    ⟨(some 15), .move (.t 30), none, []⟩])))))))
  (.seq (.region false [31] [31] [⟨(some 31), .move (.t 4), none, []⟩,
    ⟨(some 2), .assign (.t 31), none, []⟩,
    ⟨(some 3), .assign (.c false [(.bool true)]), none, []⟩])
  .ret)))))⟩
/- impl.AnswerBytes -/
def ir152 : FnIr := ⟨0, 1, 19, [(2, none)], [],
  (.seq (.region false [1, 20] [] [⟨(some 1), .box (.t 0), none, []⟩,
    ⟨(some 2), .assign (.c false [(.row () [])]), none, []⟩])
  (.seq (.seq (.region false [5, 6, 7, 25] [5, 6] [⟨(some 5), .load true 2 (.t 1), none, []⟩,
    ⟨(some 6), .call 118 [(.t 5)], none, []⟩,
    ⟨(some 7), .un .not (.t 6), none, []⟩])
  (.cond (.t 7)
  (.seq (.region false [] [] [⟨(some 2), .assign (.c false [(.row () [])]), none, []⟩])
  .ret)
  .skip))
  (.seq (.region false [9, 10, 11, 8, 12, 13, 30] [9, 10, 11, 8, 12, 13] [⟨(some 9), .faddr 1 (.t 1), none, []⟩,
    ⟨(some 10), .load false 1 (.t 9), none, []⟩,
    ⟨(some 11), .call 294 [(.t 10)], none, []⟩,
    ⟨(some 8), .move (.t 11), none, []⟩,
    ⟨(some 12), .extract 0 (.t 8), none, []⟩,
    ⟨(some 13), .extract 1 (.t 8), none, []⟩,
    ⟨(some 3), .assign (.t 12), none, []⟩,
    ⟨(some 4), .assign (.t 13), none, []⟩])
  (.seq (.region false [14, 15, 16, 17, 18] [14, 15, 16, 17, 18] [⟨(some 14), .faddr 0 (.t 1), none, []⟩,
    ⟨(some 15), .load false 1 (.t 14), none, []⟩,
    ⟨(some 16), .bslice [(.int .i64 0)] 1 [(0, (.t 15))], none, []⟩,
    ⟨(some 17), .move (.t 3), none, []⟩,
    ⟨(some 18), .append 1 (.t 16) (.t 17), none, []⟩,
    ⟨(some 2), .assign (.t 18), none, []⟩])
  .ret))))⟩
/- laws.FnExactAnswerBytes -/
def ir28 : FnIr := ⟨0, 1, 69, [(2, none)], [],
  (.seq (.region false [1, 70] [] [⟨(some 1), .box (.t 0), none, []⟩,
    ⟨(some 2), .assign (.c false [(.bool false)]), none, []⟩])
  (.seq (.region false [] [] [⟨(some 3), .assign (.c false [(.int .i64 1048576)]), none, []⟩])
  (.seq (.region false [11, 12, 13, 82] [11, 12, 13] [⟨(some 11), .load true 2 (.t 1), none, []⟩,
    ⟨(some 12), .move (.t 3), none, []⟩,
    ⟨(some 13), .call 126 [(.t 11), (.t 12)], none, []⟩,
    ⟨(some 3), .assign (.t 13), none, []⟩])
  (.seq (.seq (.region false [14, 15] [14] [⟨(some 14), .move (.t 3), none, []⟩,
    ⟨(some 15), .bin .lss (.t 14) (.c false [(.int .i64 0)]), none, []⟩])
  (.cond (.t 15)
  (.seq (.region false [] [] [⟨(some 2), .assign (.c false [(.bool true)]), none, []⟩])
  .ret)
  .skip))
  (.seq (.region false [16, 17, 18, 86, 87] [16, 17, 18] [⟨(some 16), .load true 2 (.t 1), none, []⟩,
    ⟨(some 17), .call 128 [(.t 16)], none, []⟩,
    ⟨(some 18), .call 151 [(.t 17)], none, []⟩,
    ⟨(some 4), .assign (.t 18), none, []⟩])
  (.seq (.region false [19, 20, 5, 89, 74] [19, 20] [⟨(some 19), .load true 2 (.t 1), none, []⟩,
    ⟨(some 20), .call 128 [(.t 19)], none, []⟩,
    ⟨(some 5), .alloc [(.int .i64 0), (.row () [])], none, []⟩,
    ⟨none, .store 2 (.t 5) (.t 20), none, []⟩])
  (.seq (.region false [21, 22, 91] [21, 22] [⟨(some 21), .load true 2 (.t 5), none, []⟩,
    ⟨(some 22), .call 152 [(.t 21)], none, []⟩,
    ⟨(some 6), .assign (.t 22), none, []⟩])
  (.seq (.seq (.region false [23, 24, 25, 26, 94] [23, 24, 25] [⟨(some 23), .move (.t 6), none, []⟩,
    ⟨(some 24), .move (.t 4), none, []⟩,
    ⟨(some 25), .call 79 [(.t 23), (.t 24)], none, []⟩,
    ⟨(some 26), .un .not (.t 25), none, []⟩])
  (.cond (.t 26)
  (.seq (.region false [] [] [⟨(some 2), .assign (.c false [(.bool false)]), none, []⟩])
  .ret)
  .skip))
  (.seq (.seq (.region true [27, 28, 29, 30, 31, 98, 99] [27, 28, 29, 30] [⟨(some 27), .load true 2 (.t 5), none, []⟩,
    ⟨(some 28), .load true 2 (.t 1), none, []⟩,
    ⟨(some 29), .call 128 [(.t 28)], none, [1]⟩,
    ⟨(some 30), .call 129 [(.t 27), (.t 29)], none, [0, 2, 1]⟩,
    ⟨(some 31), .un .not (.t 30), none, [3, 0, 2, 1]⟩])
  (.cond (.t 31)
  (.seq (.region false [] [] [⟨(some 2), .assign (.c false [(.bool false)]), none, []⟩])
  .ret)
  .skip))
  (.seq (.region false [] [] [⟨(some 7), .assign (.c false [(.int .i64 1)]), none, []⟩])
  (.seq (.region false [32, 33, 34, 103] [32, 33, 34] [⟨(some 32), .load true 2 (.t 5), none, []⟩,
    ⟨(some 33), .move (.t 7), none, []⟩,
    ⟨(some 34), .call 1153 [(.t 32), (.t 33)], none, []⟩,
    ⟨(some 7), .assign (.t 34), none, []⟩])
  (.seq (.seq (.region false [35, 36, 37, 38, 39, 40, 41, 42, 109] [35, 36, 37, 38, 39, 40, 41] [⟨(some 35), .move (.t 7), none, []⟩,
    ⟨(some 36), .bin .lss (.t 35) (.c false [(.int .i64 0)]), none, []⟩,
    ⟨(some 37), .move (.t 36), none, []⟩,
    ⟨(some 38), .move (.t 6), (some (37, false)), []⟩,
    ⟨(some 39), .move (.t 4), (some (37, false)), []⟩,
    ⟨(some 40), .call 79 [(.t 38), (.t 39)], (some (37, false)), []⟩,
    ⟨(some 41), .un .not (.t 40), (some (37, false)), []⟩,
    ⟨(some 42), .pick (.t 37) (.c false [(.bool true)]) (.t 41), none, []⟩])
  (.cond (.t 42)
  (.seq (.region false [] [] [⟨(some 2), .assign (.c false [(.bool false)]), none, []⟩])
  .ret)
  .skip))
  (.seq (.region false [] [] [⟨(some 8), .assign (.c false [(.int .i64 1)]), none, []⟩])
  (.seq (.region false [43, 44, 45, 114] [43, 44, 45] [⟨(some 43), .move (.t 6), none, []⟩,
    ⟨(some 44), .move (.t 8), none, []⟩,
    ⟨(some 45), .call 1080 [(.t 43), (.t 44)], none, []⟩,
    ⟨(some 8), .assign (.t 45), none, []⟩])
  (.seq (.region false [] [] [⟨(some 9), .assign (.c false [(.int .i64 1)]), none, []⟩])
  (.seq (.region false [46, 47, 48, 117] [46, 47, 48] [⟨(some 46), .move (.t 6), none, []⟩,
    ⟨(some 47), .move (.t 9), none, []⟩,
    ⟨(some 48), .call 125 [(.t 46), (.t 47)], none, []⟩,
    ⟨(some 9), .assign (.t 48), none, []⟩])
  (.seq (.seq (.region false [49, 50] [49] [⟨(some 49), .move (.t 9), none, []⟩,
    ⟨(some 50), .bin .lss (.t 49) (.c false [(.int .i64 0)]), none, []⟩])
  (.cond (.t 50)
  (.seq (.region false [] [] [⟨(some 2), .assign (.c false [(.bool false)]), none, []⟩])
  .ret)
  .skip))
  (.seq (.seq (.region false [51, 52, 53] [51, 52] [⟨(some 51), .move (.t 9), none, []⟩,
    ⟨(some 52), .move (.t 8), none, []⟩,
    ⟨(some 53), .bin .neq (.t 51) (.t 52), none, []⟩])
  (.cond (.t 53)
  (.seq (.region false [] [] [⟨(some 2), .assign (.c false [(.bool false)]), none, []⟩])
  .ret)
  .skip))
  (.seq (.region false [54, 55, 56, 124, 125] [54, 55, 56] [⟨(some 54), .load true 2 (.t 1), none, []⟩,
    ⟨(some 55), .call 128 [(.t 54)], none, []⟩,
    ⟨(some 56), .call 152 [(.t 55)], none, []⟩,
    ⟨(some 10), .assign (.t 56), none, []⟩])
  (.seq (.seq (.region false [57, 58, 59, 60, 128] [57, 58, 59] [⟨(some 57), .move (.t 10), none, []⟩,
    ⟨(some 58), .move (.t 4), none, []⟩,
    ⟨(some 59), .call 79 [(.t 57), (.t 58)], none, []⟩,
    ⟨(some 60), .un .not (.t 59), none, []⟩])
  (.cond (.t 60)
  (.seq (.region false [] [] [⟨(some 2), .assign (.c false [(.bool false)]), none, []⟩])
  .ret)
  .skip))
  (.seq (.region false [] [] [⟨(some 9), .assign (.c false [(.int .i64 1)]), none, []⟩])
  (.seq (.region false [61, 62, 63, 132] [61, 62, 63] [⟨(some 61), .move (.t 6), none, []⟩,
    ⟨(some 62), .move (.t 9), none, []⟩,
    ⟨(some 63), .call 125 [(.t 61), (.t 62)], none, []⟩,
    ⟨(some 9), .assign (.t 63), none, []⟩])
  (.seq (.seq (.region false [64, 65] [64] [⟨(some 64), .move (.t 9), none, []⟩,
    ⟨(some 65), .bin .lss (.t 64) (.c false [(.int .i64 0)]), none, []⟩])
  (.cond (.t 65)
  (.seq (.region false [] [] [⟨(some 2), .assign (.c false [(.bool false)]), none, []⟩])
  .ret)
  .skip))
  (.seq (.seq (.region false [66, 67, 68] [66, 67] [⟨(some 66), .move (.t 9), none, []⟩,
    ⟨(some 67), .move (.t 8), none, []⟩,
    ⟨(some 68), .bin .neq (.t 66) (.t 67), none, []⟩])
  (.cond (.t 68)
  (.seq (.region false [] [] [⟨(some 2), .assign (.c false [(.bool false)]), none, []⟩])
  .ret)
  .skip))
  (.seq (.region false [] [] [⟨(some 2), .assign (.c false [(.bool true)]), none, []⟩])
  .ret)))))))))))))))))))))))))⟩
def tbl : List (Nat × FnIr) := [(1080, ir1080), (1201, ir1201), (1153, ir1153), (125, ir125), (227, ir227), (319, ir319), (197, ir197), (126, ir126), (76, ir76), (320, ir320), (199, ir199), (128, ir128), (79, ir79), (321, ir321), (200, ir200), (129, ir129), (230, ir230), (231, ir231), (286, ir286), (271, ir271), (127, ir127), (293, ir293), (151, ir151), (232, ir232), (377, ir377), (336, ir336), (340, ir340), (233, ir233), (351, ir351), (352, ir352), (290, ir290), (258, ir258), (118, ir118), (294, ir294), (152, ir152), (28, ir28)]
def Tb (g : Nat) : Option FnIr := tbl.lookup g
theorem tb_1080 : Tb 1080 = some ir1080 := rfl
theorem tb_1201 : Tb 1201 = some ir1201 := rfl
theorem tb_1153 : Tb 1153 = some ir1153 := rfl
theorem tb_125 : Tb 125 = some ir125 := rfl
theorem tb_227 : Tb 227 = some ir227 := rfl
theorem tb_319 : Tb 319 = some ir319 := rfl
theorem tb_197 : Tb 197 = some ir197 := rfl
theorem tb_126 : Tb 126 = some ir126 := rfl
theorem tb_76 : Tb 76 = some ir76 := rfl
theorem tb_320 : Tb 320 = some ir320 := rfl
theorem tb_199 : Tb 199 = some ir199 := rfl
theorem tb_128 : Tb 128 = some ir128 := rfl
theorem tb_79 : Tb 79 = some ir79 := rfl
theorem tb_321 : Tb 321 = some ir321 := rfl
theorem tb_200 : Tb 200 = some ir200 := rfl
theorem tb_129 : Tb 129 = some ir129 := rfl
theorem tb_230 : Tb 230 = some ir230 := rfl
theorem tb_231 : Tb 231 = some ir231 := rfl
theorem tb_286 : Tb 286 = some ir286 := rfl
theorem tb_271 : Tb 271 = some ir271 := rfl
theorem tb_127 : Tb 127 = some ir127 := rfl
theorem tb_293 : Tb 293 = some ir293 := rfl
theorem tb_151 : Tb 151 = some ir151 := rfl
theorem tb_232 : Tb 232 = some ir232 := rfl
theorem tb_377 : Tb 377 = some ir377 := rfl
theorem tb_336 : Tb 336 = some ir336 := rfl
theorem tb_340 : Tb 340 = some ir340 := rfl
theorem tb_233 : Tb 233 = some ir233 := rfl
theorem tb_351 : Tb 351 = some ir351 := rfl
theorem tb_352 : Tb 352 = some ir352 := rfl
theorem tb_290 : Tb 290 = some ir290 := rfl
theorem tb_258 : Tb 258 = some ir258 := rfl
theorem tb_118 : Tb 118 = some ir118 := rfl
theorem tb_294 : Tb 294 = some ir294 := rfl
theorem tb_152 : Tb 152 = some ir152 := rfl
theorem tb_28 : Tb 28 = some ir28 := rfl
end Go.Vm
