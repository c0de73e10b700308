/- The code of the functions that the law reaches, as data. -/
import Derived.Test.YtplnbpiaacohnaaVmF
set_option maxHeartbeats 4000000
set_option linter.unusedVariables false
set_option linter.unusedSimpArgs false
namespace Go.Vm
/- laws.szIntS -/
def ir227 : FnIr := ⟨0, 2, 12, [(4, none)], [],
  (.seq (.region false [] [] [⟨(some 4), .assign (.c false [(.int .i64 0)]), none, []⟩])
  (.seq (.region false [5, 6, 7, 8] [5, 6, 7, 8] [⟨(some 5), .move (.t 1), none, []⟩,
    ⟨(some 6), .move (.t 0), none, []⟩,
    ⟨(some 7), .len false (.t 6), none, []⟩,
    ⟨(some 8), .bin .sub (.t 5) (.t 7), none, []⟩,
    ⟨(some 1), .assign (.t 8), none, []⟩])
  (.seq (.seq (.region false [9, 10] [9] [⟨(some 9), .move (.t 1), none, []⟩,
    ⟨(some 10), .bin .lss (.t 9) (.c false [(.int .i64 0)]), none, []⟩])
  (.cond (.t 10)
  (.seq (.region false [] [] [⟨(some 4), .assign (.c false [(.int .i64 (-1))]), none, []⟩])
  .ret)
  .skip))
  (.seq (.region false [11] [11] [⟨(some 11), .move (.t 1), none, []⟩,
    ⟨(some 4), .assign (.t 11), none, []⟩])
  .ret))))⟩
/- laws.szBox -/
def ir56 : FnIr := ⟨0, 2, 18, [(4, none)], [],
  (.seq (.region false [2, 20] [] [⟨(some 2), .box (.t 0), none, []⟩,
    ⟨(some 4), .assign (.c false [(.int .i64 0)]), none, []⟩])
  (.seq (.region false [5, 6, 7, 8, 26] [5, 6, 7, 8] [⟨(some 5), .faddr 1 (.t 2), none, []⟩,
    ⟨(some 6), .load false 1 (.t 5), none, []⟩,
    ⟨(some 7), .move (.t 1), none, []⟩,
    ⟨(some 8), .call 227 [(.t 6), (.t 7)], none, []⟩,
    ⟨(some 1), .assign (.t 8), none, []⟩])
  (.seq (.seq (.region false [9, 10] [9] [⟨(some 9), .move (.t 1), none, []⟩,
    ⟨(some 10), .bin .lss (.t 9) (.c false [(.int .i64 0)]), none, []⟩])
  (.cond (.t 10)
  (.seq (.region false [] [] [⟨(some 4), .assign (.c false [(.int .i64 (-1))]), none, []⟩])
  .ret)
  .skip))
  (.seq (.region false [11, 12, 13, 14, 32] [11, 12, 13, 14] [⟨(some 11), .faddr 2 (.t 2), none, []⟩,
    ⟨(some 12), .load false 1 (.t 11), none, []⟩,
    ⟨(some 13), .move (.t 1), none, []⟩,
    ⟨(some 14), .call 227 [(.t 12), (.t 13)], none, []⟩,
    ⟨(some 1), .assign (.t 14), none, []⟩])
  (.seq (.seq (.region false [15, 16] [15] [⟨(some 15), .move (.t 1), none, []⟩,
    ⟨(some 16), .bin .lss (.t 15) (.c false [(.int .i64 0)]), none, []⟩])
  (.cond (.t 16)
  (.seq (.region false [] [] [⟨(some 4), .assign (.c false [(.int .i64 (-1))]), none, []⟩])
  .ret)
  .skip))
  (.seq (.region false [17] [17] [⟨(some 17), .move (.t 1), none, []⟩,
    ⟨(some 4), .assign (.t 17), none, []⟩])
  .ret))))))⟩
/- laws.szBoxS -/
def ir101 : FnIr := ⟨0, 2, 27, [(4, none)], [],
  (.seq (.region false [] [] [⟨(some 4), .assign (.c false [(.int .i64 0)]), none, []⟩])
  (.seq (.region false [6, 7, 8, 9] [6, 7, 8, 9] [⟨(some 6), .move (.t 1), none, []⟩,
    ⟨(some 7), .move (.t 0), none, []⟩,
    ⟨(some 8), .len false (.t 7), none, []⟩,
    ⟨(some 9), .bin .sub (.t 6) (.t 8), none, []⟩,
    ⟨(some 1), .assign (.t 9), none, []⟩])
  (.seq (.seq (.region false [10, 11] [10] [⟨(some 10), .move (.t 1), none, []⟩,
    ⟨(some 11), .bin .lss (.t 10) (.c false [(.int .i64 0)]), none, []⟩])
  (.cond (.t 11)
  (.seq (.region false [] [] [⟨(some 4), .assign (.c false [(.int .i64 (-1))]), none, []⟩])
  .ret)
  .skip))
  (.seq (.seq (.region false [] [] [⟨(some 5), .assign (.c false [(.int .i64 0)]), none, []⟩])
  (.block 0 (.loop (.seq (.seq (.region false [12, 13, 14, 15] [12, 13, 14] [⟨(some 12), .move (.t 5), none, []⟩,
    ⟨(some 13), .move (.t 0), none, []⟩,
    ⟨(some 14), .len false (.t 13), none, []⟩,
    ⟨(some 15), .bin .lss (.t 12) (.t 14), none, []⟩])
  (.cond (.t 15)
  .skip
  (.exit 0)))
  (.seq (.block 1 (.seq (.region false [18, 19, 20, 21, 22, 23, 50] [18, 19, 20, 21, 22, 23] [⟨(some 18), .move (.t 0), none, []⟩,
    ⟨(some 19), .move (.t 5), none, []⟩,
    ⟨(some 20), .iaddr 4 (.t 18) (.t 19), none, []⟩,
    ⟨(some 21), .load true 4 (.t 20), none, []⟩,
    ⟨(some 22), .move (.t 1), none, []⟩,
    ⟨(some 23), .call 56 [(.t 21), (.t 22)], none, []⟩,
    ⟨(some 1), .assign (.t 23), none, []⟩])
  (.seq (.region false [24, 25] [24] [⟨(some 24), .move (.t 1), none, []⟩,
    ⟨(some 25), .bin .lss (.t 24) (.c false [(.int .i64 0)]), none, []⟩])
  (.cond (.t 25)
  (.seq (.region false [] [] [⟨(some 4), .assign (.c false [(.int .i64 (-1))]), none, []⟩])
  .ret)
  .skip))))
  (.region false [16, 17] [16, 17] [⟨(some 16), .move (.t 5), none, []⟩,
    ⟨(some 17), .bin .add (.t 16) (.c false [(.int .i64 1)]), none, []⟩,
    ⟨(some 5), .assign (.t 17), none, []⟩]))))))
  (.seq (.region false [26] [26] [⟨(some 26), .move (.t 1), none, []⟩,
    ⟨(some 4), .assign (.t 26), none, []⟩])
  .ret)))))⟩
/- spec.l1In -/
def ir230 : FnIr := ⟨0, 3, 15, [(6, none)], [],
  (.seq (.region false [] [] [⟨(some 6), .assign (.c false [(.bool false)]), none, []⟩])
  (.seq (.region false [7, 8, 9, 10, 11, 12, 13, 14] [7, 8, 9, 10, 11, 12, 13, 14] [⟨(some 7), .move (.t 0), none, []⟩,
    ⟨(some 8), .move (.t 1), none, []⟩,
    ⟨(some 9), .bin .geq (.t 7) (.t 8), none, []⟩,
    ⟨(some 10), .move (.t 9), none, []⟩,
    ⟨(some 11), .move (.t 0), (some (10, true)), []⟩,
    ⟨(some 12), .move (.t 2), (some (10, true)), []⟩,
    ⟨(some 13), .bin .leq (.t 11) (.t 12), (some (10, true)), []⟩,
    ⟨(some 14), .pick (.t 10) (.t 13) (.c false [(.bool false)]), none, []⟩,
    ⟨(some 6), .assign (.t 14), none, []⟩])
  .ret))⟩
/- spec.l9Byte -/
def ir231 : FnIr := ⟨0, 1, 16, [(2, none)], [],
  (.seq (.region false [] [] [⟨(some 2), .assign (.c false [(.bool false)]), none, []⟩])
  (.seq (.seq (.region false [] [] [⟨(some 3), .assign (.c false [(.int .i64 0)]), none, []⟩])
  (.block 0 (.loop (.seq (.seq (.region false [4, 5, 6, 7] [4, 5, 6] [⟨(some 4), .move (.t 3), none, []⟩,
    ⟨(some 5), .move (.t 0), none, []⟩,
    ⟨(some 6), .len false (.t 5), none, []⟩,
    ⟨(some 7), .bin .lss (.t 4) (.t 6), none, []⟩])
  (.cond (.t 7)
  .skip
  (.exit 0)))
  (.seq (.block 1 (.seq (.region false [10, 11, 12, 13, 14, 15, 30] [10, 11, 12, 13, 14] [⟨(some 10), .move (.t 0), none, []⟩,
    ⟨(some 11), .move (.t 3), none, []⟩,
    ⟨(some 12), .iaddr 1 (.t 10) (.t 11), none, []⟩,
    ⟨(some 13), .load false 1 (.t 12), none, []⟩,
    ⟨(some 14), .call 230 [(.t 13), (.c false [(.int .i64 0)]), (.c false [(.int .i64 255)])], none, []⟩,
    ⟨(some 15), .un .not (.t 14), none, []⟩])
  (.cond (.t 15)
  (.seq (.region false [] [] [⟨(some 2), .assign (.c false [(.bool false)]), none, []⟩])
  .ret)
  .skip)))
  (.region false [8, 9] [8, 9] [⟨(some 8), .move (.t 3), none, []⟩,
    ⟨(some 9), .bin .add (.t 8) (.c false [(.int .i64 1)]), none, []⟩,
    ⟨(some 3), .assign (.t 9), none, []⟩]))))))
  (.seq (.region false [] [] [⟨(some 2), .assign (.c false [(.bool true)]), none, []⟩])
  .ret)))⟩
/- spec.IsBox -/
def ir68 : FnIr := ⟨0, 1, 28, [(2, none)], [],
  (.seq (.region false [1, 29] [] [⟨(some 1), .box (.t 0), none, []⟩,
    ⟨(some 2), .assign (.c false [(.bool false)]), none, []⟩])
  (.seq (.region false [3, 4, 5, 6, 7, 8, 9, 10, 11, 12, 13, 14, 15, 16, 17, 18, 19, 20, 21, 22, 23, 24, 25, 26, 27, 33, 49, 54] [3, 4, 5, 6, 7, 8, 9, 10, 11, 12, 13, 14, 15, 16, 17, 18, 19, 20, 21, 22, 23, 24, 25, 26, 27] [⟨(some 3), .faddr 0 (.t 1), none, []⟩,
    ⟨(some 4), .load false 1 (.t 3), none, []⟩,
    ⟨(some 5), .call 230 [(.t 4), (.c false [(.int .i64 0)]), (.c false [(.int .i64 9)])], none, []⟩,
    ⟨(some 6), .move (.t 5), none, []⟩,
    ⟨(some 7), .faddr 1 (.t 1), (some (6, true)), []⟩,
    ⟨(some 8), .load false 1 (.t 7), (some (6, true)), []⟩,
    ⟨(some 9), .len false (.t 8), (some (6, true)), []⟩,
    ⟨(some 10), .bin .leq (.t 9) (.c false [(.int .i64 6)]), (some (6, true)), []⟩,
    ⟨(some 11), .pick (.t 6) (.t 10) (.c false [(.bool false)]), none, []⟩,
    ⟨(some 12), .move (.t 11), none, []⟩,
    ⟨(some 13), .faddr 2 (.t 1), (some (12, true)), []⟩,
    ⟨(some 14), .load false 1 (.t 13), (some (12, true)), []⟩,
    ⟨(some 15), .len false (.t 14), (some (12, true)), []⟩,
    ⟨(some 16), .bin .leq (.t 15) (.c false [(.int .i64 6)]), (some (12, true)), []⟩,
    ⟨(some 17), .pick (.t 12) (.t 16) (.c false [(.bool false)]), none, []⟩,
    ⟨(some 18), .move (.t 17), none, []⟩,
    ⟨(some 19), .faddr 1 (.t 1), (some (18, true)), []⟩,
    ⟨(some 20), .load false 1 (.t 19), (some (18, true)), []⟩,
    ⟨(some 21), .call 231 [(.t 20)], (some (18, true)), []⟩,
    ⟨(some 22), .pick (.t 18) (.t 21) (.c false [(.bool false)]), none, []⟩,
    ⟨(some 23), .move (.t 22), none, []⟩,
    ⟨(some 24), .faddr 2 (.t 1), (some (23, true)), []⟩,
    ⟨(some 25), .load false 1 (.t 24), (some (23, true)), []⟩,
    ⟨(some 26), .call 231 [(.t 25)], (some (23, true)), []⟩,
    ⟨(some 27), .pick (.t 23) (.t 26) (.c false [(.bool false)]), none, []⟩,
    ⟨(some 2), .assign (.t 27), none, []⟩])
  .ret))⟩
/- spec.IsClear -/
def ir57 : FnIr := ⟨0, 1, 27, [(2, none)], [],
  (.seq (.region false [1, 28] [] [⟨(some 1), .box (.t 0), none, []⟩,
    ⟨(some 2), .assign (.c false [(.bool false)]), none, []⟩])
  (.seq (.region false [3, 4, 5, 6, 7, 8, 9, 10, 11, 12, 13, 14, 15, 16, 17, 18, 19, 20, 21, 22, 23, 24, 25, 26, 31] [3, 4, 5, 6, 7, 8, 9, 10, 11, 12, 13, 14, 15, 16, 17, 18, 19, 20, 21, 22, 23, 24, 25, 26] [⟨(some 3), .load true 4 (.t 1), none, []⟩,
    ⟨(some 4), .call 68 [(.t 3)], none, []⟩,
    ⟨(some 5), .move (.t 4), none, []⟩,
    ⟨(some 6), .faddr 0 (.t 1), (some (5, true)), []⟩,
    ⟨(some 7), .load false 1 (.t 6), (some (5, true)), []⟩,
    ⟨(some 8), .bin .eql (.t 7) (.c false [(.int .i64 0)]), (some (5, true)), []⟩,
    ⟨(some 9), .pick (.t 5) (.t 8) (.c false [(.bool false)]), none, []⟩,
    ⟨(some 10), .move (.t 9), none, []⟩,
    ⟨(some 11), .faddr 1 (.t 1), (some (10, true)), []⟩,
    ⟨(some 12), .load false 1 (.t 11), (some (10, true)), []⟩,
    ⟨(some 13), .len false (.t 12), (some (10, true)), []⟩,
    ⟨(some 14), .bin .eql (.t 13) (.c false [(.int .i64 0)]), (some (10, true)), []⟩,
    ⟨(some 15), .pick (.t 10) (.t 14) (.c false [(.bool false)]), none, []⟩,
    ⟨(some 16), .move (.t 15), none, []⟩,
    ⟨(some 17), .faddr 2 (.t 1), (some (16, true)), []⟩,
    ⟨(some 18), .load false 1 (.t 17), (some (16, true)), []⟩,
    ⟨(some 19), .len false (.t 18), (some (16, true)), []⟩,
    ⟨(some 20), .bin .eql (.t 19) (.c false [(.int .i64 0)]), (some (16, true)), []⟩,
    ⟨(some 21), .pick (.t 16) (.t 20) (.c false [(.bool false)]), none, []⟩,
    ⟨(some 22), .move (.t 21), none, []⟩,
    ⟨(some 23), .faddr 3 (.t 1), (some (22, true)), []⟩,
    ⟨(some 24), .load false 1 (.t 23), (some (22, true)), []⟩,
    ⟨(some 25), .un .not (.t 24), (some (22, true)), []⟩,
    ⟨(some 26), .pick (.t 22) (.t 25) (.c false [(.bool false)]), none, []⟩,
    ⟨(some 2), .assign (.t 26), none, []⟩])
  .ret))⟩
/- spec.IsClearPath -/
def ir102 : FnIr := ⟨0, 1, 19, [(2, none)], [],
  (.seq (.region false [] [] [⟨(some 2), .assign (.c false [(.bool false)]), none, []⟩])
  (.seq (.seq (.region false [] [] [⟨(some 3), .assign (.c false [(.int .i64 0)]), none, []⟩])
  (.block 0 (.loop (.seq (.seq (.region false [4, 5, 6, 7] [4, 5, 6] [⟨(some 4), .move (.t 3), none, []⟩,
    ⟨(some 5), .move (.t 0), none, []⟩,
    ⟨(some 6), .len false (.t 5), none, []⟩,
    ⟨(some 7), .bin .lss (.t 4) (.t 6), none, []⟩])
  (.cond (.t 7)
  .skip
  (.exit 0)))
  (.seq (.block 1 (.seq (.region false [10, 11, 12, 13, 14, 15, 33] [10, 11, 12, 13, 14] [⟨(some 10), .move (.t 0), none, []⟩,
    ⟨(some 11), .move (.t 3), none, []⟩,
    ⟨(some 12), .iaddr 4 (.t 10) (.t 11), none, []⟩,
    ⟨(some 13), .load true 4 (.t 12), none, []⟩,
    ⟨(some 14), .call 57 [(.t 13)], none, []⟩,
    ⟨(some 15), .un .not (.t 14), none, []⟩])
  (.cond (.t 15)
  (.seq (.region false [] [] [⟨(some 2), .assign (.c false [(.bool false)]), none, []⟩])
  .ret)
  .skip)))
  (.region false [8, 9] [8, 9] [⟨(some 8), .move (.t 3), none, []⟩,
    ⟨(some 9), .bin .add (.t 8) (.c false [(.int .i64 1)]), none, []⟩,
    ⟨(some 3), .assign (.t 9), none, []⟩]))))))
  (.seq (.region false [16, 17, 18] [16, 17, 18] [⟨(some 16), .move (.t 0), none, []⟩,
    ⟨(some 17), .len false (.t 16), none, []⟩,
    ⟨(some 18), .bin .leq (.t 17) (.c false [(.int .i64 4)]), none, []⟩,
    ⟨(some 2), .assign (.t 18), none, []⟩])
  .ret)))⟩
/- laws.toIntS -/
def ir76 : FnIr := ⟨0, 1, 22, [(2, none)], [],
  (.seq (.region false [] [] [⟨(some 2), .assign (.c false [(.row () [])]), none, []⟩])
  (.seq (.region false [5, 6, 7] [5, 6, 7] [⟨(some 5), .move (.t 0), none, []⟩,
    ⟨(some 6), .len false (.t 5), none, []⟩,
    ⟨(some 7), .mkslice [(.int .i64 0)] (.t 6) (.t 6), none, []⟩,
    ⟨(some 3), .assign (.t 7), none, []⟩])
  (.seq (.seq (.region false [] [] [⟨(some 4), .assign (.c false [(.int .i64 0)]), none, []⟩])
  (.block 0 (.loop (.seq (.seq (.region false [8, 9, 10, 11] [8, 9, 10] [⟨(some 8), .move (.t 4), none, []⟩,
    ⟨(some 9), .move (.t 0), none, []⟩,
    ⟨(some 10), .len false (.t 9), none, []⟩,
    ⟨(some 11), .bin .lss (.t 8) (.t 10), none, []⟩])
  (.cond (.t 11)
  .skip
  (.exit 0)))
  (.seq (.block 1 (.region false [14, 15, 16, 17, 18, 19, 20] [14, 15, 16, 17, 18, 19, 20] [⟨(some 14), .move (.t 3), none, []⟩,
    ⟨(some 15), .move (.t 4), none, []⟩,
    ⟨(some 16), .move (.t 0), none, []⟩,
    ⟨(some 17), .move (.t 4), none, []⟩,
    ⟨(some 18), .iaddr 1 (.t 16) (.t 17), none, []⟩,
    ⟨(some 19), .load false 1 (.t 18), none, []⟩,
    ⟨(some 20), .iaddr 1 (.t 14) (.t 15), none, []⟩,
    ⟨none, .rstore 1 (.t 20) (.t 19), none, []⟩]))
  (.region false [12, 13] [12, 13] [⟨(some 12), .move (.t 4), none, []⟩,
    ⟨(some 13), .bin .add (.t 12) (.c false [(.int .i64 1)]), none, []⟩,
    ⟨(some 4), .assign (.t 13), none, []⟩]))))))
  (.seq (.region false [21] [21] [⟨(some 21), .move (.t 3), none, []⟩,
    ⟨(some 2), .assign (.t 21), none, []⟩])
  .ret))))⟩
/- laws.toBox -/
def ir58 : FnIr := ⟨0, 1, 19, [(2, (some (true, 4)))], [],
  (.seq (.region false [1, 2, 20, 21] [] [⟨(some 1), .box (.t 0), none, []⟩,
    ⟨(some 2), .alloc [(.int .i64 0), (.row () []), (.row () []), (.bool false)], none, []⟩])
  (.seq (.region false [3, 22] [] [⟨(some 3), .alloc [(.int .i64 0), (.row () []), (.row () []), (.bool false)], none, []⟩])
  (.seq (.region false [4, 5, 6] [4, 5, 6] [⟨(some 4), .faddr 0 (.t 1), none, []⟩,
    ⟨(some 5), .load false 1 (.t 4), none, []⟩,
    ⟨(some 6), .faddr 0 (.t 3), none, []⟩,
    ⟨none, .store 1 (.t 6) (.t 5), none, []⟩])
  (.seq (.region false [7, 8, 9, 10, 28] [7, 8, 9, 10] [⟨(some 7), .faddr 1 (.t 1), none, []⟩,
    ⟨(some 8), .load false 1 (.t 7), none, []⟩,
    ⟨(some 9), .call 76 [(.t 8)], none, []⟩,
    ⟨(some 10), .faddr 1 (.t 3), none, []⟩,
    ⟨none, .store 1 (.t 10) (.t 9), none, []⟩])
  (.seq (.region false [11, 12, 13, 14, 32] [11, 12, 13, 14] [⟨(some 11), .faddr 2 (.t 1), none, []⟩,
    ⟨(some 12), .load false 1 (.t 11), none, []⟩,
    ⟨(some 13), .call 76 [(.t 12)], none, []⟩,
    ⟨(some 14), .faddr 2 (.t 3), none, []⟩,
    ⟨none, .store 1 (.t 14) (.t 13), none, []⟩])
  (.seq (.region false [15, 16, 17] [15, 16, 17] [⟨(some 15), .faddr 3 (.t 1), none, []⟩,
    ⟨(some 16), .load false 1 (.t 15), none, []⟩,
    ⟨(some 17), .faddr 3 (.t 3), none, []⟩,
    ⟨none, .store 1 (.t 17) (.t 16), none, []⟩])
  (.seq (.region false [18] [18] [⟨(some 18), .load true 4 (.t 3), none, []⟩,
    ⟨none, .store 4 (.t 2) (.t 18), none, []⟩])
  .ret)))))))⟩
/- laws.toBoxS -/
def ir103 : FnIr := ⟨0, 1, 23, [(2, none)], [],
  (.seq (.region false [] [] [⟨(some 2), .assign (.c false [(.row () [])]), none, []⟩])
  (.seq (.region false [5, 6, 7] [5, 6, 7] [⟨(some 5), .move (.t 0), none, []⟩,
    ⟨(some 6), .len false (.t 5), none, []⟩,
    ⟨(some 7), .mkslice [(.int .i64 0), (.row () []), (.row () []), (.bool false)] (.t 6) (.t 6), none, []⟩,
    ⟨(some 3), .assign (.t 7), none, []⟩])
  (.seq (.seq (.region false [] [] [⟨(some 4), .assign (.c false [(.int .i64 0)]), none, []⟩])
  (.block 0 (.loop (.seq (.seq (.region false [8, 9, 10, 11] [8, 9, 10] [⟨(some 8), .move (.t 4), none, []⟩,
    ⟨(some 9), .move (.t 0), none, []⟩,
    ⟨(some 10), .len false (.t 9), none, []⟩,
    ⟨(some 11), .bin .lss (.t 8) (.t 10), none, []⟩])
  (.cond (.t 11)
  .skip
  (.exit 0)))
  (.seq (.block 1 (.region false [14, 15, 16, 17, 18, 19, 20, 21, 43] [14, 15, 16, 17, 18, 19, 20, 21] [⟨(some 14), .move (.t 3), none, []⟩,
    ⟨(some 15), .move (.t 4), none, []⟩,
    ⟨(some 16), .move (.t 0), none, []⟩,
    ⟨(some 17), .move (.t 4), none, []⟩,
    ⟨(some 18), .iaddr 4 (.t 16) (.t 17), none, []⟩,
    ⟨(some 19), .load true 4 (.t 18), none, []⟩,
    ⟨(some 20), .call 58 [(.t 19)], none, []⟩,
    ⟨(some 21), .iaddr 4 (.t 14) (.t 15), none, []⟩,
    ⟨none, .rstore 4 (.t 21) (.t 20), none, []⟩]))
  (.region false [12, 13] [12, 13] [⟨(some 12), .move (.t 4), none, []⟩,
    ⟨(some 13), .bin .add (.t 12) (.c false [(.int .i64 1)]), none, []⟩,
    ⟨(some 4), .assign (.t 13), none, []⟩]))))))
  (.seq (.region false [22] [22] [⟨(some 22), .move (.t 3), none, []⟩,
    ⟨(some 2), .assign (.t 22), none, []⟩])
  .ret))))⟩
/- impl.Box] -/
def ir343 : FnIr := ⟨0, 2, 19, [(4, none)], [],
  (.seq (.region false [] [] [⟨(some 4), .assign (.c false [(.int .i64 0)]), none, []⟩])
  (.seq (.seq (.region false [6, 7, 8] [6] [⟨(some 6), .move (.t 0), none, []⟩,
    ⟨(some 7), .len false (.t 6), none, []⟩,
    ⟨(some 8), .move (.c false [(.int .i64 0)]), none, []⟩])
  (.block 0 (.loop (.seq (.region false [9] [] [⟨(some 9), .bin .lss (.t 8) (.t 7), none, []⟩])
  (.seq (.cond (.t 9)
  .skip
  (.exit 0))
  (.seq (.block 1 (.seq (.region false [10] [10] [⟨(some 10), .move (.t 8), none, []⟩,
    ⟨(some 5), .assign (.t 10), none, []⟩])
  (.seq (.region false [11, 12, 13, 14, 15, 16, 35] [11, 12, 13, 14, 15] [⟨(some 11), .move (.t 1), none, []⟩,
    ⟨(some 12), .move (.t 0), none, []⟩,
    ⟨(some 13), .move (.t 5), none, []⟩,
    ⟨(some 14), .iaddr 4 (.t 12) (.t 13), none, []⟩,
    ⟨(some 15), .load true 4 (.t 14), none, []⟩,
    ⟨(some 16), .callv (.t 11) [(.t 15)], none, []⟩])
  (.cond (.t 16)
  (.seq (.region false [17] [17] [⟨(some 17), .move (.t 5), none, []⟩,
    ⟨(some 4), .assign (.t 17), none, []⟩])
  .ret)
  .skip))))
  (.region false [18] [18] [⟨(some 18), .bin .add (.t 8) (.c false [(.int .i64 1)]), none, []⟩,
    ⟨(some 8), .move (.t 18), none, []⟩])))))))
  (.seq (.region false [] [] [⟨(some 4), .assign (.c false [(.int .i64 (-1))]), none, []⟩])
  .ret)))⟩
/- impl.Box] -/
def ir243 : FnIr := ⟨0, 2, 9, [(4, none)], [],
  (.seq (.region false [] [] [⟨(some 4), .assign (.c false [(.bool false)]), none, []⟩])
  (.seq (.region false [5, 6, 7, 8, 16] [5, 6, 7, 8] [⟨(some 5), .move (.t 0), none, []⟩,
    ⟨(some 6), .move (.t 1), none, []⟩,
    ⟨(some 7), .call 343 [(.t 5), (.t 6)], none, []⟩,
    ⟨(some 8), .bin .geq (.t 7) (.c false [(.int .i64 0)]), none, []⟩,
    ⟨(some 4), .assign (.t 8), none, []⟩])
  .ret))⟩
/- impl.IsClear -/
def ir59 : FnIr := ⟨0, 1, 23, [(2, none)], [],
  (.seq (.region false [1, 24] [] [⟨(some 1), .box (.t 0), none, []⟩,
    ⟨(some 2), .assign (.c false [(.bool false)]), none, []⟩])
  (.seq (.region false [3, 4, 5, 6, 7, 8, 9, 10, 11, 12, 13, 14, 15, 16, 17, 18, 19, 20, 21, 22] [3, 4, 5, 6, 7, 8, 9, 10, 11, 12, 13, 14, 15, 16, 17, 18, 19, 20, 21, 22] [⟨(some 3), .faddr 0 (.t 1), none, []⟩,
    ⟨(some 4), .load false 1 (.t 3), none, []⟩,
    ⟨(some 5), .bin .eql (.t 4) (.c false [(.int .i64 0)]), none, []⟩,
    ⟨(some 6), .move (.t 5), none, []⟩,
    ⟨(some 7), .faddr 1 (.t 1), (some (6, true)), []⟩,
    ⟨(some 8), .load false 1 (.t 7), (some (6, true)), []⟩,
    ⟨(some 9), .len false (.t 8), (some (6, true)), []⟩,
    ⟨(some 10), .bin .eql (.t 9) (.c false [(.int .i64 0)]), (some (6, true)), []⟩,
    ⟨(some 11), .pick (.t 6) (.t 10) (.c false [(.bool false)]), none, []⟩,
    ⟨(some 12), .move (.t 11), none, []⟩,
    ⟨(some 13), .faddr 2 (.t 1), (some (12, true)), []⟩,
    ⟨(some 14), .load false 1 (.t 13), (some (12, true)), []⟩,
    ⟨(some 15), .len false (.t 14), (some (12, true)), []⟩,
    ⟨(some 16), .bin .eql (.t 15) (.c false [(.int .i64 0)]), (some (12, true)), []⟩,
    ⟨(some 17), .pick (.t 12) (.t 16) (.c false [(.bool false)]), none, []⟩,
    ⟨(some 18), .move (.t 17), none, []⟩,
    ⟨(some 19), .faddr 3 (.t 1), (some (18, true)), []⟩,
    ⟨(some 20), .load false 1 (.t 19), (some (18, true)), []⟩,
    ⟨(some 21), .un .not (.t 20), (some (18, true)), []⟩,
    ⟨(some 22), .pick (.t 18) (.t 21) (.c false [(.bool false)]), none, []⟩,
    ⟨(some 2), .assign (.t 22), none, []⟩])
  .ret))⟩
/- impl.IsClearPath$1 -/
def ir244 : FnIr := ⟨0, 1, 6, [(2, none)], [],
  (.seq (.region false [1, 7] [] [⟨(some 1), .box (.t 0), none, []⟩,
    ⟨(some 2), .assign (.c false [(.bool false)]), none, []⟩])
  (.seq (.region false [3, 4, 5, 10] [3, 4, 5] [⟨(some 3), .load true 4 (.t 1), none, []⟩,
    ⟨(some 4), .call 59 [(.t 3)], none, []⟩,
    ⟨(some 5), .un .not (.t 4), none, []⟩,
    ⟨(some 2), .assign (.t 5), none, []⟩])
  .ret))⟩
/- impl.IsClearPath -/
def ir104 : FnIr := ⟨0, 1, 11, [(2, none)], [],
  (.seq (.region false [] [] [⟨(some 2), .assign (.c false [(.bool false)]), none, []⟩])
  (.seq (.region false [3, 4, 5, 6, 7, 8, 9, 10, 19] [3, 4, 5, 6, 7, 8, 9, 10] [⟨(some 3), .move (.t 0), none, []⟩,
    ⟨(some 4), .len false (.t 3), none, []⟩,
    ⟨(some 5), .bin .leq (.t 4) (.c false [(.int .i64 4)]), none, []⟩,
    ⟨(some 6), .move (.t 5), none, []⟩,
    ⟨(some 7), .move (.t 0), (some (6, true)), []⟩,
    ⟨(some 8), .call 243 [(.t 7), (.f 244)], (some (6, true)), []⟩,
    ⟨(some 9), .un .not (.t 8), (some (6, true)), []⟩,
    ⟨(some 10), .pick (.t 6) (.t 9) (.c false [(.bool false)]), none, []⟩,
    ⟨(some 2), .assign (.t 10), none, []⟩])
  .ret))⟩
/- laws.eqIntS -/
def ir79 : FnIr := ⟨0, 2, 26, [(4, none)], [],
  (.seq (.region false [] [] [⟨(some 4), .assign (.c false [(.bool false)]), none, []⟩])
  (.seq (.seq (.region false [6, 7, 8, 9, 10] [6, 7, 8, 9] [⟨(some 6), .move (.t 0), none, []⟩,
    ⟨(some 7), .len false (.t 6), none, []⟩,
    ⟨(some 8), .move (.t 1), none, []⟩,
    ⟨(some 9), .len false (.t 8), none, []⟩,
    ⟨(some 10), .bin .neq (.t 7) (.t 9), none, []⟩])
  (.cond (.t 10)
  (.seq (.region false [] [] [⟨(some 4), .assign (.c false [(.bool false)]), none, []⟩])
  .ret)
  .skip))
  (.seq (.seq (.region false [] [] [⟨(some 5), .assign (.c false [(.int .i64 0)]), none, []⟩])
  (.block 0 (.loop (.seq (.seq (.region false [11, 12, 13, 14] [11, 12, 13] [⟨(some 11), .move (.t 5), none, []⟩,
    ⟨(some 12), .move (.t 0), none, []⟩,
    ⟨(some 13), .len false (.t 12), none, []⟩,
    ⟨(some 14), .bin .lss (.t 11) (.t 13), none, []⟩])
  (.cond (.t 14)
  .skip
  (.exit 0)))
  (.seq (.block 1 (.seq (.region true [17, 18, 19, 20, 21, 22, 23, 24, 25] [17, 18, 19, 20, 21, 22, 23, 24] [⟨(some 17), .move (.t 0), none, []⟩,
    ⟨(some 18), .move (.t 5), none, []⟩,
    ⟨(some 19), .iaddr 1 (.t 17) (.t 18), none, [0, 1]⟩,
    ⟨(some 20), .load false 1 (.t 19), none, [2, 0, 1]⟩,
    ⟨(some 21), .move (.t 1), none, []⟩,
    ⟨(some 22), .move (.t 5), none, []⟩,
    ⟨(some 23), .iaddr 1 (.t 21) (.t 22), none, [4, 5]⟩,
    ⟨(some 24), .load false 1 (.t 23), none, [6, 4, 5]⟩,
    ⟨(some 25), .bin .neq (.t 20) (.t 24), none, [3, 2, 0, 1, 7, 6, 4, 5]⟩])
  (.cond (.t 25)
  (.seq (.region false [] [] [⟨(some 4), .assign (.c false [(.bool false)]), none, []⟩])
  .ret)
  .skip)))
  (.region false [15, 16] [15, 16] [⟨(some 15), .move (.t 5), none, []⟩,
    ⟨(some 16), .bin .add (.t 15) (.c false [(.int .i64 1)]), none, []⟩,
    ⟨(some 5), .assign (.t 16), none, []⟩]))))))
  (.seq (.region false [] [] [⟨(some 4), .assign (.c false [(.bool true)]), none, []⟩])
  .ret))))⟩
/- laws.eqBox -/
def ir60 : FnIr := ⟨0, 2, 27, [(4, none)], [],
  (.seq (.region false [2, 3, 29, 30] [] [⟨(some 2), .box (.t 0), none, []⟩,
    ⟨(some 3), .box (.t 1), none, []⟩,
    ⟨(some 4), .assign (.c false [(.bool false)]), none, []⟩])
  (.seq (.seq (.region false [5, 6, 7, 8, 9] [5, 6, 7, 8] [⟨(some 5), .faddr 0 (.t 2), none, []⟩,
    ⟨(some 6), .load false 1 (.t 5), none, []⟩,
    ⟨(some 7), .faddr 0 (.t 3), none, []⟩,
    ⟨(some 8), .load false 1 (.t 7), none, []⟩,
    ⟨(some 9), .bin .neq (.t 6) (.t 8), none, []⟩])
  (.cond (.t 9)
  (.seq (.region false [] [] [⟨(some 4), .assign (.c false [(.bool false)]), none, []⟩])
  .ret)
  .skip))
  (.seq (.seq (.region false [10, 11, 12, 13, 14, 15, 41] [10, 11, 12, 13, 14] [⟨(some 10), .faddr 1 (.t 2), none, []⟩,
    ⟨(some 11), .load false 1 (.t 10), none, []⟩,
    ⟨(some 12), .faddr 1 (.t 3), none, []⟩,
    ⟨(some 13), .load false 1 (.t 12), none, []⟩,
    ⟨(some 14), .call 79 [(.t 11), (.t 13)], none, []⟩,
    ⟨(some 15), .un .not (.t 14), none, []⟩])
  (.cond (.t 15)
  (.seq (.region false [] [] [⟨(some 4), .assign (.c false [(.bool false)]), none, []⟩])
  .ret)
  .skip))
  (.seq (.seq (.region false [16, 17, 18, 19, 20, 21, 47] [16, 17, 18, 19, 20] [⟨(some 16), .faddr 2 (.t 2), none, []⟩,
    ⟨(some 17), .load false 1 (.t 16), none, []⟩,
    ⟨(some 18), .faddr 2 (.t 3), none, []⟩,
    ⟨(some 19), .load false 1 (.t 18), none, []⟩,
    ⟨(some 20), .call 79 [(.t 17), (.t 19)], none, []⟩,
    ⟨(some 21), .un .not (.t 20), none, []⟩])
  (.cond (.t 21)
  (.seq (.region false [] [] [⟨(some 4), .assign (.c false [(.bool false)]), none, []⟩])
  .ret)
  .skip))
  (.seq (.seq (.region false [22, 23, 24, 25, 26] [22, 23, 24, 25] [⟨(some 22), .faddr 3 (.t 2), none, []⟩,
    ⟨(some 23), .load false 1 (.t 22), none, []⟩,
    ⟨(some 24), .faddr 3 (.t 3), none, []⟩,
    ⟨(some 25), .load false 1 (.t 24), none, []⟩,
    ⟨(some 26), .beq true (.t 23) (.t 25), none, []⟩])
  (.cond (.t 26)
  (.seq (.region false [] [] [⟨(some 4), .assign (.c false [(.bool false)]), none, []⟩])
  .ret)
  .skip))
  (.seq (.region false [] [] [⟨(some 4), .assign (.c false [(.bool true)]), none, []⟩])
  .ret))))))⟩
/- laws.eqBoxS -/
def ir105 : FnIr := ⟨0, 2, 27, [(4, none)], [],
  (.seq (.region false [] [] [⟨(some 4), .assign (.c false [(.bool false)]), none, []⟩])
  (.seq (.seq (.region false [6, 7, 8, 9, 10] [6, 7, 8, 9] [⟨(some 6), .move (.t 0), none, []⟩,
    ⟨(some 7), .len false (.t 6), none, []⟩,
    ⟨(some 8), .move (.t 1), none, []⟩,
    ⟨(some 9), .len false (.t 8), none, []⟩,
    ⟨(some 10), .bin .neq (.t 7) (.t 9), none, []⟩])
  (.cond (.t 10)
  (.seq (.region false [] [] [⟨(some 4), .assign (.c false [(.bool false)]), none, []⟩])
  .ret)
  .skip))
  (.seq (.seq (.region false [] [] [⟨(some 5), .assign (.c false [(.int .i64 0)]), none, []⟩])
  (.block 0 (.loop (.seq (.seq (.region false [11, 12, 13, 14] [11, 12, 13] [⟨(some 11), .move (.t 5), none, []⟩,
    ⟨(some 12), .move (.t 0), none, []⟩,
    ⟨(some 13), .len false (.t 12), none, []⟩,
    ⟨(some 14), .bin .lss (.t 11) (.t 13), none, []⟩])
  (.cond (.t 14)
  .skip
  (.exit 0)))
  (.seq (.block 1 (.seq (.region true [17, 18, 19, 20, 21, 22, 23, 24, 25, 26, 52] [17, 18, 19, 20, 21, 22, 23, 24, 25] [⟨(some 17), .move (.t 0), none, []⟩,
    ⟨(some 18), .move (.t 5), none, []⟩,
    ⟨(some 19), .iaddr 4 (.t 17) (.t 18), none, [0, 1]⟩,
    ⟨(some 20), .load true 4 (.t 19), none, [2, 0, 1]⟩,
    ⟨(some 21), .move (.t 1), none, []⟩,
    ⟨(some 22), .move (.t 5), none, []⟩,
    ⟨(some 23), .iaddr 4 (.t 21) (.t 22), none, [4, 5]⟩,
    ⟨(some 24), .load true 4 (.t 23), none, [6, 4, 5]⟩,
    ⟨(some 25), .call 60 [(.t 20), (.t 24)], none, [3, 2, 0, 1, 7, 6, 4, 5]⟩,
    ⟨(some 26), .un .not (.t 25), none, [8, 3, 2, 0, 1, 7, 6, 4, 5]⟩])
  (.cond (.t 26)
  (.seq (.region false [] [] [⟨(some 4), .assign (.c false [(.bool false)]), none, []⟩])
  .ret)
  .skip)))
  (.region false [15, 16] [15, 16] [⟨(some 15), .move (.t 5), none, []⟩,
    ⟨(some 16), .bin .add (.t 15) (.c false [(.int .i64 1)]), none, []⟩,
    ⟨(some 5), .assign (.t 16), none, []⟩]))))))
  (.seq (.region false [] [] [⟨(some 4), .assign (.c false [(.bool true)]), none, []⟩])
  .ret))))⟩
/- laws.FnExactIsClearPath -/
def ir13 : FnIr := ⟨0, 1, 27, [(2, none)], [],
  (.seq (.region false [] [] [⟨(some 2), .assign (.c false [(.bool false)]), none, []⟩])
  (.seq (.region false [] [] [⟨(some 3), .assign (.c false [(.int .i64 1048576)]), none, []⟩])
  (.seq (.region false [7, 8, 9, 36] [7, 8, 9] [⟨(some 7), .move (.t 0), none, []⟩,
    ⟨(some 8), .move (.t 3), none, []⟩,
    ⟨(some 9), .call 101 [(.t 7), (.t 8)], none, []⟩,
    ⟨(some 3), .assign (.t 9), none, []⟩])
  (.seq (.seq (.region false [10, 11] [10] [⟨(some 10), .move (.t 3), none, []⟩,
    ⟨(some 11), .bin .lss (.t 10) (.c false [(.int .i64 0)]), none, []⟩])
  (.cond (.t 11)
  (.seq (.region false [] [] [⟨(some 2), .assign (.c false [(.bool true)]), none, []⟩])
  .ret)
  .skip))
  (.seq (.region false [12, 13, 14, 40, 41] [12, 13, 14] [⟨(some 12), .move (.t 0), none, []⟩,
    ⟨(some 13), .call 103 [(.t 12)], none, []⟩,
    ⟨(some 14), .call 102 [(.t 13)], none, []⟩,
    ⟨(some 4), .assign (.t 14), none, []⟩])
  (.seq (.region false [15, 16, 43] [15, 16] [⟨(some 15), .move (.t 0), none, []⟩,
    ⟨(some 16), .call 103 [(.t 15)], none, []⟩,
    ⟨(some 5), .assign (.t 16), none, []⟩])
  (.seq (.region false [17, 18, 45] [17, 18] [⟨(some 17), .move (.t 5), none, []⟩,
    ⟨(some 18), .call 104 [(.t 17)], none, []⟩,
    ⟨(some 6), .assign (.t 18), none, []⟩])
  (.seq (.seq (.region false [19, 20, 21] [19, 20] [⟨(some 19), .move (.t 6), none, []⟩,
    ⟨(some 20), .move (.t 4), none, []⟩,
    ⟨(some 21), .beq true (.t 19) (.t 20), none, []⟩])
  (.cond (.t 21)
  (.seq (.region false [] [] [⟨(some 2), .assign (.c false [(.bool false)]), none, []⟩])
  .ret)
  .skip))
  (.seq (.seq (.region false [22, 23, 24, 25, 26, 51, 52] [22, 23, 24, 25] [⟨(some 22), .move (.t 5), none, []⟩,
    ⟨(some 23), .move (.t 0), none, []⟩,
    ⟨(some 24), .call 103 [(.t 23)], none, []⟩,
    ⟨(some 25), .call 105 [(.t 22), (.t 24)], none, []⟩,
    ⟨(some 26), .un .not (.t 25), none, []⟩])
  (.cond (.t 26)
  (.seq (.region false [] [] [⟨(some 2), .assign (.c false [(.bool false)]), none, []⟩])
  .ret)
  .skip))
  (.seq (.region false [] [] [⟨(some 2), .assign (.c false [(.bool true)]), none, []⟩])
  .ret))))))))))⟩
def tbl : List (Nat × FnIr) := [(227, ir227), (56, ir56), (101, ir101), (230, ir230), (231, ir231), (68, ir68), (57, ir57), (102, ir102), (76, ir76), (58, ir58), (103, ir103), (343, ir343), (243, ir243), (59, ir59), (244, ir244), (104, ir104), (79, ir79), (60, ir60), (105, ir105), (13, ir13)]
def Tb (g : Nat) : Option FnIr := tbl.lookup g
theorem tb_227 : Tb 227 = some ir227 := rfl
theorem tb_56 : Tb 56 = some ir56 := rfl
theorem tb_101 : Tb 101 = some ir101 := rfl
theorem tb_230 : Tb 230 = some ir230 := rfl
theorem tb_231 : Tb 231 = some ir231 := rfl
theorem tb_68 : Tb 68 = some ir68 := rfl
theorem tb_57 : Tb 57 = some ir57 := rfl
theorem tb_102 : Tb 102 = some ir102 := rfl
theorem tb_76 : Tb 76 = some ir76 := rfl
theorem tb_58 : Tb 58 = some ir58 := rfl
theorem tb_103 : Tb 103 = some ir103 := rfl
theorem tb_343 : Tb 343 = some ir343 := rfl
theorem tb_243 : Tb 243 = some ir243 := rfl
theorem tb_59 : Tb 59 = some ir59 := rfl
theorem tb_244 : Tb 244 = some ir244 := rfl
theorem tb_104 : Tb 104 = some ir104 := rfl
theorem tb_79 : Tb 79 = some ir79 := rfl
theorem tb_60 : Tb 60 = some ir60 := rfl
theorem tb_105 : Tb 105 = some ir105 := rfl
theorem tb_13 : Tb 13 = some ir13 := rfl
end Go.Vm
