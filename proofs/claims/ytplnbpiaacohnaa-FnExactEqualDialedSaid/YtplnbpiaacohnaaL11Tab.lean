/- The code of the functions that the law reaches, as data. -/
import Derived.Test.YtplnbpiaacohnaaVmF
set_option maxHeartbeats 4000000
set_option linter.unusedVariables false
set_option linter.unusedSimpArgs false
namespace Go.Vm
/- laws.szIntS -/
def ir227 : FnIr := ⟨0, 2, 12, [(4, none)], [],
  (.seq (.region false [] [] [⟨(some 4), .assign (.c false [(.int .i64 0)]), none, []⟩])
  (.seq (.region false [5, 6, 7, 8] [5, 6, 7, 8] [⟨(some 5), .move (.t 1), none, []⟩,
    ⟨(some 6), .move (.t 0), none, []⟩,
    ⟨(some 7), .len false (.t 6), none, []⟩,
    ⟨(some 8), .bin .sub (.t 5) (.t 7), none, []⟩,
    ⟨(some 1), .assign (.t 8), none, []⟩])
  (.seq (.seq (.region false [9, 10] [9] [⟨(some 9), .move (.t 1), none, []⟩,
    ⟨(some 10), .bin .lss (.t 9) (.c false [(.int .i64 0)]), none, []⟩])
  (.cond (.t 10)
  (.seq (.region false [] [] [⟨(some 4), .assign (.c false [(.int .i64 (-1))]), none, []⟩])
  .ret)
  .skip))
  (.seq (.region false [11] [11] [⟨(some 11), .move (.t 1), none, []⟩,
    ⟨(some 4), .assign (.t 11), none, []⟩])
  .ret))))⟩
/- laws.szDeal -/
def ir61 : FnIr := ⟨0, 2, 12, [(4, none)], [],
  (.seq (.region false [2, 14] [] [⟨(some 2), .box (.t 0), none, []⟩,
    ⟨(some 4), .assign (.c false [(.int .i64 0)]), none, []⟩])
  (.seq (.region false [5, 6, 7, 8, 20] [5, 6, 7, 8] [⟨(some 5), .faddr 2 (.t 2), none, []⟩,
    ⟨(some 6), .load false 1 (.t 5), none, []⟩,
    ⟨(some 7), .move (.t 1), none, []⟩,
    ⟨(some 8), .call 227 [(.t 6), (.t 7)], none, []⟩,
    ⟨(some 1), .assign (.t 8), none, []⟩])
  (.seq (.seq (.region false [9, 10] [9] [⟨(some 9), .move (.t 1), none, []⟩,
    ⟨(some 10), .bin .lss (.t 9) (.c false [(.int .i64 0)]), none, []⟩])
  (.cond (.t 10)
  (.seq (.region false [] [] [⟨(some 4), .assign (.c false [(.int .i64 (-1))]), none, []⟩])
  .ret)
  .skip))
  (.seq (.region false [11] [11] [⟨(some 11), .move (.t 1), none, []⟩,
    ⟨(some 4), .assign (.t 11), none, []⟩])
  .ret))))⟩
/- laws.szDialed -/
def ir91 : FnIr := ⟨0, 2, 18, [(4, none)], [],
  (.seq (.region false [2, 20] [] [⟨(some 2), .box (.t 0), none, []⟩,
    ⟨(some 4), .assign (.c false [(.int .i64 0)]), none, []⟩])
  (.seq (.region false [5, 6, 7, 8, 26] [5, 6, 7, 8] [⟨(some 5), .faddr 0 (.t 2), none, []⟩,
    ⟨(some 6), .load true 3 (.t 5), none, []⟩,
    ⟨(some 7), .move (.t 1), none, []⟩,
    ⟨(some 8), .call 61 [(.t 6), (.t 7)], none, []⟩,
    ⟨(some 1), .assign (.t 8), none, []⟩])
  (.seq (.seq (.region false [9, 10] [9] [⟨(some 9), .move (.t 1), none, []⟩,
    ⟨(some 10), .bin .lss (.t 9) (.c false [(.int .i64 0)]), none, []⟩])
  (.cond (.t 10)
  (.seq (.region false [] [] [⟨(some 4), .assign (.c false [(.int .i64 (-1))]), none, []⟩])
  .ret)
  .skip))
  (.seq (.region false [11, 12, 13, 14, 32] [11, 12, 13, 14] [⟨(some 11), .faddr 4 (.t 2), none, []⟩,
    ⟨(some 12), .load false 1 (.t 11), none, []⟩,
    ⟨(some 13), .move (.t 1), none, []⟩,
    ⟨(some 14), .call 227 [(.t 12), (.t 13)], none, []⟩,
    ⟨(some 1), .assign (.t 14), none, []⟩])
  (.seq (.seq (.region false [15, 16] [15] [⟨(some 15), .move (.t 1), none, []⟩,
    ⟨(some 16), .bin .lss (.t 15) (.c false [(.int .i64 0)]), none, []⟩])
  (.cond (.t 16)
  (.seq (.region false [] [] [⟨(some 4), .assign (.c false [(.int .i64 (-1))]), none, []⟩])
  .ret)
  .skip))
  (.seq (.region false [17] [17] [⟨(some 17), .move (.t 1), none, []⟩,
    ⟨(some 4), .assign (.t 17), none, []⟩])
  .ret))))))⟩
/- spec.EqualInts -/
def ir228 : FnIr := ⟨0, 2, 26, [(4, none)], [],
  (.seq (.region false [] [] [⟨(some 4), .assign (.c false [(.bool false)]), none, []⟩])
  (.seq (.seq (.region false [6, 7, 8, 9, 10] [6, 7, 8, 9] [⟨(some 6), .move (.t 0), none, []⟩,
    ⟨(some 7), .len false (.t 6), none, []⟩,
    ⟨(some 8), .move (.t 1), none, []⟩,
    ⟨(some 9), .len false (.t 8), none, []⟩,
    ⟨(some 10), .bin .neq (.t 7) (.t 9), none, []⟩])
  (.cond (.t 10)
  (.seq (.region false [] [] [⟨(some 4), .assign (.c false [(.bool false)]), none, []⟩])
  .ret)
  .skip))
  (.seq (.seq (.region false [] [] [⟨(some 5), .assign (.c false [(.int .i64 0)]), none, []⟩])
  (.block 0 (.loop (.seq (.seq (.region false [11, 12, 13, 14] [11, 12, 13] [⟨(some 11), .move (.t 5), none, []⟩,
    ⟨(some 12), .move (.t 0), none, []⟩,
    ⟨(some 13), .len false (.t 12), none, []⟩,
    ⟨(some 14), .bin .lss (.t 11) (.t 13), none, []⟩])
  (.cond (.t 14)
  .skip
  (.exit 0)))
  (.seq (.block 1 (.seq (.region true [17, 18, 19, 20, 21, 22, 23, 24, 25] [17, 18, 19, 20, 21, 22, 23, 24] [⟨(some 17), .move (.t 0), none, []⟩,
    ⟨(some 18), .move (.t 5), none, []⟩,
    ⟨(some 19), .iaddr 1 (.t 17) (.t 18), none, [0, 1]⟩,
    ⟨(some 20), .load false 1 (.t 19), none, [2, 0, 1]⟩,
    ⟨(some 21), .move (.t 1), none, []⟩,
    ⟨(some 22), .move (.t 5), none, []⟩,
    ⟨(some 23), .iaddr 1 (.t 21) (.t 22), none, [4, 5]⟩,
    ⟨(some 24), .load false 1 (.t 23), none, [6, 4, 5]⟩,
    ⟨(some 25), .bin .neq (.t 20) (.t 24), none, [3, 2, 0, 1, 7, 6, 4, 5]⟩])
  (.cond (.t 25)
  (.seq (.region false [] [] [⟨(some 4), .assign (.c false [(.bool false)]), none, []⟩])
  .ret)
  .skip)))
  (.region false [15, 16] [15, 16] [⟨(some 15), .move (.t 5), none, []⟩,
    ⟨(some 16), .bin .add (.t 15) (.c false [(.int .i64 1)]), none, []⟩,
    ⟨(some 5), .assign (.t 16), none, []⟩]))))))
  (.seq (.region false [] [] [⟨(some 4), .assign (.c false [(.bool true)]), none, []⟩])
  .ret))))⟩
/- spec.EqualDeals -/
def ir62 : FnIr := ⟨0, 2, 24, [(4, none)], [],
  (.seq (.region false [2, 3, 26, 27] [] [⟨(some 2), .box (.t 0), none, []⟩,
    ⟨(some 3), .box (.t 1), none, []⟩,
    ⟨(some 4), .assign (.c false [(.bool false)]), none, []⟩])
  (.seq (.region false [5, 6, 7, 8, 9, 10, 11, 12, 13, 14, 15, 16, 17, 18, 19, 20, 21, 22, 23, 46] [5, 6, 7, 8, 9, 10, 11, 12, 13, 14, 15, 16, 17, 18, 19, 20, 21, 22, 23] [⟨(some 5), .faddr 0 (.t 2), none, []⟩,
    ⟨(some 6), .load false 1 (.t 5), none, []⟩,
    ⟨(some 7), .faddr 0 (.t 3), none, []⟩,
    ⟨(some 8), .load false 1 (.t 7), none, []⟩,
    ⟨(some 9), .beq false (.t 6) (.t 8), none, []⟩,
    ⟨(some 10), .move (.t 9), none, []⟩,
    ⟨(some 11), .faddr 1 (.t 2), (some (10, true)), []⟩,
    ⟨(some 12), .load false 1 (.t 11), (some (10, true)), []⟩,
    ⟨(some 13), .faddr 1 (.t 3), (some (10, true)), []⟩,
    ⟨(some 14), .load false 1 (.t 13), (some (10, true)), []⟩,
    ⟨(some 15), .bin .eql (.t 12) (.t 14), (some (10, true)), []⟩,
    ⟨(some 16), .pick (.t 10) (.t 15) (.c false [(.bool false)]), none, []⟩,
    ⟨(some 17), .move (.t 16), none, []⟩,
    ⟨(some 18), .faddr 2 (.t 2), (some (17, true)), []⟩,
    ⟨(some 19), .load false 1 (.t 18), (some (17, true)), []⟩,
    ⟨(some 20), .faddr 2 (.t 3), (some (17, true)), []⟩,
    ⟨(some 21), .load false 1 (.t 20), (some (17, true)), []⟩,
    ⟨(some 22), .call 228 [(.t 19), (.t 21)], (some (17, true)), []⟩,
    ⟨(some 23), .pick (.t 17) (.t 22) (.c false [(.bool false)]), none, []⟩,
    ⟨(some 4), .assign (.t 23), none, []⟩])
  .ret))⟩
/- spec.EqualDialed -/
def ir92 : FnIr := ⟨0, 2, 24, [(4, none)], [],
  (.seq (.region false [2, 3, 26, 27] [] [⟨(some 2), .box (.t 0), none, []⟩,
    ⟨(some 3), .box (.t 1), none, []⟩,
    ⟨(some 4), .assign (.c false [(.bool false)]), none, []⟩])
  (.seq (.region false [5, 6, 7, 8, 9, 10, 11, 12, 13, 14, 15, 16, 17, 18, 19, 20, 21, 22, 23, 33, 46] [5, 6, 7, 8, 9, 10, 11, 12, 13, 14, 15, 16, 17, 18, 19, 20, 21, 22, 23] [⟨(some 5), .faddr 0 (.t 2), none, []⟩,
    ⟨(some 6), .load true 3 (.t 5), none, []⟩,
    ⟨(some 7), .faddr 0 (.t 3), none, []⟩,
    ⟨(some 8), .load true 3 (.t 7), none, []⟩,
    ⟨(some 9), .call 62 [(.t 6), (.t 8)], none, []⟩,
    ⟨(some 10), .move (.t 9), none, []⟩,
    ⟨(some 11), .faddr 3 (.t 2), (some (10, true)), []⟩,
    ⟨(some 12), .load false 1 (.t 11), (some (10, true)), []⟩,
    ⟨(some 13), .faddr 3 (.t 3), (some (10, true)), []⟩,
    ⟨(some 14), .load false 1 (.t 13), (some (10, true)), []⟩,
    ⟨(some 15), .bin .eql (.t 12) (.t 14), (some (10, true)), []⟩,
    ⟨(some 16), .pick (.t 10) (.t 15) (.c false [(.bool false)]), none, []⟩,
    ⟨(some 17), .move (.t 16), none, []⟩,
    ⟨(some 18), .faddr 4 (.t 2), (some (17, true)), []⟩,
    ⟨(some 19), .load false 1 (.t 18), (some (17, true)), []⟩,
    ⟨(some 20), .faddr 4 (.t 3), (some (17, true)), []⟩,
    ⟨(some 21), .load false 1 (.t 20), (some (17, true)), []⟩,
    ⟨(some 22), .call 228 [(.t 19), (.t 21)], (some (17, true)), []⟩,
    ⟨(some 23), .pick (.t 17) (.t 22) (.c false [(.bool false)]), none, []⟩,
    ⟨(some 4), .assign (.t 23), none, []⟩])
  .ret))⟩
/- laws.toIntS -/
def ir76 : FnIr := ⟨0, 1, 22, [(2, none)], [],
  (.seq (.region false [] [] [⟨(some 2), .assign (.c false [(.row () [])]), none, []⟩])
  (.seq (.region false [5, 6, 7] [5, 6, 7] [⟨(some 5), .move (.t 0), none, []⟩,
    ⟨(some 6), .len false (.t 5), none, []⟩,
    ⟨(some 7), .mkslice [(.int .i64 0)] (.t 6) (.t 6), none, []⟩,
    ⟨(some 3), .assign (.t 7), none, []⟩])
  (.seq (.seq (.region false [] [] [⟨(some 4), .assign (.c false [(.int .i64 0)]), none, []⟩])
  (.block 0 (.loop (.seq (.seq (.region false [8, 9, 10, 11] [8, 9, 10] [⟨(some 8), .move (.t 4), none, []⟩,
    ⟨(some 9), .move (.t 0), none, []⟩,
    ⟨(some 10), .len false (.t 9), none, []⟩,
    ⟨(some 11), .bin .lss (.t 8) (.t 10), none, []⟩])
  (.cond (.t 11)
  .skip
  (.exit 0)))
  (.seq (.block 1 (.region false [14, 15, 16, 17, 18, 19, 20] [14, 15, 16, 17, 18, 19, 20] [⟨(some 14), .move (.t 3), none, []⟩,
    ⟨(some 15), .move (.t 4), none, []⟩,
    ⟨(some 16), .move (.t 0), none, []⟩,
    ⟨(some 17), .move (.t 4), none, []⟩,
    ⟨(some 18), .iaddr 1 (.t 16) (.t 17), none, []⟩,
    ⟨(some 19), .load false 1 (.t 18), none, []⟩,
    ⟨(some 20), .iaddr 1 (.t 14) (.t 15), none, []⟩,
    ⟨none, .rstore 1 (.t 20) (.t 19), none, []⟩]))
  (.region false [12, 13] [12, 13] [⟨(some 12), .move (.t 4), none, []⟩,
    ⟨(some 13), .bin .add (.t 12) (.c false [(.int .i64 1)]), none, []⟩,
    ⟨(some 4), .assign (.t 13), none, []⟩]))))))
  (.seq (.region false [21] [21] [⟨(some 21), .move (.t 3), none, []⟩,
    ⟨(some 2), .assign (.t 21), none, []⟩])
  .ret))))⟩
/- laws.toDeal -/
def ir63 : FnIr := ⟨0, 1, 15, [(2, (some (true, 3)))], [],
  (.seq (.region false [1, 2, 16, 17] [] [⟨(some 1), .box (.t 0), none, []⟩,
    ⟨(some 2), .alloc [(.bool false), (.int .i64 0), (.row () [])], none, []⟩])
  (.seq (.region false [3, 18] [] [⟨(some 3), .alloc [(.bool false), (.int .i64 0), (.row () [])], none, []⟩])
  (.seq (.region false [4, 5, 6] [4, 5, 6] [⟨(some 4), .faddr 0 (.t 1), none, []⟩,
    ⟨(some 5), .load false 1 (.t 4), none, []⟩,
    ⟨(some 6), .faddr 0 (.t 3), none, []⟩,
    ⟨none, .store 1 (.t 6) (.t 5), none, []⟩])
  (.seq (.region false [7, 8, 9] [7, 8, 9] [⟨(some 7), .faddr 1 (.t 1), none, []⟩,
    ⟨(some 8), .load false 1 (.t 7), none, []⟩,
    ⟨(some 9), .faddr 1 (.t 3), none, []⟩,
    ⟨none, .store 1 (.t 9) (.t 8), none, []⟩])
  (.seq (.region false [10, 11, 12, 13, 27] [10, 11, 12, 13] [⟨(some 10), .faddr 2 (.t 1), none, []⟩,
    ⟨(some 11), .load false 1 (.t 10), none, []⟩,
    ⟨(some 12), .call 76 [(.t 11)], none, []⟩,
    ⟨(some 13), .faddr 2 (.t 3), none, []⟩,
    ⟨none, .store 1 (.t 13) (.t 12), none, []⟩])
  (.seq (.region false [14] [14] [⟨(some 14), .load true 3 (.t 3), none, []⟩,
    ⟨none, .store 3 (.t 2) (.t 14), none, []⟩])
  .ret))))))⟩
/- laws.toDialed -/
def ir93 : FnIr := ⟨0, 1, 16, [(2, (some (true, 5)))], [],
  (.seq (.region false [1, 2, 17, 18] [] [⟨(some 1), .box (.t 0), none, []⟩,
    ⟨(some 2), .alloc [(.bool false), (.int .i64 0), (.row () []), (.int .i64 0), (.row () [])], none, []⟩])
  (.seq (.region false [3, 19] [] [⟨(some 3), .alloc [(.bool false), (.int .i64 0), (.row () []), (.int .i64 0), (.row () [])], none, []⟩])
  (.seq (.region false [4, 5, 6, 7, 22] [4, 5, 6, 7] [⟨(some 4), .faddr 0 (.t 1), none, []⟩,
    ⟨(some 5), .load true 3 (.t 4), none, []⟩,
    ⟨(some 6), .call 63 [(.t 5)], none, []⟩,
    ⟨(some 7), .faddr 0 (.t 3), none, []⟩,
    ⟨none, .store 3 (.t 7) (.t 6), none, []⟩])
  (.seq (.region false [8, 9, 10] [8, 9, 10] [⟨(some 8), .faddr 3 (.t 1), none, []⟩,
    ⟨(some 9), .load false 1 (.t 8), none, []⟩,
    ⟨(some 10), .faddr 3 (.t 3), none, []⟩,
    ⟨none, .store 1 (.t 10) (.t 9), none, []⟩])
  (.seq (.region false [11, 12, 13, 14, 29] [11, 12, 13, 14] [⟨(some 11), .faddr 4 (.t 1), none, []⟩,
    ⟨(some 12), .load false 1 (.t 11), none, []⟩,
    ⟨(some 13), .call 76 [(.t 12)], none, []⟩,
    ⟨(some 14), .faddr 4 (.t 3), none, []⟩,
    ⟨none, .store 1 (.t 14) (.t 13), none, []⟩])
  (.seq (.region false [15] [15] [⟨(some 15), .load true 5 (.t 3), none, []⟩,
    ⟨none, .store 5 (.t 2) (.t 15), none, []⟩])
  .ret))))))⟩
/- slices.Equal[[]int,int] -/
def ir229 : FnIr := ⟨0, 2, 26, [(4, none)], [],
  (.seq (.region false [] [] [⟨(some 4), .assign (.c false [(.bool false)]), none, []⟩])
  (.seq (.seq (.region false [6, 7, 8, 9, 10] [6, 7, 8, 9] [⟨(some 6), .move (.t 0), none, []⟩,
    ⟨(some 7), .len false (.t 6), none, []⟩,
    ⟨(some 8), .move (.t 1), none, []⟩,
    ⟨(some 9), .len false (.t 8), none, []⟩,
    ⟨(some 10), .bin .neq (.t 7) (.t 9), none, []⟩])
  (.cond (.t 10)
  (.seq (.region false [] [] [⟨(some 4), .assign (.c false [(.bool false)]), none, []⟩])
  .ret)
  .skip))
  (.seq (.seq (.region false [11, 12, 13] [11] [⟨(some 11), .move (.t 0), none, []⟩,
    ⟨(some 12), .len false (.t 11), none, []⟩,
    ⟨(some 13), .move (.c false [(.int .i64 0)]), none, []⟩])
  (.block 0 (.loop (.seq (.region false [14] [] [⟨(some 14), .bin .lss (.t 13) (.t 12), none, []⟩])
  (.seq (.cond (.t 14)
  .skip
  (.exit 0))
  (.seq (.block 1 (.seq (.region false [15] [15] [⟨(some 15), .move (.t 13), none, []⟩,
    ⟨(some 5), .assign (.t 15), none, []⟩])
  (.seq (.region true [16, 17, 18, 19, 20, 21, 22, 23, 24] [16, 17, 18, 19, 20, 21, 22, 23] [⟨(some 16), .move (.t 0), none, []⟩,
    ⟨(some 17), .move (.t 5), none, []⟩,
    ⟨(some 18), .iaddr 1 (.t 16) (.t 17), none, [0, 1]⟩,
    ⟨(some 19), .load false 1 (.t 18), none, [2, 0, 1]⟩,
    ⟨(some 20), .move (.t 1), none, []⟩,
    ⟨(some 21), .move (.t 5), none, []⟩,
    ⟨(some 22), .iaddr 1 (.t 20) (.t 21), none, [4, 5]⟩,
    ⟨(some 23), .load false 1 (.t 22), none, [6, 4, 5]⟩,
    ⟨(some 24), .bin .neq (.t 19) (.t 23), none, [3, 2, 0, 1, 7, 6, 4, 5]⟩])
  (.cond (.t 24)
  (.seq (.region false [] [] [⟨(some 4), .assign (.c false [(.bool false)]), none, []⟩])
  .ret)
  .skip))))
  (.region false [25] [25] [⟨(some 25), .bin .add (.t 13) (.c false [(.int .i64 1)]), none, []⟩,
    ⟨(some 13), .move (.t 25), none, []⟩])))))))
  (.seq (.region false [] [] [⟨(some 4), .assign (.c false [(.bool true)]), none, []⟩])
  .ret))))⟩
/- impl.EqualDeals -/
def ir64 : FnIr := ⟨0, 2, 24, [(4, none)], [],
  (.seq (.region false [2, 3, 26, 27] [] [⟨(some 2), .box (.t 0), none, []⟩,
    ⟨(some 3), .box (.t 1), none, []⟩,
    ⟨(some 4), .assign (.c false [(.bool false)]), none, []⟩])
  (.seq (.region false [5, 6, 7, 8, 9, 10, 11, 12, 13, 14, 15, 16, 17, 18, 19, 20, 21, 22, 23, 46] [5, 6, 7, 8, 9, 10, 11, 12, 13, 14, 15, 16, 17, 18, 19, 20, 21, 22, 23] [⟨(some 5), .faddr 0 (.t 2), none, []⟩,
    ⟨(some 6), .load false 1 (.t 5), none, []⟩,
    ⟨(some 7), .faddr 0 (.t 3), none, []⟩,
    ⟨(some 8), .load false 1 (.t 7), none, []⟩,
    ⟨(some 9), .beq false (.t 6) (.t 8), none, []⟩,
    ⟨(some 10), .move (.t 9), none, []⟩,
    ⟨(some 11), .faddr 1 (.t 2), (some (10, true)), []⟩,
    ⟨(some 12), .load false 1 (.t 11), (some (10, true)), []⟩,
    ⟨(some 13), .faddr 1 (.t 3), (some (10, true)), []⟩,
    ⟨(some 14), .load false 1 (.t 13), (some (10, true)), []⟩,
    ⟨(some 15), .bin .eql (.t 12) (.t 14), (some (10, true)), []⟩,
    ⟨(some 16), .pick (.t 10) (.t 15) (.c false [(.bool false)]), none, []⟩,
    ⟨(some 17), .move (.t 16), none, []⟩,
    ⟨(some 18), .faddr 2 (.t 2), (some (17, true)), []⟩,
    ⟨(some 19), .load false 1 (.t 18), (some (17, true)), []⟩,
    ⟨(some 20), .faddr 2 (.t 3), (some (17, true)), []⟩,
    ⟨(some 21), .load false 1 (.t 20), (some (17, true)), []⟩,
    ⟨(some 22), .call 229 [(.t 19), (.t 21)], (some (17, true)), []⟩,
    ⟨(some 23), .pick (.t 17) (.t 22) (.c false [(.bool false)]), none, []⟩,
    ⟨(some 4), .assign (.t 23), none, []⟩])
  .ret))⟩
/- impl.EqualDialed -/
def ir94 : FnIr := ⟨0, 2, 24, [(4, none)], [],
  (.seq (.region false [2, 3, 26, 27] [] [⟨(some 2), .box (.t 0), none, []⟩,
    ⟨(some 3), .box (.t 1), none, []⟩,
    ⟨(some 4), .assign (.c false [(.bool false)]), none, []⟩])
  (.seq (.region false [5, 6, 7, 8, 9, 10, 11, 12, 13, 14, 15, 16, 17, 18, 19, 20, 21, 22, 23, 33, 46] [5, 6, 7, 8, 9, 10, 11, 12, 13, 14, 15, 16, 17, 18, 19, 20, 21, 22, 23] [⟨(some 5), .faddr 0 (.t 2), none, []⟩,
    ⟨(some 6), .load true 3 (.t 5), none, []⟩,
    ⟨(some 7), .faddr 0 (.t 3), none, []⟩,
    ⟨(some 8), .load true 3 (.t 7), none, []⟩,
    ⟨(some 9), .call 64 [(.t 6), (.t 8)], none, []⟩,
    ⟨(some 10), .move (.t 9), none, []⟩,
    ⟨(some 11), .faddr 3 (.t 2), (some (10, true)), []⟩,
    ⟨(some 12), .load false 1 (.t 11), (some (10, true)), []⟩,
    ⟨(some 13), .faddr 3 (.t 3), (some (10, true)), []⟩,
    ⟨(some 14), .load false 1 (.t 13), (some (10, true)), []⟩,
    ⟨(some 15), .bin .eql (.t 12) (.t 14), (some (10, true)), []⟩,
    ⟨(some 16), .pick (.t 10) (.t 15) (.c false [(.bool false)]), none, []⟩,
    ⟨(some 17), .move (.t 16), none, []⟩,
    ⟨(some 18), .faddr 4 (.t 2), (some (17, true)), []⟩,
    ⟨(some 19), .load false 1 (.t 18), (some (17, true)), []⟩,
    ⟨(some 20), .faddr 4 (.t 3), (some (17, true)), []⟩,
    ⟨(some 21), .load false 1 (.t 20), (some (17, true)), []⟩,
    ⟨(some 22), .call 229 [(.t 19), (.t 21)], (some (17, true)), []⟩,
    ⟨(some 23), .pick (.t 17) (.t 22) (.c false [(.bool false)]), none, []⟩,
    ⟨(some 4), .assign (.t 23), none, []⟩])
  .ret))⟩
/- laws.eqIntS -/
def ir79 : FnIr := ⟨0, 2, 26, [(4, none)], [],
  (.seq (.region false [] [] [⟨(some 4), .assign (.c false [(.bool false)]), none, []⟩])
  (.seq (.seq (.region false [6, 7, 8, 9, 10] [6, 7, 8, 9] [⟨(some 6), .move (.t 0), none, []⟩,
    ⟨(some 7), .len false (.t 6), none, []⟩,
    ⟨(some 8), .move (.t 1), none, []⟩,
    ⟨(some 9), .len false (.t 8), none, []⟩,
    ⟨(some 10), .bin .neq (.t 7) (.t 9), none, []⟩])
  (.cond (.t 10)
  (.seq (.region false [] [] [⟨(some 4), .assign (.c false [(.bool false)]), none, []⟩])
  .ret)
  .skip))
  (.seq (.seq (.region false [] [] [⟨(some 5), .assign (.c false [(.int .i64 0)]), none, []⟩])
  (.block 0 (.loop (.seq (.seq (.region false [11, 12, 13, 14] [11, 12, 13] [⟨(some 11), .move (.t 5), none, []⟩,
    ⟨(some 12), .move (.t 0), none, []⟩,
    ⟨(some 13), .len false (.t 12), none, []⟩,
    ⟨(some 14), .bin .lss (.t 11) (.t 13), none, []⟩])
  (.cond (.t 14)
  .skip
  (.exit 0)))
  (.seq (.block 1 (.seq (.region true [17, 18, 19, 20, 21, 22, 23, 24, 25] [17, 18, 19, 20, 21, 22, 23, 24] [⟨(some 17), .move (.t 0), none, []⟩,
    ⟨(some 18), .move (.t 5), none, []⟩,
    ⟨(some 19), .iaddr 1 (.t 17) (.t 18), none, [0, 1]⟩,
    ⟨(some 20), .load false 1 (.t 19), none, [2, 0, 1]⟩,
    ⟨(some 21), .move (.t 1), none, []⟩,
    ⟨(some 22), .move (.t 5), none, []⟩,
    ⟨(some 23), .iaddr 1 (.t 21) (.t 22), none, [4, 5]⟩,
    ⟨(some 24), .load false 1 (.t 23), none, [6, 4, 5]⟩,
    ⟨(some 25), .bin .neq (.t 20) (.t 24), none, [3, 2, 0, 1, 7, 6, 4, 5]⟩])
  (.cond (.t 25)
  (.seq (.region false [] [] [⟨(some 4), .assign (.c false [(.bool false)]), none, []⟩])
  .ret)
  .skip)))
  (.region false [15, 16] [15, 16] [⟨(some 15), .move (.t 5), none, []⟩,
    ⟨(some 16), .bin .add (.t 15) (.c false [(.int .i64 1)]), none, []⟩,
    ⟨(some 5), .assign (.t 16), none, []⟩]))))))
  (.seq (.region false [] [] [⟨(some 4), .assign (.c false [(.bool true)]), none, []⟩])
  .ret))))⟩
/- laws.eqDeal -/
def ir65 : FnIr := ⟨0, 2, 21, [(4, none)], [],
  (.seq (.region false [2, 3, 23, 24] [] [⟨(some 2), .box (.t 0), none, []⟩,
    ⟨(some 3), .box (.t 1), none, []⟩,
    ⟨(some 4), .assign (.c false [(.bool false)]), none, []⟩])
  (.seq (.seq (.region false [5, 6, 7, 8, 9] [5, 6, 7, 8] [⟨(some 5), .faddr 0 (.t 2), none, []⟩,
    ⟨(some 6), .load false 1 (.t 5), none, []⟩,
    ⟨(some 7), .faddr 0 (.t 3), none, []⟩,
    ⟨(some 8), .load false 1 (.t 7), none, []⟩,
    ⟨(some 9), .beq true (.t 6) (.t 8), none, []⟩])
  (.cond (.t 9)
  (.seq (.region false [] [] [⟨(some 4), .assign (.c false [(.bool false)]), none, []⟩])
  .ret)
  .skip))
  (.seq (.seq (.region false [10, 11, 12, 13, 14] [10, 11, 12, 13] [⟨(some 10), .faddr 1 (.t 2), none, []⟩,
    ⟨(some 11), .load false 1 (.t 10), none, []⟩,
    ⟨(some 12), .faddr 1 (.t 3), none, []⟩,
    ⟨(some 13), .load false 1 (.t 12), none, []⟩,
    ⟨(some 14), .bin .neq (.t 11) (.t 13), none, []⟩])
  (.cond (.t 14)
  (.seq (.region false [] [] [⟨(some 4), .assign (.c false [(.bool false)]), none, []⟩])
  .ret)
  .skip))
  (.seq (.seq (.region false [15, 16, 17, 18, 19, 20, 40] [15, 16, 17, 18, 19] [⟨(some 15), .faddr 2 (.t 2), none, []⟩,
    ⟨(some 16), .load false 1 (.t 15), none, []⟩,
    ⟨(some 17), .faddr 2 (.t 3), none, []⟩,
    ⟨(some 18), .load false 1 (.t 17), none, []⟩,
    ⟨(some 19), .call 79 [(.t 16), (.t 18)], none, []⟩,
    ⟨(some 20), .un .not (.t 19), none, []⟩])
  (.cond (.t 20)
  (.seq (.region false [] [] [⟨(some 4), .assign (.c false [(.bool false)]), none, []⟩])
  .ret)
  .skip))
  (.seq (.region false [] [] [⟨(some 4), .assign (.c false [(.bool true)]), none, []⟩])
  .ret)))))⟩
/- laws.eqDialed -/
def ir95 : FnIr := ⟨0, 2, 22, [(4, none)], [],
  (.seq (.region false [2, 3, 24, 25] [] [⟨(some 2), .box (.t 0), none, []⟩,
    ⟨(some 3), .box (.t 1), none, []⟩,
    ⟨(some 4), .assign (.c false [(.bool false)]), none, []⟩])
  (.seq (.seq (.region false [5, 6, 7, 8, 9, 10, 31] [5, 6, 7, 8, 9] [⟨(some 5), .faddr 0 (.t 2), none, []⟩,
    ⟨(some 6), .load true 3 (.t 5), none, []⟩,
    ⟨(some 7), .faddr 0 (.t 3), none, []⟩,
    ⟨(some 8), .load true 3 (.t 7), none, []⟩,
    ⟨(some 9), .call 65 [(.t 6), (.t 8)], none, []⟩,
    ⟨(some 10), .un .not (.t 9), none, []⟩])
  (.cond (.t 10)
  (.seq (.region false [] [] [⟨(some 4), .assign (.c false [(.bool false)]), none, []⟩])
  .ret)
  .skip))
  (.seq (.seq (.region false [11, 12, 13, 14, 15] [11, 12, 13, 14] [⟨(some 11), .faddr 3 (.t 2), none, []⟩,
    ⟨(some 12), .load false 1 (.t 11), none, []⟩,
    ⟨(some 13), .faddr 3 (.t 3), none, []⟩,
    ⟨(some 14), .load false 1 (.t 13), none, []⟩,
    ⟨(some 15), .bin .neq (.t 12) (.t 14), none, []⟩])
  (.cond (.t 15)
  (.seq (.region false [] [] [⟨(some 4), .assign (.c false [(.bool false)]), none, []⟩])
  .ret)
  .skip))
  (.seq (.seq (.region false [16, 17, 18, 19, 20, 21, 42] [16, 17, 18, 19, 20] [⟨(some 16), .faddr 4 (.t 2), none, []⟩,
    ⟨(some 17), .load false 1 (.t 16), none, []⟩,
    ⟨(some 18), .faddr 4 (.t 3), none, []⟩,
    ⟨(some 19), .load false 1 (.t 18), none, []⟩,
    ⟨(some 20), .call 79 [(.t 17), (.t 19)], none, []⟩,
    ⟨(some 21), .un .not (.t 20), none, []⟩])
  (.cond (.t 21)
  (.seq (.region false [] [] [⟨(some 4), .assign (.c false [(.bool false)]), none, []⟩])
  .ret)
  .skip))
  (.seq (.region false [] [] [⟨(some 4), .assign (.c false [(.bool true)]), none, []⟩])
  .ret)))))⟩
/- laws.FnExactEqualDialed -/
def ir11 : FnIr := ⟨0, 2, 45, [(4, none)], [],
  (.seq (.region false [2, 3, 47, 48] [] [⟨(some 2), .box (.t 0), none, []⟩,
    ⟨(some 3), .box (.t 1), none, []⟩,
    ⟨(some 4), .assign (.c false [(.bool false)]), none, []⟩])
  (.seq (.region false [] [] [⟨(some 5), .assign (.c false [(.int .i64 1048576)]), none, []⟩])
  (.seq (.region false [10, 11, 12, 57] [10, 11, 12] [⟨(some 10), .load true 5 (.t 2), none, []⟩,
    ⟨(some 11), .move (.t 5), none, []⟩,
    ⟨(some 12), .call 91 [(.t 10), (.t 11)], none, []⟩,
    ⟨(some 5), .assign (.t 12), none, []⟩])
  (.seq (.seq (.region false [13, 14] [13] [⟨(some 13), .move (.t 5), none, []⟩,
    ⟨(some 14), .bin .lss (.t 13) (.c false [(.int .i64 0)]), none, []⟩])
  (.cond (.t 14)
  (.seq (.region false [] [] [⟨(some 4), .assign (.c false [(.bool true)]), none, []⟩])
  .ret)
  .skip))
  (.seq (.region false [15, 16, 17, 62] [15, 16, 17] [⟨(some 15), .load true 5 (.t 3), none, []⟩,
    ⟨(some 16), .move (.t 5), none, []⟩,
    ⟨(some 17), .call 91 [(.t 15), (.t 16)], none, []⟩,
    ⟨(some 5), .assign (.t 17), none, []⟩])
  (.seq (.seq (.region false [18, 19] [18] [⟨(some 18), .move (.t 5), none, []⟩,
    ⟨(some 19), .bin .lss (.t 18) (.c false [(.int .i64 0)]), none, []⟩])
  (.cond (.t 19)
  (.seq (.region false [] [] [⟨(some 4), .assign (.c false [(.bool true)]), none, []⟩])
  .ret)
  .skip))
  (.seq (.region true [20, 21, 22, 23, 24, 66, 68, 69] [20, 21, 22, 23, 24] [⟨(some 20), .load true 5 (.t 2), none, []⟩,
    ⟨(some 21), .call 93 [(.t 20)], none, [0]⟩,
    ⟨(some 22), .load true 5 (.t 3), none, []⟩,
    ⟨(some 23), .call 93 [(.t 22)], none, [2, 1, 0]⟩,
    ⟨(some 24), .call 92 [(.t 21), (.t 23)], none, [1, 0, 3, 2]⟩,
    ⟨(some 6), .assign (.t 24), none, [4, 1, 0, 3, 2]⟩])
  (.seq (.region false [25, 26, 7, 71, 52] [25, 26] [⟨(some 25), .load true 5 (.t 2), none, []⟩,
    ⟨(some 26), .call 93 [(.t 25)], none, []⟩,
    ⟨(some 7), .alloc [(.bool false), (.int .i64 0), (.row () []), (.int .i64 0), (.row () [])], none, []⟩,
    ⟨none, .store 5 (.t 7) (.t 26), none, []⟩])
  (.seq (.region false [27, 28, 8, 73, 53] [27, 28] [⟨(some 27), .load true 5 (.t 3), none, []⟩,
    ⟨(some 28), .call 93 [(.t 27)], none, []⟩,
    ⟨(some 8), .alloc [(.bool false), (.int .i64 0), (.row () []), (.int .i64 0), (.row () [])], none, []⟩,
    ⟨none, .store 5 (.t 8) (.t 28), none, []⟩])
  (.seq (.region false [29, 30, 31, 76] [29, 30, 31] [⟨(some 29), .load true 5 (.t 7), none, []⟩,
    ⟨(some 30), .load true 5 (.t 8), none, []⟩,
    ⟨(some 31), .call 94 [(.t 29), (.t 30)], none, []⟩,
    ⟨(some 9), .assign (.t 31), none, []⟩])
  (.seq (.seq (.region false [32, 33, 34] [32, 33] [⟨(some 32), .move (.t 9), none, []⟩,
    ⟨(some 33), .move (.t 6), none, []⟩,
    ⟨(some 34), .beq true (.t 32) (.t 33), none, []⟩])
  (.cond (.t 34)
  (.seq (.region false [] [] [⟨(some 4), .assign (.c false [(.bool false)]), none, []⟩])
  .ret)
  .skip))
  (.seq (.seq (.region true [35, 36, 37, 38, 39, 82, 83] [35, 36, 37, 38] [⟨(some 35), .load true 5 (.t 7), none, []⟩,
    ⟨(some 36), .load true 5 (.t 2), none, []⟩,
    ⟨(some 37), .call 93 [(.t 36)], none, [1]⟩,
    ⟨(some 38), .call 95 [(.t 35), (.t 37)], none, [0, 2, 1]⟩,
    ⟨(some 39), .un .not (.t 38), none, [3, 0, 2, 1]⟩])
  (.cond (.t 39)
  (.seq (.region false [] [] [⟨(some 4), .assign (.c false [(.bool false)]), none, []⟩])
  .ret)
  .skip))
  (.seq (.seq (.region true [40, 41, 42, 43, 44, 87, 88] [40, 41, 42, 43] [⟨(some 40), .load true 5 (.t 8), none, []⟩,
    ⟨(some 41), .load true 5 (.t 3), none, []⟩,
    ⟨(some 42), .call 93 [(.t 41)], none, [1]⟩,
    ⟨(some 43), .call 95 [(.t 40), (.t 42)], none, [0, 2, 1]⟩,
    ⟨(some 44), .un .not (.t 43), none, [3, 0, 2, 1]⟩])
  (.cond (.t 44)
  (.seq (.region false [] [] [⟨(some 4), .assign (.c false [(.bool false)]), none, []⟩])
  .ret)
  .skip))
  (.seq (.region false [] [] [⟨(some 4), .assign (.c false [(.bool true)]), none, []⟩])
  .ret))))))))))))))⟩
def tbl : List (Nat × FnIr) := [(227, ir227), (61, ir61), (91, ir91), (228, ir228), (62, ir62), (92, ir92), (76, ir76), (63, ir63), (93, ir93), (229, ir229), (64, ir64), (94, ir94), (79, ir79), (65, ir65), (95, ir95), (11, ir11)]
def Tb (g : Nat) : Option FnIr := tbl.lookup g
theorem tb_227 : Tb 227 = some ir227 := rfl
theorem tb_61 : Tb 61 = some ir61 := rfl
theorem tb_91 : Tb 91 = some ir91 := rfl
theorem tb_228 : Tb 228 = some ir228 := rfl
theorem tb_62 : Tb 62 = some ir62 := rfl
theorem tb_92 : Tb 92 = some ir92 := rfl
theorem tb_76 : Tb 76 = some ir76 := rfl
theorem tb_63 : Tb 63 = some ir63 := rfl
theorem tb_93 : Tb 93 = some ir93 := rfl
theorem tb_229 : Tb 229 = some ir229 := rfl
theorem tb_64 : Tb 64 = some ir64 := rfl
theorem tb_94 : Tb 94 = some ir94 := rfl
theorem tb_79 : Tb 79 = some ir79 := rfl
theorem tb_65 : Tb 65 = some ir65 := rfl
theorem tb_95 : Tb 95 = some ir95 := rfl
theorem tb_11 : Tb 11 = some ir11 := rfl
end Go.Vm
