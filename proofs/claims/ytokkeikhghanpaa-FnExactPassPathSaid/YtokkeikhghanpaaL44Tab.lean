/- The code of the functions that the law reaches, as data. -/
import Derived.Test.YtokkeikhghanpaaVmF
set_option maxHeartbeats 4000000
set_option maxRecDepth 10000
set_option linter.unusedVariables false
set_option linter.unusedSimpArgs false
namespace Go.Vm
/- laws.szIntS -/
def ir227 : FnIr := ⟨0, 2, 12, [(4, none)], [],
  (.seq (.region false [] [] [⟨(some 4), .assign (.c false [(.int .i64 0)]), none, []⟩])
  (.seq (.region false [5, 6, 7, 8] [5, 6, 7, 8] [⟨(some 5), .move (.t 1), none, []⟩,
    ⟨(some 6), .move (.t 0), none, []⟩,
    ⟨(some 7), .len false (.t 6), none, []⟩,
    ⟨(some 8), .bin .sub (.t 5) (.t 7), none, []⟩,
    ⟨(some 1), .assign (.t 8), none, []⟩])
  (.seq (.seq (.region false [9, 10] [9] [⟨(some 9), .move (.t 1), none, []⟩,
    ⟨(some 10), .bin .lss (.t 9) (.c false [(.int .i64 0)]), none, []⟩])
  (.cond (.t 10)
  (.seq (.region false [] [] [⟨(some 4), .assign (.c false [(.int .i64 (-1))]), none, []⟩])
  .ret)
  .skip))
  (.seq (.region false [11] [11] [⟨(some 11), .move (.t 1), none, []⟩,
    ⟨(some 4), .assign (.t 11), none, []⟩])
  .ret))))⟩
/- laws.szBox -/
def ir56 : FnIr := ⟨0, 2, 18, [(4, none)], [],
  (.seq (.region false [2, 20] [] [⟨(some 2), .box (.t 0), none, []⟩,
    ⟨(some 4), .assign (.c false [(.int .i64 0)]), none, []⟩])
  (.seq (.region false [5, 6, 7, 8, 26] [5, 6, 7, 8] [⟨(some 5), .faddr 1 (.t 2), none, []⟩,
    ⟨(some 6), .load false 1 (.t 5), none, []⟩,
    ⟨(some 7), .move (.t 1), none, []⟩,
    ⟨(some 8), .call 227 [(.t 6), (.t 7)], none, []⟩,
    ⟨(some 1), .assign (.t 8), none, []⟩])
  (.seq (.seq (.region false [9, 10] [9] [⟨(some 9), .move (.t 1), none, []⟩,
    ⟨(some 10), .bin .lss (.t 9) (.c false [(.int .i64 0)]), none, []⟩])
  (.cond (.t 10)
  (.seq (.region false [] [] [⟨(some 4), .assign (.c false [(.int .i64 (-1))]), none, []⟩])
  .ret)
  .skip))
  (.seq (.region false [11, 12, 13, 14, 32] [11, 12, 13, 14] [⟨(some 11), .faddr 2 (.t 2), none, []⟩,
    ⟨(some 12), .load false 1 (.t 11), none, []⟩,
    ⟨(some 13), .move (.t 1), none, []⟩,
    ⟨(some 14), .call 227 [(.t 12), (.t 13)], none, []⟩,
    ⟨(some 1), .assign (.t 14), none, []⟩])
  (.seq (.seq (.region false [15, 16] [15] [⟨(some 15), .move (.t 1), none, []⟩,
    ⟨(some 16), .bin .lss (.t 15) (.c false [(.int .i64 0)]), none, []⟩])
  (.cond (.t 16)
  (.seq (.region false [] [] [⟨(some 4), .assign (.c false [(.int .i64 (-1))]), none, []⟩])
  .ret)
  .skip))
  (.seq (.region false [17] [17] [⟨(some 17), .move (.t 1), none, []⟩,
    ⟨(some 4), .assign (.t 17), none, []⟩])
  .ret))))))⟩
/- laws.szBoxS -/
def ir101 : FnIr := ⟨0, 2, 27, [(4, none)], [],
  (.seq (.region false [] [] [⟨(some 4), .assign (.c false [(.int .i64 0)]), none, []⟩])
  (.seq (.region false [6, 7, 8, 9] [6, 7, 8, 9] [⟨(some 6), .move (.t 1), none, []⟩,
    ⟨(some 7), .move (.t 0), none, []⟩,
    ⟨(some 8), .len false (.t 7), none, []⟩,
    ⟨(some 9), .bin .sub (.t 6) (.t 8), none, []⟩,
    ⟨(some 1), .assign (.t 9), none, []⟩])
  (.seq (.seq (.region false [10, 11] [10] [⟨(some 10), .move (.t 1), none, []⟩,
    ⟨(some 11), .bin .lss (.t 10) (.c false [(.int .i64 0)]), none, []⟩])
  (.cond (.t 11)
  (.seq (.region false [] [] [⟨(some 4), .assign (.c false [(.int .i64 (-1))]), none, []⟩])
  .ret)
  .skip))
  (.seq (.seq (.region false [] [] [⟨(some 5), .assign (.c false [(.int .i64 0)]), none, []⟩])
  (.block 0 (.loop (.seq (.seq (.region false [12, 13, 14, 15] [12, 13, 14] [⟨(some 12), .move (.t 5), none, []⟩,
    ⟨(some 13), .move (.t 0), none, []⟩,
    ⟨(some 14), .len false (.t 13), none, []⟩,
    ⟨(some 15), .bin .lss (.t 12) (.t 14), none, []⟩])
  (.cond (.t 15)
  .skip
  (.exit 0)))
  (.seq (.block 1 (.seq (.region false [18, 19, 20, 21, 22, 23, 50] [18, 19, 20, 21, 22, 23] [⟨(some 18), .move (.t 0), none, []⟩,
    ⟨(some 19), .move (.t 5), none, []⟩,
    ⟨(some 20), .iaddr 4 (.t 18) (.t 19), none, []⟩,
    ⟨(some 21), .load true 4 (.t 20), none, []⟩,
    ⟨(some 22), .move (.t 1), none, []⟩,
    ⟨(some 23), .call 56 [(.t 21), (.t 22)], none, []⟩,
    ⟨(some 1), .assign (.t 23), none, []⟩])
  (.seq (.region false [24, 25] [24] [⟨(some 24), .move (.t 1), none, []⟩,
    ⟨(some 25), .bin .lss (.t 24) (.c false [(.int .i64 0)]), none, []⟩])
  (.cond (.t 25)
  (.seq (.region false [] [] [⟨(some 4), .assign (.c false [(.int .i64 (-1))]), none, []⟩])
  .ret)
  .skip))))
  (.region false [16, 17] [16, 17] [⟨(some 16), .move (.t 5), none, []⟩,
    ⟨(some 17), .bin .add (.t 16) (.c false [(.int .i64 1)]), none, []⟩,
    ⟨(some 5), .assign (.t 17), none, []⟩]))))))
  (.seq (.region false [26] [26] [⟨(some 26), .move (.t 1), none, []⟩,
    ⟨(some 4), .assign (.t 26), none, []⟩])
  .ret)))))⟩
/- laws.toIntS -/
def ir76 : FnIr := ⟨0, 1, 22, [(2, none)], [],
  (.seq (.region false [] [] [⟨(some 2), .assign (.c false [(.row () [])]), none, []⟩])
  (.seq (.region false [5, 6, 7] [5, 6, 7] [⟨(some 5), .move (.t 0), none, []⟩,
    ⟨(some 6), .len false (.t 5), none, []⟩,
    ⟨(some 7), .mkslice [(.int .i64 0)] (.t 6) (.t 6), none, []⟩,
    ⟨(some 3), .assign (.t 7), none, []⟩])
  (.seq (.seq (.region false [] [] [⟨(some 4), .assign (.c false [(.int .i64 0)]), none, []⟩])
  (.block 0 (.loop (.seq (.seq (.region false [8, 9, 10, 11] [8, 9, 10] [⟨(some 8), .move (.t 4), none, []⟩,
    ⟨(some 9), .move (.t 0), none, []⟩,
    ⟨(some 10), .len false (.t 9), none, []⟩,
    ⟨(some 11), .bin .lss (.t 8) (.t 10), none, []⟩])
  (.cond (.t 11)
  .skip
  (.exit 0)))
  (.seq (.block 1 (.region false [14, 15, 16, 17, 18, 19, 20] [14, 15, 16, 17, 18, 19, 20] [⟨(some 14), .move (.t 3), none, []⟩,
    ⟨(some 15), .move (.t 4), none, []⟩,
    ⟨(some 16), .move (.t 0), none, []⟩,
    ⟨(some 17), .move (.t 4), none, []⟩,
    ⟨(some 18), .iaddr 1 (.t 16) (.t 17), none, []⟩,
    ⟨(some 19), .load false 1 (.t 18), none, []⟩,
    ⟨(some 20), .iaddr 1 (.t 14) (.t 15), none, []⟩,
    ⟨none, .rstore 1 (.t 20) (.t 19), none, []⟩]))
  (.region false [12, 13] [12, 13] [⟨(some 12), .move (.t 4), none, []⟩,
    ⟨(some 13), .bin .add (.t 12) (.c false [(.int .i64 1)]), none, []⟩,
    ⟨(some 4), .assign (.t 13), none, []⟩]))))))
  (.seq (.region false [21] [21] [⟨(some 21), .move (.t 3), none, []⟩,
    ⟨(some 2), .assign (.t 21), none, []⟩])
  .ret))))⟩
/- laws.toBox -/
def ir58 : FnIr := ⟨0, 1, 19, [(2, (some (true, 4)))], [],
  (.seq (.region false [1, 2, 20, 21] [] [⟨(some 1), .box (.t 0), none, []⟩,
    ⟨(some 2), .alloc [(.int .i64 0), (.row () []), (.row () []), (.bool false)], none, []⟩])
  (.seq (.region false [3, 22] [] [⟨(some 3), .alloc [(.int .i64 0), (.row () []), (.row () []), (.bool false)], none, []⟩])
  (.seq (.region false [4, 5, 6] [4, 5, 6] [⟨(some 4), .faddr 0 (.t 1), none, []⟩,
    ⟨(some 5), .load false 1 (.t 4), none, []⟩,
    ⟨(some 6), .faddr 0 (.t 3), none, []⟩,
    ⟨none, .store 1 (.t 6) (.t 5), none, []⟩])
  (.seq (.region false [7, 8, 9, 10, 28] [7, 8, 9, 10] [⟨(some 7), .faddr 1 (.t 1), none, []⟩,
    ⟨(some 8), .load false 1 (.t 7), none, []⟩,
    ⟨(some 9), .call 76 [(.t 8)], none, []⟩,
    ⟨(some 10), .faddr 1 (.t 3), none, []⟩,
    ⟨none, .store 1 (.t 10) (.t 9), none, []⟩])
  (.seq (.region false [11, 12, 13, 14, 32] [11, 12, 13, 14] [⟨(some 11), .faddr 2 (.t 1), none, []⟩,
    ⟨(some 12), .load false 1 (.t 11), none, []⟩,
    ⟨(some 13), .call 76 [(.t 12)], none, []⟩,
    ⟨(some 14), .faddr 2 (.t 3), none, []⟩,
    ⟨none, .store 1 (.t 14) (.t 13), none, []⟩])
  (.seq (.region false [15, 16, 17] [15, 16, 17] [⟨(some 15), .faddr 3 (.t 1), none, []⟩,
    ⟨(some 16), .load false 1 (.t 15), none, []⟩,
    ⟨(some 17), .faddr 3 (.t 3), none, []⟩,
    ⟨none, .store 1 (.t 17) (.t 16), none, []⟩])
  (.seq (.region false [18] [18] [⟨(some 18), .load true 4 (.t 3), none, []⟩,
    ⟨none, .store 4 (.t 2) (.t 18), none, []⟩])
  .ret)))))))⟩
/- laws.toBoxS -/
def ir103 : FnIr := ⟨0, 1, 23, [(2, none)], [],
  (.seq (.region false [] [] [⟨(some 2), .assign (.c false [(.row () [])]), none, []⟩])
  (.seq (.region false [5, 6, 7] [5, 6, 7] [⟨(some 5), .move (.t 0), none, []⟩,
    ⟨(some 6), .len false (.t 5), none, []⟩,
    ⟨(some 7), .mkslice [(.int .i64 0), (.row () []), (.row () []), (.bool false)] (.t 6) (.t 6), none, []⟩,
    ⟨(some 3), .assign (.t 7), none, []⟩])
  (.seq (.seq (.region false [] [] [⟨(some 4), .assign (.c false [(.int .i64 0)]), none, []⟩])
  (.block 0 (.loop (.seq (.seq (.region false [8, 9, 10, 11] [8, 9, 10] [⟨(some 8), .move (.t 4), none, []⟩,
    ⟨(some 9), .move (.t 0), none, []⟩,
    ⟨(some 10), .len false (.t 9), none, []⟩,
    ⟨(some 11), .bin .lss (.t 8) (.t 10), none, []⟩])
  (.cond (.t 11)
  .skip
  (.exit 0)))
  (.seq (.block 1 (.region false [14, 15, 16, 17, 18, 19, 20, 21, 43] [14, 15, 16, 17, 18, 19, 20, 21] [⟨(some 14), .move (.t 3), none, []⟩,
    ⟨(some 15), .move (.t 4), none, []⟩,
    ⟨(some 16), .move (.t 0), none, []⟩,
    ⟨(some 17), .move (.t 4), none, []⟩,
    ⟨(some 18), .iaddr 4 (.t 16) (.t 17), none, []⟩,
    ⟨(some 19), .load true 4 (.t 18), none, []⟩,
    ⟨(some 20), .call 58 [(.t 19)], none, []⟩,
    ⟨(some 21), .iaddr 4 (.t 14) (.t 15), none, []⟩,
    ⟨none, .rstore 4 (.t 21) (.t 20), none, []⟩]))
  (.region false [12, 13] [12, 13] [⟨(some 12), .move (.t 4), none, []⟩,
    ⟨(some 13), .bin .add (.t 12) (.c false [(.int .i64 1)]), none, []⟩,
    ⟨(some 4), .assign (.t 13), none, []⟩]))))))
  (.seq (.region false [22] [22] [⟨(some 22), .move (.t 3), none, []⟩,
    ⟨(some 2), .assign (.t 22), none, []⟩])
  .ret))))⟩
/- laws.eqIntS -/
def ir79 : FnIr := ⟨0, 2, 26, [(4, none)], [],
  (.seq (.region false [] [] [⟨(some 4), .assign (.c false [(.bool false)]), none, []⟩])
  (.seq (.seq (.region false [6, 7, 8, 9, 10] [6, 7, 8, 9] [⟨(some 6), .move (.t 0), none, []⟩,
    ⟨(some 7), .len false (.t 6), none, []⟩,
    ⟨(some 8), .move (.t 1), none, []⟩,
    ⟨(some 9), .len false (.t 8), none, []⟩,
    ⟨(some 10), .bin .neq (.t 7) (.t 9), none, []⟩])
  (.cond (.t 10)
  (.seq (.region false [] [] [⟨(some 4), .assign (.c false [(.bool false)]), none, []⟩])
  .ret)
  .skip))
  (.seq (.seq (.region false [] [] [⟨(some 5), .assign (.c false [(.int .i64 0)]), none, []⟩])
  (.block 0 (.loop (.seq (.seq (.region false [11, 12, 13, 14] [11, 12, 13] [⟨(some 11), .move (.t 5), none, []⟩,
    ⟨(some 12), .move (.t 0), none, []⟩,
    ⟨(some 13), .len false (.t 12), none, []⟩,
    ⟨(some 14), .bin .lss (.t 11) (.t 13), none, []⟩])
  (.cond (.t 14)
  .skip
  (.exit 0)))
  (.seq (.block 1 (.seq (.region true [17, 18, 19, 20, 21, 22, 23, 24, 25] [17, 18, 19, 20, 21, 22, 23, 24] [⟨(some 17), .move (.t 0), none, []⟩,
    ⟨(some 18), .move (.t 5), none, []⟩,
    ⟨(some 19), .iaddr 1 (.t 17) (.t 18), none, [0, 1]⟩,
    ⟨(some 20), .load false 1 (.t 19), none, [2, 0, 1]⟩,
    ⟨(some 21), .move (.t 1), none, []⟩,
    ⟨(some 22), .move (.t 5), none, []⟩,
    ⟨(some 23), .iaddr 1 (.t 21) (.t 22), none, [4, 5]⟩,
    ⟨(some 24), .load false 1 (.t 23), none, [6, 4, 5]⟩,
    ⟨(some 25), .bin .neq (.t 20) (.t 24), none, [3, 2, 0, 1, 7, 6, 4, 5]⟩])
  (.cond (.t 25)
  (.seq (.region false [] [] [⟨(some 4), .assign (.c false [(.bool false)]), none, []⟩])
  .ret)
  .skip)))
  (.region false [15, 16] [15, 16] [⟨(some 15), .move (.t 5), none, []⟩,
    ⟨(some 16), .bin .add (.t 15) (.c false [(.int .i64 1)]), none, []⟩,
    ⟨(some 5), .assign (.t 16), none, []⟩]))))))
  (.seq (.region false [] [] [⟨(some 4), .assign (.c false [(.bool true)]), none, []⟩])
  .ret))))⟩
/- laws.eqBox -/
def ir60 : FnIr := ⟨0, 2, 27, [(4, none)], [],
  (.seq (.region false [2, 3, 29, 30] [] [⟨(some 2), .box (.t 0), none, []⟩,
    ⟨(some 3), .box (.t 1), none, []⟩,
    ⟨(some 4), .assign (.c false [(.bool false)]), none, []⟩])
  (.seq (.seq (.region false [5, 6, 7, 8, 9] [5, 6, 7, 8] [⟨(some 5), .faddr 0 (.t 2), none, []⟩,
    ⟨(some 6), .load false 1 (.t 5), none, []⟩,
    ⟨(some 7), .faddr 0 (.t 3), none, []⟩,
    ⟨(some 8), .load false 1 (.t 7), none, []⟩,
    ⟨(some 9), .bin .neq (.t 6) (.t 8), none, []⟩])
  (.cond (.t 9)
  (.seq (.region false [] [] [⟨(some 4), .assign (.c false [(.bool false)]), none, []⟩])
  .ret)
  .skip))
  (.seq (.seq (.region false [10, 11, 12, 13, 14, 15, 41] [10, 11, 12, 13, 14] [⟨(some 10), .faddr 1 (.t 2), none, []⟩,
    ⟨(some 11), .load false 1 (.t 10), none, []⟩,
    ⟨(some 12), .faddr 1 (.t 3), none, []⟩,
    ⟨(some 13), .load false 1 (.t 12), none, []⟩,
    ⟨(some 14), .call 79 [(.t 11), (.t 13)], none, []⟩,
    ⟨(some 15), .un .not (.t 14), none, []⟩])
  (.cond (.t 15)
  (.seq (.region false [] [] [⟨(some 4), .assign (.c false [(.bool false)]), none, []⟩])
  .ret)
  .skip))
  (.seq (.seq (.region false [16, 17, 18, 19, 20, 21, 47] [16, 17, 18, 19, 20] [⟨(some 16), .faddr 2 (.t 2), none, []⟩,
    ⟨(some 17), .load false 1 (.t 16), none, []⟩,
    ⟨(some 18), .faddr 2 (.t 3), none, []⟩,
    ⟨(some 19), .load false 1 (.t 18), none, []⟩,
    ⟨(some 20), .call 79 [(.t 17), (.t 19)], none, []⟩,
    ⟨(some 21), .un .not (.t 20), none, []⟩])
  (.cond (.t 21)
  (.seq (.region false [] [] [⟨(some 4), .assign (.c false [(.bool false)]), none, []⟩])
  .ret)
  .skip))
  (.seq (.seq (.region false [22, 23, 24, 25, 26] [22, 23, 24, 25] [⟨(some 22), .faddr 3 (.t 2), none, []⟩,
    ⟨(some 23), .load false 1 (.t 22), none, []⟩,
    ⟨(some 24), .faddr 3 (.t 3), none, []⟩,
    ⟨(some 25), .load false 1 (.t 24), none, []⟩,
    ⟨(some 26), .beq true (.t 23) (.t 25), none, []⟩])
  (.cond (.t 26)
  (.seq (.region false [] [] [⟨(some 4), .assign (.c false [(.bool false)]), none, []⟩])
  .ret)
  .skip))
  (.seq (.region false [] [] [⟨(some 4), .assign (.c false [(.bool true)]), none, []⟩])
  .ret))))))⟩
/- laws.eqBoxS -/
def ir105 : FnIr := ⟨0, 2, 27, [(4, none)], [],
  (.seq (.region false [] [] [⟨(some 4), .assign (.c false [(.bool false)]), none, []⟩])
  (.seq (.seq (.region false [6, 7, 8, 9, 10] [6, 7, 8, 9] [⟨(some 6), .move (.t 0), none, []⟩,
    ⟨(some 7), .len false (.t 6), none, []⟩,
    ⟨(some 8), .move (.t 1), none, []⟩,
    ⟨(some 9), .len false (.t 8), none, []⟩,
    ⟨(some 10), .bin .neq (.t 7) (.t 9), none, []⟩])
  (.cond (.t 10)
  (.seq (.region false [] [] [⟨(some 4), .assign (.c false [(.bool false)]), none, []⟩])
  .ret)
  .skip))
  (.seq (.seq (.region false [] [] [⟨(some 5), .assign (.c false [(.int .i64 0)]), none, []⟩])
  (.block 0 (.loop (.seq (.seq (.region false [11, 12, 13, 14] [11, 12, 13] [⟨(some 11), .move (.t 5), none, []⟩,
    ⟨(some 12), .move (.t 0), none, []⟩,
    ⟨(some 13), .len false (.t 12), none, []⟩,
    ⟨(some 14), .bin .lss (.t 11) (.t 13), none, []⟩])
  (.cond (.t 14)
  .skip
  (.exit 0)))
  (.seq (.block 1 (.seq (.region true [17, 18, 19, 20, 21, 22, 23, 24, 25, 26, 52] [17, 18, 19, 20, 21, 22, 23, 24, 25] [⟨(some 17), .move (.t 0), none, []⟩,
    ⟨(some 18), .move (.t 5), none, []⟩,
    ⟨(some 19), .iaddr 4 (.t 17) (.t 18), none, [0, 1]⟩,
    ⟨(some 20), .load true 4 (.t 19), none, [2, 0, 1]⟩,
    ⟨(some 21), .move (.t 1), none, []⟩,
    ⟨(some 22), .move (.t 5), none, []⟩,
    ⟨(some 23), .iaddr 4 (.t 21) (.t 22), none, [4, 5]⟩,
    ⟨(some 24), .load true 4 (.t 23), none, [6, 4, 5]⟩,
    ⟨(some 25), .call 60 [(.t 20), (.t 24)], none, [3, 2, 0, 1, 7, 6, 4, 5]⟩,
    ⟨(some 26), .un .not (.t 25), none, [8, 3, 2, 0, 1, 7, 6, 4, 5]⟩])
  (.cond (.t 26)
  (.seq (.region false [] [] [⟨(some 4), .assign (.c false [(.bool false)]), none, []⟩])
  .ret)
  .skip)))
  (.region false [15, 16] [15, 16] [⟨(some 15), .move (.t 5), none, []⟩,
    ⟨(some 16), .bin .add (.t 15) (.c false [(.int .i64 1)]), none, []⟩,
    ⟨(some 5), .assign (.t 16), none, []⟩]))))))
  (.seq (.region false [] [] [⟨(some 4), .assign (.c false [(.bool true)]), none, []⟩])
  .ret))))⟩
/- laws.markIntS -/
def ir1080 : FnIr := ⟨0, 2, 19, [(4, none)], [.mrow, .val],
  (.seq (.region false [] [] [⟨(some 4), .assign (.c false [(.int .i64 0)]), none, []⟩])
  (.seq (.seq (.region false [] [] [⟨(some 5), .assign (.c false [(.int .i64 0)]), none, []⟩])
  (.block 0 (.loop (.seq (.seq (.region false [6, 7, 8, 9] [6, 7, 8] [⟨(some 6), .move (.t 5), none, []⟩,
    ⟨(some 7), .move (.t 0), none, []⟩,
    ⟨(some 8), .len false (.t 7), none, []⟩,
    ⟨(some 9), .bin .lss (.t 6) (.t 8), none, []⟩])
  (.cond (.t 9)
  .skip
  (.exit 0)))
  (.seq (.block 1 (.seq (.region false [12, 13, 14, 15] [12, 13, 14, 15] [⟨(some 12), .move (.t 0), none, []⟩,
    ⟨(some 13), .move (.t 5), none, []⟩,
    ⟨(some 14), .move (.t 1), none, []⟩,
    ⟨(some 15), .iaddr 1 (.t 12) (.t 13), none, []⟩,
    ⟨none, .rstore 1 (.t 15) (.t 14), none, []⟩])
  (.region false [16, 17] [16, 17] [⟨(some 16), .move (.t 1), none, []⟩,
    ⟨(some 17), .bin .add (.t 16) (.c false [(.int .i64 1)]), none, []⟩,
    ⟨(some 1), .assign (.t 17), none, []⟩])))
  (.region false [10, 11] [10, 11] [⟨(some 10), .move (.t 5), none, []⟩,
    ⟨(some 11), .bin .add (.t 10) (.c false [(.int .i64 1)]), none, []⟩,
    ⟨(some 5), .assign (.t 11), none, []⟩]))))))
  (.seq (.region false [18] [18] [⟨(some 18), .move (.t 1), none, []⟩,
    ⟨(some 4), .assign (.t 18), none, []⟩])
  .ret)))⟩
/- laws.markExtS -/
def ir1201 : FnIr := ⟨0, 2, 27, [(4, none)], [.mrow, .val],
  (.seq (.region false [] [] [⟨(some 4), .assign (.c false [(.int .i64 0)]), none, []⟩])
  (.seq (.seq (.region false [] [] [⟨(some 5), .assign (.c false [(.int .i64 0)]), none, []⟩])
  (.block 0 (.loop (.seq (.seq (.region false [6, 7, 8, 9] [6, 7, 8] [⟨(some 6), .move (.t 5), none, []⟩,
    ⟨(some 7), .move (.t 0), none, []⟩,
    ⟨(some 8), .len false (.t 7), none, []⟩,
    ⟨(some 9), .bin .lss (.t 6) (.t 8), none, []⟩])
  (.cond (.t 9)
  .skip
  (.exit 0)))
  (.seq (.block 1 (.seq (.region false [12, 13, 14, 15, 16] [12, 13, 14, 15, 16] [⟨(some 12), .move (.t 0), none, []⟩,
    ⟨(some 13), .move (.t 5), none, []⟩,
    ⟨(some 14), .move (.t 1), none, []⟩,
    ⟨(some 15), .iaddr 2 (.t 12) (.t 13), none, []⟩,
    ⟨(some 16), .faddr 0 (.t 15), none, []⟩,
    ⟨none, .rstore 1 (.t 16) (.t 14), none, []⟩])
  (.seq (.region false [17, 18] [17, 18] [⟨(some 17), .move (.t 1), none, []⟩,
    ⟨(some 18), .bin .add (.t 17) (.c false [(.int .i64 1)]), none, []⟩,
    ⟨(some 1), .assign (.t 18), none, []⟩])
  (.region false [19, 20, 21, 22, 23, 24, 25, 52] [19, 20, 21, 22, 23, 24, 25] [⟨(some 19), .move (.t 0), none, []⟩,
    ⟨(some 20), .move (.t 5), none, []⟩,
    ⟨(some 21), .iaddr 2 (.t 19) (.t 20), none, []⟩,
    ⟨(some 22), .faddr 1 (.t 21), none, []⟩,
    ⟨(some 23), .load false 1 (.t 22), none, []⟩,
    ⟨(some 24), .move (.t 1), none, []⟩,
    ⟨(some 25), .call 1080 [(.t 23), (.t 24)], none, []⟩,
    ⟨(some 1), .assign (.t 25), none, []⟩]))))
  (.region false [10, 11] [10, 11] [⟨(some 10), .move (.t 5), none, []⟩,
    ⟨(some 11), .bin .add (.t 10) (.c false [(.int .i64 1)]), none, []⟩,
    ⟨(some 5), .assign (.t 11), none, []⟩]))))))
  (.seq (.region false [26] [26] [⟨(some 26), .move (.t 1), none, []⟩,
    ⟨(some 4), .assign (.t 26), none, []⟩])
  .ret)))⟩
/- laws.markHello -/
def ir1081 : FnIr := ⟨0, 2, 14, [(4, none)], [.mrow, .val],
  (.seq (.region false [2, 16] [] [⟨(some 2), .box (.t 0), none, []⟩,
    ⟨(some 4), .assign (.c false [(.int .i64 0)]), none, []⟩])
  (.seq (.region false [5, 6, 7, 8, 22] [5, 6, 7, 8] [⟨(some 5), .faddr 0 (.t 2), none, []⟩,
    ⟨(some 6), .load false 1 (.t 5), none, []⟩,
    ⟨(some 7), .move (.t 1), none, []⟩,
    ⟨(some 8), .call 1080 [(.t 6), (.t 7)], none, []⟩,
    ⟨(some 1), .assign (.t 8), none, []⟩])
  (.seq (.region false [9, 10, 11, 12, 26] [9, 10, 11, 12] [⟨(some 9), .faddr 1 (.t 2), none, []⟩,
    ⟨(some 10), .load false 1 (.t 9), none, []⟩,
    ⟨(some 11), .move (.t 1), none, []⟩,
    ⟨(some 12), .call 1201 [(.t 10), (.t 11)], none, []⟩,
    ⟨(some 1), .assign (.t 12), none, []⟩])
  (.seq (.region false [13] [13] [⟨(some 13), .move (.t 1), none, []⟩,
    ⟨(some 4), .assign (.t 13), none, []⟩])
  .ret))))⟩
/- laws.markBoxS -/
def ir1172 : FnIr := ⟨0, 2, 43, [(4, none)], [.mrow, .val],
  (.seq (.region false [] [] [⟨(some 4), .assign (.c false [(.int .i64 0)]), none, []⟩])
  (.seq (.seq (.region false [] [] [⟨(some 5), .assign (.c false [(.int .i64 0)]), none, []⟩])
  (.block 0 (.loop (.seq (.seq (.region false [6, 7, 8, 9] [6, 7, 8] [⟨(some 6), .move (.t 5), none, []⟩,
    ⟨(some 7), .move (.t 0), none, []⟩,
    ⟨(some 8), .len false (.t 7), none, []⟩,
    ⟨(some 9), .bin .lss (.t 6) (.t 8), none, []⟩])
  (.cond (.t 9)
  .skip
  (.exit 0)))
  (.seq (.block 1 (.seq (.region false [12, 13, 14, 15, 16] [12, 13, 14, 15, 16] [⟨(some 12), .move (.t 0), none, []⟩,
    ⟨(some 13), .move (.t 5), none, []⟩,
    ⟨(some 14), .move (.t 1), none, []⟩,
    ⟨(some 15), .iaddr 4 (.t 12) (.t 13), none, []⟩,
    ⟨(some 16), .faddr 0 (.t 15), none, []⟩,
    ⟨none, .rstore 1 (.t 16) (.t 14), none, []⟩])
  (.seq (.region false [17, 18] [17, 18] [⟨(some 17), .move (.t 1), none, []⟩,
    ⟨(some 18), .bin .add (.t 17) (.c false [(.int .i64 1)]), none, []⟩,
    ⟨(some 1), .assign (.t 18), none, []⟩])
  (.seq (.region false [19, 20, 21, 22, 23, 24, 25, 68] [19, 20, 21, 22, 23, 24, 25] [⟨(some 19), .move (.t 0), none, []⟩,
    ⟨(some 20), .move (.t 5), none, []⟩,
    ⟨(some 21), .iaddr 4 (.t 19) (.t 20), none, []⟩,
    ⟨(some 22), .faddr 1 (.t 21), none, []⟩,
    ⟨(some 23), .load false 1 (.t 22), none, []⟩,
    ⟨(some 24), .move (.t 1), none, []⟩,
    ⟨(some 25), .call 1080 [(.t 23), (.t 24)], none, []⟩,
    ⟨(some 1), .assign (.t 25), none, []⟩])
  (.seq (.region false [26, 27, 28, 29, 30, 31, 32, 75] [26, 27, 28, 29, 30, 31, 32] [⟨(some 26), .move (.t 0), none, []⟩,
    ⟨(some 27), .move (.t 5), none, []⟩,
    ⟨(some 28), .iaddr 4 (.t 26) (.t 27), none, []⟩,
    ⟨(some 29), .faddr 2 (.t 28), none, []⟩,
    ⟨(some 30), .load false 1 (.t 29), none, []⟩,
    ⟨(some 31), .move (.t 1), none, []⟩,
    ⟨(some 32), .call 1080 [(.t 30), (.t 31)], none, []⟩,
    ⟨(some 1), .assign (.t 32), none, []⟩])
  (.seq (.region false [33, 34, 35, 36, 37, 38, 39] [33, 34, 35, 36, 37, 38, 39] [⟨(some 33), .move (.t 0), none, []⟩,
    ⟨(some 34), .move (.t 5), none, []⟩,
    ⟨(some 35), .move (.t 1), none, []⟩,
    ⟨(some 36), .bin .rem (.t 35) (.c false [(.int .i64 3)]), none, []⟩,
    ⟨(some 37), .bin .eql (.t 36) (.c false [(.int .i64 0)]), none, []⟩,
    ⟨(some 38), .iaddr 4 (.t 33) (.t 34), none, []⟩,
    ⟨(some 39), .faddr 3 (.t 38), none, []⟩,
    ⟨none, .rstore 1 (.t 39) (.t 37), none, []⟩])
  (.region false [40, 41] [40, 41] [⟨(some 40), .move (.t 1), none, []⟩,
    ⟨(some 41), .bin .add (.t 40) (.c false [(.int .i64 1)]), none, []⟩,
    ⟨(some 1), .assign (.t 41), none, []⟩])))))))
  (.region false [10, 11] [10, 11] [⟨(some 10), .move (.t 5), none, []⟩,
    ⟨(some 11), .bin .add (.t 10) (.c false [(.int .i64 1)]), none, []⟩,
    ⟨(some 5), .assign (.t 11), none, []⟩]))))))
  (.seq (.region false [42] [42] [⟨(some 42), .move (.t 1), none, []⟩,
    ⟨(some 4), .assign (.t 42), none, []⟩])
  .ret)))⟩
/- spec.l1In -/
def ir230 : FnIr := ⟨0, 3, 15, [(6, none)], [],
  (.seq (.region false [] [] [⟨(some 6), .assign (.c false [(.bool false)]), none, []⟩])
  (.seq (.region false [7, 8, 9, 10, 11, 12, 13, 14] [7, 8, 9, 10, 11, 12, 13, 14] [⟨(some 7), .move (.t 0), none, []⟩,
    ⟨(some 8), .move (.t 1), none, []⟩,
    ⟨(some 9), .bin .geq (.t 7) (.t 8), none, []⟩,
    ⟨(some 10), .move (.t 9), none, []⟩,
    ⟨(some 11), .move (.t 0), (some (10, true)), []⟩,
    ⟨(some 12), .move (.t 2), (some (10, true)), []⟩,
    ⟨(some 13), .bin .leq (.t 11) (.t 12), (some (10, true)), []⟩,
    ⟨(some 14), .pick (.t 10) (.t 13) (.c false [(.bool false)]), none, []⟩,
    ⟨(some 6), .assign (.t 14), none, []⟩])
  .ret))⟩
/- spec.AreVersions -/
def ir257 : FnIr := ⟨0, 1, 35, [(2, none)], [],
  (.seq (.region false [] [] [⟨(some 2), .assign (.c false [(.bool false)]), none, []⟩])
  (.seq (.seq (.region false [] [] [⟨(some 3), .assign (.c false [(.int .i64 0)]), none, []⟩])
  (.block 0 (.loop (.seq (.seq (.region false [4, 5, 6, 7] [4, 5, 6] [⟨(some 4), .move (.t 3), none, []⟩,
    ⟨(some 5), .move (.t 0), none, []⟩,
    ⟨(some 6), .len false (.t 5), none, []⟩,
    ⟨(some 7), .bin .lss (.t 4) (.t 6), none, []⟩])
  (.cond (.t 7)
  .skip
  (.exit 0)))
  (.seq (.block 1 (.seq (.region true [10, 11, 12, 13, 14, 15, 16, 17, 18, 19, 20, 21, 22, 23, 24, 25, 26, 27, 28, 29, 30, 31, 49] [10, 11, 12, 13, 14, 15, 16, 17, 18, 19, 20, 21, 22, 23, 24, 25, 26, 27, 28, 29, 30] [⟨(some 10), .move (.t 0), none, []⟩,
    ⟨(some 11), .move (.t 3), none, []⟩,
    ⟨(some 12), .iaddr 1 (.t 10) (.t 11), none, [0, 1]⟩,
    ⟨(some 13), .load false 1 (.t 12), none, [2, 0, 1]⟩,
    ⟨(some 14), .call 230 [(.t 13), (.c false [(.int .i64 1)]), (.c false [(.int .i64 9)])], none, [3, 2, 0, 1]⟩,
    ⟨(some 15), .un .not (.t 14), none, [4, 3, 2, 0, 1]⟩,
    ⟨(some 16), .move (.t 15), none, [5, 4, 3, 2, 0, 1]⟩,
    ⟨(some 17), .move (.t 3), (some (16, false)), [6, 5, 4, 3, 2, 0, 1]⟩,
    ⟨(some 18), .bin .gtr (.t 17) (.c false [(.int .i64 0)]), (some (16, false)), [7, 6, 5, 4, 3, 2, 0, 1]⟩,
    ⟨(some 19), .move (.t 18), (some (16, false)), [8, 7, 6, 5, 4, 3, 2, 0, 1]⟩,
    ⟨(some 20), .move (.t 0), (some (19, true)), [9, 8, 7, 6, 5, 4, 3, 2, 0, 1]⟩,
    ⟨(some 21), .move (.t 3), (some (19, true)), [9, 8, 7, 6, 5, 4, 3, 2, 0, 1]⟩,
    ⟨(some 22), .bin .sub (.t 21) (.c false [(.int .i64 1)]), (some (19, true)), [11, 9, 8, 7, 6, 5, 4, 3, 2, 0, 1]⟩,
    ⟨(some 23), .iaddr 1 (.t 20) (.t 22), (some (19, true)), [10, 9, 8, 7, 6, 5, 4, 3, 2, 0, 1, 12, 11]⟩,
    ⟨(some 24), .load false 1 (.t 23), (some (19, true)), [13, 10, 9, 8, 7, 6, 5, 4, 3, 2, 0, 1, 12, 11]⟩,
    ⟨(some 25), .move (.t 0), (some (19, true)), [9, 8, 7, 6, 5, 4, 3, 2, 0, 1]⟩,
    ⟨(some 26), .move (.t 3), (some (19, true)), [9, 8, 7, 6, 5, 4, 3, 2, 0, 1]⟩,
    ⟨(some 27), .iaddr 1 (.t 25) (.t 26), (some (19, true)), [15, 9, 8, 7, 6, 5, 4, 3, 2, 0, 1, 16]⟩,
    ⟨(some 28), .load false 1 (.t 27), (some (19, true)), [17, 15, 9, 8, 7, 6, 5, 4, 3, 2, 0, 1, 16]⟩,
    ⟨(some 29), .bin .geq (.t 24) (.t 28), (some (19, true)), [14, 13, 10, 9, 8, 7, 6, 5, 4, 3, 2, 0, 1, 12, 11, 18, 17, 15, 16]⟩,
    ⟨(some 30), .pick (.t 19) (.t 29) (.c false [(.bool false)]), (some (16, false)), [9, 8, 7, 6, 5, 4, 3, 2, 0, 1, 19, 14, 13, 10, 12, 11, 18, 17, 15, 16]⟩,
    ⟨(some 31), .pick (.t 16) (.c false [(.bool true)]) (.t 30), none, [6, 5, 4, 3, 2, 0, 1, 20, 9, 8, 7, 19, 14, 13, 10, 12, 11, 18, 17, 15, 16]⟩])
  (.cond (.t 31)
  (.seq (.region false [] [] [⟨(some 2), .assign (.c false [(.bool false)]), none, []⟩])
  .ret)
  .skip)))
  (.region false [8, 9] [8, 9] [⟨(some 8), .move (.t 3), none, []⟩,
    ⟨(some 9), .bin .add (.t 8) (.c false [(.int .i64 1)]), none, []⟩,
    ⟨(some 3), .assign (.t 9), none, []⟩]))))))
  (.seq (.region false [32, 33, 34] [32, 33, 34] [⟨(some 32), .move (.t 0), none, []⟩,
    ⟨(some 33), .len false (.t 32), none, []⟩,
    ⟨(some 34), .bin .gtr (.t 33) (.c false [(.int .i64 0)]), none, []⟩,
    ⟨(some 2), .assign (.t 34), none, []⟩])
  .ret)))⟩
/- spec.l9Byte -/
def ir231 : FnIr := ⟨0, 1, 16, [(2, none)], [],
  (.seq (.region false [] [] [⟨(some 2), .assign (.c false [(.bool false)]), none, []⟩])
  (.seq (.seq (.region false [] [] [⟨(some 3), .assign (.c false [(.int .i64 0)]), none, []⟩])
  (.block 0 (.loop (.seq (.seq (.region false [4, 5, 6, 7] [4, 5, 6] [⟨(some 4), .move (.t 3), none, []⟩,
    ⟨(some 5), .move (.t 0), none, []⟩,
    ⟨(some 6), .len false (.t 5), none, []⟩,
    ⟨(some 7), .bin .lss (.t 4) (.t 6), none, []⟩])
  (.cond (.t 7)
  .skip
  (.exit 0)))
  (.seq (.block 1 (.seq (.region false [10, 11, 12, 13, 14, 15, 30] [10, 11, 12, 13, 14] [⟨(some 10), .move (.t 0), none, []⟩,
    ⟨(some 11), .move (.t 3), none, []⟩,
    ⟨(some 12), .iaddr 1 (.t 10) (.t 11), none, []⟩,
    ⟨(some 13), .load false 1 (.t 12), none, []⟩,
    ⟨(some 14), .call 230 [(.t 13), (.c false [(.int .i64 0)]), (.c false [(.int .i64 255)])], none, []⟩,
    ⟨(some 15), .un .not (.t 14), none, []⟩])
  (.cond (.t 15)
  (.seq (.region false [] [] [⟨(some 2), .assign (.c false [(.bool false)]), none, []⟩])
  .ret)
  .skip)))
  (.region false [8, 9] [8, 9] [⟨(some 8), .move (.t 3), none, []⟩,
    ⟨(some 9), .bin .add (.t 8) (.c false [(.int .i64 1)]), none, []⟩,
    ⟨(some 3), .assign (.t 9), none, []⟩]))))))
  (.seq (.region false [] [] [⟨(some 2), .assign (.c false [(.bool true)]), none, []⟩])
  .ret)))⟩
/- spec.ExtOf -/
def ir286 : FnIr := ⟨0, 2, 20, [(4, none)], [],
  (.seq (.region false [] [] [⟨(some 4), .assign (.c false [(.int .i64 0)]), none, []⟩])
  (.seq (.seq (.region false [] [] [⟨(some 5), .assign (.c false [(.int .i64 0)]), none, []⟩])
  (.block 0 (.loop (.seq (.seq (.region false [6, 7, 8, 9] [6, 7, 8] [⟨(some 6), .move (.t 5), none, []⟩,
    ⟨(some 7), .move (.t 0), none, []⟩,
    ⟨(some 8), .len false (.t 7), none, []⟩,
    ⟨(some 9), .bin .lss (.t 6) (.t 8), none, []⟩])
  (.cond (.t 9)
  .skip
  (.exit 0)))
  (.seq (.block 1 (.seq (.region false [12, 13, 14, 15, 16, 17, 18] [12, 13, 14, 15, 16, 17] [⟨(some 12), .move (.t 0), none, []⟩,
    ⟨(some 13), .move (.t 5), none, []⟩,
    ⟨(some 14), .iaddr 2 (.t 12) (.t 13), none, []⟩,
    ⟨(some 15), .faddr 0 (.t 14), none, []⟩,
    ⟨(some 16), .load false 1 (.t 15), none, []⟩,
    ⟨(some 17), .move (.t 1), none, []⟩,
    ⟨(some 18), .bin .eql (.t 16) (.t 17), none, []⟩])
  (.cond (.t 18)
  (.seq (.region false [19] [19] [⟨(some 19), .move (.t 5), none, []⟩,
    ⟨(some 4), .assign (.t 19), none, []⟩])
  .ret)
  .skip)))
  (.region false [10, 11] [10, 11] [⟨(some 10), .move (.t 5), none, []⟩,
    ⟨(some 11), .bin .add (.t 10) (.c false [(.int .i64 1)]), none, []⟩,
    ⟨(some 5), .assign (.t 11), none, []⟩]))))))
  (.seq (.region false [] [] [⟨(some 4), .assign (.c false [(.int .i64 (-1))]), none, []⟩])
  .ret)))⟩
/- spec.AreExts -/
def ir271 : FnIr := ⟨0, 1, 49, [(2, none)], [],
  (.seq (.region false [] [] [⟨(some 2), .assign (.c false [(.bool false)]), none, []⟩])
  (.seq (.seq (.region false [] [] [⟨(some 3), .assign (.c false [(.int .i64 0)]), none, []⟩])
  (.block 0 (.loop (.seq (.seq (.region false [4, 5, 6, 7] [4, 5, 6] [⟨(some 4), .move (.t 3), none, []⟩,
    ⟨(some 5), .move (.t 0), none, []⟩,
    ⟨(some 6), .len false (.t 5), none, []⟩,
    ⟨(some 7), .bin .lss (.t 4) (.t 6), none, []⟩])
  (.cond (.t 7)
  .skip
  (.exit 0)))
  (.seq (.block 1 (.seq (.region false [10, 11, 12, 13, 14, 15, 16, 17, 18, 19, 20, 21, 22, 23, 24, 25, 26, 27, 28, 29, 30, 31, 32, 33, 34, 35, 36, 37, 38, 39, 40, 41, 42, 43, 44, 45, 64, 81, 91] [10, 11, 12, 13, 14, 15, 16, 17, 18, 19, 20, 21, 22, 23, 24, 25, 26, 27, 28, 29, 30, 31, 32, 33, 34, 35, 36, 37, 38, 39, 40, 41, 42, 43, 44] [⟨(some 10), .move (.t 0), none, []⟩,
    ⟨(some 11), .move (.t 3), none, []⟩,
    ⟨(some 12), .iaddr 2 (.t 10) (.t 11), none, []⟩,
    ⟨(some 13), .faddr 0 (.t 12), none, []⟩,
    ⟨(some 14), .load false 1 (.t 13), none, []⟩,
    ⟨(some 15), .call 230 [(.t 14), (.c false [(.int .i64 0)]), (.c false [(.int .i64 255)])], none, []⟩,
    ⟨(some 16), .un .not (.t 15), none, []⟩,
    ⟨(some 17), .move (.t 16), none, []⟩,
    ⟨(some 18), .move (.t 0), (some (17, false)), []⟩,
    ⟨(some 19), .move (.t 3), (some (17, false)), []⟩,
    ⟨(some 20), .iaddr 2 (.t 18) (.t 19), (some (17, false)), []⟩,
    ⟨(some 21), .faddr 1 (.t 20), (some (17, false)), []⟩,
    ⟨(some 22), .load false 1 (.t 21), (some (17, false)), []⟩,
    ⟨(some 23), .len false (.t 22), (some (17, false)), []⟩,
    ⟨(some 24), .bin .gtr (.t 23) (.c false [(.int .i64 4)]), (some (17, false)), []⟩,
    ⟨(some 25), .pick (.t 17) (.c false [(.bool true)]) (.t 24), none, []⟩,
    ⟨(some 26), .move (.t 25), none, []⟩,
    ⟨(some 27), .move (.t 0), (some (26, false)), []⟩,
    ⟨(some 28), .move (.t 3), (some (26, false)), []⟩,
    ⟨(some 29), .iaddr 2 (.t 27) (.t 28), (some (26, false)), []⟩,
    ⟨(some 30), .faddr 1 (.t 29), (some (26, false)), []⟩,
    ⟨(some 31), .load false 1 (.t 30), (some (26, false)), []⟩,
    ⟨(some 32), .call 231 [(.t 31)], (some (26, false)), []⟩,
    ⟨(some 33), .un .not (.t 32), (some (26, false)), []⟩,
    ⟨(some 34), .pick (.t 26) (.c false [(.bool true)]) (.t 33), none, []⟩,
    ⟨(some 35), .move (.t 34), none, []⟩,
    ⟨(some 36), .move (.t 0), (some (35, false)), []⟩,
    ⟨(some 37), .move (.t 0), (some (35, false)), []⟩,
    ⟨(some 38), .move (.t 3), (some (35, false)), []⟩,
    ⟨(some 39), .iaddr 2 (.t 37) (.t 38), (some (35, false)), []⟩,
    ⟨(some 40), .faddr 0 (.t 39), (some (35, false)), []⟩,
    ⟨(some 41), .load false 1 (.t 40), (some (35, false)), []⟩,
    ⟨(some 42), .call 286 [(.t 36), (.t 41)], (some (35, false)), []⟩,
    ⟨(some 43), .move (.t 3), (some (35, false)), []⟩,
    ⟨(some 44), .bin .lss (.t 42) (.t 43), (some (35, false)), []⟩,
    ⟨(some 45), .pick (.t 35) (.c false [(.bool true)]) (.t 44), none, []⟩])
  (.cond (.t 45)
  (.seq (.region false [] [] [⟨(some 2), .assign (.c false [(.bool false)]), none, []⟩])
  .ret)
  .skip)))
  (.region false [8, 9] [8, 9] [⟨(some 8), .move (.t 3), none, []⟩,
    ⟨(some 9), .bin .add (.t 8) (.c false [(.int .i64 1)]), none, []⟩,
    ⟨(some 3), .assign (.t 9), none, []⟩]))))))
  (.seq (.region false [46, 47, 48] [46, 47, 48] [⟨(some 46), .move (.t 0), none, []⟩,
    ⟨(some 47), .len false (.t 46), none, []⟩,
    ⟨(some 48), .bin .leq (.t 47) (.c false [(.int .i64 6)]), none, []⟩,
    ⟨(some 2), .assign (.t 48), none, []⟩])
  .ret)))⟩
/- spec.IsHello -/
def ir142 : FnIr := ⟨0, 1, 11, [(2, none)], [],
  (.seq (.region false [1, 12] [] [⟨(some 1), .box (.t 0), none, []⟩,
    ⟨(some 2), .assign (.c false [(.bool false)]), none, []⟩])
  (.seq (.region false [3, 4, 5, 6, 7, 8, 9, 10, 16, 20] [3, 4, 5, 6, 7, 8, 9, 10] [⟨(some 3), .faddr 0 (.t 1), none, []⟩,
    ⟨(some 4), .load false 1 (.t 3), none, []⟩,
    ⟨(some 5), .call 257 [(.t 4)], none, []⟩,
    ⟨(some 6), .move (.t 5), none, []⟩,
    ⟨(some 7), .faddr 1 (.t 1), (some (6, true)), []⟩,
    ⟨(some 8), .load false 1 (.t 7), (some (6, true)), []⟩,
    ⟨(some 9), .call 271 [(.t 8)], (some (6, true)), []⟩,
    ⟨(some 10), .pick (.t 6) (.t 9) (.c false [(.bool false)]), none, []⟩,
    ⟨(some 2), .assign (.t 10), none, []⟩])
  .ret))⟩
/- impl.InRange -/
def ir232 : FnIr := ⟨0, 3, 15, [(6, none)], [],
  (.seq (.region false [] [] [⟨(some 6), .assign (.c false [(.bool false)]), none, []⟩])
  (.seq (.region false [7, 8, 9, 10, 11, 12, 13, 14] [7, 8, 9, 10, 11, 12, 13, 14] [⟨(some 7), .move (.t 1), none, []⟩,
    ⟨(some 8), .move (.t 0), none, []⟩,
    ⟨(some 9), .bin .leq (.t 7) (.t 8), none, []⟩,
    ⟨(some 10), .move (.t 9), none, []⟩,
    ⟨(some 11), .move (.t 0), (some (10, true)), []⟩,
    ⟨(some 12), .move (.t 2), (some (10, true)), []⟩,
    ⟨(some 13), .bin .leq (.t 11) (.t 12), (some (10, true)), []⟩,
    ⟨(some 14), .pick (.t 10) (.t 13) (.c false [(.bool false)]), none, []⟩,
    ⟨(some 6), .assign (.t 14), none, []⟩])
  .ret))⟩
/- impl.AreVersions -/
def ir255 : FnIr := ⟨0, 1, 32, [(2, none)], [],
  (.seq (.region false [] [] [⟨(some 2), .assign (.c false [(.bool false)]), none, []⟩])
  (.seq (.seq (.region false [5, 6, 7] [] [⟨(some 5), .move (.t 0), none, []⟩,
    ⟨(some 6), .len false (.t 5), none, []⟩,
    ⟨(some 7), .move (.c false [(.int .i64 0)]), none, []⟩])
  (.block 0 (.loop (.seq (.region false [8] [] [⟨(some 8), .bin .lss (.t 7) (.t 6), none, []⟩])
  (.seq (.cond (.t 8)
  .skip
  (.exit 0))
  (.seq (.block 1 (.seq (.region false [9, 10, 11] [9, 10, 11] [⟨(some 9), .move (.t 7), none, []⟩,
    ⟨(some 10), .iaddr 1 (.t 5) (.t 7), none, []⟩,
    ⟨(some 11), .load false 1 (.t 10), none, []⟩,
    ⟨(some 3), .assign (.t 9), none, []⟩,
    ⟨(some 4), .assign (.t 11), none, []⟩])
  (.seq (.region false [12, 13, 14, 15, 16, 17, 18, 19, 20, 21, 22, 23, 24, 25, 26, 27, 45] [12, 13, 14, 15, 16, 17, 18, 19, 20, 21, 22, 23, 24, 25, 26] [⟨(some 12), .move (.t 4), none, []⟩,
    ⟨(some 13), .call 232 [(.t 12), (.c false [(.int .i64 1)]), (.c false [(.int .i64 9)])], none, []⟩,
    ⟨(some 14), .un .not (.t 13), none, []⟩,
    ⟨(some 15), .move (.t 14), none, []⟩,
    ⟨(some 16), .move (.t 3), (some (15, false)), []⟩,
    ⟨(some 17), .bin .gtr (.t 16) (.c false [(.int .i64 0)]), (some (15, false)), []⟩,
    ⟨(some 18), .move (.t 17), (some (15, false)), []⟩,
    ⟨(some 19), .move (.t 0), (some (18, true)), []⟩,
    ⟨(some 20), .move (.t 3), (some (18, true)), []⟩,
    ⟨(some 21), .bin .sub (.t 20) (.c false [(.int .i64 1)]), (some (18, true)), []⟩,
    ⟨(some 22), .iaddr 1 (.t 19) (.t 21), (some (18, true)), []⟩,
    ⟨(some 23), .load false 1 (.t 22), (some (18, true)), []⟩,
    ⟨(some 24), .move (.t 4), (some (18, true)), []⟩,
    ⟨(some 25), .bin .geq (.t 23) (.t 24), (some (18, true)), []⟩,
    ⟨(some 26), .pick (.t 18) (.t 25) (.c false [(.bool false)]), (some (15, false)), []⟩,
    ⟨(some 27), .pick (.t 15) (.c false [(.bool true)]) (.t 26), none, []⟩])
  (.cond (.t 27)
  (.seq (.region false [] [] [⟨(some 2), .assign (.c false [(.bool false)]), none, []⟩])
  .ret)
  .skip))))
  (.region false [28] [28] [⟨(some 28), .bin .add (.t 7) (.c false [(.int .i64 1)]), none, []⟩,
    ⟨(some 7), .move (.t 28), none, []⟩])))))))
  (.seq (.region false [29, 30, 31] [29, 30, 31] [⟨(some 29), .move (.t 0), none, []⟩,
    ⟨(some 30), .len false (.t 29), none, []⟩,
    ⟨(some 31), .bin .gtr (.t 30) (.c false [(.int .i64 0)]), none, []⟩,
    ⟨(some 2), .assign (.t 31), none, []⟩])
  .ret)))⟩
/- slices.IndexFunc[[]int,int] -/
def ir377 : FnIr := ⟨0, 2, 19, [(4, none)], [],
  (.seq (.region false [] [] [⟨(some 4), .assign (.c false [(.int .i64 0)]), none, []⟩])
  (.seq (.seq (.region false [6, 7, 8] [6] [⟨(some 6), .move (.t 0), none, []⟩,
    ⟨(some 7), .len false (.t 6), none, []⟩,
    ⟨(some 8), .move (.c false [(.int .i64 0)]), none, []⟩])
  (.block 0 (.loop (.seq (.region false [9] [] [⟨(some 9), .bin .lss (.t 8) (.t 7), none, []⟩])
  (.seq (.cond (.t 9)
  .skip
  (.exit 0))
  (.seq (.block 1 (.seq (.region false [10] [10] [⟨(some 10), .move (.t 8), none, []⟩,
    ⟨(some 5), .assign (.t 10), none, []⟩])
  (.seq (.region false [11, 12, 13, 14, 15, 16, 35] [11, 12, 13, 14, 15] [⟨(some 11), .move (.t 1), none, []⟩,
    ⟨(some 12), .move (.t 0), none, []⟩,
    ⟨(some 13), .move (.t 5), none, []⟩,
    ⟨(some 14), .iaddr 1 (.t 12) (.t 13), none, []⟩,
    ⟨(some 15), .load false 1 (.t 14), none, []⟩,
    ⟨(some 16), .callv (.t 11) [(.t 15)], none, []⟩])
  (.cond (.t 16)
  (.seq (.region false [17] [17] [⟨(some 17), .move (.t 5), none, []⟩,
    ⟨(some 4), .assign (.t 17), none, []⟩])
  .ret)
  .skip))))
  (.region false [18] [18] [⟨(some 18), .bin .add (.t 8) (.c false [(.int .i64 1)]), none, []⟩,
    ⟨(some 8), .move (.t 18), none, []⟩])))))))
  (.seq (.region false [] [] [⟨(some 4), .assign (.c false [(.int .i64 (-1))]), none, []⟩])
  .ret)))⟩
/- slices.ContainsFunc[[]int,int] -/
def ir336 : FnIr := ⟨0, 2, 9, [(4, none)], [],
  (.seq (.region false [] [] [⟨(some 4), .assign (.c false [(.bool false)]), none, []⟩])
  (.seq (.region false [5, 6, 7, 8, 16] [5, 6, 7, 8] [⟨(some 5), .move (.t 0), none, []⟩,
    ⟨(some 6), .move (.t 1), none, []⟩,
    ⟨(some 7), .call 377 [(.t 5), (.t 6)], none, []⟩,
    ⟨(some 8), .bin .geq (.t 7) (.c false [(.int .i64 0)]), none, []⟩,
    ⟨(some 4), .assign (.t 8), none, []⟩])
  .ret))⟩
/- impl.areNumbers$1 -/
def ir340 : FnIr := ⟨0, 3, 10, [(4, none)], [],
  (.seq (.region false [] [] [⟨(some 4), .assign (.c false [(.bool false)]), none, []⟩])
  (.seq (.region false [5, 6, 7, 8, 9, 18] [5, 6, 7, 8, 9] [⟨(some 5), .move (.t 0), none, []⟩,
    ⟨(some 6), .load false 1 (.t 1), none, []⟩,
    ⟨(some 7), .load false 1 (.t 2), none, []⟩,
    ⟨(some 8), .call 232 [(.t 5), (.t 6), (.t 7)], none, []⟩,
    ⟨(some 9), .un .not (.t 8), none, []⟩,
    ⟨(some 4), .assign (.t 9), none, []⟩])
  .ret))⟩
/- impl.areNumbers -/
def ir233 : FnIr := ⟨0, 3, 11, [(6, none)], [],
  (.seq (.region false [4, 5, 15, 16] [] [⟨(some 4), .box (.t 1), none, []⟩,
    ⟨(some 5), .box (.t 2), none, []⟩,
    ⟨(some 6), .assign (.c false [(.bool false)]), none, []⟩])
  (.seq (.region false [7, 8, 9, 10, 20] [7, 8, 9, 10] [⟨(some 7), .move (.t 0), none, []⟩,
    ⟨(some 8), .mkfn 340 [4, 5], none, []⟩,
    ⟨(some 9), .call 336 [(.t 7), (.t 8)], none, []⟩,
    ⟨(some 10), .un .not (.t 9), none, []⟩,
    ⟨(some 6), .assign (.t 10), none, []⟩])
  .ret))⟩
/- impl.Ext] -/
def ir351 : FnIr := ⟨0, 2, 19, [(4, none)], [],
  (.seq (.region false [] [] [⟨(some 4), .assign (.c false [(.int .i64 0)]), none, []⟩])
  (.seq (.seq (.region false [6, 7, 8] [6] [⟨(some 6), .move (.t 0), none, []⟩,
    ⟨(some 7), .len false (.t 6), none, []⟩,
    ⟨(some 8), .move (.c false [(.int .i64 0)]), none, []⟩])
  (.block 0 (.loop (.seq (.region false [9] [] [⟨(some 9), .bin .lss (.t 8) (.t 7), none, []⟩])
  (.seq (.cond (.t 9)
  .skip
  (.exit 0))
  (.seq (.block 1 (.seq (.region false [10] [10] [⟨(some 10), .move (.t 8), none, []⟩,
    ⟨(some 5), .assign (.t 10), none, []⟩])
  (.seq (.region false [11, 12, 13, 14, 15, 16, 35] [11, 12, 13, 14, 15] [⟨(some 11), .move (.t 1), none, []⟩,
    ⟨(some 12), .move (.t 0), none, []⟩,
    ⟨(some 13), .move (.t 5), none, []⟩,
    ⟨(some 14), .iaddr 2 (.t 12) (.t 13), none, []⟩,
    ⟨(some 15), .load true 2 (.t 14), none, []⟩,
    ⟨(some 16), .callv (.t 11) [(.t 15)], none, []⟩])
  (.cond (.t 16)
  (.seq (.region false [17] [17] [⟨(some 17), .move (.t 5), none, []⟩,
    ⟨(some 4), .assign (.t 17), none, []⟩])
  .ret)
  .skip))))
  (.region false [18] [18] [⟨(some 18), .bin .add (.t 8) (.c false [(.int .i64 1)]), none, []⟩,
    ⟨(some 8), .move (.t 18), none, []⟩])))))))
  (.seq (.region false [] [] [⟨(some 4), .assign (.c false [(.int .i64 (-1))]), none, []⟩])
  .ret)))⟩
/- impl.ExtOf$1 -/
def ir352 : FnIr := ⟨0, 2, 8, [(3, none)], [],
  (.seq (.region false [2, 10] [] [⟨(some 2), .box (.t 0), none, []⟩,
    ⟨(some 3), .assign (.c false [(.bool false)]), none, []⟩])
  (.seq (.region false [4, 5, 6, 7] [4, 5, 6, 7] [⟨(some 4), .faddr 0 (.t 2), none, []⟩,
    ⟨(some 5), .load false 1 (.t 4), none, []⟩,
    ⟨(some 6), .load false 1 (.t 1), none, []⟩,
    ⟨(some 7), .bin .eql (.t 5) (.t 6), none, []⟩,
    ⟨(some 3), .assign (.t 7), none, []⟩])
  .ret))⟩
/- impl.ExtOf -/
def ir290 : FnIr := ⟨0, 2, 8, [(4, none)], [],
  (.seq (.region false [3, 11] [] [⟨(some 3), .box (.t 1), none, []⟩,
    ⟨(some 4), .assign (.c false [(.int .i64 0)]), none, []⟩])
  (.seq (.region false [5, 6, 7, 15] [5, 6, 7] [⟨(some 5), .move (.t 0), none, []⟩,
    ⟨(some 6), .mkfn 352 [3], none, []⟩,
    ⟨(some 7), .call 351 [(.t 5), (.t 6)], none, []⟩,
    ⟨(some 4), .assign (.t 7), none, []⟩])
  .ret))⟩
/- impl.AreExts -/
def ir258 : FnIr := ⟨0, 1, 41, [(2, none)], [],
  (.seq (.region false [] [] [⟨(some 2), .assign (.c false [(.bool false)]), none, []⟩])
  (.seq (.seq (.region false [5, 6, 7] [] [⟨(some 5), .move (.t 0), none, []⟩,
    ⟨(some 6), .len false (.t 5), none, []⟩,
    ⟨(some 7), .move (.c false [(.int .i64 0)]), none, []⟩])
  (.block 0 (.loop (.seq (.region false [8] [] [⟨(some 8), .bin .lss (.t 7) (.t 6), none, []⟩])
  (.seq (.cond (.t 8)
  .skip
  (.exit 0))
  (.seq (.block 1 (.seq (.region false [9, 10, 11, 4, 45] [9, 10, 11] [⟨(some 9), .move (.t 7), none, []⟩,
    ⟨(some 10), .iaddr 2 (.t 5) (.t 7), none, []⟩,
    ⟨(some 11), .load true 2 (.t 10), none, []⟩,
    ⟨(some 4), .alloc [(.int .i64 0), (.row () [])], none, []⟩,
    ⟨(some 3), .assign (.t 9), none, []⟩,
    ⟨none, .store 2 (.t 4) (.t 11), none, []⟩])
  (.seq (.region true [12, 13, 14, 15, 16, 17, 18, 19, 20, 21, 22, 23, 24, 25, 26, 27, 28, 29, 30, 31, 32, 33, 34, 35, 36, 55, 63, 75] [12, 13, 14, 15, 16, 17, 18, 19, 20, 21, 22, 23, 24, 25, 26, 27, 28, 29, 30, 31, 32, 33, 34, 35] [⟨(some 12), .faddr 0 (.t 4), none, []⟩,
    ⟨(some 13), .load false 1 (.t 12), none, [0]⟩,
    ⟨(some 14), .call 232 [(.t 13), (.c false [(.int .i64 0)]), (.c false [(.int .i64 255)])], none, [1, 0]⟩,
    ⟨(some 15), .un .not (.t 14), none, [2, 1, 0]⟩,
    ⟨(some 16), .move (.t 15), none, [3, 2, 1, 0]⟩,
    ⟨(some 17), .move (.t 0), (some (16, false)), [4, 3, 2, 1, 0]⟩,
    ⟨(some 18), .move (.t 3), (some (16, false)), [4, 3, 2, 1, 0]⟩,
    ⟨(some 19), .slice 2 (.t 17) none (some (.t 18)), (some (16, false)), [5, 4, 3, 2, 1, 0, 6]⟩,
    ⟨(some 20), .faddr 0 (.t 4), (some (16, false)), [4, 3, 2, 1, 0]⟩,
    ⟨(some 21), .load false 1 (.t 20), (some (16, false)), [8, 4, 3, 2, 1, 0]⟩,
    ⟨(some 22), .call 290 [(.t 19), (.t 21)], (some (16, false)), [7, 5, 4, 3, 2, 1, 0, 6, 9, 8]⟩,
    ⟨(some 23), .bin .geq (.t 22) (.c false [(.int .i64 0)]), (some (16, false)), [10, 7, 5, 4, 3, 2, 1, 0, 6, 9, 8]⟩,
    ⟨(some 24), .pick (.t 16) (.c false [(.bool true)]) (.t 23), none, [4, 3, 2, 1, 0, 11, 10, 7, 5, 6, 9, 8]⟩,
    ⟨(some 25), .move (.t 24), none, [12, 4, 3, 2, 1, 0, 11, 10, 7, 5, 6, 9, 8]⟩,
    ⟨(some 26), .faddr 1 (.t 4), (some (25, false)), [13, 12, 4, 3, 2, 1, 0, 11, 10, 7, 5, 6, 9, 8]⟩,
    ⟨(some 27), .load false 1 (.t 26), (some (25, false)), [14, 13, 12, 4, 3, 2, 1, 0, 11, 10, 7, 5, 6, 9, 8]⟩,
    ⟨(some 28), .len false (.t 27), (some (25, false)), [15, 14, 13, 12, 4, 3, 2, 1, 0, 11, 10, 7, 5, 6, 9, 8]⟩,
    ⟨(some 29), .bin .gtr (.t 28) (.c false [(.int .i64 4)]), (some (25, false)), [16, 15, 14, 13, 12, 4, 3, 2, 1, 0, 11, 10, 7, 5, 6, 9, 8]⟩,
    ⟨(some 30), .pick (.t 25) (.c false [(.bool true)]) (.t 29), none, [13, 12, 4, 3, 2, 1, 0, 11, 10, 7, 5, 6, 9, 8, 17, 16, 15, 14]⟩,
    ⟨(some 31), .move (.t 30), none, [18, 13, 12, 4, 3, 2, 1, 0, 11, 10, 7, 5, 6, 9, 8, 17, 16, 15, 14]⟩,
    ⟨(some 32), .faddr 1 (.t 4), (some (31, false)), [19, 18, 13, 12, 4, 3, 2, 1, 0, 11, 10, 7, 5, 6, 9, 8, 17, 16, 15, 14]⟩,
    ⟨(some 33), .load false 1 (.t 32), (some (31, false)), [20, 19, 18, 13, 12, 4, 3, 2, 1, 0, 11, 10, 7, 5, 6, 9, 8, 17, 16, 15, 14]⟩,
    ⟨(some 34), .call 233 [(.t 33), (.c false [(.int .i64 0)]), (.c false [(.int .i64 255)])], (some (31, false)), [21, 20, 19, 18, 13, 12, 4, 3, 2, 1, 0, 11, 10, 7, 5, 6, 9, 8, 17, 16, 15, 14]⟩,
    ⟨(some 35), .un .not (.t 34), (some (31, false)), [22, 21, 20, 19, 18, 13, 12, 4, 3, 2, 1, 0, 11, 10, 7, 5, 6, 9, 8, 17, 16, 15, 14]⟩,
    ⟨(some 36), .pick (.t 31) (.c false [(.bool true)]) (.t 35), none, [19, 18, 13, 12, 4, 3, 2, 1, 0, 11, 10, 7, 5, 6, 9, 8, 17, 16, 15, 14, 23, 22, 21, 20]⟩])
  (.cond (.t 36)
  (.seq (.region false [] [] [⟨(some 2), .assign (.c false [(.bool false)]), none, []⟩])
  .ret)
  .skip))))
  (.region false [37] [37] [⟨(some 37), .bin .add (.t 7) (.c false [(.int .i64 1)]), none, []⟩,
    ⟨(some 7), .move (.t 37), none, []⟩])))))))
  (.seq (.region false [38, 39, 40] [38, 39, 40] [⟨(some 38), .move (.t 0), none, []⟩,
    ⟨(some 39), .len false (.t 38), none, []⟩,
    ⟨(some 40), .bin .leq (.t 39) (.c false [(.int .i64 6)]), none, []⟩,
    ⟨(some 2), .assign (.t 40), none, []⟩])
  .ret)))⟩
/- impl.IsHello -/
def ir113 : FnIr := ⟨0, 1, 11, [(2, none)], [],
  (.seq (.region false [1, 12] [] [⟨(some 1), .box (.t 0), none, []⟩,
    ⟨(some 2), .assign (.c false [(.bool false)]), none, []⟩])
  (.seq (.region false [3, 4, 5, 6, 7, 8, 9, 10, 16, 20] [3, 4, 5, 6, 7, 8, 9, 10] [⟨(some 3), .faddr 0 (.t 1), none, []⟩,
    ⟨(some 4), .load false 1 (.t 3), none, []⟩,
    ⟨(some 5), .call 255 [(.t 4)], none, []⟩,
    ⟨(some 6), .move (.t 5), none, []⟩,
    ⟨(some 7), .faddr 1 (.t 1), (some (6, true)), []⟩,
    ⟨(some 8), .load false 1 (.t 7), (some (6, true)), []⟩,
    ⟨(some 9), .call 258 [(.t 8)], (some (6, true)), []⟩,
    ⟨(some 10), .pick (.t 6) (.t 9) (.c false [(.bool false)]), none, []⟩,
    ⟨(some 2), .assign (.t 10), none, []⟩])
  .ret))⟩
/- impl.keptExts -/
def ir264 : FnIr := ⟨0, 2, 31, [(4, none)], [],
  (.seq (.region false [] [] [⟨(some 4), .assign (.c false [(.row () [])]), none, []⟩])
  (.seq (.region false [8] [8] [⟨(some 8), .bslice [(.int .i64 0), (.row () [])] 0 [], none, []⟩,
    ⟨(some 5), .assign (.t 8), none, []⟩])
  (.seq (.seq (.region false [9, 10, 11] [] [⟨(some 9), .move (.t 0), none, []⟩,
    ⟨(some 10), .len false (.t 9), none, []⟩,
    ⟨(some 11), .move (.c false [(.int .i64 0)]), none, []⟩])
  (.block 0 (.loop (.seq (.region false [12] [] [⟨(some 12), .bin .lss (.t 11) (.t 10), none, []⟩])
  (.seq (.cond (.t 12)
  .skip
  (.exit 0))
  (.seq (.block 1 (.seq (.region false [13, 14, 7, 38] [13, 14] [⟨(some 13), .iaddr 2 (.t 9) (.t 11), none, []⟩,
    ⟨(some 14), .load true 2 (.t 13), none, []⟩,
    ⟨(some 7), .alloc [(.int .i64 0), (.row () [])], none, []⟩,
    ⟨none, .store 2 (.t 7) (.t 14), none, []⟩])
  (.seq (.region false [15, 16, 17, 18, 49] [15, 16, 17] [⟨(some 15), .move (.t 1), none, []⟩,
    ⟨(some 16), .faddr 0 (.t 7), none, []⟩,
    ⟨(some 17), .load false 1 (.t 16), none, []⟩,
    ⟨(some 18), .callv (.t 15) [(.t 17)], none, []⟩])
  (.cond (.t 18)
  (.region true [19, 20, 21, 22, 23, 24, 25, 26, 27, 28] [19, 20, 21, 22, 23, 24, 25, 26, 27, 28] [⟨(some 19), .move (.t 5), none, []⟩,
    ⟨(some 20), .faddr 0 (.t 7), none, []⟩,
    ⟨(some 21), .load false 1 (.t 20), none, [1]⟩,
    ⟨(some 22), .bslice [(.int .i64 0)] 0 [], none, []⟩,
    ⟨(some 23), .faddr 1 (.t 7), none, []⟩,
    ⟨(some 24), .load false 1 (.t 23), none, [4]⟩,
    ⟨(some 25), .append 1 (.t 22) (.t 24), none, [3, 5, 4]⟩,
    ⟨(some 26), .build [(.int .i64 0), (.row () [])] [(0, 1, (.t 21)), (1, 1, (.t 25))], none, [2, 1, 6, 3, 5, 4]⟩,
    ⟨(some 27), .bslice [(.int .i64 0), (.row () [])] 1 [(0, (.t 26))], none, [7, 2, 1, 6, 3, 5, 4]⟩,
    ⟨(some 28), .append 2 (.t 19) (.t 27), none, [0, 8, 7, 2, 1, 6, 3, 5, 4]⟩,
    ⟨(some 5), .assign (.t 28), none, [9, 0, 8, 7, 2, 1, 6, 3, 5, 4]⟩])
  .skip))))
  (.region false [29] [29] [⟨(some 29), .bin .add (.t 11) (.c false [(.int .i64 1)]), none, []⟩,
    ⟨(some 11), .move (.t 29), none, []⟩])))))))
  (.seq (.region false [30] [30] [⟨(some 30), .move (.t 5), none, []⟩,
    ⟨(some 4), .assign (.t 30), none, []⟩])
  .ret))))⟩
/- slices.Clone[[]int,int] -/
def ir299 : FnIr := ⟨1, 1, 8, [(2, none)], [],
  (.seq (.region false [] [] [⟨(some 2), .assign (.c false [(.row () [])]), none, []⟩])
  (.seq (.seq (.region false [3, 4] [3] [⟨(some 3), .move (.t 0), none, []⟩,
    ⟨(some 4), .bad, none, []⟩])
  (.cond (.t 4)
  (.seq (.region false [] [] [⟨(some 2), .assign (.c false [(.row () [])]), none, []⟩])
  .ret)
  .skip))
  (.seq (.region false [5, 6, 7] [5, 6, 7] [⟨(some 5), .bslice [(.int .i64 0)] 0 [], none, []⟩,
    ⟨(some 6), .move (.t 0), none, []⟩,
    ⟨(some 7), .append 1 (.t 5) (.t 6), none, []⟩,
    ⟨(some 2), .assign (.t 7), none, []⟩])
  .ret)))⟩
/- impl.Ext] -/
def ir288 : FnIr := ⟨0, 2, 9, [(4, none)], [],
  (.seq (.region false [] [] [⟨(some 4), .assign (.c false [(.bool false)]), none, []⟩])
  (.seq (.region false [5, 6, 7, 8, 16] [5, 6, 7, 8] [⟨(some 5), .move (.t 0), none, []⟩,
    ⟨(some 6), .move (.t 1), none, []⟩,
    ⟨(some 7), .call 351 [(.t 5), (.t 6)], none, []⟩,
    ⟨(some 8), .bin .geq (.t 7) (.c false [(.int .i64 0)]), none, []⟩,
    ⟨(some 4), .assign (.t 8), none, []⟩])
  .ret))⟩
/- spec.l9Has -/
def ir285 : FnIr := ⟨0, 2, 18, [(4, none)], [],
  (.seq (.region false [] [] [⟨(some 4), .assign (.c false [(.bool false)]), none, []⟩])
  (.seq (.seq (.region false [] [] [⟨(some 5), .assign (.c false [(.int .i64 0)]), none, []⟩])
  (.block 0 (.loop (.seq (.seq (.region false [6, 7, 8, 9] [6, 7, 8] [⟨(some 6), .move (.t 5), none, []⟩,
    ⟨(some 7), .move (.t 0), none, []⟩,
    ⟨(some 8), .len false (.t 7), none, []⟩,
    ⟨(some 9), .bin .lss (.t 6) (.t 8), none, []⟩])
  (.cond (.t 9)
  .skip
  (.exit 0)))
  (.seq (.block 1 (.seq (.region false [12, 13, 14, 15, 16, 17] [12, 13, 14, 15, 16] [⟨(some 12), .move (.t 0), none, []⟩,
    ⟨(some 13), .move (.t 5), none, []⟩,
    ⟨(some 14), .iaddr 1 (.t 12) (.t 13), none, []⟩,
    ⟨(some 15), .load false 1 (.t 14), none, []⟩,
    ⟨(some 16), .move (.t 1), none, []⟩,
    ⟨(some 17), .bin .eql (.t 15) (.t 16), none, []⟩])
  (.cond (.t 17)
  (.seq (.region false [] [] [⟨(some 4), .assign (.c false [(.bool true)]), none, []⟩])
  .ret)
  .skip)))
  (.region false [10, 11] [10, 11] [⟨(some 10), .move (.t 5), none, []⟩,
    ⟨(some 11), .bin .add (.t 10) (.c false [(.int .i64 1)]), none, []⟩,
    ⟨(some 5), .assign (.t 11), none, []⟩]))))))
  (.seq (.region false [] [] [⟨(some 4), .assign (.c false [(.bool false)]), none, []⟩])
  .ret)))⟩
/- spec.IsBox -/
def ir68 : FnIr := ⟨0, 1, 28, [(2, none)], [],
  (.seq (.region false [1, 29] [] [⟨(some 1), .box (.t 0), none, []⟩,
    ⟨(some 2), .assign (.c false [(.bool false)]), none, []⟩])
  (.seq (.region false [3, 4, 5, 6, 7, 8, 9, 10, 11, 12, 13, 14, 15, 16, 17, 18, 19, 20, 21, 22, 23, 24, 25, 26, 27, 33, 49, 54] [3, 4, 5, 6, 7, 8, 9, 10, 11, 12, 13, 14, 15, 16, 17, 18, 19, 20, 21, 22, 23, 24, 25, 26, 27] [⟨(some 3), .faddr 0 (.t 1), none, []⟩,
    ⟨(some 4), .load false 1 (.t 3), none, []⟩,
    ⟨(some 5), .call 230 [(.t 4), (.c false [(.int .i64 0)]), (.c false [(.int .i64 9)])], none, []⟩,
    ⟨(some 6), .move (.t 5), none, []⟩,
    ⟨(some 7), .faddr 1 (.t 1), (some (6, true)), []⟩,
    ⟨(some 8), .load false 1 (.t 7), (some (6, true)), []⟩,
    ⟨(some 9), .len false (.t 8), (some (6, true)), []⟩,
    ⟨(some 10), .bin .leq (.t 9) (.c false [(.int .i64 6)]), (some (6, true)), []⟩,
    ⟨(some 11), .pick (.t 6) (.t 10) (.c false [(.bool false)]), none, []⟩,
    ⟨(some 12), .move (.t 11), none, []⟩,
    ⟨(some 13), .faddr 2 (.t 1), (some (12, true)), []⟩,
    ⟨(some 14), .load false 1 (.t 13), (some (12, true)), []⟩,
    ⟨(some 15), .len false (.t 14), (some (12, true)), []⟩,
    ⟨(some 16), .bin .leq (.t 15) (.c false [(.int .i64 6)]), (some (12, true)), []⟩,
    ⟨(some 17), .pick (.t 12) (.t 16) (.c false [(.bool false)]), none, []⟩,
    ⟨(some 18), .move (.t 17), none, []⟩,
    ⟨(some 19), .faddr 1 (.t 1), (some (18, true)), []⟩,
    ⟨(some 20), .load false 1 (.t 19), (some (18, true)), []⟩,
    ⟨(some 21), .call 231 [(.t 20)], (some (18, true)), []⟩,
    ⟨(some 22), .pick (.t 18) (.t 21) (.c false [(.bool false)]), none, []⟩,
    ⟨(some 23), .move (.t 22), none, []⟩,
    ⟨(some 24), .faddr 2 (.t 1), (some (23, true)), []⟩,
    ⟨(some 25), .load false 1 (.t 24), (some (23, true)), []⟩,
    ⟨(some 26), .call 231 [(.t 25)], (some (23, true)), []⟩,
    ⟨(some 27), .pick (.t 23) (.t 26) (.c false [(.bool false)]), none, []⟩,
    ⟨(some 2), .assign (.t 27), none, []⟩])
  .ret))⟩
/- slices.Max[[]int,int] -/
def ir358 : FnIr := ⟨0, 1, 25, [(2, none)], [],
  (.seq (.region false [] [] [⟨(some 2), .assign (.c false [(.int .i64 0)]), none, []⟩])
  (.seq (.seq (.region false [5, 6, 7] [5, 6] [⟨(some 5), .move (.t 0), none, []⟩,
    ⟨(some 6), .len false (.t 5), none, []⟩,
    ⟨(some 7), .bin .lss (.t 6) (.c false [(.int .i64 1)]), none, []⟩])
  (.cond (.t 7)
  (.region false [8] [8] [⟨(some 8), .bad, none, []⟩,
    ⟨none, .bad, none, []⟩])
  .skip))
  (.seq (.region false [9, 10, 11] [9, 10, 11] [⟨(some 9), .move (.t 0), none, []⟩,
    ⟨(some 10), .iaddr 1 (.t 9) (.c false [(.int .i64 0)]), none, []⟩,
    ⟨(some 11), .load false 1 (.t 10), none, []⟩,
    ⟨(some 3), .assign (.t 11), none, []⟩])
  (.seq (.seq (.region false [] [] [⟨(some 4), .assign (.c false [(.int .i64 1)]), none, []⟩])
  (.block 0 (.loop (.seq (.seq (.region false [12, 13, 14, 15] [12, 13, 14] [⟨(some 12), .move (.t 4), none, []⟩,
    ⟨(some 13), .move (.t 0), none, []⟩,
    ⟨(some 14), .len false (.t 13), none, []⟩,
    ⟨(some 15), .bin .lss (.t 12) (.t 14), none, []⟩])
  (.cond (.t 15)
  .skip
  (.exit 0)))
  (.seq (.block 1 (.region false [18, 19, 20, 21, 22, 23] [18, 19, 20, 21, 22, 23] [⟨(some 18), .move (.t 3), none, []⟩,
    ⟨(some 19), .move (.t 0), none, []⟩,
    ⟨(some 20), .move (.t 4), none, []⟩,
    ⟨(some 21), .iaddr 1 (.t 19) (.t 20), none, []⟩,
    ⟨(some 22), .load false 1 (.t 21), none, []⟩,
    ⟨(some 23), .max (.t 18) (.t 22), none, []⟩,
    ⟨(some 3), .assign (.t 23), none, []⟩]))
  (.region false [16, 17] [16, 17] [⟨(some 16), .move (.t 4), none, []⟩,
    ⟨(some 17), .bin .add (.t 16) (.c false [(.int .i64 1)]), none, []⟩,
    ⟨(some 4), .assign (.t 17), none, []⟩]))))))
  (.seq (.region false [24] [24] [⟨(some 24), .move (.t 3), none, []⟩,
    ⟨(some 2), .assign (.t 24), none, []⟩])
  .ret)))))⟩
/- slices.Index[[]int,int] -/
def ir354 : FnIr := ⟨0, 2, 19, [(4, none)], [],
  (.seq (.region false [] [] [⟨(some 4), .assign (.c false [(.int .i64 0)]), none, []⟩])
  (.seq (.seq (.region false [6, 7, 8] [6] [⟨(some 6), .move (.t 0), none, []⟩,
    ⟨(some 7), .len false (.t 6), none, []⟩,
    ⟨(some 8), .move (.c false [(.int .i64 0)]), none, []⟩])
  (.block 0 (.loop (.seq (.region false [9] [] [⟨(some 9), .bin .lss (.t 8) (.t 7), none, []⟩])
  (.seq (.cond (.t 9)
  .skip
  (.exit 0))
  (.seq (.block 1 (.seq (.region false [10] [10] [⟨(some 10), .move (.t 8), none, []⟩,
    ⟨(some 5), .assign (.t 10), none, []⟩])
  (.seq (.region false [11, 12, 13, 14, 15, 16] [11, 12, 13, 14, 15] [⟨(some 11), .move (.t 1), none, []⟩,
    ⟨(some 12), .move (.t 0), none, []⟩,
    ⟨(some 13), .move (.t 5), none, []⟩,
    ⟨(some 14), .iaddr 1 (.t 12) (.t 13), none, []⟩,
    ⟨(some 15), .load false 1 (.t 14), none, []⟩,
    ⟨(some 16), .bin .eql (.t 11) (.t 15), none, []⟩])
  (.cond (.t 16)
  (.seq (.region false [17] [17] [⟨(some 17), .move (.t 5), none, []⟩,
    ⟨(some 4), .assign (.t 17), none, []⟩])
  .ret)
  .skip))))
  (.region false [18] [18] [⟨(some 18), .bin .add (.t 8) (.c false [(.int .i64 1)]), none, []⟩,
    ⟨(some 8), .move (.t 18), none, []⟩])))))))
  (.seq (.region false [] [] [⟨(some 4), .assign (.c false [(.int .i64 (-1))]), none, []⟩])
  .ret)))⟩
/- slices.Contains[[]int,int] -/
def ir302 : FnIr := ⟨0, 2, 9, [(4, none)], [],
  (.seq (.region false [] [] [⟨(some 4), .assign (.c false [(.bool false)]), none, []⟩])
  (.seq (.region false [5, 6, 7, 8, 16] [5, 6, 7, 8] [⟨(some 5), .move (.t 0), none, []⟩,
    ⟨(some 6), .move (.t 1), none, []⟩,
    ⟨(some 7), .call 354 [(.t 5), (.t 6)], none, []⟩,
    ⟨(some 8), .bin .geq (.t 7) (.c false [(.int .i64 0)]), none, []⟩,
    ⟨(some 4), .assign (.t 8), none, []⟩])
  .ret))⟩
/- impl.loses$1 -/
def ir359 : FnIr := ⟨0, 2, 27, [(3, none)], [],
  (.seq (.region false [2, 29] [] [⟨(some 2), .box (.t 0), none, []⟩,
    ⟨(some 3), .assign (.c false [(.bool false)]), none, []⟩])
  (.seq (.region false [4, 5, 6, 7, 8, 9, 10, 11, 12, 13, 14, 15, 16, 17, 18, 19, 20, 21, 22, 23, 24, 25, 26, 35, 44, 50] [4, 5, 6, 7, 8, 9, 10, 11, 12, 13, 14, 15, 16, 17, 18, 19, 20, 21, 22, 23, 24, 25, 26] [⟨(some 4), .faddr 1 (.t 1), none, []⟩,
    ⟨(some 5), .load false 1 (.t 4), none, []⟩,
    ⟨(some 6), .faddr 0 (.t 2), none, []⟩,
    ⟨(some 7), .load false 1 (.t 6), none, []⟩,
    ⟨(some 8), .call 302 [(.t 5), (.t 7)], none, []⟩,
    ⟨(some 9), .move (.t 8), none, []⟩,
    ⟨(some 10), .faddr 3 (.t 1), (some (9, false)), []⟩,
    ⟨(some 11), .load false 1 (.t 10), (some (9, false)), []⟩,
    ⟨(some 12), .move (.t 11), (some (9, false)), []⟩,
    ⟨(some 13), .faddr 2 (.t 1), (some (12, true)), []⟩,
    ⟨(some 14), .load false 1 (.t 13), (some (12, true)), []⟩,
    ⟨(some 15), .faddr 0 (.t 2), (some (12, true)), []⟩,
    ⟨(some 16), .load false 1 (.t 15), (some (12, true)), []⟩,
    ⟨(some 17), .call 302 [(.t 14), (.t 16)], (some (12, true)), []⟩,
    ⟨(some 18), .un .not (.t 17), (some (12, true)), []⟩,
    ⟨(some 19), .pick (.t 12) (.t 18) (.c false [(.bool false)]), (some (9, false)), []⟩,
    ⟨(some 20), .move (.t 19), (some (9, false)), []⟩,
    ⟨(some 21), .faddr 0 (.t 2), (some (20, true)), []⟩,
    ⟨(some 22), .load false 1 (.t 21), (some (20, true)), []⟩,
    ⟨(some 23), .call 232 [(.t 22), (.c false [(.int .i64 1)]), (.c false [(.int .i64 3)])], (some (20, true)), []⟩,
    ⟨(some 24), .un .not (.t 23), (some (20, true)), []⟩,
    ⟨(some 25), .pick (.t 20) (.t 24) (.c false [(.bool false)]), (some (9, false)), []⟩,
    ⟨(some 26), .pick (.t 9) (.c false [(.bool true)]) (.t 25), none, []⟩,
    ⟨(some 3), .assign (.t 26), none, []⟩])
  .ret))⟩
/- impl.loses -/
def ir310 : FnIr := ⟨0, 2, 20, [(4, none)], [],
  (.seq (.region false [2, 3, 22, 23] [] [⟨(some 2), .box (.t 0), none, []⟩,
    ⟨(some 3), .box (.t 1), none, []⟩,
    ⟨(some 4), .assign (.c false [(.bool false)]), none, []⟩])
  (.seq (.seq (.region true [5, 6, 7, 8, 9, 10, 11, 12, 13, 14, 15, 31] [5, 6, 7, 8, 9, 10, 11, 12, 13, 14] [⟨(some 5), .faddr 0 (.t 2), none, []⟩,
    ⟨(some 6), .load false 1 (.t 5), none, [0]⟩,
    ⟨(some 7), .bin .neq (.t 6) (.c false [(.int .i64 0)]), none, [1, 0]⟩,
    ⟨(some 8), .move (.t 7), none, [2, 1, 0]⟩,
    ⟨(some 9), .faddr 0 (.t 3), (some (8, true)), [3, 2, 1, 0]⟩,
    ⟨(some 10), .load false 1 (.t 9), (some (8, true)), [4, 3, 2, 1, 0]⟩,
    ⟨(some 11), .call 358 [(.t 10)], (some (8, true)), [5, 4, 3, 2, 1, 0]⟩,
    ⟨(some 12), .faddr 0 (.t 2), (some (8, true)), [3, 2, 1, 0]⟩,
    ⟨(some 13), .load false 1 (.t 12), (some (8, true)), [7, 3, 2, 1, 0]⟩,
    ⟨(some 14), .bin .gtr (.t 11) (.t 13), (some (8, true)), [6, 5, 4, 3, 2, 1, 0, 8, 7]⟩,
    ⟨(some 15), .pick (.t 8) (.t 14) (.c false [(.bool false)]), none, [3, 2, 1, 0, 9, 6, 5, 4, 8, 7]⟩])
  (.cond (.t 15)
  (.seq (.region false [] [] [⟨(some 4), .assign (.c false [(.bool true)]), none, []⟩])
  .ret)
  .skip))
  (.seq (.region false [16, 17, 18, 19, 39] [16, 17, 18, 19] [⟨(some 16), .faddr 1 (.t 3), none, []⟩,
    ⟨(some 17), .load false 1 (.t 16), none, []⟩,
    ⟨(some 18), .mkfn 359 [2], none, []⟩,
    ⟨(some 19), .call 288 [(.t 17), (.t 18)], none, []⟩,
    ⟨(some 4), .assign (.t 19), none, []⟩])
  .ret)))⟩
/- impl.PassBox$1 -/
def ir311 : FnIr := ⟨0, 2, 9, [(3, none)], [],
  (.seq (.region false [] [] [⟨(some 3), .assign (.c false [(.bool false)]), none, []⟩])
  (.seq (.region false [4, 5, 6, 7, 8, 16] [4, 5, 6, 7, 8] [⟨(some 4), .faddr 2 (.t 1), none, []⟩,
    ⟨(some 5), .load false 1 (.t 4), none, []⟩,
    ⟨(some 6), .move (.t 0), none, []⟩,
    ⟨(some 7), .call 302 [(.t 5), (.t 6)], none, []⟩,
    ⟨(some 8), .un .not (.t 7), none, []⟩,
    ⟨(some 3), .assign (.t 8), none, []⟩])
  .ret))⟩
/- impl.IsBox -/
def ir69 : FnIr := ⟨0, 1, 28, [(2, none)], [],
  (.seq (.region false [1, 29] [] [⟨(some 1), .box (.t 0), none, []⟩,
    ⟨(some 2), .assign (.c false [(.bool false)]), none, []⟩])
  (.seq (.region false [3, 4, 5, 6, 7, 8, 9, 10, 11, 12, 13, 14, 15, 16, 17, 18, 19, 20, 21, 22, 23, 24, 25, 26, 27, 33, 49, 54] [3, 4, 5, 6, 7, 8, 9, 10, 11, 12, 13, 14, 15, 16, 17, 18, 19, 20, 21, 22, 23, 24, 25, 26, 27] [⟨(some 3), .faddr 0 (.t 1), none, []⟩,
    ⟨(some 4), .load false 1 (.t 3), none, []⟩,
    ⟨(some 5), .call 232 [(.t 4), (.c false [(.int .i64 0)]), (.c false [(.int .i64 9)])], none, []⟩,
    ⟨(some 6), .move (.t 5), none, []⟩,
    ⟨(some 7), .faddr 1 (.t 1), (some (6, true)), []⟩,
    ⟨(some 8), .load false 1 (.t 7), (some (6, true)), []⟩,
    ⟨(some 9), .len false (.t 8), (some (6, true)), []⟩,
    ⟨(some 10), .bin .leq (.t 9) (.c false [(.int .i64 6)]), (some (6, true)), []⟩,
    ⟨(some 11), .pick (.t 6) (.t 10) (.c false [(.bool false)]), none, []⟩,
    ⟨(some 12), .move (.t 11), none, []⟩,
    ⟨(some 13), .faddr 2 (.t 1), (some (12, true)), []⟩,
    ⟨(some 14), .load false 1 (.t 13), (some (12, true)), []⟩,
    ⟨(some 15), .len false (.t 14), (some (12, true)), []⟩,
    ⟨(some 16), .bin .leq (.t 15) (.c false [(.int .i64 6)]), (some (12, true)), []⟩,
    ⟨(some 17), .pick (.t 12) (.t 16) (.c false [(.bool false)]), none, []⟩,
    ⟨(some 18), .move (.t 17), none, []⟩,
    ⟨(some 19), .faddr 1 (.t 1), (some (18, true)), []⟩,
    ⟨(some 20), .load false 1 (.t 19), (some (18, true)), []⟩,
    ⟨(some 21), .call 233 [(.t 20), (.c false [(.int .i64 0)]), (.c false [(.int .i64 255)])], (some (18, true)), []⟩,
    ⟨(some 22), .pick (.t 18) (.t 21) (.c false [(.bool false)]), none, []⟩,
    ⟨(some 23), .move (.t 22), none, []⟩,
    ⟨(some 24), .faddr 2 (.t 1), (some (23, true)), []⟩,
    ⟨(some 25), .load false 1 (.t 24), (some (23, true)), []⟩,
    ⟨(some 26), .call 233 [(.t 25), (.c false [(.int .i64 0)]), (.c false [(.int .i64 255)])], (some (23, true)), []⟩,
    ⟨(some 27), .pick (.t 23) (.t 26) (.c false [(.bool false)]), none, []⟩,
    ⟨(some 2), .assign (.t 27), none, []⟩])
  .ret))⟩
/- impl.PassBox -/
def ir174 : FnIr := ⟨0, 2, 28, [(4, (some (true, 2))), (5, none)], [],
  (.seq (.region false [2, 3, 4, 30, 31, 32] [] [⟨(some 2), .box (.t 0), none, []⟩,
    ⟨(some 3), .box (.t 1), none, []⟩,
    ⟨(some 4), .alloc [(.row () []), (.row () [])], none, []⟩,
    ⟨(some 5), .assign (.c false [(.bool false)]), none, []⟩])
  (.seq (.seq (.region false [6, 7, 8, 9, 10, 11, 12, 13, 14, 15, 16, 17, 18, 35, 39, 45] [6, 7, 8, 9, 10, 11, 12, 13, 14, 15, 16, 17] [⟨(some 6), .load true 4 (.t 2), none, []⟩,
    ⟨(some 7), .call 69 [(.t 6)], none, []⟩,
    ⟨(some 8), .un .not (.t 7), none, []⟩,
    ⟨(some 9), .move (.t 8), none, []⟩,
    ⟨(some 10), .load true 2 (.t 3), (some (9, false)), []⟩,
    ⟨(some 11), .call 113 [(.t 10)], (some (9, false)), []⟩,
    ⟨(some 12), .un .not (.t 11), (some (9, false)), []⟩,
    ⟨(some 13), .pick (.t 9) (.c false [(.bool true)]) (.t 12), none, []⟩,
    ⟨(some 14), .move (.t 13), none, []⟩,
    ⟨(some 15), .load true 4 (.t 2), (some (14, false)), []⟩,
    ⟨(some 16), .load true 2 (.t 3), (some (14, false)), []⟩,
    ⟨(some 17), .call 310 [(.t 15), (.t 16)], (some (14, false)), []⟩,
    ⟨(some 18), .pick (.t 14) (.c false [(.bool true)]) (.t 17), none, []⟩])
  (.cond (.t 18)
  (.seq (.region false [19] [19] [⟨(some 19), .build [(.row () []), (.row () [])] [], none, []⟩,
    ⟨none, .store 2 (.t 4) (.t 19), none, []⟩,
    ⟨(some 5), .assign (.c false [(.bool false)]), none, []⟩])
  .ret)
  .skip))
  (.seq (.region true [20, 21, 22, 23, 24, 25, 26, 27, 50, 54] [20, 21, 22, 23, 24, 25, 26, 27] [⟨(some 20), .faddr 0 (.t 3), none, []⟩,
    ⟨(some 21), .load false 1 (.t 20), none, [0]⟩,
    ⟨(some 22), .call 299 [(.t 21)], none, [1, 0]⟩,
    ⟨(some 23), .faddr 1 (.t 3), none, []⟩,
    ⟨(some 24), .load false 1 (.t 23), none, [3]⟩,
    ⟨(some 25), .mkfn 311 [2], none, []⟩,
    ⟨(some 26), .call 264 [(.t 24), (.t 25)], none, [4, 3, 5, 2, 1, 0]⟩,
    ⟨(some 27), .build [(.row () []), (.row () [])] [(0, 1, (.t 22)), (1, 1, (.t 26))], none, [2, 1, 0, 6, 4, 3, 5]⟩,
    ⟨none, .store 2 (.t 4) (.t 27), none, [7, 2, 1, 0, 6, 4, 3, 5]⟩,
    ⟨(some 5), .assign (.c false [(.bool true)]), none, [8, 7, 2, 1, 0, 6, 4, 3, 5]⟩])
  .ret)))⟩
/- impl.copyExts$1 -/
def ir347 : FnIr := ⟨0, 1, 3, [(2, none)], [],
  (.seq (.region false [] [] [⟨(some 2), .assign (.c false [(.bool false)]), none, []⟩])
  (.seq (.region false [] [] [⟨(some 2), .assign (.c false [(.bool true)]), none, []⟩])
  .ret))⟩
/- impl.copyExts -/
def ir266 : FnIr := ⟨0, 1, 5, [(2, none)], [],
  (.seq (.region false [] [] [⟨(some 2), .assign (.c false [(.row () [])]), none, []⟩])
  (.seq (.region false [3, 4, 9] [3, 4] [⟨(some 3), .move (.t 0), none, []⟩,
    ⟨(some 4), .call 264 [(.t 3), (.f 347)], none, []⟩,
    ⟨(some 2), .assign (.t 4), none, []⟩])
  .ret))⟩
/- impl.copyHello -/
def ir261 : FnIr := ⟨0, 1, 11, [(2, (some (true, 2)))], [],
  (.seq (.region false [1, 2, 12, 13] [] [⟨(some 1), .box (.t 0), none, []⟩,
    ⟨(some 2), .alloc [(.row () []), (.row () [])], none, []⟩])
  (.seq (.region true [3, 4, 5, 6, 7, 8, 9, 10, 20] [3, 4, 5, 6, 7, 8, 9, 10] [⟨(some 3), .bslice [(.int .i64 0)] 0 [], none, []⟩,
    ⟨(some 4), .faddr 0 (.t 1), none, []⟩,
    ⟨(some 5), .load false 1 (.t 4), none, [1]⟩,
    ⟨(some 6), .append 1 (.t 3) (.t 5), none, [0, 2, 1]⟩,
    ⟨(some 7), .faddr 1 (.t 1), none, []⟩,
    ⟨(some 8), .load false 1 (.t 7), none, [4]⟩,
    ⟨(some 9), .call 266 [(.t 8)], none, [5, 4, 3, 0, 2, 1]⟩,
    ⟨(some 10), .build [(.row () []), (.row () [])] [(0, 1, (.t 6)), (1, 1, (.t 9))], none, [3, 0, 2, 1, 6, 5, 4]⟩,
    ⟨none, .store 2 (.t 2) (.t 10), none, [7, 3, 0, 2, 1, 6, 5, 4]⟩])
  .ret))⟩
/- impl.PassPath -/
def ir182 : FnIr := ⟨0, 2, 40, [(4, (some (true, 2))), (5, none)], [],
  (.seq (.region false [3, 4, 43, 44] [] [⟨(some 3), .box (.t 1), none, []⟩,
    ⟨(some 4), .alloc [(.row () []), (.row () [])], none, []⟩,
    ⟨(some 5), .assign (.c false [(.bool false)]), none, []⟩])
  (.seq (.seq (.region false [9, 10, 11, 12, 13, 14, 15, 16, 50] [9, 10, 11, 12, 13, 14, 15] [⟨(some 9), .load true 2 (.t 3), none, []⟩,
    ⟨(some 10), .call 113 [(.t 9)], none, []⟩,
    ⟨(some 11), .un .not (.t 10), none, []⟩,
    ⟨(some 12), .move (.t 11), none, []⟩,
    ⟨(some 13), .move (.t 0), (some (12, false)), []⟩,
    ⟨(some 14), .len false (.t 13), (some (12, false)), []⟩,
    ⟨(some 15), .bin .gtr (.t 14) (.c false [(.int .i64 4)]), (some (12, false)), []⟩,
    ⟨(some 16), .pick (.t 12) (.c false [(.bool true)]) (.t 15), none, []⟩])
  (.cond (.t 16)
  (.seq (.region false [17] [17] [⟨(some 17), .build [(.row () []), (.row () [])] [], none, []⟩,
    ⟨none, .store 2 (.t 4) (.t 17), none, []⟩,
    ⟨(some 5), .assign (.c false [(.bool false)]), none, []⟩])
  .ret)
  .skip))
  (.seq (.region false [18, 19, 6, 59, 46] [18, 19] [⟨(some 18), .load true 2 (.t 3), none, []⟩,
    ⟨(some 19), .call 261 [(.t 18)], none, []⟩,
    ⟨(some 6), .alloc [(.row () []), (.row () [])], none, []⟩,
    ⟨none, .store 2 (.t 6) (.t 19), none, []⟩,
    ⟨(some 7), .assign (.c false [(.bool true)]), none, []⟩])
  (.seq (.seq (.region false [] [] [⟨(some 8), .assign (.c false [(.int .i64 0)]), none, []⟩])
  (.block 0 (.loop (.seq (.seq (.region false [20, 21, 22, 23, 24, 25, 26] [20, 21, 22, 23, 24, 25] [⟨(some 20), .move (.t 8), none, []⟩,
    ⟨(some 21), .move (.t 0), none, []⟩,
    ⟨(some 22), .len false (.t 21), none, []⟩,
    ⟨(some 23), .bin .lss (.t 20) (.t 22), none, []⟩,
    ⟨(some 24), .move (.t 23), none, []⟩,
    ⟨(some 25), .move (.t 7), (some (24, true)), []⟩,
    ⟨(some 26), .pick (.t 24) (.t 25) (.c false [(.bool false)]), none, []⟩])
  (.cond (.t 26)
  .skip
  (.exit 0)))
  (.seq (.block 1 (.region true [30, 31, 32, 33, 34, 35, 29, 36, 37, 75] [30, 31, 32, 33, 34, 35, 29, 36, 37] [⟨(some 30), .move (.t 0), none, []⟩,
    ⟨(some 31), .move (.t 8), none, []⟩,
    ⟨(some 32), .iaddr 4 (.t 30) (.t 31), none, [0, 1]⟩,
    ⟨(some 33), .load true 4 (.t 32), none, [2, 0, 1]⟩,
    ⟨(some 34), .load true 2 (.t 6), none, []⟩,
    ⟨(some 35), .call 174 [(.t 33), (.t 34)], none, [3, 2, 0, 1, 4]⟩,
    ⟨(some 29), .move (.t 35), none, [5, 3, 2, 0, 1, 4]⟩,
    ⟨(some 36), .extract 0 (.t 29), none, [6, 5, 3, 2, 0, 1, 4]⟩,
    ⟨(some 37), .extract 1 (.t 29), none, [6, 5, 3, 2, 0, 1, 4]⟩,
    ⟨none, .store 2 (.t 6) (.t 36), none, [7, 6, 5, 3, 2, 0, 1, 4]⟩,
    ⟨(some 7), .assign (.t 37), none, [8, 6, 5, 3, 2, 0, 1, 4, 9, 7]⟩]))
  (.region false [27, 28] [27, 28] [⟨(some 27), .move (.t 8), none, []⟩,
    ⟨(some 28), .bin .add (.t 27) (.c false [(.int .i64 1)]), none, []⟩,
    ⟨(some 8), .assign (.t 28), none, []⟩]))))))
  (.seq (.region false [38, 39] [38, 39] [⟨(some 38), .load true 2 (.t 6), none, []⟩,
    ⟨(some 39), .move (.t 7), none, []⟩,
    ⟨none, .store 2 (.t 4) (.t 38), none, []⟩,
    ⟨(some 5), .assign (.t 39), none, []⟩])
  .ret)))))⟩
/- spec.PassBox -/
def ir173 : FnIr := ⟨0, 2, 95, [(4, (some (true, 2))), (5, none)], [],
  (.seq (.region false [2, 3, 4, 97, 98, 99] [] [⟨(some 2), .box (.t 0), none, []⟩,
    ⟨(some 3), .box (.t 1), none, []⟩,
    ⟨(some 4), .alloc [(.row () []), (.row () [])], none, []⟩,
    ⟨(some 5), .assign (.c false [(.bool false)]), none, []⟩])
  (.seq (.seq (.region true [10, 11, 12, 13, 14, 15, 16, 17, 18, 19, 20, 21, 22, 23, 24, 25, 26, 27, 28, 29, 30, 31, 32, 33, 34, 35, 106, 110] [10, 11, 12, 13, 14, 15, 16, 17, 18, 19, 20, 21, 22, 23, 24, 25, 26, 27, 28, 29, 30, 31, 32, 33, 34] [⟨(some 10), .load true 4 (.t 2), none, []⟩,
    ⟨(some 11), .call 68 [(.t 10)], none, [0]⟩,
    ⟨(some 12), .un .not (.t 11), none, [1, 0]⟩,
    ⟨(some 13), .move (.t 12), none, [2, 1, 0]⟩,
    ⟨(some 14), .load true 2 (.t 3), (some (13, false)), [3, 2, 1, 0]⟩,
    ⟨(some 15), .call 142 [(.t 14)], (some (13, false)), [4, 3, 2, 1, 0]⟩,
    ⟨(some 16), .un .not (.t 15), (some (13, false)), [5, 4, 3, 2, 1, 0]⟩,
    ⟨(some 17), .pick (.t 13) (.c false [(.bool true)]) (.t 16), none, [3, 2, 1, 0, 6, 5, 4]⟩,
    ⟨(some 18), .move (.t 17), none, [7, 3, 2, 1, 0, 6, 5, 4]⟩,
    ⟨(some 19), .faddr 0 (.t 2), (some (18, false)), [8, 7, 3, 2, 1, 0, 6, 5, 4]⟩,
    ⟨(some 20), .load false 1 (.t 19), (some (18, false)), [9, 8, 7, 3, 2, 1, 0, 6, 5, 4]⟩,
    ⟨(some 21), .bin .gtr (.t 20) (.c false [(.int .i64 0)]), (some (18, false)), [10, 9, 8, 7, 3, 2, 1, 0, 6, 5, 4]⟩,
    ⟨(some 22), .move (.t 21), (some (18, false)), [11, 10, 9, 8, 7, 3, 2, 1, 0, 6, 5, 4]⟩,
    ⟨(some 23), .faddr 0 (.t 3), (some (22, true)), [12, 11, 10, 9, 8, 7, 3, 2, 1, 0, 6, 5, 4]⟩,
    ⟨(some 24), .load false 1 (.t 23), (some (22, true)), [13, 12, 11, 10, 9, 8, 7, 3, 2, 1, 0, 6, 5, 4]⟩,
    ⟨(some 25), .faddr 0 (.t 3), (some (22, true)), [12, 11, 10, 9, 8, 7, 3, 2, 1, 0, 6, 5, 4]⟩,
    ⟨(some 26), .load false 1 (.t 25), (some (22, true)), [15, 12, 11, 10, 9, 8, 7, 3, 2, 1, 0, 6, 5, 4]⟩,
    ⟨(some 27), .len false (.t 26), (some (22, true)), [16, 15, 12, 11, 10, 9, 8, 7, 3, 2, 1, 0, 6, 5, 4]⟩,
    ⟨(some 28), .bin .sub (.t 27) (.c false [(.int .i64 1)]), (some (22, true)), [17, 16, 15, 12, 11, 10, 9, 8, 7, 3, 2, 1, 0, 6, 5, 4]⟩,
    ⟨(some 29), .iaddr 1 (.t 24) (.t 28), (some (22, true)), [14, 13, 12, 11, 10, 9, 8, 7, 3, 2, 1, 0, 6, 5, 4, 18, 17, 16, 15]⟩,
    ⟨(some 30), .load false 1 (.t 29), (some (22, true)), [19, 14, 13, 12, 11, 10, 9, 8, 7, 3, 2, 1, 0, 6, 5, 4, 18, 17, 16, 15]⟩,
    ⟨(some 31), .faddr 0 (.t 2), (some (22, true)), [12, 11, 10, 9, 8, 7, 3, 2, 1, 0, 6, 5, 4]⟩,
    ⟨(some 32), .load false 1 (.t 31), (some (22, true)), [21, 12, 11, 10, 9, 8, 7, 3, 2, 1, 0, 6, 5, 4]⟩,
    ⟨(some 33), .bin .gtr (.t 30) (.t 32), (some (22, true)), [20, 19, 14, 13, 12, 11, 10, 9, 8, 7, 3, 2, 1, 0, 6, 5, 4, 18, 17, 16, 15, 22, 21]⟩,
    ⟨(some 34), .pick (.t 22) (.t 33) (.c false [(.bool false)]), (some (18, false)), [12, 11, 10, 9, 8, 7, 3, 2, 1, 0, 6, 5, 4, 23, 20, 19, 14, 13, 18, 17, 16, 15, 22, 21]⟩,
    ⟨(some 35), .pick (.t 18) (.c false [(.bool true)]) (.t 34), none, [8, 7, 3, 2, 1, 0, 6, 5, 4, 24, 12, 11, 10, 9, 23, 20, 19, 14, 13, 18, 17, 16, 15, 22, 21]⟩])
  (.cond (.t 35)
  (.seq (.region false [36] [36] [⟨(some 36), .build [(.row () []), (.row () [])] [], none, []⟩,
    ⟨none, .store 2 (.t 4) (.t 36), none, []⟩,
    ⟨(some 5), .assign (.c false [(.bool false)]), none, []⟩])
  .ret)
  .skip))
  (.seq (.region false [37, 38, 39, 40, 41, 6, 101] [37, 38, 39, 40, 41] [⟨(some 37), .bslice [(.int .i64 0)] 0 [], none, []⟩,
    ⟨(some 38), .faddr 0 (.t 3), none, []⟩,
    ⟨(some 39), .load false 1 (.t 38), none, []⟩,
    ⟨(some 40), .append 1 (.t 37) (.t 39), none, []⟩,
    ⟨(some 41), .build [(.row () []), (.row () [])] [(0, 1, (.t 40))], none, []⟩,
    ⟨(some 6), .alloc [(.row () []), (.row () [])], none, []⟩,
    ⟨none, .store 2 (.t 6) (.t 41), none, []⟩])
  (.seq (.seq (.region false [] [] [⟨(some 7), .assign (.c false [(.int .i64 0)]), none, []⟩])
  (.block 0 (.loop (.seq (.seq (.region false [42, 43, 44, 45, 46] [42, 43, 44, 45] [⟨(some 42), .move (.t 7), none, []⟩,
    ⟨(some 43), .faddr 1 (.t 3), none, []⟩,
    ⟨(some 44), .load false 1 (.t 43), none, []⟩,
    ⟨(some 45), .len false (.t 44), none, []⟩,
    ⟨(some 46), .bin .lss (.t 42) (.t 45), none, []⟩])
  (.cond (.t 46)
  .skip
  (.exit 0)))
  (.seq (.block 1 (.seq (.region false [49, 50, 51, 52, 53, 54] [49, 50, 51, 52, 53, 54] [⟨(some 49), .faddr 1 (.t 3), none, []⟩,
    ⟨(some 50), .load false 1 (.t 49), none, []⟩,
    ⟨(some 51), .move (.t 7), none, []⟩,
    ⟨(some 52), .iaddr 2 (.t 50) (.t 51), none, []⟩,
    ⟨(some 53), .faddr 0 (.t 52), none, []⟩,
    ⟨(some 54), .load false 1 (.t 53), none, []⟩,
    ⟨(some 8), .assign (.t 54), none, []⟩])
  (.seq (.region false [55, 56, 57, 58, 153] [55, 56, 57, 58] [⟨(some 55), .faddr 2 (.t 2), none, []⟩,
    ⟨(some 56), .load false 1 (.t 55), none, []⟩,
    ⟨(some 57), .move (.t 8), none, []⟩,
    ⟨(some 58), .call 285 [(.t 56), (.t 57)], none, []⟩,
    ⟨(some 9), .assign (.t 58), none, []⟩])
  (.seq (.seq (.region false [59, 60, 61, 62, 63, 64, 65, 66, 67, 68, 69, 70, 71, 72, 73, 74, 75, 157, 167] [59, 60, 61, 62, 63, 64, 65, 66, 67, 68, 69, 70, 71, 72, 73, 74] [⟨(some 59), .faddr 1 (.t 2), none, []⟩,
    ⟨(some 60), .load false 1 (.t 59), none, []⟩,
    ⟨(some 61), .move (.t 8), none, []⟩,
    ⟨(some 62), .call 285 [(.t 60), (.t 61)], none, []⟩,
    ⟨(some 63), .move (.t 62), none, []⟩,
    ⟨(some 64), .faddr 3 (.t 2), (some (63, false)), []⟩,
    ⟨(some 65), .load false 1 (.t 64), (some (63, false)), []⟩,
    ⟨(some 66), .move (.t 65), (some (63, false)), []⟩,
    ⟨(some 67), .move (.t 9), (some (66, true)), []⟩,
    ⟨(some 68), .un .not (.t 67), (some (66, true)), []⟩,
    ⟨(some 69), .pick (.t 66) (.t 68) (.c false [(.bool false)]), (some (63, false)), []⟩,
    ⟨(some 70), .move (.t 69), (some (63, false)), []⟩,
    ⟨(some 71), .move (.t 8), (some (70, true)), []⟩,
    ⟨(some 72), .call 230 [(.t 71), (.c false [(.int .i64 1)]), (.c false [(.int .i64 3)])], (some (70, true)), []⟩,
    ⟨(some 73), .un .not (.t 72), (some (70, true)), []⟩,
    ⟨(some 74), .pick (.t 70) (.t 73) (.c false [(.bool false)]), (some (63, false)), []⟩,
    ⟨(some 75), .pick (.t 63) (.c false [(.bool true)]) (.t 74), none, []⟩])
  (.cond (.t 75)
  (.seq (.region false [76] [76] [⟨(some 76), .build [(.row () []), (.row () [])] [], none, []⟩,
    ⟨none, .store 2 (.t 4) (.t 76), none, []⟩,
    ⟨(some 5), .assign (.c false [(.bool false)]), none, []⟩])
  .ret)
  .skip))
  (.seq (.region false [77, 78] [77] [⟨(some 77), .move (.t 9), none, []⟩,
    ⟨(some 78), .un .not (.t 77), none, []⟩])
  (.cond (.t 78)
  (.region true [79, 80, 81, 82, 83, 84, 85, 86, 87, 88, 89, 90, 91, 92, 93] [79, 80, 81, 82, 83, 84, 85, 86, 87, 88, 89, 90, 91, 92, 93] [⟨(some 79), .faddr 1 (.t 6), none, []⟩,
    ⟨(some 80), .load false 1 (.t 79), none, [0]⟩,
    ⟨(some 81), .move (.t 8), none, []⟩,
    ⟨(some 82), .bslice [(.int .i64 0)] 0 [], none, []⟩,
    ⟨(some 83), .faddr 1 (.t 3), none, []⟩,
    ⟨(some 84), .load false 1 (.t 83), none, [4]⟩,
    ⟨(some 85), .move (.t 7), none, []⟩,
    ⟨(some 86), .iaddr 2 (.t 84) (.t 85), none, [5, 4, 6]⟩,
    ⟨(some 87), .faddr 1 (.t 86), none, [7, 5, 4, 6]⟩,
    ⟨(some 88), .load false 1 (.t 87), none, [8, 7, 5, 4, 6]⟩,
    ⟨(some 89), .append 1 (.t 82) (.t 88), none, [3, 9, 8, 7, 5, 4, 6]⟩,
    ⟨(some 90), .build [(.int .i64 0), (.row () [])] [(0, 1, (.t 81)), (1, 1, (.t 89))], none, [2, 10, 3, 9, 8, 7, 5, 4, 6]⟩,
    ⟨(some 91), .bslice [(.int .i64 0), (.row () [])] 1 [(0, (.t 90))], none, [11, 2, 10, 3, 9, 8, 7, 5, 4, 6]⟩,
    ⟨(some 92), .append 2 (.t 80) (.t 91), none, [1, 0, 12, 11, 2, 10, 3, 9, 8, 7, 5, 4, 6]⟩,
    ⟨(some 93), .faddr 1 (.t 6), none, [0, 1, 2, 3, 4, 5, 6, 7, 8, 9, 10, 11, 12, 13]⟩,
    ⟨none, .store 1 (.t 93) (.t 92), none, [14, 0, 1, 2, 3, 4, 5, 6, 7, 8, 9, 10, 11, 12, 13]⟩])
  .skip))))))
  (.region false [47, 48] [47, 48] [⟨(some 47), .move (.t 7), none, []⟩,
    ⟨(some 48), .bin .add (.t 47) (.c false [(.int .i64 1)]), none, []⟩,
    ⟨(some 7), .assign (.t 48), none, []⟩]))))))
  (.seq (.region false [94] [94] [⟨(some 94), .load true 2 (.t 6), none, []⟩,
    ⟨none, .store 2 (.t 4) (.t 94), none, []⟩,
    ⟨(some 5), .assign (.c false [(.bool true)]), none, []⟩])
  .ret)))))⟩
/- spec.TagsOf -/
def ir280 : FnIr := ⟨0, 1, 21, [(2, none)], [],
  (.seq (.region false [] [] [⟨(some 2), .assign (.c false [(.row () [])]), none, []⟩])
  (.seq (.region false [5] [5] [⟨(some 5), .bslice [(.int .i64 0)] 0 [], none, []⟩,
    ⟨(some 3), .assign (.t 5), none, []⟩])
  (.seq (.seq (.region false [] [] [⟨(some 4), .assign (.c false [(.int .i64 0)]), none, []⟩])
  (.block 0 (.loop (.seq (.seq (.region false [6, 7, 8, 9] [6, 7, 8] [⟨(some 6), .move (.t 4), none, []⟩,
    ⟨(some 7), .move (.t 0), none, []⟩,
    ⟨(some 8), .len false (.t 7), none, []⟩,
    ⟨(some 9), .bin .lss (.t 6) (.t 8), none, []⟩])
  (.cond (.t 9)
  .skip
  (.exit 0)))
  (.seq (.block 1 (.region false [12, 13, 14, 15, 16, 17, 18, 19] [12, 13, 14, 15, 16, 17, 18, 19] [⟨(some 12), .move (.t 3), none, []⟩,
    ⟨(some 13), .move (.t 0), none, []⟩,
    ⟨(some 14), .move (.t 4), none, []⟩,
    ⟨(some 15), .iaddr 2 (.t 13) (.t 14), none, []⟩,
    ⟨(some 16), .faddr 0 (.t 15), none, []⟩,
    ⟨(some 17), .load false 1 (.t 16), none, []⟩,
    ⟨(some 18), .bslice [(.int .i64 0)] 1 [(0, (.t 17))], none, []⟩,
    ⟨(some 19), .append 1 (.t 12) (.t 18), none, []⟩,
    ⟨(some 3), .assign (.t 19), none, []⟩]))
  (.region false [10, 11] [10, 11] [⟨(some 10), .move (.t 4), none, []⟩,
    ⟨(some 11), .bin .add (.t 10) (.c false [(.int .i64 1)]), none, []⟩,
    ⟨(some 4), .assign (.t 11), none, []⟩]))))))
  (.seq (.region false [20] [20] [⟨(some 20), .move (.t 3), none, []⟩,
    ⟨(some 2), .assign (.t 20), none, []⟩])
  .ret))))⟩
/- spec.KnownOf -/
def ir307 : FnIr := ⟨0, 2, 38, [(4, none)], [],
  (.seq (.region false [] [] [⟨(some 4), .assign (.c false [(.row () [])]), none, []⟩])
  (.seq (.region false [7] [7] [⟨(some 7), .bslice [(.int .i64 0), (.row () [])] 0 [], none, []⟩,
    ⟨(some 5), .assign (.t 7), none, []⟩])
  (.seq (.seq (.region false [] [] [⟨(some 6), .assign (.c false [(.int .i64 0)]), none, []⟩])
  (.block 0 (.loop (.seq (.seq (.region false [8, 9, 10, 11] [8, 9, 10] [⟨(some 8), .move (.t 6), none, []⟩,
    ⟨(some 9), .move (.t 0), none, []⟩,
    ⟨(some 10), .len false (.t 9), none, []⟩,
    ⟨(some 11), .bin .lss (.t 8) (.t 10), none, []⟩])
  (.cond (.t 11)
  .skip
  (.exit 0)))
  (.seq (.block 1 (.seq (.region false [14, 15, 16, 17, 18, 19, 20, 58] [14, 15, 16, 17, 18, 19] [⟨(some 14), .move (.t 1), none, []⟩,
    ⟨(some 15), .move (.t 0), none, []⟩,
    ⟨(some 16), .move (.t 6), none, []⟩,
    ⟨(some 17), .iaddr 2 (.t 15) (.t 16), none, []⟩,
    ⟨(some 18), .faddr 0 (.t 17), none, []⟩,
    ⟨(some 19), .load false 1 (.t 18), none, []⟩,
    ⟨(some 20), .call 285 [(.t 14), (.t 19)], none, []⟩])
  (.cond (.t 20)
  (.region true [21, 22, 23, 24, 25, 26, 27, 28, 29, 30, 31, 32, 33, 34, 35, 36] [21, 22, 23, 24, 25, 26, 27, 28, 29, 30, 31, 32, 33, 34, 35, 36] [⟨(some 21), .move (.t 5), none, []⟩,
    ⟨(some 22), .move (.t 0), none, []⟩,
    ⟨(some 23), .move (.t 6), none, []⟩,
    ⟨(some 24), .iaddr 2 (.t 22) (.t 23), none, [1, 2]⟩,
    ⟨(some 25), .faddr 0 (.t 24), none, [3, 1, 2]⟩,
    ⟨(some 26), .load false 1 (.t 25), none, [4, 3, 1, 2]⟩,
    ⟨(some 27), .bslice [(.int .i64 0)] 0 [], none, []⟩,
    ⟨(some 28), .move (.t 0), none, []⟩,
    ⟨(some 29), .move (.t 6), none, []⟩,
    ⟨(some 30), .iaddr 2 (.t 28) (.t 29), none, [7, 8]⟩,
    ⟨(some 31), .faddr 1 (.t 30), none, [9, 7, 8]⟩,
    ⟨(some 32), .load false 1 (.t 31), none, [10, 9, 7, 8]⟩,
    ⟨(some 33), .append 1 (.t 27) (.t 32), none, [6, 11, 10, 9, 7, 8]⟩,
    ⟨(some 34), .build [(.int .i64 0), (.row () [])] [(0, 1, (.t 26)), (1, 1, (.t 33))], none, [5, 4, 3, 1, 2, 12, 6, 11, 10, 9, 7, 8]⟩,
    ⟨(some 35), .bslice [(.int .i64 0), (.row () [])] 1 [(0, (.t 34))], none, [13, 5, 4, 3, 1, 2, 12, 6, 11, 10, 9, 7, 8]⟩,
    ⟨(some 36), .append 2 (.t 21) (.t 35), none, [0, 14, 13, 5, 4, 3, 1, 2, 12, 6, 11, 10, 9, 7, 8]⟩,
    ⟨(some 5), .assign (.t 36), none, [15, 0, 14, 13, 5, 4, 3, 1, 2, 12, 6, 11, 10, 9, 7, 8]⟩])
  .skip)))
  (.region false [12, 13] [12, 13] [⟨(some 12), .move (.t 6), none, []⟩,
    ⟨(some 13), .bin .add (.t 12) (.c false [(.int .i64 1)]), none, []⟩,
    ⟨(some 6), .assign (.t 13), none, []⟩]))))))
  (.seq (.region false [37] [37] [⟨(some 37), .move (.t 5), none, []⟩,
    ⟨(some 4), .assign (.t 37), none, []⟩])
  .ret))))⟩
/- spec.l11Copy -/
def ir295 : FnIr := ⟨0, 1, 7, [(2, none)], [],
  (.seq (.region false [] [] [⟨(some 2), .assign (.c false [(.row () [])]), none, []⟩])
  (.seq (.region false [3, 4, 5, 6, 12, 13] [3, 4, 5, 6] [⟨(some 3), .move (.t 0), none, []⟩,
    ⟨(some 4), .move (.t 0), none, []⟩,
    ⟨(some 5), .call 280 [(.t 4)], none, []⟩,
    ⟨(some 6), .call 307 [(.t 3), (.t 5)], none, []⟩,
    ⟨(some 2), .assign (.t 6), none, []⟩])
  .ret))⟩
/- spec.l18Hello -/
def ir279 : FnIr := ⟨0, 1, 11, [(2, (some (true, 2)))], [],
  (.seq (.region false [1, 2, 12, 13] [] [⟨(some 1), .box (.t 0), none, []⟩,
    ⟨(some 2), .alloc [(.row () []), (.row () [])], none, []⟩])
  (.seq (.region true [3, 4, 5, 6, 7, 8, 9, 10, 20] [3, 4, 5, 6, 7, 8, 9, 10] [⟨(some 3), .bslice [(.int .i64 0)] 0 [], none, []⟩,
    ⟨(some 4), .faddr 0 (.t 1), none, []⟩,
    ⟨(some 5), .load false 1 (.t 4), none, [1]⟩,
    ⟨(some 6), .append 1 (.t 3) (.t 5), none, [0, 2, 1]⟩,
    ⟨(some 7), .faddr 1 (.t 1), none, []⟩,
    ⟨(some 8), .load false 1 (.t 7), none, [4]⟩,
    ⟨(some 9), .call 295 [(.t 8)], none, [5, 4, 3, 0, 2, 1]⟩,
    ⟨(some 10), .build [(.row () []), (.row () [])] [(0, 1, (.t 6)), (1, 1, (.t 9))], none, [3, 0, 2, 1, 6, 5, 4]⟩,
    ⟨none, .store 2 (.t 2) (.t 10), none, [7, 3, 0, 2, 1, 6, 5, 4]⟩])
  .ret))⟩
/- spec.PassPath -/
def ir196 : FnIr := ⟨0, 2, 41, [(4, (some (true, 2))), (5, none)], [],
  (.seq (.region false [3, 4, 44, 45] [] [⟨(some 3), .box (.t 1), none, []⟩,
    ⟨(some 4), .alloc [(.row () []), (.row () [])], none, []⟩,
    ⟨(some 5), .assign (.c false [(.bool false)]), none, []⟩])
  (.seq (.seq (.region false [10, 11, 12, 13, 14, 15, 16, 17, 56] [10, 11, 12, 13, 14, 15, 16] [⟨(some 10), .move (.t 0), none, []⟩,
    ⟨(some 11), .len false (.t 10), none, []⟩,
    ⟨(some 12), .bin .gtr (.t 11) (.c false [(.int .i64 4)]), none, []⟩,
    ⟨(some 13), .move (.t 12), none, []⟩,
    ⟨(some 14), .load true 2 (.t 3), (some (13, false)), []⟩,
    ⟨(some 15), .call 142 [(.t 14)], (some (13, false)), []⟩,
    ⟨(some 16), .un .not (.t 15), (some (13, false)), []⟩,
    ⟨(some 17), .pick (.t 13) (.c false [(.bool true)]) (.t 16), none, []⟩])
  (.cond (.t 17)
  (.seq (.region false [18] [18] [⟨(some 18), .build [(.row () []), (.row () [])] [], none, []⟩,
    ⟨none, .store 2 (.t 4) (.t 18), none, []⟩,
    ⟨(some 5), .assign (.c false [(.bool false)]), none, []⟩])
  .ret)
  .skip))
  (.seq (.region false [19, 20, 6, 61, 47] [19, 20] [⟨(some 19), .load true 2 (.t 3), none, []⟩,
    ⟨(some 20), .call 279 [(.t 19)], none, []⟩,
    ⟨(some 6), .alloc [(.row () []), (.row () [])], none, []⟩,
    ⟨none, .store 2 (.t 6) (.t 20), none, []⟩])
  (.seq (.seq (.region false [] [] [⟨(some 7), .assign (.c false [(.int .i64 0)]), none, []⟩])
  (.block 0 (.loop (.seq (.seq (.region false [21, 22, 23, 24] [21, 22, 23] [⟨(some 21), .move (.t 7), none, []⟩,
    ⟨(some 22), .move (.t 0), none, []⟩,
    ⟨(some 23), .len false (.t 22), none, []⟩,
    ⟨(some 24), .bin .lss (.t 21) (.t 23), none, []⟩])
  (.cond (.t 24)
  .skip
  (.exit 0)))
  (.seq (.block 1 (.seq (.region true [28, 29, 30, 31, 32, 33, 27, 34, 35, 8, 74, 49] [28, 29, 30, 31, 32, 33, 27, 34, 35] [⟨(some 28), .move (.t 0), none, []⟩,
    ⟨(some 29), .move (.t 7), none, []⟩,
    ⟨(some 30), .iaddr 4 (.t 28) (.t 29), none, [0, 1]⟩,
    ⟨(some 31), .load true 4 (.t 30), none, [2, 0, 1]⟩,
    ⟨(some 32), .load true 2 (.t 6), none, []⟩,
    ⟨(some 33), .call 173 [(.t 31), (.t 32)], none, [3, 2, 0, 1, 4]⟩,
    ⟨(some 27), .move (.t 33), none, [5, 3, 2, 0, 1, 4]⟩,
    ⟨(some 34), .extract 0 (.t 27), none, [6, 5, 3, 2, 0, 1, 4]⟩,
    ⟨(some 35), .extract 1 (.t 27), none, [6, 5, 3, 2, 0, 1, 4]⟩,
    ⟨(some 8), .alloc [(.row () []), (.row () [])], none, []⟩,
    ⟨none, .store 2 (.t 8) (.t 34), none, [9, 7, 6, 5, 3, 2, 0, 1, 4]⟩,
    ⟨(some 9), .assign (.t 35), none, [8, 6, 5, 3, 2, 0, 1, 4, 10, 9, 7]⟩])
  (.seq (.seq (.region false [36, 37] [36] [⟨(some 36), .move (.t 9), none, []⟩,
    ⟨(some 37), .un .not (.t 36), none, []⟩])
  (.cond (.t 37)
  (.seq (.region false [38] [38] [⟨(some 38), .build [(.row () []), (.row () [])] [], none, []⟩,
    ⟨none, .store 2 (.t 4) (.t 38), none, []⟩,
    ⟨(some 5), .assign (.c false [(.bool false)]), none, []⟩])
  .ret)
  .skip))
  (.region false [39] [39] [⟨(some 39), .load true 2 (.t 8), none, []⟩,
    ⟨none, .store 2 (.t 6) (.t 39), none, []⟩]))))
  (.region false [25, 26] [25, 26] [⟨(some 25), .move (.t 7), none, []⟩,
    ⟨(some 26), .bin .add (.t 25) (.c false [(.int .i64 1)]), none, []⟩,
    ⟨(some 7), .assign (.t 26), none, []⟩]))))))
  (.seq (.region false [40] [40] [⟨(some 40), .load true 2 (.t 6), none, []⟩,
    ⟨none, .store 2 (.t 4) (.t 40), none, []⟩,
    ⟨(some 5), .assign (.c false [(.bool true)]), none, []⟩])
  .ret)))))⟩
/- laws.eqExt -/
def ir321 : FnIr := ⟨0, 2, 16, [(4, none)], [],
  (.seq (.region false [2, 3, 18, 19] [] [⟨(some 2), .box (.t 0), none, []⟩,
    ⟨(some 3), .box (.t 1), none, []⟩,
    ⟨(some 4), .assign (.c false [(.bool false)]), none, []⟩])
  (.seq (.seq (.region false [5, 6, 7, 8, 9] [5, 6, 7, 8] [⟨(some 5), .faddr 0 (.t 2), none, []⟩,
    ⟨(some 6), .load false 1 (.t 5), none, []⟩,
    ⟨(some 7), .faddr 0 (.t 3), none, []⟩,
    ⟨(some 8), .load false 1 (.t 7), none, []⟩,
    ⟨(some 9), .bin .neq (.t 6) (.t 8), none, []⟩])
  (.cond (.t 9)
  (.seq (.region false [] [] [⟨(some 4), .assign (.c false [(.bool false)]), none, []⟩])
  .ret)
  .skip))
  (.seq (.seq (.region false [10, 11, 12, 13, 14, 15, 30] [10, 11, 12, 13, 14] [⟨(some 10), .faddr 1 (.t 2), none, []⟩,
    ⟨(some 11), .load false 1 (.t 10), none, []⟩,
    ⟨(some 12), .faddr 1 (.t 3), none, []⟩,
    ⟨(some 13), .load false 1 (.t 12), none, []⟩,
    ⟨(some 14), .call 79 [(.t 11), (.t 13)], none, []⟩,
    ⟨(some 15), .un .not (.t 14), none, []⟩])
  (.cond (.t 15)
  (.seq (.region false [] [] [⟨(some 4), .assign (.c false [(.bool false)]), none, []⟩])
  .ret)
  .skip))
  (.seq (.region false [] [] [⟨(some 4), .assign (.c false [(.bool true)]), none, []⟩])
  .ret))))⟩
/- laws.eqExtS -/
def ir200 : FnIr := ⟨0, 2, 27, [(4, none)], [],
  (.seq (.region false [] [] [⟨(some 4), .assign (.c false [(.bool false)]), none, []⟩])
  (.seq (.seq (.region false [6, 7, 8, 9, 10] [6, 7, 8, 9] [⟨(some 6), .move (.t 0), none, []⟩,
    ⟨(some 7), .len false (.t 6), none, []⟩,
    ⟨(some 8), .move (.t 1), none, []⟩,
    ⟨(some 9), .len false (.t 8), none, []⟩,
    ⟨(some 10), .bin .neq (.t 7) (.t 9), none, []⟩])
  (.cond (.t 10)
  (.seq (.region false [] [] [⟨(some 4), .assign (.c false [(.bool false)]), none, []⟩])
  .ret)
  .skip))
  (.seq (.seq (.region false [] [] [⟨(some 5), .assign (.c false [(.int .i64 0)]), none, []⟩])
  (.block 0 (.loop (.seq (.seq (.region false [11, 12, 13, 14] [11, 12, 13] [⟨(some 11), .move (.t 5), none, []⟩,
    ⟨(some 12), .move (.t 0), none, []⟩,
    ⟨(some 13), .len false (.t 12), none, []⟩,
    ⟨(some 14), .bin .lss (.t 11) (.t 13), none, []⟩])
  (.cond (.t 14)
  .skip
  (.exit 0)))
  (.seq (.block 1 (.seq (.region true [17, 18, 19, 20, 21, 22, 23, 24, 25, 26, 52] [17, 18, 19, 20, 21, 22, 23, 24, 25] [⟨(some 17), .move (.t 0), none, []⟩,
    ⟨(some 18), .move (.t 5), none, []⟩,
    ⟨(some 19), .iaddr 2 (.t 17) (.t 18), none, [0, 1]⟩,
    ⟨(some 20), .load true 2 (.t 19), none, [2, 0, 1]⟩,
    ⟨(some 21), .move (.t 1), none, []⟩,
    ⟨(some 22), .move (.t 5), none, []⟩,
    ⟨(some 23), .iaddr 2 (.t 21) (.t 22), none, [4, 5]⟩,
    ⟨(some 24), .load true 2 (.t 23), none, [6, 4, 5]⟩,
    ⟨(some 25), .call 321 [(.t 20), (.t 24)], none, [3, 2, 0, 1, 7, 6, 4, 5]⟩,
    ⟨(some 26), .un .not (.t 25), none, [8, 3, 2, 0, 1, 7, 6, 4, 5]⟩])
  (.cond (.t 26)
  (.seq (.region false [] [] [⟨(some 4), .assign (.c false [(.bool false)]), none, []⟩])
  .ret)
  .skip)))
  (.region false [15, 16] [15, 16] [⟨(some 15), .move (.t 5), none, []⟩,
    ⟨(some 16), .bin .add (.t 15) (.c false [(.int .i64 1)]), none, []⟩,
    ⟨(some 5), .assign (.t 16), none, []⟩]))))))
  (.seq (.region false [] [] [⟨(some 4), .assign (.c false [(.bool true)]), none, []⟩])
  .ret))))⟩
/- laws.eqHello -/
def ir78 : FnIr := ⟨0, 2, 17, [(4, none)], [],
  (.seq (.region false [2, 3, 19, 20] [] [⟨(some 2), .box (.t 0), none, []⟩,
    ⟨(some 3), .box (.t 1), none, []⟩,
    ⟨(some 4), .assign (.c false [(.bool false)]), none, []⟩])
  (.seq (.seq (.region false [5, 6, 7, 8, 9, 10, 26] [5, 6, 7, 8, 9] [⟨(some 5), .faddr 0 (.t 2), none, []⟩,
    ⟨(some 6), .load false 1 (.t 5), none, []⟩,
    ⟨(some 7), .faddr 0 (.t 3), none, []⟩,
    ⟨(some 8), .load false 1 (.t 7), none, []⟩,
    ⟨(some 9), .call 79 [(.t 6), (.t 8)], none, []⟩,
    ⟨(some 10), .un .not (.t 9), none, []⟩])
  (.cond (.t 10)
  (.seq (.region false [] [] [⟨(some 4), .assign (.c false [(.bool false)]), none, []⟩])
  .ret)
  .skip))
  (.seq (.seq (.region false [11, 12, 13, 14, 15, 16, 32] [11, 12, 13, 14, 15] [⟨(some 11), .faddr 1 (.t 2), none, []⟩,
    ⟨(some 12), .load false 1 (.t 11), none, []⟩,
    ⟨(some 13), .faddr 1 (.t 3), none, []⟩,
    ⟨(some 14), .load false 1 (.t 13), none, []⟩,
    ⟨(some 15), .call 200 [(.t 12), (.t 14)], none, []⟩,
    ⟨(some 16), .un .not (.t 15), none, []⟩])
  (.cond (.t 16)
  (.seq (.region false [] [] [⟨(some 4), .assign (.c false [(.bool false)]), none, []⟩])
  .ret)
  .skip))
  (.seq (.region false [] [] [⟨(some 4), .assign (.c false [(.bool true)]), none, []⟩])
  .ret))))⟩
/- laws.heldIntS -/
def ir125 : FnIr := ⟨0, 2, 21, [(4, none)], [],
  (.seq (.region false [] [] [⟨(some 4), .assign (.c false [(.int .i64 0)]), none, []⟩])
  (.seq (.seq (.region false [] [] [⟨(some 5), .assign (.c false [(.int .i64 0)]), none, []⟩])
  (.block 0 (.loop (.seq (.seq (.region false [6, 7, 8, 9] [6, 7, 8] [⟨(some 6), .move (.t 5), none, []⟩,
    ⟨(some 7), .move (.t 0), none, []⟩,
    ⟨(some 8), .len false (.t 7), none, []⟩,
    ⟨(some 9), .bin .lss (.t 6) (.t 8), none, []⟩])
  (.cond (.t 9)
  .skip
  (.exit 0)))
  (.seq (.block 1 (.seq (.seq (.region false [12, 13, 14, 15, 16, 17] [12, 13, 14, 15, 16] [⟨(some 12), .move (.t 0), none, []⟩,
    ⟨(some 13), .move (.t 5), none, []⟩,
    ⟨(some 14), .iaddr 1 (.t 12) (.t 13), none, []⟩,
    ⟨(some 15), .load false 1 (.t 14), none, []⟩,
    ⟨(some 16), .move (.t 1), none, []⟩,
    ⟨(some 17), .bin .neq (.t 15) (.t 16), none, []⟩])
  (.cond (.t 17)
  (.seq (.region false [] [] [⟨(some 4), .assign (.c false [(.int .i64 (-1))]), none, []⟩])
  .ret)
  .skip))
  (.region false [18, 19] [18, 19] [⟨(some 18), .move (.t 1), none, []⟩,
    ⟨(some 19), .bin .add (.t 18) (.c false [(.int .i64 1)]), none, []⟩,
    ⟨(some 1), .assign (.t 19), none, []⟩])))
  (.region false [10, 11] [10, 11] [⟨(some 10), .move (.t 5), none, []⟩,
    ⟨(some 11), .bin .add (.t 10) (.c false [(.int .i64 1)]), none, []⟩,
    ⟨(some 5), .assign (.t 11), none, []⟩]))))))
  (.seq (.region false [20] [20] [⟨(some 20), .move (.t 1), none, []⟩,
    ⟨(some 4), .assign (.t 20), none, []⟩])
  .ret)))⟩
/- laws.heldExtS -/
def ir236 : FnIr := ⟨0, 2, 31, [(4, none)], [],
  (.seq (.region false [] [] [⟨(some 4), .assign (.c false [(.int .i64 0)]), none, []⟩])
  (.seq (.seq (.region false [] [] [⟨(some 5), .assign (.c false [(.int .i64 0)]), none, []⟩])
  (.block 0 (.loop (.seq (.seq (.region false [6, 7, 8, 9] [6, 7, 8] [⟨(some 6), .move (.t 5), none, []⟩,
    ⟨(some 7), .move (.t 0), none, []⟩,
    ⟨(some 8), .len false (.t 7), none, []⟩,
    ⟨(some 9), .bin .lss (.t 6) (.t 8), none, []⟩])
  (.cond (.t 9)
  .skip
  (.exit 0)))
  (.seq (.block 1 (.seq (.seq (.region false [12, 13, 14, 15, 16, 17, 18] [12, 13, 14, 15, 16, 17] [⟨(some 12), .move (.t 0), none, []⟩,
    ⟨(some 13), .move (.t 5), none, []⟩,
    ⟨(some 14), .iaddr 2 (.t 12) (.t 13), none, []⟩,
    ⟨(some 15), .faddr 0 (.t 14), none, []⟩,
    ⟨(some 16), .load false 1 (.t 15), none, []⟩,
    ⟨(some 17), .move (.t 1), none, []⟩,
    ⟨(some 18), .bin .neq (.t 16) (.t 17), none, []⟩])
  (.cond (.t 18)
  (.seq (.region false [] [] [⟨(some 4), .assign (.c false [(.int .i64 (-1))]), none, []⟩])
  .ret)
  .skip))
  (.seq (.region false [19, 20] [19, 20] [⟨(some 19), .move (.t 1), none, []⟩,
    ⟨(some 20), .bin .add (.t 19) (.c false [(.int .i64 1)]), none, []⟩,
    ⟨(some 1), .assign (.t 20), none, []⟩])
  (.seq (.region false [21, 22, 23, 24, 25, 26, 27, 58] [21, 22, 23, 24, 25, 26, 27] [⟨(some 21), .move (.t 0), none, []⟩,
    ⟨(some 22), .move (.t 5), none, []⟩,
    ⟨(some 23), .iaddr 2 (.t 21) (.t 22), none, []⟩,
    ⟨(some 24), .faddr 1 (.t 23), none, []⟩,
    ⟨(some 25), .load false 1 (.t 24), none, []⟩,
    ⟨(some 26), .move (.t 1), none, []⟩,
    ⟨(some 27), .call 125 [(.t 25), (.t 26)], none, []⟩,
    ⟨(some 1), .assign (.t 27), none, []⟩])
  (.seq (.region false [28, 29] [28] [⟨(some 28), .move (.t 1), none, []⟩,
    ⟨(some 29), .bin .lss (.t 28) (.c false [(.int .i64 0)]), none, []⟩])
  (.cond (.t 29)
  (.seq (.region false [] [] [⟨(some 4), .assign (.c false [(.int .i64 (-1))]), none, []⟩])
  .ret)
  .skip))))))
  (.region false [10, 11] [10, 11] [⟨(some 10), .move (.t 5), none, []⟩,
    ⟨(some 11), .bin .add (.t 10) (.c false [(.int .i64 1)]), none, []⟩,
    ⟨(some 5), .assign (.t 11), none, []⟩]))))))
  (.seq (.region false [30] [30] [⟨(some 30), .move (.t 1), none, []⟩,
    ⟨(some 4), .assign (.t 30), none, []⟩])
  .ret)))⟩
/- laws.heldHello -/
def ir82 : FnIr := ⟨0, 2, 18, [(4, none)], [],
  (.seq (.region false [2, 20] [] [⟨(some 2), .box (.t 0), none, []⟩,
    ⟨(some 4), .assign (.c false [(.int .i64 0)]), none, []⟩])
  (.seq (.region false [5, 6, 7, 8, 26] [5, 6, 7, 8] [⟨(some 5), .faddr 0 (.t 2), none, []⟩,
    ⟨(some 6), .load false 1 (.t 5), none, []⟩,
    ⟨(some 7), .move (.t 1), none, []⟩,
    ⟨(some 8), .call 125 [(.t 6), (.t 7)], none, []⟩,
    ⟨(some 1), .assign (.t 8), none, []⟩])
  (.seq (.seq (.region false [9, 10] [9] [⟨(some 9), .move (.t 1), none, []⟩,
    ⟨(some 10), .bin .lss (.t 9) (.c false [(.int .i64 0)]), none, []⟩])
  (.cond (.t 10)
  (.seq (.region false [] [] [⟨(some 4), .assign (.c false [(.int .i64 (-1))]), none, []⟩])
  .ret)
  .skip))
  (.seq (.region false [11, 12, 13, 14, 32] [11, 12, 13, 14] [⟨(some 11), .faddr 1 (.t 2), none, []⟩,
    ⟨(some 12), .load false 1 (.t 11), none, []⟩,
    ⟨(some 13), .move (.t 1), none, []⟩,
    ⟨(some 14), .call 236 [(.t 12), (.t 13)], none, []⟩,
    ⟨(some 1), .assign (.t 14), none, []⟩])
  (.seq (.seq (.region false [15, 16] [15] [⟨(some 15), .move (.t 1), none, []⟩,
    ⟨(some 16), .bin .lss (.t 15) (.c false [(.int .i64 0)]), none, []⟩])
  (.cond (.t 16)
  (.seq (.region false [] [] [⟨(some 4), .assign (.c false [(.int .i64 (-1))]), none, []⟩])
  .ret)
  .skip))
  (.seq (.region false [17] [17] [⟨(some 17), .move (.t 1), none, []⟩,
    ⟨(some 4), .assign (.t 17), none, []⟩])
  .ret))))))⟩
/- laws.szExt -/
def ir319 : FnIr := ⟨0, 2, 12, [(4, none)], [],
  (.seq (.region false [2, 14] [] [⟨(some 2), .box (.t 0), none, []⟩,
    ⟨(some 4), .assign (.c false [(.int .i64 0)]), none, []⟩])
  (.seq (.region false [5, 6, 7, 8, 20] [5, 6, 7, 8] [⟨(some 5), .faddr 1 (.t 2), none, []⟩,
    ⟨(some 6), .load false 1 (.t 5), none, []⟩,
    ⟨(some 7), .move (.t 1), none, []⟩,
    ⟨(some 8), .call 227 [(.t 6), (.t 7)], none, []⟩,
    ⟨(some 1), .assign (.t 8), none, []⟩])
  (.seq (.seq (.region false [9, 10] [9] [⟨(some 9), .move (.t 1), none, []⟩,
    ⟨(some 10), .bin .lss (.t 9) (.c false [(.int .i64 0)]), none, []⟩])
  (.cond (.t 10)
  (.seq (.region false [] [] [⟨(some 4), .assign (.c false [(.int .i64 (-1))]), none, []⟩])
  .ret)
  .skip))
  (.seq (.region false [11] [11] [⟨(some 11), .move (.t 1), none, []⟩,
    ⟨(some 4), .assign (.t 11), none, []⟩])
  .ret))))⟩
/- laws.szExtS -/
def ir197 : FnIr := ⟨0, 2, 27, [(4, none)], [],
  (.seq (.region false [] [] [⟨(some 4), .assign (.c false [(.int .i64 0)]), none, []⟩])
  (.seq (.region false [6, 7, 8, 9] [6, 7, 8, 9] [⟨(some 6), .move (.t 1), none, []⟩,
    ⟨(some 7), .move (.t 0), none, []⟩,
    ⟨(some 8), .len false (.t 7), none, []⟩,
    ⟨(some 9), .bin .sub (.t 6) (.t 8), none, []⟩,
    ⟨(some 1), .assign (.t 9), none, []⟩])
  (.seq (.seq (.region false [10, 11] [10] [⟨(some 10), .move (.t 1), none, []⟩,
    ⟨(some 11), .bin .lss (.t 10) (.c false [(.int .i64 0)]), none, []⟩])
  (.cond (.t 11)
  (.seq (.region false [] [] [⟨(some 4), .assign (.c false [(.int .i64 (-1))]), none, []⟩])
  .ret)
  .skip))
  (.seq (.seq (.region false [] [] [⟨(some 5), .assign (.c false [(.int .i64 0)]), none, []⟩])
  (.block 0 (.loop (.seq (.seq (.region false [12, 13, 14, 15] [12, 13, 14] [⟨(some 12), .move (.t 5), none, []⟩,
    ⟨(some 13), .move (.t 0), none, []⟩,
    ⟨(some 14), .len false (.t 13), none, []⟩,
    ⟨(some 15), .bin .lss (.t 12) (.t 14), none, []⟩])
  (.cond (.t 15)
  .skip
  (.exit 0)))
  (.seq (.block 1 (.seq (.region false [18, 19, 20, 21, 22, 23, 50] [18, 19, 20, 21, 22, 23] [⟨(some 18), .move (.t 0), none, []⟩,
    ⟨(some 19), .move (.t 5), none, []⟩,
    ⟨(some 20), .iaddr 2 (.t 18) (.t 19), none, []⟩,
    ⟨(some 21), .load true 2 (.t 20), none, []⟩,
    ⟨(some 22), .move (.t 1), none, []⟩,
    ⟨(some 23), .call 319 [(.t 21), (.t 22)], none, []⟩,
    ⟨(some 1), .assign (.t 23), none, []⟩])
  (.seq (.region false [24, 25] [24] [⟨(some 24), .move (.t 1), none, []⟩,
    ⟨(some 25), .bin .lss (.t 24) (.c false [(.int .i64 0)]), none, []⟩])
  (.cond (.t 25)
  (.seq (.region false [] [] [⟨(some 4), .assign (.c false [(.int .i64 (-1))]), none, []⟩])
  .ret)
  .skip))))
  (.region false [16, 17] [16, 17] [⟨(some 16), .move (.t 5), none, []⟩,
    ⟨(some 17), .bin .add (.t 16) (.c false [(.int .i64 1)]), none, []⟩,
    ⟨(some 5), .assign (.t 17), none, []⟩]))))))
  (.seq (.region false [26] [26] [⟨(some 26), .move (.t 1), none, []⟩,
    ⟨(some 4), .assign (.t 26), none, []⟩])
  .ret)))))⟩
/- laws.szHello -/
def ir83 : FnIr := ⟨0, 2, 18, [(4, none)], [],
  (.seq (.region false [2, 20] [] [⟨(some 2), .box (.t 0), none, []⟩,
    ⟨(some 4), .assign (.c false [(.int .i64 0)]), none, []⟩])
  (.seq (.region false [5, 6, 7, 8, 26] [5, 6, 7, 8] [⟨(some 5), .faddr 0 (.t 2), none, []⟩,
    ⟨(some 6), .load false 1 (.t 5), none, []⟩,
    ⟨(some 7), .move (.t 1), none, []⟩,
    ⟨(some 8), .call 227 [(.t 6), (.t 7)], none, []⟩,
    ⟨(some 1), .assign (.t 8), none, []⟩])
  (.seq (.seq (.region false [9, 10] [9] [⟨(some 9), .move (.t 1), none, []⟩,
    ⟨(some 10), .bin .lss (.t 9) (.c false [(.int .i64 0)]), none, []⟩])
  (.cond (.t 10)
  (.seq (.region false [] [] [⟨(some 4), .assign (.c false [(.int .i64 (-1))]), none, []⟩])
  .ret)
  .skip))
  (.seq (.region false [11, 12, 13, 14, 32] [11, 12, 13, 14] [⟨(some 11), .faddr 1 (.t 2), none, []⟩,
    ⟨(some 12), .load false 1 (.t 11), none, []⟩,
    ⟨(some 13), .move (.t 1), none, []⟩,
    ⟨(some 14), .call 197 [(.t 12), (.t 13)], none, []⟩,
    ⟨(some 1), .assign (.t 14), none, []⟩])
  (.seq (.seq (.region false [15, 16] [15] [⟨(some 15), .move (.t 1), none, []⟩,
    ⟨(some 16), .bin .lss (.t 15) (.c false [(.int .i64 0)]), none, []⟩])
  (.cond (.t 16)
  (.seq (.region false [] [] [⟨(some 4), .assign (.c false [(.int .i64 (-1))]), none, []⟩])
  .ret)
  .skip))
  (.seq (.region false [17] [17] [⟨(some 17), .move (.t 1), none, []⟩,
    ⟨(some 4), .assign (.t 17), none, []⟩])
  .ret))))))⟩
/- laws.toExt -/
def ir320 : FnIr := ⟨0, 1, 12, [(2, (some (true, 2)))], [],
  (.seq (.region false [1, 2, 13, 14] [] [⟨(some 1), .box (.t 0), none, []⟩,
    ⟨(some 2), .alloc [(.int .i64 0), (.row () [])], none, []⟩])
  (.seq (.region false [3, 15] [] [⟨(some 3), .alloc [(.int .i64 0), (.row () [])], none, []⟩])
  (.seq (.region false [4, 5, 6] [4, 5, 6] [⟨(some 4), .faddr 0 (.t 1), none, []⟩,
    ⟨(some 5), .load false 1 (.t 4), none, []⟩,
    ⟨(some 6), .faddr 0 (.t 3), none, []⟩,
    ⟨none, .store 1 (.t 6) (.t 5), none, []⟩])
  (.seq (.region false [7, 8, 9, 10, 21] [7, 8, 9, 10] [⟨(some 7), .faddr 1 (.t 1), none, []⟩,
    ⟨(some 8), .load false 1 (.t 7), none, []⟩,
    ⟨(some 9), .call 76 [(.t 8)], none, []⟩,
    ⟨(some 10), .faddr 1 (.t 3), none, []⟩,
    ⟨none, .store 1 (.t 10) (.t 9), none, []⟩])
  (.seq (.region false [11] [11] [⟨(some 11), .load true 2 (.t 3), none, []⟩,
    ⟨none, .store 2 (.t 2) (.t 11), none, []⟩])
  .ret)))))⟩
/- laws.toExtS -/
def ir199 : FnIr := ⟨0, 1, 23, [(2, none)], [],
  (.seq (.region false [] [] [⟨(some 2), .assign (.c false [(.row () [])]), none, []⟩])
  (.seq (.region false [5, 6, 7] [5, 6, 7] [⟨(some 5), .move (.t 0), none, []⟩,
    ⟨(some 6), .len false (.t 5), none, []⟩,
    ⟨(some 7), .mkslice [(.int .i64 0), (.row () [])] (.t 6) (.t 6), none, []⟩,
    ⟨(some 3), .assign (.t 7), none, []⟩])
  (.seq (.seq (.region false [] [] [⟨(some 4), .assign (.c false [(.int .i64 0)]), none, []⟩])
  (.block 0 (.loop (.seq (.seq (.region false [8, 9, 10, 11] [8, 9, 10] [⟨(some 8), .move (.t 4), none, []⟩,
    ⟨(some 9), .move (.t 0), none, []⟩,
    ⟨(some 10), .len false (.t 9), none, []⟩,
    ⟨(some 11), .bin .lss (.t 8) (.t 10), none, []⟩])
  (.cond (.t 11)
  .skip
  (.exit 0)))
  (.seq (.block 1 (.region false [14, 15, 16, 17, 18, 19, 20, 21, 43] [14, 15, 16, 17, 18, 19, 20, 21] [⟨(some 14), .move (.t 3), none, []⟩,
    ⟨(some 15), .move (.t 4), none, []⟩,
    ⟨(some 16), .move (.t 0), none, []⟩,
    ⟨(some 17), .move (.t 4), none, []⟩,
    ⟨(some 18), .iaddr 2 (.t 16) (.t 17), none, []⟩,
    ⟨(some 19), .load true 2 (.t 18), none, []⟩,
    ⟨(some 20), .call 320 [(.t 19)], none, []⟩,
    ⟨(some 21), .iaddr 2 (.t 14) (.t 15), none, []⟩,
    ⟨none, .rstore 2 (.t 21) (.t 20), none, []⟩]))
  (.region false [12, 13] [12, 13] [⟨(some 12), .move (.t 4), none, []⟩,
    ⟨(some 13), .bin .add (.t 12) (.c false [(.int .i64 1)]), none, []⟩,
    ⟨(some 4), .assign (.t 13), none, []⟩]))))))
  (.seq (.region false [22] [22] [⟨(some 22), .move (.t 3), none, []⟩,
    ⟨(some 2), .assign (.t 22), none, []⟩])
  .ret))))⟩
/- laws.toHello -/
def ir85 : FnIr := ⟨0, 1, 13, [(2, (some (true, 2)))], [],
  (.seq (.region false [1, 2, 14, 15] [] [⟨(some 1), .box (.t 0), none, []⟩,
    ⟨(some 2), .alloc [(.row () []), (.row () [])], none, []⟩])
  (.seq (.region false [3, 16] [] [⟨(some 3), .alloc [(.row () []), (.row () [])], none, []⟩])
  (.seq (.region false [4, 5, 6, 7, 19] [4, 5, 6, 7] [⟨(some 4), .faddr 0 (.t 1), none, []⟩,
    ⟨(some 5), .load false 1 (.t 4), none, []⟩,
    ⟨(some 6), .call 76 [(.t 5)], none, []⟩,
    ⟨(some 7), .faddr 0 (.t 3), none, []⟩,
    ⟨none, .store 1 (.t 7) (.t 6), none, []⟩])
  (.seq (.region false [8, 9, 10, 11, 23] [8, 9, 10, 11] [⟨(some 8), .faddr 1 (.t 1), none, []⟩,
    ⟨(some 9), .load false 1 (.t 8), none, []⟩,
    ⟨(some 10), .call 199 [(.t 9)], none, []⟩,
    ⟨(some 11), .faddr 1 (.t 3), none, []⟩,
    ⟨none, .store 1 (.t 11) (.t 10), none, []⟩])
  (.seq (.region false [12] [12] [⟨(some 12), .load true 2 (.t 3), none, []⟩,
    ⟨none, .store 2 (.t 2) (.t 12), none, []⟩])
  .ret)))))⟩
/- laws.FnExactPassPath -/
def ir44 : FnIr := ⟨0, 2, 119, [(4, none)], [],
  (.seq (.region false [3, 122] [] [⟨(some 3), .box (.t 1), none, []⟩,
    ⟨(some 4), .assign (.c false [(.bool false)]), none, []⟩])
  (.seq (.region false [] [] [⟨(some 5), .assign (.c false [(.int .i64 1048576)]), none, []⟩])
  (.seq (.region false [17, 18, 19, 138] [17, 18, 19] [⟨(some 17), .move (.t 0), none, []⟩,
    ⟨(some 18), .move (.t 5), none, []⟩,
    ⟨(some 19), .call 101 [(.t 17), (.t 18)], none, []⟩,
    ⟨(some 5), .assign (.t 19), none, []⟩])
  (.seq (.seq (.region false [20, 21] [20] [⟨(some 20), .move (.t 5), none, []⟩,
    ⟨(some 21), .bin .lss (.t 20) (.c false [(.int .i64 0)]), none, []⟩])
  (.cond (.t 21)
  (.seq (.region false [] [] [⟨(some 4), .assign (.c false [(.bool true)]), none, []⟩])
  .ret)
  .skip))
  (.seq (.region false [22, 23, 24, 143] [22, 23, 24] [⟨(some 22), .load true 2 (.t 3), none, []⟩,
    ⟨(some 23), .move (.t 5), none, []⟩,
    ⟨(some 24), .call 83 [(.t 22), (.t 23)], none, []⟩,
    ⟨(some 5), .assign (.t 24), none, []⟩])
  (.seq (.seq (.region false [25, 26] [25] [⟨(some 25), .move (.t 5), none, []⟩,
    ⟨(some 26), .bin .lss (.t 25) (.c false [(.int .i64 0)]), none, []⟩])
  (.cond (.t 26)
  (.seq (.region false [] [] [⟨(some 4), .assign (.c false [(.bool true)]), none, []⟩])
  .ret)
  .skip))
  (.seq (.region true [28, 29, 30, 31, 32, 27, 33, 34, 6, 148, 150, 151, 125] [28, 29, 30, 31, 32, 27, 33, 34] [⟨(some 28), .move (.t 0), none, []⟩,
    ⟨(some 29), .call 103 [(.t 28)], none, [0]⟩,
    ⟨(some 30), .load true 2 (.t 3), none, []⟩,
    ⟨(some 31), .call 85 [(.t 30)], none, [2, 1, 0]⟩,
    ⟨(some 32), .call 196 [(.t 29), (.t 31)], none, [1, 0, 3, 2]⟩,
    ⟨(some 27), .move (.t 32), none, [4, 1, 0, 3, 2]⟩,
    ⟨(some 33), .extract 0 (.t 27), none, [5, 4, 1, 0, 3, 2]⟩,
    ⟨(some 34), .extract 1 (.t 27), none, [5, 4, 1, 0, 3, 2]⟩,
    ⟨(some 6), .alloc [(.row () []), (.row () [])], none, []⟩,
    ⟨none, .store 2 (.t 6) (.t 33), none, [8, 6, 5, 4, 1, 0, 3, 2]⟩,
    ⟨(some 7), .assign (.t 34), none, [7, 5, 4, 1, 0, 3, 2, 9, 8, 6]⟩])
  (.seq (.region false [35, 36, 155] [35, 36] [⟨(some 35), .move (.t 0), none, []⟩,
    ⟨(some 36), .call 103 [(.t 35)], none, []⟩,
    ⟨(some 8), .assign (.t 36), none, []⟩])
  (.seq (.region false [37, 38, 9, 157, 128] [37, 38] [⟨(some 37), .load true 2 (.t 3), none, []⟩,
    ⟨(some 38), .call 85 [(.t 37)], none, []⟩,
    ⟨(some 9), .alloc [(.row () []), (.row () [])], none, []⟩,
    ⟨none, .store 2 (.t 9) (.t 38), none, []⟩])
  (.seq (.region false [40, 41, 42, 39, 43, 44, 10, 161, 129] [40, 41, 42, 39, 43, 44] [⟨(some 40), .move (.t 8), none, []⟩,
    ⟨(some 41), .load true 2 (.t 9), none, []⟩,
    ⟨(some 42), .call 182 [(.t 40), (.t 41)], none, []⟩,
    ⟨(some 39), .move (.t 42), none, []⟩,
    ⟨(some 43), .extract 0 (.t 39), none, []⟩,
    ⟨(some 44), .extract 1 (.t 39), none, []⟩,
    ⟨(some 10), .alloc [(.row () []), (.row () [])], none, []⟩,
    ⟨none, .store 2 (.t 10) (.t 43), none, []⟩,
    ⟨(some 11), .assign (.t 44), none, []⟩])
  (.seq (.seq (.region false [45, 46, 47, 48, 49, 50, 51, 52, 53, 166] [45, 46, 47, 48, 49, 50, 51, 52] [⟨(some 45), .load true 2 (.t 10), none, []⟩,
    ⟨(some 46), .load true 2 (.t 6), none, []⟩,
    ⟨(some 47), .call 78 [(.t 45), (.t 46)], none, []⟩,
    ⟨(some 48), .un .not (.t 47), none, []⟩,
    ⟨(some 49), .move (.t 48), none, []⟩,
    ⟨(some 50), .move (.t 11), (some (49, false)), []⟩,
    ⟨(some 51), .move (.t 7), (some (49, false)), []⟩,
    ⟨(some 52), .beq true (.t 50) (.t 51), (some (49, false)), []⟩,
    ⟨(some 53), .pick (.t 49) (.c false [(.bool true)]) (.t 52), none, []⟩])
  (.cond (.t 53)
  (.seq (.region false [] [] [⟨(some 4), .assign (.c false [(.bool false)]), none, []⟩])
  .ret)
  .skip))
  (.seq (.seq (.region false [54, 55, 56, 57, 58, 175, 176] [54, 55, 56, 57] [⟨(some 54), .move (.t 8), none, []⟩,
    ⟨(some 55), .move (.t 0), none, []⟩,
    ⟨(some 56), .call 103 [(.t 55)], none, []⟩,
    ⟨(some 57), .call 105 [(.t 54), (.t 56)], none, []⟩,
    ⟨(some 58), .un .not (.t 57), none, []⟩])
  (.cond (.t 58)
  (.seq (.region false [] [] [⟨(some 4), .assign (.c false [(.bool false)]), none, []⟩])
  .ret)
  .skip))
  (.seq (.seq (.region true [59, 60, 61, 62, 63, 180, 181] [59, 60, 61, 62] [⟨(some 59), .load true 2 (.t 9), none, []⟩,
    ⟨(some 60), .load true 2 (.t 3), none, []⟩,
    ⟨(some 61), .call 85 [(.t 60)], none, [1]⟩,
    ⟨(some 62), .call 78 [(.t 59), (.t 61)], none, [0, 2, 1]⟩,
    ⟨(some 63), .un .not (.t 62), none, [3, 0, 2, 1]⟩])
  (.cond (.t 63)
  (.seq (.region false [] [] [⟨(some 4), .assign (.c false [(.bool false)]), none, []⟩])
  .ret)
  .skip))
  (.seq (.region false [] [] [⟨(some 12), .assign (.c false [(.int .i64 1)]), none, []⟩])
  (.seq (.region false [64, 65, 66, 185] [64, 65, 66] [⟨(some 64), .move (.t 8), none, []⟩,
    ⟨(some 65), .move (.t 12), none, []⟩,
    ⟨(some 66), .call 1172 [(.t 64), (.t 65)], none, []⟩,
    ⟨(some 12), .assign (.t 66), none, []⟩])
  (.seq (.region false [67, 68, 69, 188] [67, 68, 69] [⟨(some 67), .load true 2 (.t 9), none, []⟩,
    ⟨(some 68), .move (.t 12), none, []⟩,
    ⟨(some 69), .call 1081 [(.t 67), (.t 68)], none, []⟩,
    ⟨(some 12), .assign (.t 69), none, []⟩])
  (.seq (.seq (.region false [70, 71, 72, 73, 74, 75, 76, 77, 78, 79, 80, 81, 82, 194] [70, 71, 72, 73, 74, 75, 76, 77, 78, 79, 80, 81] [⟨(some 70), .move (.t 12), none, []⟩,
    ⟨(some 71), .bin .lss (.t 70) (.c false [(.int .i64 0)]), none, []⟩,
    ⟨(some 72), .move (.t 71), none, []⟩,
    ⟨(some 73), .load true 2 (.t 10), (some (72, false)), []⟩,
    ⟨(some 74), .load true 2 (.t 6), (some (72, false)), []⟩,
    ⟨(some 75), .call 78 [(.t 73), (.t 74)], (some (72, false)), []⟩,
    ⟨(some 76), .un .not (.t 75), (some (72, false)), []⟩,
    ⟨(some 77), .pick (.t 72) (.c false [(.bool true)]) (.t 76), none, []⟩,
    ⟨(some 78), .move (.t 77), none, []⟩,
    ⟨(some 79), .move (.t 11), (some (78, false)), []⟩,
    ⟨(some 80), .move (.t 7), (some (78, false)), []⟩,
    ⟨(some 81), .beq true (.t 79) (.t 80), (some (78, false)), []⟩,
    ⟨(some 82), .pick (.t 78) (.c false [(.bool true)]) (.t 81), none, []⟩])
  (.cond (.t 82)
  (.seq (.region false [] [] [⟨(some 4), .assign (.c false [(.bool false)]), none, []⟩])
  .ret)
  .skip))
  (.seq (.region false [] [] [⟨(some 13), .assign (.c false [(.int .i64 1)]), none, []⟩])
  (.seq (.region false [83, 84, 85, 204] [83, 84, 85] [⟨(some 83), .load true 2 (.t 10), none, []⟩,
    ⟨(some 84), .move (.t 13), none, []⟩,
    ⟨(some 85), .call 1081 [(.t 83), (.t 84)], none, []⟩,
    ⟨(some 13), .assign (.t 85), none, []⟩])
  (.seq (.region false [] [] [⟨(some 14), .assign (.c false [(.int .i64 1)]), none, []⟩])
  (.seq (.region false [86, 87, 88, 207] [86, 87, 88] [⟨(some 86), .load true 2 (.t 10), none, []⟩,
    ⟨(some 87), .move (.t 14), none, []⟩,
    ⟨(some 88), .call 82 [(.t 86), (.t 87)], none, []⟩,
    ⟨(some 14), .assign (.t 88), none, []⟩])
  (.seq (.seq (.region false [89, 90] [89] [⟨(some 89), .move (.t 14), none, []⟩,
    ⟨(some 90), .bin .lss (.t 89) (.c false [(.int .i64 0)]), none, []⟩])
  (.cond (.t 90)
  (.seq (.region false [] [] [⟨(some 4), .assign (.c false [(.bool false)]), none, []⟩])
  .ret)
  .skip))
  (.seq (.seq (.region false [91, 92, 93] [91, 92] [⟨(some 91), .move (.t 14), none, []⟩,
    ⟨(some 92), .move (.t 13), none, []⟩,
    ⟨(some 93), .bin .neq (.t 91) (.t 92), none, []⟩])
  (.cond (.t 93)
  (.seq (.region false [] [] [⟨(some 4), .assign (.c false [(.bool false)]), none, []⟩])
  .ret)
  .skip))
  (.seq (.region true [95, 96, 97, 98, 99, 94, 100, 101, 15, 215, 217, 218, 134] [95, 96, 97, 98, 99, 94, 100, 101] [⟨(some 95), .move (.t 0), none, []⟩,
    ⟨(some 96), .call 103 [(.t 95)], none, [0]⟩,
    ⟨(some 97), .load true 2 (.t 3), none, []⟩,
    ⟨(some 98), .call 85 [(.t 97)], none, [2, 1, 0]⟩,
    ⟨(some 99), .call 182 [(.t 96), (.t 98)], none, [1, 0, 3, 2]⟩,
    ⟨(some 94), .move (.t 99), none, [4, 1, 0, 3, 2]⟩,
    ⟨(some 100), .extract 0 (.t 94), none, [5, 4, 1, 0, 3, 2]⟩,
    ⟨(some 101), .extract 1 (.t 94), none, [5, 4, 1, 0, 3, 2]⟩,
    ⟨(some 15), .alloc [(.row () []), (.row () [])], none, []⟩,
    ⟨none, .store 2 (.t 15) (.t 100), none, [8, 6, 5, 4, 1, 0, 3, 2]⟩,
    ⟨(some 16), .assign (.t 101), none, [7, 5, 4, 1, 0, 3, 2, 9, 8, 6]⟩])
  (.seq (.seq (.region false [102, 103, 104, 105, 106, 107, 108, 109, 110, 223] [102, 103, 104, 105, 106, 107, 108, 109] [⟨(some 102), .load true 2 (.t 15), none, []⟩,
    ⟨(some 103), .load true 2 (.t 6), none, []⟩,
    ⟨(some 104), .call 78 [(.t 102), (.t 103)], none, []⟩,
    ⟨(some 105), .un .not (.t 104), none, []⟩,
    ⟨(some 106), .move (.t 105), none, []⟩,
    ⟨(some 107), .move (.t 16), (some (106, false)), []⟩,
    ⟨(some 108), .move (.t 7), (some (106, false)), []⟩,
    ⟨(some 109), .beq true (.t 107) (.t 108), (some (106, false)), []⟩,
    ⟨(some 110), .pick (.t 106) (.c false [(.bool true)]) (.t 109), none, []⟩])
  (.cond (.t 110)
  (.seq (.region false [] [] [⟨(some 4), .assign (.c false [(.bool false)]), none, []⟩])
  .ret)
  .skip))
  (.seq (.region false [] [] [⟨(some 14), .assign (.c false [(.int .i64 1)]), none, []⟩])
  (.seq (.region false [111, 112, 113, 232] [111, 112, 113] [⟨(some 111), .load true 2 (.t 10), none, []⟩,
    ⟨(some 112), .move (.t 14), none, []⟩,
    ⟨(some 113), .call 82 [(.t 111), (.t 112)], none, []⟩,
    ⟨(some 14), .assign (.t 113), none, []⟩])
  (.seq (.seq (.region false [114, 115] [114] [⟨(some 114), .move (.t 14), none, []⟩,
    ⟨(some 115), .bin .lss (.t 114) (.c false [(.int .i64 0)]), none, []⟩])
  (.cond (.t 115)
  (.seq (.region false [] [] [⟨(some 4), .assign (.c false [(.bool false)]), none, []⟩])
  .ret)
  .skip))
  (.seq (.seq (.region false [116, 117, 118] [116, 117] [⟨(some 116), .move (.t 14), none, []⟩,
    ⟨(some 117), .move (.t 13), none, []⟩,
    ⟨(some 118), .bin .neq (.t 116) (.t 117), none, []⟩])
  (.cond (.t 118)
  (.seq (.region false [] [] [⟨(some 4), .assign (.c false [(.bool false)]), none, []⟩])
  .ret)
  .skip))
  (.seq (.region false [] [] [⟨(some 4), .assign (.c false [(.bool true)]), none, []⟩])
  .ret))))))))))))))))))))))))))))))⟩
def tbl : List (Nat × FnIr) := [(227, ir227), (56, ir56), (101, ir101), (76, ir76), (58, ir58), (103, ir103), (79, ir79), (60, ir60), (105, ir105), (1080, ir1080), (1201, ir1201), (1081, ir1081), (1172, ir1172), (230, ir230), (257, ir257), (231, ir231), (286, ir286), (271, ir271), (142, ir142), (232, ir232), (255, ir255), (377, ir377), (336, ir336), (340, ir340), (233, ir233), (351, ir351), (352, ir352), (290, ir290), (258, ir258), (113, ir113), (264, ir264), (299, ir299), (288, ir288), (285, ir285), (68, ir68), (358, ir358), (354, ir354), (302, ir302), (359, ir359), (310, ir310), (311, ir311), (69, ir69), (174, ir174), (347, ir347), (266, ir266), (261, ir261), (182, ir182), (173, ir173), (280, ir280), (307, ir307), (295, ir295), (279, ir279), (196, ir196), (321, ir321), (200, ir200), (78, ir78), (125, ir125), (236, ir236), (82, ir82), (319, ir319), (197, ir197), (83, ir83), (320, ir320), (199, ir199), (85, ir85), (44, ir44)]
def Tb (g : Nat) : Option FnIr := tbl.lookup g
theorem tb_227 : Tb 227 = some ir227 := rfl
theorem tb_56 : Tb 56 = some ir56 := rfl
theorem tb_101 : Tb 101 = some ir101 := rfl
theorem tb_76 : Tb 76 = some ir76 := rfl
theorem tb_58 : Tb 58 = some ir58 := rfl
theorem tb_103 : Tb 103 = some ir103 := rfl
theorem tb_79 : Tb 79 = some ir79 := rfl
theorem tb_60 : Tb 60 = some ir60 := rfl
theorem tb_105 : Tb 105 = some ir105 := rfl
theorem tb_1080 : Tb 1080 = some ir1080 := rfl
theorem tb_1201 : Tb 1201 = some ir1201 := rfl
theorem tb_1081 : Tb 1081 = some ir1081 := rfl
theorem tb_1172 : Tb 1172 = some ir1172 := rfl
theorem tb_230 : Tb 230 = some ir230 := rfl
theorem tb_257 : Tb 257 = some ir257 := rfl
theorem tb_231 : Tb 231 = some ir231 := rfl
theorem tb_286 : Tb 286 = some ir286 := rfl
theorem tb_271 : Tb 271 = some ir271 := rfl
theorem tb_142 : Tb 142 = some ir142 := rfl
theorem tb_232 : Tb 232 = some ir232 := rfl
theorem tb_255 : Tb 255 = some ir255 := rfl
theorem tb_377 : Tb 377 = some ir377 := rfl
theorem tb_336 : Tb 336 = some ir336 := rfl
theorem tb_340 : Tb 340 = some ir340 := rfl
theorem tb_233 : Tb 233 = some ir233 := rfl
theorem tb_351 : Tb 351 = some ir351 := rfl
theorem tb_352 : Tb 352 = some ir352 := rfl
theorem tb_290 : Tb 290 = some ir290 := rfl
theorem tb_258 : Tb 258 = some ir258 := rfl
theorem tb_113 : Tb 113 = some ir113 := rfl
theorem tb_264 : Tb 264 = some ir264 := rfl
theorem tb_299 : Tb 299 = some ir299 := rfl
theorem tb_288 : Tb 288 = some ir288 := rfl
theorem tb_285 : Tb 285 = some ir285 := rfl
theorem tb_68 : Tb 68 = some ir68 := rfl
theorem tb_358 : Tb 358 = some ir358 := rfl
theorem tb_354 : Tb 354 = some ir354 := rfl
theorem tb_302 : Tb 302 = some ir302 := rfl
theorem tb_359 : Tb 359 = some ir359 := rfl
theorem tb_310 : Tb 310 = some ir310 := rfl
theorem tb_311 : Tb 311 = some ir311 := rfl
theorem tb_69 : Tb 69 = some ir69 := rfl
theorem tb_174 : Tb 174 = some ir174 := rfl
theorem tb_347 : Tb 347 = some ir347 := rfl
theorem tb_266 : Tb 266 = some ir266 := rfl
theorem tb_261 : Tb 261 = some ir261 := rfl
theorem tb_182 : Tb 182 = some ir182 := rfl
theorem tb_173 : Tb 173 = some ir173 := rfl
theorem tb_280 : Tb 280 = some ir280 := rfl
theorem tb_307 : Tb 307 = some ir307 := rfl
theorem tb_295 : Tb 295 = some ir295 := rfl
theorem tb_279 : Tb 279 = some ir279 := rfl
theorem tb_196 : Tb 196 = some ir196 := rfl
theorem tb_321 : Tb 321 = some ir321 := rfl
theorem tb_200 : Tb 200 = some ir200 := rfl
theorem tb_78 : Tb 78 = some ir78 := rfl
theorem tb_125 : Tb 125 = some ir125 := rfl
theorem tb_236 : Tb 236 = some ir236 := rfl
theorem tb_82 : Tb 82 = some ir82 := rfl
theorem tb_319 : Tb 319 = some ir319 := rfl
theorem tb_197 : Tb 197 = some ir197 := rfl
theorem tb_83 : Tb 83 = some ir83 := rfl
theorem tb_320 : Tb 320 = some ir320 := rfl
theorem tb_199 : Tb 199 = some ir199 := rfl
theorem tb_85 : Tb 85 = some ir85 := rfl
theorem tb_44 : Tb 44 = some ir44 := rfl
end Go.Vm
