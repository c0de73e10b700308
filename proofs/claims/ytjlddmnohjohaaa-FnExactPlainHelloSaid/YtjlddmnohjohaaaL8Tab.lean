/- The code of the functions that the law reaches, as data. -/
import Derived.Test.YtjlddmnohjohaaaVmF
set_option maxHeartbeats 4000000
set_option linter.unusedVariables false
set_option linter.unusedSimpArgs false
namespace Go.Vm
/- laws.markIntS -/
def ir1080 : FnIr := ⟨0, 2, 19, [(4, none)], [.mrow, .val],
  (.seq (.region false [] [] [⟨(some 4), .assign (.c false [(.int .i64 0)]), none, []⟩])
  (.seq (.seq (.region false [] [] [⟨(some 5), .assign (.c false [(.int .i64 0)]), none, []⟩])
  (.block 0 (.loop (.seq (.seq (.region false [6, 7, 8, 9] [6, 7, 8] [⟨(some 6), .move (.t 5), none, []⟩,
    ⟨(some 7), .move (.t 0), none, []⟩,
    ⟨(some 8), .len false (.t 7), none, []⟩,
    ⟨(some 9), .bin .lss (.t 6) (.t 8), none, []⟩])
  (.cond (.t 9)
  .skip
  (.exit 0)))
  (.seq (.block 1 (.seq (.region false [12, 13, 14, 15] [12, 13, 14, 15] [⟨(some 12), .move (.t 0), none, []⟩,
    ⟨(some 13), .move (.t 5), none, []⟩,
    ⟨(some 14), .move (.t 1), none, []⟩,
    ⟨(some 15), .iaddr 1 (.t 12) (.t 13), none, []⟩,
    ⟨none, .rstore 1 (.t 15) (.t 14), none, []⟩])
  (.region false [16, 17] [16, 17] [⟨(some 16), .move (.t 1), none, []⟩,
    ⟨(some 17), .bin .add (.t 16) (.c false [(.int .i64 1)]), none, []⟩,
    ⟨(some 1), .assign (.t 17), none, []⟩])))
  (.region false [10, 11] [10, 11] [⟨(some 10), .move (.t 5), none, []⟩,
    ⟨(some 11), .bin .add (.t 10) (.c false [(.int .i64 1)]), none, []⟩,
    ⟨(some 5), .assign (.t 11), none, []⟩]))))))
  (.seq (.region false [18] [18] [⟨(some 18), .move (.t 1), none, []⟩,
    ⟨(some 4), .assign (.t 18), none, []⟩])
  .ret)))⟩
/- laws.markExtS -/
def ir1201 : FnIr := ⟨0, 2, 27, [(4, none)], [.mrow, .val],
  (.seq (.region false [] [] [⟨(some 4), .assign (.c false [(.int .i64 0)]), none, []⟩])
  (.seq (.seq (.region false [] [] [⟨(some 5), .assign (.c false [(.int .i64 0)]), none, []⟩])
  (.block 0 (.loop (.seq (.seq (.region false [6, 7, 8, 9] [6, 7, 8] [⟨(some 6), .move (.t 5), none, []⟩,
    ⟨(some 7), .move (.t 0), none, []⟩,
    ⟨(some 8), .len false (.t 7), none, []⟩,
    ⟨(some 9), .bin .lss (.t 6) (.t 8), none, []⟩])
  (.cond (.t 9)
  .skip
  (.exit 0)))
  (.seq (.block 1 (.seq (.region false [12, 13, 14, 15, 16] [12, 13, 14, 15, 16] [⟨(some 12), .move (.t 0), none, []⟩,
    ⟨(some 13), .move (.t 5), none, []⟩,
    ⟨(some 14), .move (.t 1), none, []⟩,
    ⟨(some 15), .iaddr 2 (.t 12) (.t 13), none, []⟩,
    ⟨(some 16), .faddr 0 (.t 15), none, []⟩,
    ⟨none, .rstore 1 (.t 16) (.t 14), none, []⟩])
  (.seq (.region false [17, 18] [17, 18] [⟨(some 17), .move (.t 1), none, []⟩,
    ⟨(some 18), .bin .add (.t 17) (.c false [(.int .i64 1)]), none, []⟩,
    ⟨(some 1), .assign (.t 18), none, []⟩])
  (.region false [19, 20, 21, 22, 23, 24, 25, 52] [19, 20, 21, 22, 23, 24, 25] [⟨(some 19), .move (.t 0), none, []⟩,
    ⟨(some 20), .move (.t 5), none, []⟩,
    ⟨(some 21), .iaddr 2 (.t 19) (.t 20), none, []⟩,
    ⟨(some 22), .faddr 1 (.t 21), none, []⟩,
    ⟨(some 23), .load false 1 (.t 22), none, []⟩,
    ⟨(some 24), .move (.t 1), none, []⟩,
    ⟨(some 25), .call 1080 [(.t 23), (.t 24)], none, []⟩,
    ⟨(some 1), .assign (.t 25), none, []⟩]))))
  (.region false [10, 11] [10, 11] [⟨(some 10), .move (.t 5), none, []⟩,
    ⟨(some 11), .bin .add (.t 10) (.c false [(.int .i64 1)]), none, []⟩,
    ⟨(some 5), .assign (.t 11), none, []⟩]))))))
  (.seq (.region false [26] [26] [⟨(some 26), .move (.t 1), none, []⟩,
    ⟨(some 4), .assign (.t 26), none, []⟩])
  .ret)))⟩
/- laws.markHello -/
def ir1081 : FnIr := ⟨0, 2, 14, [(4, none)], [.mrow, .val],
  (.seq (.region false [2, 16] [] [⟨(some 2), .box (.t 0), none, []⟩,
    ⟨(some 4), .assign (.c false [(.int .i64 0)]), none, []⟩])
  (.seq (.region false [5, 6, 7, 8, 22] [5, 6, 7, 8] [⟨(some 5), .faddr 0 (.t 2), none, []⟩,
    ⟨(some 6), .load false 1 (.t 5), none, []⟩,
    ⟨(some 7), .move (.t 1), none, []⟩,
    ⟨(some 8), .call 1080 [(.t 6), (.t 7)], none, []⟩,
    ⟨(some 1), .assign (.t 8), none, []⟩])
  (.seq (.region false [9, 10, 11, 12, 26] [9, 10, 11, 12] [⟨(some 9), .faddr 1 (.t 2), none, []⟩,
    ⟨(some 10), .load false 1 (.t 9), none, []⟩,
    ⟨(some 11), .move (.t 1), none, []⟩,
    ⟨(some 12), .call 1201 [(.t 10), (.t 11)], none, []⟩,
    ⟨(some 1), .assign (.t 12), none, []⟩])
  (.seq (.region false [13] [13] [⟨(some 13), .move (.t 1), none, []⟩,
    ⟨(some 4), .assign (.t 13), none, []⟩])
  .ret))))⟩
/- spec.PlainHello -/
def ir75 : FnIr := ⟨0, 1, 7, [(2, (some (true, 2)))], [],
  (.seq (.region false [2, 9] [] [⟨(some 2), .alloc [(.row () []), (.row () [])], none, []⟩])
  (.seq (.region false [3, 4, 5, 6] [3, 4, 5, 6] [⟨(some 3), .bslice [(.int .i64 0)] 0 [], none, []⟩,
    ⟨(some 4), .move (.t 0), none, []⟩,
    ⟨(some 5), .append 1 (.t 3) (.t 4), none, []⟩,
    ⟨(some 6), .build [(.row () []), (.row () [])] [(0, 1, (.t 5))], none, []⟩,
    ⟨none, .store 2 (.t 2) (.t 6), none, []⟩])
  .ret))⟩
/- laws.toIntS -/
def ir76 : FnIr := ⟨0, 1, 22, [(2, none)], [],
  (.seq (.region false [] [] [⟨(some 2), .assign (.c false [(.row () [])]), none, []⟩])
  (.seq (.region false [5, 6, 7] [5, 6, 7] [⟨(some 5), .move (.t 0), none, []⟩,
    ⟨(some 6), .len false (.t 5), none, []⟩,
    ⟨(some 7), .mkslice [(.int .i64 0)] (.t 6) (.t 6), none, []⟩,
    ⟨(some 3), .assign (.t 7), none, []⟩])
  (.seq (.seq (.region false [] [] [⟨(some 4), .assign (.c false [(.int .i64 0)]), none, []⟩])
  (.block 0 (.loop (.seq (.seq (.region false [8, 9, 10, 11] [8, 9, 10] [⟨(some 8), .move (.t 4), none, []⟩,
    ⟨(some 9), .move (.t 0), none, []⟩,
    ⟨(some 10), .len false (.t 9), none, []⟩,
    ⟨(some 11), .bin .lss (.t 8) (.t 10), none, []⟩])
  (.cond (.t 11)
  .skip
  (.exit 0)))
  (.seq (.block 1 (.region false [14, 15, 16, 17, 18, 19, 20] [14, 15, 16, 17, 18, 19, 20] [⟨(some 14), .move (.t 3), none, []⟩,
    ⟨(some 15), .move (.t 4), none, []⟩,
    ⟨(some 16), .move (.t 0), none, []⟩,
    ⟨(some 17), .move (.t 4), none, []⟩,
    ⟨(some 18), .iaddr 1 (.t 16) (.t 17), none, []⟩,
    ⟨(some 19), .load false 1 (.t 18), none, []⟩,
    ⟨(some 20), .iaddr 1 (.t 14) (.t 15), none, []⟩,
    ⟨none, .rstore 1 (.t 20) (.t 19), none, []⟩]))
  (.region false [12, 13] [12, 13] [⟨(some 12), .move (.t 4), none, []⟩,
    ⟨(some 13), .bin .add (.t 12) (.c false [(.int .i64 1)]), none, []⟩,
    ⟨(some 4), .assign (.t 13), none, []⟩]))))))
  (.seq (.region false [21] [21] [⟨(some 21), .move (.t 3), none, []⟩,
    ⟨(some 2), .assign (.t 21), none, []⟩])
  .ret))))⟩
/- impl.PlainHello -/
def ir77 : FnIr := ⟨0, 1, 7, [(2, (some (true, 2)))], [],
  (.seq (.region false [2, 9] [] [⟨(some 2), .alloc [(.row () []), (.row () [])], none, []⟩])
  (.seq (.region false [3, 4, 5, 6] [3, 4, 5, 6] [⟨(some 3), .bslice [(.int .i64 0)] 0 [], none, []⟩,
    ⟨(some 4), .move (.t 0), none, []⟩,
    ⟨(some 5), .append 1 (.t 3) (.t 4), none, []⟩,
    ⟨(some 6), .build [(.row () []), (.row () [])] [(0, 1, (.t 5))], none, []⟩,
    ⟨none, .store 2 (.t 2) (.t 6), none, []⟩])
  .ret))⟩
/- laws.eqIntS -/
def ir79 : FnIr := ⟨0, 2, 26, [(4, none)], [],
  (.seq (.region false [] [] [⟨(some 4), .assign (.c false [(.bool false)]), none, []⟩])
  (.seq (.seq (.region false [6, 7, 8, 9, 10] [6, 7, 8, 9] [⟨(some 6), .move (.t 0), none, []⟩,
    ⟨(some 7), .len false (.t 6), none, []⟩,
    ⟨(some 8), .move (.t 1), none, []⟩,
    ⟨(some 9), .len false (.t 8), none, []⟩,
    ⟨(some 10), .bin .neq (.t 7) (.t 9), none, []⟩])
  (.cond (.t 10)
  (.seq (.region false [] [] [⟨(some 4), .assign (.c false [(.bool false)]), none, []⟩])
  .ret)
  .skip))
  (.seq (.seq (.region false [] [] [⟨(some 5), .assign (.c false [(.int .i64 0)]), none, []⟩])
  (.block 0 (.loop (.seq (.seq (.region false [11, 12, 13, 14] [11, 12, 13] [⟨(some 11), .move (.t 5), none, []⟩,
    ⟨(some 12), .move (.t 0), none, []⟩,
    ⟨(some 13), .len false (.t 12), none, []⟩,
    ⟨(some 14), .bin .lss (.t 11) (.t 13), none, []⟩])
  (.cond (.t 14)
  .skip
  (.exit 0)))
  (.seq (.block 1 (.seq (.region true [17, 18, 19, 20, 21, 22, 23, 24, 25] [17, 18, 19, 20, 21, 22, 23, 24] [⟨(some 17), .move (.t 0), none, []⟩,
    ⟨(some 18), .move (.t 5), none, []⟩,
    ⟨(some 19), .iaddr 1 (.t 17) (.t 18), none, [0, 1]⟩,
    ⟨(some 20), .load false 1 (.t 19), none, [2, 0, 1]⟩,
    ⟨(some 21), .move (.t 1), none, []⟩,
    ⟨(some 22), .move (.t 5), none, []⟩,
    ⟨(some 23), .iaddr 1 (.t 21) (.t 22), none, [4, 5]⟩,
    ⟨(some 24), .load false 1 (.t 23), none, [6, 4, 5]⟩,
    ⟨(some 25), .bin .neq (.t 20) (.t 24), none, [3, 2, 0, 1, 7, 6, 4, 5]⟩])
  (.cond (.t 25)
  (.seq (.region false [] [] [⟨(some 4), .assign (.c false [(.bool false)]), none, []⟩])
  .ret)
  .skip)))
  (.region false [15, 16] [15, 16] [⟨(some 15), .move (.t 5), none, []⟩,
    ⟨(some 16), .bin .add (.t 15) (.c false [(.int .i64 1)]), none, []⟩,
    ⟨(some 5), .assign (.t 16), none, []⟩]))))))
  (.seq (.region false [] [] [⟨(some 4), .assign (.c false [(.bool true)]), none, []⟩])
  .ret))))⟩
/- laws.eqExt -/
def ir321 : FnIr := ⟨0, 2, 16, [(4, none)], [],
  (.seq (.region false [2, 3, 18, 19] [] [⟨(some 2), .box (.t 0), none, []⟩,
    ⟨(some 3), .box (.t 1), none, []⟩,
    ⟨(some 4), .assign (.c false [(.bool false)]), none, []⟩])
  (.seq (.seq (.region false [5, 6, 7, 8, 9] [5, 6, 7, 8] [⟨(some 5), .faddr 0 (.t 2), none, []⟩,
    ⟨(some 6), .load false 1 (.t 5), none, []⟩,
    ⟨(some 7), .faddr 0 (.t 3), none, []⟩,
    ⟨(some 8), .load false 1 (.t 7), none, []⟩,
    ⟨(some 9), .bin .neq (.t 6) (.t 8), none, []⟩])
  (.cond (.t 9)
  (.seq (.region false [] [] [⟨(some 4), .assign (.c false [(.bool false)]), none, []⟩])
  .ret)
  .skip))
  (.seq (.seq (.region false [10, 11, 12, 13, 14, 15, 30] [10, 11, 12, 13, 14] [⟨(some 10), .faddr 1 (.t 2), none, []⟩,
    ⟨(some 11), .load false 1 (.t 10), none, []⟩,
    ⟨(some 12), .faddr 1 (.t 3), none, []⟩,
    ⟨(some 13), .load false 1 (.t 12), none, []⟩,
    ⟨(some 14), .call 79 [(.t 11), (.t 13)], none, []⟩,
    ⟨(some 15), .un .not (.t 14), none, []⟩])
  (.cond (.t 15)
  (.seq (.region false [] [] [⟨(some 4), .assign (.c false [(.bool false)]), none, []⟩])
  .ret)
  .skip))
  (.seq (.region false [] [] [⟨(some 4), .assign (.c false [(.bool true)]), none, []⟩])
  .ret))))⟩
/- laws.eqExtS -/
def ir200 : FnIr := ⟨0, 2, 27, [(4, none)], [],
  (.seq (.region false [] [] [⟨(some 4), .assign (.c false [(.bool false)]), none, []⟩])
  (.seq (.seq (.region false [6, 7, 8, 9, 10] [6, 7, 8, 9] [⟨(some 6), .move (.t 0), none, []⟩,
    ⟨(some 7), .len false (.t 6), none, []⟩,
    ⟨(some 8), .move (.t 1), none, []⟩,
    ⟨(some 9), .len false (.t 8), none, []⟩,
    ⟨(some 10), .bin .neq (.t 7) (.t 9), none, []⟩])
  (.cond (.t 10)
  (.seq (.region false [] [] [⟨(some 4), .assign (.c false [(.bool false)]), none, []⟩])
  .ret)
  .skip))
  (.seq (.seq (.region false [] [] [⟨(some 5), .assign (.c false [(.int .i64 0)]), none, []⟩])
  (.block 0 (.loop (.seq (.seq (.region false [11, 12, 13, 14] [11, 12, 13] [⟨(some 11), .move (.t 5), none, []⟩,
    ⟨(some 12), .move (.t 0), none, []⟩,
    ⟨(some 13), .len false (.t 12), none, []⟩,
    ⟨(some 14), .bin .lss (.t 11) (.t 13), none, []⟩])
  (.cond (.t 14)
  .skip
  (.exit 0)))
  (.seq (.block 1 (.seq (.region true [17, 18, 19, 20, 21, 22, 23, 24, 25, 26, 52] [17, 18, 19, 20, 21, 22, 23, 24, 25] [⟨(some 17), .move (.t 0), none, []⟩,
    ⟨(some 18), .move (.t 5), none, []⟩,
    ⟨(some 19), .iaddr 2 (.t 17) (.t 18), none, [0, 1]⟩,
    ⟨(some 20), .load true 2 (.t 19), none, [2, 0, 1]⟩,
    ⟨(some 21), .move (.t 1), none, []⟩,
    ⟨(some 22), .move (.t 5), none, []⟩,
    ⟨(some 23), .iaddr 2 (.t 21) (.t 22), none, [4, 5]⟩,
    ⟨(some 24), .load true 2 (.t 23), none, [6, 4, 5]⟩,
    ⟨(some 25), .call 321 [(.t 20), (.t 24)], none, [3, 2, 0, 1, 7, 6, 4, 5]⟩,
    ⟨(some 26), .un .not (.t 25), none, [8, 3, 2, 0, 1, 7, 6, 4, 5]⟩])
  (.cond (.t 26)
  (.seq (.region false [] [] [⟨(some 4), .assign (.c false [(.bool false)]), none, []⟩])
  .ret)
  .skip)))
  (.region false [15, 16] [15, 16] [⟨(some 15), .move (.t 5), none, []⟩,
    ⟨(some 16), .bin .add (.t 15) (.c false [(.int .i64 1)]), none, []⟩,
    ⟨(some 5), .assign (.t 16), none, []⟩]))))))
  (.seq (.region false [] [] [⟨(some 4), .assign (.c false [(.bool true)]), none, []⟩])
  .ret))))⟩
/- laws.eqHello -/
def ir78 : FnIr := ⟨0, 2, 17, [(4, none)], [],
  (.seq (.region false [2, 3, 19, 20] [] [⟨(some 2), .box (.t 0), none, []⟩,
    ⟨(some 3), .box (.t 1), none, []⟩,
    ⟨(some 4), .assign (.c false [(.bool false)]), none, []⟩])
  (.seq (.seq (.region false [5, 6, 7, 8, 9, 10, 26] [5, 6, 7, 8, 9] [⟨(some 5), .faddr 0 (.t 2), none, []⟩,
    ⟨(some 6), .load false 1 (.t 5), none, []⟩,
    ⟨(some 7), .faddr 0 (.t 3), none, []⟩,
    ⟨(some 8), .load false 1 (.t 7), none, []⟩,
    ⟨(some 9), .call 79 [(.t 6), (.t 8)], none, []⟩,
    ⟨(some 10), .un .not (.t 9), none, []⟩])
  (.cond (.t 10)
  (.seq (.region false [] [] [⟨(some 4), .assign (.c false [(.bool false)]), none, []⟩])
  .ret)
  .skip))
  (.seq (.seq (.region false [11, 12, 13, 14, 15, 16, 32] [11, 12, 13, 14, 15] [⟨(some 11), .faddr 1 (.t 2), none, []⟩,
    ⟨(some 12), .load false 1 (.t 11), none, []⟩,
    ⟨(some 13), .faddr 1 (.t 3), none, []⟩,
    ⟨(some 14), .load false 1 (.t 13), none, []⟩,
    ⟨(some 15), .call 200 [(.t 12), (.t 14)], none, []⟩,
    ⟨(some 16), .un .not (.t 15), none, []⟩])
  (.cond (.t 16)
  (.seq (.region false [] [] [⟨(some 4), .assign (.c false [(.bool false)]), none, []⟩])
  .ret)
  .skip))
  (.seq (.region false [] [] [⟨(some 4), .assign (.c false [(.bool true)]), none, []⟩])
  .ret))))⟩
/- laws.heldIntS -/
def ir125 : FnIr := ⟨0, 2, 21, [(4, none)], [],
  (.seq (.region false [] [] [⟨(some 4), .assign (.c false [(.int .i64 0)]), none, []⟩])
  (.seq (.seq (.region false [] [] [⟨(some 5), .assign (.c false [(.int .i64 0)]), none, []⟩])
  (.block 0 (.loop (.seq (.seq (.region false [6, 7, 8, 9] [6, 7, 8] [⟨(some 6), .move (.t 5), none, []⟩,
    ⟨(some 7), .move (.t 0), none, []⟩,
    ⟨(some 8), .len false (.t 7), none, []⟩,
    ⟨(some 9), .bin .lss (.t 6) (.t 8), none, []⟩])
  (.cond (.t 9)
  .skip
  (.exit 0)))
  (.seq (.block 1 (.seq (.seq (.region false [12, 13, 14, 15, 16, 17] [12, 13, 14, 15, 16] [⟨(some 12), .move (.t 0), none, []⟩,
    ⟨(some 13), .move (.t 5), none, []⟩,
    ⟨(some 14), .iaddr 1 (.t 12) (.t 13), none, []⟩,
    ⟨(some 15), .load false 1 (.t 14), none, []⟩,
    ⟨(some 16), .move (.t 1), none, []⟩,
    ⟨(some 17), .bin .neq (.t 15) (.t 16), none, []⟩])
  (.cond (.t 17)
  (.seq (.region false [] [] [⟨(some 4), .assign (.c false [(.int .i64 (-1))]), none, []⟩])
  .ret)
  .skip))
  (.region false [18, 19] [18, 19] [⟨(some 18), .move (.t 1), none, []⟩,
    ⟨(some 19), .bin .add (.t 18) (.c false [(.int .i64 1)]), none, []⟩,
    ⟨(some 1), .assign (.t 19), none, []⟩])))
  (.region false [10, 11] [10, 11] [⟨(some 10), .move (.t 5), none, []⟩,
    ⟨(some 11), .bin .add (.t 10) (.c false [(.int .i64 1)]), none, []⟩,
    ⟨(some 5), .assign (.t 11), none, []⟩]))))))
  (.seq (.region false [20] [20] [⟨(some 20), .move (.t 1), none, []⟩,
    ⟨(some 4), .assign (.t 20), none, []⟩])
  .ret)))⟩
/- laws.heldExtS -/
def ir236 : FnIr := ⟨0, 2, 31, [(4, none)], [],
  (.seq (.region false [] [] [⟨(some 4), .assign (.c false [(.int .i64 0)]), none, []⟩])
  (.seq (.seq (.region false [] [] [⟨(some 5), .assign (.c false [(.int .i64 0)]), none, []⟩])
  (.block 0 (.loop (.seq (.seq (.region false [6, 7, 8, 9] [6, 7, 8] [⟨(some 6), .move (.t 5), none, []⟩,
    ⟨(some 7), .move (.t 0), none, []⟩,
    ⟨(some 8), .len false (.t 7), none, []⟩,
    ⟨(some 9), .bin .lss (.t 6) (.t 8), none, []⟩])
  (.cond (.t 9)
  .skip
  (.exit 0)))
  (.seq (.block 1 (.seq (.seq (.region false [12, 13, 14, 15, 16, 17, 18] [12, 13, 14, 15, 16, 17] [⟨(some 12), .move (.t 0), none, []⟩,
    ⟨(some 13), .move (.t 5), none, []⟩,
    ⟨(some 14), .iaddr 2 (.t 12) (.t 13), none, []⟩,
    ⟨(some 15), .faddr 0 (.t 14), none, []⟩,
    ⟨(some 16), .load false 1 (.t 15), none, []⟩,
    ⟨(some 17), .move (.t 1), none, []⟩,
    ⟨(some 18), .bin .neq (.t 16) (.t 17), none, []⟩])
  (.cond (.t 18)
  (.seq (.region false [] [] [⟨(some 4), .assign (.c false [(.int .i64 (-1))]), none, []⟩])
  .ret)
  .skip))
  (.seq (.region false [19, 20] [19, 20] [⟨(some 19), .move (.t 1), none, []⟩,
    ⟨(some 20), .bin .add (.t 19) (.c false [(.int .i64 1)]), none, []⟩,
    ⟨(some 1), .assign (.t 20), none, []⟩])
  (.seq (.region false [21, 22, 23, 24, 25, 26, 27, 58] [21, 22, 23, 24, 25, 26, 27] [⟨(some 21), .move (.t 0), none, []⟩,
    ⟨(some 22), .move (.t 5), none, []⟩,
    ⟨(some 23), .iaddr 2 (.t 21) (.t 22), none, []⟩,
    ⟨(some 24), .faddr 1 (.t 23), none, []⟩,
    ⟨(some 25), .load false 1 (.t 24), none, []⟩,
    ⟨(some 26), .move (.t 1), none, []⟩,
    ⟨(some 27), .call 125 [(.t 25), (.t 26)], none, []⟩,
    ⟨(some 1), .assign (.t 27), none, []⟩])
  (.seq (.region false [28, 29] [28] [⟨(some 28), .move (.t 1), none, []⟩,
    ⟨(some 29), .bin .lss (.t 28) (.c false [(.int .i64 0)]), none, []⟩])
  (.cond (.t 29)
  (.seq (.region false [] [] [⟨(some 4), .assign (.c false [(.int .i64 (-1))]), none, []⟩])
  .ret)
  .skip))))))
  (.region false [10, 11] [10, 11] [⟨(some 10), .move (.t 5), none, []⟩,
    ⟨(some 11), .bin .add (.t 10) (.c false [(.int .i64 1)]), none, []⟩,
    ⟨(some 5), .assign (.t 11), none, []⟩]))))))
  (.seq (.region false [30] [30] [⟨(some 30), .move (.t 1), none, []⟩,
    ⟨(some 4), .assign (.t 30), none, []⟩])
  .ret)))⟩
/- laws.heldHello -/
def ir82 : FnIr := ⟨0, 2, 18, [(4, none)], [],
  (.seq (.region false [2, 20] [] [⟨(some 2), .box (.t 0), none, []⟩,
    ⟨(some 4), .assign (.c false [(.int .i64 0)]), none, []⟩])
  (.seq (.region false [5, 6, 7, 8, 26] [5, 6, 7, 8] [⟨(some 5), .faddr 0 (.t 2), none, []⟩,
    ⟨(some 6), .load false 1 (.t 5), none, []⟩,
    ⟨(some 7), .move (.t 1), none, []⟩,
    ⟨(some 8), .call 125 [(.t 6), (.t 7)], none, []⟩,
    ⟨(some 1), .assign (.t 8), none, []⟩])
  (.seq (.seq (.region false [9, 10] [9] [⟨(some 9), .move (.t 1), none, []⟩,
    ⟨(some 10), .bin .lss (.t 9) (.c false [(.int .i64 0)]), none, []⟩])
  (.cond (.t 10)
  (.seq (.region false [] [] [⟨(some 4), .assign (.c false [(.int .i64 (-1))]), none, []⟩])
  .ret)
  .skip))
  (.seq (.region false [11, 12, 13, 14, 32] [11, 12, 13, 14] [⟨(some 11), .faddr 1 (.t 2), none, []⟩,
    ⟨(some 12), .load false 1 (.t 11), none, []⟩,
    ⟨(some 13), .move (.t 1), none, []⟩,
    ⟨(some 14), .call 236 [(.t 12), (.t 13)], none, []⟩,
    ⟨(some 1), .assign (.t 14), none, []⟩])
  (.seq (.seq (.region false [15, 16] [15] [⟨(some 15), .move (.t 1), none, []⟩,
    ⟨(some 16), .bin .lss (.t 15) (.c false [(.int .i64 0)]), none, []⟩])
  (.cond (.t 16)
  (.seq (.region false [] [] [⟨(some 4), .assign (.c false [(.int .i64 (-1))]), none, []⟩])
  .ret)
  .skip))
  (.seq (.region false [17] [17] [⟨(some 17), .move (.t 1), none, []⟩,
    ⟨(some 4), .assign (.t 17), none, []⟩])
  .ret))))))⟩
/- laws.FnExactPlainHello -/
def ir8 : FnIr := ⟨0, 1, 66, [(2, none)], [],
  (.seq (.region false [] [] [⟨(some 2), .assign (.c false [(.bool false)]), none, []⟩])
  (.seq (.seq (.region false [10, 11, 12] [10, 11] [⟨(some 10), .move (.t 0), none, []⟩,
    ⟨(some 11), .len false (.t 10), none, []⟩,
    ⟨(some 12), .bin .gtr (.t 11) (.c false [(.int .i64 1048576)]), none, []⟩])
  (.cond (.t 12)
  (.seq (.region false [] [] [⟨(some 2), .assign (.c false [(.bool true)]), none, []⟩])
  .ret)
  .skip))
  (.seq (.region false [13, 14, 15, 3, 80, 81, 69] [13, 14, 15] [⟨(some 13), .move (.t 0), none, []⟩,
    ⟨(some 14), .call 76 [(.t 13)], none, []⟩,
    ⟨(some 15), .call 75 [(.t 14)], none, []⟩,
    ⟨(some 3), .alloc [(.row () []), (.row () [])], none, []⟩,
    ⟨none, .store 2 (.t 3) (.t 15), none, []⟩])
  (.seq (.region false [16, 17, 83] [16, 17] [⟨(some 16), .move (.t 0), none, []⟩,
    ⟨(some 17), .call 76 [(.t 16)], none, []⟩,
    ⟨(some 4), .assign (.t 17), none, []⟩])
  (.seq (.region false [18, 19, 5, 85, 71] [18, 19] [⟨(some 18), .move (.t 4), none, []⟩,
    ⟨(some 19), .call 77 [(.t 18)], none, []⟩,
    ⟨(some 5), .alloc [(.row () []), (.row () [])], none, []⟩,
    ⟨none, .store 2 (.t 5) (.t 19), none, []⟩])
  (.seq (.seq (.region false [20, 21, 22, 23, 88] [20, 21, 22] [⟨(some 20), .load true 2 (.t 5), none, []⟩,
    ⟨(some 21), .load true 2 (.t 3), none, []⟩,
    ⟨(some 22), .call 78 [(.t 20), (.t 21)], none, []⟩,
    ⟨(some 23), .un .not (.t 22), none, []⟩])
  (.cond (.t 23)
  (.seq (.region false [] [] [⟨(some 2), .assign (.c false [(.bool false)]), none, []⟩])
  .ret)
  .skip))
  (.seq (.seq (.region false [24, 25, 26, 27, 28, 92, 93] [24, 25, 26, 27] [⟨(some 24), .move (.t 4), none, []⟩,
    ⟨(some 25), .move (.t 0), none, []⟩,
    ⟨(some 26), .call 76 [(.t 25)], none, []⟩,
    ⟨(some 27), .call 79 [(.t 24), (.t 26)], none, []⟩,
    ⟨(some 28), .un .not (.t 27), none, []⟩])
  (.cond (.t 28)
  (.seq (.region false [] [] [⟨(some 2), .assign (.c false [(.bool false)]), none, []⟩])
  .ret)
  .skip))
  (.seq (.region false [] [] [⟨(some 6), .assign (.c false [(.int .i64 1)]), none, []⟩])
  (.seq (.region false [29, 30, 31, 97] [29, 30, 31] [⟨(some 29), .move (.t 4), none, []⟩,
    ⟨(some 30), .move (.t 6), none, []⟩,
    ⟨(some 31), .call 1080 [(.t 29), (.t 30)], none, []⟩,
    ⟨(some 6), .assign (.t 31), none, []⟩])
  (.seq (.seq (.region false [32, 33, 34, 35, 36, 37, 38, 39, 103] [32, 33, 34, 35, 36, 37, 38] [⟨(some 32), .move (.t 6), none, []⟩,
    ⟨(some 33), .bin .lss (.t 32) (.c false [(.int .i64 0)]), none, []⟩,
    ⟨(some 34), .move (.t 33), none, []⟩,
    ⟨(some 35), .load true 2 (.t 5), (some (34, false)), []⟩,
    ⟨(some 36), .load true 2 (.t 3), (some (34, false)), []⟩,
    ⟨(some 37), .call 78 [(.t 35), (.t 36)], (some (34, false)), []⟩,
    ⟨(some 38), .un .not (.t 37), (some (34, false)), []⟩,
    ⟨(some 39), .pick (.t 34) (.c false [(.bool true)]) (.t 38), none, []⟩])
  (.cond (.t 39)
  (.seq (.region false [] [] [⟨(some 2), .assign (.c false [(.bool false)]), none, []⟩])
  .ret)
  .skip))
  (.seq (.region false [] [] [⟨(some 7), .assign (.c false [(.int .i64 1)]), none, []⟩])
  (.seq (.region false [40, 41, 42, 108] [40, 41, 42] [⟨(some 40), .load true 2 (.t 5), none, []⟩,
    ⟨(some 41), .move (.t 7), none, []⟩,
    ⟨(some 42), .call 1081 [(.t 40), (.t 41)], none, []⟩,
    ⟨(some 7), .assign (.t 42), none, []⟩])
  (.seq (.region false [] [] [⟨(some 8), .assign (.c false [(.int .i64 1)]), none, []⟩])
  (.seq (.region false [43, 44, 45, 111] [43, 44, 45] [⟨(some 43), .load true 2 (.t 5), none, []⟩,
    ⟨(some 44), .move (.t 8), none, []⟩,
    ⟨(some 45), .call 82 [(.t 43), (.t 44)], none, []⟩,
    ⟨(some 8), .assign (.t 45), none, []⟩])
  (.seq (.seq (.region false [46, 47] [46] [⟨(some 46), .move (.t 8), none, []⟩,
    ⟨(some 47), .bin .lss (.t 46) (.c false [(.int .i64 0)]), none, []⟩])
  (.cond (.t 47)
  (.seq (.region false [] [] [⟨(some 2), .assign (.c false [(.bool false)]), none, []⟩])
  .ret)
  .skip))
  (.seq (.seq (.region false [48, 49, 50] [48, 49] [⟨(some 48), .move (.t 8), none, []⟩,
    ⟨(some 49), .move (.t 7), none, []⟩,
    ⟨(some 50), .bin .neq (.t 48) (.t 49), none, []⟩])
  (.cond (.t 50)
  (.seq (.region false [] [] [⟨(some 2), .assign (.c false [(.bool false)]), none, []⟩])
  .ret)
  .skip))
  (.seq (.region false [51, 52, 53, 9, 118, 119, 75] [51, 52, 53] [⟨(some 51), .move (.t 0), none, []⟩,
    ⟨(some 52), .call 76 [(.t 51)], none, []⟩,
    ⟨(some 53), .call 77 [(.t 52)], none, []⟩,
    ⟨(some 9), .alloc [(.row () []), (.row () [])], none, []⟩,
    ⟨none, .store 2 (.t 9) (.t 53), none, []⟩])
  (.seq (.seq (.region false [54, 55, 56, 57, 122] [54, 55, 56] [⟨(some 54), .load true 2 (.t 9), none, []⟩,
    ⟨(some 55), .load true 2 (.t 3), none, []⟩,
    ⟨(some 56), .call 78 [(.t 54), (.t 55)], none, []⟩,
    ⟨(some 57), .un .not (.t 56), none, []⟩])
  (.cond (.t 57)
  (.seq (.region false [] [] [⟨(some 2), .assign (.c false [(.bool false)]), none, []⟩])
  .ret)
  .skip))
  (.seq (.region false [] [] [⟨(some 8), .assign (.c false [(.int .i64 1)]), none, []⟩])
  (.seq (.region false [58, 59, 60, 126] [58, 59, 60] [⟨(some 58), .load true 2 (.t 5), none, []⟩,
    ⟨(some 59), .move (.t 8), none, []⟩,
    ⟨(some 60), .call 82 [(.t 58), (.t 59)], none, []⟩,
    ⟨(some 8), .assign (.t 60), none, []⟩])
  (.seq (.seq (.region false [61, 62] [61] [⟨(some 61), .move (.t 8), none, []⟩,
    ⟨(some 62), .bin .lss (.t 61) (.c false [(.int .i64 0)]), none, []⟩])
  (.cond (.t 62)
  (.seq (.region false [] [] [⟨(some 2), .assign (.c false [(.bool false)]), none, []⟩])
  .ret)
  .skip))
  (.seq (.seq (.region false [63, 64, 65] [63, 64] [⟨(some 63), .move (.t 8), none, []⟩,
    ⟨(some 64), .move (.t 7), none, []⟩,
    ⟨(some 65), .bin .neq (.t 63) (.t 64), none, []⟩])
  (.cond (.t 65)
  (.seq (.region false [] [] [⟨(some 2), .assign (.c false [(.bool false)]), none, []⟩])
  .ret)
  .skip))
  (.seq (.region false [] [] [⟨(some 2), .assign (.c false [(.bool true)]), none, []⟩])
  .ret)))))))))))))))))))))))⟩
def tbl : List (Nat × FnIr) := [(1080, ir1080), (1201, ir1201), (1081, ir1081), (75, ir75), (76, ir76), (77, ir77), (79, ir79), (321, ir321), (200, ir200), (78, ir78), (125, ir125), (236, ir236), (82, ir82), (8, ir8)]
def Tb (g : Nat) : Option FnIr := tbl.lookup g
theorem tb_1080 : Tb 1080 = some ir1080 := rfl
theorem tb_1201 : Tb 1201 = some ir1201 := rfl
theorem tb_1081 : Tb 1081 = some ir1081 := rfl
theorem tb_75 : Tb 75 = some ir75 := rfl
theorem tb_76 : Tb 76 = some ir76 := rfl
theorem tb_77 : Tb 77 = some ir77 := rfl
theorem tb_79 : Tb 79 = some ir79 := rfl
theorem tb_321 : Tb 321 = some ir321 := rfl
theorem tb_200 : Tb 200 = some ir200 := rfl
theorem tb_78 : Tb 78 = some ir78 := rfl
theorem tb_125 : Tb 125 = some ir125 := rfl
theorem tb_236 : Tb 236 = some ir236 := rfl
theorem tb_82 : Tb 82 = some ir82 := rfl
theorem tb_8 : Tb 8 = some ir8 := rfl
end Go.Vm
