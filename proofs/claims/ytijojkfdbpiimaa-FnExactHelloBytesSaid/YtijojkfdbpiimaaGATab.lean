/- The code of the functions that the law reaches, as data. -/
import Derived.Test.YtijojkfdbpiimaaVmF
set_option maxHeartbeats 4000000
set_option maxRecDepth 10000
set_option linter.unusedVariables false
set_option linter.unusedSimpArgs false
namespace Go.Vm
def ir230 : FnIr := ⟨0, 3, 15, [(6, none)], [],
  (zs [] [] [zK 6 (zB false)]
  (zs (zr 7 8) (zr 7 8) [zM 7 0,
  zM 8 1,
  zb 9 .geq 7 8,
  zM 10 9,
  zG 11 (.move (.t 0)) 10 true,
  zG 12 (.move (.t 2)) 10 true,
  zG 13 (.bin .leq (.t 11) (.t 12)) 10 true,
  zO 14 (.pick (.t 10) (.t 13) (zB false)),
  zA 6 14]
  .ret))⟩
def ir348 : FnIr := ⟨0, 2, 15, [(4, none)], [],
  (zs [] [] [zK 4 (zI 0)]
  (.seq (zs [5,6,7,21] [5,6] [zM 5 1,
  zO 6 (.call 230 [(.t 5), (zI 1), (zI 1000000000000)]),
  zn 7 6]
  (zc 7
  (zs [] [] [zK 4 (zI 0)]
  .ret)
  .skip))
  (zs (zr 8 7) (zr 8 7) [zM 8 0,
  zM 9 1,
  zb 10 .rem 8 9,
  zM 11 1,
  zb 12 .add 10 11,
  zM 13 1,
  zb 14 .rem 12 13,
  zA 4 14]
  .ret)))⟩
def ir268 : FnIr := ⟨0, 1, 22, [(2, none)], [],
  (zs [] [] [zK 2 (zI 0)]
  (zs [] [] [zK 3 (zI 11)]
  (.seq (zs [] [] [zK 4 (zI 0)]
  (.block 0 (.loop (.seq (zs (zr 5 4) [5,6,7] [zM 5 4,
  zM 6 0,
  zl 7 6,
  zb 8 .lss 5 7]
  (zc 8
  .skip
  (.exit 0)))
  (.seq (.block 1 (zR (zq 11 10 [39]) (zr 11 10) [zM 11 3,
  zO 12 (.bin .mul (.t 11) (zI 1000003)),
  zM 13 0,
  zM 14 4,
  zp 15 1 13 14,
  zL 16 15,
  zO 17 (.call 348 [(.t 16), (zI 2147483647)]),
  zb 18 .add 12 17,
  zO 19 (.bin .add (.t 18) (zI 13)),
  zO 20 (.bin .rem (.t 19) (zI 2147483647)),
  zA 3 20]))
  (zR [9,10] [9,10] [zM 9 4,
  zO 10 (.bin .add (.t 9) (zI 1)),
  zA 4 10]))))))
  (zs [21] [21] [zM 21 3,
  zA 2 21]
  .ret))))⟩
def ir231 : FnIr := ⟨0, 1, 16, [(2, none)], [],
  (zs [] [] [zK 2 (zB false)]
  (.seq (zs [] [] [zK 3 (zI 0)]
  (.block 0 (.loop (.seq (zs (zr 4 4) [4,5,6] [zM 4 3,
  zM 5 0,
  zl 6 5,
  zb 7 .lss 4 6]
  (zc 7
  .skip
  (.exit 0)))
  (.seq (.block 1 (zs (zq 10 6 [30]) (zr 10 5) [zM 10 0,
  zM 11 3,
  zp 12 1 10 11,
  zL 13 12,
  zO 14 (.call 230 [(.t 13), (zI 0), (zI 255)]),
  zn 15 14]
  (zc 15
  (zs [] [] [zK 2 (zB false)]
  .ret)
  .skip)))
  (zR [8,9] [8,9] [zM 8 3,
  zO 9 (.bin .add (.t 8) (zI 1)),
  zA 3 9]))))))
  (zs [] [] [zK 2 (zB true)]
  .ret)))⟩
def ir71 : FnIr := ⟨0, 1, 19, [(2, none)], [],
  (zs [] [] [zK 2 (zB false)]
  (.seq (zs [] [] [zK 3 (zI 0)]
  (.block 0 (.loop (.seq (zs (zr 4 4) [4,5,6] [zM 4 3,
  zM 5 0,
  zl 6 5,
  zb 7 .lss 4 6]
  (zc 7
  .skip
  (.exit 0)))
  (.seq (.block 1 (zs (zq 10 6 [33]) (zr 10 5) [zM 10 0,
  zM 11 3,
  zp 12 1 10 11,
  zL 13 12,
  zC 14 231 [13],
  zn 15 14]
  (zc 15
  (zs [] [] [zK 2 (zB false)]
  .ret)
  .skip)))
  (zR [8,9] [8,9] [zM 8 3,
  zO 9 (.bin .add (.t 8) (zI 1)),
  zA 3 9]))))))
  (zs [16,17,18] [16,17,18] [zM 16 0,
  zl 17 16,
  zO 18 (.bin .leq (.t 17) (zI 12)),
  zA 2 18]
  .ret)))⟩
def ir120 : FnIr := ⟨0, 1, 28, [(2, none)], [],
  (zs [] [] [zK 2 (zI 0)]
  (zs [] [] [zK 3 (zI 1)]
  (.seq (zs [5,6,7,34] [5,6] [zM 5 0,
  zC 6 71 [5],
  zn 7 6]
  (zc 7
  (zs [] [] [zK 2 (zI 0)]
  .ret)
  .skip))
  (.seq (zs [] [] [zK 4 (zI 0)]
  (.block 0 (.loop (.seq (zs (zr 8 4) [8,9,10] [zM 8 4,
  zM 9 0,
  zl 10 9,
  zb 11 .lss 8 10]
  (zc 11
  .skip
  (.exit 0)))
  (.seq (.block 1 (.region true (zq 14 13 [54]) (zr 14 13) [zM 14 3,
  zM 15 0,
  zM 16 4,
  zv (zp 17 1 15 16) [1,2],
  zv (zL 18 17) [3,1,2],
  zv (zl 19 18) [4,3,1,2],
  zv (zO 20 (.bslice [(.int .i64 0)] 2 [(0, (.t 14)), (1, (.t 19))])) [0,5,4,3,1,2],
  zM 21 0,
  zM 22 4,
  zv (zp 23 1 21 22) [7,8],
  zv (zL 24 23) [9,7,8],
  zv (zO 25 (.append 1 (.t 20) (.t 24))) [6,0,5,4,3,1,2,10,9,7,8],
  zv (zC 26 268 [25]) [11,6,0,5,4,3,1,2,10,9,7,8],
  zv (zA 3 26) [12,11,6,0,5,4,3,1,2,10,9,7,8]]))
  (zR [12,13] [12,13] [zM 12 4,
  zO 13 (.bin .add (.t 12) (zI 1)),
  zA 4 13]))))))
  (zs [27] [27] [zM 27 3,
  zA 2 27]
  .ret)))))⟩
def ir282 : FnIr := ⟨0, 1, 5, [(2, none)], [],
  (zs [] [] [zK 2 (zB false)]
  (zs [3,4,9] [3,4] [zM 3 0,
  zO 4 (.call 230 [(.t 3), (zI 1), (zI 2147483646)]),
  zA 2 4]
  .ret))⟩
def ir283 : FnIr := ⟨0, 2, 13, [(4, none)], [],
  (zs [] [] [zK 4 (zI 0)]
  (zs (zq 5 8 [25]) (zr 5 8) [zM 5 0,
  zO 6 (.bslice [(.int .i64 0)] 1 [(0, (.t 5))]),
  zM 7 1,
  zO 8 (.append 1 (.t 6) (.t 7)),
  zM 9 0,
  zO 10 (.bslice [(.int .i64 0)] 1 [(0, (.t 9))]),
  zO 11 (.append 1 (.t 8) (.t 10)),
  zC 12 268 [11],
  zA 4 12]
  .ret))⟩
def ir143 : FnIr := ⟨0, 3, 26, [(6, none)], [],
  (zs [] [] [zK 6 (zI 0)]
  (.seq (zs (zq 7 13 [34,38,43]) (zr 7 12) [zM 7 0,
  zC 8 282 [7],
  zn 9 8,
  zM 10 9,
  zG 11 (.move (.t 1)) 10 false,
  zG 12 (.call 71 [(.t 11)]) 10 false,
  zG 13 (.un .not (.t 12)) 10 false,
  zO 14 (.pick (.t 10) (zB true) (.t 13)),
  zM 15 14,
  zG 16 (.move (.t 2)) 15 false,
  zG 17 (.call 230 [(.t 16), (zI 0), (zI 1)]) 15 false,
  zG 18 (.un .not (.t 17)) 15 false,
  zO 19 (.pick (.t 15) (zB true) (.t 18))]
  (zc 19
  (zs [] [] [zK 6 (zI 0)]
  .ret)
  .skip))
  (zs (zq 20 6 [49,51]) (zr 20 6) [zM 20 0,
  zM 21 2,
  zM 22 1,
  zC 23 120 [22],
  zO 24 (.bslice [(.int .i64 0)] 2 [(0, (.t 21)), (1, (.t 23))]),
  zC 25 283 [20,24],
  zA 6 25]
  .ret)))⟩
def ir232 : FnIr := ⟨0, 3, 15, [(6, none)], [],
  (zs [] [] [zK 6 (zB false)]
  (zs (zr 7 8) (zr 7 8) [zM 7 1,
  zM 8 0,
  zb 9 .leq 7 8,
  zM 10 9,
  zG 11 (.move (.t 0)) 10 true,
  zG 12 (.move (.t 2)) 10 true,
  zG 13 (.bin .leq (.t 11) (.t 12)) 10 true,
  zO 14 (.pick (.t 10) (.t 13) (zB false)),
  zA 6 14]
  .ret))⟩
def ir114 : FnIr := ⟨0, 1, 5, [(2, none)], [],
  (zs [] [] [zK 2 (zB false)]
  (zs [3,4,9] [3,4] [zM 3 0,
  zO 4 (.call 232 [(.t 3), (zI 1), (zI 2147483646)]),
  zA 2 4]
  .ret))⟩
def ir349 : FnIr := ⟨0, 2, 15, [(4, none)], [],
  (zs [] [] [zK 4 (zI 0)]
  (.seq (zs [5,6,7,21] [5,6] [zM 5 1,
  zO 6 (.call 232 [(.t 5), (zI 1), (zI 1000000000000)]),
  zn 7 6]
  (zc 7
  (zs [] [] [zK 4 (zI 0)]
  .ret)
  .skip))
  (zs (zr 8 7) (zr 8 7) [zM 8 0,
  zM 9 1,
  zb 10 .rem 8 9,
  zM 11 1,
  zb 12 .add 10 11,
  zM 13 1,
  zb 14 .rem 12 13,
  zA 4 14]
  .ret)))⟩
def ir269 : FnIr := ⟨0, 1, 21, [(2, none)], [],
  (zs [] [] [zK 2 (zI 0)]
  (zs [] [] [zK 3 (zI 11)]
  (.seq (zs [6,7,8] [] [zM 6 0,
  zl 7 6,
  zO 8 (.move (zI 0))]
  (.block 0 (.loop (zs [9] [] [zb 9 .lss 8 7]
  (.seq (zc 9
  .skip
  (.exit 0))
  (.seq (.block 1 (zs [10,11] [10,11] [zp 10 1 6 8,
  zL 11 10,
  zA 5 11]
  (zR (zq 12 7 [36]) (zr 12 7) [zM 12 3,
  zO 13 (.bin .mul (.t 12) (zI 1000003)),
  zM 14 5,
  zO 15 (.call 349 [(.t 14), (zI 2147483647)]),
  zb 16 .add 13 15,
  zO 17 (.bin .add (.t 16) (zI 13)),
  zO 18 (.bin .rem (.t 17) (zI 2147483647)),
  zA 3 18])))
  (zR [19] [19] [zO 19 (.bin .add (.t 8) (zI 1)),
  zM 8 19])))))))
  (zs [20] [20] [zM 20 3,
  zA 2 20]
  .ret))))⟩
def ir341 : FnIr := ⟨0, 2, 19, [(4, none)], [],
  (zs [] [] [zK 4 (zI 0)]
  (.seq (zs [6,7,8] [6] [zM 6 0,
  zl 7 6,
  zO 8 (.move (zI 0))]
  (.block 0 (.loop (zs [9] [] [zb 9 .lss 8 7]
  (.seq (zc 9
  .skip
  (.exit 0))
  (.seq (.block 1 (zs [10] [10] [zM 10 8,
  zA 5 10]
  (zs (zq 11 6 [35]) (zr 11 5) [zM 11 1,
  zM 12 0,
  zM 13 5,
  zp 14 1 12 13,
  zL 15 14,
  zO 16 (.callv (.t 11) [(.t 15)])]
  (zc 16
  (zs [17] [17] [zM 17 5,
  zA 4 17]
  .ret)
  .skip))))
  (zR [18] [18] [zO 18 (.bin .add (.t 8) (zI 1)),
  zM 8 18])))))))
  (zs [] [] [zK 4 (zI (-1))]
  .ret)))⟩
def ir234 : FnIr := ⟨0, 2, 9, [(4, none)], [],
  (zs [] [] [zK 4 (zB false)]
  (zs (zq 5 4 [16]) (zr 5 4) [zM 5 0,
  zM 6 1,
  zC 7 341 [5,6],
  zO 8 (.bin .geq (.t 7) (zI 0)),
  zA 4 8]
  .ret))⟩
def ir377 : FnIr := ⟨0, 2, 19, [(4, none)], [],
  (zs [] [] [zK 4 (zI 0)]
  (.seq (zs [6,7,8] [6] [zM 6 0,
  zl 7 6,
  zO 8 (.move (zI 0))]
  (.block 0 (.loop (zs [9] [] [zb 9 .lss 8 7]
  (.seq (zc 9
  .skip
  (.exit 0))
  (.seq (.block 1 (zs [10] [10] [zM 10 8,
  zA 5 10]
  (zs (zq 11 6 [35]) (zr 11 5) [zM 11 1,
  zM 12 0,
  zM 13 5,
  zp 14 1 12 13,
  zL 15 14,
  zO 16 (.callv (.t 11) [(.t 15)])]
  (zc 16
  (zs [17] [17] [zM 17 5,
  zA 4 17]
  .ret)
  .skip))))
  (zR [18] [18] [zO 18 (.bin .add (.t 8) (zI 1)),
  zM 8 18])))))))
  (zs [] [] [zK 4 (zI (-1))]
  .ret)))⟩
def ir336 : FnIr := ⟨0, 2, 9, [(4, none)], [],
  (zs [] [] [zK 4 (zB false)]
  (zs (zq 5 4 [16]) (zr 5 4) [zM 5 0,
  zM 6 1,
  zC 7 377 [5,6],
  zO 8 (.bin .geq (.t 7) (zI 0)),
  zA 4 8]
  .ret))⟩
def ir340 : FnIr := ⟨0, 3, 10, [(4, none)], [],
  (zs [] [] [zK 4 (zB false)]
  (zs (zq 5 5 [18]) (zr 5 5) [zM 5 0,
  zL 6 1,
  zL 7 2,
  zC 8 232 [5,6,7],
  zn 9 8,
  zA 4 9]
  .ret))⟩
def ir233 : FnIr := ⟨0, 3, 11, [(6, none)], [],
  (zs [4,5,15,16] [] [zO 4 (.box (.t 1)),
  zO 5 (.box (.t 2)),
  zK 6 (zB false)]
  (zs (zq 7 4 [20]) (zr 7 4) [zM 7 0,
  zO 8 (.mkfn 340 [4, 5]),
  zC 9 336 [7,8],
  zn 10 9,
  zA 6 10]
  .ret))⟩
def ir235 : FnIr := ⟨0, 1, 6, [(2, none)], [],
  (zs [] [] [zK 2 (zB false)]
  (zs [3,4,5,10] [3,4,5] [zM 3 0,
  zO 4 (.call 233 [(.t 3), (zI 0), (zI 255)]),
  zn 5 4,
  zA 2 5]
  .ret))⟩
def ir73 : FnIr := ⟨0, 1, 11, [(2, none)], [],
  (zs [] [] [zK 2 (zB false)]
  (zs (zq 3 8 [19]) (zr 3 8) [zM 3 0,
  zl 4 3,
  zO 5 (.bin .leq (.t 4) (zI 12)),
  zM 6 5,
  zG 7 (.move (.t 0)) 6 true,
  zG 8 (.call 234 [(.t 7), (.f 235)]) 6 true,
  zG 9 (.un .not (.t 8)) 6 true,
  zO 10 (.pick (.t 6) (.t 9) (zB false)),
  zA 2 10]
  .ret))⟩
def ir121 : FnIr := ⟨0, 1, 24, [(2, none)], [],
  (zs [] [] [zK 2 (zI 0)]
  (.seq (zs [6,7,8,31] [6,7] [zM 6 0,
  zC 7 73 [6],
  zn 8 7]
  (zc 8
  (zs [] [] [zK 2 (zI 0)]
  .ret)
  .skip))
  (zs [] [] [zK 3 (zI 1)]
  (.seq (zs [9,10,11] [] [zM 9 0,
  zl 10 9,
  zO 11 (.move (zI 0))]
  (.block 0 (.loop (zs [12] [] [zb 12 .lss 11 10]
  (.seq (zc 12
  .skip
  (.exit 0))
  (.seq (.block 1 (zs [13,14] [13,14] [zp 13 1 9 11,
  zL 14 13,
  zA 5 14]
  (zR (zq 15 7 [45]) (zr 15 7) [zM 15 3,
  zM 16 5,
  zl 17 16,
  zO 18 (.bslice [(.int .i64 0)] 2 [(0, (.t 15)), (1, (.t 17))]),
  zM 19 5,
  zO 20 (.append 1 (.t 18) (.t 19)),
  zC 21 269 [20],
  zA 3 21])))
  (zR [22] [22] [zO 22 (.bin .add (.t 11) (zI 1)),
  zM 11 22])))))))
  (zs [23] [23] [zM 23 3,
  zA 2 23]
  .ret)))))⟩
def ir355 : FnIr := ⟨2, 2, 27, [(4, none)], [],
  (zs [] [] [zK 4 zE]
  (.seq (zs [5,6] [5] [zM 5 1,
  zO 6 (.bin .lss (.t 5) (zI 0))]
  (zc 6
  (zR [7] [7] [zO 7 (.bad),
  zN (.bad)])
  .skip))
  (.seq (zs (zr 8 7) (zr 8 7) [zM 8 1,
  zM 9 0,
  zO 10 (.bad),
  zM 11 0,
  zl 12 11,
  zb 13 .sub 10 12,
  zb 14 .sub 8 13,
  zA 1 14]
  (zs [15,16] [15] [zM 15 1,
  zO 16 (.bin .gtr (.t 15) (zI 0))]
  (zc 16
  (zR (zr 17 9) (zr 17 9) [zM 17 0,
  zM 18 0,
  zO 19 (.bad),
  zO 20 (.slice 1 (.t 17) none (some (.t 19))),
  zM 21 1,
  zO 22 (.bad),
  zM 23 0,
  zl 24 23,
  zO 25 (.slice 1 (.t 22) none (some (.t 24))),
  zA 0 25])
  .skip)))
  (zs [26] [26] [zM 26 0,
  zA 4 26]
  .ret))))⟩
def ir304 : FnIr := ⟨0, 1, 36, [(2, none)], [],
  (zs [] [] [zK 2 zE]
  (zs [] [] [zK 3 (zI 0)]
  (.seq (zs [9,10,11] [] [zM 9 0,
  zl 10 9,
  zO 11 (.move (zI 0))]
  (.block 0 (.loop (zs [12] [] [zb 12 .lss 11 10]
  (.seq (zc 12
  .skip
  (.exit 0))
  (.seq (.block 1 (zs [13,14] [13,14] [zp 13 1 9 11,
  zL 14 13,
  zA 5 14]
  (zs (zr 15 4) (zr 15 4) [zM 15 3,
  zM 16 5,
  zl 17 16,
  zb 18 .add 15 17,
  zA 3 18]
  (zs [19,20] [19] [zM 19 3,
  zO 20 (.bin .lss (.t 19) (zI 0))]
  (zc 20
  (zR [21] [21] [zO 21 (.bad),
  zN (.bad)])
  .skip)))))
  (zR [22] [22] [zO 22 (.bin .add (.t 11) (zI 1)),
  zM 11 22])))))))
  (zs [23,24,60] [23,24] [zM 23 3,
  zO 24 (.call 355 [zE, (.t 23)]),
  zA 6 24]
  (.seq (zs [25,26,27] [] [zM 25 0,
  zl 26 25,
  zO 27 (.move (zI 0))]
  (.block 2 (.loop (zs [28] [] [zb 28 .lss 27 26]
  (.seq (zc 28
  .skip
  (.exit 2))
  (.seq (.block 3 (zs [29,30] [29,30] [zp 29 1 25 27,
  zL 30 29,
  zA 8 30]
  (zR [31,32,33] [31,32,33] [zM 31 6,
  zM 32 8,
  zO 33 (.append 1 (.t 31) (.t 32)),
  zA 6 33])))
  (zR [34] [34] [zO 34 (.bin .add (.t 27) (zI 1)),
  zM 27 34])))))))
  (zs [35] [35] [zM 35 6,
  zA 2 35]
  .ret))))))⟩
def ir284 : FnIr := ⟨0, 2, 13, [(4, none)], [],
  (zs [] [] [zK 4 (zI 0)]
  (zs (zq 5 8 [24,25]) (zr 5 8) [zM 5 0,
  zO 6 (.bslice [(.int .i64 0)] 1 [(0, (.t 5))]),
  zM 7 1,
  zM 8 0,
  zO 9 (.bslice [(.int .i64 0)] 1 [(0, (.t 8))]),
  zO 10 (.bslice [(.row () [])] 3 [(0, (.t 6)), (1, (.t 7)), (2, (.t 9))]),
  zC 11 304 [10],
  zC 12 269 [11],
  zA 4 12]
  .ret))⟩
def ir144 : FnIr := ⟨0, 3, 26, [(6, none)], [],
  (zs [] [] [zK 6 (zI 0)]
  (.seq (zs (zq 7 13 [34,38,43]) (zr 7 12) [zM 7 0,
  zC 8 114 [7],
  zn 9 8,
  zM 10 9,
  zG 11 (.move (.t 1)) 10 false,
  zG 12 (.call 73 [(.t 11)]) 10 false,
  zG 13 (.un .not (.t 12)) 10 false,
  zO 14 (.pick (.t 10) (zB true) (.t 13)),
  zM 15 14,
  zG 16 (.move (.t 2)) 15 false,
  zG 17 (.call 232 [(.t 16), (zI 0), (zI 1)]) 15 false,
  zG 18 (.un .not (.t 17)) 15 false,
  zO 19 (.pick (.t 15) (zB true) (.t 18))]
  (zc 19
  (zs [] [] [zK 6 (zI 0)]
  .ret)
  .skip))
  (zs (zq 20 6 [49,51]) (zr 20 6) [zM 20 0,
  zM 21 2,
  zM 22 1,
  zC 23 121 [22],
  zO 24 (.bslice [(.int .i64 0)] 2 [(0, (.t 21)), (1, (.t 23))]),
  zC 25 284 [20,24],
  zA 6 25]
  .ret)))⟩
def ir227 : FnIr := ⟨0, 2, 12, [(4, none)], [],
  (zs [] [] [zK 4 (zI 0)]
  (zs (zr 5 4) (zr 5 4) [zM 5 1,
  zM 6 0,
  zl 7 6,
  zb 8 .sub 5 7,
  zA 1 8]
  (.seq (zs [9,10] [9] [zM 9 1,
  zO 10 (.bin .lss (.t 9) (zI 0))]
  (zc 10
  (zs [] [] [zK 4 (zI (-1))]
  .ret)
  .skip))
  (zs [11] [11] [zM 11 1,
  zA 4 11]
  .ret))))⟩
def ir70 : FnIr := ⟨0, 2, 27, [(4, none)], [],
  (zs [] [] [zK 4 (zI 0)]
  (zs (zr 6 4) (zr 6 4) [zM 6 1,
  zM 7 0,
  zl 8 7,
  zb 9 .sub 6 8,
  zA 1 9]
  (.seq (zs [10,11] [10] [zM 10 1,
  zO 11 (.bin .lss (.t 10) (zI 0))]
  (zc 11
  (zs [] [] [zK 4 (zI (-1))]
  .ret)
  .skip))
  (.seq (zs [] [] [zK 5 (zI 0)]
  (.block 0 (.loop (.seq (zs (zr 12 4) [12,13,14] [zM 12 5,
  zM 13 0,
  zl 14 13,
  zb 15 .lss 12 14]
  (zc 15
  .skip
  (.exit 0)))
  (.seq (.block 1 (zs (zq 18 6 [50]) (zr 18 6) [zM 18 0,
  zM 19 5,
  zp 20 1 18 19,
  zL 21 20,
  zM 22 1,
  zC 23 227 [21,22],
  zA 1 23]
  (zs [24,25] [24] [zM 24 1,
  zO 25 (.bin .lss (.t 24) (zI 0))]
  (zc 25
  (zs [] [] [zK 4 (zI (-1))]
  .ret)
  .skip))))
  (zR [16,17] [16,17] [zM 16 5,
  zO 17 (.bin .add (.t 16) (zI 1)),
  zA 5 17]))))))
  (zs [26] [26] [zM 26 1,
  zA 4 26]
  .ret)))))⟩
def ir76 : FnIr := ⟨0, 1, 22, [(2, none)], [],
  (zs [] [] [zK 2 zE]
  (zs [5,6,7] [5,6,7] [zM 5 0,
  zl 6 5,
  zO 7 (.mkslice [(.int .i64 0)] (.t 6) (.t 6)),
  zA 3 7]
  (.seq (zs [] [] [zK 4 (zI 0)]
  (.block 0 (.loop (.seq (zs (zr 8 4) [8,9,10] [zM 8 4,
  zM 9 0,
  zl 10 9,
  zb 11 .lss 8 10]
  (zc 11
  .skip
  (.exit 0)))
  (.seq (.block 1 (zR (zr 14 7) (zr 14 7) [zM 14 3,
  zM 15 4,
  zM 16 0,
  zM 17 4,
  zp 18 1 16 17,
  zL 19 18,
  zp 20 1 14 15,
  zN (.rstore 1 (.t 20) (.t 19))]))
  (zR [12,13] [12,13] [zM 12 4,
  zO 13 (.bin .add (.t 12) (zI 1)),
  zA 4 13]))))))
  (zs [21] [21] [zM 21 3,
  zA 2 21]
  .ret))))⟩
def ir72 : FnIr := ⟨0, 1, 23, [(2, none)], [],
  (zs [] [] [zK 2 zE]
  (zs [5,6,7] [5,6,7] [zM 5 0,
  zl 6 5,
  zO 7 (.mkslice [(.row () [])] (.t 6) (.t 6)),
  zA 3 7]
  (.seq (zs [] [] [zK 4 (zI 0)]
  (.block 0 (.loop (.seq (zs (zr 8 4) [8,9,10] [zM 8 4,
  zM 9 0,
  zl 10 9,
  zb 11 .lss 8 10]
  (zc 11
  .skip
  (.exit 0)))
  (.seq (.block 1 (zR (zq 14 8 [43]) (zr 14 8) [zM 14 3,
  zM 15 4,
  zM 16 0,
  zM 17 4,
  zp 18 1 16 17,
  zL 19 18,
  zC 20 76 [19],
  zp 21 1 14 15,
  zN (.rstore 1 (.t 21) (.t 20))]))
  (zR [12,13] [12,13] [zM 12 4,
  zO 13 (.bin .add (.t 12) (zI 1)),
  zA 4 13]))))))
  (zs [22] [22] [zM 22 3,
  zA 2 22]
  .ret))))⟩
def ir79 : FnIr := ⟨0, 2, 26, [(4, none)], [],
  (zs [] [] [zK 4 (zB false)]
  (.seq (zs (zr 6 5) (zr 6 4) [zM 6 0,
  zl 7 6,
  zM 8 1,
  zl 9 8,
  zb 10 .neq 7 9]
  (zc 10
  (zs [] [] [zK 4 (zB false)]
  .ret)
  .skip))
  (.seq (zs [] [] [zK 5 (zI 0)]
  (.block 0 (.loop (.seq (zs (zr 11 4) [11,12,13] [zM 11 5,
  zM 12 0,
  zl 13 12,
  zb 14 .lss 11 13]
  (zc 14
  .skip
  (.exit 0)))
  (.seq (.block 1 (.seq (.region true (zr 17 9) (zr 17 8) [zM 17 0,
  zM 18 5,
  zv (zp 19 1 17 18) [0,1],
  zv (zL 20 19) [2,0,1],
  zM 21 1,
  zM 22 5,
  zv (zp 23 1 21 22) [4,5],
  zv (zL 24 23) [6,4,5],
  zv (zb 25 .neq 20 24) [3,2,0,1,7,6,4,5]])
  (zc 25
  (zs [] [] [zK 4 (zB false)]
  .ret)
  .skip)))
  (zR [15,16] [15,16] [zM 15 5,
  zO 16 (.bin .add (.t 15) (zI 1)),
  zA 5 16]))))))
  (zs [] [] [zK 4 (zB true)]
  .ret))))⟩
def ir74 : FnIr := ⟨0, 2, 27, [(4, none)], [],
  (zs [] [] [zK 4 (zB false)]
  (.seq (zs (zr 6 5) (zr 6 4) [zM 6 0,
  zl 7 6,
  zM 8 1,
  zl 9 8,
  zb 10 .neq 7 9]
  (zc 10
  (zs [] [] [zK 4 (zB false)]
  .ret)
  .skip))
  (.seq (zs [] [] [zK 5 (zI 0)]
  (.block 0 (.loop (.seq (zs (zr 11 4) [11,12,13] [zM 11 5,
  zM 12 0,
  zl 13 12,
  zb 14 .lss 11 13]
  (zc 14
  .skip
  (.exit 0)))
  (.seq (.block 1 (.seq (.region true (zq 17 10 [52]) (zr 17 9) [zM 17 0,
  zM 18 5,
  zv (zp 19 1 17 18) [0,1],
  zv (zL 20 19) [2,0,1],
  zM 21 1,
  zM 22 5,
  zv (zp 23 1 21 22) [4,5],
  zv (zL 24 23) [6,4,5],
  zv (zC 25 79 [20,24]) [3,2,0,1,7,6,4,5],
  zv (zn 26 25) [8,3,2,0,1,7,6,4,5]])
  (zc 26
  (zs [] [] [zK 4 (zB false)]
  .ret)
  .skip)))
  (zR [15,16] [15,16] [zM 15 5,
  zO 16 (.bin .add (.t 15) (zI 1)),
  zA 5 16]))))))
  (zs [] [] [zK 4 (zB true)]
  .ret))))⟩
def ir24 : FnIr := ⟨0, 3, 35, [(6, none)], [],
  (zs [] [] [zK 6 (zB false)]
  (zs [] [] [zK 7 (zI 1048576)]
  (zs [11,12,13,48] [11,12,13] [zM 11 1,
  zM 12 7,
  zC 13 70 [11,12],
  zA 7 13]
  (.seq (zs [14,15] [14] [zM 14 7,
  zO 15 (.bin .lss (.t 14) (zI 0))]
  (zc 15
  (zs [] [] [zK 6 (zB true)]
  .ret)
  .skip))
  (zs (zq 16 5 [53,55]) (zr 16 5) [zM 16 0,
  zM 17 1,
  zC 18 72 [17],
  zM 19 2,
  zC 20 143 [16,18,19],
  zA 8 20]
  (zs [21,22,57] [21,22] [zM 21 1,
  zC 22 72 [21],
  zA 9 22]
  (zs (zq 23 4 [61]) (zr 23 4) [zM 23 0,
  zM 24 9,
  zM 25 2,
  zC 26 144 [23,24,25],
  zA 10 26]
  (.seq (zs [27,28,29] [27,28] [zM 27 10,
  zM 28 8,
  zb 29 .neq 27 28]
  (zc 29
  (zs [] [] [zK 6 (zB false)]
  .ret)
  .skip))
  (.seq (zs (zq 30 5 [67,68]) (zr 30 4) [zM 30 9,
  zM 31 1,
  zC 32 72 [31],
  zC 33 74 [30,32],
  zn 34 33]
  (zc 34
  (zs [] [] [zK 6 (zB false)]
  .ret)
  .skip))
  (zs [] [] [zK 6 (zB true)]
  .ret))))))))))⟩
def ir145 : FnIr := ⟨0, 4, 19, [(8, none)], [],
  (zs [] [] [zK 8 (zB false)]
  (zs (zq 9 10 [34]) (zr 9 10) [zM 9 3,
  zO 10 (.bin .neq (.t 9) (zI 0)),
  zM 11 10,
  zG 12 (.move (.t 0)) 11 true,
  zG 13 (.move (.t 1)) 11 true,
  zG 14 (.move (.t 2)) 11 true,
  zG 15 (.call 143 [(.t 12), (.t 13), (.t 14)]) 11 true,
  zG 16 (.move (.t 3)) 11 true,
  zG 17 (.bin .eql (.t 15) (.t 16)) 11 true,
  zO 18 (.pick (.t 11) (.t 17) (zB false)),
  zA 8 18]
  .ret))⟩
def ir146 : FnIr := ⟨0, 4, 19, [(8, none)], [],
  (zs [] [] [zK 8 (zB false)]
  (zs (zq 9 10 [35]) (zr 9 10) [zM 9 3,
  zO 10 (.bin .neq (.t 9) (zI 0)),
  zM 11 10,
  zG 12 (.move (.t 3)) 11 true,
  zG 13 (.move (.t 0)) 11 true,
  zG 14 (.move (.t 1)) 11 true,
  zG 15 (.move (.t 2)) 11 true,
  zG 16 (.call 144 [(.t 13), (.t 14), (.t 15)]) 11 true,
  zG 17 (.bin .eql (.t 12) (.t 16)) 11 true,
  zO 18 (.pick (.t 11) (.t 17) (zB false)),
  zA 8 18]
  .ret))⟩
def ir25 : FnIr := ⟨0, 4, 39, [(8, none)], [],
  (zs [] [] [zK 8 (zB false)]
  (zs [] [] [zK 9 (zI 1048576)]
  (zs [13,14,15,54] [13,14,15] [zM 13 1,
  zM 14 9,
  zC 15 70 [13,14],
  zA 9 15]
  (.seq (zs [16,17] [16] [zM 16 9,
  zO 17 (.bin .lss (.t 16) (zI 0))]
  (zc 17
  (zs [] [] [zK 8 (zB true)]
  .ret)
  .skip))
  (zs (zq 18 6 [59,62]) (zr 18 6) [zM 18 0,
  zM 19 1,
  zC 20 72 [19],
  zM 21 2,
  zM 22 3,
  zC 23 145 [18,20,21,22],
  zA 10 23]
  (zs [24,25,64] [24,25] [zM 24 1,
  zC 25 72 [24],
  zA 11 25]
  (zs (zq 26 5 [69]) (zr 26 5) [zM 26 0,
  zM 27 11,
  zM 28 2,
  zM 29 3,
  zC 30 146 [26,27,28,29],
  zA 12 30]
  (.seq (zs [31,32,33] [31,32] [zM 31 12,
  zM 32 10,
  zO 33 (.beq true (.t 31) (.t 32))]
  (zc 33
  (zs [] [] [zK 8 (zB false)]
  .ret)
  .skip))
  (.seq (zs (zq 34 5 [75,76]) (zr 34 4) [zM 34 11,
  zM 35 1,
  zC 36 72 [35],
  zC 37 74 [34,36],
  zn 38 37]
  (zc 38
  (zs [] [] [zK 8 (zB false)]
  .ret)
  .skip))
  (zs [] [] [zK 8 (zB true)]
  .ret))))))))))⟩
def ir1080 : FnIr := ⟨0, 2, 19, [(4, none)], [.mrow, .val],
  (zs [] [] [zK 4 (zI 0)]
  (.seq (zs [] [] [zK 5 (zI 0)]
  (.block 0 (.loop (.seq (zs (zr 6 4) [6,7,8] [zM 6 5,
  zM 7 0,
  zl 8 7,
  zb 9 .lss 6 8]
  (zc 9
  .skip
  (.exit 0)))
  (.seq (.block 1 (zs (zr 12 4) (zr 12 4) [zM 12 0,
  zM 13 5,
  zM 14 1,
  zp 15 1 12 13,
  zN (.rstore 1 (.t 15) (.t 14))]
  (zR [16,17] [16,17] [zM 16 1,
  zO 17 (.bin .add (.t 16) (zI 1)),
  zA 1 17])))
  (zR [10,11] [10,11] [zM 10 5,
  zO 11 (.bin .add (.t 10) (zI 1)),
  zA 5 11]))))))
  (zs [18] [18] [zM 18 1,
  zA 4 18]
  .ret)))⟩
def ir1201 : FnIr := ⟨0, 2, 27, [(4, none)], [.mrow, .val],
  (zs [] [] [zK 4 (zI 0)]
  (.seq (zs [] [] [zK 5 (zI 0)]
  (.block 0 (.loop (.seq (zs (zr 6 4) [6,7,8] [zM 6 5,
  zM 7 0,
  zl 8 7,
  zb 9 .lss 6 8]
  (zc 9
  .skip
  (.exit 0)))
  (.seq (.block 1 (zs (zr 12 5) (zr 12 5) [zM 12 0,
  zM 13 5,
  zM 14 1,
  zp 15 2 12 13,
  zF 16 0 15,
  zN (.rstore 1 (.t 16) (.t 14))]
  (zs [17,18] [17,18] [zM 17 1,
  zO 18 (.bin .add (.t 17) (zI 1)),
  zA 1 18]
  (zR (zq 19 7 [52]) (zr 19 7) [zM 19 0,
  zM 20 5,
  zp 21 2 19 20,
  zF 22 1 21,
  zL 23 22,
  zM 24 1,
  zC 25 1080 [23,24],
  zA 1 25]))))
  (zR [10,11] [10,11] [zM 10 5,
  zO 11 (.bin .add (.t 10) (zI 1)),
  zA 5 11]))))))
  (zs [26] [26] [zM 26 1,
  zA 4 26]
  .ret)))⟩
def ir1081 : FnIr := ⟨0, 2, 14, [(4, none)], [.mrow, .val],
  (zs [2,16] [] [zO 2 (.box (.t 0)),
  zK 4 (zI 0)]
  (zs (zq 5 4 [22]) (zr 5 4) [zF 5 0 2,
  zL 6 5,
  zM 7 1,
  zC 8 1080 [6,7],
  zA 1 8]
  (zs (zq 9 4 [26]) (zr 9 4) [zF 9 1 2,
  zL 10 9,
  zM 11 1,
  zC 12 1201 [10,11],
  zA 1 12]
  (zs [13] [13] [zM 13 1,
  zA 4 13]
  .ret))))⟩
def ir125 : FnIr := ⟨0, 2, 21, [(4, none)], [],
  (zs [] [] [zK 4 (zI 0)]
  (.seq (zs [] [] [zK 5 (zI 0)]
  (.block 0 (.loop (.seq (zs (zr 6 4) [6,7,8] [zM 6 5,
  zM 7 0,
  zl 8 7,
  zb 9 .lss 6 8]
  (zc 9
  .skip
  (.exit 0)))
  (.seq (.block 1 (.seq (zs (zr 12 6) (zr 12 5) [zM 12 0,
  zM 13 5,
  zp 14 1 12 13,
  zL 15 14,
  zM 16 1,
  zb 17 .neq 15 16]
  (zc 17
  (zs [] [] [zK 4 (zI (-1))]
  .ret)
  .skip))
  (zR [18,19] [18,19] [zM 18 1,
  zO 19 (.bin .add (.t 18) (zI 1)),
  zA 1 19])))
  (zR [10,11] [10,11] [zM 10 5,
  zO 11 (.bin .add (.t 10) (zI 1)),
  zA 5 11]))))))
  (zs [20] [20] [zM 20 1,
  zA 4 20]
  .ret)))⟩
def ir257 : FnIr := ⟨0, 1, 35, [(2, none)], [],
  (zs [] [] [zK 2 (zB false)]
  (.seq (zs [] [] [zK 3 (zI 0)]
  (.block 0 (.loop (.seq (zs (zr 4 4) [4,5,6] [zM 4 3,
  zM 5 0,
  zl 6 5,
  zb 7 .lss 4 6]
  (zc 7
  .skip
  (.exit 0)))
  (.seq (.block 1 (.seq (.region true (zq 10 22 [49]) (zr 10 21) [zM 10 0,
  zM 11 3,
  zv (zp 12 1 10 11) [0,1],
  zv (zL 13 12) [2,0,1],
  zv (zO 14 (.call 230 [(.t 13), (zI 1), (zI 9)])) [3,2,0,1],
  zv (zn 15 14) [4,3,2,0,1],
  zv (zM 16 15) [5,4,3,2,0,1],
  zv (zG 17 (.move (.t 3)) 16 false) [6,5,4,3,2,0,1],
  zv (zG 18 (.bin .gtr (.t 17) (zI 0)) 16 false) [7,6,5,4,3,2,0,1],
  zv (zG 19 (.move (.t 18)) 16 false) [8,7,6,5,4,3,2,0,1],
  zv (zG 20 (.move (.t 0)) 19 true) [9,8,7,6,5,4,3,2,0,1],
  zv (zG 21 (.move (.t 3)) 19 true) [9,8,7,6,5,4,3,2,0,1],
  zv (zG 22 (.bin .sub (.t 21) (zI 1)) 19 true) [11,9,8,7,6,5,4,3,2,0,1],
  zv (zG 23 (.iaddr 1 (.t 20) (.t 22)) 19 true) [10,9,8,7,6,5,4,3,2,0,1,12,11],
  zv (zG 24 (.load false 1 (.t 23)) 19 true) [13,10,9,8,7,6,5,4,3,2,0,1,12,11],
  zv (zG 25 (.move (.t 0)) 19 true) [9,8,7,6,5,4,3,2,0,1],
  zv (zG 26 (.move (.t 3)) 19 true) [9,8,7,6,5,4,3,2,0,1],
  zv (zG 27 (.iaddr 1 (.t 25) (.t 26)) 19 true) [15,9,8,7,6,5,4,3,2,0,1,16],
  zv (zG 28 (.load false 1 (.t 27)) 19 true) [17,15,9,8,7,6,5,4,3,2,0,1,16],
  zv (zG 29 (.bin .geq (.t 24) (.t 28)) 19 true) [14,13,10,9,8,7,6,5,4,3,2,0,1,12,11,18,17,15,16],
  zv (zG 30 (.pick (.t 19) (.t 29) (zB false)) 16 false) [9,8,7,6,5,4,3,2,0,1,19,14,13,10,12,11,18,17,15,16],
  zv (zO 31 (.pick (.t 16) (zB true) (.t 30))) [6,5,4,3,2,0,1,20,9,8,7,19,14,13,10,12,11,18,17,15,16]])
  (zc 31
  (zs [] [] [zK 2 (zB false)]
  .ret)
  .skip)))
  (zR [8,9] [8,9] [zM 8 3,
  zO 9 (.bin .add (.t 8) (zI 1)),
  zA 3 9]))))))
  (zs [32,33,34] [32,33,34] [zM 32 0,
  zl 33 32,
  zO 34 (.bin .gtr (.t 33) (zI 0)),
  zA 2 34]
  .ret)))⟩
def ir286 : FnIr := ⟨0, 2, 20, [(4, none)], [],
  (zs [] [] [zK 4 (zI 0)]
  (.seq (zs [] [] [zK 5 (zI 0)]
  (.block 0 (.loop (.seq (zs (zr 6 4) [6,7,8] [zM 6 5,
  zM 7 0,
  zl 8 7,
  zb 9 .lss 6 8]
  (zc 9
  .skip
  (.exit 0)))
  (.seq (.block 1 (zs (zr 12 7) (zr 12 6) [zM 12 0,
  zM 13 5,
  zp 14 2 12 13,
  zF 15 0 14,
  zL 16 15,
  zM 17 1,
  zb 18 .eql 16 17]
  (zc 18
  (zs [19] [19] [zM 19 5,
  zA 4 19]
  .ret)
  .skip)))
  (zR [10,11] [10,11] [zM 10 5,
  zO 11 (.bin .add (.t 10) (zI 1)),
  zA 5 11]))))))
  (zs [] [] [zK 4 (zI (-1))]
  .ret)))⟩
def ir271 : FnIr := ⟨0, 1, 49, [(2, none)], [],
  (zs [] [] [zK 2 (zB false)]
  (.seq (zs [] [] [zK 3 (zI 0)]
  (.block 0 (.loop (.seq (zs (zr 4 4) [4,5,6] [zM 4 3,
  zM 5 0,
  zl 6 5,
  zb 7 .lss 4 6]
  (zc 7
  .skip
  (.exit 0)))
  (.seq (.block 1 (zs (zq 10 36 [64,81,91]) (zr 10 35) [zM 10 0,
  zM 11 3,
  zp 12 2 10 11,
  zF 13 0 12,
  zL 14 13,
  zO 15 (.call 230 [(.t 14), (zI 0), (zI 255)]),
  zn 16 15,
  zM 17 16,
  zG 18 (.move (.t 0)) 17 false,
  zG 19 (.move (.t 3)) 17 false,
  zG 20 (.iaddr 2 (.t 18) (.t 19)) 17 false,
  zG 21 (.faddr 1 (.t 20)) 17 false,
  zG 22 (.load false 1 (.t 21)) 17 false,
  zG 23 (.len false (.t 22)) 17 false,
  zG 24 (.bin .gtr (.t 23) (zI 4)) 17 false,
  zO 25 (.pick (.t 17) (zB true) (.t 24)),
  zM 26 25,
  zG 27 (.move (.t 0)) 26 false,
  zG 28 (.move (.t 3)) 26 false,
  zG 29 (.iaddr 2 (.t 27) (.t 28)) 26 false,
  zG 30 (.faddr 1 (.t 29)) 26 false,
  zG 31 (.load false 1 (.t 30)) 26 false,
  zG 32 (.call 231 [(.t 31)]) 26 false,
  zG 33 (.un .not (.t 32)) 26 false,
  zO 34 (.pick (.t 26) (zB true) (.t 33)),
  zM 35 34,
  zG 36 (.move (.t 0)) 35 false,
  zG 37 (.move (.t 0)) 35 false,
  zG 38 (.move (.t 3)) 35 false,
  zG 39 (.iaddr 2 (.t 37) (.t 38)) 35 false,
  zG 40 (.faddr 0 (.t 39)) 35 false,
  zG 41 (.load false 1 (.t 40)) 35 false,
  zG 42 (.call 286 [(.t 36), (.t 41)]) 35 false,
  zG 43 (.move (.t 3)) 35 false,
  zG 44 (.bin .lss (.t 42) (.t 43)) 35 false,
  zO 45 (.pick (.t 35) (zB true) (.t 44))]
  (zc 45
  (zs [] [] [zK 2 (zB false)]
  .ret)
  .skip)))
  (zR [8,9] [8,9] [zM 8 3,
  zO 9 (.bin .add (.t 8) (zI 1)),
  zA 3 9]))))))
  (zs [46,47,48] [46,47,48] [zM 46 0,
  zl 47 46,
  zO 48 (.bin .leq (.t 47) (zI 6)),
  zA 2 48]
  .ret)))⟩
def ir142 : FnIr := ⟨0, 1, 11, [(2, none)], [],
  (zs [1,12] [] [zO 1 (.box (.t 0)),
  zK 2 (zB false)]
  (zs (zq 3 8 [16,20]) (zr 3 8) [zF 3 0 1,
  zL 4 3,
  zC 5 257 [4],
  zM 6 5,
  zG 7 (.faddr 1 (.t 1)) 6 true,
  zG 8 (.load false 1 (.t 7)) 6 true,
  zG 9 (.call 271 [(.t 8)]) 6 true,
  zO 10 (.pick (.t 6) (.t 9) (zB false)),
  zA 2 10]
  .ret))⟩
def ir293 : FnIr := ⟨0, 1, 41, [(2, none), (3, none)], [],
  (zs [] [] [zK 2 zE,
  zK 3 (zB false)]
  (.seq (zs [6,7,8,48] [6,7] [zM 6 0,
  zC 7 271 [6],
  zn 8 7]
  (zc 8
  (zs [9] [9] [zO 9 (.bslice [(.int .i64 0)] 0 []),
  zA 2 9,
  zK 3 (zB false)]
  .ret)
  .skip))
  (zs [10,11,12] [10,11,12] [zM 10 0,
  zl 11 10,
  zO 12 (.bslice [(.int .i64 0)] 1 [(0, (.t 11))]),
  zA 4 12]
  (.seq (zs [] [] [zK 5 (zI 0)]
  (.block 0 (.loop (.seq (zs (zr 13 4) [13,14,15] [zM 13 5,
  zM 14 0,
  zl 15 14,
  zb 16 .lss 13 15]
  (zc 16
  .skip
  (.exit 0)))
  (.seq (.block 1 (.seq (.region true (zr 19 14) (zr 19 14) [zM 19 4,
  zM 20 0,
  zM 21 5,
  zv (zp 22 2 20 21) [1,2],
  zv (zF 23 0 22) [3,1,2],
  zv (zL 24 23) [4,3,1,2],
  zM 25 0,
  zM 26 5,
  zv (zp 27 2 25 26) [6,7],
  zv (zF 28 1 27) [8,6,7],
  zv (zL 29 28) [9,8,6,7],
  zv (zl 30 29) [10,9,8,6,7],
  zv (zO 31 (.bslice [(.int .i64 0)] 2 [(0, (.t 24)), (1, (.t 30))])) [5,4,3,1,2,11,10,9,8,6,7],
  zv (zO 32 (.append 1 (.t 19) (.t 31))) [0,12,5,4,3,1,2,11,10,9,8,6,7],
  zv (zA 4 32) [13,0,12,5,4,3,1,2,11,10,9,8,6,7]])
  (zR (zr 33 7) (zr 33 7) [zM 33 4,
  zM 34 0,
  zM 35 5,
  zp 36 2 34 35,
  zF 37 1 36,
  zL 38 37,
  zO 39 (.append 1 (.t 33) (.t 38)),
  zA 4 39])))
  (zR [17,18] [17,18] [zM 17 5,
  zO 18 (.bin .add (.t 17) (zI 1)),
  zA 5 18]))))))
  (zs [40] [40] [zM 40 4,
  zA 2 40,
  zK 3 (zB true)]
  .ret)))))⟩
def ir162 : FnIr := ⟨0, 1, 24, [(2, none)], [],
  (zs [1,25] [] [zO 1 (.box (.t 0)),
  zK 2 zE]
  (.seq (zs [5,6,7,30] [5,6] [zS 5 2 1,
  zC 6 142 [5],
  zn 7 6]
  (zc 7
  (zs [8] [8] [zO 8 (.bslice [(.int .i64 0)] 0 []),
  zA 2 8]
  .ret)
  .skip))
  (zs [10,11,12,9,13,14,36] [10,11,12,9,13,14] [zF 10 1 1,
  zL 11 10,
  zC 12 293 [11],
  zM 9 12,
  zO 13 (.extract 0 (.t 9)),
  zO 14 (.extract 1 (.t 9)),
  zA 3 13,
  zA 4 14]
  (zs (zr 15 9) (zr 15 9) [zF 15 0 1,
  zL 16 15,
  zl 17 16,
  zO 18 (.bslice [(.int .i64 0)] 1 [(0, (.t 17))]),
  zF 19 0 1,
  zL 20 19,
  zO 21 (.append 1 (.t 18) (.t 20)),
  zM 22 3,
  zO 23 (.append 1 (.t 21) (.t 22)),
  zA 2 23]
  .ret))))⟩
def ir255 : FnIr := ⟨0, 1, 32, [(2, none)], [],
  (zs [] [] [zK 2 (zB false)]
  (.seq (zs [5,6,7] [] [zM 5 0,
  zl 6 5,
  zO 7 (.move (zI 0))]
  (.block 0 (.loop (zs [8] [] [zb 8 .lss 7 6]
  (.seq (zc 8
  .skip
  (.exit 0))
  (.seq (.block 1 (zs [9,10,11] [9,10,11] [zM 9 7,
  zp 10 1 5 7,
  zL 11 10,
  zA 3 9,
  zA 4 11]
  (zs (zq 12 16 [45]) (zr 12 15) [zM 12 4,
  zO 13 (.call 232 [(.t 12), (zI 1), (zI 9)]),
  zn 14 13,
  zM 15 14,
  zG 16 (.move (.t 3)) 15 false,
  zG 17 (.bin .gtr (.t 16) (zI 0)) 15 false,
  zG 18 (.move (.t 17)) 15 false,
  zG 19 (.move (.t 0)) 18 true,
  zG 20 (.move (.t 3)) 18 true,
  zG 21 (.bin .sub (.t 20) (zI 1)) 18 true,
  zG 22 (.iaddr 1 (.t 19) (.t 21)) 18 true,
  zG 23 (.load false 1 (.t 22)) 18 true,
  zG 24 (.move (.t 4)) 18 true,
  zG 25 (.bin .geq (.t 23) (.t 24)) 18 true,
  zG 26 (.pick (.t 18) (.t 25) (zB false)) 15 false,
  zO 27 (.pick (.t 15) (zB true) (.t 26))]
  (zc 27
  (zs [] [] [zK 2 (zB false)]
  .ret)
  .skip))))
  (zR [28] [28] [zO 28 (.bin .add (.t 7) (zI 1)),
  zM 7 28])))))))
  (zs [29,30,31] [29,30,31] [zM 29 0,
  zl 30 29,
  zO 31 (.bin .gtr (.t 30) (zI 0)),
  zA 2 31]
  .ret)))⟩
def ir351 : FnIr := ⟨0, 2, 19, [(4, none)], [],
  (zs [] [] [zK 4 (zI 0)]
  (.seq (zs [6,7,8] [6] [zM 6 0,
  zl 7 6,
  zO 8 (.move (zI 0))]
  (.block 0 (.loop (zs [9] [] [zb 9 .lss 8 7]
  (.seq (zc 9
  .skip
  (.exit 0))
  (.seq (.block 1 (zs [10] [10] [zM 10 8,
  zA 5 10]
  (zs (zq 11 6 [35]) (zr 11 5) [zM 11 1,
  zM 12 0,
  zM 13 5,
  zp 14 2 12 13,
  zS 15 2 14,
  zO 16 (.callv (.t 11) [(.t 15)])]
  (zc 16
  (zs [17] [17] [zM 17 5,
  zA 4 17]
  .ret)
  .skip))))
  (zR [18] [18] [zO 18 (.bin .add (.t 8) (zI 1)),
  zM 8 18])))))))
  (zs [] [] [zK 4 (zI (-1))]
  .ret)))⟩
def ir352 : FnIr := ⟨0, 2, 8, [(3, none)], [],
  (zs [2,10] [] [zO 2 (.box (.t 0)),
  zK 3 (zB false)]
  (zs (zr 4 4) (zr 4 4) [zF 4 0 2,
  zL 5 4,
  zL 6 1,
  zb 7 .eql 5 6,
  zA 3 7]
  .ret))⟩
def ir290 : FnIr := ⟨0, 2, 8, [(4, none)], [],
  (zs [3,11] [] [zO 3 (.box (.t 1)),
  zK 4 (zI 0)]
  (zs [5,6,7,15] [5,6,7] [zM 5 0,
  zO 6 (.mkfn 352 [3]),
  zC 7 351 [5,6],
  zA 4 7]
  .ret))⟩
def ir258 : FnIr := ⟨0, 1, 41, [(2, none)], [],
  (zs [] [] [zK 2 (zB false)]
  (.seq (zs [5,6,7] [] [zM 5 0,
  zl 6 5,
  zO 7 (.move (zI 0))]
  (.block 0 (.loop (zs [8] [] [zb 8 .lss 7 6]
  (.seq (zc 8
  .skip
  (.exit 0))
  (.seq (.block 1 (zs [9,10,11,4,45] [9,10,11] [zM 9 7,
  zp 10 2 5 7,
  zS 11 2 10,
  zO 4 (.alloc [(.int .i64 0), (.row () [])]),
  zA 3 9,
  zN (.store 2 (.t 4) (.t 11))]
  (.seq (.region true (zq 12 25 [55,63,75]) (zr 12 24) [zF 12 0 4,
  zv (zL 13 12) [0],
  zv (zO 14 (.call 232 [(.t 13), (zI 0), (zI 255)])) [1,0],
  zv (zn 15 14) [2,1,0],
  zv (zM 16 15) [3,2,1,0],
  zv (zG 17 (.move (.t 0)) 16 false) [4,3,2,1,0],
  zv (zG 18 (.move (.t 3)) 16 false) [4,3,2,1,0],
  zv (zG 19 (.slice 2 (.t 17) none (some (.t 18))) 16 false) [5,4,3,2,1,0,6],
  zv (zG 20 (.faddr 0 (.t 4)) 16 false) [4,3,2,1,0],
  zv (zG 21 (.load false 1 (.t 20)) 16 false) [8,4,3,2,1,0],
  zv (zG 22 (.call 290 [(.t 19), (.t 21)]) 16 false) [7,5,4,3,2,1,0,6,9,8],
  zv (zG 23 (.bin .geq (.t 22) (zI 0)) 16 false) [10,7,5,4,3,2,1,0,6,9,8],
  zv (zO 24 (.pick (.t 16) (zB true) (.t 23))) [4,3,2,1,0,11,10,7,5,6,9,8],
  zv (zM 25 24) [12,4,3,2,1,0,11,10,7,5,6,9,8],
  zv (zG 26 (.faddr 1 (.t 4)) 25 false) [13,12,4,3,2,1,0,11,10,7,5,6,9,8],
  zv (zG 27 (.load false 1 (.t 26)) 25 false) [14,13,12,4,3,2,1,0,11,10,7,5,6,9,8],
  zv (zG 28 (.len false (.t 27)) 25 false) [15,14,13,12,4,3,2,1,0,11,10,7,5,6,9,8],
  zv (zG 29 (.bin .gtr (.t 28) (zI 4)) 25 false) [16,15,14,13,12,4,3,2,1,0,11,10,7,5,6,9,8],
  zv (zO 30 (.pick (.t 25) (zB true) (.t 29))) [13,12,4,3,2,1,0,11,10,7,5,6,9,8,17,16,15,14],
  zv (zM 31 30) [18,13,12,4,3,2,1,0,11,10,7,5,6,9,8,17,16,15,14],
  zv (zG 32 (.faddr 1 (.t 4)) 31 false) [19,18,13,12,4,3,2,1,0,11,10,7,5,6,9,8,17,16,15,14],
  zv (zG 33 (.load false 1 (.t 32)) 31 false) [20,19,18,13,12,4,3,2,1,0,11,10,7,5,6,9,8,17,16,15,14],
  zv (zG 34 (.call 233 [(.t 33), (zI 0), (zI 255)]) 31 false) [21,20,19,18,13,12,4,3,2,1,0,11,10,7,5,6,9,8,17,16,15,14],
  zv (zG 35 (.un .not (.t 34)) 31 false) [22,21,20,19,18,13,12,4,3,2,1,0,11,10,7,5,6,9,8,17,16,15,14],
  zv (zO 36 (.pick (.t 31) (zB true) (.t 35))) [19,18,13,12,4,3,2,1,0,11,10,7,5,6,9,8,17,16,15,14,23,22,21,20]])
  (zc 36
  (zs [] [] [zK 2 (zB false)]
  .ret)
  .skip))))
  (zR [37] [37] [zO 37 (.bin .add (.t 7) (zI 1)),
  zM 7 37])))))))
  (zs [38,39,40] [38,39,40] [zM 38 0,
  zl 39 38,
  zO 40 (.bin .leq (.t 39) (zI 6)),
  zA 2 40]
  .ret)))⟩
def ir113 : FnIr := ⟨0, 1, 11, [(2, none)], [],
  (zs [1,12] [] [zO 1 (.box (.t 0)),
  zK 2 (zB false)]
  (zs (zq 3 8 [16,20]) (zr 3 8) [zF 3 0 1,
  zL 4 3,
  zC 5 255 [4],
  zM 6 5,
  zG 7 (.faddr 1 (.t 1)) 6 true,
  zG 8 (.load false 1 (.t 7)) 6 true,
  zG 9 (.call 258 [(.t 8)]) 6 true,
  zO 10 (.pick (.t 6) (.t 9) (zB false)),
  zA 2 10]
  .ret))⟩
def ir294 : FnIr := ⟨0, 1, 32, [(2, none), (3, none)], [],
  (zs [] [] [zK 2 zE,
  zK 3 (zB false)]
  (.seq (zs [7,8,9,40] [7,8] [zM 7 0,
  zC 8 258 [7],
  zn 9 8]
  (zc 9
  (zs [] [] [zK 2 zE,
  zK 3 (zB false)]
  .ret)
  .skip))
  (zs [10,11,12] [10,11,12] [zM 10 0,
  zl 11 10,
  zO 12 (.bslice [(.int .i64 0)] 1 [(0, (.t 11))]),
  zA 4 12]
  (.seq (zs [13,14,15] [] [zM 13 0,
  zl 14 13,
  zO 15 (.move (zI 0))]
  (.block 0 (.loop (zs [16] [] [zb 16 .lss 15 14]
  (.seq (zc 16
  .skip
  (.exit 0))
  (.seq (.block 1 (zs [17,18,6,38] [17,18] [zp 17 2 13 15,
  zS 18 2 17,
  zO 6 (.alloc [(.int .i64 0), (.row () [])]),
  zN (.store 2 (.t 6) (.t 18))]
  (.region true (zr 19 11) (zr 19 11) [zM 19 4,
  zF 20 0 6,
  zv (zL 21 20) [1],
  zF 22 1 6,
  zv (zL 23 22) [3],
  zv (zl 24 23) [4,3],
  zv (zO 25 (.bslice [(.int .i64 0)] 2 [(0, (.t 21)), (1, (.t 24))])) [2,1,5,4,3],
  zv (zO 26 (.append 1 (.t 19) (.t 25))) [0,6,2,1,5,4,3],
  zF 27 1 6,
  zv (zL 28 27) [8],
  zv (zO 29 (.append 1 (.t 26) (.t 28))) [7,0,6,2,1,5,4,3,9,8],
  zv (zA 4 29) [10,7,0,6,2,1,5,4,3,9,8]])))
  (zR [30] [30] [zO 30 (.bin .add (.t 15) (zI 1)),
  zM 15 30])))))))
  (zs [31] [31] [zM 31 4,
  zA 2 31,
  zK 3 (zB true)]
  .ret)))))⟩
def ir163 : FnIr := ⟨0, 1, 23, [(2, none)], [],
  (zs [1,24] [] [zO 1 (.box (.t 0)),
  zK 2 zE]
  (.seq (zs [5,6,7,29] [5,6] [zS 5 2 1,
  zC 6 113 [5],
  zn 7 6]
  (zc 7
  (zs [] [] [zK 2 zE]
  .ret)
  .skip))
  (zs [9,10,11,8,12,13,34] [9,10,11,8,12,13] [zF 9 1 1,
  zL 10 9,
  zC 11 294 [10],
  zM 8 11,
  zO 12 (.extract 0 (.t 8)),
  zO 13 (.extract 1 (.t 8)),
  zA 3 12,
  zA 4 13]
  (zs (zq 14 9 [45]) (zr 14 9) [zF 14 0 1,
  zL 15 14,
  zl 16 15,
  zO 17 (.bslice [(.int .i64 0)] 1 [(0, (.t 16))]),
  zF 18 0 1,
  zL 19 18,
  zM 20 3,
  zO 21 (.bslice [(.row () [])] 3 [(0, (.t 17)), (1, (.t 19)), (2, (.t 20))]),
  zC 22 304 [21],
  zA 2 22]
  .ret))))⟩
def ir321 : FnIr := ⟨0, 2, 16, [(4, none)], [],
  (zs [2,3,18,19] [] [zO 2 (.box (.t 0)),
  zO 3 (.box (.t 1)),
  zK 4 (zB false)]
  (.seq (zs (zr 5 5) (zr 5 4) [zF 5 0 2,
  zL 6 5,
  zF 7 0 3,
  zL 8 7,
  zb 9 .neq 6 8]
  (zc 9
  (zs [] [] [zK 4 (zB false)]
  .ret)
  .skip))
  (.seq (zs (zq 10 6 [30]) (zr 10 5) [zF 10 1 2,
  zL 11 10,
  zF 12 1 3,
  zL 13 12,
  zC 14 79 [11,13],
  zn 15 14]
  (zc 15
  (zs [] [] [zK 4 (zB false)]
  .ret)
  .skip))
  (zs [] [] [zK 4 (zB true)]
  .ret))))⟩
def ir200 : FnIr := ⟨0, 2, 27, [(4, none)], [],
  (zs [] [] [zK 4 (zB false)]
  (.seq (zs (zr 6 5) (zr 6 4) [zM 6 0,
  zl 7 6,
  zM 8 1,
  zl 9 8,
  zb 10 .neq 7 9]
  (zc 10
  (zs [] [] [zK 4 (zB false)]
  .ret)
  .skip))
  (.seq (zs [] [] [zK 5 (zI 0)]
  (.block 0 (.loop (.seq (zs (zr 11 4) [11,12,13] [zM 11 5,
  zM 12 0,
  zl 13 12,
  zb 14 .lss 11 13]
  (zc 14
  .skip
  (.exit 0)))
  (.seq (.block 1 (.seq (.region true (zq 17 10 [52]) (zr 17 9) [zM 17 0,
  zM 18 5,
  zv (zp 19 2 17 18) [0,1],
  zv (zS 20 2 19) [2,0,1],
  zM 21 1,
  zM 22 5,
  zv (zp 23 2 21 22) [4,5],
  zv (zS 24 2 23) [6,4,5],
  zv (zC 25 321 [20,24]) [3,2,0,1,7,6,4,5],
  zv (zn 26 25) [8,3,2,0,1,7,6,4,5]])
  (zc 26
  (zs [] [] [zK 4 (zB false)]
  .ret)
  .skip)))
  (zR [15,16] [15,16] [zM 15 5,
  zO 16 (.bin .add (.t 15) (zI 1)),
  zA 5 16]))))))
  (zs [] [] [zK 4 (zB true)]
  .ret))))⟩
def ir78 : FnIr := ⟨0, 2, 17, [(4, none)], [],
  (zs [2,3,19,20] [] [zO 2 (.box (.t 0)),
  zO 3 (.box (.t 1)),
  zK 4 (zB false)]
  (.seq (zs (zq 5 6 [26]) (zr 5 5) [zF 5 0 2,
  zL 6 5,
  zF 7 0 3,
  zL 8 7,
  zC 9 79 [6,8],
  zn 10 9]
  (zc 10
  (zs [] [] [zK 4 (zB false)]
  .ret)
  .skip))
  (.seq (zs (zq 11 6 [32]) (zr 11 5) [zF 11 1 2,
  zL 12 11,
  zF 13 1 3,
  zL 14 13,
  zC 15 200 [12,14],
  zn 16 15]
  (zc 16
  (zs [] [] [zK 4 (zB false)]
  .ret)
  .skip))
  (zs [] [] [zK 4 (zB true)]
  .ret))))⟩
def ir319 : FnIr := ⟨0, 2, 12, [(4, none)], [],
  (zs [2,14] [] [zO 2 (.box (.t 0)),
  zK 4 (zI 0)]
  (zs (zq 5 4 [20]) (zr 5 4) [zF 5 1 2,
  zL 6 5,
  zM 7 1,
  zC 8 227 [6,7],
  zA 1 8]
  (.seq (zs [9,10] [9] [zM 9 1,
  zO 10 (.bin .lss (.t 9) (zI 0))]
  (zc 10
  (zs [] [] [zK 4 (zI (-1))]
  .ret)
  .skip))
  (zs [11] [11] [zM 11 1,
  zA 4 11]
  .ret))))⟩
def ir197 : FnIr := ⟨0, 2, 27, [(4, none)], [],
  (zs [] [] [zK 4 (zI 0)]
  (zs (zr 6 4) (zr 6 4) [zM 6 1,
  zM 7 0,
  zl 8 7,
  zb 9 .sub 6 8,
  zA 1 9]
  (.seq (zs [10,11] [10] [zM 10 1,
  zO 11 (.bin .lss (.t 10) (zI 0))]
  (zc 11
  (zs [] [] [zK 4 (zI (-1))]
  .ret)
  .skip))
  (.seq (zs [] [] [zK 5 (zI 0)]
  (.block 0 (.loop (.seq (zs (zr 12 4) [12,13,14] [zM 12 5,
  zM 13 0,
  zl 14 13,
  zb 15 .lss 12 14]
  (zc 15
  .skip
  (.exit 0)))
  (.seq (.block 1 (zs (zq 18 6 [50]) (zr 18 6) [zM 18 0,
  zM 19 5,
  zp 20 2 18 19,
  zS 21 2 20,
  zM 22 1,
  zC 23 319 [21,22],
  zA 1 23]
  (zs [24,25] [24] [zM 24 1,
  zO 25 (.bin .lss (.t 24) (zI 0))]
  (zc 25
  (zs [] [] [zK 4 (zI (-1))]
  .ret)
  .skip))))
  (zR [16,17] [16,17] [zM 16 5,
  zO 17 (.bin .add (.t 16) (zI 1)),
  zA 5 17]))))))
  (zs [26] [26] [zM 26 1,
  zA 4 26]
  .ret)))))⟩
def ir83 : FnIr := ⟨0, 2, 18, [(4, none)], [],
  (zs [2,20] [] [zO 2 (.box (.t 0)),
  zK 4 (zI 0)]
  (zs (zq 5 4 [26]) (zr 5 4) [zF 5 0 2,
  zL 6 5,
  zM 7 1,
  zC 8 227 [6,7],
  zA 1 8]
  (.seq (zs [9,10] [9] [zM 9 1,
  zO 10 (.bin .lss (.t 9) (zI 0))]
  (zc 10
  (zs [] [] [zK 4 (zI (-1))]
  .ret)
  .skip))
  (zs (zq 11 4 [32]) (zr 11 4) [zF 11 1 2,
  zL 12 11,
  zM 13 1,
  zC 14 197 [12,13],
  zA 1 14]
  (.seq (zs [15,16] [15] [zM 15 1,
  zO 16 (.bin .lss (.t 15) (zI 0))]
  (zc 16
  (zs [] [] [zK 4 (zI (-1))]
  .ret)
  .skip))
  (zs [17] [17] [zM 17 1,
  zA 4 17]
  .ret))))))⟩
def ir320 : FnIr := ⟨0, 1, 12, [(2, (some (true, 2)))], [],
  (zs [1,2,13,14] [] [zO 1 (.box (.t 0)),
  zO 2 (.alloc [(.int .i64 0), (.row () [])])]
  (zs [3,15] [] [zO 3 (.alloc [(.int .i64 0), (.row () [])])]
  (zs [4,5,6] [4,5,6] [zF 4 0 1,
  zL 5 4,
  zF 6 0 3,
  zN (.store 1 (.t 6) (.t 5))]
  (zs (zq 7 4 [21]) (zr 7 4) [zF 7 1 1,
  zL 8 7,
  zC 9 76 [8],
  zF 10 1 3,
  zN (.store 1 (.t 10) (.t 9))]
  (zs [11] [11] [zS 11 2 3,
  zN (.store 2 (.t 2) (.t 11))]
  .ret)))))⟩
def ir199 : FnIr := ⟨0, 1, 23, [(2, none)], [],
  (zs [] [] [zK 2 zE]
  (zs [5,6,7] [5,6,7] [zM 5 0,
  zl 6 5,
  zO 7 (.mkslice [(.int .i64 0), (.row () [])] (.t 6) (.t 6)),
  zA 3 7]
  (.seq (zs [] [] [zK 4 (zI 0)]
  (.block 0 (.loop (.seq (zs (zr 8 4) [8,9,10] [zM 8 4,
  zM 9 0,
  zl 10 9,
  zb 11 .lss 8 10]
  (zc 11
  .skip
  (.exit 0)))
  (.seq (.block 1 (zR (zq 14 8 [43]) (zr 14 8) [zM 14 3,
  zM 15 4,
  zM 16 0,
  zM 17 4,
  zp 18 2 16 17,
  zS 19 2 18,
  zC 20 320 [19],
  zp 21 2 14 15,
  zN (.rstore 2 (.t 21) (.t 20))]))
  (zR [12,13] [12,13] [zM 12 4,
  zO 13 (.bin .add (.t 12) (zI 1)),
  zA 4 13]))))))
  (zs [22] [22] [zM 22 3,
  zA 2 22]
  .ret))))⟩
def ir85 : FnIr := ⟨0, 1, 13, [(2, (some (true, 2)))], [],
  (zs [1,2,14,15] [] [zO 1 (.box (.t 0)),
  zO 2 (.alloc [(.row () []), (.row () [])])]
  (zs [3,16] [] [zO 3 (.alloc [(.row () []), (.row () [])])]
  (zs (zq 4 4 [19]) (zr 4 4) [zF 4 0 1,
  zL 5 4,
  zC 6 76 [5],
  zF 7 0 3,
  zN (.store 1 (.t 7) (.t 6))]
  (zs (zq 8 4 [23]) (zr 8 4) [zF 8 1 1,
  zL 9 8,
  zC 10 199 [9],
  zF 11 1 3,
  zN (.store 1 (.t 11) (.t 10))]
  (zs [12] [12] [zS 12 2 3,
  zN (.store 2 (.t 2) (.t 12))]
  .ret)))))⟩
def ir33 : FnIr := ⟨0, 1, 69, [(2, none)], [],
  (zs [1,70] [] [zO 1 (.box (.t 0)),
  zK 2 (zB false)]
  (zs [] [] [zK 3 (zI 1048576)]
  (zs [11,12,13,82] [11,12,13] [zS 11 2 1,
  zM 12 3,
  zC 13 83 [11,12],
  zA 3 13]
  (.seq (zs [14,15] [14] [zM 14 3,
  zO 15 (.bin .lss (.t 14) (zI 0))]
  (zc 15
  (zs [] [] [zK 2 (zB true)]
  .ret)
  .skip))
  (zs [16,17,18,86,87] [16,17,18] [zS 16 2 1,
  zC 17 85 [16],
  zC 18 162 [17],
  zA 4 18]
  (zs [19,20,5,89,74] [19,20] [zS 19 2 1,
  zC 20 85 [19],
  zO 5 (.alloc [(.row () []), (.row () [])]),
  zN (.store 2 (.t 5) (.t 20))]
  (zs [21,22,91] [21,22] [zS 21 2 5,
  zC 22 163 [21],
  zA 6 22]
  (.seq (zs (zq 23 4 [94]) [23,24,25] [zM 23 6,
  zM 24 4,
  zC 25 79 [23,24],
  zn 26 25]
  (zc 26
  (zs [] [] [zK 2 (zB false)]
  .ret)
  .skip))
  (.seq (.seq (.region true (zq 27 5 [98,99]) (zr 27 4) [zS 27 2 5,
  zS 28 2 1,
  zv (zC 29 85 [28]) [1],
  zv (zC 30 78 [27,29]) [0,2,1],
  zv (zn 31 30) [3,0,2,1]])
  (zc 31
  (zs [] [] [zK 2 (zB false)]
  .ret)
  .skip))
  (zs [] [] [zK 7 (zI 1)]
  (zs [32,33,34,103] [32,33,34] [zS 32 2 5,
  zM 33 7,
  zC 34 1081 [32,33],
  zA 7 34]
  (.seq (zs (zq 35 8 [109]) (zr 35 7) [zM 35 7,
  zO 36 (.bin .lss (.t 35) (zI 0)),
  zM 37 36,
  zG 38 (.move (.t 6)) 37 false,
  zG 39 (.move (.t 4)) 37 false,
  zG 40 (.call 79 [(.t 38), (.t 39)]) 37 false,
  zG 41 (.un .not (.t 40)) 37 false,
  zO 42 (.pick (.t 37) (zB true) (.t 41))]
  (zc 42
  (zs [] [] [zK 2 (zB false)]
  .ret)
  .skip))
  (zs [] [] [zK 8 (zI 1)]
  (zs [43,44,45,114] [43,44,45] [zM 43 6,
  zM 44 8,
  zC 45 1080 [43,44],
  zA 8 45]
  (zs [] [] [zK 9 (zI 1)]
  (zs [46,47,48,117] [46,47,48] [zM 46 6,
  zM 47 9,
  zC 48 125 [46,47],
  zA 9 48]
  (.seq (zs [49,50] [49] [zM 49 9,
  zO 50 (.bin .lss (.t 49) (zI 0))]
  (zc 50
  (zs [] [] [zK 2 (zB false)]
  .ret)
  .skip))
  (.seq (zs [51,52,53] [51,52] [zM 51 9,
  zM 52 8,
  zb 53 .neq 51 52]
  (zc 53
  (zs [] [] [zK 2 (zB false)]
  .ret)
  .skip))
  (zs [54,55,56,124,125] [54,55,56] [zS 54 2 1,
  zC 55 85 [54],
  zC 56 163 [55],
  zA 10 56]
  (.seq (zs (zq 57 4 [128]) [57,58,59] [zM 57 10,
  zM 58 4,
  zC 59 79 [57,58],
  zn 60 59]
  (zc 60
  (zs [] [] [zK 2 (zB false)]
  .ret)
  .skip))
  (zs [] [] [zK 9 (zI 1)]
  (zs [61,62,63,132] [61,62,63] [zM 61 6,
  zM 62 9,
  zC 63 125 [61,62],
  zA 9 63]
  (.seq (zs [64,65] [64] [zM 64 9,
  zO 65 (.bin .lss (.t 64) (zI 0))]
  (zc 65
  (zs [] [] [zK 2 (zB false)]
  .ret)
  .skip))
  (.seq (zs [66,67,68] [66,67] [zM 66 9,
  zM 67 8,
  zb 68 .neq 66 67]
  (zc 68
  (zs [] [] [zK 2 (zB false)]
  .ret)
  .skip))
  (zs [] [] [zK 2 (zB true)]
  .ret)))))))))))))))))))))))))⟩
def tbl : List (Nat × FnIr) := [(230, ir230), (348, ir348), (268, ir268), (231, ir231), (71, ir71), (120, ir120), (282, ir282), (283, ir283), (143, ir143), (232, ir232), (114, ir114), (349, ir349), (269, ir269), (341, ir341), (234, ir234), (377, ir377), (336, ir336), (340, ir340), (233, ir233), (235, ir235), (73, ir73), (121, ir121), (355, ir355), (304, ir304), (284, ir284), (144, ir144), (227, ir227), (70, ir70), (76, ir76), (72, ir72), (79, ir79), (74, ir74), (24, ir24), (145, ir145), (146, ir146), (25, ir25), (1080, ir1080), (1201, ir1201), (1081, ir1081), (125, ir125), (257, ir257), (286, ir286), (271, ir271), (142, ir142), (293, ir293), (162, ir162), (255, ir255), (351, ir351), (352, ir352), (290, ir290), (258, ir258), (113, ir113), (294, ir294), (163, ir163), (321, ir321), (200, ir200), (78, ir78), (319, ir319), (197, ir197), (83, ir83), (320, ir320), (199, ir199), (85, ir85), (33, ir33)]
def Tb (g : Nat) : Option FnIr := tbl.lookup g
theorem tb_230 : Tb 230 = some ir230 := rfl
theorem tb_348 : Tb 348 = some ir348 := rfl
theorem tb_268 : Tb 268 = some ir268 := rfl
theorem tb_231 : Tb 231 = some ir231 := rfl
theorem tb_71 : Tb 71 = some ir71 := rfl
theorem tb_120 : Tb 120 = some ir120 := rfl
theorem tb_282 : Tb 282 = some ir282 := rfl
theorem tb_283 : Tb 283 = some ir283 := rfl
theorem tb_143 : Tb 143 = some ir143 := rfl
theorem tb_232 : Tb 232 = some ir232 := rfl
theorem tb_114 : Tb 114 = some ir114 := rfl
theorem tb_349 : Tb 349 = some ir349 := rfl
theorem tb_269 : Tb 269 = some ir269 := rfl
theorem tb_341 : Tb 341 = some ir341 := rfl
theorem tb_234 : Tb 234 = some ir234 := rfl
theorem tb_377 : Tb 377 = some ir377 := rfl
theorem tb_336 : Tb 336 = some ir336 := rfl
theorem tb_340 : Tb 340 = some ir340 := rfl
theorem tb_233 : Tb 233 = some ir233 := rfl
theorem tb_235 : Tb 235 = some ir235 := rfl
theorem tb_73 : Tb 73 = some ir73 := rfl
theorem tb_121 : Tb 121 = some ir121 := rfl
theorem tb_355 : Tb 355 = some ir355 := rfl
theorem tb_304 : Tb 304 = some ir304 := rfl
theorem tb_284 : Tb 284 = some ir284 := rfl
theorem tb_144 : Tb 144 = some ir144 := rfl
theorem tb_227 : Tb 227 = some ir227 := rfl
theorem tb_70 : Tb 70 = some ir70 := rfl
theorem tb_76 : Tb 76 = some ir76 := rfl
theorem tb_72 : Tb 72 = some ir72 := rfl
theorem tb_79 : Tb 79 = some ir79 := rfl
theorem tb_74 : Tb 74 = some ir74 := rfl
theorem tb_24 : Tb 24 = some ir24 := rfl
theorem tb_145 : Tb 145 = some ir145 := rfl
theorem tb_146 : Tb 146 = some ir146 := rfl
theorem tb_25 : Tb 25 = some ir25 := rfl
theorem tb_1080 : Tb 1080 = some ir1080 := rfl
theorem tb_1201 : Tb 1201 = some ir1201 := rfl
theorem tb_1081 : Tb 1081 = some ir1081 := rfl
theorem tb_125 : Tb 125 = some ir125 := rfl
theorem tb_257 : Tb 257 = some ir257 := rfl
theorem tb_286 : Tb 286 = some ir286 := rfl
theorem tb_271 : Tb 271 = some ir271 := rfl
theorem tb_142 : Tb 142 = some ir142 := rfl
theorem tb_293 : Tb 293 = some ir293 := rfl
theorem tb_162 : Tb 162 = some ir162 := rfl
theorem tb_255 : Tb 255 = some ir255 := rfl
theorem tb_351 : Tb 351 = some ir351 := rfl
theorem tb_352 : Tb 352 = some ir352 := rfl
theorem tb_290 : Tb 290 = some ir290 := rfl
theorem tb_258 : Tb 258 = some ir258 := rfl
theorem tb_113 : Tb 113 = some ir113 := rfl
theorem tb_294 : Tb 294 = some ir294 := rfl
theorem tb_163 : Tb 163 = some ir163 := rfl
theorem tb_321 : Tb 321 = some ir321 := rfl
theorem tb_200 : Tb 200 = some ir200 := rfl
theorem tb_78 : Tb 78 = some ir78 := rfl
theorem tb_319 : Tb 319 = some ir319 := rfl
theorem tb_197 : Tb 197 = some ir197 := rfl
theorem tb_83 : Tb 83 = some ir83 := rfl
theorem tb_320 : Tb 320 = some ir320 := rfl
theorem tb_199 : Tb 199 = some ir199 := rfl
theorem tb_85 : Tb 85 = some ir85 := rfl
theorem tb_33 : Tb 33 = some ir33 := rfl
end Go.Vm
