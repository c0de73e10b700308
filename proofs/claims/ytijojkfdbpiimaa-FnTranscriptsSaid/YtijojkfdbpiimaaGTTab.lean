/- The code of the functions that the law reaches, as data. -/
import Derived.Test.YtijojkfdbpiimaaVmF
set_option maxHeartbeats 4000000
set_option maxRecDepth 10000
set_option linter.unusedVariables false
set_option linter.unusedSimpArgs false
namespace Go.Vm
def ir108 : FnIr := ⟨0, 1, 6, [(2, none)], [],
  (zs [] [] [zK 2 (zB false)]
  (zs [3,4,5] [3,4,5] [zM 3 0,
  zl 4 3,
  zO 5 (.bin .gtr (.t 4) (zI 1048576)),
  zA 2 5]
  .ret))⟩
def ir230 : FnIr := ⟨0, 3, 15, [(6, none)], [],
  (zs [] [] [zK 6 (zB false)]
  (zs (zr 7 8) (zr 7 8) [zM 7 0,
  zM 8 1,
  zb 9 .geq 7 8,
  zM 10 9,
  zG 11 (.move (.t 0)) 10 true,
  zG 12 (.move (.t 2)) 10 true,
  zG 13 (.bin .leq (.t 11) (.t 12)) 10 true,
  zO 14 (.pick (.t 10) (.t 13) (zB false)),
  zA 6 14]
  .ret))⟩
def ir348 : FnIr := ⟨0, 2, 15, [(4, none)], [],
  (zs [] [] [zK 4 (zI 0)]
  (.seq (zs [5,6,7,21] [5,6] [zM 5 1,
  zO 6 (.call 230 [(.t 5), (zI 1), (zI 1000000000000)]),
  zn 7 6]
  (zc 7
  (zs [] [] [zK 4 (zI 0)]
  .ret)
  .skip))
  (zs (zr 8 7) (zr 8 7) [zM 8 0,
  zM 9 1,
  zb 10 .rem 8 9,
  zM 11 1,
  zb 12 .add 10 11,
  zM 13 1,
  zb 14 .rem 12 13,
  zA 4 14]
  .ret)))⟩
def ir268 : FnIr := ⟨0, 1, 22, [(2, none)], [],
  (zs [] [] [zK 2 (zI 0)]
  (zs [] [] [zK 3 (zI 11)]
  (.seq (zs [] [] [zK 4 (zI 0)]
  (.block 0 (.loop (.seq (zs (zr 5 4) [5,6,7] [zM 5 4,
  zM 6 0,
  zl 7 6,
  zb 8 .lss 5 7]
  (zc 8
  .skip
  (.exit 0)))
  (.seq (.block 1 (zR (zq 11 10 [39]) (zr 11 10) [zM 11 3,
  zO 12 (.bin .mul (.t 11) (zI 1000003)),
  zM 13 0,
  zM 14 4,
  zp 15 1 13 14,
  zL 16 15,
  zO 17 (.call 348 [(.t 16), (zI 2147483647)]),
  zb 18 .add 12 17,
  zO 19 (.bin .add (.t 18) (zI 13)),
  zO 20 (.bin .rem (.t 19) (zI 2147483647)),
  zA 3 20]))
  (zR [9,10] [9,10] [zM 9 4,
  zO 10 (.bin .add (.t 9) (zI 1)),
  zA 4 10]))))))
  (zs [21] [21] [zM 21 3,
  zA 2 21]
  .ret))))⟩
def ir231 : FnIr := ⟨0, 1, 16, [(2, none)], [],
  (zs [] [] [zK 2 (zB false)]
  (.seq (zs [] [] [zK 3 (zI 0)]
  (.block 0 (.loop (.seq (zs (zr 4 4) [4,5,6] [zM 4 3,
  zM 5 0,
  zl 6 5,
  zb 7 .lss 4 6]
  (zc 7
  .skip
  (.exit 0)))
  (.seq (.block 1 (zs (zq 10 6 [30]) (zr 10 5) [zM 10 0,
  zM 11 3,
  zp 12 1 10 11,
  zL 13 12,
  zO 14 (.call 230 [(.t 13), (zI 0), (zI 255)]),
  zn 15 14]
  (zc 15
  (zs [] [] [zK 2 (zB false)]
  .ret)
  .skip)))
  (zR [8,9] [8,9] [zM 8 3,
  zO 9 (.bin .add (.t 8) (zI 1)),
  zA 3 9]))))))
  (zs [] [] [zK 2 (zB true)]
  .ret)))⟩
def ir71 : FnIr := ⟨0, 1, 19, [(2, none)], [],
  (zs [] [] [zK 2 (zB false)]
  (.seq (zs [] [] [zK 3 (zI 0)]
  (.block 0 (.loop (.seq (zs (zr 4 4) [4,5,6] [zM 4 3,
  zM 5 0,
  zl 6 5,
  zb 7 .lss 4 6]
  (zc 7
  .skip
  (.exit 0)))
  (.seq (.block 1 (zs (zq 10 6 [33]) (zr 10 5) [zM 10 0,
  zM 11 3,
  zp 12 1 10 11,
  zL 13 12,
  zC 14 231 [13],
  zn 15 14]
  (zc 15
  (zs [] [] [zK 2 (zB false)]
  .ret)
  .skip)))
  (zR [8,9] [8,9] [zM 8 3,
  zO 9 (.bin .add (.t 8) (zI 1)),
  zA 3 9]))))))
  (zs [16,17,18] [16,17,18] [zM 16 0,
  zl 17 16,
  zO 18 (.bin .leq (.t 17) (zI 12)),
  zA 2 18]
  .ret)))⟩
def ir120 : FnIr := ⟨0, 1, 28, [(2, none)], [],
  (zs [] [] [zK 2 (zI 0)]
  (zs [] [] [zK 3 (zI 1)]
  (.seq (zs [5,6,7,34] [5,6] [zM 5 0,
  zC 6 71 [5],
  zn 7 6]
  (zc 7
  (zs [] [] [zK 2 (zI 0)]
  .ret)
  .skip))
  (.seq (zs [] [] [zK 4 (zI 0)]
  (.block 0 (.loop (.seq (zs (zr 8 4) [8,9,10] [zM 8 4,
  zM 9 0,
  zl 10 9,
  zb 11 .lss 8 10]
  (zc 11
  .skip
  (.exit 0)))
  (.seq (.block 1 (.region true (zq 14 13 [54]) (zr 14 13) [zM 14 3,
  zM 15 0,
  zM 16 4,
  zv (zp 17 1 15 16) [1,2],
  zv (zL 18 17) [3,1,2],
  zv (zl 19 18) [4,3,1,2],
  zv (zO 20 (.bslice [(.int .i64 0)] 2 [(0, (.t 14)), (1, (.t 19))])) [0,5,4,3,1,2],
  zM 21 0,
  zM 22 4,
  zv (zp 23 1 21 22) [7,8],
  zv (zL 24 23) [9,7,8],
  zv (zO 25 (.append 1 (.t 20) (.t 24))) [6,0,5,4,3,1,2,10,9,7,8],
  zv (zC 26 268 [25]) [11,6,0,5,4,3,1,2,10,9,7,8],
  zv (zA 3 26) [12,11,6,0,5,4,3,1,2,10,9,7,8]]))
  (zR [12,13] [12,13] [zM 12 4,
  zO 13 (.bin .add (.t 12) (zI 1)),
  zA 4 13]))))))
  (zs [27] [27] [zM 27 3,
  zA 2 27]
  .ret)))))⟩
def ir282 : FnIr := ⟨0, 1, 5, [(2, none)], [],
  (zs [] [] [zK 2 (zB false)]
  (zs [3,4,9] [3,4] [zM 3 0,
  zO 4 (.call 230 [(.t 3), (zI 1), (zI 2147483646)]),
  zA 2 4]
  .ret))⟩
def ir283 : FnIr := ⟨0, 2, 13, [(4, none)], [],
  (zs [] [] [zK 4 (zI 0)]
  (zs (zq 5 8 [25]) (zr 5 8) [zM 5 0,
  zO 6 (.bslice [(.int .i64 0)] 1 [(0, (.t 5))]),
  zM 7 1,
  zO 8 (.append 1 (.t 6) (.t 7)),
  zM 9 0,
  zO 10 (.bslice [(.int .i64 0)] 1 [(0, (.t 9))]),
  zO 11 (.append 1 (.t 8) (.t 10)),
  zC 12 268 [11],
  zA 4 12]
  .ret))⟩
def ir143 : FnIr := ⟨0, 3, 26, [(6, none)], [],
  (zs [] [] [zK 6 (zI 0)]
  (.seq (zs (zq 7 13 [34,38,43]) (zr 7 12) [zM 7 0,
  zC 8 282 [7],
  zn 9 8,
  zM 10 9,
  zG 11 (.move (.t 1)) 10 false,
  zG 12 (.call 71 [(.t 11)]) 10 false,
  zG 13 (.un .not (.t 12)) 10 false,
  zO 14 (.pick (.t 10) (zB true) (.t 13)),
  zM 15 14,
  zG 16 (.move (.t 2)) 15 false,
  zG 17 (.call 230 [(.t 16), (zI 0), (zI 1)]) 15 false,
  zG 18 (.un .not (.t 17)) 15 false,
  zO 19 (.pick (.t 15) (zB true) (.t 18))]
  (zc 19
  (zs [] [] [zK 6 (zI 0)]
  .ret)
  .skip))
  (zs (zq 20 6 [49,51]) (zr 20 6) [zM 20 0,
  zM 21 2,
  zM 22 1,
  zC 23 120 [22],
  zO 24 (.bslice [(.int .i64 0)] 2 [(0, (.t 21)), (1, (.t 23))]),
  zC 25 283 [20,24],
  zA 6 25]
  .ret)))⟩
def ir232 : FnIr := ⟨0, 3, 15, [(6, none)], [],
  (zs [] [] [zK 6 (zB false)]
  (zs (zr 7 8) (zr 7 8) [zM 7 1,
  zM 8 0,
  zb 9 .leq 7 8,
  zM 10 9,
  zG 11 (.move (.t 0)) 10 true,
  zG 12 (.move (.t 2)) 10 true,
  zG 13 (.bin .leq (.t 11) (.t 12)) 10 true,
  zO 14 (.pick (.t 10) (.t 13) (zB false)),
  zA 6 14]
  .ret))⟩
def ir114 : FnIr := ⟨0, 1, 5, [(2, none)], [],
  (zs [] [] [zK 2 (zB false)]
  (zs [3,4,9] [3,4] [zM 3 0,
  zO 4 (.call 232 [(.t 3), (zI 1), (zI 2147483646)]),
  zA 2 4]
  .ret))⟩
def ir349 : FnIr := ⟨0, 2, 15, [(4, none)], [],
  (zs [] [] [zK 4 (zI 0)]
  (.seq (zs [5,6,7,21] [5,6] [zM 5 1,
  zO 6 (.call 232 [(.t 5), (zI 1), (zI 1000000000000)]),
  zn 7 6]
  (zc 7
  (zs [] [] [zK 4 (zI 0)]
  .ret)
  .skip))
  (zs (zr 8 7) (zr 8 7) [zM 8 0,
  zM 9 1,
  zb 10 .rem 8 9,
  zM 11 1,
  zb 12 .add 10 11,
  zM 13 1,
  zb 14 .rem 12 13,
  zA 4 14]
  .ret)))⟩
def ir269 : FnIr := ⟨0, 1, 21, [(2, none)], [],
  (zs [] [] [zK 2 (zI 0)]
  (zs [] [] [zK 3 (zI 11)]
  (.seq (zs [6,7,8] [] [zM 6 0,
  zl 7 6,
  zO 8 (.move (zI 0))]
  (.block 0 (.loop (zs [9] [] [zb 9 .lss 8 7]
  (.seq (zc 9
  .skip
  (.exit 0))
  (.seq (.block 1 (zs [10,11] [10,11] [zp 10 1 6 8,
  zL 11 10,
  zA 5 11]
  (zR (zq 12 7 [36]) (zr 12 7) [zM 12 3,
  zO 13 (.bin .mul (.t 12) (zI 1000003)),
  zM 14 5,
  zO 15 (.call 349 [(.t 14), (zI 2147483647)]),
  zb 16 .add 13 15,
  zO 17 (.bin .add (.t 16) (zI 13)),
  zO 18 (.bin .rem (.t 17) (zI 2147483647)),
  zA 3 18])))
  (zR [19] [19] [zO 19 (.bin .add (.t 8) (zI 1)),
  zM 8 19])))))))
  (zs [20] [20] [zM 20 3,
  zA 2 20]
  .ret))))⟩
def ir341 : FnIr := ⟨0, 2, 19, [(4, none)], [],
  (zs [] [] [zK 4 (zI 0)]
  (.seq (zs [6,7,8] [6] [zM 6 0,
  zl 7 6,
  zO 8 (.move (zI 0))]
  (.block 0 (.loop (zs [9] [] [zb 9 .lss 8 7]
  (.seq (zc 9
  .skip
  (.exit 0))
  (.seq (.block 1 (zs [10] [10] [zM 10 8,
  zA 5 10]
  (zs (zq 11 6 [35]) (zr 11 5) [zM 11 1,
  zM 12 0,
  zM 13 5,
  zp 14 1 12 13,
  zL 15 14,
  zO 16 (.callv (.t 11) [(.t 15)])]
  (zc 16
  (zs [17] [17] [zM 17 5,
  zA 4 17]
  .ret)
  .skip))))
  (zR [18] [18] [zO 18 (.bin .add (.t 8) (zI 1)),
  zM 8 18])))))))
  (zs [] [] [zK 4 (zI (-1))]
  .ret)))⟩
def ir234 : FnIr := ⟨0, 2, 9, [(4, none)], [],
  (zs [] [] [zK 4 (zB false)]
  (zs (zq 5 4 [16]) (zr 5 4) [zM 5 0,
  zM 6 1,
  zC 7 341 [5,6],
  zO 8 (.bin .geq (.t 7) (zI 0)),
  zA 4 8]
  .ret))⟩
def ir377 : FnIr := ⟨0, 2, 19, [(4, none)], [],
  (zs [] [] [zK 4 (zI 0)]
  (.seq (zs [6,7,8] [6] [zM 6 0,
  zl 7 6,
  zO 8 (.move (zI 0))]
  (.block 0 (.loop (zs [9] [] [zb 9 .lss 8 7]
  (.seq (zc 9
  .skip
  (.exit 0))
  (.seq (.block 1 (zs [10] [10] [zM 10 8,
  zA 5 10]
  (zs (zq 11 6 [35]) (zr 11 5) [zM 11 1,
  zM 12 0,
  zM 13 5,
  zp 14 1 12 13,
  zL 15 14,
  zO 16 (.callv (.t 11) [(.t 15)])]
  (zc 16
  (zs [17] [17] [zM 17 5,
  zA 4 17]
  .ret)
  .skip))))
  (zR [18] [18] [zO 18 (.bin .add (.t 8) (zI 1)),
  zM 8 18])))))))
  (zs [] [] [zK 4 (zI (-1))]
  .ret)))⟩
def ir336 : FnIr := ⟨0, 2, 9, [(4, none)], [],
  (zs [] [] [zK 4 (zB false)]
  (zs (zq 5 4 [16]) (zr 5 4) [zM 5 0,
  zM 6 1,
  zC 7 377 [5,6],
  zO 8 (.bin .geq (.t 7) (zI 0)),
  zA 4 8]
  .ret))⟩
def ir340 : FnIr := ⟨0, 3, 10, [(4, none)], [],
  (zs [] [] [zK 4 (zB false)]
  (zs (zq 5 5 [18]) (zr 5 5) [zM 5 0,
  zL 6 1,
  zL 7 2,
  zC 8 232 [5,6,7],
  zn 9 8,
  zA 4 9]
  .ret))⟩
def ir233 : FnIr := ⟨0, 3, 11, [(6, none)], [],
  (zs [4,5,15,16] [] [zO 4 (.box (.t 1)),
  zO 5 (.box (.t 2)),
  zK 6 (zB false)]
  (zs (zq 7 4 [20]) (zr 7 4) [zM 7 0,
  zO 8 (.mkfn 340 [4, 5]),
  zC 9 336 [7,8],
  zn 10 9,
  zA 6 10]
  .ret))⟩
def ir235 : FnIr := ⟨0, 1, 6, [(2, none)], [],
  (zs [] [] [zK 2 (zB false)]
  (zs [3,4,5,10] [3,4,5] [zM 3 0,
  zO 4 (.call 233 [(.t 3), (zI 0), (zI 255)]),
  zn 5 4,
  zA 2 5]
  .ret))⟩
def ir73 : FnIr := ⟨0, 1, 11, [(2, none)], [],
  (zs [] [] [zK 2 (zB false)]
  (zs (zq 3 8 [19]) (zr 3 8) [zM 3 0,
  zl 4 3,
  zO 5 (.bin .leq (.t 4) (zI 12)),
  zM 6 5,
  zG 7 (.move (.t 0)) 6 true,
  zG 8 (.call 234 [(.t 7), (.f 235)]) 6 true,
  zG 9 (.un .not (.t 8)) 6 true,
  zO 10 (.pick (.t 6) (.t 9) (zB false)),
  zA 2 10]
  .ret))⟩
def ir121 : FnIr := ⟨0, 1, 24, [(2, none)], [],
  (zs [] [] [zK 2 (zI 0)]
  (.seq (zs [6,7,8,31] [6,7] [zM 6 0,
  zC 7 73 [6],
  zn 8 7]
  (zc 8
  (zs [] [] [zK 2 (zI 0)]
  .ret)
  .skip))
  (zs [] [] [zK 3 (zI 1)]
  (.seq (zs [9,10,11] [] [zM 9 0,
  zl 10 9,
  zO 11 (.move (zI 0))]
  (.block 0 (.loop (zs [12] [] [zb 12 .lss 11 10]
  (.seq (zc 12
  .skip
  (.exit 0))
  (.seq (.block 1 (zs [13,14] [13,14] [zp 13 1 9 11,
  zL 14 13,
  zA 5 14]
  (zR (zq 15 7 [45]) (zr 15 7) [zM 15 3,
  zM 16 5,
  zl 17 16,
  zO 18 (.bslice [(.int .i64 0)] 2 [(0, (.t 15)), (1, (.t 17))]),
  zM 19 5,
  zO 20 (.append 1 (.t 18) (.t 19)),
  zC 21 269 [20],
  zA 3 21])))
  (zR [22] [22] [zO 22 (.bin .add (.t 11) (zI 1)),
  zM 11 22])))))))
  (zs [23] [23] [zM 23 3,
  zA 2 23]
  .ret)))))⟩
def ir355 : FnIr := ⟨2, 2, 27, [(4, none)], [],
  (zs [] [] [zK 4 zE]
  (.seq (zs [5,6] [5] [zM 5 1,
  zO 6 (.bin .lss (.t 5) (zI 0))]
  (zc 6
  (zR [7] [7] [zO 7 (.bad),
  zN (.bad)])
  .skip))
  (.seq (zs (zr 8 7) (zr 8 7) [zM 8 1,
  zM 9 0,
  zO 10 (.bad),
  zM 11 0,
  zl 12 11,
  zb 13 .sub 10 12,
  zb 14 .sub 8 13,
  zA 1 14]
  (zs [15,16] [15] [zM 15 1,
  zO 16 (.bin .gtr (.t 15) (zI 0))]
  (zc 16
  (zR (zr 17 9) (zr 17 9) [zM 17 0,
  zM 18 0,
  zO 19 (.bad),
  zO 20 (.slice 1 (.t 17) none (some (.t 19))),
  zM 21 1,
  zO 22 (.bad),
  zM 23 0,
  zl 24 23,
  zO 25 (.slice 1 (.t 22) none (some (.t 24))),
  zA 0 25])
  .skip)))
  (zs [26] [26] [zM 26 0,
  zA 4 26]
  .ret))))⟩
def ir304 : FnIr := ⟨0, 1, 36, [(2, none)], [],
  (zs [] [] [zK 2 zE]
  (zs [] [] [zK 3 (zI 0)]
  (.seq (zs [9,10,11] [] [zM 9 0,
  zl 10 9,
  zO 11 (.move (zI 0))]
  (.block 0 (.loop (zs [12] [] [zb 12 .lss 11 10]
  (.seq (zc 12
  .skip
  (.exit 0))
  (.seq (.block 1 (zs [13,14] [13,14] [zp 13 1 9 11,
  zL 14 13,
  zA 5 14]
  (zs (zr 15 4) (zr 15 4) [zM 15 3,
  zM 16 5,
  zl 17 16,
  zb 18 .add 15 17,
  zA 3 18]
  (zs [19,20] [19] [zM 19 3,
  zO 20 (.bin .lss (.t 19) (zI 0))]
  (zc 20
  (zR [21] [21] [zO 21 (.bad),
  zN (.bad)])
  .skip)))))
  (zR [22] [22] [zO 22 (.bin .add (.t 11) (zI 1)),
  zM 11 22])))))))
  (zs [23,24,60] [23,24] [zM 23 3,
  zO 24 (.call 355 [zE, (.t 23)]),
  zA 6 24]
  (.seq (zs [25,26,27] [] [zM 25 0,
  zl 26 25,
  zO 27 (.move (zI 0))]
  (.block 2 (.loop (zs [28] [] [zb 28 .lss 27 26]
  (.seq (zc 28
  .skip
  (.exit 2))
  (.seq (.block 3 (zs [29,30] [29,30] [zp 29 1 25 27,
  zL 30 29,
  zA 8 30]
  (zR [31,32,33] [31,32,33] [zM 31 6,
  zM 32 8,
  zO 33 (.append 1 (.t 31) (.t 32)),
  zA 6 33])))
  (zR [34] [34] [zO 34 (.bin .add (.t 27) (zI 1)),
  zM 27 34])))))))
  (zs [35] [35] [zM 35 6,
  zA 2 35]
  .ret))))))⟩
def ir284 : FnIr := ⟨0, 2, 13, [(4, none)], [],
  (zs [] [] [zK 4 (zI 0)]
  (zs (zq 5 8 [24,25]) (zr 5 8) [zM 5 0,
  zO 6 (.bslice [(.int .i64 0)] 1 [(0, (.t 5))]),
  zM 7 1,
  zM 8 0,
  zO 9 (.bslice [(.int .i64 0)] 1 [(0, (.t 8))]),
  zO 10 (.bslice [(.row () [])] 3 [(0, (.t 6)), (1, (.t 7)), (2, (.t 9))]),
  zC 11 304 [10],
  zC 12 269 [11],
  zA 4 12]
  .ret))⟩
def ir144 : FnIr := ⟨0, 3, 26, [(6, none)], [],
  (zs [] [] [zK 6 (zI 0)]
  (.seq (zs (zq 7 13 [34,38,43]) (zr 7 12) [zM 7 0,
  zC 8 114 [7],
  zn 9 8,
  zM 10 9,
  zG 11 (.move (.t 1)) 10 false,
  zG 12 (.call 73 [(.t 11)]) 10 false,
  zG 13 (.un .not (.t 12)) 10 false,
  zO 14 (.pick (.t 10) (zB true) (.t 13)),
  zM 15 14,
  zG 16 (.move (.t 2)) 15 false,
  zG 17 (.call 232 [(.t 16), (zI 0), (zI 1)]) 15 false,
  zG 18 (.un .not (.t 17)) 15 false,
  zO 19 (.pick (.t 15) (zB true) (.t 18))]
  (zc 19
  (zs [] [] [zK 6 (zI 0)]
  .ret)
  .skip))
  (zs (zq 20 6 [49,51]) (zr 20 6) [zM 20 0,
  zM 21 2,
  zM 22 1,
  zC 23 121 [22],
  zO 24 (.bslice [(.int .i64 0)] 2 [(0, (.t 21)), (1, (.t 23))]),
  zC 25 284 [20,24],
  zA 6 25]
  .ret)))⟩
def ir145 : FnIr := ⟨0, 4, 19, [(8, none)], [],
  (zs [] [] [zK 8 (zB false)]
  (zs (zq 9 10 [34]) (zr 9 10) [zM 9 3,
  zO 10 (.bin .neq (.t 9) (zI 0)),
  zM 11 10,
  zG 12 (.move (.t 0)) 11 true,
  zG 13 (.move (.t 1)) 11 true,
  zG 14 (.move (.t 2)) 11 true,
  zG 15 (.call 143 [(.t 12), (.t 13), (.t 14)]) 11 true,
  zG 16 (.move (.t 3)) 11 true,
  zG 17 (.bin .eql (.t 15) (.t 16)) 11 true,
  zO 18 (.pick (.t 11) (.t 17) (zB false)),
  zA 8 18]
  .ret))⟩
def ir146 : FnIr := ⟨0, 4, 19, [(8, none)], [],
  (zs [] [] [zK 8 (zB false)]
  (zs (zq 9 10 [35]) (zr 9 10) [zM 9 3,
  zO 10 (.bin .neq (.t 9) (zI 0)),
  zM 11 10,
  zG 12 (.move (.t 3)) 11 true,
  zG 13 (.move (.t 0)) 11 true,
  zG 14 (.move (.t 1)) 11 true,
  zG 15 (.move (.t 2)) 11 true,
  zG 16 (.call 144 [(.t 13), (.t 14), (.t 15)]) 11 true,
  zG 17 (.bin .eql (.t 12) (.t 16)) 11 true,
  zO 18 (.pick (.t 11) (.t 17) (zB false)),
  zA 8 18]
  .ret))⟩
def ir246 : FnIr := ⟨0, 1, 32, [(2, none)], [],
  (zs [] [] [zO 2 (.clear)]
  (zs [5,6,7] [5,6,7] [zM 5 0,
  zl 6 5,
  zO 7 (.bin .add (zI 193017) (.t 6)),
  zA 3 7]
  (.seq (zs [] [] [zK 4 (zI 0)]
  (.block 0 (.loop (.seq (zs (zr 8 8) (zr 8 7) [zM 8 4,
  zM 9 0,
  zl 10 9,
  zb 11 .lss 8 10,
  zM 12 11,
  zG 13 (.move (.t 4)) 12 true,
  zG 14 (.bin .lss (.t 13) (zI 4000)) 12 true,
  zO 15 (.pick (.t 12) (.t 14) (zB false))]
  (zc 15
  .skip
  (.exit 0)))
  (.seq (.block 1 (zR (zr 18 10) (zr 18 10) [zM 18 3,
  zO 19 (.bin .mul (.t 18) (zI 137)),
  zM 20 0,
  zM 21 4,
  zp 22 1 20 21,
  zL 23 22,
  zO 24 (.conv .i64 (.t 23)),
  zb 25 .add 19 24,
  zO 26 (.bin .add (.t 25) (zI 11)),
  zO 27 (.bin .and (.t 26) (zI 1073741823)),
  zA 3 27]))
  (zR [16,17] [16,17] [zM 16 4,
  zO 17 (.bin .add (.t 16) (zI 1)),
  zA 4 17]))))))
  (zs (zq 28 4 [63]) (zr 28 4) [zM 28 0,
  zM 29 3,
  zO 30 (.build [(.row () []), (.int .i64 0), (.int .i64 0)] [(0, 1, (.t 28)), (2, 1, (.t 29))]),
  zO 31 (.box (.t 30)),
  zA 2 31]
  .ret))))⟩
def ir3361 : FnIr := ⟨0, 1, 58, [(2, none)], [.mbox],
  (zs [] [] [zK 2 (zI 0)]
  (zs (zr 4 9) (zr 4 9) [zM 4 0,
  zM 5 0,
  zO 6 (.nilchk (.t 5)),
  zF 7 2 6,
  zL 8 7,
  zO 9 (.bin .mul (.t 8) (zI 6364136223846793005)),
  zO 10 (.bin .add (.t 9) (zI 1442695040888963407)),
  zO 11 (.nilchk (.t 4)),
  zF 12 2 11,
  zN (.store 1 (.t 12) (.t 10))]
  (.seq (.region true (zr 13 12) (zr 13 12) [zM 13 0,
  zv (zO 14 (.nilchk (.t 13))) [0],
  zv (zF 15 2 14) [1,0],
  zv (zL 16 15) [2,1,0],
  zv (zO 17 (.bin .shr (.t 16) (.c false [(.int .u64 33)]))) [3,2,1,0],
  zM 18 0,
  zv (zO 19 (.nilchk (.t 18))) [5],
  zv (zF 20 2 19) [6,5],
  zv (zL 21 20) [7,6,5],
  zv (zO 22 (.bin .shr (.t 21) (.c false [(.int .u64 47)]))) [8,7,6,5],
  zv (zb 23 .xor 17 22) [4,3,2,1,0,9,8,7,6,5],
  zv (zO 24 (.bin .and (.t 23) (zI 255))) [10,4,3,2,1,0,9,8,7,6,5],
  zv (zA 3 24) [11,10,4,3,2,1,0,9,8,7,6,5]])
  (.seq (.seq (.region true (zr 25 10) (zr 25 9) [zM 25 0,
  zv (zO 26 (.nilchk (.t 25))) [0],
  zv (zF 27 1 26) [1,0],
  zv (zL 28 27) [2,1,0],
  zM 29 0,
  zv (zO 30 (.nilchk (.t 29))) [4],
  zv (zF 31 0 30) [5,4],
  zv (zL 32 31) [6,5,4],
  zv (zl 33 32) [7,6,5,4],
  zv (zb 34 .lss 28 33) [3,2,1,0,8,7,6,5,4]])
  (zc 34
  (.seq (.region true (zr 35 14) (zr 35 14) [zM 35 3,
  zM 36 0,
  zv (zO 37 (.nilchk (.t 36))) [1],
  zv (zF 38 0 37) [2,1],
  zv (zL 39 38) [3,2,1],
  zM 40 0,
  zv (zO 41 (.nilchk (.t 40))) [5],
  zv (zF 42 1 41) [6,5],
  zv (zL 43 42) [7,6,5],
  zv (zp 44 1 39 43) [4,3,2,1,8,7,6,5],
  zv (zL 45 44) [9,4,3,2,1,8,7,6,5],
  zv (zO 46 (.conv .i64 (.t 45))) [10,9,4,3,2,1,8,7,6,5],
  zv (zb 47 .add 35 46) [0,11,10,9,4,3,2,1,8,7,6,5],
  zv (zO 48 (.bin .and (.t 47) (zI 255))) [12,0,11,10,9,4,3,2,1,8,7,6,5],
  zv (zA 3 48) [13,12,0,11,10,9,4,3,2,1,8,7,6,5]])
  (zR (zr 49 8) (zr 49 8) [zM 49 0,
  zM 50 0,
  zO 51 (.nilchk (.t 50)),
  zF 52 1 51,
  zL 53 52,
  zO 54 (.bin .add (.t 53) (zI 1)),
  zO 55 (.nilchk (.t 49)),
  zF 56 1 55,
  zN (.store 1 (.t 56) (.t 54))]))
  .skip))
  (zs [57] [57] [zM 57 3,
  zA 2 57]
  .ret)))))⟩
def ir3317 : FnIr := ⟨0, 2, 31, [(4, none)], [.mbox],
  (zs [] [] [zK 4 (zI 0)]
  (.seq (zs [8,9] [8] [zM 8 1,
  zO 9 (.bin .leq (.t 8) (zI 0))]
  (zc 9
  (zs [] [] [zK 4 (zI 0)]
  .ret)
  .skip))
  (.seq (zs [10,11] [10] [zM 10 1,
  zO 11 (.bin .leq (.t 10) (zI 256))]
  (zc 11
  (zs (zq 12 4 [44]) (zr 12 4) [zM 12 0,
  zC 13 3361 [12],
  zM 14 1,
  zb 15 .rem 13 14,
  zA 4 15]
  .ret)
  .skip))
  (zs [16,17,48] [16,17] [zM 16 0,
  zC 17 3361 [16],
  zA 5 17]
  (zs [18,19,50] [18,19] [zM 18 0,
  zC 19 3361 [18],
  zA 6 19]
  (zs [20,21,52] [20,21] [zM 20 0,
  zC 21 3361 [20],
  zA 7 21]
  (zs (zr 22 9) (zr 22 9) [zM 22 5,
  zO 23 (.bin .mul (.t 22) (zI 65536)),
  zM 24 6,
  zO 25 (.bin .mul (.t 24) (zI 256)),
  zb 26 .add 23 25,
  zM 27 7,
  zb 28 .add 26 27,
  zM 29 1,
  zb 30 .rem 28 29,
  zA 4 30]
  .ret)))))))⟩
def ir3252 : FnIr := ⟨0, 2, 12, [(4, none)], [.mbox],
  (zs [] [] [zK 4 (zI 0)]
  (zs (zq 5 7 [21]) (zr 5 7) [zM 5 1,
  zM 6 0,
  zM 7 1,
  zl 8 7,
  zC 9 3317 [6,8],
  zp 10 1 5 9,
  zL 11 10,
  zA 4 11]
  .ret))⟩
def ir3353 : FnIr := ⟨0, 1, 31, [(2, none)], [.mbox],
  (zs [] [] [zK 2 zE]
  (zs [7] [7] [zO 7 (.bslice [(.row () [])] 0 []),
  zA 3 7]
  (.seq (zs [8,9,40] [8,9] [zM 8 0,
  zO 9 (.call 3317 [(.t 8), (zI 5)]),
  zA 4 9]
  (.block 0 (.loop (.seq (zs [10,11] [10] [zM 10 4,
  zO 11 (.bin .gtr (.t 10) (zI 0))]
  (zc 11
  .skip
  (.exit 0)))
  (.seq (.block 1 (zs [14] [14] [zO 14 (.bslice [(.int .i64 0)] 0 []),
  zA 5 14]
  (.seq (zs [15,16,47] [15,16] [zM 15 0,
  zO 16 (.call 3317 [(.t 15), (zI 4)]),
  zA 6 16]
  (.block 2 (.loop (.seq (zs [17,18] [17] [zM 17 6,
  zO 18 (.bin .gtr (.t 17) (zI 0))]
  (zc 18
  .skip
  (.exit 2)))
  (.seq (.block 3 (zR (zq 21 5 [54]) (zr 21 5) [zM 21 5,
  zM 22 0,
  zO 23 (.call 3317 [(.t 22), (zI 256)]),
  zO 24 (.bslice [(.int .i64 0)] 1 [(0, (.t 23))]),
  zO 25 (.append 1 (.t 21) (.t 24)),
  zA 5 25]))
  (zR [19,20] [19,20] [zM 19 6,
  zO 20 (.bin .sub (.t 19) (zI 1)),
  zA 6 20]))))))
  (zR (zr 26 4) (zr 26 4) [zM 26 3,
  zM 27 5,
  zO 28 (.bslice [(.row () [])] 1 [(0, (.t 27))]),
  zO 29 (.append 1 (.t 26) (.t 28)),
  zA 3 29]))))
  (zR [12,13] [12,13] [zM 12 4,
  zO 13 (.bin .sub (.t 12) (zI 1)),
  zA 4 13]))))))
  (zs [30] [30] [zM 30 3,
  zA 2 30]
  .ret))))⟩
def ir3300 : FnIr := ⟨0, 1, 27, [(2, none)], [.mbox],
  (zs [] [] [zK 2 zE]
  (zs [4,5,32] [4,5] [zM 4 0,
  zC 5 3353 [4],
  zA 3 5]
  (.seq (zs [6,7,34] [6] [zM 6 0,
  zO 7 (.call 3317 [(.t 6), (zI 9)])]
  (.block 0 (zs [9] [9] [zO 9 (.bin .eql (.t 7) (zI 0)),
  zA 8 9]
  (zc 8
  (zR (zq 10 7 [40]) (zr 10 7) [zM 10 3,
  zM 11 0,
  zO 12 (.bslice [(.int .i64 0)] 3 [(0, (zI (-1))), (1, (zI 255)), (2, (zI 256))]),
  zC 13 3252 [11,12],
  zO 14 (.bslice [(.int .i64 0)] 1 [(0, (.t 13))]),
  zO 15 (.bslice [(.row () [])] 1 [(0, (.t 14))]),
  zO 16 (.append 1 (.t 10) (.t 15)),
  zA 3 16])
  (zs [18] [18] [zO 18 (.bin .eql (.t 7) (zI 1)),
  zA 17 18]
  (zc 17
  (.block 1 (.loop (.seq (zs [19,20,21] [19,20] [zM 19 3,
  zl 20 19,
  zO 21 (.bin .lss (.t 20) (zI 13))]
  (zc 21
  .skip
  (.exit 1)))
  (.block 2 (zR (zr 22 4) (zr 22 4) [zM 22 3,
  zO 23 (.bslice [(.int .i64 0)] 1 [(0, (zI 1))]),
  zO 24 (.bslice [(.row () [])] 1 [(0, (.t 23))]),
  zO 25 (.append 1 (.t 22) (.t 24)),
  zA 3 25])))))
  .skip))))))
  (zs [26] [26] [zM 26 3,
  zA 2 26]
  .ret))))⟩
def ir159 : FnIr := ⟨0, 1, 18, [(2, none), (3, none), (4, none)], [],
  (zs [] [] [zK 2 (zI 0),
  zK 3 zE,
  zK 4 (zI 0)]
  (zs [7,8,26] [7,8] [zM 7 0,
  zC 8 246 [7],
  zA 5 8]
  (zs [9,10,28] [9,10] [zM 9 5,
  zC 10 3300 [9],
  zA 6 10]
  (zs (zq 11 7 [31,35]) (zr 11 7) [zM 11 5,
  zO 12 (.bslice [(.int .i64 0)] 4 [(0, (zI 5)), (1, (zI 77)), (2, (zI 0)), (3, (zI (-1)))]),
  zC 13 3252 [11,12],
  zM 14 6,
  zM 15 5,
  zO 16 (.bslice [(.int .i64 0)] 5 [(0, (zI 0)), (1, (zI 1)), (2, (zI 1)), (3, (zI 2)), (4, (zI (-1)))]),
  zC 17 3252 [15,16],
  zA 2 13,
  zA 3 14,
  zA 4 17]
  .ret))))⟩
def ir228 : FnIr := ⟨0, 2, 26, [(4, none)], [],
  (zs [] [] [zK 4 (zB false)]
  (.seq (zs (zr 6 5) (zr 6 4) [zM 6 0,
  zl 7 6,
  zM 8 1,
  zl 9 8,
  zb 10 .neq 7 9]
  (zc 10
  (zs [] [] [zK 4 (zB false)]
  .ret)
  .skip))
  (.seq (zs [] [] [zK 5 (zI 0)]
  (.block 0 (.loop (.seq (zs (zr 11 4) [11,12,13] [zM 11 5,
  zM 12 0,
  zl 13 12,
  zb 14 .lss 11 13]
  (zc 14
  .skip
  (.exit 0)))
  (.seq (.block 1 (.seq (.region true (zr 17 9) (zr 17 8) [zM 17 0,
  zM 18 5,
  zv (zp 19 1 17 18) [0,1],
  zv (zL 20 19) [2,0,1],
  zM 21 1,
  zM 22 5,
  zv (zp 23 1 21 22) [4,5],
  zv (zL 24 23) [6,4,5],
  zv (zb 25 .neq 20 24) [3,2,0,1,7,6,4,5]])
  (zc 25
  (zs [] [] [zK 4 (zB false)]
  .ret)
  .skip)))
  (zR [15,16] [15,16] [zM 15 5,
  zO 16 (.bin .add (.t 15) (zI 1)),
  zA 5 16]))))))
  (zs [] [] [zK 4 (zB true)]
  .ret))))⟩
def ir89 : FnIr := ⟨0, 2, 27, [(4, none)], [],
  (zs [] [] [zK 4 (zB false)]
  (.seq (zs (zr 6 5) (zr 6 4) [zM 6 0,
  zl 7 6,
  zM 8 1,
  zl 9 8,
  zb 10 .neq 7 9]
  (zc 10
  (zs [] [] [zK 4 (zB false)]
  .ret)
  .skip))
  (.seq (zs [] [] [zK 5 (zI 0)]
  (.block 0 (.loop (.seq (zs (zr 11 4) [11,12,13] [zM 11 5,
  zM 12 0,
  zl 13 12,
  zb 14 .lss 11 13]
  (zc 14
  .skip
  (.exit 0)))
  (.seq (.block 1 (.seq (.region true (zq 17 10 [52]) (zr 17 9) [zM 17 0,
  zM 18 5,
  zv (zp 19 1 17 18) [0,1],
  zv (zL 20 19) [2,0,1],
  zM 21 1,
  zM 22 5,
  zv (zp 23 1 21 22) [4,5],
  zv (zL 24 23) [6,4,5],
  zv (zC 25 228 [20,24]) [3,2,0,1,7,6,4,5],
  zv (zn 26 25) [8,3,2,0,1,7,6,4,5]])
  (zc 26
  (zs [] [] [zK 4 (zB false)]
  .ret)
  .skip)))
  (zR [15,16] [15,16] [zM 15 5,
  zO 16 (.bin .add (.t 15) (zI 1)),
  zA 5 16]))))))
  (zs [] [] [zK 4 (zB true)]
  .ret))))⟩
def ir229 : FnIr := ⟨0, 2, 26, [(4, none)], [],
  (zs [] [] [zK 4 (zB false)]
  (.seq (zs (zr 6 5) (zr 6 4) [zM 6 0,
  zl 7 6,
  zM 8 1,
  zl 9 8,
  zb 10 .neq 7 9]
  (zc 10
  (zs [] [] [zK 4 (zB false)]
  .ret)
  .skip))
  (.seq (zs [11,12,13] [11] [zM 11 0,
  zl 12 11,
  zO 13 (.move (zI 0))]
  (.block 0 (.loop (zs [14] [] [zb 14 .lss 13 12]
  (.seq (zc 14
  .skip
  (.exit 0))
  (.seq (.block 1 (zs [15] [15] [zM 15 13,
  zA 5 15]
  (.seq (.region true (zr 16 9) (zr 16 8) [zM 16 0,
  zM 17 5,
  zv (zp 18 1 16 17) [0,1],
  zv (zL 19 18) [2,0,1],
  zM 20 1,
  zM 21 5,
  zv (zp 22 1 20 21) [4,5],
  zv (zL 23 22) [6,4,5],
  zv (zb 24 .neq 19 23) [3,2,0,1,7,6,4,5]])
  (zc 24
  (zs [] [] [zK 4 (zB false)]
  .ret)
  .skip))))
  (zR [25] [25] [zO 25 (.bin .add (.t 13) (zI 1)),
  zM 13 25])))))))
  (zs [] [] [zK 4 (zB true)]
  .ret))))⟩
def ir177 : FnIr := ⟨0, 2, 8, [(4, none)], [],
  (zs [] [] [zK 4 (zB false)]
  (zs [5,6,7,15] [5,6,7] [zM 5 0,
  zM 6 1,
  zC 7 229 [5,6],
  zA 4 7]
  .ret))⟩
def ir237 : FnIr := ⟨0, 3, 32, [(6, none)], [],
  (zs [] [] [zK 6 (zB false)]
  (.seq (zs (zr 10 5) (zr 10 4) [zM 10 0,
  zl 11 10,
  zM 12 1,
  zl 13 12,
  zb 14 .neq 11 13]
  (zc 14
  (zs [] [] [zK 6 (zB false)]
  .ret)
  .skip))
  (.seq (zs [15,16,17] [] [zM 15 0,
  zl 16 15,
  zO 17 (.move (zI 0))]
  (.block 0 (.loop (zs [18] [] [zb 18 .lss 17 16]
  (.seq (zc 18
  .skip
  (.exit 0))
  (.seq (.block 1 (zs [19,20,21] [19,20,21] [zM 19 17,
  zp 20 1 15 17,
  zL 21 20,
  zA 7 19,
  zA 8 21]
  (zs (zr 22 4) (zr 22 4) [zM 22 1,
  zM 23 7,
  zp 24 1 22 23,
  zL 25 24,
  zA 9 25]
  (zs (zq 26 5 [61]) (zr 26 4) [zM 26 2,
  zM 27 8,
  zM 28 9,
  zO 29 (.callv (.t 26) [(.t 27), (.t 28)]),
  zn 30 29]
  (zc 30
  (zs [] [] [zK 6 (zB false)]
  .ret)
  .skip)))))
  (zR [31] [31] [zO 31 (.bin .add (.t 17) (zI 1)),
  zM 17 31])))))))
  (zs [] [] [zK 6 (zB true)]
  .ret))))⟩
def ir90 : FnIr := ⟨0, 2, 8, [(4, none)], [],
  (zs [] [] [zK 4 (zB false)]
  (zs [5,6,7,15] [5,6,7] [zM 5 0,
  zM 6 1,
  zO 7 (.call 237 [(.t 5), (.t 6), (.f 177)]),
  zA 4 7]
  .ret))⟩
def ir31 : FnIr := ⟨0, 1, 135, [(2, none)], [],
  (zs [] [] [zK 2 (zB false)]
  (.seq (zs [10,11,146] [10] [zM 10 0,
  zC 11 108 [10]]
  (zc 11
  (zs [] [] [zK 2 (zB true)]
  .ret)
  .skip))
  (zs [13,14,12,15,16,17,149] [13,14,12,15,16,17] [zM 13 0,
  zC 14 159 [13],
  zM 12 14,
  zO 15 (.extract 0 (.t 12)),
  zO 16 (.extract 1 (.t 12)),
  zO 17 (.extract 2 (.t 12)),
  zA 3 15,
  zA 4 16,
  zA 5 17]
  (zs (zq 18 4 [156]) (zr 18 4) [zM 18 3,
  zM 19 4,
  zM 20 5,
  zC 21 144 [18,19,20],
  zA 6 21]
  (.seq (zs [22,23] [22] [zM 22 6,
  zO 23 (.bin .eql (.t 22) (zI 0))]
  (zc 23
  (zs (zq 24 13 [163,169]) (zr 24 13) [zM 24 3,
  zM 25 4,
  zM 26 5,
  zM 27 6,
  zC 28 146 [24,25,26,27],
  zn 29 28,
  zM 30 29,
  zG 31 (.move (.t 3)) 30 true,
  zG 32 (.move (.t 4)) 30 true,
  zG 33 (.move (.t 5)) 30 true,
  zG 34 (.call 143 [(.t 31), (.t 32), (.t 33)]) 30 true,
  zG 35 (.bin .eql (.t 34) (zI 0)) 30 true,
  zO 36 (.pick (.t 30) (.t 35) (zB false)),
  zA 2 36]
  .ret)
  .skip))
  (.seq (zs (zq 37 40 [176,184,191,201,208]) (zr 37 39) [zM 37 3,
  zM 38 4,
  zM 39 5,
  zM 40 6,
  zC 41 146 [37,38,39,40],
  zn 42 41,
  zM 43 42,
  zG 44 (.move (.t 3)) 43 false,
  zG 45 (.move (.t 4)) 43 false,
  zG 46 (.move (.t 5)) 43 false,
  zG 47 (.bin .sub (zI 1) (.t 46)) 43 false,
  zG 48 (.move (.t 6)) 43 false,
  zG 49 (.call 146 [(.t 44), (.t 45), (.t 47), (.t 48)]) 43 false,
  zG 50 (.move (.t 49)) 43 false,
  zG 51 (.move (.t 3)) 50 true,
  zG 52 (.move (.t 4)) 50 true,
  zG 53 (.move (.t 5)) 50 true,
  zG 54 (.bin .sub (zI 1) (.t 53)) 50 true,
  zG 55 (.move (.t 6)) 50 true,
  zG 56 (.call 145 [(.t 51), (.t 52), (.t 54), (.t 55)]) 50 true,
  zG 57 (.un .not (.t 56)) 50 true,
  zG 58 (.pick (.t 50) (.t 57) (zB false)) 43 false,
  zO 59 (.pick (.t 43) (zB true) (.t 58)),
  zM 60 59,
  zG 61 (.move (.t 3)) 60 false,
  zG 62 (.bin .add (.t 61) (zI 1)) 60 false,
  zG 63 (.move (.t 4)) 60 false,
  zG 64 (.move (.t 5)) 60 false,
  zG 65 (.move (.t 6)) 60 false,
  zG 66 (.call 146 [(.t 62), (.t 63), (.t 64), (.t 65)]) 60 false,
  zG 67 (.move (.t 66)) 60 false,
  zG 68 (.move (.t 3)) 67 true,
  zG 69 (.bin .add (.t 68) (zI 1)) 67 true,
  zG 70 (.move (.t 4)) 67 true,
  zG 71 (.move (.t 5)) 67 true,
  zG 72 (.move (.t 6)) 67 true,
  zG 73 (.call 145 [(.t 69), (.t 70), (.t 71), (.t 72)]) 67 true,
  zG 74 (.un .not (.t 73)) 67 true,
  zG 75 (.pick (.t 67) (.t 74) (zB false)) 60 false,
  zO 76 (.pick (.t 60) (zB true) (.t 75))]
  (zc 76
  (zs [] [] [zK 2 (zB false)]
  .ret)
  .skip))
  (.seq (zs [] [] [zK 7 (zI 0)]
  (.block 0 (.loop (.seq (zs (zr 77 4) [77,78,79] [zM 77 7,
  zM 78 4,
  zl 79 78,
  zb 80 .lss 77 79]
  (zc 80
  .skip
  (.exit 0)))
  (.seq (.block 1 (zs [83] [83] [zO 83 (.bslice [(.row () [])] 0 []),
  zA 8 83]
  (.seq (zs [] [] [zK 9 (zI 0)]
  (.block 2 (.loop (.seq (zs (zr 84 4) [84,85,86] [zM 84 9,
  zM 85 4,
  zl 86 85,
  zb 87 .lss 84 86]
  (zc 87
  .skip
  (.exit 2)))
  (.seq (.block 3 (zR (zr 90 9) (zr 90 9) [zM 90 8,
  zO 91 (.bslice [(.int .i64 0)] 0 []),
  zM 92 4,
  zM 93 9,
  zp 94 1 92 93,
  zL 95 94,
  zO 96 (.append 1 (.t 91) (.t 95)),
  zO 97 (.bslice [(.row () [])] 1 [(0, (.t 96))]),
  zO 98 (.append 1 (.t 90) (.t 97)),
  zA 8 98]))
  (zR [88,89] [88,89] [zM 88 9,
  zO 89 (.bin .add (.t 88) (zI 1)),
  zA 9 89]))))))
  (zs (zr 99 9) (zr 99 9) [zM 99 8,
  zM 100 7,
  zM 101 8,
  zM 102 7,
  zp 103 1 101 102,
  zL 104 103,
  zO 105 (.bslice [(.int .i64 0)] 1 [(0, (zI 0))]),
  zO 106 (.append 1 (.t 104) (.t 105)),
  zp 107 1 99 100,
  zN (.rstore 1 (.t 107) (.t 106))]
  (zs (zq 108 24 [247,253,259,263]) (zr 108 23) [zM 108 3,
  zM 109 8,
  zM 110 5,
  zM 111 6,
  zC 112 146 [108,109,110,111],
  zM 113 112,
  zG 114 (.move (.t 3)) 113 true,
  zG 115 (.move (.t 8)) 113 true,
  zG 116 (.move (.t 5)) 113 true,
  zG 117 (.move (.t 6)) 113 true,
  zG 118 (.call 145 [(.t 114), (.t 115), (.t 116), (.t 117)]) 113 true,
  zG 119 (.un .not (.t 118)) 113 true,
  zO 120 (.pick (.t 113) (.t 119) (zB false)),
  zM 121 120,
  zG 122 (.move (.t 4)) 121 false,
  zG 123 (.move (.t 8)) 121 false,
  zG 124 (.call 90 [(.t 122), (.t 123)]) 121 false,
  zG 125 (.move (.t 124)) 121 false,
  zG 126 (.move (.t 4)) 125 true,
  zG 127 (.move (.t 8)) 125 true,
  zG 128 (.call 89 [(.t 126), (.t 127)]) 125 true,
  zG 129 (.un .not (.t 128)) 125 true,
  zG 130 (.pick (.t 125) (.t 129) (zB false)) 121 false,
  zO 131 (.pick (.t 121) (zB true) (.t 130))]
  (zc 131
  (zs [] [] [zK 2 (zB false)]
  .ret)
  .skip))))))
  (zR [81,82] [81,82] [zM 81 7,
  zO 82 (.bin .add (.t 81) (zI 1)),
  zA 7 82]))))))
  (zs [132,133,134,269] [132,133,134] [zM 132 4,
  zM 133 4,
  zC 134 90 [132,133],
  zA 2 134]
  .ret))))))))⟩
def tbl : List (Nat × FnIr) := [(108, ir108), (230, ir230), (348, ir348), (268, ir268), (231, ir231), (71, ir71), (120, ir120), (282, ir282), (283, ir283), (143, ir143), (232, ir232), (114, ir114), (349, ir349), (269, ir269), (341, ir341), (234, ir234), (377, ir377), (336, ir336), (340, ir340), (233, ir233), (235, ir235), (73, ir73), (121, ir121), (355, ir355), (304, ir304), (284, ir284), (144, ir144), (145, ir145), (146, ir146), (246, ir246), (3361, ir3361), (3317, ir3317), (3252, ir3252), (3353, ir3353), (3300, ir3300), (159, ir159), (228, ir228), (89, ir89), (229, ir229), (177, ir177), (237, ir237), (90, ir90), (31, ir31)]
def Tb (g : Nat) : Option FnIr := tbl.lookup g
theorem tb_108 : Tb 108 = some ir108 := rfl
theorem tb_230 : Tb 230 = some ir230 := rfl
theorem tb_348 : Tb 348 = some ir348 := rfl
theorem tb_268 : Tb 268 = some ir268 := rfl
theorem tb_231 : Tb 231 = some ir231 := rfl
theorem tb_71 : Tb 71 = some ir71 := rfl
theorem tb_120 : Tb 120 = some ir120 := rfl
theorem tb_282 : Tb 282 = some ir282 := rfl
theorem tb_283 : Tb 283 = some ir283 := rfl
theorem tb_143 : Tb 143 = some ir143 := rfl
theorem tb_232 : Tb 232 = some ir232 := rfl
theorem tb_114 : Tb 114 = some ir114 := rfl
theorem tb_349 : Tb 349 = some ir349 := rfl
theorem tb_269 : Tb 269 = some ir269 := rfl
theorem tb_341 : Tb 341 = some ir341 := rfl
theorem tb_234 : Tb 234 = some ir234 := rfl
theorem tb_377 : Tb 377 = some ir377 := rfl
theorem tb_336 : Tb 336 = some ir336 := rfl
theorem tb_340 : Tb 340 = some ir340 := rfl
theorem tb_233 : Tb 233 = some ir233 := rfl
theorem tb_235 : Tb 235 = some ir235 := rfl
theorem tb_73 : Tb 73 = some ir73 := rfl
theorem tb_121 : Tb 121 = some ir121 := rfl
theorem tb_355 : Tb 355 = some ir355 := rfl
theorem tb_304 : Tb 304 = some ir304 := rfl
theorem tb_284 : Tb 284 = some ir284 := rfl
theorem tb_144 : Tb 144 = some ir144 := rfl
theorem tb_145 : Tb 145 = some ir145 := rfl
theorem tb_146 : Tb 146 = some ir146 := rfl
theorem tb_246 : Tb 246 = some ir246 := rfl
theorem tb_3361 : Tb 3361 = some ir3361 := rfl
theorem tb_3317 : Tb 3317 = some ir3317 := rfl
theorem tb_3252 : Tb 3252 = some ir3252 := rfl
theorem tb_3353 : Tb 3353 = some ir3353 := rfl
theorem tb_3300 : Tb 3300 = some ir3300 := rfl
theorem tb_159 : Tb 159 = some ir159 := rfl
theorem tb_228 : Tb 228 = some ir228 := rfl
theorem tb_89 : Tb 89 = some ir89 := rfl
theorem tb_229 : Tb 229 = some ir229 := rfl
theorem tb_177 : Tb 177 = some ir177 := rfl
theorem tb_237 : Tb 237 = some ir237 := rfl
theorem tb_90 : Tb 90 = some ir90 := rfl
theorem tb_31 : Tb 31 = some ir31 := rfl
end Go.Vm
