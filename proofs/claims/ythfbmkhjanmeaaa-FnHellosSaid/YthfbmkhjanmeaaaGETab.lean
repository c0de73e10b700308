/- The code of the functions that the law reaches, as data. -/
import Derived.Test.YthfbmkhjanmeaaaVmF
set_option maxHeartbeats 4000000
set_option maxRecDepth 10000
set_option linter.unusedVariables false
set_option linter.unusedSimpArgs false
namespace Go.Vm
def ir108 : FnIr := ⟨0, 1, 6, [(2, none)], [],
  (zs [] [] [zK 2 (zB false)]
  (zs [3,4,5] [3,4,5] [zM 3 0,
  zl 4 3,
  zO 5 (.bin .gtr (.t 4) (zI 1048576)),
  zA 2 5]
  .ret))⟩
def ir354 : FnIr := ⟨0, 2, 19, [(4, none)], [],
  (zs [] [] [zK 4 (zI 0)]
  (.seq (zs [6,7,8] [6] [zM 6 0,
  zl 7 6,
  zO 8 (.move (zI 0))]
  (.block 0 (.loop (zs [9] [] [zb 9 .lss 8 7]
  (.seq (zc 9
  .skip
  (.exit 0))
  (.seq (.block 1 (zs [10] [10] [zM 10 8,
  zA 5 10]
  (zs (zr 11 6) (zr 11 5) [zM 11 1,
  zM 12 0,
  zM 13 5,
  zp 14 1 12 13,
  zL 15 14,
  zb 16 .eql 11 15]
  (zc 16
  (zs [17] [17] [zM 17 5,
  zA 4 17]
  .ret)
  .skip))))
  (zR [18] [18] [zO 18 (.bin .add (.t 8) (zI 1)),
  zM 8 18])))))))
  (zs [] [] [zK 4 (zI (-1))]
  .ret)))⟩
def ir302 : FnIr := ⟨0, 2, 9, [(4, none)], [],
  (zs [] [] [zK 4 (zB false)]
  (zs (zq 5 4 [16]) (zr 5 4) [zM 5 0,
  zM 6 1,
  zC 7 354 [5,6],
  zO 8 (.bin .geq (.t 7) (zI 0)),
  zA 4 8]
  .ret))⟩
def ir180 : FnIr := ⟨0, 2, 24, [(4, none)], [],
  (zs [] [] [zK 4 zE]
  (zs [8] [8] [zO 8 (.bslice [(.int .i64 0)] 0 []),
  zA 5 8]
  (.seq (zs [9,10,11] [] [zM 9 0,
  zl 10 9,
  zO 11 (.move (zI 0))]
  (.block 0 (.loop (zs [12] [] [zb 12 .lss 11 10]
  (.seq (zc 12
  .skip
  (.exit 0))
  (.seq (.block 1 (zs [13,14] [13,14] [zp 13 1 9 11,
  zL 14 13,
  zA 7 14]
  (zs [15,16,17,41] [15,16] [zM 15 1,
  zM 16 7,
  zC 17 302 [15,16]]
  (zc 17
  (zR (zr 18 4) (zr 18 4) [zM 18 5,
  zM 19 7,
  zO 20 (.bslice [(.int .i64 0)] 1 [(0, (.t 19))]),
  zO 21 (.append 1 (.t 18) (.t 20)),
  zA 5 21])
  .skip))))
  (zR [22] [22] [zO 22 (.bin .add (.t 11) (zI 1)),
  zM 11 22])))))))
  (zs [23] [23] [zM 23 5,
  zA 4 23]
  .ret))))⟩
def ir232 : FnIr := ⟨0, 3, 15, [(6, none)], [],
  (zs [] [] [zK 6 (zB false)]
  (zs (zr 7 8) (zr 7 8) [zM 7 1,
  zM 8 0,
  zb 9 .leq 7 8,
  zM 10 9,
  zG 11 (.move (.t 0)) 10 true,
  zG 12 (.move (.t 2)) 10 true,
  zG 13 (.bin .leq (.t 11) (.t 12)) 10 true,
  zO 14 (.pick (.t 10) (.t 13) (zB false)),
  zA 6 14]
  .ret))⟩
def ir230 : FnIr := ⟨0, 3, 15, [(6, none)], [],
  (zs [] [] [zK 6 (zB false)]
  (zs (zr 7 8) (zr 7 8) [zM 7 0,
  zM 8 1,
  zb 9 .geq 7 8,
  zM 10 9,
  zG 11 (.move (.t 0)) 10 true,
  zG 12 (.move (.t 2)) 10 true,
  zG 13 (.bin .leq (.t 11) (.t 12)) 10 true,
  zO 14 (.pick (.t 10) (.t 13) (zB false)),
  zA 6 14]
  .ret))⟩
def ir257 : FnIr := ⟨0, 1, 35, [(2, none)], [],
  (zs [] [] [zK 2 (zB false)]
  (.seq (zs [] [] [zK 3 (zI 0)]
  (.block 0 (.loop (.seq (zs (zr 4 4) [4,5,6] [zM 4 3,
  zM 5 0,
  zl 6 5,
  zb 7 .lss 4 6]
  (zc 7
  .skip
  (.exit 0)))
  (.seq (.block 1 (.seq (.region true (zq 10 22 [49]) (zr 10 21) [zM 10 0,
  zM 11 3,
  zv (zp 12 1 10 11) [0,1],
  zv (zL 13 12) [2,0,1],
  zv (zO 14 (.call 230 [(.t 13), (zI 1), (zI 9)])) [3,2,0,1],
  zv (zn 15 14) [4,3,2,0,1],
  zv (zM 16 15) [5,4,3,2,0,1],
  zv (zG 17 (.move (.t 3)) 16 false) [6,5,4,3,2,0,1],
  zv (zG 18 (.bin .gtr (.t 17) (zI 0)) 16 false) [7,6,5,4,3,2,0,1],
  zv (zG 19 (.move (.t 18)) 16 false) [8,7,6,5,4,3,2,0,1],
  zv (zG 20 (.move (.t 0)) 19 true) [9,8,7,6,5,4,3,2,0,1],
  zv (zG 21 (.move (.t 3)) 19 true) [9,8,7,6,5,4,3,2,0,1],
  zv (zG 22 (.bin .sub (.t 21) (zI 1)) 19 true) [11,9,8,7,6,5,4,3,2,0,1],
  zv (zG 23 (.iaddr 1 (.t 20) (.t 22)) 19 true) [10,9,8,7,6,5,4,3,2,0,1,12,11],
  zv (zG 24 (.load false 1 (.t 23)) 19 true) [13,10,9,8,7,6,5,4,3,2,0,1,12,11],
  zv (zG 25 (.move (.t 0)) 19 true) [9,8,7,6,5,4,3,2,0,1],
  zv (zG 26 (.move (.t 3)) 19 true) [9,8,7,6,5,4,3,2,0,1],
  zv (zG 27 (.iaddr 1 (.t 25) (.t 26)) 19 true) [15,9,8,7,6,5,4,3,2,0,1,16],
  zv (zG 28 (.load false 1 (.t 27)) 19 true) [17,15,9,8,7,6,5,4,3,2,0,1,16],
  zv (zG 29 (.bin .geq (.t 24) (.t 28)) 19 true) [14,13,10,9,8,7,6,5,4,3,2,0,1,12,11,18,17,15,16],
  zv (zG 30 (.pick (.t 19) (.t 29) (zB false)) 16 false) [9,8,7,6,5,4,3,2,0,1,19,14,13,10,12,11,18,17,15,16],
  zv (zO 31 (.pick (.t 16) (zB true) (.t 30))) [6,5,4,3,2,0,1,20,9,8,7,19,14,13,10,12,11,18,17,15,16]])
  (zc 31
  (zs [] [] [zK 2 (zB false)]
  .ret)
  .skip)))
  (zR [8,9] [8,9] [zM 8 3,
  zO 9 (.bin .add (.t 8) (zI 1)),
  zA 3 9]))))))
  (zs [32,33,34] [32,33,34] [zM 32 0,
  zl 33 32,
  zO 34 (.bin .gtr (.t 33) (zI 0)),
  zA 2 34]
  .ret)))⟩
def ir255 : FnIr := ⟨0, 1, 32, [(2, none)], [],
  (zs [] [] [zK 2 (zB false)]
  (.seq (zs [5,6,7] [] [zM 5 0,
  zl 6 5,
  zO 7 (.move (zI 0))]
  (.block 0 (.loop (zs [8] [] [zb 8 .lss 7 6]
  (.seq (zc 8
  .skip
  (.exit 0))
  (.seq (.block 1 (zs [9,10,11] [9,10,11] [zM 9 7,
  zp 10 1 5 7,
  zL 11 10,
  zA 3 9,
  zA 4 11]
  (zs (zq 12 16 [45]) (zr 12 15) [zM 12 4,
  zO 13 (.call 232 [(.t 12), (zI 1), (zI 9)]),
  zn 14 13,
  zM 15 14,
  zG 16 (.move (.t 3)) 15 false,
  zG 17 (.bin .gtr (.t 16) (zI 0)) 15 false,
  zG 18 (.move (.t 17)) 15 false,
  zG 19 (.move (.t 0)) 18 true,
  zG 20 (.move (.t 3)) 18 true,
  zG 21 (.bin .sub (.t 20) (zI 1)) 18 true,
  zG 22 (.iaddr 1 (.t 19) (.t 21)) 18 true,
  zG 23 (.load false 1 (.t 22)) 18 true,
  zG 24 (.move (.t 4)) 18 true,
  zG 25 (.bin .geq (.t 23) (.t 24)) 18 true,
  zG 26 (.pick (.t 18) (.t 25) (zB false)) 15 false,
  zO 27 (.pick (.t 15) (zB true) (.t 26))]
  (zc 27
  (zs [] [] [zK 2 (zB false)]
  .ret)
  .skip))))
  (zR [28] [28] [zO 28 (.bin .add (.t 7) (zI 1)),
  zM 7 28])))))))
  (zs [29,30,31] [29,30,31] [zM 29 0,
  zl 30 29,
  zO 31 (.bin .gtr (.t 30) (zI 0)),
  zA 2 31]
  .ret)))⟩
def ir111 : FnIr := ⟨0, 2, 29, [(4, none)], [],
  (zs [] [] [zK 4 (zI 0)]
  (.seq (zs (zq 8 8 [38,42]) (zr 8 7) [zM 8 0,
  zC 9 255 [8],
  zn 10 9,
  zM 11 10,
  zG 12 (.move (.t 1)) 11 false,
  zG 13 (.call 255 [(.t 12)]) 11 false,
  zG 14 (.un .not (.t 13)) 11 false,
  zO 15 (.pick (.t 11) (zB true) (.t 14))]
  (zc 15
  (zs [] [] [zK 4 (zI 0)]
  .ret)
  .skip))
  (zs [] [] [zK 5 (zI 0)]
  (.seq (zs (zq 16 5 [47]) [16,17] [zM 16 0,
  zM 17 1,
  zC 18 180 [16,17],
  zl 19 18,
  zO 20 (.move (zI 0))]
  (.block 0 (.loop (zs [21] [] [zb 21 .lss 20 19]
  (.seq (zc 21
  .skip
  (.exit 0))
  (.seq (.block 1 (zs [22,23] [22,23] [zp 22 1 18 20,
  zL 23 22,
  zA 7 23]
  (zR [24,25,26] [24,25,26] [zM 24 5,
  zM 25 7,
  zO 26 (.max (.t 24) (.t 25)),
  zA 5 26])))
  (zR [27] [27] [zO 27 (.bin .add (.t 20) (zI 1)),
  zM 20 27])))))))
  (zs [28] [28] [zM 28 5,
  zA 4 28]
  .ret)))))⟩
def ir231 : FnIr := ⟨0, 1, 16, [(2, none)], [],
  (zs [] [] [zK 2 (zB false)]
  (.seq (zs [] [] [zK 3 (zI 0)]
  (.block 0 (.loop (.seq (zs (zr 4 4) [4,5,6] [zM 4 3,
  zM 5 0,
  zl 6 5,
  zb 7 .lss 4 6]
  (zc 7
  .skip
  (.exit 0)))
  (.seq (.block 1 (zs (zq 10 6 [30]) (zr 10 5) [zM 10 0,
  zM 11 3,
  zp 12 1 10 11,
  zL 13 12,
  zO 14 (.call 230 [(.t 13), (zI 0), (zI 255)]),
  zn 15 14]
  (zc 15
  (zs [] [] [zK 2 (zB false)]
  .ret)
  .skip)))
  (zR [8,9] [8,9] [zM 8 3,
  zO 9 (.bin .add (.t 8) (zI 1)),
  zA 3 9]))))))
  (zs [] [] [zK 2 (zB true)]
  .ret)))⟩
def ir286 : FnIr := ⟨0, 2, 20, [(4, none)], [],
  (zs [] [] [zK 4 (zI 0)]
  (.seq (zs [] [] [zK 5 (zI 0)]
  (.block 0 (.loop (.seq (zs (zr 6 4) [6,7,8] [zM 6 5,
  zM 7 0,
  zl 8 7,
  zb 9 .lss 6 8]
  (zc 9
  .skip
  (.exit 0)))
  (.seq (.block 1 (zs (zr 12 7) (zr 12 6) [zM 12 0,
  zM 13 5,
  zp 14 2 12 13,
  zF 15 0 14,
  zL 16 15,
  zM 17 1,
  zb 18 .eql 16 17]
  (zc 18
  (zs [19] [19] [zM 19 5,
  zA 4 19]
  .ret)
  .skip)))
  (zR [10,11] [10,11] [zM 10 5,
  zO 11 (.bin .add (.t 10) (zI 1)),
  zA 5 11]))))))
  (zs [] [] [zK 4 (zI (-1))]
  .ret)))⟩
def ir271 : FnIr := ⟨0, 1, 49, [(2, none)], [],
  (zs [] [] [zK 2 (zB false)]
  (.seq (zs [] [] [zK 3 (zI 0)]
  (.block 0 (.loop (.seq (zs (zr 4 4) [4,5,6] [zM 4 3,
  zM 5 0,
  zl 6 5,
  zb 7 .lss 4 6]
  (zc 7
  .skip
  (.exit 0)))
  (.seq (.block 1 (zs (zq 10 36 [64,81,91]) (zr 10 35) [zM 10 0,
  zM 11 3,
  zp 12 2 10 11,
  zF 13 0 12,
  zL 14 13,
  zO 15 (.call 230 [(.t 14), (zI 0), (zI 255)]),
  zn 16 15,
  zM 17 16,
  zG 18 (.move (.t 0)) 17 false,
  zG 19 (.move (.t 3)) 17 false,
  zG 20 (.iaddr 2 (.t 18) (.t 19)) 17 false,
  zG 21 (.faddr 1 (.t 20)) 17 false,
  zG 22 (.load false 1 (.t 21)) 17 false,
  zG 23 (.len false (.t 22)) 17 false,
  zG 24 (.bin .gtr (.t 23) (zI 4)) 17 false,
  zO 25 (.pick (.t 17) (zB true) (.t 24)),
  zM 26 25,
  zG 27 (.move (.t 0)) 26 false,
  zG 28 (.move (.t 3)) 26 false,
  zG 29 (.iaddr 2 (.t 27) (.t 28)) 26 false,
  zG 30 (.faddr 1 (.t 29)) 26 false,
  zG 31 (.load false 1 (.t 30)) 26 false,
  zG 32 (.call 231 [(.t 31)]) 26 false,
  zG 33 (.un .not (.t 32)) 26 false,
  zO 34 (.pick (.t 26) (zB true) (.t 33)),
  zM 35 34,
  zG 36 (.move (.t 0)) 35 false,
  zG 37 (.move (.t 0)) 35 false,
  zG 38 (.move (.t 3)) 35 false,
  zG 39 (.iaddr 2 (.t 37) (.t 38)) 35 false,
  zG 40 (.faddr 0 (.t 39)) 35 false,
  zG 41 (.load false 1 (.t 40)) 35 false,
  zG 42 (.call 286 [(.t 36), (.t 41)]) 35 false,
  zG 43 (.move (.t 3)) 35 false,
  zG 44 (.bin .lss (.t 42) (.t 43)) 35 false,
  zO 45 (.pick (.t 35) (zB true) (.t 44))]
  (zc 45
  (zs [] [] [zK 2 (zB false)]
  .ret)
  .skip)))
  (zR [8,9] [8,9] [zM 8 3,
  zO 9 (.bin .add (.t 8) (zI 1)),
  zA 3 9]))))))
  (zs [46,47,48] [46,47,48] [zM 46 0,
  zl 47 46,
  zO 48 (.bin .leq (.t 47) (zI 6)),
  zA 2 48]
  .ret)))⟩
def ir142 : FnIr := ⟨0, 1, 11, [(2, none)], [],
  (zs [1,12] [] [zO 1 (.box (.t 0)),
  zK 2 (zB false)]
  (zs (zq 3 8 [16,20]) (zr 3 8) [zF 3 0 1,
  zL 4 3,
  zC 5 257 [4],
  zM 6 5,
  zG 7 (.faddr 1 (.t 1)) 6 true,
  zG 8 (.load false 1 (.t 7)) 6 true,
  zG 9 (.call 271 [(.t 8)]) 6 true,
  zO 10 (.pick (.t 6) (.t 9) (zB false)),
  zA 2 10]
  .ret))⟩
def ir377 : FnIr := ⟨0, 2, 19, [(4, none)], [],
  (zs [] [] [zK 4 (zI 0)]
  (.seq (zs [6,7,8] [6] [zM 6 0,
  zl 7 6,
  zO 8 (.move (zI 0))]
  (.block 0 (.loop (zs [9] [] [zb 9 .lss 8 7]
  (.seq (zc 9
  .skip
  (.exit 0))
  (.seq (.block 1 (zs [10] [10] [zM 10 8,
  zA 5 10]
  (zs (zq 11 6 [35]) (zr 11 5) [zM 11 1,
  zM 12 0,
  zM 13 5,
  zp 14 1 12 13,
  zL 15 14,
  zO 16 (.callv (.t 11) [(.t 15)])]
  (zc 16
  (zs [17] [17] [zM 17 5,
  zA 4 17]
  .ret)
  .skip))))
  (zR [18] [18] [zO 18 (.bin .add (.t 8) (zI 1)),
  zM 8 18])))))))
  (zs [] [] [zK 4 (zI (-1))]
  .ret)))⟩
def ir336 : FnIr := ⟨0, 2, 9, [(4, none)], [],
  (zs [] [] [zK 4 (zB false)]
  (zs (zq 5 4 [16]) (zr 5 4) [zM 5 0,
  zM 6 1,
  zC 7 377 [5,6],
  zO 8 (.bin .geq (.t 7) (zI 0)),
  zA 4 8]
  .ret))⟩
def ir340 : FnIr := ⟨0, 3, 10, [(4, none)], [],
  (zs [] [] [zK 4 (zB false)]
  (zs (zq 5 5 [18]) (zr 5 5) [zM 5 0,
  zL 6 1,
  zL 7 2,
  zC 8 232 [5,6,7],
  zn 9 8,
  zA 4 9]
  .ret))⟩
def ir233 : FnIr := ⟨0, 3, 11, [(6, none)], [],
  (zs [4,5,15,16] [] [zO 4 (.box (.t 1)),
  zO 5 (.box (.t 2)),
  zK 6 (zB false)]
  (zs (zq 7 4 [20]) (zr 7 4) [zM 7 0,
  zO 8 (.mkfn 340 [4, 5]),
  zC 9 336 [7,8],
  zn 10 9,
  zA 6 10]
  .ret))⟩
def ir351 : FnIr := ⟨0, 2, 19, [(4, none)], [],
  (zs [] [] [zK 4 (zI 0)]
  (.seq (zs [6,7,8] [6] [zM 6 0,
  zl 7 6,
  zO 8 (.move (zI 0))]
  (.block 0 (.loop (zs [9] [] [zb 9 .lss 8 7]
  (.seq (zc 9
  .skip
  (.exit 0))
  (.seq (.block 1 (zs [10] [10] [zM 10 8,
  zA 5 10]
  (zs (zq 11 6 [35]) (zr 11 5) [zM 11 1,
  zM 12 0,
  zM 13 5,
  zp 14 2 12 13,
  zS 15 2 14,
  zO 16 (.callv (.t 11) [(.t 15)])]
  (zc 16
  (zs [17] [17] [zM 17 5,
  zA 4 17]
  .ret)
  .skip))))
  (zR [18] [18] [zO 18 (.bin .add (.t 8) (zI 1)),
  zM 8 18])))))))
  (zs [] [] [zK 4 (zI (-1))]
  .ret)))⟩
def ir352 : FnIr := ⟨0, 2, 8, [(3, none)], [],
  (zs [2,10] [] [zO 2 (.box (.t 0)),
  zK 3 (zB false)]
  (zs (zr 4 4) (zr 4 4) [zF 4 0 2,
  zL 5 4,
  zL 6 1,
  zb 7 .eql 5 6,
  zA 3 7]
  .ret))⟩
def ir290 : FnIr := ⟨0, 2, 8, [(4, none)], [],
  (zs [3,11] [] [zO 3 (.box (.t 1)),
  zK 4 (zI 0)]
  (zs [5,6,7,15] [5,6,7] [zM 5 0,
  zO 6 (.mkfn 352 [3]),
  zC 7 351 [5,6],
  zA 4 7]
  .ret))⟩
def ir258 : FnIr := ⟨0, 1, 41, [(2, none)], [],
  (zs [] [] [zK 2 (zB false)]
  (.seq (zs [5,6,7] [] [zM 5 0,
  zl 6 5,
  zO 7 (.move (zI 0))]
  (.block 0 (.loop (zs [8] [] [zb 8 .lss 7 6]
  (.seq (zc 8
  .skip
  (.exit 0))
  (.seq (.block 1 (zs [9,10,11,4,45] [9,10,11] [zM 9 7,
  zp 10 2 5 7,
  zS 11 2 10,
  zO 4 (.alloc [(.int .i64 0), (.row () [])]),
  zA 3 9,
  zN (.store 2 (.t 4) (.t 11))]
  (.seq (.region true (zq 12 25 [55,63,75]) (zr 12 24) [zF 12 0 4,
  zv (zL 13 12) [0],
  zv (zO 14 (.call 232 [(.t 13), (zI 0), (zI 255)])) [1,0],
  zv (zn 15 14) [2,1,0],
  zv (zM 16 15) [3,2,1,0],
  zv (zG 17 (.move (.t 0)) 16 false) [4,3,2,1,0],
  zv (zG 18 (.move (.t 3)) 16 false) [4,3,2,1,0],
  zv (zG 19 (.slice 2 (.t 17) none (some (.t 18))) 16 false) [5,4,3,2,1,0,6],
  zv (zG 20 (.faddr 0 (.t 4)) 16 false) [4,3,2,1,0],
  zv (zG 21 (.load false 1 (.t 20)) 16 false) [8,4,3,2,1,0],
  zv (zG 22 (.call 290 [(.t 19), (.t 21)]) 16 false) [7,5,4,3,2,1,0,6,9,8],
  zv (zG 23 (.bin .geq (.t 22) (zI 0)) 16 false) [10,7,5,4,3,2,1,0,6,9,8],
  zv (zO 24 (.pick (.t 16) (zB true) (.t 23))) [4,3,2,1,0,11,10,7,5,6,9,8],
  zv (zM 25 24) [12,4,3,2,1,0,11,10,7,5,6,9,8],
  zv (zG 26 (.faddr 1 (.t 4)) 25 false) [13,12,4,3,2,1,0,11,10,7,5,6,9,8],
  zv (zG 27 (.load false 1 (.t 26)) 25 false) [14,13,12,4,3,2,1,0,11,10,7,5,6,9,8],
  zv (zG 28 (.len false (.t 27)) 25 false) [15,14,13,12,4,3,2,1,0,11,10,7,5,6,9,8],
  zv (zG 29 (.bin .gtr (.t 28) (zI 4)) 25 false) [16,15,14,13,12,4,3,2,1,0,11,10,7,5,6,9,8],
  zv (zO 30 (.pick (.t 25) (zB true) (.t 29))) [13,12,4,3,2,1,0,11,10,7,5,6,9,8,17,16,15,14],
  zv (zM 31 30) [18,13,12,4,3,2,1,0,11,10,7,5,6,9,8,17,16,15,14],
  zv (zG 32 (.faddr 1 (.t 4)) 31 false) [19,18,13,12,4,3,2,1,0,11,10,7,5,6,9,8,17,16,15,14],
  zv (zG 33 (.load false 1 (.t 32)) 31 false) [20,19,18,13,12,4,3,2,1,0,11,10,7,5,6,9,8,17,16,15,14],
  zv (zG 34 (.call 233 [(.t 33), (zI 0), (zI 255)]) 31 false) [21,20,19,18,13,12,4,3,2,1,0,11,10,7,5,6,9,8,17,16,15,14],
  zv (zG 35 (.un .not (.t 34)) 31 false) [22,21,20,19,18,13,12,4,3,2,1,0,11,10,7,5,6,9,8,17,16,15,14],
  zv (zO 36 (.pick (.t 31) (zB true) (.t 35))) [19,18,13,12,4,3,2,1,0,11,10,7,5,6,9,8,17,16,15,14,23,22,21,20]])
  (zc 36
  (zs [] [] [zK 2 (zB false)]
  .ret)
  .skip))))
  (zR [37] [37] [zO 37 (.bin .add (.t 7) (zI 1)),
  zM 7 37])))))))
  (zs [38,39,40] [38,39,40] [zM 38 0,
  zl 39 38,
  zO 40 (.bin .leq (.t 39) (zI 6)),
  zA 2 40]
  .ret)))⟩
def ir113 : FnIr := ⟨0, 1, 11, [(2, none)], [],
  (zs [1,12] [] [zO 1 (.box (.t 0)),
  zK 2 (zB false)]
  (zs (zq 3 8 [16,20]) (zr 3 8) [zF 3 0 1,
  zL 4 3,
  zC 5 255 [4],
  zM 6 5,
  zG 7 (.faddr 1 (.t 1)) 6 true,
  zG 8 (.load false 1 (.t 7)) 6 true,
  zG 9 (.call 258 [(.t 8)]) 6 true,
  zO 10 (.pick (.t 6) (.t 9) (zB false)),
  zA 2 10]
  .ret))⟩
def ir229 : FnIr := ⟨0, 2, 26, [(4, none)], [],
  (zs [] [] [zK 4 (zB false)]
  (.seq (zs (zr 6 5) (zr 6 4) [zM 6 0,
  zl 7 6,
  zM 8 1,
  zl 9 8,
  zb 10 .neq 7 9]
  (zc 10
  (zs [] [] [zK 4 (zB false)]
  .ret)
  .skip))
  (.seq (zs [11,12,13] [11] [zM 11 0,
  zl 12 11,
  zO 13 (.move (zI 0))]
  (.block 0 (.loop (zs [14] [] [zb 14 .lss 13 12]
  (.seq (zc 14
  .skip
  (.exit 0))
  (.seq (.block 1 (zs [15] [15] [zM 15 13,
  zA 5 15]
  (.seq (.region true (zr 16 9) (zr 16 8) [zM 16 0,
  zM 17 5,
  zv (zp 18 1 16 17) [0,1],
  zv (zL 19 18) [2,0,1],
  zM 20 1,
  zM 21 5,
  zv (zp 22 1 20 21) [4,5],
  zv (zL 23 22) [6,4,5],
  zv (zb 24 .neq 19 23) [3,2,0,1,7,6,4,5]])
  (zc 24
  (zs [] [] [zK 4 (zB false)]
  .ret)
  .skip))))
  (zR [25] [25] [zO 25 (.bin .add (.t 13) (zI 1)),
  zM 13 25])))))))
  (zs [] [] [zK 4 (zB true)]
  .ret))))⟩
def ir291 : FnIr := ⟨0, 2, 17, [(4, none)], [],
  (zs [2,3,19,20] [] [zO 2 (.box (.t 0)),
  zO 3 (.box (.t 1)),
  zK 4 (zB false)]
  (zs (zq 5 12 [32]) (zr 5 12) [zF 5 0 2,
  zL 6 5,
  zF 7 0 3,
  zL 8 7,
  zb 9 .eql 6 8,
  zM 10 9,
  zG 11 (.faddr 1 (.t 2)) 10 true,
  zG 12 (.load false 1 (.t 11)) 10 true,
  zG 13 (.faddr 1 (.t 3)) 10 true,
  zG 14 (.load false 1 (.t 13)) 10 true,
  zG 15 (.call 229 [(.t 12), (.t 14)]) 10 true,
  zO 16 (.pick (.t 10) (.t 15) (zB false)),
  zA 4 16]
  .ret))⟩
def ir350 : FnIr := ⟨0, 3, 32, [(6, none)], [],
  (zs [] [] [zK 6 (zB false)]
  (.seq (zs (zr 10 5) (zr 10 4) [zM 10 0,
  zl 11 10,
  zM 12 1,
  zl 13 12,
  zb 14 .neq 11 13]
  (zc 14
  (zs [] [] [zK 6 (zB false)]
  .ret)
  .skip))
  (.seq (zs [15,16,17] [] [zM 15 0,
  zl 16 15,
  zO 17 (.move (zI 0))]
  (.block 0 (.loop (zs [18] [] [zb 18 .lss 17 16]
  (.seq (zc 18
  .skip
  (.exit 0))
  (.seq (.block 1 (zs [19,20,21,8,40] [19,20,21] [zM 19 17,
  zp 20 2 15 17,
  zS 21 2 20,
  zO 8 (.alloc [(.int .i64 0), (.row () [])]),
  zA 7 19,
  zN (.store 2 (.t 8) (.t 21))]
  (zs (zq 22 4 [9,41]) (zr 22 4) [zM 22 1,
  zM 23 7,
  zp 24 2 22 23,
  zS 25 2 24,
  zO 9 (.alloc [(.int .i64 0), (.row () [])]),
  zN (.store 2 (.t 9) (.t 25))]
  (zs (zq 26 5 [61]) (zr 26 4) [zM 26 2,
  zS 27 2 8,
  zS 28 2 9,
  zO 29 (.callv (.t 26) [(.t 27), (.t 28)]),
  zn 30 29]
  (zc 30
  (zs [] [] [zK 6 (zB false)]
  .ret)
  .skip)))))
  (zR [31] [31] [zO 31 (.bin .add (.t 17) (zI 1)),
  zM 17 31])))))))
  (zs [] [] [zK 6 (zB true)]
  .ret))))⟩
def ir273 : FnIr := ⟨0, 2, 8, [(4, none)], [],
  (zs [] [] [zK 4 (zB false)]
  (zs [5,6,7,15] [5,6,7] [zM 5 0,
  zM 6 1,
  zO 7 (.call 350 [(.t 5), (.t 6), (.f 291)]),
  zA 4 7]
  .ret))⟩
def ir131 : FnIr := ⟨0, 2, 17, [(4, none)], [],
  (zs [2,3,19,20] [] [zO 2 (.box (.t 0)),
  zO 3 (.box (.t 1)),
  zK 4 (zB false)]
  (zs (zq 5 12 [26,32]) (zr 5 12) [zF 5 0 2,
  zL 6 5,
  zF 7 0 3,
  zL 8 7,
  zC 9 229 [6,8],
  zM 10 9,
  zG 11 (.faddr 1 (.t 2)) 10 true,
  zG 12 (.load false 1 (.t 11)) 10 true,
  zG 13 (.faddr 1 (.t 3)) 10 true,
  zG 14 (.load false 1 (.t 13)) 10 true,
  zG 15 (.call 273 [(.t 12), (.t 14)]) 10 true,
  zO 16 (.pick (.t 10) (.t 15) (zB false)),
  zA 4 16]
  .ret))⟩
def ir293 : FnIr := ⟨0, 1, 41, [(2, none), (3, none)], [],
  (zs [] [] [zK 2 zE,
  zK 3 (zB false)]
  (.seq (zs [6,7,8,48] [6,7] [zM 6 0,
  zC 7 271 [6],
  zn 8 7]
  (zc 8
  (zs [9] [9] [zO 9 (.bslice [(.int .i64 0)] 0 []),
  zA 2 9,
  zK 3 (zB false)]
  .ret)
  .skip))
  (zs [10,11,12] [10,11,12] [zM 10 0,
  zl 11 10,
  zO 12 (.bslice [(.int .i64 0)] 1 [(0, (.t 11))]),
  zA 4 12]
  (.seq (zs [] [] [zK 5 (zI 0)]
  (.block 0 (.loop (.seq (zs (zr 13 4) [13,14,15] [zM 13 5,
  zM 14 0,
  zl 15 14,
  zb 16 .lss 13 15]
  (zc 16
  .skip
  (.exit 0)))
  (.seq (.block 1 (.seq (.region true (zr 19 14) (zr 19 14) [zM 19 4,
  zM 20 0,
  zM 21 5,
  zv (zp 22 2 20 21) [1,2],
  zv (zF 23 0 22) [3,1,2],
  zv (zL 24 23) [4,3,1,2],
  zM 25 0,
  zM 26 5,
  zv (zp 27 2 25 26) [6,7],
  zv (zF 28 1 27) [8,6,7],
  zv (zL 29 28) [9,8,6,7],
  zv (zl 30 29) [10,9,8,6,7],
  zv (zO 31 (.bslice [(.int .i64 0)] 2 [(0, (.t 24)), (1, (.t 30))])) [5,4,3,1,2,11,10,9,8,6,7],
  zv (zO 32 (.append 1 (.t 19) (.t 31))) [0,12,5,4,3,1,2,11,10,9,8,6,7],
  zv (zA 4 32) [13,0,12,5,4,3,1,2,11,10,9,8,6,7]])
  (zR (zr 33 7) (zr 33 7) [zM 33 4,
  zM 34 0,
  zM 35 5,
  zp 36 2 34 35,
  zF 37 1 36,
  zL 38 37,
  zO 39 (.append 1 (.t 33) (.t 38)),
  zA 4 39])))
  (zR [17,18] [17,18] [zM 17 5,
  zO 18 (.bin .add (.t 17) (zI 1)),
  zA 5 18]))))))
  (zs [40] [40] [zM 40 4,
  zA 2 40,
  zK 3 (zB true)]
  .ret)))))⟩
def ir118 : FnIr := ⟨0, 1, 11, [(2, none)], [],
  (zs [1,12] [] [zO 1 (.box (.t 0)),
  zK 2 (zB false)]
  (zs (zq 3 8 [16,20]) (zr 3 8) [zF 3 0 1,
  zL 4 3,
  zO 5 (.call 232 [(.t 4), (zI 1), (zI 9)]),
  zM 6 5,
  zG 7 (.faddr 1 (.t 1)) 6 true,
  zG 8 (.load false 1 (.t 7)) 6 true,
  zG 9 (.call 258 [(.t 8)]) 6 true,
  zO 10 (.pick (.t 6) (.t 9) (zB false)),
  zA 2 10]
  .ret))⟩
def ir294 : FnIr := ⟨0, 1, 32, [(2, none), (3, none)], [],
  (zs [] [] [zK 2 zE,
  zK 3 (zB false)]
  (.seq (zs [7,8,9,40] [7,8] [zM 7 0,
  zC 8 258 [7],
  zn 9 8]
  (zc 9
  (zs [] [] [zK 2 zE,
  zK 3 (zB false)]
  .ret)
  .skip))
  (zs [10,11,12] [10,11,12] [zM 10 0,
  zl 11 10,
  zO 12 (.bslice [(.int .i64 0)] 1 [(0, (.t 11))]),
  zA 4 12]
  (.seq (zs [13,14,15] [] [zM 13 0,
  zl 14 13,
  zO 15 (.move (zI 0))]
  (.block 0 (.loop (zs [16] [] [zb 16 .lss 15 14]
  (.seq (zc 16
  .skip
  (.exit 0))
  (.seq (.block 1 (zs [17,18,6,38] [17,18] [zp 17 2 13 15,
  zS 18 2 17,
  zO 6 (.alloc [(.int .i64 0), (.row () [])]),
  zN (.store 2 (.t 6) (.t 18))]
  (.region true (zr 19 11) (zr 19 11) [zM 19 4,
  zF 20 0 6,
  zv (zL 21 20) [1],
  zF 22 1 6,
  zv (zL 23 22) [3],
  zv (zl 24 23) [4,3],
  zv (zO 25 (.bslice [(.int .i64 0)] 2 [(0, (.t 21)), (1, (.t 24))])) [2,1,5,4,3],
  zv (zO 26 (.append 1 (.t 19) (.t 25))) [0,6,2,1,5,4,3],
  zF 27 1 6,
  zv (zL 28 27) [8],
  zv (zO 29 (.append 1 (.t 26) (.t 28))) [7,0,6,2,1,5,4,3,9,8],
  zv (zA 4 29) [10,7,0,6,2,1,5,4,3,9,8]])))
  (zR [30] [30] [zO 30 (.bin .add (.t 15) (zI 1)),
  zM 15 30])))))))
  (zs [31] [31] [zM 31 4,
  zA 2 31,
  zK 3 (zB true)]
  .ret)))))⟩
def ir152 : FnIr := ⟨0, 1, 19, [(2, none)], [],
  (zs [1,20] [] [zO 1 (.box (.t 0)),
  zK 2 zE]
  (.seq (zs [5,6,7,25] [5,6] [zS 5 2 1,
  zC 6 118 [5],
  zn 7 6]
  (zc 7
  (zs [] [] [zK 2 zE]
  .ret)
  .skip))
  (zs [9,10,11,8,12,13,30] [9,10,11,8,12,13] [zF 9 1 1,
  zL 10 9,
  zC 11 294 [10],
  zM 8 11,
  zO 12 (.extract 0 (.t 8)),
  zO 13 (.extract 1 (.t 8)),
  zA 3 12,
  zA 4 13]
  (zs (zr 14 5) (zr 14 5) [zF 14 0 1,
  zL 15 14,
  zO 16 (.bslice [(.int .i64 0)] 1 [(0, (.t 15))]),
  zM 17 3,
  zO 18 (.append 1 (.t 16) (.t 17)),
  zA 2 18]
  .ret))))⟩
def ir299 : FnIr := ⟨1, 1, 8, [(2, none)], [],
  (zs [] [] [zK 2 zE]
  (.seq (zs [3,4] [3] [zM 3 0,
  zO 4 (.bad)]
  (zc 4
  (zs [] [] [zK 2 zE]
  .ret)
  .skip))
  (zs [5,6,7] [5,6,7] [zO 5 (.bslice [(.int .i64 0)] 0 []),
  zM 6 0,
  zO 7 (.append 1 (.t 5) (.t 6)),
  zA 2 7]
  .ret)))⟩
def ir298 : FnIr := ⟨0, 1, 77, [(2, none), (3, none)], [],
  (zs [] [] [zK 2 zE,
  zK 3 (zB false)]
  (.seq (zs (zq 7 10 [91]) (zr 7 9) [zM 7 0,
  zl 8 7,
  zO 9 (.bin .eql (.t 8) (zI 0)),
  zM 10 9,
  zG 11 (.move (.t 0)) 10 false,
  zG 12 (.iaddr 1 (.t 11) (zI 0)) 10 false,
  zG 13 (.load false 1 (.t 12)) 10 false,
  zG 14 (.call 232 [(.t 13), (zI 0), (zI 6)]) 10 false,
  zG 15 (.un .not (.t 14)) 10 false,
  zO 16 (.pick (.t 10) (zB true) (.t 15))]
  (zc 16
  (zs [] [] [zK 2 zE,
  zK 3 (zB false)]
  .ret)
  .skip))
  (zs [17] [17] [zO 17 (.bslice [(.int .i64 0), (.row () [])] 0 []),
  zA 4 17,
  zK 5 (zI 1)]
  (.seq (zs (zr 18 4) [18,19] [zM 18 0,
  zO 19 (.iaddr 1 (.t 18) (zI 0)),
  zL 20 19,
  zO 21 (.move (zI 0))]
  (.block 0 (.loop (zs [22] [] [zb 22 .lss 21 20]
  (.seq (zc 22
  .skip
  (.exit 0))
  (.seq (.block 1 (.seq (zs (zq 23 20 [117]) (zr 23 19) [zM 23 0,
  zl 24 23,
  zM 25 5,
  zb 26 .sub 24 25,
  zO 27 (.bin .lss (.t 26) (zI 2)),
  zM 28 27,
  zG 29 (.move (.t 0)) 28 false,
  zG 30 (.move (.t 5)) 28 false,
  zG 31 (.bin .add (.t 30) (zI 1)) 28 false,
  zG 32 (.iaddr 1 (.t 29) (.t 31)) 28 false,
  zG 33 (.load false 1 (.t 32)) 28 false,
  zG 34 (.move (.t 0)) 28 false,
  zG 35 (.len false (.t 34)) 28 false,
  zG 36 (.move (.t 5)) 28 false,
  zG 37 (.bin .sub (.t 35) (.t 36)) 28 false,
  zG 38 (.bin .sub (.t 37) (zI 2)) 28 false,
  zG 39 (.min (zI 4) (.t 38)) 28 false,
  zG 40 (.call 232 [(.t 33), (zI 0), (.t 39)]) 28 false,
  zG 41 (.un .not (.t 40)) 28 false,
  zO 42 (.pick (.t 28) (zB true) (.t 41))]
  (zc 42
  (zs [] [] [zK 2 zE,
  zK 3 (zB false)]
  .ret)
  .skip))
  (zs (zr 43 8) (zr 43 8) [zM 43 5,
  zO 44 (.bin .add (.t 43) (zI 2)),
  zM 45 0,
  zM 46 5,
  zO 47 (.bin .add (.t 46) (zI 1)),
  zp 48 1 45 47,
  zL 49 48,
  zb 50 .add 44 49,
  zA 6 50]
  (.region true (zq 51 15 [138]) (zr 51 15) [zM 51 4,
  zM 52 0,
  zM 53 5,
  zv (zp 54 1 52 53) [1,2],
  zv (zL 55 54) [3,1,2],
  zM 56 0,
  zM 57 5,
  zv (zO 58 (.bin .add (.t 57) (zI 2))) [6],
  zM 59 6,
  zv (zO 60 (.slice 1 (.t 56) (some (.t 58)) (some (.t 59)))) [5,7,6,8],
  zv (zC 61 299 [60]) [9,5,7,6,8],
  zv (zO 62 (.build [(.int .i64 0), (.row () [])] [(0, 1, (.t 55)), (1, 1, (.t 61))])) [4,3,1,2,10,9,5,7,6,8],
  zv (zO 63 (.bslice [(.int .i64 0), (.row () [])] 1 [(0, (.t 62))])) [11,4,3,1,2,10,9,5,7,6,8],
  zv (zO 64 (.append 2 (.t 51) (.t 63))) [0,12,11,4,3,1,2,10,9,5,7,6,8],
  zM 65 6,
  zv (zA 4 64) [13,0,12,11,4,3,1,2,10,9,5,7,6,8],
  zv (zA 5 65) [14,15,13,0,12,11,4,3,1,2,10,9,5,7,6,8]]))))
  (zR [66] [66] [zO 66 (.bin .add (.t 21) (zI 1)),
  zM 21 66])))))))
  (.seq (zs (zq 67 9 [150]) (zr 67 8) [zM 67 5,
  zM 68 0,
  zl 69 68,
  zb 70 .neq 67 69,
  zM 71 70,
  zG 72 (.move (.t 4)) 71 false,
  zG 73 (.call 258 [(.t 72)]) 71 false,
  zG 74 (.un .not (.t 73)) 71 false,
  zO 75 (.pick (.t 71) (zB true) (.t 74))]
  (zc 75
  (zs [] [] [zK 2 zE,
  zK 3 (zB false)]
  .ret)
  .skip))
  (zs [76] [76] [zM 76 4,
  zA 2 76,
  zK 3 (zB true)]
  .ret))))))⟩
def ir158 : FnIr := ⟨0, 1, 50, [(2, (some (true, 2))), (3, none)], [],
  (zs [2,52] [] [zO 2 (.alloc [(.row () []), (.row () [])]),
  zK 3 (zB false)]
  (.seq (zs (zq 7 14 [68]) (zr 7 13) [zM 7 0,
  zl 8 7,
  zO 9 (.bin .eql (.t 8) (zI 0)),
  zM 10 9,
  zG 11 (.move (.t 0)) 10 false,
  zG 12 (.iaddr 1 (.t 11) (zI 0)) 10 false,
  zG 13 (.load false 1 (.t 12)) 10 false,
  zG 14 (.move (.t 0)) 10 false,
  zG 15 (.len false (.t 14)) 10 false,
  zG 16 (.bin .sub (.t 15) (zI 1)) 10 false,
  zG 17 (.min (zI 9) (.t 16)) 10 false,
  zG 18 (.call 232 [(.t 13), (zI 1), (.t 17)]) 10 false,
  zG 19 (.un .not (.t 18)) 10 false,
  zO 20 (.pick (.t 10) (zB true) (.t 19))]
  (zc 20
  (zs [21] [21] [zO 21 (.build [(.row () []), (.row () [])] []),
  zN (.store 2 (.t 2) (.t 21)),
  zK 3 (zB false)]
  .ret)
  .skip))
  (zs (zq 23 7 [22,30,31,79]) (zq 23 7 [22,30,31]) [zM 23 0,
  zM 24 0,
  zO 25 (.iaddr 1 (.t 24) (zI 0)),
  zL 26 25,
  zO 27 (.bin .add (zI 1) (.t 26)),
  zO 28 (.slice 1 (.t 23) (some (.t 27)) none),
  zC 29 298 [28],
  zM 22 29,
  zO 30 (.extract 0 (.t 22)),
  zO 31 (.extract 1 (.t 22)),
  zA 4 30,
  zA 5 31]
  (zs (zq 32 9 [6,88,56]) (zr 32 9) [zM 32 0,
  zM 33 0,
  zO 34 (.iaddr 1 (.t 33) (zI 0)),
  zL 35 34,
  zO 36 (.bin .add (zI 1) (.t 35)),
  zO 37 (.slice 1 (.t 32) (some (zI 1)) (some (.t 36))),
  zC 38 299 [37],
  zM 39 4,
  zO 40 (.build [(.row () []), (.row () [])] [(0, 1, (.t 38)), (1, 1, (.t 39))]),
  zO 6 (.alloc [(.row () []), (.row () [])]),
  zN (.store 2 (.t 6) (.t 40))]
  (.seq (zs (zq 41 7 [95]) (zr 41 6) [zM 41 5,
  zn 42 41,
  zM 43 42,
  zG 44 (.load true 2 (.t 6)) 43 false,
  zG 45 (.call 113 [(.t 44)]) 43 false,
  zG 46 (.un .not (.t 45)) 43 false,
  zO 47 (.pick (.t 43) (zB true) (.t 46))]
  (zc 47
  (zs [48] [48] [zO 48 (.build [(.row () []), (.row () [])] []),
  zN (.store 2 (.t 2) (.t 48)),
  zK 3 (zB false)]
  .ret)
  .skip))
  (zs [49] [49] [zS 49 2 6,
  zN (.store 2 (.t 2) (.t 49)),
  zK 3 (zB true)]
  .ret))))))⟩
def ir285 : FnIr := ⟨0, 2, 18, [(4, none)], [],
  (zs [] [] [zK 4 (zB false)]
  (.seq (zs [] [] [zK 5 (zI 0)]
  (.block 0 (.loop (.seq (zs (zr 6 4) [6,7,8] [zM 6 5,
  zM 7 0,
  zl 8 7,
  zb 9 .lss 6 8]
  (zc 9
  .skip
  (.exit 0)))
  (.seq (.block 1 (zs (zr 12 6) (zr 12 5) [zM 12 0,
  zM 13 5,
  zp 14 1 12 13,
  zL 15 14,
  zM 16 1,
  zb 17 .eql 15 16]
  (zc 17
  (zs [] [] [zK 4 (zB true)]
  .ret)
  .skip)))
  (zR [10,11] [10,11] [zM 10 5,
  zO 11 (.bin .add (.t 10) (zI 1)),
  zA 5 11]))))))
  (zs [] [] [zK 4 (zB false)]
  .ret)))⟩
def ir287 : FnIr := ⟨0, 2, 25, [(4, none)], [],
  (zs [] [] [zK 4 zE]
  (zs [8] [8] [zO 8 (.bslice [(.int .i64 0)] 0 []),
  zA 5 8]
  (.seq (zs [9,10,11] [] [zM 9 0,
  zl 10 9,
  zO 11 (.move (zI 0))]
  (.block 0 (.loop (zs [12] [] [zb 12 .lss 11 10]
  (.seq (zc 12
  .skip
  (.exit 0))
  (.seq (.block 1 (zs [13,14] [13,14] [zp 13 1 9 11,
  zL 14 13,
  zA 7 14]
  (zs (zq 15 4 [42]) [15,16,17] [zM 15 1,
  zM 16 7,
  zC 17 302 [15,16],
  zn 18 17]
  (zc 18
  (zR (zr 19 4) (zr 19 4) [zM 19 5,
  zM 20 7,
  zO 21 (.bslice [(.int .i64 0)] 1 [(0, (.t 20))]),
  zO 22 (.append 1 (.t 19) (.t 21)),
  zA 5 22])
  .skip))))
  (zR [23] [23] [zO 23 (.bin .add (.t 11) (zI 1)),
  zM 11 23])))))))
  (zs [24] [24] [zM 24 5,
  zA 4 24]
  .ret))))⟩
def ir288 : FnIr := ⟨0, 2, 9, [(4, none)], [],
  (zs [] [] [zK 4 (zB false)]
  (zs (zq 5 4 [16]) (zr 5 4) [zM 5 0,
  zM 6 1,
  zC 7 351 [5,6],
  zO 8 (.bin .geq (.t 7) (zI 0)),
  zA 4 8]
  .ret))⟩
def ir289 : FnIr := ⟨0, 2, 22, [(3, none)], [],
  (zs [2,24] [] [zO 2 (.box (.t 0)),
  zK 3 (zB false)]
  (zs (zq 5 5 [31]) (zr 5 5) [zF 5 1 1,
  zL 6 5,
  zF 7 0 2,
  zL 8 7,
  zC 9 290 [6,8],
  zA 4 9]
  (.seq (.region true (zq 10 12 [41]) (zr 10 12) [zM 10 4,
  zv (zO 11 (.bin .lss (.t 10) (zI 0))) [0],
  zv (zM 12 11) [1,0],
  zv (zG 13 (.faddr 1 (.t 1)) 12 false) [2,1,0],
  zv (zG 14 (.load false 1 (.t 13)) 12 false) [3,2,1,0],
  zv (zG 15 (.move (.t 4)) 12 false) [2,1,0],
  zv (zG 16 (.iaddr 2 (.t 14) (.t 15)) 12 false) [4,3,2,1,0,5],
  zv (zG 17 (.load true 2 (.t 16)) 12 false) [6,4,3,2,1,0,5],
  zv (zG 18 (.load true 2 (.t 2)) 12 false) [2,1,0],
  zv (zG 19 (.call 291 [(.t 17), (.t 18)]) 12 false) [7,6,4,3,2,1,0,5,8],
  zv (zG 20 (.un .not (.t 19)) 12 false) [9,7,6,4,3,2,1,0,5,8],
  zv (zO 21 (.pick (.t 12) (zB true) (.t 20))) [2,1,0,10,9,7,6,4,3,5,8],
  zv (zA 3 21) [11,2,1,0,10,9,7,6,4,3,5,8]])
  .ret)))⟩
def ir148 : FnIr := ⟨0, 2, 19, [(4, none)], [],
  (zs [2,3,21,22] [] [zO 2 (.box (.t 0)),
  zO 3 (.box (.t 1)),
  zK 4 (zB false)]
  (zs (zq 5 14 [28,35]) (zr 5 14) [zF 5 0 2,
  zL 6 5,
  zF 7 0 3,
  zL 8 7,
  zC 9 287 [6,8],
  zl 10 9,
  zO 11 (.bin .eql (.t 10) (zI 0)),
  zM 12 11,
  zG 13 (.faddr 1 (.t 2)) 12 true,
  zG 14 (.load false 1 (.t 13)) 12 true,
  zG 15 (.mkfn 289 [3]) 12 true,
  zG 16 (.call 288 [(.t 14), (.t 15)]) 12 true,
  zG 17 (.un .not (.t 16)) 12 true,
  zO 18 (.pick (.t 12) (.t 17) (zB false)),
  zA 4 18]
  .ret))⟩
def ir179 : FnIr := ⟨0, 1, 20, [(2, none)], [],
  (zs [] [] [zK 2 zE]
  (zs [6] [6] [zO 6 (.bslice [(.int .i64 0)] 0 []),
  zA 3 6]
  (.seq (zs [7,8,9] [] [zM 7 0,
  zl 8 7,
  zO 9 (.move (zI 0))]
  (.block 0 (.loop (zs [10] [] [zb 10 .lss 9 8]
  (.seq (zc 10
  .skip
  (.exit 0))
  (.seq (.block 1 (zs [11,12,5,25] [11,12] [zp 11 2 7 9,
  zS 12 2 11,
  zO 5 (.alloc [(.int .i64 0), (.row () [])]),
  zN (.store 2 (.t 5) (.t 12))]
  (zR (zr 13 5) (zr 13 5) [zM 13 3,
  zF 14 0 5,
  zL 15 14,
  zO 16 (.bslice [(.int .i64 0)] 1 [(0, (.t 15))]),
  zO 17 (.append 1 (.t 13) (.t 16)),
  zA 3 17])))
  (zR [18] [18] [zO 18 (.bin .add (.t 9) (zI 1)),
  zM 9 18])))))))
  (zs [19] [19] [zM 19 3,
  zA 2 19]
  .ret))))⟩
def ir150 : FnIr := ⟨0, 2, 34, [(4, none)], [],
  (zs [2,3,36,37] [] [zO 2 (.box (.t 0)),
  zO 3 (.box (.t 1)),
  zK 4 zE]
  (zs (zq 8 5 [46]) (zr 8 5) [zF 8 0 2,
  zL 9 8,
  zF 10 0 3,
  zL 11 10,
  zC 12 287 [9,11],
  zA 5 12]
  (.seq (.seq (.region true (zq 13 9 [49,52,53]) (zr 13 6) [zF 13 1 2,
  zv (zL 14 13) [0],
  zv (zC 15 179 [14]) [1,0],
  zF 16 1 3,
  zv (zL 17 16) [3],
  zv (zC 18 179 [17]) [4,3,2,1,0],
  zv (zC 19 287 [15,18]) [2,1,0,5,4,3],
  zv (zl 20 19) [6,2,1,0,5,4,3],
  zO 21 (.move (zI 0))])
  (.block 0 (.loop (zs [22] [] [zb 22 .lss 21 20]
  (.seq (zc 22
  .skip
  (.exit 0))
  (.seq (.block 1 (zs [23,24] [23,24] [zp 23 1 19 21,
  zL 24 23,
  zA 7 24]
  (zs [25,26,60] [25] [zM 25 7,
  zO 26 (.call 232 [(.t 25), (zI 0), (zI 255)])]
  (zc 26
  (zR (zr 27 5) (zr 27 5) [zM 27 5,
  zM 28 7,
  zO 29 (.bin .add (zI 1000) (.t 28)),
  zO 30 (.bslice [(.int .i64 0)] 1 [(0, (.t 29))]),
  zO 31 (.append 1 (.t 27) (.t 30)),
  zA 5 31])
  .skip))))
  (zR [32] [32] [zO 32 (.bin .add (.t 21) (zI 1)),
  zM 21 32])))))))
  (zs [33] [33] [zM 33 5,
  zA 4 33]
  .ret))))⟩
def ir337 : FnIr := ⟨0, 1, 10, [(2, none)], [],
  (zs [] [] [zK 2 (zB false)]
  (zs (zq 3 7 [14]) (zr 3 7) [zM 3 0,
  zO 4 (.call 232 [(.t 3), (zI 0), (zI 255)]),
  zM 5 4,
  zG 6 (.move (.t 0)) 5 true,
  zG 7 (.bin .rem (.t 6) (zI 16)) 5 true,
  zG 8 (.bin .eql (.t 7) (zI 10)) 5 true,
  zO 9 (.pick (.t 5) (.t 8) (zB false)),
  zA 2 9]
  .ret))⟩
def ir223 : FnIr := ⟨0, 1, 5, [(2, none)], [],
  (zs [] [] [zK 2 (zB false)]
  (zs [3,4,9] [3,4] [zM 3 0,
  zO 4 (.call 336 [(.t 3), (.f 337)]),
  zA 2 4]
  .ret))⟩
def ir303 : FnIr := ⟨0, 1, 6, [(2, none)], [],
  (zs [] [] [zK 2 (zB false)]
  (zs [3,4,5,10,11] [3,4,5] [zM 3 0,
  zC 4 179 [3],
  zC 5 223 [4],
  zA 2 5]
  .ret))⟩
def ir161 : FnIr := ⟨0, 2, 35, [(4, none)], [],
  (zs [2,3,37,38] [] [zO 2 (.box (.t 0)),
  zO 3 (.box (.t 1)),
  zK 4 (zB false)]
  (.seq (.region true (zq 5 30 [41,44,51,56,59,60,67]) (zr 5 30) [zS 5 2 2,
  zv (zC 6 113 [5]) [0],
  zv (zM 7 6) [1,0],
  zv (zG 8 (.load true 2 (.t 3)) 7 true) [2,1,0],
  zv (zG 9 (.call 118 [(.t 8)]) 7 true) [3,2,1,0],
  zv (zO 10 (.pick (.t 7) (.t 9) (zB false))) [2,1,0,4,3],
  zv (zM 11 10) [5,2,1,0,4,3],
  zv (zG 12 (.faddr 0 (.t 2)) 11 true) [6,5,2,1,0,4,3],
  zv (zG 13 (.load false 1 (.t 12)) 11 true) [7,6,5,2,1,0,4,3],
  zv (zG 14 (.faddr 0 (.t 3)) 11 true) [6,5,2,1,0,4,3],
  zv (zG 15 (.load false 1 (.t 14)) 11 true) [9,6,5,2,1,0,4,3],
  zv (zG 16 (.call 302 [(.t 13), (.t 15)]) 11 true) [8,7,6,5,2,1,0,4,3,10,9],
  zv (zO 17 (.pick (.t 11) (.t 16) (zB false))) [6,5,2,1,0,4,3,11,8,7,10,9],
  zv (zM 18 17) [12,6,5,2,1,0,4,3,11,8,7,10,9],
  zv (zG 19 (.faddr 1 (.t 3)) 18 true) [13,12,6,5,2,1,0,4,3,11,8,7,10,9],
  zv (zG 20 (.load false 1 (.t 19)) 18 true) [14,13,12,6,5,2,1,0,4,3,11,8,7,10,9],
  zv (zG 21 (.call 179 [(.t 20)]) 18 true) [15,14,13,12,6,5,2,1,0,4,3,11,8,7,10,9],
  zv (zG 22 (.faddr 1 (.t 2)) 18 true) [13,12,6,5,2,1,0,4,3,11,8,7,10,9],
  zv (zG 23 (.load false 1 (.t 22)) 18 true) [17,13,12,6,5,2,1,0,4,3,11,8,7,10,9],
  zv (zG 24 (.call 179 [(.t 23)]) 18 true) [18,17,13,12,6,5,2,1,0,4,3,11,8,7,10,9,16,15,14],
  zv (zG 25 (.call 287 [(.t 21), (.t 24)]) 18 true) [16,15,14,13,12,6,5,2,1,0,4,3,11,8,7,10,9,19,18,17],
  zv (zG 26 (.len false (.t 25)) 18 true) [20,16,15,14,13,12,6,5,2,1,0,4,3,11,8,7,10,9,19,18,17],
  zv (zG 27 (.bin .eql (.t 26) (zI 0)) 18 true) [21,20,16,15,14,13,12,6,5,2,1,0,4,3,11,8,7,10,9,19,18,17],
  zv (zO 28 (.pick (.t 18) (.t 27) (zB false))) [13,12,6,5,2,1,0,4,3,11,8,7,10,9,22,21,20,16,15,14,19,18,17],
  zv (zM 29 28) [23,13,12,6,5,2,1,0,4,3,11,8,7,10,9,22,21,20,16,15,14,19,18,17],
  zv (zG 30 (.faddr 1 (.t 3)) 29 true) [24,23,13,12,6,5,2,1,0,4,3,11,8,7,10,9,22,21,20,16,15,14,19,18,17],
  zv (zG 31 (.load false 1 (.t 30)) 29 true) [25,24,23,13,12,6,5,2,1,0,4,3,11,8,7,10,9,22,21,20,16,15,14,19,18,17],
  zv (zG 32 (.call 303 [(.t 31)]) 29 true) [26,25,24,23,13,12,6,5,2,1,0,4,3,11,8,7,10,9,22,21,20,16,15,14,19,18,17],
  zv (zG 33 (.un .not (.t 32)) 29 true) [27,26,25,24,23,13,12,6,5,2,1,0,4,3,11,8,7,10,9,22,21,20,16,15,14,19,18,17],
  zv (zO 34 (.pick (.t 29) (.t 33) (zB false))) [24,23,13,12,6,5,2,1,0,4,3,11,8,7,10,9,22,21,20,16,15,14,19,18,17,28,27,26,25],
  zv (zA 4 34) [29,24,23,13,12,6,5,2,1,0,4,3,11,8,7,10,9,22,21,20,16,15,14,19,18,17,28,27,26,25]])
  .ret))⟩
def ir355 : FnIr := ⟨2, 2, 27, [(4, none)], [],
  (zs [] [] [zK 4 zE]
  (.seq (zs [5,6] [5] [zM 5 1,
  zO 6 (.bin .lss (.t 5) (zI 0))]
  (zc 6
  (zR [7] [7] [zO 7 (.bad),
  zN (.bad)])
  .skip))
  (.seq (zs (zr 8 7) (zr 8 7) [zM 8 1,
  zM 9 0,
  zO 10 (.bad),
  zM 11 0,
  zl 12 11,
  zb 13 .sub 10 12,
  zb 14 .sub 8 13,
  zA 1 14]
  (zs [15,16] [15] [zM 15 1,
  zO 16 (.bin .gtr (.t 15) (zI 0))]
  (zc 16
  (zR (zr 17 9) (zr 17 9) [zM 17 0,
  zM 18 0,
  zO 19 (.bad),
  zO 20 (.slice 1 (.t 17) none (some (.t 19))),
  zM 21 1,
  zO 22 (.bad),
  zM 23 0,
  zl 24 23,
  zO 25 (.slice 1 (.t 22) none (some (.t 24))),
  zA 0 25])
  .skip)))
  (zs [26] [26] [zM 26 0,
  zA 4 26]
  .ret))))⟩
def ir304 : FnIr := ⟨0, 1, 36, [(2, none)], [],
  (zs [] [] [zK 2 zE]
  (zs [] [] [zK 3 (zI 0)]
  (.seq (zs [9,10,11] [] [zM 9 0,
  zl 10 9,
  zO 11 (.move (zI 0))]
  (.block 0 (.loop (zs [12] [] [zb 12 .lss 11 10]
  (.seq (zc 12
  .skip
  (.exit 0))
  (.seq (.block 1 (zs [13,14] [13,14] [zp 13 1 9 11,
  zL 14 13,
  zA 5 14]
  (zs (zr 15 4) (zr 15 4) [zM 15 3,
  zM 16 5,
  zl 17 16,
  zb 18 .add 15 17,
  zA 3 18]
  (zs [19,20] [19] [zM 19 3,
  zO 20 (.bin .lss (.t 19) (zI 0))]
  (zc 20
  (zR [21] [21] [zO 21 (.bad),
  zN (.bad)])
  .skip)))))
  (zR [22] [22] [zO 22 (.bin .add (.t 11) (zI 1)),
  zM 11 22])))))))
  (zs [23,24,60] [23,24] [zM 23 3,
  zO 24 (.call 355 [zE, (.t 23)]),
  zA 6 24]
  (.seq (zs [25,26,27] [] [zM 25 0,
  zl 26 25,
  zO 27 (.move (zI 0))]
  (.block 2 (.loop (zs [28] [] [zb 28 .lss 27 26]
  (.seq (zc 28
  .skip
  (.exit 2))
  (.seq (.block 3 (zs [29,30] [29,30] [zp 29 1 25 27,
  zL 30 29,
  zA 8 30]
  (zR [31,32,33] [31,32,33] [zM 31 6,
  zM 32 8,
  zO 33 (.append 1 (.t 31) (.t 32)),
  zA 6 33])))
  (zR [34] [34] [zO 34 (.bin .add (.t 27) (zI 1)),
  zM 27 34])))))))
  (zs [35] [35] [zM 35 6,
  zA 2 35]
  .ret))))))⟩
def ir163 : FnIr := ⟨0, 1, 23, [(2, none)], [],
  (zs [1,24] [] [zO 1 (.box (.t 0)),
  zK 2 zE]
  (.seq (zs [5,6,7,29] [5,6] [zS 5 2 1,
  zC 6 113 [5],
  zn 7 6]
  (zc 7
  (zs [] [] [zK 2 zE]
  .ret)
  .skip))
  (zs [9,10,11,8,12,13,34] [9,10,11,8,12,13] [zF 9 1 1,
  zL 10 9,
  zC 11 294 [10],
  zM 8 11,
  zO 12 (.extract 0 (.t 8)),
  zO 13 (.extract 1 (.t 8)),
  zA 3 12,
  zA 4 13]
  (zs (zq 14 9 [45]) (zr 14 9) [zF 14 0 1,
  zL 15 14,
  zl 16 15,
  zO 17 (.bslice [(.int .i64 0)] 1 [(0, (.t 16))]),
  zF 18 0 1,
  zL 19 18,
  zM 20 3,
  zO 21 (.bslice [(.row () [])] 3 [(0, (.t 17)), (1, (.t 19)), (2, (.t 20))]),
  zC 22 304 [21],
  zA 2 22]
  .ret))))⟩
def ir264 : FnIr := ⟨0, 2, 31, [(4, none)], [],
  (zs [] [] [zK 4 zE]
  (zs [8] [8] [zO 8 (.bslice [(.int .i64 0), (.row () [])] 0 []),
  zA 5 8]
  (.seq (zs [9,10,11] [] [zM 9 0,
  zl 10 9,
  zO 11 (.move (zI 0))]
  (.block 0 (.loop (zs [12] [] [zb 12 .lss 11 10]
  (.seq (zc 12
  .skip
  (.exit 0))
  (.seq (.block 1 (zs [13,14,7,38] [13,14] [zp 13 2 9 11,
  zS 14 2 13,
  zO 7 (.alloc [(.int .i64 0), (.row () [])]),
  zN (.store 2 (.t 7) (.t 14))]
  (zs (zq 15 4 [49]) [15,16,17] [zM 15 1,
  zF 16 0 7,
  zL 17 16,
  zO 18 (.callv (.t 15) [(.t 17)])]
  (zc 18
  (.region true (zr 19 10) (zr 19 10) [zM 19 5,
  zF 20 0 7,
  zv (zL 21 20) [1],
  zO 22 (.bslice [(.int .i64 0)] 0 []),
  zF 23 1 7,
  zv (zL 24 23) [4],
  zv (zO 25 (.append 1 (.t 22) (.t 24))) [3,5,4],
  zv (zO 26 (.build [(.int .i64 0), (.row () [])] [(0, 1, (.t 21)), (1, 1, (.t 25))])) [2,1,6,3,5,4],
  zv (zO 27 (.bslice [(.int .i64 0), (.row () [])] 1 [(0, (.t 26))])) [7,2,1,6,3,5,4],
  zv (zO 28 (.append 2 (.t 19) (.t 27))) [0,8,7,2,1,6,3,5,4],
  zv (zA 5 28) [9,0,8,7,2,1,6,3,5,4]])
  .skip))))
  (zR [29] [29] [zO 29 (.bin .add (.t 11) (zI 1)),
  zM 11 29])))))))
  (zs [30] [30] [zM 30 5,
  zA 4 30]
  .ret))))⟩
def ir356 : FnIr := ⟨0, 1, 6, [(2, none)], [],
  (zs [] [] [zK 2 (zB false)]
  (zs [3,4,5,10] [3,4,5] [zM 3 0,
  zC 4 337 [3],
  zn 5 4,
  zA 2 5]
  .ret))⟩
def ir308 : FnIr := ⟨0, 1, 5, [(2, none)], [],
  (zs [] [] [zK 2 zE]
  (zs [3,4,9] [3,4] [zM 3 0,
  zO 4 (.call 264 [(.t 3), (.f 356)]),
  zA 2 4]
  .ret))⟩
def ir357 : FnIr := ⟨0, 2, 7, [(3, none)], [],
  (zs [] [] [zK 3 (zB false)]
  (zs [4,5,6,13] [4,5,6] [zL 4 1,
  zM 5 0,
  zC 6 302 [4,5],
  zA 3 6]
  .ret))⟩
def ir309 : FnIr := ⟨0, 2, 8, [(4, none)], [],
  (zs [3,11] [] [zO 3 (.box (.t 1)),
  zK 4 zE]
  (zs [5,6,7,15] [5,6,7] [zM 5 0,
  zO 6 (.mkfn 357 [3]),
  zC 7 264 [5,6],
  zA 4 7]
  .ret))⟩
def ir169 : FnIr := ⟨0, 3, 28, [(6, (some (true, 2))), (7, none)], [],
  (zs [5,6,33,34] [] [zO 5 (.box (.t 2)),
  zO 6 (.alloc [(.int .i64 0), (.row () [])]),
  zK 7 (zB false)]
  (zs (zq 9 4 [40]) (zr 9 4) [zM 9 0,
  zF 10 0 5,
  zL 11 10,
  zC 12 111 [9,11],
  zA 8 12]
  (.seq (zs (zq 13 7 [42]) (zr 13 6) [zS 13 2 5,
  zC 14 113 [13],
  zn 15 14,
  zM 16 15,
  zG 17 (.move (.t 8)) 16 false,
  zG 18 (.bin .eql (.t 17) (zI 0)) 16 false,
  zO 19 (.pick (.t 16) (zB true) (.t 18))]
  (zc 19
  (zs [20] [20] [zO 20 (.build [(.int .i64 0), (.row () [])] []),
  zN (.store 2 (.t 6) (.t 20)),
  zK 7 (zB false)]
  .ret)
  .skip))
  (zs (zq 21 7 [53,54]) (zr 21 7) [zM 21 8,
  zF 22 1 5,
  zL 23 22,
  zM 24 1,
  zC 25 309 [23,24],
  zC 26 308 [25],
  zO 27 (.build [(.int .i64 0), (.row () [])] [(0, 1, (.t 21)), (1, 1, (.t 26))]),
  zN (.store 2 (.t 6) (.t 27)),
  zK 7 (zB true)]
  .ret))))⟩
def ir177 : FnIr := ⟨0, 2, 8, [(4, none)], [],
  (zs [] [] [zK 4 (zB false)]
  (zs [5,6,7,15] [5,6,7] [zM 5 0,
  zM 6 1,
  zC 7 229 [5,6],
  zA 4 7]
  .ret))⟩
def ir188 : FnIr := ⟨0, 2, 18, [(4, none)], [],
  (zs [] [] [zK 4 (zB false)]
  (.seq (zs [] [] [zK 5 (zI 0)]
  (.block 0 (.loop (.seq (zs (zr 6 4) [6,7,8] [zM 6 5,
  zM 7 0,
  zl 8 7,
  zb 9 .lss 6 8]
  (zc 9
  .skip
  (.exit 0)))
  (.seq (.block 1 (zs (zr 12 6) (zr 12 5) [zM 12 0,
  zM 13 5,
  zp 14 1 12 13,
  zL 15 14,
  zM 16 1,
  zb 17 .eql 15 16]
  (zc 17
  (zs [] [] [zK 4 (zB true)]
  .ret)
  .skip)))
  (zR [10,11] [10,11] [zM 10 5,
  zO 11 (.bin .add (.t 10) (zI 1)),
  zA 5 11]))))))
  (zs [] [] [zK 4 (zB false)]
  .ret)))⟩
def ir178 : FnIr := ⟨0, 2, 19, [(4, none)], [],
  (zs [] [] [zK 4 (zB false)]
  (.seq (zs [] [] [zK 5 (zI 0)]
  (.block 0 (.loop (.seq (zs (zr 6 4) [6,7,8] [zM 6 5,
  zM 7 0,
  zl 8 7,
  zb 9 .lss 6 8]
  (zc 9
  .skip
  (.exit 0)))
  (.seq (.block 1 (zs (zq 12 7 [36]) (zr 12 6) [zM 12 1,
  zM 13 0,
  zM 14 5,
  zp 15 1 13 14,
  zL 16 15,
  zC 17 188 [12,16],
  zn 18 17]
  (zc 18
  (zs [] [] [zK 4 (zB false)]
  .ret)
  .skip)))
  (zR [10,11] [10,11] [zM 10 5,
  zO 11 (.bin .add (.t 10) (zI 1)),
  zA 5 11]))))))
  (zs [] [] [zK 4 (zB true)]
  .ret)))⟩
def ir246 : FnIr := ⟨0, 1, 32, [(2, none)], [],
  (zs [] [] [zO 2 (.clear)]
  (zs [5,6,7] [5,6,7] [zM 5 0,
  zl 6 5,
  zO 7 (.bin .add (zI 193017) (.t 6)),
  zA 3 7]
  (.seq (zs [] [] [zK 4 (zI 0)]
  (.block 0 (.loop (.seq (zs (zr 8 8) (zr 8 7) [zM 8 4,
  zM 9 0,
  zl 10 9,
  zb 11 .lss 8 10,
  zM 12 11,
  zG 13 (.move (.t 4)) 12 true,
  zG 14 (.bin .lss (.t 13) (zI 4000)) 12 true,
  zO 15 (.pick (.t 12) (.t 14) (zB false))]
  (zc 15
  .skip
  (.exit 0)))
  (.seq (.block 1 (zR (zr 18 10) (zr 18 10) [zM 18 3,
  zO 19 (.bin .mul (.t 18) (zI 137)),
  zM 20 0,
  zM 21 4,
  zp 22 1 20 21,
  zL 23 22,
  zO 24 (.conv .i64 (.t 23)),
  zb 25 .add 19 24,
  zO 26 (.bin .add (.t 25) (zI 11)),
  zO 27 (.bin .and (.t 26) (zI 1073741823)),
  zA 3 27]))
  (zR [16,17] [16,17] [zM 16 4,
  zO 17 (.bin .add (.t 16) (zI 1)),
  zA 4 17]))))))
  (zs (zq 28 4 [63]) (zr 28 4) [zM 28 0,
  zM 29 3,
  zO 30 (.build [(.row () []), (.int .i64 0), (.int .i64 0)] [(0, 1, (.t 28)), (2, 1, (.t 29))]),
  zO 31 (.box (.t 30)),
  zA 2 31]
  .ret))))⟩
def ir345 : FnIr := ⟨0, 2, 47, [(4, none)], [],
  (zs [] [] [zK 4 zE]
  (zs [] [] [zK 5 (zI 0)]
  (.seq (.block 0 (.loop (.seq (zs (zr 6 12) (zr 6 11) [zM 6 5,
  zM 7 0,
  zl 8 7,
  zb 9 .lss 6 8,
  zM 10 9,
  zG 11 (.move (.t 0)) 10 true,
  zG 12 (.move (.t 5)) 10 true,
  zG 13 (.iaddr 1 (.t 11) (.t 12)) 10 true,
  zG 14 (.load false 1 (.t 13)) 10 true,
  zG 15 (.move (.t 1)) 10 true,
  zG 16 (.bin .lss (.t 14) (.t 15)) 10 true,
  zO 17 (.pick (.t 10) (.t 16) (zB false))]
  (zc 17
  .skip
  (.exit 0)))
  (.block 1 (zR [18,19] [18,19] [zM 18 5,
  zO 19 (.bin .add (.t 18) (zI 1)),
  zA 5 19])))))
  (.seq (zs (zr 20 12) (zr 20 11) [zM 20 5,
  zM 21 0,
  zl 22 21,
  zb 23 .lss 20 22,
  zM 24 23,
  zG 25 (.move (.t 0)) 24 true,
  zG 26 (.move (.t 5)) 24 true,
  zG 27 (.iaddr 1 (.t 25) (.t 26)) 24 true,
  zG 28 (.load false 1 (.t 27)) 24 true,
  zG 29 (.move (.t 1)) 24 true,
  zG 30 (.bin .eql (.t 28) (.t 29)) 24 true,
  zO 31 (.pick (.t 24) (.t 30) (zB false))]
  (zc 31
  (zs [32,33,34] [32,33,34] [zO 32 (.bslice [(.int .i64 0)] 0 []),
  zM 33 0,
  zO 34 (.append 1 (.t 32) (.t 33)),
  zA 4 34]
  .ret)
  .skip))
  (.seq (.region true (zr 35 12) (zr 35 12) [zO 35 (.bslice [(.int .i64 0)] 0 []),
  zM 36 0,
  zM 37 5,
  zv (zO 38 (.slice 1 (.t 36) none (some (.t 37)))) [1,2],
  zv (zO 39 (.append 1 (.t 35) (.t 38))) [0,3,1,2],
  zM 40 1,
  zv (zO 41 (.bslice [(.int .i64 0)] 1 [(0, (.t 40))])) [5],
  zv (zO 42 (.append 1 (.t 39) (.t 41))) [4,0,3,1,2,6,5],
  zM 43 0,
  zM 44 5,
  zv (zO 45 (.slice 1 (.t 43) (some (.t 44)) none)) [8,9],
  zv (zO 46 (.append 1 (.t 42) (.t 45))) [7,4,0,3,1,2,6,5,10,8,9],
  zv (zA 4 46) [11,7,4,0,3,1,2,6,5,10,8,9]])
  .ret)))))⟩
def ir3361 : FnIr := ⟨0, 1, 58, [(2, none)], [.mbox],
  (zs [] [] [zK 2 (zI 0)]
  (zs (zr 4 9) (zr 4 9) [zM 4 0,
  zM 5 0,
  zO 6 (.nilchk (.t 5)),
  zF 7 2 6,
  zL 8 7,
  zO 9 (.bin .mul (.t 8) (zI 6364136223846793005)),
  zO 10 (.bin .add (.t 9) (zI 1442695040888963407)),
  zO 11 (.nilchk (.t 4)),
  zF 12 2 11,
  zN (.store 1 (.t 12) (.t 10))]
  (.seq (.region true (zr 13 12) (zr 13 12) [zM 13 0,
  zv (zO 14 (.nilchk (.t 13))) [0],
  zv (zF 15 2 14) [1,0],
  zv (zL 16 15) [2,1,0],
  zv (zO 17 (.bin .shr (.t 16) (.c false [(.int .u64 33)]))) [3,2,1,0],
  zM 18 0,
  zv (zO 19 (.nilchk (.t 18))) [5],
  zv (zF 20 2 19) [6,5],
  zv (zL 21 20) [7,6,5],
  zv (zO 22 (.bin .shr (.t 21) (.c false [(.int .u64 47)]))) [8,7,6,5],
  zv (zb 23 .xor 17 22) [4,3,2,1,0,9,8,7,6,5],
  zv (zO 24 (.bin .and (.t 23) (zI 255))) [10,4,3,2,1,0,9,8,7,6,5],
  zv (zA 3 24) [11,10,4,3,2,1,0,9,8,7,6,5]])
  (.seq (.seq (.region true (zr 25 10) (zr 25 9) [zM 25 0,
  zv (zO 26 (.nilchk (.t 25))) [0],
  zv (zF 27 1 26) [1,0],
  zv (zL 28 27) [2,1,0],
  zM 29 0,
  zv (zO 30 (.nilchk (.t 29))) [4],
  zv (zF 31 0 30) [5,4],
  zv (zL 32 31) [6,5,4],
  zv (zl 33 32) [7,6,5,4],
  zv (zb 34 .lss 28 33) [3,2,1,0,8,7,6,5,4]])
  (zc 34
  (.seq (.region true (zr 35 14) (zr 35 14) [zM 35 3,
  zM 36 0,
  zv (zO 37 (.nilchk (.t 36))) [1],
  zv (zF 38 0 37) [2,1],
  zv (zL 39 38) [3,2,1],
  zM 40 0,
  zv (zO 41 (.nilchk (.t 40))) [5],
  zv (zF 42 1 41) [6,5],
  zv (zL 43 42) [7,6,5],
  zv (zp 44 1 39 43) [4,3,2,1,8,7,6,5],
  zv (zL 45 44) [9,4,3,2,1,8,7,6,5],
  zv (zO 46 (.conv .i64 (.t 45))) [10,9,4,3,2,1,8,7,6,5],
  zv (zb 47 .add 35 46) [0,11,10,9,4,3,2,1,8,7,6,5],
  zv (zO 48 (.bin .and (.t 47) (zI 255))) [12,0,11,10,9,4,3,2,1,8,7,6,5],
  zv (zA 3 48) [13,12,0,11,10,9,4,3,2,1,8,7,6,5]])
  (zR (zr 49 8) (zr 49 8) [zM 49 0,
  zM 50 0,
  zO 51 (.nilchk (.t 50)),
  zF 52 1 51,
  zL 53 52,
  zO 54 (.bin .add (.t 53) (zI 1)),
  zO 55 (.nilchk (.t 49)),
  zF 56 1 55,
  zN (.store 1 (.t 56) (.t 54))]))
  .skip))
  (zs [57] [57] [zM 57 3,
  zA 2 57]
  .ret)))))⟩
def ir3317 : FnIr := ⟨0, 2, 31, [(4, none)], [.mbox],
  (zs [] [] [zK 4 (zI 0)]
  (.seq (zs [8,9] [8] [zM 8 1,
  zO 9 (.bin .leq (.t 8) (zI 0))]
  (zc 9
  (zs [] [] [zK 4 (zI 0)]
  .ret)
  .skip))
  (.seq (zs [10,11] [10] [zM 10 1,
  zO 11 (.bin .leq (.t 10) (zI 256))]
  (zc 11
  (zs (zq 12 4 [44]) (zr 12 4) [zM 12 0,
  zC 13 3361 [12],
  zM 14 1,
  zb 15 .rem 13 14,
  zA 4 15]
  .ret)
  .skip))
  (zs [16,17,48] [16,17] [zM 16 0,
  zC 17 3361 [16],
  zA 5 17]
  (zs [18,19,50] [18,19] [zM 18 0,
  zC 19 3361 [18],
  zA 6 19]
  (zs [20,21,52] [20,21] [zM 20 0,
  zC 21 3361 [20],
  zA 7 21]
  (zs (zr 22 9) (zr 22 9) [zM 22 5,
  zO 23 (.bin .mul (.t 22) (zI 65536)),
  zM 24 6,
  zO 25 (.bin .mul (.t 24) (zI 256)),
  zb 26 .add 23 25,
  zM 27 7,
  zb 28 .add 26 27,
  zM 29 1,
  zb 30 .rem 28 29,
  zA 4 30]
  .ret)))))))⟩
def ir3252 : FnIr := ⟨0, 2, 12, [(4, none)], [.mbox],
  (zs [] [] [zK 4 (zI 0)]
  (zs (zq 5 7 [21]) (zr 5 7) [zM 5 1,
  zM 6 0,
  zM 7 1,
  zl 8 7,
  zC 9 3317 [6,8],
  zp 10 1 5 9,
  zL 11 10,
  zA 4 11]
  .ret))⟩
def ir3248 : FnIr := ⟨0, 1, 21, [(2, none)], [.mbox],
  (zs [] [] [zK 2 zE]
  (zs (zq 5 4 [27]) (zr 5 4) [zM 5 0,
  zO 6 (.call 3317 [(.t 5), (zI 4)]),
  zO 7 (.bin .add (zI 1) (.t 6)),
  zO 8 (.bslice [(.int .i64 0)] 1 [(0, (.t 7))]),
  zA 3 8]
  (.seq (zs [9,10,31] [9,10] [zM 9 0,
  zO 10 (.call 3317 [(.t 9), (zI 4)]),
  zA 4 10]
  (.block 0 (.loop (.seq (zs [11,12] [11] [zM 11 4,
  zO 12 (.bin .gtr (.t 11) (zI 0))]
  (zc 12
  .skip
  (.exit 0)))
  (.seq (.block 1 (zR (zq 15 5 [38,40]) (zr 15 5) [zM 15 3,
  zM 16 0,
  zO 17 (.call 3317 [(.t 16), (zI 6)]),
  zO 18 (.bin .add (zI 1) (.t 17)),
  zC 19 345 [15,18],
  zA 3 19]))
  (zR [13,14] [13,14] [zM 13 4,
  zO 14 (.bin .sub (.t 13) (zI 1)),
  zA 4 14]))))))
  (zs [20] [20] [zM 20 3,
  zA 2 20]
  .ret))))⟩
def ir3344 : FnIr := ⟨0, 1, 41, [(2, none)], [.mbox],
  (zs [] [] [zK 2 zE]
  (zs [7] [7] [zO 7 (.bslice [(.int .i64 0), (.row () [])] 0 []),
  zA 3 7]
  (.seq (zs [8,9,50] [8,9] [zM 8 0,
  zO 9 (.call 3317 [(.t 8), (zI 6)]),
  zA 4 9]
  (.block 0 (.loop (.seq (zs [10,11] [10] [zM 10 4,
  zO 11 (.bin .gtr (.t 10) (zI 0))]
  (zc 11
  .skip
  (.exit 0)))
  (.seq (.block 1 (zs (zq 14 4 [5,57,46]) (zr 14 4) [zM 14 0,
  zO 15 (.bslice [(.int .i64 0)] 8 [(0, (zI 1)), (1, (zI 2)), (2, (zI 3)), (3, (zI 10)), (4, (zI 26)), (5, (zI 40)), (6, (zI 42)), (7, (zI 200))]),
  zC 16 3252 [14,15],
  zO 17 (.build [(.int .i64 0), (.row () [])] [(0, 1, (.t 16))]),
  zO 5 (.alloc [(.int .i64 0), (.row () [])]),
  zN (.store 2 (.t 5) (.t 17))]
  (.seq (zs [18,19,60] [18,19] [zM 18 0,
  zO 19 (.call 3317 [(.t 18), (zI 4)]),
  zA 6 19]
  (.block 2 (.loop (.seq (zs [20,21] [20] [zM 20 6,
  zO 21 (.bin .gtr (.t 20) (zI 0))]
  (zc 21
  .skip
  (.exit 2)))
  (.seq (.block 3 (.region true (zq 24 7 [68]) (zr 24 7) [zF 24 1 5,
  zv (zL 25 24) [0],
  zM 26 0,
  zv (zO 27 (.call 3317 [(.t 26), (zI 256)])) [2],
  zv (zO 28 (.bslice [(.int .i64 0)] 1 [(0, (.t 27))])) [3,2],
  zv (zO 29 (.append 1 (.t 25) (.t 28))) [1,0,4,3,2],
  zv (zF 30 1 5) [0,1,2,3,4,5],
  zv (zN (.store 1 (.t 30) (.t 29))) [6,0,1,2,3,4,5]]))
  (zR [22,23] [22,23] [zM 22 6,
  zO 23 (.bin .sub (.t 22) (zI 1)),
  zA 6 23]))))))
  (zs (zq 31 5 [75]) (zr 31 4) [zM 31 3,
  zF 32 0 5,
  zL 33 32,
  zC 34 286 [31,33],
  zO 35 (.bin .lss (.t 34) (zI 0))]
  (zc 35
  (zR (zr 36 4) (zr 36 4) [zM 36 3,
  zS 37 2 5,
  zO 38 (.bslice [(.int .i64 0), (.row () [])] 1 [(0, (.t 37))]),
  zO 39 (.append 2 (.t 36) (.t 38)),
  zA 3 39])
  .skip)))))
  (zR [12,13] [12,13] [zM 12 4,
  zO 13 (.bin .sub (.t 12) (zI 1)),
  zA 4 13]))))))
  (zs [40] [40] [zM 40 3,
  zA 2 40]
  .ret))))⟩
def ir3247 : FnIr := ⟨0, 1, 8, [(2, (some (true, 2)))], [.mbox],
  (zs [2,10] [] [zO 2 (.alloc [(.row () []), (.row () [])])]
  (zs (zq 3 5 [12,14]) (zr 3 5) [zM 3 0,
  zC 4 3248 [3],
  zM 5 0,
  zC 6 3344 [5],
  zO 7 (.build [(.row () []), (.row () [])] [(0, 1, (.t 4)), (1, 1, (.t 6))]),
  zN (.store 2 (.t 2) (.t 7))]
  .ret))⟩
def ir3315 : FnIr := ⟨0, 1, 27, [(2, none)], [.mbox],
  (zs [] [] [zK 2 zE]
  (zs [4,5,32] [4,5] [zM 4 0,
  zC 5 3248 [4],
  zA 3 5]
  (.seq (zs [6,7,34] [6] [zM 6 0,
  zO 7 (.call 3317 [(.t 6), (zI 9)])]
  (.block 0 (zs [9] [9] [zO 9 (.bin .eql (.t 7) (zI 0)),
  zA 8 9]
  (zc 8
  (zR (zq 10 5 [40]) (zr 10 5) [zM 10 3,
  zM 11 0,
  zO 12 (.bslice [(.int .i64 0)] 4 [(0, (zI 0)), (1, (zI (-1))), (2, (zI 9)), (3, (zI 10))]),
  zC 13 3252 [11,12],
  zO 14 (.iaddr 1 (.t 10) (zI 0)),
  zN (.rstore 1 (.t 14) (.t 13))])
  (zs [16] [16] [zO 16 (.bin .eql (.t 7) (zI 1)),
  zA 15 16]
  (zc 15
  (zR (zr 17 6) (zr 17 6) [zM 17 3,
  zM 18 3,
  zO 19 (.iaddr 1 (.t 18) (zI 0)),
  zL 20 19,
  zO 21 (.bslice [(.int .i64 0)] 1 [(0, (.t 20))]),
  zO 22 (.append 1 (.t 17) (.t 21)),
  zA 3 22])
  (zs [24] [24] [zO 24 (.bin .eql (.t 7) (zI 2)),
  zA 23 24]
  (zc 23
  (zR [25] [25] [zO 25 (.bslice [(.int .i64 0)] 0 []),
  zA 3 25])
  .skip))))))))
  (zs [26] [26] [zM 26 3,
  zA 2 26]
  .ret))))⟩
def ir3316 : FnIr := ⟨0, 1, 60, [(2, none)], [.mbox],
  (zs [] [] [zK 2 zE]
  (zs [5,6,66] [5,6] [zM 5 0,
  zC 6 3344 [5],
  zA 3 6]
  (.seq (zs [7,8,9] [7,8] [zM 7 3,
  zl 8 7,
  zO 9 (.bin .eql (.t 8) (zI 0))]
  (zc 9
  (zs [10] [10] [zM 10 3,
  zA 2 10]
  .ret)
  .skip))
  (zs (zq 11 4 [74]) (zr 11 4) [zM 11 0,
  zM 12 3,
  zl 13 12,
  zC 14 3317 [11,13],
  zA 4 14]
  (.seq (zs [15,16,76] [15] [zM 15 0,
  zO 16 (.call 3317 [(.t 15), (zI 9)])]
  (.block 0 (zs [18] [18] [zO 18 (.bin .eql (.t 16) (zI 0)),
  zA 17 18]
  (zc 17
  (zR (zq 19 7 [83]) (zr 19 7) [zM 19 3,
  zM 20 4,
  zM 21 0,
  zO 22 (.bslice [(.int .i64 0)] 4 [(0, (zI (-1))), (1, (zI 0)), (2, (zI 255)), (3, (zI 256))]),
  zC 23 3252 [21,22],
  zp 24 2 19 20,
  zF 25 0 24,
  zN (.rstore 1 (.t 25) (.t 23))])
  (zs [27] [27] [zO 27 (.bin .eql (.t 16) (zI 1)),
  zA 26 27]
  (zc 26
  (.region true (zq 28 14 [97]) (zr 28 14) [zM 28 3,
  zM 29 4,
  zM 30 3,
  zM 31 4,
  zv (zp 32 2 30 31) [2,3],
  zv (zF 33 1 32) [4,2,3],
  zv (zL 34 33) [5,4,2,3],
  zM 35 0,
  zO 36 (.bslice [(.int .i64 0)] 3 [(0, (zI (-1))), (1, (zI 255)), (2, (zI 256))]),
  zv (zC 37 3252 [35,36]) [7,8],
  zv (zO 38 (.bslice [(.int .i64 0)] 1 [(0, (.t 37))])) [9,7,8],
  zv (zO 39 (.append 1 (.t 34) (.t 38))) [6,5,4,2,3,10,9,7,8],
  zv (zp 40 2 28 29) [0,1,2,3,4,5,6,7,8,9,10,11],
  zv (zF 41 1 40) [12,0,1,2,3,4,5,6,7,8,9,10,11],
  zv (zN (.rstore 1 (.t 41) (.t 39))) [13,12,0,1,2,3,4,5,6,7,8,9,10,11]])
  (zs [43] [43] [zO 43 (.bin .eql (.t 16) (zI 2)),
  zA 42 43]
  (zc 42
  (zR (zr 44 5) (zr 44 5) [zM 44 3,
  zM 45 4,
  zO 46 (.bslice [(.int .i64 0)] 5 [(0, (zI 1)), (1, (zI 2)), (2, (zI 3)), (3, (zI 4)), (4, (zI 5))]),
  zp 47 2 44 45,
  zF 48 1 47,
  zN (.rstore 1 (.t 48) (.t 46))])
  (zs [50] [50] [zO 50 (.bin .eql (.t 16) (zI 3)),
  zA 49 50]
  (zc 49
  (zR (zr 51 8) (zr 51 8) [zM 51 3,
  zM 52 3,
  zO 53 (.iaddr 2 (.t 52) (zI 0)),
  zF 54 0 53,
  zL 55 54,
  zO 56 (.build [(.int .i64 0), (.row () [])] [(0, 1, (.t 55))]),
  zO 57 (.bslice [(.int .i64 0), (.row () [])] 1 [(0, (.t 56))]),
  zO 58 (.append 2 (.t 51) (.t 57)),
  zA 3 58])
  .skip))))))))))
  (zs [59] [59] [zM 59 3,
  zA 2 59]
  .ret))))))⟩
def ir3251 : FnIr := ⟨0, 1, 19, [(2, (some (true, 2)))], [.mbox],
  (zs [2,21] [] [zO 2 (.alloc [(.row () []), (.row () [])])]
  (zs [4,5,3,24,22] [4,5] [zM 4 0,
  zC 5 3247 [4],
  zO 3 (.alloc [(.row () []), (.row () [])]),
  zN (.store 2 (.t 3) (.t 5))]
  (.seq (zs [6,7,26] [6] [zM 6 0,
  zO 7 (.call 3317 [(.t 6), (zI 6)])]
  (.block 0 (zs [9] [9] [zO 9 (.bin .eql (.t 7) (zI 0)),
  zA 8 9]
  (zc 8
  (zR [10,11,12,30] [10,11,12] [zM 10 0,
  zC 11 3315 [10],
  zF 12 0 3,
  zN (.store 1 (.t 12) (.t 11))])
  (zs [14] [14] [zO 14 (.bin .eql (.t 7) (zI 1)),
  zA 13 14]
  (zc 13
  (zR [15,16,17,35] [15,16,17] [zM 15 0,
  zC 16 3316 [15],
  zF 17 1 3,
  zN (.store 1 (.t 17) (.t 16))])
  .skip))))))
  (zs [18] [18] [zS 18 2 3,
  zN (.store 2 (.t 2) (.t 18))]
  .ret))))⟩
def ir3250 : FnIr := ⟨0, 2, 9, [(4, none)], [.mbox],
  (zs [] [] [zK 4 (zB false)]
  (zs (zq 5 4 [16]) (zr 5 4) [zM 5 0,
  zM 6 1,
  zC 7 3317 [5,6],
  zO 8 (.bin .eql (.t 7) (zI 0)),
  zA 4 8]
  .ret))⟩
def ir318 : FnIr := ⟨0, 1, 8, [(2, (some (true, 2)))], [],
  (zs [2,10] [] [zO 2 (.alloc [(.row () []), (.row () [])])]
  (zs [4,5,13] [4,5] [zM 4 0,
  zC 5 246 [4],
  zA 3 5]
  (zs [6,7,15] [6,7] [zM 6 3,
  zC 7 3251 [6],
  zN (.store 2 (.t 2) (.t 7))]
  .ret)))⟩
def ir193 : FnIr := ⟨0, 1, 5, [(2, (some (true, 2)))], [],
  (zs [2,7] [] [zO 2 (.alloc [(.row () []), (.row () [])])]
  (zs [3,4,9] [3,4] [zM 3 0,
  zC 4 318 [3],
  zN (.store 2 (.t 2) (.t 4))]
  .ret))⟩
def ir162 : FnIr := ⟨0, 1, 24, [(2, none)], [],
  (zs [1,25] [] [zO 1 (.box (.t 0)),
  zK 2 zE]
  (.seq (zs [5,6,7,30] [5,6] [zS 5 2 1,
  zC 6 142 [5],
  zn 7 6]
  (zc 7
  (zs [8] [8] [zO 8 (.bslice [(.int .i64 0)] 0 []),
  zA 2 8]
  .ret)
  .skip))
  (zs [10,11,12,9,13,14,36] [10,11,12,9,13,14] [zF 10 1 1,
  zL 11 10,
  zC 12 293 [11],
  zM 9 12,
  zO 13 (.extract 0 (.t 9)),
  zO 14 (.extract 1 (.t 9)),
  zA 3 13,
  zA 4 14]
  (zs (zr 15 9) (zr 15 9) [zF 15 0 1,
  zL 16 15,
  zl 17 16,
  zO 18 (.bslice [(.int .i64 0)] 1 [(0, (.t 17))]),
  zF 19 0 1,
  zL 20 19,
  zO 21 (.append 1 (.t 18) (.t 20)),
  zM 22 3,
  zO 23 (.append 1 (.t 21) (.t 22)),
  zA 2 23]
  .ret))))⟩
def ir68 : FnIr := ⟨0, 1, 28, [(2, none)], [],
  (zs [1,29] [] [zO 1 (.box (.t 0)),
  zK 2 (zB false)]
  (zs (zq 3 25 [33,49,54]) (zr 3 25) [zF 3 0 1,
  zL 4 3,
  zO 5 (.call 230 [(.t 4), (zI 0), (zI 9)]),
  zM 6 5,
  zG 7 (.faddr 1 (.t 1)) 6 true,
  zG 8 (.load false 1 (.t 7)) 6 true,
  zG 9 (.len false (.t 8)) 6 true,
  zG 10 (.bin .leq (.t 9) (zI 6)) 6 true,
  zO 11 (.pick (.t 6) (.t 10) (zB false)),
  zM 12 11,
  zG 13 (.faddr 2 (.t 1)) 12 true,
  zG 14 (.load false 1 (.t 13)) 12 true,
  zG 15 (.len false (.t 14)) 12 true,
  zG 16 (.bin .leq (.t 15) (zI 6)) 12 true,
  zO 17 (.pick (.t 12) (.t 16) (zB false)),
  zM 18 17,
  zG 19 (.faddr 1 (.t 1)) 18 true,
  zG 20 (.load false 1 (.t 19)) 18 true,
  zG 21 (.call 231 [(.t 20)]) 18 true,
  zO 22 (.pick (.t 18) (.t 21) (zB false)),
  zM 23 22,
  zG 24 (.faddr 2 (.t 1)) 23 true,
  zG 25 (.load false 1 (.t 24)) 23 true,
  zG 26 (.call 231 [(.t 25)]) 23 true,
  zO 27 (.pick (.t 23) (.t 26) (zB false)),
  zA 2 27]
  .ret))⟩
def ir57 : FnIr := ⟨0, 1, 27, [(2, none)], [],
  (zs [1,28] [] [zO 1 (.box (.t 0)),
  zK 2 (zB false)]
  (zs (zq 3 24 [31]) (zr 3 24) [zS 3 4 1,
  zC 4 68 [3],
  zM 5 4,
  zG 6 (.faddr 0 (.t 1)) 5 true,
  zG 7 (.load false 1 (.t 6)) 5 true,
  zG 8 (.bin .eql (.t 7) (zI 0)) 5 true,
  zO 9 (.pick (.t 5) (.t 8) (zB false)),
  zM 10 9,
  zG 11 (.faddr 1 (.t 1)) 10 true,
  zG 12 (.load false 1 (.t 11)) 10 true,
  zG 13 (.len false (.t 12)) 10 true,
  zG 14 (.bin .eql (.t 13) (zI 0)) 10 true,
  zO 15 (.pick (.t 10) (.t 14) (zB false)),
  zM 16 15,
  zG 17 (.faddr 2 (.t 1)) 16 true,
  zG 18 (.load false 1 (.t 17)) 16 true,
  zG 19 (.len false (.t 18)) 16 true,
  zG 20 (.bin .eql (.t 19) (zI 0)) 16 true,
  zO 21 (.pick (.t 16) (.t 20) (zB false)),
  zM 22 21,
  zG 23 (.faddr 3 (.t 1)) 22 true,
  zG 24 (.load false 1 (.t 23)) 22 true,
  zG 25 (.un .not (.t 24)) 22 true,
  zO 26 (.pick (.t 22) (.t 25) (zB false)),
  zA 2 26]
  .ret))⟩
def ir102 : FnIr := ⟨0, 1, 19, [(2, none)], [],
  (zs [] [] [zK 2 (zB false)]
  (.seq (zs [] [] [zK 3 (zI 0)]
  (.block 0 (.loop (.seq (zs (zr 4 4) [4,5,6] [zM 4 3,
  zM 5 0,
  zl 6 5,
  zb 7 .lss 4 6]
  (zc 7
  .skip
  (.exit 0)))
  (.seq (.block 1 (zs (zq 10 6 [33]) (zr 10 5) [zM 10 0,
  zM 11 3,
  zp 12 4 10 11,
  zS 13 4 12,
  zC 14 57 [13],
  zn 15 14]
  (zc 15
  (zs [] [] [zK 2 (zB false)]
  .ret)
  .skip)))
  (zR [8,9] [8,9] [zM 8 3,
  zO 9 (.bin .add (.t 8) (zI 1)),
  zA 3 9]))))))
  (zs [16,17,18] [16,17,18] [zM 16 0,
  zl 17 16,
  zO 18 (.bin .leq (.t 17) (zI 4)),
  zA 2 18]
  .ret)))⟩
def ir164 : FnIr := ⟨0, 3, 83, [(6, (some (true, 2))), (7, none)], [],
  (zs [3,6,86,89] [] [zO 3 (.box (.t 0)),
  zO 6 (.alloc [(.row () []), (.row () [])]),
  zK 7 (zB false)]
  (.seq (zs [11,12,13,95] [11,12] [zS 11 2 3,
  zC 12 142 [11],
  zn 13 12]
  (zc 13
  (zs [14] [14] [zO 14 (.build [(.row () []), (.row () [])] []),
  zN (.store 2 (.t 6) (.t 14)),
  zK 7 (zB false)]
  .ret)
  .skip))
  (zs [15,8,91] [15] [zO 15 (.build [(.row () []), (.row () [])] []),
  zO 8 (.alloc [(.row () []), (.row () [])]),
  zN (.store 2 (.t 8) (.t 15))]
  (.seq (zs [] [] [zK 9 (zI 0)]
  (.block 0 (.loop (.seq (zs (zr 16 5) (zr 16 4) [zM 16 9,
  zF 17 0 3,
  zL 18 17,
  zl 19 18,
  zb 20 .lss 16 19]
  (zc 20
  .skip
  (.exit 0)))
  (.seq (.block 1 (zs (zq 23 8 [112]) (zr 23 7) [zM 23 1,
  zF 24 0 3,
  zL 25 24,
  zM 26 9,
  zp 27 1 25 26,
  zL 28 27,
  zC 29 285 [23,28],
  zn 30 29]
  (zc 30
  (.region true (zr 31 10) (zr 31 10) [zF 31 0 8,
  zv (zL 32 31) [0],
  zF 33 0 3,
  zv (zL 34 33) [2],
  zM 35 9,
  zv (zp 36 1 34 35) [3,2,4],
  zv (zL 37 36) [5,3,2,4],
  zv (zO 38 (.bslice [(.int .i64 0)] 1 [(0, (.t 37))])) [6,5,3,2,4],
  zv (zO 39 (.append 1 (.t 32) (.t 38))) [1,0,7,6,5,3,2,4],
  zv (zF 40 0 8) [0,1,2,3,4,5,6,7,8],
  zv (zN (.store 1 (.t 40) (.t 39))) [9,0,1,2,3,4,5,6,7,8]])
  .skip)))
  (zR [21,22] [21,22] [zM 21 9,
  zO 22 (.bin .add (.t 21) (zI 1)),
  zA 9 22]))))))
  (.seq (zs [] [] [zK 10 (zI 0)]
  (.block 2 (.loop (.seq (zs (zr 41 5) (zr 41 4) [zM 41 10,
  zF 42 1 3,
  zL 43 42,
  zl 44 43,
  zb 45 .lss 41 44]
  (zc 45
  .skip
  (.exit 2)))
  (.seq (.block 3 (zs (zq 48 9 [138]) (zr 48 8) [zM 48 2,
  zF 49 1 3,
  zL 50 49,
  zM 51 10,
  zp 52 2 50 51,
  zF 53 0 52,
  zL 54 53,
  zC 55 285 [48,54],
  zn 56 55]
  (zc 56
  (.region true (zr 57 20) (zr 57 20) [zF 57 1 8,
  zv (zL 58 57) [0],
  zF 59 1 3,
  zv (zL 60 59) [2],
  zM 61 10,
  zv (zp 62 2 60 61) [3,2,4],
  zv (zF 63 0 62) [5,3,2,4],
  zv (zL 64 63) [6,5,3,2,4],
  zO 65 (.bslice [(.int .i64 0)] 0 []),
  zF 66 1 3,
  zv (zL 67 66) [9],
  zM 68 10,
  zv (zp 69 2 67 68) [10,9,11],
  zv (zF 70 1 69) [12,10,9,11],
  zv (zL 71 70) [13,12,10,9,11],
  zv (zO 72 (.append 1 (.t 65) (.t 71))) [8,14,13,12,10,9,11],
  zv (zO 73 (.build [(.int .i64 0), (.row () [])] [(0, 1, (.t 64)), (1, 1, (.t 72))])) [7,6,5,3,2,4,15,8,14,13,12,10,9,11],
  zv (zO 74 (.bslice [(.int .i64 0), (.row () [])] 1 [(0, (.t 73))])) [16,7,6,5,3,2,4,15,8,14,13,12,10,9,11],
  zv (zO 75 (.append 2 (.t 58) (.t 74))) [1,0,17,16,7,6,5,3,2,4,15,8,14,13,12,10,9,11],
  zv (zF 76 1 8) [0,1,2,3,4,5,6,7,8,9,10,11,12,13,14,15,16,17,18],
  zv (zN (.store 1 (.t 76) (.t 75))) [19,0,1,2,3,4,5,6,7,8,9,10,11,12,13,14,15,16,17,18]])
  .skip)))
  (zR [46,47] [46,47] [zM 46 10,
  zO 47 (.bin .add (.t 46) (zI 1)),
  zA 10 47]))))))
  (.seq (zs (zr 77 4) [77,78,79] [zF 77 0 8,
  zL 78 77,
  zl 79 78,
  zO 80 (.bin .eql (.t 79) (zI 0))]
  (zc 80
  (zs [81] [81] [zO 81 (.build [(.row () []), (.row () [])] []),
  zN (.store 2 (.t 6) (.t 81)),
  zK 7 (zB false)]
  .ret)
  .skip))
  (zs [82] [82] [zS 82 2 8,
  zN (.store 2 (.t 6) (.t 82)),
  zK 7 (zB true)]
  .ret)))))))⟩
def ir194 : FnIr := ⟨0, 1, 38, [(2, none)], [],
  (zs [] [] [zK 2 zE]
  (zs [5,6,44] [5,6] [zM 5 0,
  zC 6 246 [5],
  zA 3 6]
  (zs [7,8,9,46,47] [7,8,9] [zM 7 3,
  zC 8 3247 [7],
  zC 9 162 [8],
  zA 4 9]
  (.seq (zs [10,11,49] [10] [zM 10 3,
  zO 11 (.call 3317 [(.t 10), (zI 7)])]
  (.block 0 (zs [13] [13] [zO 13 (.bin .eql (.t 11) (zI 0)),
  zA 12 13]
  (zc 12
  (zR (zq 14 5 [54]) (zr 14 5) [zM 14 4,
  zM 15 3,
  zO 16 (.call 3317 [(.t 15), (zI 3)]),
  zO 17 (.bslice [(.int .i64 0)] 1 [(0, (.t 16))]),
  zO 18 (.append 1 (.t 14) (.t 17)),
  zA 4 18])
  (zs [20] [20] [zO 20 (.bin .eql (.t 11) (zI 1)),
  zA 19 20]
  (zc 19
  (zR (zr 21 5) (zr 21 5) [zM 21 4,
  zM 22 4,
  zl 23 22,
  zO 24 (.bin .sub (.t 23) (zI 1)),
  zO 25 (.slice 1 (.t 21) none (some (.t 24))),
  zA 4 25])
  (zs [27] [27] [zO 27 (.bin .eql (.t 11) (zI 2)),
  zA 26 27]
  (zc 26
  (zR (zq 28 9 [70,73]) (zr 28 9) [zM 28 4,
  zM 29 3,
  zM 30 4,
  zl 31 30,
  zC 32 3317 [29,31],
  zM 33 3,
  zO 34 (.bslice [(.int .i64 0)] 8 [(0, (zI 0)), (1, (zI 1)), (2, (zI 2)), (3, (zI 9)), (4, (zI 255)), (5, (zI 256)), (6, (zI (-1))), (7, (zI 9223372036854775807))]),
  zC 35 3252 [33,34],
  zp 36 1 28 32,
  zN (.rstore 1 (.t 36) (.t 35))])
  .skip))))))))
  (zs [37] [37] [zM 37 4,
  zA 2 37]
  .ret)))))⟩
def ir3249 : FnIr := ⟨0, 1, 18, [(2, none)], [.mbox],
  (zs [] [] [zK 2 zE]
  (zs [5] [5] [zO 5 (.bslice [(.int .i64 0)] 0 []),
  zA 3 5]
  (.seq (zs [6,7,25] [6,7] [zM 6 0,
  zO 7 (.call 3317 [(.t 6), (zI 5)]),
  zA 4 7]
  (.block 0 (.loop (.seq (zs [8,9] [8] [zM 8 4,
  zO 9 (.bin .gtr (.t 8) (zI 0))]
  (zc 9
  .skip
  (.exit 0)))
  (.seq (.block 1 (zR (zq 12 5 [33,34]) (zr 12 5) [zM 12 3,
  zM 13 0,
  zO 14 (.bslice [(.int .i64 0)] 6 [(0, (zI 1)), (1, (zI 2)), (2, (zI 3)), (3, (zI 10)), (4, (zI 40)), (5, (zI 200))]),
  zC 15 3252 [13,14],
  zC 16 345 [12,15],
  zA 3 16]))
  (zR [10,11] [10,11] [zM 10 4,
  zO 11 (.bin .sub (.t 10) (zI 1)),
  zA 4 11]))))))
  (zs [17] [17] [zM 17 3,
  zA 2 17]
  .ret))))⟩
def ir195 : FnIr := ⟨0, 1, 18, [(2, none), (3, none), (4, (some (true, 2)))], [],
  (zs [4,22] [] [zK 2 zE,
  zK 3 zE,
  zO 4 (.alloc [(.row () []), (.row () [])])]
  (zs [8,9,27] [8,9] [zM 8 0,
  zC 9 246 [8],
  zA 5 9]
  (zs [10,11,29] [10,11] [zM 10 5,
  zC 11 3315 [10],
  zA 6 11]
  (zs [12,13,31] [12,13] [zM 12 5,
  zC 13 3249 [12],
  zA 7 13]
  (zs (zq 14 4 [35]) (zr 14 4) [zM 14 6,
  zM 15 7,
  zM 16 5,
  zC 17 3251 [16],
  zA 2 14,
  zA 3 15,
  zN (.store 2 (.t 4) (.t 17))]
  .ret)))))⟩
def ir43 : FnIr := ⟨0, 1, 109, [(2, none)], [],
  (zs [] [] [zK 2 (zB false)]
  (.seq (zs [15,16,125] [15] [zM 15 0,
  zC 16 108 [15]]
  (zc 16
  (zs [] [] [zK 2 (zB true)]
  .ret)
  .skip))
  (zs [17,18,3,127,112] [17,18] [zM 17 0,
  zC 18 193 [17],
  zO 3 (.alloc [(.row () []), (.row () [])]),
  zN (.store 2 (.t 3) (.t 18))]
  (zs [19,20,129] [19,20] [zS 19 2 3,
  zC 20 163 [19],
  zA 4 20]
  (zs [22,23,21,24,25,5,132,114] [22,23,21,24,25] [zM 22 4,
  zC 23 158 [22],
  zM 21 23,
  zO 24 (.extract 0 (.t 21)),
  zO 25 (.extract 1 (.t 21)),
  zO 5 (.alloc [(.row () []), (.row () [])]),
  zN (.store 2 (.t 5) (.t 24)),
  zA 6 25]
  (.seq (zs (zq 26 19 [137,142,150]) (zr 26 18) [zM 26 6,
  zS 27 2 3,
  zC 28 113 [27],
  zO 29 (.beq true (.t 26) (.t 28)),
  zM 30 29,
  zG 31 (.move (.t 6)) 30 false,
  zG 32 (.load true 2 (.t 3)) 30 false,
  zG 33 (.call 142 [(.t 32)]) 30 false,
  zG 34 (.beq true (.t 31) (.t 33)) 30 false,
  zO 35 (.pick (.t 30) (zB true) (.t 34)),
  zM 36 35,
  zG 37 (.move (.t 6)) 36 false,
  zG 38 (.move (.t 37)) 36 false,
  zG 39 (.load true 2 (.t 5)) 38 true,
  zG 40 (.load true 2 (.t 3)) 38 true,
  zG 41 (.call 131 [(.t 39), (.t 40)]) 38 true,
  zG 42 (.un .not (.t 41)) 38 true,
  zG 43 (.pick (.t 38) (.t 42) (zB false)) 36 false,
  zO 44 (.pick (.t 36) (zB true) (.t 43))]
  (zc 44
  (zs [] [] [zK 2 (zB false)]
  .ret)
  .skip))
  (zs [45,46,155] [45,46] [zM 45 0,
  zC 46 194 [45],
  zA 7 46]
  (zs [48,49,47,50,51,8,158,117] [48,49,47,50,51] [zM 48 7,
  zC 49 158 [48],
  zM 47 49,
  zO 50 (.extract 0 (.t 47)),
  zO 51 (.extract 1 (.t 47)),
  zO 8 (.alloc [(.row () []), (.row () [])]),
  zN (.store 2 (.t 8) (.t 50)),
  zA 9 51]
  (.seq (zs (zq 52 8 [164,166]) (zr 52 7) [zM 52 9,
  zM 53 52,
  zG 54 (.load true 2 (.t 8)) 53 true,
  zG 55 (.call 163 [(.t 54)]) 53 true,
  zG 56 (.move (.t 7)) 53 true,
  zG 57 (.call 177 [(.t 55), (.t 56)]) 53 true,
  zG 58 (.un .not (.t 57)) 53 true,
  zO 59 (.pick (.t 53) (.t 58) (zB false))]
  (zc 59
  (zs [] [] [zK 2 (zB false)]
  .ret)
  .skip))
  (zs [61,62,60,63,64,65,12,171,121] [61,62,60,63,64,65] [zM 61 0,
  zC 62 195 [61],
  zM 60 62,
  zO 63 (.extract 0 (.t 60)),
  zO 64 (.extract 1 (.t 60)),
  zO 65 (.extract 2 (.t 60)),
  zO 12 (.alloc [(.row () []), (.row () [])]),
  zA 10 63,
  zA 11 64,
  zN (.store 2 (.t 12) (.t 65))]
  (zs (zq 67 4 [66,71,72,13,179,122]) (zq 67 4 [66,71,72]) [zM 67 10,
  zM 68 11,
  zS 69 2 12,
  zC 70 169 [67,68,69],
  zM 66 70,
  zO 71 (.extract 0 (.t 66)),
  zO 72 (.extract 1 (.t 66)),
  zO 13 (.alloc [(.int .i64 0), (.row () [])]),
  zN (.store 2 (.t 13) (.t 71)),
  zA 14 72]
  (.seq (zs [73,74] [73] [zM 73 14,
  zn 74 73]
  (zc 74
  (zs (zr 75 9) (zr 75 9) [zF 75 0 13,
  zL 76 75,
  zO 77 (.bin .eql (.t 76) (zI 0)),
  zM 78 77,
  zG 79 (.faddr 1 (.t 13)) 78 true,
  zG 80 (.load false 1 (.t 79)) 78 true,
  zG 81 (.len false (.t 80)) 78 true,
  zG 82 (.bin .eql (.t 81) (zI 0)) 78 true,
  zO 83 (.pick (.t 78) (.t 82) (zB false)),
  zA 2 83]
  .ret)
  .skip))
  (.seq (.region true (zq 84 25 [195,202,208,210,214]) (zr 84 25) [zS 84 2 12,
  zS 85 2 13,
  zv (zC 86 161 [84,85]) [0,1],
  zv (zM 87 86) [2,0,1],
  zv (zG 88 (.faddr 0 (.t 13)) 87 true) [3,2,0,1],
  zv (zG 89 (.load false 1 (.t 88)) 87 true) [4,3,2,0,1],
  zv (zG 90 (.move (.t 10)) 87 true) [3,2,0,1],
  zv (zG 91 (.faddr 0 (.t 12)) 87 true) [3,2,0,1],
  zv (zG 92 (.load false 1 (.t 91)) 87 true) [7,3,2,0,1],
  zv (zG 93 (.call 111 [(.t 90), (.t 92)]) 87 true) [6,3,2,0,1,8,7],
  zv (zG 94 (.bin .eql (.t 89) (.t 93)) 87 true) [5,4,3,2,0,1,9,6,8,7],
  zv (zO 95 (.pick (.t 87) (.t 94) (zB false))) [3,2,0,1,10,5,4,9,6,8,7],
  zv (zM 96 95) [11,3,2,0,1,10,5,4,9,6,8,7],
  zv (zG 97 (.faddr 1 (.t 13)) 96 true) [12,11,3,2,0,1,10,5,4,9,6,8,7],
  zv (zG 98 (.load false 1 (.t 97)) 96 true) [13,12,11,3,2,0,1,10,5,4,9,6,8,7],
  zv (zG 99 (.call 179 [(.t 98)]) 96 true) [14,13,12,11,3,2,0,1,10,5,4,9,6,8,7],
  zv (zG 100 (.move (.t 11)) 96 true) [12,11,3,2,0,1,10,5,4,9,6,8,7],
  zv (zG 101 (.call 178 [(.t 99), (.t 100)]) 96 true) [15,14,13,12,11,3,2,0,1,10,5,4,9,6,8,7,16],
  zv (zO 102 (.pick (.t 96) (.t 101) (zB false))) [12,11,3,2,0,1,10,5,4,9,6,8,7,17,15,14,13,16],
  zv (zM 103 102) [18,12,11,3,2,0,1,10,5,4,9,6,8,7,17,15,14,13,16],
  zv (zG 104 (.load true 2 (.t 13)) 103 true) [19,18,12,11,3,2,0,1,10,5,4,9,6,8,7,17,15,14,13,16],
  zv (zG 105 (.call 152 [(.t 104)]) 103 true) [20,19,18,12,11,3,2,0,1,10,5,4,9,6,8,7,17,15,14,13,16],
  zv (zG 106 (.len false (.t 105)) 103 true) [21,20,19,18,12,11,3,2,0,1,10,5,4,9,6,8,7,17,15,14,13,16],
  zv (zG 107 (.bin .gtr (.t 106) (zI 0)) 103 true) [22,21,20,19,18,12,11,3,2,0,1,10,5,4,9,6,8,7,17,15,14,13,16],
  zv (zO 108 (.pick (.t 103) (.t 107) (zB false))) [19,18,12,11,3,2,0,1,10,5,4,9,6,8,7,17,15,14,13,16,23,22,21,20],
  zv (zA 2 108) [24,19,18,12,11,3,2,0,1,10,5,4,9,6,8,7,17,15,14,13,16,23,22,21,20]])
  .ret)))))))))))))⟩
def tbl : List (Nat × FnIr) := [(108, ir108), (354, ir354), (302, ir302), (180, ir180), (232, ir232), (230, ir230), (257, ir257), (255, ir255), (111, ir111), (231, ir231), (286, ir286), (271, ir271), (142, ir142), (377, ir377), (336, ir336), (340, ir340), (233, ir233), (351, ir351), (352, ir352), (290, ir290), (258, ir258), (113, ir113), (229, ir229), (291, ir291), (350, ir350), (273, ir273), (131, ir131), (293, ir293), (118, ir118), (294, ir294), (152, ir152), (299, ir299), (298, ir298), (158, ir158), (285, ir285), (287, ir287), (288, ir288), (289, ir289), (148, ir148), (179, ir179), (150, ir150), (337, ir337), (223, ir223), (303, ir303), (161, ir161), (355, ir355), (304, ir304), (163, ir163), (264, ir264), (356, ir356), (308, ir308), (357, ir357), (309, ir309), (169, ir169), (177, ir177), (188, ir188), (178, ir178), (246, ir246), (345, ir345), (3361, ir3361), (3317, ir3317), (3252, ir3252), (3248, ir3248), (3344, ir3344), (3247, ir3247), (3315, ir3315), (3316, ir3316), (3251, ir3251), (3250, ir3250), (318, ir318), (193, ir193), (162, ir162), (68, ir68), (57, ir57), (102, ir102), (164, ir164), (194, ir194), (3249, ir3249), (195, ir195), (43, ir43)]
def Tb (g : Nat) : Option FnIr := tbl.lookup g
theorem tb_108 : Tb 108 = some ir108 := rfl
theorem tb_354 : Tb 354 = some ir354 := rfl
theorem tb_302 : Tb 302 = some ir302 := rfl
theorem tb_180 : Tb 180 = some ir180 := rfl
theorem tb_232 : Tb 232 = some ir232 := rfl
theorem tb_230 : Tb 230 = some ir230 := rfl
theorem tb_257 : Tb 257 = some ir257 := rfl
theorem tb_255 : Tb 255 = some ir255 := rfl
theorem tb_111 : Tb 111 = some ir111 := rfl
theorem tb_231 : Tb 231 = some ir231 := rfl
theorem tb_286 : Tb 286 = some ir286 := rfl
theorem tb_271 : Tb 271 = some ir271 := rfl
theorem tb_142 : Tb 142 = some ir142 := rfl
theorem tb_377 : Tb 377 = some ir377 := rfl
theorem tb_336 : Tb 336 = some ir336 := rfl
theorem tb_340 : Tb 340 = some ir340 := rfl
theorem tb_233 : Tb 233 = some ir233 := rfl
theorem tb_351 : Tb 351 = some ir351 := rfl
theorem tb_352 : Tb 352 = some ir352 := rfl
theorem tb_290 : Tb 290 = some ir290 := rfl
theorem tb_258 : Tb 258 = some ir258 := rfl
theorem tb_113 : Tb 113 = some ir113 := rfl
theorem tb_229 : Tb 229 = some ir229 := rfl
theorem tb_291 : Tb 291 = some ir291 := rfl
theorem tb_350 : Tb 350 = some ir350 := rfl
theorem tb_273 : Tb 273 = some ir273 := rfl
theorem tb_131 : Tb 131 = some ir131 := rfl
theorem tb_293 : Tb 293 = some ir293 := rfl
theorem tb_118 : Tb 118 = some ir118 := rfl
theorem tb_294 : Tb 294 = some ir294 := rfl
theorem tb_152 : Tb 152 = some ir152 := rfl
theorem tb_299 : Tb 299 = some ir299 := rfl
theorem tb_298 : Tb 298 = some ir298 := rfl
theorem tb_158 : Tb 158 = some ir158 := rfl
theorem tb_285 : Tb 285 = some ir285 := rfl
theorem tb_287 : Tb 287 = some ir287 := rfl
theorem tb_288 : Tb 288 = some ir288 := rfl
theorem tb_289 : Tb 289 = some ir289 := rfl
theorem tb_148 : Tb 148 = some ir148 := rfl
theorem tb_179 : Tb 179 = some ir179 := rfl
theorem tb_150 : Tb 150 = some ir150 := rfl
theorem tb_337 : Tb 337 = some ir337 := rfl
theorem tb_223 : Tb 223 = some ir223 := rfl
theorem tb_303 : Tb 303 = some ir303 := rfl
theorem tb_161 : Tb 161 = some ir161 := rfl
theorem tb_355 : Tb 355 = some ir355 := rfl
theorem tb_304 : Tb 304 = some ir304 := rfl
theorem tb_163 : Tb 163 = some ir163 := rfl
theorem tb_264 : Tb 264 = some ir264 := rfl
theorem tb_356 : Tb 356 = some ir356 := rfl
theorem tb_308 : Tb 308 = some ir308 := rfl
theorem tb_357 : Tb 357 = some ir357 := rfl
theorem tb_309 : Tb 309 = some ir309 := rfl
theorem tb_169 : Tb 169 = some ir169 := rfl
theorem tb_177 : Tb 177 = some ir177 := rfl
theorem tb_188 : Tb 188 = some ir188 := rfl
theorem tb_178 : Tb 178 = some ir178 := rfl
theorem tb_246 : Tb 246 = some ir246 := rfl
theorem tb_345 : Tb 345 = some ir345 := rfl
theorem tb_3361 : Tb 3361 = some ir3361 := rfl
theorem tb_3317 : Tb 3317 = some ir3317 := rfl
theorem tb_3252 : Tb 3252 = some ir3252 := rfl
theorem tb_3248 : Tb 3248 = some ir3248 := rfl
theorem tb_3344 : Tb 3344 = some ir3344 := rfl
theorem tb_3247 : Tb 3247 = some ir3247 := rfl
theorem tb_3315 : Tb 3315 = some ir3315 := rfl
theorem tb_3316 : Tb 3316 = some ir3316 := rfl
theorem tb_3251 : Tb 3251 = some ir3251 := rfl
theorem tb_3250 : Tb 3250 = some ir3250 := rfl
theorem tb_318 : Tb 318 = some ir318 := rfl
theorem tb_193 : Tb 193 = some ir193 := rfl
theorem tb_162 : Tb 162 = some ir162 := rfl
theorem tb_68 : Tb 68 = some ir68 := rfl
theorem tb_57 : Tb 57 = some ir57 := rfl
theorem tb_102 : Tb 102 = some ir102 := rfl
theorem tb_164 : Tb 164 = some ir164 := rfl
theorem tb_194 : Tb 194 = some ir194 := rfl
theorem tb_3249 : Tb 3249 = some ir3249 := rfl
theorem tb_195 : Tb 195 = some ir195 := rfl
theorem tb_43 : Tb 43 = some ir43 := rfl
end Go.Vm
