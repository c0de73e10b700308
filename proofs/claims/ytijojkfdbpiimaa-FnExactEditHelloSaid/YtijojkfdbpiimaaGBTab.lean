/- The code of the functions that the law reaches, as data. -/
import Derived.Test.YtijojkfdbpiimaaVmF
set_option maxHeartbeats 4000000
set_option maxRecDepth 10000
set_option linter.unusedVariables false
set_option linter.unusedSimpArgs false
namespace Go.Vm
def ir1080 : FnIr := ⟨0, 2, 19, [(4, none)], [.mrow, .val],
  (zs [] [] [zK 4 (zI 0)]
  (.seq (zs [] [] [zK 5 (zI 0)]
  (.block 0 (.loop (.seq (zs (zr 6 4) [6,7,8] [zM 6 5,
  zM 7 0,
  zl 8 7,
  zb 9 .lss 6 8]
  (zc 9
  .skip
  (.exit 0)))
  (.seq (.block 1 (zs (zr 12 4) (zr 12 4) [zM 12 0,
  zM 13 5,
  zM 14 1,
  zp 15 1 12 13,
  zN (.rstore 1 (.t 15) (.t 14))]
  (zR [16,17] [16,17] [zM 16 1,
  zO 17 (.bin .add (.t 16) (zI 1)),
  zA 1 17])))
  (zR [10,11] [10,11] [zM 10 5,
  zO 11 (.bin .add (.t 10) (zI 1)),
  zA 5 11]))))))
  (zs [18] [18] [zM 18 1,
  zA 4 18]
  .ret)))⟩
def ir1201 : FnIr := ⟨0, 2, 27, [(4, none)], [.mrow, .val],
  (zs [] [] [zK 4 (zI 0)]
  (.seq (zs [] [] [zK 5 (zI 0)]
  (.block 0 (.loop (.seq (zs (zr 6 4) [6,7,8] [zM 6 5,
  zM 7 0,
  zl 8 7,
  zb 9 .lss 6 8]
  (zc 9
  .skip
  (.exit 0)))
  (.seq (.block 1 (zs (zr 12 5) (zr 12 5) [zM 12 0,
  zM 13 5,
  zM 14 1,
  zp 15 2 12 13,
  zF 16 0 15,
  zN (.rstore 1 (.t 16) (.t 14))]
  (zs [17,18] [17,18] [zM 17 1,
  zO 18 (.bin .add (.t 17) (zI 1)),
  zA 1 18]
  (zR (zq 19 7 [52]) (zr 19 7) [zM 19 0,
  zM 20 5,
  zp 21 2 19 20,
  zF 22 1 21,
  zL 23 22,
  zM 24 1,
  zC 25 1080 [23,24],
  zA 1 25]))))
  (zR [10,11] [10,11] [zM 10 5,
  zO 11 (.bin .add (.t 10) (zI 1)),
  zA 5 11]))))))
  (zs [26] [26] [zM 26 1,
  zA 4 26]
  .ret)))⟩
def ir1081 : FnIr := ⟨0, 2, 14, [(4, none)], [.mrow, .val],
  (zs [2,16] [] [zO 2 (.box (.t 0)),
  zK 4 (zI 0)]
  (zs (zq 5 4 [22]) (zr 5 4) [zF 5 0 2,
  zL 6 5,
  zM 7 1,
  zC 8 1080 [6,7],
  zA 1 8]
  (zs (zq 9 4 [26]) (zr 9 4) [zF 9 1 2,
  zL 10 9,
  zM 11 1,
  zC 12 1201 [10,11],
  zA 1 12]
  (zs [13] [13] [zM 13 1,
  zA 4 13]
  .ret))))⟩
def ir232 : FnIr := ⟨0, 3, 15, [(6, none)], [],
  (zs [] [] [zK 6 (zB false)]
  (zs (zr 7 8) (zr 7 8) [zM 7 1,
  zM 8 0,
  zb 9 .leq 7 8,
  zM 10 9,
  zG 11 (.move (.t 0)) 10 true,
  zG 12 (.move (.t 2)) 10 true,
  zG 13 (.bin .leq (.t 11) (.t 12)) 10 true,
  zO 14 (.pick (.t 10) (.t 13) (zB false)),
  zA 6 14]
  .ret))⟩
def ir377 : FnIr := ⟨0, 2, 19, [(4, none)], [],
  (zs [] [] [zK 4 (zI 0)]
  (.seq (zs [6,7,8] [6] [zM 6 0,
  zl 7 6,
  zO 8 (.move (zI 0))]
  (.block 0 (.loop (zs [9] [] [zb 9 .lss 8 7]
  (.seq (zc 9
  .skip
  (.exit 0))
  (.seq (.block 1 (zs [10] [10] [zM 10 8,
  zA 5 10]
  (zs (zq 11 6 [35]) (zr 11 5) [zM 11 1,
  zM 12 0,
  zM 13 5,
  zp 14 1 12 13,
  zL 15 14,
  zO 16 (.callv (.t 11) [(.t 15)])]
  (zc 16
  (zs [17] [17] [zM 17 5,
  zA 4 17]
  .ret)
  .skip))))
  (zR [18] [18] [zO 18 (.bin .add (.t 8) (zI 1)),
  zM 8 18])))))))
  (zs [] [] [zK 4 (zI (-1))]
  .ret)))⟩
def ir336 : FnIr := ⟨0, 2, 9, [(4, none)], [],
  (zs [] [] [zK 4 (zB false)]
  (zs (zq 5 4 [16]) (zr 5 4) [zM 5 0,
  zM 6 1,
  zC 7 377 [5,6],
  zO 8 (.bin .geq (.t 7) (zI 0)),
  zA 4 8]
  .ret))⟩
def ir340 : FnIr := ⟨0, 3, 10, [(4, none)], [],
  (zs [] [] [zK 4 (zB false)]
  (zs (zq 5 5 [18]) (zr 5 5) [zM 5 0,
  zL 6 1,
  zL 7 2,
  zC 8 232 [5,6,7],
  zn 9 8,
  zA 4 9]
  .ret))⟩
def ir233 : FnIr := ⟨0, 3, 11, [(6, none)], [],
  (zs [4,5,15,16] [] [zO 4 (.box (.t 1)),
  zO 5 (.box (.t 2)),
  zK 6 (zB false)]
  (zs (zq 7 4 [20]) (zr 7 4) [zM 7 0,
  zO 8 (.mkfn 340 [4, 5]),
  zC 9 336 [7,8],
  zn 10 9,
  zA 6 10]
  .ret))⟩
def ir230 : FnIr := ⟨0, 3, 15, [(6, none)], [],
  (zs [] [] [zK 6 (zB false)]
  (zs (zr 7 8) (zr 7 8) [zM 7 0,
  zM 8 1,
  zb 9 .geq 7 8,
  zM 10 9,
  zG 11 (.move (.t 0)) 10 true,
  zG 12 (.move (.t 2)) 10 true,
  zG 13 (.bin .leq (.t 11) (.t 12)) 10 true,
  zO 14 (.pick (.t 10) (.t 13) (zB false)),
  zA 6 14]
  .ret))⟩
def ir231 : FnIr := ⟨0, 1, 16, [(2, none)], [],
  (zs [] [] [zK 2 (zB false)]
  (.seq (zs [] [] [zK 3 (zI 0)]
  (.block 0 (.loop (.seq (zs (zr 4 4) [4,5,6] [zM 4 3,
  zM 5 0,
  zl 6 5,
  zb 7 .lss 4 6]
  (zc 7
  .skip
  (.exit 0)))
  (.seq (.block 1 (zs (zq 10 6 [30]) (zr 10 5) [zM 10 0,
  zM 11 3,
  zp 12 1 10 11,
  zL 13 12,
  zO 14 (.call 230 [(.t 13), (zI 0), (zI 255)]),
  zn 15 14]
  (zc 15
  (zs [] [] [zK 2 (zB false)]
  .ret)
  .skip)))
  (zR [8,9] [8,9] [zM 8 3,
  zO 9 (.bin .add (.t 8) (zI 1)),
  zA 3 9]))))))
  (zs [] [] [zK 2 (zB true)]
  .ret)))⟩
def ir286 : FnIr := ⟨0, 2, 20, [(4, none)], [],
  (zs [] [] [zK 4 (zI 0)]
  (.seq (zs [] [] [zK 5 (zI 0)]
  (.block 0 (.loop (.seq (zs (zr 6 4) [6,7,8] [zM 6 5,
  zM 7 0,
  zl 8 7,
  zb 9 .lss 6 8]
  (zc 9
  .skip
  (.exit 0)))
  (.seq (.block 1 (zs (zr 12 7) (zr 12 6) [zM 12 0,
  zM 13 5,
  zp 14 2 12 13,
  zF 15 0 14,
  zL 16 15,
  zM 17 1,
  zb 18 .eql 16 17]
  (zc 18
  (zs [19] [19] [zM 19 5,
  zA 4 19]
  .ret)
  .skip)))
  (zR [10,11] [10,11] [zM 10 5,
  zO 11 (.bin .add (.t 10) (zI 1)),
  zA 5 11]))))))
  (zs [] [] [zK 4 (zI (-1))]
  .ret)))⟩
def ir271 : FnIr := ⟨0, 1, 49, [(2, none)], [],
  (zs [] [] [zK 2 (zB false)]
  (.seq (zs [] [] [zK 3 (zI 0)]
  (.block 0 (.loop (.seq (zs (zr 4 4) [4,5,6] [zM 4 3,
  zM 5 0,
  zl 6 5,
  zb 7 .lss 4 6]
  (zc 7
  .skip
  (.exit 0)))
  (.seq (.block 1 (zs (zq 10 36 [64,81,91]) (zr 10 35) [zM 10 0,
  zM 11 3,
  zp 12 2 10 11,
  zF 13 0 12,
  zL 14 13,
  zO 15 (.call 230 [(.t 14), (zI 0), (zI 255)]),
  zn 16 15,
  zM 17 16,
  zG 18 (.move (.t 0)) 17 false,
  zG 19 (.move (.t 3)) 17 false,
  zG 20 (.iaddr 2 (.t 18) (.t 19)) 17 false,
  zG 21 (.faddr 1 (.t 20)) 17 false,
  zG 22 (.load false 1 (.t 21)) 17 false,
  zG 23 (.len false (.t 22)) 17 false,
  zG 24 (.bin .gtr (.t 23) (zI 4)) 17 false,
  zO 25 (.pick (.t 17) (zB true) (.t 24)),
  zM 26 25,
  zG 27 (.move (.t 0)) 26 false,
  zG 28 (.move (.t 3)) 26 false,
  zG 29 (.iaddr 2 (.t 27) (.t 28)) 26 false,
  zG 30 (.faddr 1 (.t 29)) 26 false,
  zG 31 (.load false 1 (.t 30)) 26 false,
  zG 32 (.call 231 [(.t 31)]) 26 false,
  zG 33 (.un .not (.t 32)) 26 false,
  zO 34 (.pick (.t 26) (zB true) (.t 33)),
  zM 35 34,
  zG 36 (.move (.t 0)) 35 false,
  zG 37 (.move (.t 0)) 35 false,
  zG 38 (.move (.t 3)) 35 false,
  zG 39 (.iaddr 2 (.t 37) (.t 38)) 35 false,
  zG 40 (.faddr 0 (.t 39)) 35 false,
  zG 41 (.load false 1 (.t 40)) 35 false,
  zG 42 (.call 286 [(.t 36), (.t 41)]) 35 false,
  zG 43 (.move (.t 3)) 35 false,
  zG 44 (.bin .lss (.t 42) (.t 43)) 35 false,
  zO 45 (.pick (.t 35) (zB true) (.t 44))]
  (zc 45
  (zs [] [] [zK 2 (zB false)]
  .ret)
  .skip)))
  (zR [8,9] [8,9] [zM 8 3,
  zO 9 (.bin .add (.t 8) (zI 1)),
  zA 3 9]))))))
  (zs [46,47,48] [46,47,48] [zM 46 0,
  zl 47 46,
  zO 48 (.bin .leq (.t 47) (zI 6)),
  zA 2 48]
  .ret)))⟩
def ir351 : FnIr := ⟨0, 2, 19, [(4, none)], [],
  (zs [] [] [zK 4 (zI 0)]
  (.seq (zs [6,7,8] [6] [zM 6 0,
  zl 7 6,
  zO 8 (.move (zI 0))]
  (.block 0 (.loop (zs [9] [] [zb 9 .lss 8 7]
  (.seq (zc 9
  .skip
  (.exit 0))
  (.seq (.block 1 (zs [10] [10] [zM 10 8,
  zA 5 10]
  (zs (zq 11 6 [35]) (zr 11 5) [zM 11 1,
  zM 12 0,
  zM 13 5,
  zp 14 2 12 13,
  zS 15 2 14,
  zO 16 (.callv (.t 11) [(.t 15)])]
  (zc 16
  (zs [17] [17] [zM 17 5,
  zA 4 17]
  .ret)
  .skip))))
  (zR [18] [18] [zO 18 (.bin .add (.t 8) (zI 1)),
  zM 8 18])))))))
  (zs [] [] [zK 4 (zI (-1))]
  .ret)))⟩
def ir352 : FnIr := ⟨0, 2, 8, [(3, none)], [],
  (zs [2,10] [] [zO 2 (.box (.t 0)),
  zK 3 (zB false)]
  (zs (zr 4 4) (zr 4 4) [zF 4 0 2,
  zL 5 4,
  zL 6 1,
  zb 7 .eql 5 6,
  zA 3 7]
  .ret))⟩
def ir290 : FnIr := ⟨0, 2, 8, [(4, none)], [],
  (zs [3,11] [] [zO 3 (.box (.t 1)),
  zK 4 (zI 0)]
  (zs [5,6,7,15] [5,6,7] [zM 5 0,
  zO 6 (.mkfn 352 [3]),
  zC 7 351 [5,6],
  zA 4 7]
  .ret))⟩
def ir258 : FnIr := ⟨0, 1, 41, [(2, none)], [],
  (zs [] [] [zK 2 (zB false)]
  (.seq (zs [5,6,7] [] [zM 5 0,
  zl 6 5,
  zO 7 (.move (zI 0))]
  (.block 0 (.loop (zs [8] [] [zb 8 .lss 7 6]
  (.seq (zc 8
  .skip
  (.exit 0))
  (.seq (.block 1 (zs [9,10,11,4,45] [9,10,11] [zM 9 7,
  zp 10 2 5 7,
  zS 11 2 10,
  zO 4 (.alloc [(.int .i64 0), (.row () [])]),
  zA 3 9,
  zN (.store 2 (.t 4) (.t 11))]
  (.seq (.region true (zq 12 25 [55,63,75]) (zr 12 24) [zF 12 0 4,
  zv (zL 13 12) [0],
  zv (zO 14 (.call 232 [(.t 13), (zI 0), (zI 255)])) [1,0],
  zv (zn 15 14) [2,1,0],
  zv (zM 16 15) [3,2,1,0],
  zv (zG 17 (.move (.t 0)) 16 false) [4,3,2,1,0],
  zv (zG 18 (.move (.t 3)) 16 false) [4,3,2,1,0],
  zv (zG 19 (.slice 2 (.t 17) none (some (.t 18))) 16 false) [5,4,3,2,1,0,6],
  zv (zG 20 (.faddr 0 (.t 4)) 16 false) [4,3,2,1,0],
  zv (zG 21 (.load false 1 (.t 20)) 16 false) [8,4,3,2,1,0],
  zv (zG 22 (.call 290 [(.t 19), (.t 21)]) 16 false) [7,5,4,3,2,1,0,6,9,8],
  zv (zG 23 (.bin .geq (.t 22) (zI 0)) 16 false) [10,7,5,4,3,2,1,0,6,9,8],
  zv (zO 24 (.pick (.t 16) (zB true) (.t 23))) [4,3,2,1,0,11,10,7,5,6,9,8],
  zv (zM 25 24) [12,4,3,2,1,0,11,10,7,5,6,9,8],
  zv (zG 26 (.faddr 1 (.t 4)) 25 false) [13,12,4,3,2,1,0,11,10,7,5,6,9,8],
  zv (zG 27 (.load false 1 (.t 26)) 25 false) [14,13,12,4,3,2,1,0,11,10,7,5,6,9,8],
  zv (zG 28 (.len false (.t 27)) 25 false) [15,14,13,12,4,3,2,1,0,11,10,7,5,6,9,8],
  zv (zG 29 (.bin .gtr (.t 28) (zI 4)) 25 false) [16,15,14,13,12,4,3,2,1,0,11,10,7,5,6,9,8],
  zv (zO 30 (.pick (.t 25) (zB true) (.t 29))) [13,12,4,3,2,1,0,11,10,7,5,6,9,8,17,16,15,14],
  zv (zM 31 30) [18,13,12,4,3,2,1,0,11,10,7,5,6,9,8,17,16,15,14],
  zv (zG 32 (.faddr 1 (.t 4)) 31 false) [19,18,13,12,4,3,2,1,0,11,10,7,5,6,9,8,17,16,15,14],
  zv (zG 33 (.load false 1 (.t 32)) 31 false) [20,19,18,13,12,4,3,2,1,0,11,10,7,5,6,9,8,17,16,15,14],
  zv (zG 34 (.call 233 [(.t 33), (zI 0), (zI 255)]) 31 false) [21,20,19,18,13,12,4,3,2,1,0,11,10,7,5,6,9,8,17,16,15,14],
  zv (zG 35 (.un .not (.t 34)) 31 false) [22,21,20,19,18,13,12,4,3,2,1,0,11,10,7,5,6,9,8,17,16,15,14],
  zv (zO 36 (.pick (.t 31) (zB true) (.t 35))) [19,18,13,12,4,3,2,1,0,11,10,7,5,6,9,8,17,16,15,14,23,22,21,20]])
  (zc 36
  (zs [] [] [zK 2 (zB false)]
  .ret)
  .skip))))
  (zR [37] [37] [zO 37 (.bin .add (.t 7) (zI 1)),
  zM 7 37])))))))
  (zs [38,39,40] [38,39,40] [zM 38 0,
  zl 39 38,
  zO 40 (.bin .leq (.t 39) (zI 6)),
  zA 2 40]
  .ret)))⟩
def ir264 : FnIr := ⟨0, 2, 31, [(4, none)], [],
  (zs [] [] [zK 4 zE]
  (zs [8] [8] [zO 8 (.bslice [(.int .i64 0), (.row () [])] 0 []),
  zA 5 8]
  (.seq (zs [9,10,11] [] [zM 9 0,
  zl 10 9,
  zO 11 (.move (zI 0))]
  (.block 0 (.loop (zs [12] [] [zb 12 .lss 11 10]
  (.seq (zc 12
  .skip
  (.exit 0))
  (.seq (.block 1 (zs [13,14,7,38] [13,14] [zp 13 2 9 11,
  zS 14 2 13,
  zO 7 (.alloc [(.int .i64 0), (.row () [])]),
  zN (.store 2 (.t 7) (.t 14))]
  (zs (zq 15 4 [49]) [15,16,17] [zM 15 1,
  zF 16 0 7,
  zL 17 16,
  zO 18 (.callv (.t 15) [(.t 17)])]
  (zc 18
  (.region true (zr 19 10) (zr 19 10) [zM 19 5,
  zF 20 0 7,
  zv (zL 21 20) [1],
  zO 22 (.bslice [(.int .i64 0)] 0 []),
  zF 23 1 7,
  zv (zL 24 23) [4],
  zv (zO 25 (.append 1 (.t 22) (.t 24))) [3,5,4],
  zv (zO 26 (.build [(.int .i64 0), (.row () [])] [(0, 1, (.t 21)), (1, 1, (.t 25))])) [2,1,6,3,5,4],
  zv (zO 27 (.bslice [(.int .i64 0), (.row () [])] 1 [(0, (.t 26))])) [7,2,1,6,3,5,4],
  zv (zO 28 (.append 2 (.t 19) (.t 27))) [0,8,7,2,1,6,3,5,4],
  zv (zA 5 28) [9,0,8,7,2,1,6,3,5,4]])
  .skip))))
  (zR [29] [29] [zO 29 (.bin .add (.t 11) (zI 1)),
  zM 11 29])))))))
  (zs [30] [30] [zM 30 5,
  zA 4 30]
  .ret))))⟩
def ir347 : FnIr := ⟨0, 1, 3, [(2, none)], [],
  (zs [] [] [zK 2 (zB false)]
  (zs [] [] [zK 2 (zB true)]
  .ret))⟩
def ir266 : FnIr := ⟨0, 1, 5, [(2, none)], [],
  (zs [] [] [zK 2 zE]
  (zs [3,4,9] [3,4] [zM 3 0,
  zO 4 (.call 264 [(.t 3), (.f 347)]),
  zA 2 4]
  .ret))⟩
def ir261 : FnIr := ⟨0, 1, 11, [(2, (some (true, 2)))], [],
  (zs [1,2,12,13] [] [zO 1 (.box (.t 0)),
  zO 2 (.alloc [(.row () []), (.row () [])])]
  (.seq (.region true (zq 3 8 [20]) (zr 3 8) [zO 3 (.bslice [(.int .i64 0)] 0 []),
  zF 4 0 1,
  zv (zL 5 4) [1],
  zv (zO 6 (.append 1 (.t 3) (.t 5))) [0,2,1],
  zF 7 1 1,
  zv (zL 8 7) [4],
  zv (zC 9 266 [8]) [5,4,3,0,2,1],
  zv (zO 10 (.build [(.row () []), (.row () [])] [(0, 1, (.t 6)), (1, 1, (.t 9))])) [3,0,2,1,6,5,4],
  zv (zN (.store 2 (.t 2) (.t 10))) [7,3,0,2,1,6,5,4]])
  .ret))⟩
def ir257 : FnIr := ⟨0, 1, 35, [(2, none)], [],
  (zs [] [] [zK 2 (zB false)]
  (.seq (zs [] [] [zK 3 (zI 0)]
  (.block 0 (.loop (.seq (zs (zr 4 4) [4,5,6] [zM 4 3,
  zM 5 0,
  zl 6 5,
  zb 7 .lss 4 6]
  (zc 7
  .skip
  (.exit 0)))
  (.seq (.block 1 (.seq (.region true (zq 10 22 [49]) (zr 10 21) [zM 10 0,
  zM 11 3,
  zv (zp 12 1 10 11) [0,1],
  zv (zL 13 12) [2,0,1],
  zv (zO 14 (.call 230 [(.t 13), (zI 1), (zI 9)])) [3,2,0,1],
  zv (zn 15 14) [4,3,2,0,1],
  zv (zM 16 15) [5,4,3,2,0,1],
  zv (zG 17 (.move (.t 3)) 16 false) [6,5,4,3,2,0,1],
  zv (zG 18 (.bin .gtr (.t 17) (zI 0)) 16 false) [7,6,5,4,3,2,0,1],
  zv (zG 19 (.move (.t 18)) 16 false) [8,7,6,5,4,3,2,0,1],
  zv (zG 20 (.move (.t 0)) 19 true) [9,8,7,6,5,4,3,2,0,1],
  zv (zG 21 (.move (.t 3)) 19 true) [9,8,7,6,5,4,3,2,0,1],
  zv (zG 22 (.bin .sub (.t 21) (zI 1)) 19 true) [11,9,8,7,6,5,4,3,2,0,1],
  zv (zG 23 (.iaddr 1 (.t 20) (.t 22)) 19 true) [10,9,8,7,6,5,4,3,2,0,1,12,11],
  zv (zG 24 (.load false 1 (.t 23)) 19 true) [13,10,9,8,7,6,5,4,3,2,0,1,12,11],
  zv (zG 25 (.move (.t 0)) 19 true) [9,8,7,6,5,4,3,2,0,1],
  zv (zG 26 (.move (.t 3)) 19 true) [9,8,7,6,5,4,3,2,0,1],
  zv (zG 27 (.iaddr 1 (.t 25) (.t 26)) 19 true) [15,9,8,7,6,5,4,3,2,0,1,16],
  zv (zG 28 (.load false 1 (.t 27)) 19 true) [17,15,9,8,7,6,5,4,3,2,0,1,16],
  zv (zG 29 (.bin .geq (.t 24) (.t 28)) 19 true) [14,13,10,9,8,7,6,5,4,3,2,0,1,12,11,18,17,15,16],
  zv (zG 30 (.pick (.t 19) (.t 29) (zB false)) 16 false) [9,8,7,6,5,4,3,2,0,1,19,14,13,10,12,11,18,17,15,16],
  zv (zO 31 (.pick (.t 16) (zB true) (.t 30))) [6,5,4,3,2,0,1,20,9,8,7,19,14,13,10,12,11,18,17,15,16]])
  (zc 31
  (zs [] [] [zK 2 (zB false)]
  .ret)
  .skip)))
  (zR [8,9] [8,9] [zM 8 3,
  zO 9 (.bin .add (.t 8) (zI 1)),
  zA 3 9]))))))
  (zs [32,33,34] [32,33,34] [zM 32 0,
  zl 33 32,
  zO 34 (.bin .gtr (.t 33) (zI 0)),
  zA 2 34]
  .ret)))⟩
def ir255 : FnIr := ⟨0, 1, 32, [(2, none)], [],
  (zs [] [] [zK 2 (zB false)]
  (.seq (zs [5,6,7] [] [zM 5 0,
  zl 6 5,
  zO 7 (.move (zI 0))]
  (.block 0 (.loop (zs [8] [] [zb 8 .lss 7 6]
  (.seq (zc 8
  .skip
  (.exit 0))
  (.seq (.block 1 (zs [9,10,11] [9,10,11] [zM 9 7,
  zp 10 1 5 7,
  zL 11 10,
  zA 3 9,
  zA 4 11]
  (zs (zq 12 16 [45]) (zr 12 15) [zM 12 4,
  zO 13 (.call 232 [(.t 12), (zI 1), (zI 9)]),
  zn 14 13,
  zM 15 14,
  zG 16 (.move (.t 3)) 15 false,
  zG 17 (.bin .gtr (.t 16) (zI 0)) 15 false,
  zG 18 (.move (.t 17)) 15 false,
  zG 19 (.move (.t 0)) 18 true,
  zG 20 (.move (.t 3)) 18 true,
  zG 21 (.bin .sub (.t 20) (zI 1)) 18 true,
  zG 22 (.iaddr 1 (.t 19) (.t 21)) 18 true,
  zG 23 (.load false 1 (.t 22)) 18 true,
  zG 24 (.move (.t 4)) 18 true,
  zG 25 (.bin .geq (.t 23) (.t 24)) 18 true,
  zG 26 (.pick (.t 18) (.t 25) (zB false)) 15 false,
  zO 27 (.pick (.t 15) (zB true) (.t 26))]
  (zc 27
  (zs [] [] [zK 2 (zB false)]
  .ret)
  .skip))))
  (zR [28] [28] [zO 28 (.bin .add (.t 7) (zI 1)),
  zM 7 28])))))))
  (zs [29,30,31] [29,30,31] [zM 29 0,
  zl 30 29,
  zO 31 (.bin .gtr (.t 30) (zI 0)),
  zA 2 31]
  .ret)))⟩
def ir285 : FnIr := ⟨0, 2, 18, [(4, none)], [],
  (zs [] [] [zK 4 (zB false)]
  (.seq (zs [] [] [zK 5 (zI 0)]
  (.block 0 (.loop (.seq (zs (zr 6 4) [6,7,8] [zM 6 5,
  zM 7 0,
  zl 8 7,
  zb 9 .lss 6 8]
  (zc 9
  .skip
  (.exit 0)))
  (.seq (.block 1 (zs (zr 12 6) (zr 12 5) [zM 12 0,
  zM 13 5,
  zp 14 1 12 13,
  zL 15 14,
  zM 16 1,
  zb 17 .eql 15 16]
  (zc 17
  (zs [] [] [zK 4 (zB true)]
  .ret)
  .skip)))
  (zR [10,11] [10,11] [zM 10 5,
  zO 11 (.bin .add (.t 10) (zI 1)),
  zA 5 11]))))))
  (zs [] [] [zK 4 (zB false)]
  .ret)))⟩
def ir354 : FnIr := ⟨0, 2, 19, [(4, none)], [],
  (zs [] [] [zK 4 (zI 0)]
  (.seq (zs [6,7,8] [6] [zM 6 0,
  zl 7 6,
  zO 8 (.move (zI 0))]
  (.block 0 (.loop (zs [9] [] [zb 9 .lss 8 7]
  (.seq (zc 9
  .skip
  (.exit 0))
  (.seq (.block 1 (zs [10] [10] [zM 10 8,
  zA 5 10]
  (zs (zr 11 6) (zr 11 5) [zM 11 1,
  zM 12 0,
  zM 13 5,
  zp 14 1 12 13,
  zL 15 14,
  zb 16 .eql 11 15]
  (zc 16
  (zs [17] [17] [zM 17 5,
  zA 4 17]
  .ret)
  .skip))))
  (zR [18] [18] [zO 18 (.bin .add (.t 8) (zI 1)),
  zM 8 18])))))))
  (zs [] [] [zK 4 (zI (-1))]
  .ret)))⟩
def ir302 : FnIr := ⟨0, 2, 9, [(4, none)], [],
  (zs [] [] [zK 4 (zB false)]
  (zs (zq 5 4 [16]) (zr 5 4) [zM 5 0,
  zM 6 1,
  zC 7 354 [5,6],
  zO 8 (.bin .geq (.t 7) (zI 0)),
  zA 4 8]
  .ret))⟩
def ir287 : FnIr := ⟨0, 2, 25, [(4, none)], [],
  (zs [] [] [zK 4 zE]
  (zs [8] [8] [zO 8 (.bslice [(.int .i64 0)] 0 []),
  zA 5 8]
  (.seq (zs [9,10,11] [] [zM 9 0,
  zl 10 9,
  zO 11 (.move (zI 0))]
  (.block 0 (.loop (zs [12] [] [zb 12 .lss 11 10]
  (.seq (zc 12
  .skip
  (.exit 0))
  (.seq (.block 1 (zs [13,14] [13,14] [zp 13 1 9 11,
  zL 14 13,
  zA 7 14]
  (zs (zq 15 4 [42]) [15,16,17] [zM 15 1,
  zM 16 7,
  zC 17 302 [15,16],
  zn 18 17]
  (zc 18
  (zR (zr 19 4) (zr 19 4) [zM 19 5,
  zM 20 7,
  zO 21 (.bslice [(.int .i64 0)] 1 [(0, (.t 20))]),
  zO 22 (.append 1 (.t 19) (.t 21)),
  zA 5 22])
  .skip))))
  (zR [23] [23] [zO 23 (.bin .add (.t 11) (zI 1)),
  zM 11 23])))))))
  (zs [24] [24] [zM 24 5,
  zA 4 24]
  .ret))))⟩
def ir362 : FnIr := ⟨0, 2, 28, [(4, none)], [],
  (zs [] [] [zK 4 zE]
  (zs [7] [7] [zO 7 (.bslice [(.int .i64 0)] 0 []),
  zA 5 7]
  (.seq (zs [] [] [zK 6 (zI 0)]
  (.block 0 (.loop (.seq (zs (zr 8 4) [8,9,10] [zM 8 6,
  zM 9 0,
  zl 10 9,
  zb 11 .lss 8 10]
  (zc 11
  .skip
  (.exit 0)))
  (.seq (.block 1 (zs (zr 14 6) (zr 14 5) [zM 14 0,
  zM 15 6,
  zp 16 1 14 15,
  zL 17 16,
  zM 18 1,
  zb 19 .neq 17 18]
  (zc 19
  (zR (zr 20 7) (zr 20 7) [zM 20 5,
  zM 21 0,
  zM 22 6,
  zp 23 1 21 22,
  zL 24 23,
  zO 25 (.bslice [(.int .i64 0)] 1 [(0, (.t 24))]),
  zO 26 (.append 1 (.t 20) (.t 25)),
  zA 5 26])
  .skip)))
  (zR [12,13] [12,13] [zM 12 6,
  zO 13 (.bin .add (.t 12) (zI 1)),
  zA 6 13]))))))
  (zs [27] [27] [zM 27 5,
  zA 4 27]
  .ret))))⟩
def ir262 : FnIr := ⟨0, 2, 27, [(4, none), (5, none)], [],
  (zs [] [] [zK 4 zE,
  zK 5 (zB false)]
  (.seq (zs (zq 6 14 [34,39]) (zr 6 13) [zM 6 0,
  zC 7 255 [6],
  zn 8 7,
  zM 9 8,
  zG 10 (.move (.t 0)) 9 false,
  zG 11 (.move (.t 1)) 9 false,
  zG 12 (.call 302 [(.t 10), (.t 11)]) 9 false,
  zG 13 (.un .not (.t 12)) 9 false,
  zO 14 (.pick (.t 9) (zB true) (.t 13)),
  zM 15 14,
  zG 16 (.move (.t 0)) 15 false,
  zG 17 (.len false (.t 16)) 15 false,
  zG 18 (.bin .eql (.t 17) (zI 1)) 15 false,
  zO 19 (.pick (.t 15) (zB true) (.t 18))]
  (zc 19
  (zs [20,21,22] [20,21,22] [zO 20 (.bslice [(.int .i64 0)] 0 []),
  zM 21 0,
  zO 22 (.append 1 (.t 20) (.t 21)),
  zA 4 22,
  zK 5 (zB false)]
  .ret)
  .skip))
  (zs (zq 23 4 [53]) (zr 23 4) [zM 23 0,
  zM 24 1,
  zO 25 (.bslice [(.int .i64 0)] 1 [(0, (.t 24))]),
  zC 26 287 [23,25],
  zA 4 26,
  zK 5 (zB true)]
  .ret)))⟩
def ir2346 : FnIr := ⟨3, 1, 11, [], [.mrow],
  (zs [3,4] [3,4] [zM 3 0,
  zl 4 3,
  zA 2 4]
  (zR (zq 5 6 [20,21]) (zr 5 6) [zM 5 0,
  zM 6 2,
  zM 7 2,
  zO 8 (.conv .u64 (.t 7)),
  zC 9 379 [8],
  zO 10 (.call 2378 [(.t 5), (zI 0), (.t 6), (.t 9)])]))⟩
def ir263 : FnIr := ⟨0, 2, 31, [(4, none), (5, none)], [],
  (zs [] [] [zK 4 zE,
  zK 5 (zB false)]
  (zs [7,8,9] [7,8,9] [zO 7 (.bslice [(.int .i64 0)] 0 []),
  zM 8 0,
  zO 9 (.append 1 (.t 7) (.t 8)),
  zA 6 9]
  (.seq (zs (zq 10 13 [42,46,52]) (zr 10 12) [zM 10 0,
  zC 11 255 [10],
  zn 12 11,
  zM 13 12,
  zG 14 (.move (.t 1)) 13 false,
  zG 15 (.call 232 [(.t 14), (zI 1), (zI 9)]) 13 false,
  zG 16 (.un .not (.t 15)) 13 false,
  zO 17 (.pick (.t 13) (zB true) (.t 16)),
  zM 18 17,
  zG 19 (.move (.t 0)) 18 false,
  zG 20 (.move (.t 1)) 18 false,
  zG 21 (.call 302 [(.t 19), (.t 20)]) 18 false,
  zO 22 (.pick (.t 18) (zB true) (.t 21))]
  (zc 22
  (zs [23] [23] [zM 23 6,
  zA 4 23,
  zK 5 (zB false)]
  .ret)
  .skip))
  (zs (zr 24 4) (zr 24 4) [zM 24 6,
  zM 25 1,
  zO 26 (.bslice [(.int .i64 0)] 1 [(0, (.t 25))]),
  zO 27 (.append 1 (.t 24) (.t 26)),
  zA 6 27]
  (zs [28,29,60] [28,29] [zM 28 6,
  zC 29 2346 [28]]
  (zs [30] [30] [zM 30 6,
  zA 4 30,
  zK 5 (zB true)]
  .ret))))))⟩
def ir265 : FnIr := ⟨0, 2, 8, [(3, none)], [],
  (zs [] [] [zK 3 (zB false)]
  (zs (zr 4 4) (zr 4 4) [zM 4 0,
  zF 5 1 1,
  zL 6 5,
  zb 7 .neq 4 6,
  zA 3 7]
  .ret))⟩
def ir296 : FnIr := ⟨0, 2, 38, [(4, none)], [],
  (zs [] [] [zK 4 zE]
  (zs [7] [7] [zO 7 (.bslice [(.int .i64 0), (.row () [])] 0 []),
  zA 5 7]
  (.seq (zs [] [] [zK 6 (zI 0)]
  (.block 0 (.loop (.seq (zs (zr 8 4) [8,9,10] [zM 8 6,
  zM 9 0,
  zl 10 9,
  zb 11 .lss 8 10]
  (zc 11
  .skip
  (.exit 0)))
  (.seq (.block 1 (zs (zr 14 7) (zr 14 6) [zM 14 0,
  zM 15 6,
  zp 16 2 14 15,
  zF 17 0 16,
  zL 18 17,
  zM 19 1,
  zb 20 .neq 18 19]
  (zc 20
  (.region true (zr 21 16) (zr 21 16) [zM 21 5,
  zM 22 0,
  zM 23 6,
  zv (zp 24 2 22 23) [1,2],
  zv (zF 25 0 24) [3,1,2],
  zv (zL 26 25) [4,3,1,2],
  zO 27 (.bslice [(.int .i64 0)] 0 []),
  zM 28 0,
  zM 29 6,
  zv (zp 30 2 28 29) [7,8],
  zv (zF 31 1 30) [9,7,8],
  zv (zL 32 31) [10,9,7,8],
  zv (zO 33 (.append 1 (.t 27) (.t 32))) [6,11,10,9,7,8],
  zv (zO 34 (.build [(.int .i64 0), (.row () [])] [(0, 1, (.t 26)), (1, 1, (.t 33))])) [5,4,3,1,2,12,6,11,10,9,7,8],
  zv (zO 35 (.bslice [(.int .i64 0), (.row () [])] 1 [(0, (.t 34))])) [13,5,4,3,1,2,12,6,11,10,9,7,8],
  zv (zO 36 (.append 2 (.t 21) (.t 35))) [0,14,13,5,4,3,1,2,12,6,11,10,9,7,8],
  zv (zA 5 36) [15,0,14,13,5,4,3,1,2,12,6,11,10,9,7,8]])
  .skip)))
  (zR [12,13] [12,13] [zM 12 6,
  zO 13 (.bin .add (.t 12) (zI 1)),
  zA 6 13]))))))
  (zs [37] [37] [zM 37 5,
  zA 4 37]
  .ret))))⟩
def ir142 : FnIr := ⟨0, 1, 11, [(2, none)], [],
  (zs [1,12] [] [zO 1 (.box (.t 0)),
  zK 2 (zB false)]
  (zs (zq 3 8 [16,20]) (zr 3 8) [zF 3 0 1,
  zL 4 3,
  zC 5 257 [4],
  zM 6 5,
  zG 7 (.faddr 1 (.t 1)) 6 true,
  zG 8 (.load false 1 (.t 7)) 6 true,
  zG 9 (.call 271 [(.t 8)]) 6 true,
  zO 10 (.pick (.t 6) (.t 9) (zB false)),
  zA 2 10]
  .ret))⟩
def ir117 : FnIr := ⟨0, 2, 55, [(4, (some (true, 2)))], [],
  (zs [2,3,4,57,58,59] [] [zO 2 (.box (.t 0)),
  zO 3 (.box (.t 1)),
  zO 4 (.alloc [(.row () []), (.row () [])])]
  (zs [7,8,5,63,60] [7,8] [zS 7 2 2,
  zC 8 261 [7],
  zO 5 (.alloc [(.row () []), (.row () [])]),
  zN (.store 2 (.t 5) (.t 8))]
  (.seq (zs [9,10] [9] [zF 9 0 3,
  zL 10 9]
  (.block 0 (zs [12] [12] [zO 12 (.bin .eql (.t 10) (zI 1)),
  zA 11 12]
  (zc 11
  (zR (zq 14 5 [13,19,20,21,73]) (zq 14 5 [13,19,20,21]) [zF 14 0 2,
  zL 15 14,
  zF 16 1 3,
  zL 17 16,
  zC 18 262 [15,17],
  zM 13 18,
  zO 19 (.extract 0 (.t 13)),
  zO 20 (.extract 1 (.t 13)),
  zF 21 0 5,
  zN (.store 1 (.t 21) (.t 19))])
  (zs [23] [23] [zO 23 (.bin .eql (.t 10) (zI 2)),
  zA 22 23]
  (zc 22
  (zR (zq 25 5 [24,30,31,32,84]) (zq 25 5 [24,30,31,32]) [zF 25 0 2,
  zL 26 25,
  zF 27 1 3,
  zL 28 27,
  zC 29 263 [26,28],
  zM 24 29,
  zO 30 (.extract 0 (.t 24)),
  zO 31 (.extract 1 (.t 24)),
  zF 32 0 5,
  zN (.store 1 (.t 32) (.t 30))])
  (zs [34] [34] [zO 34 (.bin .eql (.t 10) (zI 3)),
  zA 33 34]
  (zc 33
  (zR (zq 35 5 [93]) (zr 35 5) [zF 35 1 2,
  zL 36 35,
  zO 37 (.mkfn 265 [3]),
  zC 38 264 [36,37],
  zF 39 1 5,
  zN (.store 1 (.t 39) (.t 38))])
  (zs [41] [41] [zO 41 (.bin .eql (.t 10) (zI 6)),
  zA 40 41]
  (zc 40
  (.seq (.region true (zq 42 8 [99]) (zr 42 8) [zF 42 1 2,
  zv (zL 43 42) [0],
  zv (zC 44 266 [43]) [1,0],
  zF 45 1 3,
  zv (zL 46 45) [3],
  zv (zO 47 (.build [(.int .i64 0), (.row () [])] [(0, 1, (.t 46))])) [4,3],
  zv (zO 48 (.bslice [(.int .i64 0), (.row () [])] 1 [(0, (.t 47))])) [5,4,3],
  zv (zO 49 (.append 2 (.t 44) (.t 48))) [2,1,0,6,5,4,3],
  zv (zA 6 49) [7,2,1,0,6,5,4,3]])
  (zs [50,51,106] [50] [zM 50 6,
  zC 51 258 [50]]
  (zc 51
  (zR [52,53] [52,53] [zM 52 6,
  zF 53 1 5,
  zN (.store 1 (.t 53) (.t 52))])
  .skip)))
  .skip))))))))))
  (zs [54] [54] [zS 54 2 5,
  zN (.store 2 (.t 4) (.t 54))]
  .ret))))⟩
def ir155 : FnIr := ⟨0, 1, 11, [(2, (some (true, 2)))], [],
  (zs [1,2,12,13] [] [zO 1 (.box (.t 0)),
  zO 2 (.alloc [(.int .i64 0), (.int .i64 0)])]
  (zs [3,14] [] [zO 3 (.alloc [(.int .i64 0), (.int .i64 0)])]
  (zs [4,5,6] [4,5,6] [zF 4 0 1,
  zL 5 4,
  zF 6 0 3,
  zN (.store 1 (.t 6) (.t 5))]
  (zs [7,8,9] [7,8,9] [zF 7 1 1,
  zL 8 7,
  zF 9 1 3,
  zN (.store 1 (.t 9) (.t 8))]
  (zs [10] [10] [zS 10 2 3,
  zN (.store 2 (.t 2) (.t 10))]
  .ret)))))⟩
def ir280 : FnIr := ⟨0, 1, 21, [(2, none)], [],
  (zs [] [] [zK 2 zE]
  (zs [5] [5] [zO 5 (.bslice [(.int .i64 0)] 0 []),
  zA 3 5]
  (.seq (zs [] [] [zK 4 (zI 0)]
  (.block 0 (.loop (.seq (zs (zr 6 4) [6,7,8] [zM 6 4,
  zM 7 0,
  zl 8 7,
  zb 9 .lss 6 8]
  (zc 9
  .skip
  (.exit 0)))
  (.seq (.block 1 (zR (zr 12 8) (zr 12 8) [zM 12 3,
  zM 13 0,
  zM 14 4,
  zp 15 2 13 14,
  zF 16 0 15,
  zL 17 16,
  zO 18 (.bslice [(.int .i64 0)] 1 [(0, (.t 17))]),
  zO 19 (.append 1 (.t 12) (.t 18)),
  zA 3 19]))
  (zR [10,11] [10,11] [zM 10 4,
  zO 11 (.bin .add (.t 10) (zI 1)),
  zA 4 11]))))))
  (zs [20] [20] [zM 20 3,
  zA 2 20]
  .ret))))⟩
def ir307 : FnIr := ⟨0, 2, 38, [(4, none)], [],
  (zs [] [] [zK 4 zE]
  (zs [7] [7] [zO 7 (.bslice [(.int .i64 0), (.row () [])] 0 []),
  zA 5 7]
  (.seq (zs [] [] [zK 6 (zI 0)]
  (.block 0 (.loop (.seq (zs (zr 8 4) [8,9,10] [zM 8 6,
  zM 9 0,
  zl 10 9,
  zb 11 .lss 8 10]
  (zc 11
  .skip
  (.exit 0)))
  (.seq (.block 1 (zs (zq 14 7 [58]) (zr 14 6) [zM 14 1,
  zM 15 0,
  zM 16 6,
  zp 17 2 15 16,
  zF 18 0 17,
  zL 19 18,
  zC 20 285 [14,19]]
  (zc 20
  (.region true (zr 21 16) (zr 21 16) [zM 21 5,
  zM 22 0,
  zM 23 6,
  zv (zp 24 2 22 23) [1,2],
  zv (zF 25 0 24) [3,1,2],
  zv (zL 26 25) [4,3,1,2],
  zO 27 (.bslice [(.int .i64 0)] 0 []),
  zM 28 0,
  zM 29 6,
  zv (zp 30 2 28 29) [7,8],
  zv (zF 31 1 30) [9,7,8],
  zv (zL 32 31) [10,9,7,8],
  zv (zO 33 (.append 1 (.t 27) (.t 32))) [6,11,10,9,7,8],
  zv (zO 34 (.build [(.int .i64 0), (.row () [])] [(0, 1, (.t 26)), (1, 1, (.t 33))])) [5,4,3,1,2,12,6,11,10,9,7,8],
  zv (zO 35 (.bslice [(.int .i64 0), (.row () [])] 1 [(0, (.t 34))])) [13,5,4,3,1,2,12,6,11,10,9,7,8],
  zv (zO 36 (.append 2 (.t 21) (.t 35))) [0,14,13,5,4,3,1,2,12,6,11,10,9,7,8],
  zv (zA 5 36) [15,0,14,13,5,4,3,1,2,12,6,11,10,9,7,8]])
  .skip)))
  (zR [12,13] [12,13] [zM 12 6,
  zO 13 (.bin .add (.t 12) (zI 1)),
  zA 6 13]))))))
  (zs [37] [37] [zM 37 5,
  zA 4 37]
  .ret))))⟩
def ir295 : FnIr := ⟨0, 1, 7, [(2, none)], [],
  (zs [] [] [zK 2 zE]
  (zs (zq 3 4 [12,13]) (zr 3 4) [zM 3 0,
  zM 4 0,
  zC 5 280 [4],
  zC 6 307 [3,5],
  zA 2 6]
  .ret))⟩
def ir279 : FnIr := ⟨0, 1, 11, [(2, (some (true, 2)))], [],
  (zs [1,2,12,13] [] [zO 1 (.box (.t 0)),
  zO 2 (.alloc [(.row () []), (.row () [])])]
  (.seq (.region true (zq 3 8 [20]) (zr 3 8) [zO 3 (.bslice [(.int .i64 0)] 0 []),
  zF 4 0 1,
  zv (zL 5 4) [1],
  zv (zO 6 (.append 1 (.t 3) (.t 5))) [0,2,1],
  zF 7 1 1,
  zv (zL 8 7) [4],
  zv (zC 9 295 [8]) [5,4,3,0,2,1],
  zv (zO 10 (.build [(.row () []), (.row () [])] [(0, 1, (.t 6)), (1, 1, (.t 9))])) [3,0,2,1,6,5,4],
  zv (zN (.store 2 (.t 2) (.t 10))) [7,3,0,2,1,6,5,4]])
  .ret))⟩
def ir323 : FnIr := ⟨0, 2, 26, [(4, none), (5, none)], [],
  (zs [] [] [zK 4 zE,
  zK 5 (zB false)]
  (.seq (zs (zq 6 14 [33,38]) (zr 6 13) [zM 6 0,
  zC 7 257 [6],
  zn 8 7,
  zM 9 8,
  zG 10 (.move (.t 0)) 9 false,
  zG 11 (.move (.t 1)) 9 false,
  zG 12 (.call 285 [(.t 10), (.t 11)]) 9 false,
  zG 13 (.un .not (.t 12)) 9 false,
  zO 14 (.pick (.t 9) (zB true) (.t 13)),
  zM 15 14,
  zG 16 (.move (.t 0)) 15 false,
  zG 17 (.len false (.t 16)) 15 false,
  zG 18 (.bin .eql (.t 17) (zI 1)) 15 false,
  zO 19 (.pick (.t 15) (zB true) (.t 18))]
  (zc 19
  (zs [20,21,22] [20,21,22] [zO 20 (.bslice [(.int .i64 0)] 0 []),
  zM 21 0,
  zO 22 (.append 1 (.t 20) (.t 21)),
  zA 4 22,
  zK 5 (zB false)]
  .ret)
  .skip))
  (zs [23,24,25,51] [23,24,25] [zM 23 0,
  zM 24 1,
  zC 25 362 [23,24],
  zA 4 25,
  zK 5 (zB true)]
  .ret)))⟩
def ir345 : FnIr := ⟨0, 2, 47, [(4, none)], [],
  (zs [] [] [zK 4 zE]
  (zs [] [] [zK 5 (zI 0)]
  (.seq (.block 0 (.loop (.seq (zs (zr 6 12) (zr 6 11) [zM 6 5,
  zM 7 0,
  zl 8 7,
  zb 9 .lss 6 8,
  zM 10 9,
  zG 11 (.move (.t 0)) 10 true,
  zG 12 (.move (.t 5)) 10 true,
  zG 13 (.iaddr 1 (.t 11) (.t 12)) 10 true,
  zG 14 (.load false 1 (.t 13)) 10 true,
  zG 15 (.move (.t 1)) 10 true,
  zG 16 (.bin .lss (.t 14) (.t 15)) 10 true,
  zO 17 (.pick (.t 10) (.t 16) (zB false))]
  (zc 17
  .skip
  (.exit 0)))
  (.block 1 (zR [18,19] [18,19] [zM 18 5,
  zO 19 (.bin .add (.t 18) (zI 1)),
  zA 5 19])))))
  (.seq (zs (zr 20 12) (zr 20 11) [zM 20 5,
  zM 21 0,
  zl 22 21,
  zb 23 .lss 20 22,
  zM 24 23,
  zG 25 (.move (.t 0)) 24 true,
  zG 26 (.move (.t 5)) 24 true,
  zG 27 (.iaddr 1 (.t 25) (.t 26)) 24 true,
  zG 28 (.load false 1 (.t 27)) 24 true,
  zG 29 (.move (.t 1)) 24 true,
  zG 30 (.bin .eql (.t 28) (.t 29)) 24 true,
  zO 31 (.pick (.t 24) (.t 30) (zB false))]
  (zc 31
  (zs [32,33,34] [32,33,34] [zO 32 (.bslice [(.int .i64 0)] 0 []),
  zM 33 0,
  zO 34 (.append 1 (.t 32) (.t 33)),
  zA 4 34]
  .ret)
  .skip))
  (.seq (.region true (zr 35 12) (zr 35 12) [zO 35 (.bslice [(.int .i64 0)] 0 []),
  zM 36 0,
  zM 37 5,
  zv (zO 38 (.slice 1 (.t 36) none (some (.t 37)))) [1,2],
  zv (zO 39 (.append 1 (.t 35) (.t 38))) [0,3,1,2],
  zM 40 1,
  zv (zO 41 (.bslice [(.int .i64 0)] 1 [(0, (.t 40))])) [5],
  zv (zO 42 (.append 1 (.t 39) (.t 41))) [4,0,3,1,2,6,5],
  zM 43 0,
  zM 44 5,
  zv (zO 45 (.slice 1 (.t 43) (some (.t 44)) none)) [8,9],
  zv (zO 46 (.append 1 (.t 42) (.t 45))) [7,4,0,3,1,2,6,5,10,8,9],
  zv (zA 4 46) [11,7,4,0,3,1,2,6,5,10,8,9]])
  .ret)))))⟩
def ir324 : FnIr := ⟨0, 2, 25, [(4, none), (5, none)], [],
  (zs [] [] [zK 4 zE,
  zK 5 (zB false)]
  (.seq (zs (zq 6 13 [32,36,42]) (zr 6 12) [zM 6 0,
  zC 7 257 [6],
  zn 8 7,
  zM 9 8,
  zG 10 (.move (.t 1)) 9 false,
  zG 11 (.call 230 [(.t 10), (zI 1), (zI 9)]) 9 false,
  zG 12 (.un .not (.t 11)) 9 false,
  zO 13 (.pick (.t 9) (zB true) (.t 12)),
  zM 14 13,
  zG 15 (.move (.t 0)) 14 false,
  zG 16 (.move (.t 1)) 14 false,
  zG 17 (.call 285 [(.t 15), (.t 16)]) 14 false,
  zO 18 (.pick (.t 14) (zB true) (.t 17))]
  (zc 18
  (zs [19,20,21] [19,20,21] [zO 19 (.bslice [(.int .i64 0)] 0 []),
  zM 20 0,
  zO 21 (.append 1 (.t 19) (.t 20)),
  zA 4 21,
  zK 5 (zB false)]
  .ret)
  .skip))
  (zs [22,23,24,49] [22,23,24] [zM 22 0,
  zM 23 1,
  zC 24 345 [22,23],
  zA 4 24,
  zK 5 (zB true)]
  .ret)))⟩
def ir209 : FnIr := ⟨0, 2, 56, [(4, (some (true, 2)))], [],
  (zs [2,3,4,58,59,60] [] [zO 2 (.box (.t 0)),
  zO 3 (.box (.t 1)),
  zO 4 (.alloc [(.row () []), (.row () [])])]
  (zs [7,8,5,64,61] [7,8] [zS 7 2 2,
  zC 8 279 [7],
  zO 5 (.alloc [(.row () []), (.row () [])]),
  zN (.store 2 (.t 5) (.t 8))]
  (.seq (zs [9,10] [9] [zF 9 0 3,
  zL 10 9]
  (.block 0 (zs [12] [12] [zO 12 (.bin .eql (.t 10) (zI 1)),
  zA 11 12]
  (zc 11
  (zR (zq 14 5 [13,19,20,21,74]) (zq 14 5 [13,19,20,21]) [zF 14 0 2,
  zL 15 14,
  zF 16 1 3,
  zL 17 16,
  zC 18 323 [15,17],
  zM 13 18,
  zO 19 (.extract 0 (.t 13)),
  zO 20 (.extract 1 (.t 13)),
  zF 21 0 5,
  zN (.store 1 (.t 21) (.t 19))])
  (zs [23] [23] [zO 23 (.bin .eql (.t 10) (zI 2)),
  zA 22 23]
  (zc 22
  (zR (zq 25 5 [24,30,31,32,85]) (zq 25 5 [24,30,31,32]) [zF 25 0 2,
  zL 26 25,
  zF 27 1 3,
  zL 28 27,
  zC 29 324 [26,28],
  zM 24 29,
  zO 30 (.extract 0 (.t 24)),
  zO 31 (.extract 1 (.t 24)),
  zF 32 0 5,
  zN (.store 1 (.t 32) (.t 30))])
  (zs [34] [34] [zO 34 (.bin .eql (.t 10) (zI 3)),
  zA 33 34]
  (zc 33
  (zR (zq 35 6 [95]) (zr 35 6) [zF 35 1 2,
  zL 36 35,
  zF 37 1 3,
  zL 38 37,
  zC 39 296 [36,38],
  zF 40 1 5,
  zN (.store 1 (.t 40) (.t 39))])
  (zs [42] [42] [zO 42 (.bin .eql (.t 10) (zI 6)),
  zA 41 42]
  (zc 41
  (.seq (.region true (zq 43 8 [101]) (zr 43 8) [zF 43 1 2,
  zv (zL 44 43) [0],
  zv (zC 45 295 [44]) [1,0],
  zF 46 1 3,
  zv (zL 47 46) [3],
  zv (zO 48 (.build [(.int .i64 0), (.row () [])] [(0, 1, (.t 47))])) [4,3],
  zv (zO 49 (.bslice [(.int .i64 0), (.row () [])] 1 [(0, (.t 48))])) [5,4,3],
  zv (zO 50 (.append 2 (.t 45) (.t 49))) [2,1,0,6,5,4,3],
  zv (zA 6 50) [7,2,1,0,6,5,4,3]])
  (zs [51,52,108] [51] [zM 51 6,
  zC 52 271 [51]]
  (zc 52
  (zR [53,54] [53,54] [zM 53 6,
  zF 54 1 5,
  zN (.store 1 (.t 54) (.t 53))])
  .skip)))
  .skip))))))))))
  (zs [55] [55] [zS 55 2 5,
  zN (.store 2 (.t 4) (.t 55))]
  .ret))))⟩
def ir79 : FnIr := ⟨0, 2, 26, [(4, none)], [],
  (zs [] [] [zK 4 (zB false)]
  (.seq (zs (zr 6 5) (zr 6 4) [zM 6 0,
  zl 7 6,
  zM 8 1,
  zl 9 8,
  zb 10 .neq 7 9]
  (zc 10
  (zs [] [] [zK 4 (zB false)]
  .ret)
  .skip))
  (.seq (zs [] [] [zK 5 (zI 0)]
  (.block 0 (.loop (.seq (zs (zr 11 4) [11,12,13] [zM 11 5,
  zM 12 0,
  zl 13 12,
  zb 14 .lss 11 13]
  (zc 14
  .skip
  (.exit 0)))
  (.seq (.block 1 (.seq (.region true (zr 17 9) (zr 17 8) [zM 17 0,
  zM 18 5,
  zv (zp 19 1 17 18) [0,1],
  zv (zL 20 19) [2,0,1],
  zM 21 1,
  zM 22 5,
  zv (zp 23 1 21 22) [4,5],
  zv (zL 24 23) [6,4,5],
  zv (zb 25 .neq 20 24) [3,2,0,1,7,6,4,5]])
  (zc 25
  (zs [] [] [zK 4 (zB false)]
  .ret)
  .skip)))
  (zR [15,16] [15,16] [zM 15 5,
  zO 16 (.bin .add (.t 15) (zI 1)),
  zA 5 16]))))))
  (zs [] [] [zK 4 (zB true)]
  .ret))))⟩
def ir321 : FnIr := ⟨0, 2, 16, [(4, none)], [],
  (zs [2,3,18,19] [] [zO 2 (.box (.t 0)),
  zO 3 (.box (.t 1)),
  zK 4 (zB false)]
  (.seq (zs (zr 5 5) (zr 5 4) [zF 5 0 2,
  zL 6 5,
  zF 7 0 3,
  zL 8 7,
  zb 9 .neq 6 8]
  (zc 9
  (zs [] [] [zK 4 (zB false)]
  .ret)
  .skip))
  (.seq (zs (zq 10 6 [30]) (zr 10 5) [zF 10 1 2,
  zL 11 10,
  zF 12 1 3,
  zL 13 12,
  zC 14 79 [11,13],
  zn 15 14]
  (zc 15
  (zs [] [] [zK 4 (zB false)]
  .ret)
  .skip))
  (zs [] [] [zK 4 (zB true)]
  .ret))))⟩
def ir200 : FnIr := ⟨0, 2, 27, [(4, none)], [],
  (zs [] [] [zK 4 (zB false)]
  (.seq (zs (zr 6 5) (zr 6 4) [zM 6 0,
  zl 7 6,
  zM 8 1,
  zl 9 8,
  zb 10 .neq 7 9]
  (zc 10
  (zs [] [] [zK 4 (zB false)]
  .ret)
  .skip))
  (.seq (zs [] [] [zK 5 (zI 0)]
  (.block 0 (.loop (.seq (zs (zr 11 4) [11,12,13] [zM 11 5,
  zM 12 0,
  zl 13 12,
  zb 14 .lss 11 13]
  (zc 14
  .skip
  (.exit 0)))
  (.seq (.block 1 (.seq (.region true (zq 17 10 [52]) (zr 17 9) [zM 17 0,
  zM 18 5,
  zv (zp 19 2 17 18) [0,1],
  zv (zS 20 2 19) [2,0,1],
  zM 21 1,
  zM 22 5,
  zv (zp 23 2 21 22) [4,5],
  zv (zS 24 2 23) [6,4,5],
  zv (zC 25 321 [20,24]) [3,2,0,1,7,6,4,5],
  zv (zn 26 25) [8,3,2,0,1,7,6,4,5]])
  (zc 26
  (zs [] [] [zK 4 (zB false)]
  .ret)
  .skip)))
  (zR [15,16] [15,16] [zM 15 5,
  zO 16 (.bin .add (.t 15) (zI 1)),
  zA 5 16]))))))
  (zs [] [] [zK 4 (zB true)]
  .ret))))⟩
def ir78 : FnIr := ⟨0, 2, 17, [(4, none)], [],
  (zs [2,3,19,20] [] [zO 2 (.box (.t 0)),
  zO 3 (.box (.t 1)),
  zK 4 (zB false)]
  (.seq (zs (zq 5 6 [26]) (zr 5 5) [zF 5 0 2,
  zL 6 5,
  zF 7 0 3,
  zL 8 7,
  zC 9 79 [6,8],
  zn 10 9]
  (zc 10
  (zs [] [] [zK 4 (zB false)]
  .ret)
  .skip))
  (.seq (zs (zq 11 6 [32]) (zr 11 5) [zF 11 1 2,
  zL 12 11,
  zF 13 1 3,
  zL 14 13,
  zC 15 200 [12,14],
  zn 16 15]
  (zc 16
  (zs [] [] [zK 4 (zB false)]
  .ret)
  .skip))
  (zs [] [] [zK 4 (zB true)]
  .ret))))⟩
def ir125 : FnIr := ⟨0, 2, 21, [(4, none)], [],
  (zs [] [] [zK 4 (zI 0)]
  (.seq (zs [] [] [zK 5 (zI 0)]
  (.block 0 (.loop (.seq (zs (zr 6 4) [6,7,8] [zM 6 5,
  zM 7 0,
  zl 8 7,
  zb 9 .lss 6 8]
  (zc 9
  .skip
  (.exit 0)))
  (.seq (.block 1 (.seq (zs (zr 12 6) (zr 12 5) [zM 12 0,
  zM 13 5,
  zp 14 1 12 13,
  zL 15 14,
  zM 16 1,
  zb 17 .neq 15 16]
  (zc 17
  (zs [] [] [zK 4 (zI (-1))]
  .ret)
  .skip))
  (zR [18,19] [18,19] [zM 18 1,
  zO 19 (.bin .add (.t 18) (zI 1)),
  zA 1 19])))
  (zR [10,11] [10,11] [zM 10 5,
  zO 11 (.bin .add (.t 10) (zI 1)),
  zA 5 11]))))))
  (zs [20] [20] [zM 20 1,
  zA 4 20]
  .ret)))⟩
def ir236 : FnIr := ⟨0, 2, 31, [(4, none)], [],
  (zs [] [] [zK 4 (zI 0)]
  (.seq (zs [] [] [zK 5 (zI 0)]
  (.block 0 (.loop (.seq (zs (zr 6 4) [6,7,8] [zM 6 5,
  zM 7 0,
  zl 8 7,
  zb 9 .lss 6 8]
  (zc 9
  .skip
  (.exit 0)))
  (.seq (.block 1 (.seq (zs (zr 12 7) (zr 12 6) [zM 12 0,
  zM 13 5,
  zp 14 2 12 13,
  zF 15 0 14,
  zL 16 15,
  zM 17 1,
  zb 18 .neq 16 17]
  (zc 18
  (zs [] [] [zK 4 (zI (-1))]
  .ret)
  .skip))
  (zs [19,20] [19,20] [zM 19 1,
  zO 20 (.bin .add (.t 19) (zI 1)),
  zA 1 20]
  (zs (zq 21 7 [58]) (zr 21 7) [zM 21 0,
  zM 22 5,
  zp 23 2 21 22,
  zF 24 1 23,
  zL 25 24,
  zM 26 1,
  zC 27 125 [25,26],
  zA 1 27]
  (zs [28,29] [28] [zM 28 1,
  zO 29 (.bin .lss (.t 28) (zI 0))]
  (zc 29
  (zs [] [] [zK 4 (zI (-1))]
  .ret)
  .skip))))))
  (zR [10,11] [10,11] [zM 10 5,
  zO 11 (.bin .add (.t 10) (zI 1)),
  zA 5 11]))))))
  (zs [30] [30] [zM 30 1,
  zA 4 30]
  .ret)))⟩
def ir82 : FnIr := ⟨0, 2, 18, [(4, none)], [],
  (zs [2,20] [] [zO 2 (.box (.t 0)),
  zK 4 (zI 0)]
  (zs (zq 5 4 [26]) (zr 5 4) [zF 5 0 2,
  zL 6 5,
  zM 7 1,
  zC 8 125 [6,7],
  zA 1 8]
  (.seq (zs [9,10] [9] [zM 9 1,
  zO 10 (.bin .lss (.t 9) (zI 0))]
  (zc 10
  (zs [] [] [zK 4 (zI (-1))]
  .ret)
  .skip))
  (zs (zq 11 4 [32]) (zr 11 4) [zF 11 1 2,
  zL 12 11,
  zM 13 1,
  zC 14 236 [12,13],
  zA 1 14]
  (.seq (zs [15,16] [15] [zM 15 1,
  zO 16 (.bin .lss (.t 15) (zI 0))]
  (zc 16
  (zs [] [] [zK 4 (zI (-1))]
  .ret)
  .skip))
  (zs [17] [17] [zM 17 1,
  zA 4 17]
  .ret))))))⟩
def ir227 : FnIr := ⟨0, 2, 12, [(4, none)], [],
  (zs [] [] [zK 4 (zI 0)]
  (zs (zr 5 4) (zr 5 4) [zM 5 1,
  zM 6 0,
  zl 7 6,
  zb 8 .sub 5 7,
  zA 1 8]
  (.seq (zs [9,10] [9] [zM 9 1,
  zO 10 (.bin .lss (.t 9) (zI 0))]
  (zc 10
  (zs [] [] [zK 4 (zI (-1))]
  .ret)
  .skip))
  (zs [11] [11] [zM 11 1,
  zA 4 11]
  .ret))))⟩
def ir319 : FnIr := ⟨0, 2, 12, [(4, none)], [],
  (zs [2,14] [] [zO 2 (.box (.t 0)),
  zK 4 (zI 0)]
  (zs (zq 5 4 [20]) (zr 5 4) [zF 5 1 2,
  zL 6 5,
  zM 7 1,
  zC 8 227 [6,7],
  zA 1 8]
  (.seq (zs [9,10] [9] [zM 9 1,
  zO 10 (.bin .lss (.t 9) (zI 0))]
  (zc 10
  (zs [] [] [zK 4 (zI (-1))]
  .ret)
  .skip))
  (zs [11] [11] [zM 11 1,
  zA 4 11]
  .ret))))⟩
def ir197 : FnIr := ⟨0, 2, 27, [(4, none)], [],
  (zs [] [] [zK 4 (zI 0)]
  (zs (zr 6 4) (zr 6 4) [zM 6 1,
  zM 7 0,
  zl 8 7,
  zb 9 .sub 6 8,
  zA 1 9]
  (.seq (zs [10,11] [10] [zM 10 1,
  zO 11 (.bin .lss (.t 10) (zI 0))]
  (zc 11
  (zs [] [] [zK 4 (zI (-1))]
  .ret)
  .skip))
  (.seq (zs [] [] [zK 5 (zI 0)]
  (.block 0 (.loop (.seq (zs (zr 12 4) [12,13,14] [zM 12 5,
  zM 13 0,
  zl 14 13,
  zb 15 .lss 12 14]
  (zc 15
  .skip
  (.exit 0)))
  (.seq (.block 1 (zs (zq 18 6 [50]) (zr 18 6) [zM 18 0,
  zM 19 5,
  zp 20 2 18 19,
  zS 21 2 20,
  zM 22 1,
  zC 23 319 [21,22],
  zA 1 23]
  (zs [24,25] [24] [zM 24 1,
  zO 25 (.bin .lss (.t 24) (zI 0))]
  (zc 25
  (zs [] [] [zK 4 (zI (-1))]
  .ret)
  .skip))))
  (zR [16,17] [16,17] [zM 16 5,
  zO 17 (.bin .add (.t 16) (zI 1)),
  zA 5 17]))))))
  (zs [26] [26] [zM 26 1,
  zA 4 26]
  .ret)))))⟩
def ir83 : FnIr := ⟨0, 2, 18, [(4, none)], [],
  (zs [2,20] [] [zO 2 (.box (.t 0)),
  zK 4 (zI 0)]
  (zs (zq 5 4 [26]) (zr 5 4) [zF 5 0 2,
  zL 6 5,
  zM 7 1,
  zC 8 227 [6,7],
  zA 1 8]
  (.seq (zs [9,10] [9] [zM 9 1,
  zO 10 (.bin .lss (.t 9) (zI 0))]
  (zc 10
  (zs [] [] [zK 4 (zI (-1))]
  .ret)
  .skip))
  (zs (zq 11 4 [32]) (zr 11 4) [zF 11 1 2,
  zL 12 11,
  zM 13 1,
  zC 14 197 [12,13],
  zA 1 14]
  (.seq (zs [15,16] [15] [zM 15 1,
  zO 16 (.bin .lss (.t 15) (zI 0))]
  (zc 16
  (zs [] [] [zK 4 (zI (-1))]
  .ret)
  .skip))
  (zs [17] [17] [zM 17 1,
  zA 4 17]
  .ret))))))⟩
def ir76 : FnIr := ⟨0, 1, 22, [(2, none)], [],
  (zs [] [] [zK 2 zE]
  (zs [5,6,7] [5,6,7] [zM 5 0,
  zl 6 5,
  zO 7 (.mkslice [(.int .i64 0)] (.t 6) (.t 6)),
  zA 3 7]
  (.seq (zs [] [] [zK 4 (zI 0)]
  (.block 0 (.loop (.seq (zs (zr 8 4) [8,9,10] [zM 8 4,
  zM 9 0,
  zl 10 9,
  zb 11 .lss 8 10]
  (zc 11
  .skip
  (.exit 0)))
  (.seq (.block 1 (zR (zr 14 7) (zr 14 7) [zM 14 3,
  zM 15 4,
  zM 16 0,
  zM 17 4,
  zp 18 1 16 17,
  zL 19 18,
  zp 20 1 14 15,
  zN (.rstore 1 (.t 20) (.t 19))]))
  (zR [12,13] [12,13] [zM 12 4,
  zO 13 (.bin .add (.t 12) (zI 1)),
  zA 4 13]))))))
  (zs [21] [21] [zM 21 3,
  zA 2 21]
  .ret))))⟩
def ir320 : FnIr := ⟨0, 1, 12, [(2, (some (true, 2)))], [],
  (zs [1,2,13,14] [] [zO 1 (.box (.t 0)),
  zO 2 (.alloc [(.int .i64 0), (.row () [])])]
  (zs [3,15] [] [zO 3 (.alloc [(.int .i64 0), (.row () [])])]
  (zs [4,5,6] [4,5,6] [zF 4 0 1,
  zL 5 4,
  zF 6 0 3,
  zN (.store 1 (.t 6) (.t 5))]
  (zs (zq 7 4 [21]) (zr 7 4) [zF 7 1 1,
  zL 8 7,
  zC 9 76 [8],
  zF 10 1 3,
  zN (.store 1 (.t 10) (.t 9))]
  (zs [11] [11] [zS 11 2 3,
  zN (.store 2 (.t 2) (.t 11))]
  .ret)))))⟩
def ir199 : FnIr := ⟨0, 1, 23, [(2, none)], [],
  (zs [] [] [zK 2 zE]
  (zs [5,6,7] [5,6,7] [zM 5 0,
  zl 6 5,
  zO 7 (.mkslice [(.int .i64 0), (.row () [])] (.t 6) (.t 6)),
  zA 3 7]
  (.seq (zs [] [] [zK 4 (zI 0)]
  (.block 0 (.loop (.seq (zs (zr 8 4) [8,9,10] [zM 8 4,
  zM 9 0,
  zl 10 9,
  zb 11 .lss 8 10]
  (zc 11
  .skip
  (.exit 0)))
  (.seq (.block 1 (zR (zq 14 8 [43]) (zr 14 8) [zM 14 3,
  zM 15 4,
  zM 16 0,
  zM 17 4,
  zp 18 2 16 17,
  zS 19 2 18,
  zC 20 320 [19],
  zp 21 2 14 15,
  zN (.rstore 2 (.t 21) (.t 20))]))
  (zR [12,13] [12,13] [zM 12 4,
  zO 13 (.bin .add (.t 12) (zI 1)),
  zA 4 13]))))))
  (zs [22] [22] [zM 22 3,
  zA 2 22]
  .ret))))⟩
def ir85 : FnIr := ⟨0, 1, 13, [(2, (some (true, 2)))], [],
  (zs [1,2,14,15] [] [zO 1 (.box (.t 0)),
  zO 2 (.alloc [(.row () []), (.row () [])])]
  (zs [3,16] [] [zO 3 (.alloc [(.row () []), (.row () [])])]
  (zs (zq 4 4 [19]) (zr 4 4) [zF 4 0 1,
  zL 5 4,
  zC 6 76 [5],
  zF 7 0 3,
  zN (.store 1 (.t 7) (.t 6))]
  (zs (zq 8 4 [23]) (zr 8 4) [zF 8 1 1,
  zL 9 8,
  zC 10 199 [9],
  zF 11 1 3,
  zN (.store 1 (.t 11) (.t 10))]
  (zs [12] [12] [zS 12 2 3,
  zN (.store 2 (.t 2) (.t 12))]
  .ret)))))⟩
def ir50 : FnIr := ⟨0, 2, 77, [(4, none)], [],
  (zs [2,3,79,80] [] [zO 2 (.box (.t 0)),
  zO 3 (.box (.t 1)),
  zK 4 (zB false)]
  (zs [] [] [zK 5 (zI 1048576)]
  (zs [13,14,15,92] [13,14,15] [zS 13 2 2,
  zM 14 5,
  zC 15 83 [13,14],
  zA 5 15]
  (.seq (zs [16,17] [16] [zM 16 5,
  zO 17 (.bin .lss (.t 16) (zI 0))]
  (zc 17
  (zs [] [] [zK 4 (zB true)]
  .ret)
  .skip))
  (.seq (.region true (zq 18 5 [6,96,98,99,83]) (zr 18 5) [zS 18 2 2,
  zv (zC 19 85 [18]) [0],
  zS 20 2 3,
  zv (zC 21 155 [20]) [2,1,0],
  zv (zC 22 209 [19,21]) [1,0,3,2],
  zO 6 (.alloc [(.row () []), (.row () [])]),
  zv (zN (.store 2 (.t 6) (.t 22))) [5,4,1,0,3,2]])
  (zs [23,24,7,101,84] [23,24] [zS 23 2 2,
  zC 24 85 [23],
  zO 7 (.alloc [(.row () []), (.row () [])]),
  zN (.store 2 (.t 7) (.t 24))]
  (.seq (.region true (zq 25 4 [8,104,105,85]) (zr 25 4) [zS 25 2 7,
  zS 26 2 3,
  zv (zC 27 155 [26]) [1],
  zv (zC 28 117 [25,27]) [0,2,1],
  zO 8 (.alloc [(.row () []), (.row () [])]),
  zv (zN (.store 2 (.t 8) (.t 28))) [4,3,0,2,1]])
  (.seq (zs (zq 29 4 [108]) [29,30,31] [zS 29 2 8,
  zS 30 2 6,
  zC 31 78 [29,30],
  zn 32 31]
  (zc 32
  (zs [] [] [zK 4 (zB false)]
  .ret)
  .skip))
  (.seq (.seq (.region true (zq 33 5 [112,113]) (zr 33 4) [zS 33 2 7,
  zS 34 2 2,
  zv (zC 35 85 [34]) [1],
  zv (zC 36 78 [33,35]) [0,2,1],
  zv (zn 37 36) [3,0,2,1]])
  (zc 37
  (zs [] [] [zK 4 (zB false)]
  .ret)
  .skip))
  (zs [] [] [zK 9 (zI 1)]
  (zs [38,39,40,117] [38,39,40] [zS 38 2 7,
  zM 39 9,
  zC 40 1081 [38,39],
  zA 9 40]
  (.seq (zs (zq 41 8 [123]) (zr 41 7) [zM 41 9,
  zO 42 (.bin .lss (.t 41) (zI 0)),
  zM 43 42,
  zG 44 (.load true 2 (.t 8)) 43 false,
  zG 45 (.load true 2 (.t 6)) 43 false,
  zG 46 (.call 78 [(.t 44), (.t 45)]) 43 false,
  zG 47 (.un .not (.t 46)) 43 false,
  zO 48 (.pick (.t 43) (zB true) (.t 47))]
  (zc 48
  (zs [] [] [zK 4 (zB false)]
  .ret)
  .skip))
  (zs [] [] [zK 10 (zI 1)]
  (zs [49,50,51,128] [49,50,51] [zS 49 2 8,
  zM 50 10,
  zC 51 1081 [49,50],
  zA 10 51]
  (zs [] [] [zK 11 (zI 1)]
  (zs [52,53,54,131] [52,53,54] [zS 52 2 8,
  zM 53 11,
  zC 54 82 [52,53],
  zA 11 54]
  (.seq (zs [55,56] [55] [zM 55 11,
  zO 56 (.bin .lss (.t 55) (zI 0))]
  (zc 56
  (zs [] [] [zK 4 (zB false)]
  .ret)
  .skip))
  (.seq (zs [57,58,59] [57,58] [zM 57 11,
  zM 58 10,
  zb 59 .neq 57 58]
  (zc 59
  (zs [] [] [zK 4 (zB false)]
  .ret)
  .skip))
  (.seq (.region true (zq 60 5 [12,138,140,141,89]) (zr 60 5) [zS 60 2 2,
  zv (zC 61 85 [60]) [0],
  zS 62 2 3,
  zv (zC 63 155 [62]) [2,1,0],
  zv (zC 64 117 [61,63]) [1,0,3,2],
  zO 12 (.alloc [(.row () []), (.row () [])]),
  zv (zN (.store 2 (.t 12) (.t 64))) [5,4,1,0,3,2]])
  (.seq (zs (zq 65 4 [144]) [65,66,67] [zS 65 2 12,
  zS 66 2 6,
  zC 67 78 [65,66],
  zn 68 67]
  (zc 68
  (zs [] [] [zK 4 (zB false)]
  .ret)
  .skip))
  (zs [] [] [zK 11 (zI 1)]
  (zs [69,70,71,148] [69,70,71] [zS 69 2 8,
  zM 70 11,
  zC 71 82 [69,70],
  zA 11 71]
  (.seq (zs [72,73] [72] [zM 72 11,
  zO 73 (.bin .lss (.t 72) (zI 0))]
  (zc 73
  (zs [] [] [zK 4 (zB false)]
  .ret)
  .skip))
  (.seq (zs [74,75,76] [74,75] [zM 74 11,
  zM 75 10,
  zb 76 .neq 74 75]
  (zc 76
  (zs [] [] [zK 4 (zB false)]
  .ret)
  .skip))
  (zs [] [] [zK 4 (zB true)]
  .ret)))))))))))))))))))))))))⟩
def tbl : List (Nat × FnIr) := [(1080, ir1080), (1201, ir1201), (1081, ir1081), (232, ir232), (377, ir377), (336, ir336), (340, ir340), (233, ir233), (230, ir230), (231, ir231), (286, ir286), (271, ir271), (351, ir351), (352, ir352), (290, ir290), (258, ir258), (264, ir264), (347, ir347), (266, ir266), (261, ir261), (257, ir257), (255, ir255), (285, ir285), (354, ir354), (302, ir302), (287, ir287), (362, ir362), (262, ir262), (2346, ir2346), (263, ir263), (265, ir265), (296, ir296), (142, ir142), (117, ir117), (155, ir155), (280, ir280), (307, ir307), (295, ir295), (279, ir279), (323, ir323), (345, ir345), (324, ir324), (209, ir209), (79, ir79), (321, ir321), (200, ir200), (78, ir78), (125, ir125), (236, ir236), (82, ir82), (227, ir227), (319, ir319), (197, ir197), (83, ir83), (76, ir76), (320, ir320), (199, ir199), (85, ir85), (50, ir50)]
def Tb (g : Nat) : Option FnIr := tbl.lookup g
theorem tb_1080 : Tb 1080 = some ir1080 := rfl
theorem tb_1201 : Tb 1201 = some ir1201 := rfl
theorem tb_1081 : Tb 1081 = some ir1081 := rfl
theorem tb_232 : Tb 232 = some ir232 := rfl
theorem tb_377 : Tb 377 = some ir377 := rfl
theorem tb_336 : Tb 336 = some ir336 := rfl
theorem tb_340 : Tb 340 = some ir340 := rfl
theorem tb_233 : Tb 233 = some ir233 := rfl
theorem tb_230 : Tb 230 = some ir230 := rfl
theorem tb_231 : Tb 231 = some ir231 := rfl
theorem tb_286 : Tb 286 = some ir286 := rfl
theorem tb_271 : Tb 271 = some ir271 := rfl
theorem tb_351 : Tb 351 = some ir351 := rfl
theorem tb_352 : Tb 352 = some ir352 := rfl
theorem tb_290 : Tb 290 = some ir290 := rfl
theorem tb_258 : Tb 258 = some ir258 := rfl
theorem tb_264 : Tb 264 = some ir264 := rfl
theorem tb_347 : Tb 347 = some ir347 := rfl
theorem tb_266 : Tb 266 = some ir266 := rfl
theorem tb_261 : Tb 261 = some ir261 := rfl
theorem tb_257 : Tb 257 = some ir257 := rfl
theorem tb_255 : Tb 255 = some ir255 := rfl
theorem tb_285 : Tb 285 = some ir285 := rfl
theorem tb_354 : Tb 354 = some ir354 := rfl
theorem tb_302 : Tb 302 = some ir302 := rfl
theorem tb_287 : Tb 287 = some ir287 := rfl
theorem tb_362 : Tb 362 = some ir362 := rfl
theorem tb_262 : Tb 262 = some ir262 := rfl
theorem tb_2346 : Tb 2346 = some ir2346 := rfl
theorem tb_263 : Tb 263 = some ir263 := rfl
theorem tb_265 : Tb 265 = some ir265 := rfl
theorem tb_296 : Tb 296 = some ir296 := rfl
theorem tb_142 : Tb 142 = some ir142 := rfl
theorem tb_117 : Tb 117 = some ir117 := rfl
theorem tb_155 : Tb 155 = some ir155 := rfl
theorem tb_280 : Tb 280 = some ir280 := rfl
theorem tb_307 : Tb 307 = some ir307 := rfl
theorem tb_295 : Tb 295 = some ir295 := rfl
theorem tb_279 : Tb 279 = some ir279 := rfl
theorem tb_323 : Tb 323 = some ir323 := rfl
theorem tb_345 : Tb 345 = some ir345 := rfl
theorem tb_324 : Tb 324 = some ir324 := rfl
theorem tb_209 : Tb 209 = some ir209 := rfl
theorem tb_79 : Tb 79 = some ir79 := rfl
theorem tb_321 : Tb 321 = some ir321 := rfl
theorem tb_200 : Tb 200 = some ir200 := rfl
theorem tb_78 : Tb 78 = some ir78 := rfl
theorem tb_125 : Tb 125 = some ir125 := rfl
theorem tb_236 : Tb 236 = some ir236 := rfl
theorem tb_82 : Tb 82 = some ir82 := rfl
theorem tb_227 : Tb 227 = some ir227 := rfl
theorem tb_319 : Tb 319 = some ir319 := rfl
theorem tb_197 : Tb 197 = some ir197 := rfl
theorem tb_83 : Tb 83 = some ir83 := rfl
theorem tb_76 : Tb 76 = some ir76 := rfl
theorem tb_320 : Tb 320 = some ir320 := rfl
theorem tb_199 : Tb 199 = some ir199 := rfl
theorem tb_85 : Tb 85 = some ir85 := rfl
theorem tb_50 : Tb 50 = some ir50 := rfl
end Go.Vm
