/- The code of the functions that the law reaches, as data. -/
import Derived.Test.YtfidmkhcipcnmaaGreatVmF
set_option maxHeartbeats 4000000
set_option maxRecDepth 10000
set_option linter.unusedVariables false
set_option linter.unusedSimpArgs false
namespace Go.Vm
def ir227:FnIr:=⟨0,2,12,[(4,none)],[],
  (zs [] [] [zK 4 (zI 0)]
  (zs (zr 5 4) (zr 5 4) [zM 5 1,
  zM 6 0,
  zl 7 6,
  zb 8 .sub 5 7,
  zA 1 8]
  (.seq (zs [9,10] [9] [zM 9 1,
  zO 10 (.bin .lss (.t 9) (zI 0))]
  (zc 10
  (zs [] [] [zK 4 (zI (-1))]
  .ret)
  .skip))
  (zs [11] [11] [zM 11 1,
  zA 4 11]
  .ret))))⟩
def ir56:FnIr:=⟨0,2,18,[(4,none)],[],
  (zs [2,20] [] [zO 2 (.box (.t 0)),
  zK 4 (zI 0)]
  (zs (zq 5 4 [26]) (zr 5 4) [zF 5 1 2,
  zL 6 5,
  zM 7 1,
  zC 8 227 [6,7],
  zA 1 8]
  (.seq (zs [9,10] [9] [zM 9 1,
  zO 10 (.bin .lss (.t 9) (zI 0))]
  (zc 10
  (zs [] [] [zK 4 (zI (-1))]
  .ret)
  .skip))
  (zs (zq 11 4 [32]) (zr 11 4) [zF 11 2 2,
  zL 12 11,
  zM 13 1,
  zC 14 227 [12,13],
  zA 1 14]
  (.seq (zs [15,16] [15] [zM 15 1,
  zO 16 (.bin .lss (.t 15) (zI 0))]
  (zc 16
  (zs [] [] [zK 4 (zI (-1))]
  .ret)
  .skip))
  (zs [17] [17] [zM 17 1,
  zA 4 17]
  .ret))))))⟩
def ir101:FnIr:=⟨0,2,27,[(4,none)],[],
  (zs [] [] [zK 4 (zI 0)]
  (zs (zr 6 4) (zr 6 4) [zM 6 1,
  zM 7 0,
  zl 8 7,
  zb 9 .sub 6 8,
  zA 1 9]
  (.seq (zs [10,11] [10] [zM 10 1,
  zO 11 (.bin .lss (.t 10) (zI 0))]
  (zc 11
  (zs [] [] [zK 4 (zI (-1))]
  .ret)
  .skip))
  (.seq (zs [] [] [zK 5 (zI 0)]
  (.block 0 (.loop (.seq (zs (zr 12 4) [12,13,14] [zM 12 5,
  zM 13 0,
  zl 14 13,
  zb 15 .lss 12 14]
  (zc 15
  .skip
  (.exit 0)))
  (.seq (.block 1 (zs (zq 18 6 [50]) (zr 18 6) [zM 18 0,
  zM 19 5,
  zp 20 4 18 19,
  zS 21 4 20,
  zM 22 1,
  zC 23 56 [21,22],
  zA 1 23]
  (zs [24,25] [24] [zM 24 1,
  zO 25 (.bin .lss (.t 24) (zI 0))]
  (zc 25
  (zs [] [] [zK 4 (zI (-1))]
  .ret)
  .skip))))
  (zR [16,17] [16,17] [zM 16 5,
  zO 17 (.bin .add (.t 16) (zI 1)),
  zA 5 17]))))))
  (zs [26] [26] [zM 26 1,
  zA 4 26]
  .ret)))))⟩
def ir76:FnIr:=⟨0,1,22,[(2,none)],[],
  (zs [] [] [zK 2 zE]
  (zs [5,6,7] [5,6,7] [zM 5 0,
  zl 6 5,
  zO 7 (.mkslice [(.int .i64 0)] (.t 6) (.t 6)),
  zA 3 7]
  (.seq (zs [] [] [zK 4 (zI 0)]
  (.block 0 (.loop (.seq (zs (zr 8 4) [8,9,10] [zM 8 4,
  zM 9 0,
  zl 10 9,
  zb 11 .lss 8 10]
  (zc 11
  .skip
  (.exit 0)))
  (.seq (.block 1 (zR (zr 14 7) (zr 14 7) [zM 14 3,
  zM 15 4,
  zM 16 0,
  zM 17 4,
  zp 18 1 16 17,
  zL 19 18,
  zp 20 1 14 15,
  zN (.rstore 1 (.t 20) (.t 19))]))
  (zR [12,13] [12,13] [zM 12 4,
  zO 13 (.bin .add (.t 12) (zI 1)),
  zA 4 13]))))))
  (zs [21] [21] [zM 21 3,
  zA 2 21]
  .ret))))⟩
def ir58:FnIr:=⟨0,1,19,[(2,(some (true,4)))],[],
  (zs [1,2,20,21] [] [zO 1 (.box (.t 0)),
  zO 2 (.alloc [(.int .i64 0),(.row () []),(.row () []),(.bool false)])]
  (zs [3,22] [] [zO 3 (.alloc [(.int .i64 0),(.row () []),(.row () []),(.bool false)])]
  (zs [4,5,6] [4,5,6] [zF 4 0 1,
  zL 5 4,
  zF 6 0 3,
  zN (.store 1 (.t 6) (.t 5))]
  (zs (zq 7 4 [28]) (zr 7 4) [zF 7 1 1,
  zL 8 7,
  zC 9 76 [8],
  zF 10 1 3,
  zN (.store 1 (.t 10) (.t 9))]
  (zs (zq 11 4 [32]) (zr 11 4) [zF 11 2 1,
  zL 12 11,
  zC 13 76 [12],
  zF 14 2 3,
  zN (.store 1 (.t 14) (.t 13))]
  (zs [15,16,17] [15,16,17] [zF 15 3 1,
  zL 16 15,
  zF 17 3 3,
  zN (.store 1 (.t 17) (.t 16))]
  (zs [18] [18] [zS 18 4 3,
  zN (.store 4 (.t 2) (.t 18))]
  .ret)))))))⟩
def ir103:FnIr:=⟨0,1,23,[(2,none)],[],
  (zs [] [] [zK 2 zE]
  (zs [5,6,7] [5,6,7] [zM 5 0,
  zl 6 5,
  zO 7 (.mkslice [(.int .i64 0),(.row () []),(.row () []),(.bool false)] (.t 6) (.t 6)),
  zA 3 7]
  (.seq (zs [] [] [zK 4 (zI 0)]
  (.block 0 (.loop (.seq (zs (zr 8 4) [8,9,10] [zM 8 4,
  zM 9 0,
  zl 10 9,
  zb 11 .lss 8 10]
  (zc 11
  .skip
  (.exit 0)))
  (.seq (.block 1 (zR (zq 14 8 [43]) (zr 14 8) [zM 14 3,
  zM 15 4,
  zM 16 0,
  zM 17 4,
  zp 18 4 16 17,
  zS 19 4 18,
  zC 20 58 [19],
  zp 21 4 14 15,
  zN (.rstore 4 (.t 21) (.t 20))]))
  (zR [12,13] [12,13] [zM 12 4,
  zO 13 (.bin .add (.t 12) (zI 1)),
  zA 4 13]))))))
  (zs [22] [22] [zM 22 3,
  zA 2 22]
  .ret))))⟩
def ir79:FnIr:=⟨0,2,26,[(4,none)],[],
  (zs [] [] [zK 4 (zB false)]
  (.seq (zs (zr 6 5) (zr 6 4) [zM 6 0,
  zl 7 6,
  zM 8 1,
  zl 9 8,
  zb 10 .neq 7 9]
  (zc 10
  (zs [] [] [zK 4 (zB false)]
  .ret)
  .skip))
  (.seq (zs [] [] [zK 5 (zI 0)]
  (.block 0 (.loop (.seq (zs (zr 11 4) [11,12,13] [zM 11 5,
  zM 12 0,
  zl 13 12,
  zb 14 .lss 11 13]
  (zc 14
  .skip
  (.exit 0)))
  (.seq (.block 1 (.seq (.region true (zr 17 9) (zr 17 8) [zM 17 0,
  zM 18 5,
  zv (zp 19 1 17 18) [0,1],
  zv (zL 20 19) [2,0,1],
  zM 21 1,
  zM 22 5,
  zv (zp 23 1 21 22) [4,5],
  zv (zL 24 23) [6,4,5],
  zv (zb 25 .neq 20 24) [3,2,0,1,7,6,4,5]])
  (zc 25
  (zs [] [] [zK 4 (zB false)]
  .ret)
  .skip)))
  (zR [15,16] [15,16] [zM 15 5,
  zO 16 (.bin .add (.t 15) (zI 1)),
  zA 5 16]))))))
  (zs [] [] [zK 4 (zB true)]
  .ret))))⟩
def ir60:FnIr:=⟨0,2,27,[(4,none)],[],
  (zs [2,3,29,30] [] [zO 2 (.box (.t 0)),
  zO 3 (.box (.t 1)),
  zK 4 (zB false)]
  (.seq (zs (zr 5 5) (zr 5 4) [zF 5 0 2,
  zL 6 5,
  zF 7 0 3,
  zL 8 7,
  zb 9 .neq 6 8]
  (zc 9
  (zs [] [] [zK 4 (zB false)]
  .ret)
  .skip))
  (.seq (zs (zq 10 6 [41]) (zr 10 5) [zF 10 1 2,
  zL 11 10,
  zF 12 1 3,
  zL 13 12,
  zC 14 79 [11,13],
  zn 15 14]
  (zc 15
  (zs [] [] [zK 4 (zB false)]
  .ret)
  .skip))
  (.seq (zs (zq 16 6 [47]) (zr 16 5) [zF 16 2 2,
  zL 17 16,
  zF 18 2 3,
  zL 19 18,
  zC 20 79 [17,19],
  zn 21 20]
  (zc 21
  (zs [] [] [zK 4 (zB false)]
  .ret)
  .skip))
  (.seq (zs (zr 22 5) (zr 22 4) [zF 22 3 2,
  zL 23 22,
  zF 24 3 3,
  zL 25 24,
  zO 26 (.beq true (.t 23) (.t 25))]
  (zc 26
  (zs [] [] [zK 4 (zB false)]
  .ret)
  .skip))
  (zs [] [] [zK 4 (zB true)]
  .ret))))))⟩
def ir105:FnIr:=⟨0,2,27,[(4,none)],[],
  (zs [] [] [zK 4 (zB false)]
  (.seq (zs (zr 6 5) (zr 6 4) [zM 6 0,
  zl 7 6,
  zM 8 1,
  zl 9 8,
  zb 10 .neq 7 9]
  (zc 10
  (zs [] [] [zK 4 (zB false)]
  .ret)
  .skip))
  (.seq (zs [] [] [zK 5 (zI 0)]
  (.block 0 (.loop (.seq (zs (zr 11 4) [11,12,13] [zM 11 5,
  zM 12 0,
  zl 13 12,
  zb 14 .lss 11 13]
  (zc 14
  .skip
  (.exit 0)))
  (.seq (.block 1 (.seq (.region true (zq 17 10 [52]) (zr 17 9) [zM 17 0,
  zM 18 5,
  zv (zp 19 4 17 18) [0,1],
  zv (zS 20 4 19) [2,0,1],
  zM 21 1,
  zM 22 5,
  zv (zp 23 4 21 22) [4,5],
  zv (zS 24 4 23) [6,4,5],
  zv (zC 25 60 [20,24]) [3,2,0,1,7,6,4,5],
  zv (zn 26 25) [8,3,2,0,1,7,6,4,5]])
  (zc 26
  (zs [] [] [zK 4 (zB false)]
  .ret)
  .skip)))
  (zR [15,16] [15,16] [zM 15 5,
  zO 16 (.bin .add (.t 15) (zI 1)),
  zA 5 16]))))))
  (zs [] [] [zK 4 (zB true)]
  .ret))))⟩
def ir1080:FnIr:=⟨0,2,19,[(4,none)],[.mrow, .val],
  (zs [] [] [zK 4 (zI 0)]
  (.seq (zs [] [] [zK 5 (zI 0)]
  (.block 0 (.loop (.seq (zs (zr 6 4) [6,7,8] [zM 6 5,
  zM 7 0,
  zl 8 7,
  zb 9 .lss 6 8]
  (zc 9
  .skip
  (.exit 0)))
  (.seq (.block 1 (zs (zr 12 4) (zr 12 4) [zM 12 0,
  zM 13 5,
  zM 14 1,
  zp 15 1 12 13,
  zN (.rstore 1 (.t 15) (.t 14))]
  (zR [16,17] [16,17] [zM 16 1,
  zO 17 (.bin .add (.t 16) (zI 1)),
  zA 1 17])))
  (zR [10,11] [10,11] [zM 10 5,
  zO 11 (.bin .add (.t 10) (zI 1)),
  zA 5 11]))))))
  (zs [18] [18] [zM 18 1,
  zA 4 18]
  .ret)))⟩
def ir1201:FnIr:=⟨0,2,27,[(4,none)],[.mrow, .val],
  (zs [] [] [zK 4 (zI 0)]
  (.seq (zs [] [] [zK 5 (zI 0)]
  (.block 0 (.loop (.seq (zs (zr 6 4) [6,7,8] [zM 6 5,
  zM 7 0,
  zl 8 7,
  zb 9 .lss 6 8]
  (zc 9
  .skip
  (.exit 0)))
  (.seq (.block 1 (zs (zr 12 5) (zr 12 5) [zM 12 0,
  zM 13 5,
  zM 14 1,
  zp 15 2 12 13,
  zF 16 0 15,
  zN (.rstore 1 (.t 16) (.t 14))]
  (zs [17,18] [17,18] [zM 17 1,
  zO 18 (.bin .add (.t 17) (zI 1)),
  zA 1 18]
  (zR (zq 19 7 [52]) (zr 19 7) [zM 19 0,
  zM 20 5,
  zp 21 2 19 20,
  zF 22 1 21,
  zL 23 22,
  zM 24 1,
  zC 25 1080 [23,24],
  zA 1 25]))))
  (zR [10,11] [10,11] [zM 10 5,
  zO 11 (.bin .add (.t 10) (zI 1)),
  zA 5 11]))))))
  (zs [26] [26] [zM 26 1,
  zA 4 26]
  .ret)))⟩
def ir1081:FnIr:=⟨0,2,14,[(4,none)],[.mrow, .val],
  (zs [2,16] [] [zO 2 (.box (.t 0)),
  zK 4 (zI 0)]
  (zs (zq 5 4 [22]) (zr 5 4) [zF 5 0 2,
  zL 6 5,
  zM 7 1,
  zC 8 1080 [6,7],
  zA 1 8]
  (zs (zq 9 4 [26]) (zr 9 4) [zF 9 1 2,
  zL 10 9,
  zM 11 1,
  zC 12 1201 [10,11],
  zA 1 12]
  (zs [13] [13] [zM 13 1,
  zA 4 13]
  .ret))))⟩
def ir1172:FnIr:=⟨0,2,43,[(4,none)],[.mrow, .val],
  (zs [] [] [zK 4 (zI 0)]
  (.seq (zs [] [] [zK 5 (zI 0)]
  (.block 0 (.loop (.seq (zs (zr 6 4) [6,7,8] [zM 6 5,
  zM 7 0,
  zl 8 7,
  zb 9 .lss 6 8]
  (zc 9
  .skip
  (.exit 0)))
  (.seq (.block 1 (zs (zr 12 5) (zr 12 5) [zM 12 0,
  zM 13 5,
  zM 14 1,
  zp 15 4 12 13,
  zF 16 0 15,
  zN (.rstore 1 (.t 16) (.t 14))]
  (zs [17,18] [17,18] [zM 17 1,
  zO 18 (.bin .add (.t 17) (zI 1)),
  zA 1 18]
  (zs (zq 19 7 [68]) (zr 19 7) [zM 19 0,
  zM 20 5,
  zp 21 4 19 20,
  zF 22 1 21,
  zL 23 22,
  zM 24 1,
  zC 25 1080 [23,24],
  zA 1 25]
  (zs (zq 26 7 [75]) (zr 26 7) [zM 26 0,
  zM 27 5,
  zp 28 4 26 27,
  zF 29 2 28,
  zL 30 29,
  zM 31 1,
  zC 32 1080 [30,31],
  zA 1 32]
  (zs (zr 33 7) (zr 33 7) [zM 33 0,
  zM 34 5,
  zM 35 1,
  zO 36 (.bin .rem (.t 35) (zI 3)),
  zO 37 (.bin .eql (.t 36) (zI 0)),
  zp 38 4 33 34,
  zF 39 3 38,
  zN (.rstore 1 (.t 39) (.t 37))]
  (zR [40,41] [40,41] [zM 40 1,
  zO 41 (.bin .add (.t 40) (zI 1)),
  zA 1 41])))))))
  (zR [10,11] [10,11] [zM 10 5,
  zO 11 (.bin .add (.t 10) (zI 1)),
  zA 5 11]))))))
  (zs [42] [42] [zM 42 1,
  zA 4 42]
  .ret)))⟩
def ir228:FnIr:=⟨0,2,26,[(4,none)],[],
  (zs [] [] [zK 4 (zB false)]
  (.seq (zs (zr 6 5) (zr 6 4) [zM 6 0,
  zl 7 6,
  zM 8 1,
  zl 9 8,
  zb 10 .neq 7 9]
  (zc 10
  (zs [] [] [zK 4 (zB false)]
  .ret)
  .skip))
  (.seq (zs [] [] [zK 5 (zI 0)]
  (.block 0 (.loop (.seq (zs (zr 11 4) [11,12,13] [zM 11 5,
  zM 12 0,
  zl 13 12,
  zb 14 .lss 11 13]
  (zc 14
  .skip
  (.exit 0)))
  (.seq (.block 1 (.seq (.region true (zr 17 9) (zr 17 8) [zM 17 0,
  zM 18 5,
  zv (zp 19 1 17 18) [0,1],
  zv (zL 20 19) [2,0,1],
  zM 21 1,
  zM 22 5,
  zv (zp 23 1 21 22) [4,5],
  zv (zL 24 23) [6,4,5],
  zv (zb 25 .neq 20 24) [3,2,0,1,7,6,4,5]])
  (zc 25
  (zs [] [] [zK 4 (zB false)]
  .ret)
  .skip)))
  (zR [15,16] [15,16] [zM 15 5,
  zO 16 (.bin .add (.t 15) (zI 1)),
  zA 5 16]))))))
  (zs [] [] [zK 4 (zB true)]
  .ret))))⟩
def ir285:FnIr:=⟨0,2,18,[(4,none)],[],
  (zs [] [] [zK 4 (zB false)]
  (.seq (zs [] [] [zK 5 (zI 0)]
  (.block 0 (.loop (.seq (zs (zr 6 4) [6,7,8] [zM 6 5,
  zM 7 0,
  zl 8 7,
  zb 9 .lss 6 8]
  (zc 9
  .skip
  (.exit 0)))
  (.seq (.block 1 (zs (zr 12 6) (zr 12 5) [zM 12 0,
  zM 13 5,
  zp 14 1 12 13,
  zL 15 14,
  zM 16 1,
  zb 17 .eql 15 16]
  (zc 17
  (zs [] [] [zK 4 (zB true)]
  .ret)
  .skip)))
  (zR [10,11] [10,11] [zM 10 5,
  zO 11 (.bin .add (.t 10) (zI 1)),
  zA 5 11]))))))
  (zs [] [] [zK 4 (zB false)]
  .ret)))⟩
def ir286:FnIr:=⟨0,2,20,[(4,none)],[],
  (zs [] [] [zK 4 (zI 0)]
  (.seq (zs [] [] [zK 5 (zI 0)]
  (.block 0 (.loop (.seq (zs (zr 6 4) [6,7,8] [zM 6 5,
  zM 7 0,
  zl 8 7,
  zb 9 .lss 6 8]
  (zc 9
  .skip
  (.exit 0)))
  (.seq (.block 1 (zs (zr 12 7) (zr 12 6) [zM 12 0,
  zM 13 5,
  zp 14 2 12 13,
  zF 15 0 14,
  zL 16 15,
  zM 17 1,
  zb 18 .eql 16 17]
  (zc 18
  (zs [19] [19] [zM 19 5,
  zA 4 19]
  .ret)
  .skip)))
  (zR [10,11] [10,11] [zM 10 5,
  zO 11 (.bin .add (.t 10) (zI 1)),
  zA 5 11]))))))
  (zs [] [] [zK 4 (zI (-1))]
  .ret)))⟩
def ir230:FnIr:=⟨0,3,15,[(6,none)],[],
  (zs [] [] [zK 6 (zB false)]
  (zs (zr 7 8) (zr 7 8) [zM 7 0,
  zM 8 1,
  zb 9 .geq 7 8,
  zM 10 9,
  zG 11 (.move (.t 0)) 10 true,
  zG 12 (.move (.t 2)) 10 true,
  zG 13 (.bin .leq (.t 11) (.t 12)) 10 true,
  zO 14 (.pick (.t 10) (.t 13) (zB false)),
  zA 6 14]
  .ret))⟩
def ir292:FnIr:=⟨0,2,29,[(4,none)],[],
  (zs [] [] [zK 4 zE]
  (zs [7] [7] [zO 7 (.bslice [(.int .i64 0)] 0 []),
  zA 5 7]
  (.seq (zs [] [] [zK 6 (zI 0)]
  (.block 0 (.loop (.seq (zs (zr 8 4) [8,9,10] [zM 8 6,
  zM 9 0,
  zl 10 9,
  zb 11 .lss 8 10]
  (zc 11
  .skip
  (.exit 0)))
  (.seq (.block 1 (zs (zq 14 7 [48]) (zr 14 6) [zM 14 1,
  zM 15 0,
  zM 16 6,
  zp 17 1 15 16,
  zL 18 17,
  zC 19 285 [14,18],
  zn 20 19]
  (zc 20
  (zR (zr 21 7) (zr 21 7) [zM 21 5,
  zM 22 0,
  zM 23 6,
  zp 24 1 22 23,
  zL 25 24,
  zO 26 (.bslice [(.int .i64 0)] 1 [(0,(.t 25))]),
  zO 27 (.append 1 (.t 21) (.t 26)),
  zA 5 27])
  .skip)))
  (zR [12,13] [12,13] [zM 12 6,
  zO 13 (.bin .add (.t 12) (zI 1)),
  zA 6 13]))))))
  (zs [28] [28] [zM 28 5,
  zA 4 28]
  .ret))))⟩
def ir149:FnIr:=⟨0,2,49,[(4,none)],[],
  (zs [2,3,51,52] [] [zO 2 (.box (.t 0)),
  zO 3 (.box (.t 1)),
  zK 4 zE]
  (zs (zq 7 5 [60]) (zr 7 5) [zF 7 0 2,
  zL 8 7,
  zF 9 0 3,
  zL 10 9,
  zC 11 292 [8,10],
  zA 5 11]
  (.seq (zs [] [] [zK 6 (zI 0)]
  (.block 0 (.loop (.seq (zs (zr 12 5) (zr 12 4) [zM 12 6,
  zF 13 1 2,
  zL 14 13,
  zl 15 14,
  zb 16 .lss 12 15]
  (zc 16
  .skip
  (.exit 0)))
  (.seq (.block 1 (.seq (.region true (zq 19 19 [76,85]) (zr 19 18) [zF 19 1 3,
  zv (zL 20 19) [0],
  zF 21 1 2,
  zv (zL 22 21) [2],
  zM 23 6,
  zv (zp 24 2 22 23) [3,2,4],
  zv (zF 25 0 24) [5,3,2,4],
  zv (zL 26 25) [6,5,3,2,4],
  zv (zC 27 286 [20,26]) [1,0,7,6,5,3,2,4],
  zv (zO 28 (.bin .lss (.t 27) (zI 0))) [8,1,0,7,6,5,3,2,4],
  zv (zM 29 28) [9,8,1,0,7,6,5,3,2,4],
  zv (zG 30 (.faddr 1 (.t 2)) 29 true) [10,9,8,1,0,7,6,5,3,2,4],
  zv (zG 31 (.load false 1 (.t 30)) 29 true) [11,10,9,8,1,0,7,6,5,3,2,4],
  zv (zG 32 (.move (.t 6)) 29 true) [10,9,8,1,0,7,6,5,3,2,4],
  zv (zG 33 (.iaddr 2 (.t 31) (.t 32)) 29 true) [12,11,10,9,8,1,0,7,6,5,3,2,4,13],
  zv (zG 34 (.faddr 0 (.t 33)) 29 true) [14,12,11,10,9,8,1,0,7,6,5,3,2,4,13],
  zv (zG 35 (.load false 1 (.t 34)) 29 true) [15,14,12,11,10,9,8,1,0,7,6,5,3,2,4,13],
  zv (zG 36 (.call 230 [(.t 35),(zI 0),(zI 255)]) 29 true) [16,15,14,12,11,10,9,8,1,0,7,6,5,3,2,4,13],
  zv (zO 37 (.pick (.t 29) (.t 36) (zB false))) [10,9,8,1,0,7,6,5,3,2,4,17,16,15,14,12,11,13]])
  (zc 37
  (zR (zr 38 10) (zr 38 10) [zM 38 5,
  zF 39 1 2,
  zL 40 39,
  zM 41 6,
  zp 42 2 40 41,
  zF 43 0 42,
  zL 44 43,
  zO 45 (.bin .add (zI 1000) (.t 44)),
  zO 46 (.bslice [(.int .i64 0)] 1 [(0,(.t 45))]),
  zO 47 (.append 1 (.t 38) (.t 46)),
  zA 5 47])
  .skip)))
  (zR [17,18] [17,18] [zM 17 6,
  zO 18 (.bin .add (.t 17) (zI 1)),
  zA 6 18]))))))
  (zs [48] [48] [zM 48 5,
  zA 4 48]
  .ret))))⟩
def ir280:FnIr:=⟨0,1,21,[(2,none)],[],
  (zs [] [] [zK 2 zE]
  (zs [5] [5] [zO 5 (.bslice [(.int .i64 0)] 0 []),
  zA 3 5]
  (.seq (zs [] [] [zK 4 (zI 0)]
  (.block 0 (.loop (.seq (zs (zr 6 4) [6,7,8] [zM 6 4,
  zM 7 0,
  zl 8 7,
  zb 9 .lss 6 8]
  (zc 9
  .skip
  (.exit 0)))
  (.seq (.block 1 (zR (zr 12 8) (zr 12 8) [zM 12 3,
  zM 13 0,
  zM 14 4,
  zp 15 2 13 14,
  zF 16 0 15,
  zL 17 16,
  zO 18 (.bslice [(.int .i64 0)] 1 [(0,(.t 17))]),
  zO 19 (.append 1 (.t 12) (.t 18)),
  zA 3 19]))
  (zR [10,11] [10,11] [zM 10 4,
  zO 11 (.bin .add (.t 10) (zI 1)),
  zA 4 11]))))))
  (zs [20] [20] [zM 20 3,
  zA 2 20]
  .ret))))⟩
def ir179:FnIr:=⟨0,1,20,[(2,none)],[],
  (zs [] [] [zK 2 zE]
  (zs [6] [6] [zO 6 (.bslice [(.int .i64 0)] 0 []),
  zA 3 6]
  (.seq (zs [7,8,9] [] [zM 7 0,
  zl 8 7,
  zO 9 (.move (zI 0))]
  (.block 0 (.loop (zs [10] [] [zb 10 .lss 9 8]
  (.seq (zc 10
  .skip
  (.exit 0))
  (.seq (.block 1 (zs [11,12,5,25] [11,12] [zp 11 2 7 9,
  zS 12 2 11,
  zO 5 (.alloc [(.int .i64 0),(.row () [])]),
  zN (.store 2 (.t 5) (.t 12))]
  (zR (zr 13 5) (zr 13 5) [zM 13 3,
  zF 14 0 5,
  zL 15 14,
  zO 16 (.bslice [(.int .i64 0)] 1 [(0,(.t 15))]),
  zO 17 (.append 1 (.t 13) (.t 16)),
  zA 3 17])))
  (zR [18] [18] [zO 18 (.bin .add (.t 9) (zI 1)),
  zM 9 18])))))))
  (zs [19] [19] [zM 19 3,
  zA 2 19]
  .ret))))⟩
def ir232:FnIr:=⟨0,3,15,[(6,none)],[],
  (zs [] [] [zK 6 (zB false)]
  (zs (zr 7 8) (zr 7 8) [zM 7 1,
  zM 8 0,
  zb 9 .leq 7 8,
  zM 10 9,
  zG 11 (.move (.t 0)) 10 true,
  zG 12 (.move (.t 2)) 10 true,
  zG 13 (.bin .leq (.t 11) (.t 12)) 10 true,
  zO 14 (.pick (.t 10) (.t 13) (zB false)),
  zA 6 14]
  .ret))⟩
def ir354:FnIr:=⟨0,2,19,[(4,none)],[],
  (zs [] [] [zK 4 (zI 0)]
  (.seq (zs [6,7,8] [6] [zM 6 0,
  zl 7 6,
  zO 8 (.move (zI 0))]
  (.block 0 (.loop (zs [9] [] [zb 9 .lss 8 7]
  (.seq (zc 9
  .skip
  (.exit 0))
  (.seq (.block 1 (zs [10] [10] [zM 10 8,
  zA 5 10]
  (zs (zr 11 6) (zr 11 5) [zM 11 1,
  zM 12 0,
  zM 13 5,
  zp 14 1 12 13,
  zL 15 14,
  zb 16 .eql 11 15]
  (zc 16
  (zs [17] [17] [zM 17 5,
  zA 4 17]
  .ret)
  .skip))))
  (zR [18] [18] [zO 18 (.bin .add (.t 8) (zI 1)),
  zM 8 18])))))))
  (zs [] [] [zK 4 (zI (-1))]
  .ret)))⟩
def ir302:FnIr:=⟨0,2,9,[(4,none)],[],
  (zs [] [] [zK 4 (zB false)]
  (zs (zq 5 4 [16]) (zr 5 4) [zM 5 0,
  zM 6 1,
  zC 7 354 [5,6],
  zO 8 (.bin .geq (.t 7) (zI 0)),
  zA 4 8]
  .ret))⟩
def ir287:FnIr:=⟨0,2,25,[(4,none)],[],
  (zs [] [] [zK 4 zE]
  (zs [8] [8] [zO 8 (.bslice [(.int .i64 0)] 0 []),
  zA 5 8]
  (.seq (zs [9,10,11] [] [zM 9 0,
  zl 10 9,
  zO 11 (.move (zI 0))]
  (.block 0 (.loop (zs [12] [] [zb 12 .lss 11 10]
  (.seq (zc 12
  .skip
  (.exit 0))
  (.seq (.block 1 (zs [13,14] [13,14] [zp 13 1 9 11,
  zL 14 13,
  zA 7 14]
  (zs (zq 15 4 [42]) [15,16,17] [zM 15 1,
  zM 16 7,
  zC 17 302 [15,16],
  zn 18 17]
  (zc 18
  (zR (zr 19 4) (zr 19 4) [zM 19 5,
  zM 20 7,
  zO 21 (.bslice [(.int .i64 0)] 1 [(0,(.t 20))]),
  zO 22 (.append 1 (.t 19) (.t 21)),
  zA 5 22])
  .skip))))
  (zR [23] [23] [zO 23 (.bin .add (.t 11) (zI 1)),
  zM 11 23])))))))
  (zs [24] [24] [zM 24 5,
  zA 4 24]
  .ret))))⟩
def ir150:FnIr:=⟨0,2,34,[(4,none)],[],
  (zs [2,3,36,37] [] [zO 2 (.box (.t 0)),
  zO 3 (.box (.t 1)),
  zK 4 zE]
  (zs (zq 8 5 [46]) (zr 8 5) [zF 8 0 2,
  zL 9 8,
  zF 10 0 3,
  zL 11 10,
  zC 12 287 [9,11],
  zA 5 12]
  (.seq (.seq (.region true (zq 13 9 [49,52,53]) (zr 13 6) [zF 13 1 2,
  zv (zL 14 13) [0],
  zv (zC 15 179 [14]) [1,0],
  zF 16 1 3,
  zv (zL 17 16) [3],
  zv (zC 18 179 [17]) [4,3,2,1,0],
  zv (zC 19 287 [15,18]) [2,1,0,5,4,3],
  zv (zl 20 19) [6,2,1,0,5,4,3],
  zO 21 (.move (zI 0))])
  (.block 0 (.loop (zs [22] [] [zb 22 .lss 21 20]
  (.seq (zc 22
  .skip
  (.exit 0))
  (.seq (.block 1 (zs [23,24] [23,24] [zp 23 1 19 21,
  zL 24 23,
  zA 7 24]
  (zs [25,26,60] [25] [zM 25 7,
  zO 26 (.call 232 [(.t 25),(zI 0),(zI 255)])]
  (zc 26
  (zR (zr 27 5) (zr 27 5) [zM 27 5,
  zM 28 7,
  zO 29 (.bin .add (zI 1000) (.t 28)),
  zO 30 (.bslice [(.int .i64 0)] 1 [(0,(.t 29))]),
  zO 31 (.append 1 (.t 27) (.t 30)),
  zA 5 31])
  .skip))))
  (zR [32] [32] [zO 32 (.bin .add (.t 21) (zI 1)),
  zM 21 32])))))))
  (zs [33] [33] [zM 33 5,
  zA 4 33]
  .ret))))⟩
def ir1087:FnIr:=⟨0,2,10,[(4,none)],[.mrow, .val],
  (zs [2,12] [] [zO 2 (.box (.t 0)),
  zK 4 (zI 0)]
  (zs (zq 5 4 [18]) (zr 5 4) [zF 5 2 2,
  zL 6 5,
  zM 7 1,
  zC 8 1080 [6,7],
  zA 1 8]
  (zs [9] [9] [zM 9 1,
  zA 4 9]
  .ret)))⟩
def ir1224:FnIr:=⟨0,2,14,[(4,none)],[.mrow, .val],
  (zs [2,16] [] [zO 2 (.box (.t 0)),
  zK 4 (zI 0)]
  (zs (zq 5 4 [22]) (zr 5 4) [zF 5 0 2,
  zS 6 3 5,
  zM 7 1,
  zC 8 1087 [6,7],
  zA 1 8]
  (zs (zq 9 4 [26]) (zr 9 4) [zF 9 4 2,
  zL 10 9,
  zM 11 1,
  zC 12 1080 [10,11],
  zA 1 12]
  (zs [13] [13] [zM 13 1,
  zA 4 13]
  .ret))))⟩
def ir257:FnIr:=⟨0,1,35,[(2,none)],[],
  (zs [] [] [zK 2 (zB false)]
  (.seq (zs [] [] [zK 3 (zI 0)]
  (.block 0 (.loop (.seq (zs (zr 4 4) [4,5,6] [zM 4 3,
  zM 5 0,
  zl 6 5,
  zb 7 .lss 4 6]
  (zc 7
  .skip
  (.exit 0)))
  (.seq (.block 1 (.seq (.region true (zq 10 22 [49]) (zr 10 21) [zM 10 0,
  zM 11 3,
  zv (zp 12 1 10 11) [0,1],
  zv (zL 13 12) [2,0,1],
  zv (zO 14 (.call 230 [(.t 13),(zI 1),(zI 9)])) [3,2,0,1],
  zv (zn 15 14) [4,3,2,0,1],
  zv (zM 16 15) [5,4,3,2,0,1],
  zv (zG 17 (.move (.t 3)) 16 false) [6,5,4,3,2,0,1],
  zv (zG 18 (.bin .gtr (.t 17) (zI 0)) 16 false) [7,6,5,4,3,2,0,1],
  zv (zG 19 (.move (.t 18)) 16 false) [8,7,6,5,4,3,2,0,1],
  zv (zG 20 (.move (.t 0)) 19 true) [9,8,7,6,5,4,3,2,0,1],
  zv (zG 21 (.move (.t 3)) 19 true) [9,8,7,6,5,4,3,2,0,1],
  zv (zG 22 (.bin .sub (.t 21) (zI 1)) 19 true) [11,9,8,7,6,5,4,3,2,0,1],
  zv (zG 23 (.iaddr 1 (.t 20) (.t 22)) 19 true) [10,9,8,7,6,5,4,3,2,0,1,12,11],
  zv (zG 24 (.load false 1 (.t 23)) 19 true) [13,10,9,8,7,6,5,4,3,2,0,1,12,11],
  zv (zG 25 (.move (.t 0)) 19 true) [9,8,7,6,5,4,3,2,0,1],
  zv (zG 26 (.move (.t 3)) 19 true) [9,8,7,6,5,4,3,2,0,1],
  zv (zG 27 (.iaddr 1 (.t 25) (.t 26)) 19 true) [15,9,8,7,6,5,4,3,2,0,1,16],
  zv (zG 28 (.load false 1 (.t 27)) 19 true) [17,15,9,8,7,6,5,4,3,2,0,1,16],
  zv (zG 29 (.bin .geq (.t 24) (.t 28)) 19 true) [14,13,10,9,8,7,6,5,4,3,2,0,1,12,11,18,17,15,16],
  zv (zG 30 (.pick (.t 19) (.t 29) (zB false)) 16 false) [9,8,7,6,5,4,3,2,0,1,19,14,13,10,12,11,18,17,15,16],
  zv (zO 31 (.pick (.t 16) (zB true) (.t 30))) [6,5,4,3,2,0,1,20,9,8,7,19,14,13,10,12,11,18,17,15,16]])
  (zc 31
  (zs [] [] [zK 2 (zB false)]
  .ret)
  .skip)))
  (zR [8,9] [8,9] [zM 8 3,
  zO 9 (.bin .add (.t 8) (zI 1)),
  zA 3 9]))))))
  (zs [32,33,34] [32,33,34] [zM 32 0,
  zl 33 32,
  zO 34 (.bin .gtr (.t 33) (zI 0)),
  zA 2 34]
  .ret)))⟩
def ir231:FnIr:=⟨0,1,16,[(2,none)],[],
  (zs [] [] [zK 2 (zB false)]
  (.seq (zs [] [] [zK 3 (zI 0)]
  (.block 0 (.loop (.seq (zs (zr 4 4) [4,5,6] [zM 4 3,
  zM 5 0,
  zl 6 5,
  zb 7 .lss 4 6]
  (zc 7
  .skip
  (.exit 0)))
  (.seq (.block 1 (zs (zq 10 6 [30]) (zr 10 5) [zM 10 0,
  zM 11 3,
  zp 12 1 10 11,
  zL 13 12,
  zO 14 (.call 230 [(.t 13),(zI 0),(zI 255)]),
  zn 15 14]
  (zc 15
  (zs [] [] [zK 2 (zB false)]
  .ret)
  .skip)))
  (zR [8,9] [8,9] [zM 8 3,
  zO 9 (.bin .add (.t 8) (zI 1)),
  zA 3 9]))))))
  (zs [] [] [zK 2 (zB true)]
  .ret)))⟩
def ir271:FnIr:=⟨0,1,49,[(2,none)],[],
  (zs [] [] [zK 2 (zB false)]
  (.seq (zs [] [] [zK 3 (zI 0)]
  (.block 0 (.loop (.seq (zs (zr 4 4) [4,5,6] [zM 4 3,
  zM 5 0,
  zl 6 5,
  zb 7 .lss 4 6]
  (zc 7
  .skip
  (.exit 0)))
  (.seq (.block 1 (zs (zq 10 36 [64,81,91]) (zr 10 35) [zM 10 0,
  zM 11 3,
  zp 12 2 10 11,
  zF 13 0 12,
  zL 14 13,
  zO 15 (.call 230 [(.t 14),(zI 0),(zI 255)]),
  zn 16 15,
  zM 17 16,
  zG 18 (.move (.t 0)) 17 false,
  zG 19 (.move (.t 3)) 17 false,
  zG 20 (.iaddr 2 (.t 18) (.t 19)) 17 false,
  zG 21 (.faddr 1 (.t 20)) 17 false,
  zG 22 (.load false 1 (.t 21)) 17 false,
  zG 23 (.len false (.t 22)) 17 false,
  zG 24 (.bin .gtr (.t 23) (zI 4)) 17 false,
  zO 25 (.pick (.t 17) (zB true) (.t 24)),
  zM 26 25,
  zG 27 (.move (.t 0)) 26 false,
  zG 28 (.move (.t 3)) 26 false,
  zG 29 (.iaddr 2 (.t 27) (.t 28)) 26 false,
  zG 30 (.faddr 1 (.t 29)) 26 false,
  zG 31 (.load false 1 (.t 30)) 26 false,
  zG 32 (.call 231 [(.t 31)]) 26 false,
  zG 33 (.un .not (.t 32)) 26 false,
  zO 34 (.pick (.t 26) (zB true) (.t 33)),
  zM 35 34,
  zG 36 (.move (.t 0)) 35 false,
  zG 37 (.move (.t 0)) 35 false,
  zG 38 (.move (.t 3)) 35 false,
  zG 39 (.iaddr 2 (.t 37) (.t 38)) 35 false,
  zG 40 (.faddr 0 (.t 39)) 35 false,
  zG 41 (.load false 1 (.t 40)) 35 false,
  zG 42 (.call 286 [(.t 36),(.t 41)]) 35 false,
  zG 43 (.move (.t 3)) 35 false,
  zG 44 (.bin .lss (.t 42) (.t 43)) 35 false,
  zO 45 (.pick (.t 35) (zB true) (.t 44))]
  (zc 45
  (zs [] [] [zK 2 (zB false)]
  .ret)
  .skip)))
  (zR [8,9] [8,9] [zM 8 3,
  zO 9 (.bin .add (.t 8) (zI 1)),
  zA 3 9]))))))
  (zs [46,47,48] [46,47,48] [zM 46 0,
  zl 47 46,
  zO 48 (.bin .leq (.t 47) (zI 6)),
  zA 2 48]
  .ret)))⟩
def ir142:FnIr:=⟨0,1,11,[(2,none)],[],
  (zs [1,12] [] [zO 1 (.box (.t 0)),
  zK 2 (zB false)]
  (zs (zq 3 8 [16,20]) (zr 3 8) [zF 3 0 1,
  zL 4 3,
  zC 5 257 [4],
  zM 6 5,
  zG 7 (.faddr 1 (.t 1)) 6 true,
  zG 8 (.load false 1 (.t 7)) 6 true,
  zG 9 (.call 271 [(.t 8)]) 6 true,
  zO 10 (.pick (.t 6) (.t 9) (zB false)),
  zA 2 10]
  .ret))⟩
def ir255:FnIr:=⟨0,1,32,[(2,none)],[],
  (zs [] [] [zK 2 (zB false)]
  (.seq (zs [5,6,7] [] [zM 5 0,
  zl 6 5,
  zO 7 (.move (zI 0))]
  (.block 0 (.loop (zs [8] [] [zb 8 .lss 7 6]
  (.seq (zc 8
  .skip
  (.exit 0))
  (.seq (.block 1 (zs [9,10,11] [9,10,11] [zM 9 7,
  zp 10 1 5 7,
  zL 11 10,
  zA 3 9,
  zA 4 11]
  (zs (zq 12 16 [45]) (zr 12 15) [zM 12 4,
  zO 13 (.call 232 [(.t 12),(zI 1),(zI 9)]),
  zn 14 13,
  zM 15 14,
  zG 16 (.move (.t 3)) 15 false,
  zG 17 (.bin .gtr (.t 16) (zI 0)) 15 false,
  zG 18 (.move (.t 17)) 15 false,
  zG 19 (.move (.t 0)) 18 true,
  zG 20 (.move (.t 3)) 18 true,
  zG 21 (.bin .sub (.t 20) (zI 1)) 18 true,
  zG 22 (.iaddr 1 (.t 19) (.t 21)) 18 true,
  zG 23 (.load false 1 (.t 22)) 18 true,
  zG 24 (.move (.t 4)) 18 true,
  zG 25 (.bin .geq (.t 23) (.t 24)) 18 true,
  zG 26 (.pick (.t 18) (.t 25) (zB false)) 15 false,
  zO 27 (.pick (.t 15) (zB true) (.t 26))]
  (zc 27
  (zs [] [] [zK 2 (zB false)]
  .ret)
  .skip))))
  (zR [28] [28] [zO 28 (.bin .add (.t 7) (zI 1)),
  zM 7 28])))))))
  (zs [29,30,31] [29,30,31] [zM 29 0,
  zl 30 29,
  zO 31 (.bin .gtr (.t 30) (zI 0)),
  zA 2 31]
  .ret)))⟩
def ir377:FnIr:=⟨0,2,19,[(4,none)],[],
  (zs [] [] [zK 4 (zI 0)]
  (.seq (zs [6,7,8] [6] [zM 6 0,
  zl 7 6,
  zO 8 (.move (zI 0))]
  (.block 0 (.loop (zs [9] [] [zb 9 .lss 8 7]
  (.seq (zc 9
  .skip
  (.exit 0))
  (.seq (.block 1 (zs [10] [10] [zM 10 8,
  zA 5 10]
  (zs (zq 11 6 [35]) (zr 11 5) [zM 11 1,
  zM 12 0,
  zM 13 5,
  zp 14 1 12 13,
  zL 15 14,
  zO 16 (.callv (.t 11) [(.t 15)])]
  (zc 16
  (zs [17] [17] [zM 17 5,
  zA 4 17]
  .ret)
  .skip))))
  (zR [18] [18] [zO 18 (.bin .add (.t 8) (zI 1)),
  zM 8 18])))))))
  (zs [] [] [zK 4 (zI (-1))]
  .ret)))⟩
def ir336:FnIr:=⟨0,2,9,[(4,none)],[],
  (zs [] [] [zK 4 (zB false)]
  (zs (zq 5 4 [16]) (zr 5 4) [zM 5 0,
  zM 6 1,
  zC 7 377 [5,6],
  zO 8 (.bin .geq (.t 7) (zI 0)),
  zA 4 8]
  .ret))⟩
def ir340:FnIr:=⟨0,3,10,[(4,none)],[],
  (zs [] [] [zK 4 (zB false)]
  (zs (zq 5 5 [18]) (zr 5 5) [zM 5 0,
  zL 6 1,
  zL 7 2,
  zC 8 232 [5,6,7],
  zn 9 8,
  zA 4 9]
  .ret))⟩
def ir233:FnIr:=⟨0,3,11,[(6,none)],[],
  (zs [4,5,15,16] [] [zO 4 (.box (.t 1)),
  zO 5 (.box (.t 2)),
  zK 6 (zB false)]
  (zs (zq 7 4 [20]) (zr 7 4) [zM 7 0,
  zO 8 (.mkfn 340 [4,5]),
  zC 9 336 [7,8],
  zn 10 9,
  zA 6 10]
  .ret))⟩
def ir351:FnIr:=⟨0,2,19,[(4,none)],[],
  (zs [] [] [zK 4 (zI 0)]
  (.seq (zs [6,7,8] [6] [zM 6 0,
  zl 7 6,
  zO 8 (.move (zI 0))]
  (.block 0 (.loop (zs [9] [] [zb 9 .lss 8 7]
  (.seq (zc 9
  .skip
  (.exit 0))
  (.seq (.block 1 (zs [10] [10] [zM 10 8,
  zA 5 10]
  (zs (zq 11 6 [35]) (zr 11 5) [zM 11 1,
  zM 12 0,
  zM 13 5,
  zp 14 2 12 13,
  zS 15 2 14,
  zO 16 (.callv (.t 11) [(.t 15)])]
  (zc 16
  (zs [17] [17] [zM 17 5,
  zA 4 17]
  .ret)
  .skip))))
  (zR [18] [18] [zO 18 (.bin .add (.t 8) (zI 1)),
  zM 8 18])))))))
  (zs [] [] [zK 4 (zI (-1))]
  .ret)))⟩
def ir352:FnIr:=⟨0,2,8,[(3,none)],[],
  (zs [2,10] [] [zO 2 (.box (.t 0)),
  zK 3 (zB false)]
  (zs (zr 4 4) (zr 4 4) [zF 4 0 2,
  zL 5 4,
  zL 6 1,
  zb 7 .eql 5 6,
  zA 3 7]
  .ret))⟩
def ir290:FnIr:=⟨0,2,8,[(4,none)],[],
  (zs [3,11] [] [zO 3 (.box (.t 1)),
  zK 4 (zI 0)]
  (zs [5,6,7,15] [5,6,7] [zM 5 0,
  zO 6 (.mkfn 352 [3]),
  zC 7 351 [5,6],
  zA 4 7]
  .ret))⟩
def ir258:FnIr:=⟨0,1,41,[(2,none)],[],
  (zs [] [] [zK 2 (zB false)]
  (.seq (zs [5,6,7] [] [zM 5 0,
  zl 6 5,
  zO 7 (.move (zI 0))]
  (.block 0 (.loop (zs [8] [] [zb 8 .lss 7 6]
  (.seq (zc 8
  .skip
  (.exit 0))
  (.seq (.block 1 (zs [9,10,11,4,45] [9,10,11] [zM 9 7,
  zp 10 2 5 7,
  zS 11 2 10,
  zO 4 (.alloc [(.int .i64 0),(.row () [])]),
  zA 3 9,
  zN (.store 2 (.t 4) (.t 11))]
  (.seq (.region true (zq 12 25 [55,63,75]) (zr 12 24) [zF 12 0 4,
  zv (zL 13 12) [0],
  zv (zO 14 (.call 232 [(.t 13),(zI 0),(zI 255)])) [1,0],
  zv (zn 15 14) [2,1,0],
  zv (zM 16 15) [3,2,1,0],
  zv (zG 17 (.move (.t 0)) 16 false) [4,3,2,1,0],
  zv (zG 18 (.move (.t 3)) 16 false) [4,3,2,1,0],
  zv (zG 19 (.slice 2 (.t 17) none (some (.t 18))) 16 false) [5,4,3,2,1,0,6],
  zv (zG 20 (.faddr 0 (.t 4)) 16 false) [4,3,2,1,0],
  zv (zG 21 (.load false 1 (.t 20)) 16 false) [8,4,3,2,1,0],
  zv (zG 22 (.call 290 [(.t 19),(.t 21)]) 16 false) [7,5,4,3,2,1,0,6,9,8],
  zv (zG 23 (.bin .geq (.t 22) (zI 0)) 16 false) [10,7,5,4,3,2,1,0,6,9,8],
  zv (zO 24 (.pick (.t 16) (zB true) (.t 23))) [4,3,2,1,0,11,10,7,5,6,9,8],
  zv (zM 25 24) [12,4,3,2,1,0,11,10,7,5,6,9,8],
  zv (zG 26 (.faddr 1 (.t 4)) 25 false) [13,12,4,3,2,1,0,11,10,7,5,6,9,8],
  zv (zG 27 (.load false 1 (.t 26)) 25 false) [14,13,12,4,3,2,1,0,11,10,7,5,6,9,8],
  zv (zG 28 (.len false (.t 27)) 25 false) [15,14,13,12,4,3,2,1,0,11,10,7,5,6,9,8],
  zv (zG 29 (.bin .gtr (.t 28) (zI 4)) 25 false) [16,15,14,13,12,4,3,2,1,0,11,10,7,5,6,9,8],
  zv (zO 30 (.pick (.t 25) (zB true) (.t 29))) [13,12,4,3,2,1,0,11,10,7,5,6,9,8,17,16,15,14],
  zv (zM 31 30) [18,13,12,4,3,2,1,0,11,10,7,5,6,9,8,17,16,15,14],
  zv (zG 32 (.faddr 1 (.t 4)) 31 false) [19,18,13,12,4,3,2,1,0,11,10,7,5,6,9,8,17,16,15,14],
  zv (zG 33 (.load false 1 (.t 32)) 31 false) [20,19,18,13,12,4,3,2,1,0,11,10,7,5,6,9,8,17,16,15,14],
  zv (zG 34 (.call 233 [(.t 33),(zI 0),(zI 255)]) 31 false) [21,20,19,18,13,12,4,3,2,1,0,11,10,7,5,6,9,8,17,16,15,14],
  zv (zG 35 (.un .not (.t 34)) 31 false) [22,21,20,19,18,13,12,4,3,2,1,0,11,10,7,5,6,9,8,17,16,15,14],
  zv (zO 36 (.pick (.t 31) (zB true) (.t 35))) [19,18,13,12,4,3,2,1,0,11,10,7,5,6,9,8,17,16,15,14,23,22,21,20]])
  (zc 36
  (zs [] [] [zK 2 (zB false)]
  .ret)
  .skip))))
  (zR [37] [37] [zO 37 (.bin .add (.t 7) (zI 1)),
  zM 7 37])))))))
  (zs [38,39,40] [38,39,40] [zM 38 0,
  zl 39 38,
  zO 40 (.bin .leq (.t 39) (zI 6)),
  zA 2 40]
  .ret)))⟩
def ir113:FnIr:=⟨0,1,11,[(2,none)],[],
  (zs [1,12] [] [zO 1 (.box (.t 0)),
  zK 2 (zB false)]
  (zs (zq 3 8 [16,20]) (zr 3 8) [zF 3 0 1,
  zL 4 3,
  zC 5 255 [4],
  zM 6 5,
  zG 7 (.faddr 1 (.t 1)) 6 true,
  zG 8 (.load false 1 (.t 7)) 6 true,
  zG 9 (.call 258 [(.t 8)]) 6 true,
  zO 10 (.pick (.t 6) (.t 9) (zB false)),
  zA 2 10]
  .ret))⟩
def ir229:FnIr:=⟨0,2,26,[(4,none)],[],
  (zs [] [] [zK 4 (zB false)]
  (.seq (zs (zr 6 5) (zr 6 4) [zM 6 0,
  zl 7 6,
  zM 8 1,
  zl 9 8,
  zb 10 .neq 7 9]
  (zc 10
  (zs [] [] [zK 4 (zB false)]
  .ret)
  .skip))
  (.seq (zs [11,12,13] [11] [zM 11 0,
  zl 12 11,
  zO 13 (.move (zI 0))]
  (.block 0 (.loop (zs [14] [] [zb 14 .lss 13 12]
  (.seq (zc 14
  .skip
  (.exit 0))
  (.seq (.block 1 (zs [15] [15] [zM 15 13,
  zA 5 15]
  (.seq (.region true (zr 16 9) (zr 16 8) [zM 16 0,
  zM 17 5,
  zv (zp 18 1 16 17) [0,1],
  zv (zL 19 18) [2,0,1],
  zM 20 1,
  zM 21 5,
  zv (zp 22 1 20 21) [4,5],
  zv (zL 23 22) [6,4,5],
  zv (zb 24 .neq 19 23) [3,2,0,1,7,6,4,5]])
  (zc 24
  (zs [] [] [zK 4 (zB false)]
  .ret)
  .skip))))
  (zR [25] [25] [zO 25 (.bin .add (.t 13) (zI 1)),
  zM 13 25])))))))
  (zs [] [] [zK 4 (zB true)]
  .ret))))⟩
def ir272:FnIr:=⟨0,2,42,[(4,none)],[],
  (zs [] [] [zK 4 (zB false)]
  (.seq (zs (zr 6 5) (zr 6 4) [zM 6 0,
  zl 7 6,
  zM 8 1,
  zl 9 8,
  zb 10 .neq 7 9]
  (zc 10
  (zs [] [] [zK 4 (zB false)]
  .ret)
  .skip))
  (.seq (zs [] [] [zK 5 (zI 0)]
  (.block 0 (.loop (.seq (zs (zr 11 4) [11,12,13] [zM 11 5,
  zM 12 0,
  zl 13 12,
  zb 14 .lss 11 13]
  (zc 14
  .skip
  (.exit 0)))
  (.seq (.block 1 (.seq (.region true (zq 17 25 [81]) (zr 17 24) [zM 17 0,
  zM 18 5,
  zv (zp 19 2 17 18) [0,1],
  zv (zF 20 0 19) [2,0,1],
  zv (zL 21 20) [3,2,0,1],
  zM 22 1,
  zM 23 5,
  zv (zp 24 2 22 23) [5,6],
  zv (zF 25 0 24) [7,5,6],
  zv (zL 26 25) [8,7,5,6],
  zv (zb 27 .neq 21 26) [4,3,2,0,1,9,8,7,5,6],
  zv (zM 28 27) [10,4,3,2,0,1,9,8,7,5,6],
  zv (zG 29 (.move (.t 0)) 28 false) [11,10,4,3,2,0,1,9,8,7,5,6],
  zv (zG 30 (.move (.t 5)) 28 false) [11,10,4,3,2,0,1,9,8,7,5,6],
  zv (zG 31 (.iaddr 2 (.t 29) (.t 30)) 28 false) [12,11,10,4,3,2,0,1,9,8,7,5,6,13],
  zv (zG 32 (.faddr 1 (.t 31)) 28 false) [14,12,11,10,4,3,2,0,1,9,8,7,5,6,13],
  zv (zG 33 (.load false 1 (.t 32)) 28 false) [15,14,12,11,10,4,3,2,0,1,9,8,7,5,6,13],
  zv (zG 34 (.move (.t 1)) 28 false) [11,10,4,3,2,0,1,9,8,7,5,6],
  zv (zG 35 (.move (.t 5)) 28 false) [11,10,4,3,2,0,1,9,8,7,5,6],
  zv (zG 36 (.iaddr 2 (.t 34) (.t 35)) 28 false) [17,11,10,4,3,2,0,1,9,8,7,5,6,18],
  zv (zG 37 (.faddr 1 (.t 36)) 28 false) [19,17,11,10,4,3,2,0,1,9,8,7,5,6,18],
  zv (zG 38 (.load false 1 (.t 37)) 28 false) [20,19,17,11,10,4,3,2,0,1,9,8,7,5,6,18],
  zv (zG 39 (.call 228 [(.t 33),(.t 38)]) 28 false) [16,15,14,12,11,10,4,3,2,0,1,9,8,7,5,6,13,21,20,19,17,18],
  zv (zG 40 (.un .not (.t 39)) 28 false) [22,16,15,14,12,11,10,4,3,2,0,1,9,8,7,5,6,13,21,20,19,17,18],
  zv (zO 41 (.pick (.t 28) (zB true) (.t 40))) [11,10,4,3,2,0,1,9,8,7,5,6,23,22,16,15,14,12,13,21,20,19,17,18]])
  (zc 41
  (zs [] [] [zK 4 (zB false)]
  .ret)
  .skip)))
  (zR [15,16] [15,16] [zM 15 5,
  zO 16 (.bin .add (.t 15) (zI 1)),
  zA 5 16]))))))
  (zs [] [] [zK 4 (zB true)]
  .ret))))⟩
def ir291:FnIr:=⟨0,2,17,[(4,none)],[],
  (zs [2,3,19,20] [] [zO 2 (.box (.t 0)),
  zO 3 (.box (.t 1)),
  zK 4 (zB false)]
  (zs (zq 5 12 [32]) (zr 5 12) [zF 5 0 2,
  zL 6 5,
  zF 7 0 3,
  zL 8 7,
  zb 9 .eql 6 8,
  zM 10 9,
  zG 11 (.faddr 1 (.t 2)) 10 true,
  zG 12 (.load false 1 (.t 11)) 10 true,
  zG 13 (.faddr 1 (.t 3)) 10 true,
  zG 14 (.load false 1 (.t 13)) 10 true,
  zG 15 (.call 229 [(.t 12),(.t 14)]) 10 true,
  zO 16 (.pick (.t 10) (.t 15) (zB false)),
  zA 4 16]
  .ret))⟩
def ir350:FnIr:=⟨0,3,32,[(6,none)],[],
  (zs [] [] [zK 6 (zB false)]
  (.seq (zs (zr 10 5) (zr 10 4) [zM 10 0,
  zl 11 10,
  zM 12 1,
  zl 13 12,
  zb 14 .neq 11 13]
  (zc 14
  (zs [] [] [zK 6 (zB false)]
  .ret)
  .skip))
  (.seq (zs [15,16,17] [] [zM 15 0,
  zl 16 15,
  zO 17 (.move (zI 0))]
  (.block 0 (.loop (zs [18] [] [zb 18 .lss 17 16]
  (.seq (zc 18
  .skip
  (.exit 0))
  (.seq (.block 1 (zs [19,20,21,8,40] [19,20,21] [zM 19 17,
  zp 20 2 15 17,
  zS 21 2 20,
  zO 8 (.alloc [(.int .i64 0),(.row () [])]),
  zA 7 19,
  zN (.store 2 (.t 8) (.t 21))]
  (zs (zq 22 4 [9,41]) (zr 22 4) [zM 22 1,
  zM 23 7,
  zp 24 2 22 23,
  zS 25 2 24,
  zO 9 (.alloc [(.int .i64 0),(.row () [])]),
  zN (.store 2 (.t 9) (.t 25))]
  (zs (zq 26 5 [61]) (zr 26 4) [zM 26 2,
  zS 27 2 8,
  zS 28 2 9,
  zO 29 (.callv (.t 26) [(.t 27),(.t 28)]),
  zn 30 29]
  (zc 30
  (zs [] [] [zK 6 (zB false)]
  .ret)
  .skip)))))
  (zR [31] [31] [zO 31 (.bin .add (.t 17) (zI 1)),
  zM 17 31])))))))
  (zs [] [] [zK 6 (zB true)]
  .ret))))⟩
def ir273:FnIr:=⟨0,2,8,[(4,none)],[],
  (zs [] [] [zK 4 (zB false)]
  (zs [5,6,7,15] [5,6,7] [zM 5 0,
  zM 6 1,
  zO 7 (.call 350 [(.t 5),(.t 6),(.f 291)]),
  zA 4 7]
  .ret))⟩
def ir131:FnIr:=⟨0,2,17,[(4,none)],[],
  (zs [2,3,19,20] [] [zO 2 (.box (.t 0)),
  zO 3 (.box (.t 1)),
  zK 4 (zB false)]
  (zs (zq 5 12 [26,32]) (zr 5 12) [zF 5 0 2,
  zL 6 5,
  zF 7 0 3,
  zL 8 7,
  zC 9 229 [6,8],
  zM 10 9,
  zG 11 (.faddr 1 (.t 2)) 10 true,
  zG 12 (.load false 1 (.t 11)) 10 true,
  zG 13 (.faddr 1 (.t 3)) 10 true,
  zG 14 (.load false 1 (.t 13)) 10 true,
  zG 15 (.call 273 [(.t 12),(.t 14)]) 10 true,
  zO 16 (.pick (.t 10) (.t 15) (zB false)),
  zA 4 16]
  .ret))⟩
def ir264:FnIr:=⟨0,2,31,[(4,none)],[],
  (zs [] [] [zK 4 zE]
  (zs [8] [8] [zO 8 (.bslice [(.int .i64 0),(.row () [])] 0 []),
  zA 5 8]
  (.seq (zs [9,10,11] [] [zM 9 0,
  zl 10 9,
  zO 11 (.move (zI 0))]
  (.block 0 (.loop (zs [12] [] [zb 12 .lss 11 10]
  (.seq (zc 12
  .skip
  (.exit 0))
  (.seq (.block 1 (zs [13,14,7,38] [13,14] [zp 13 2 9 11,
  zS 14 2 13,
  zO 7 (.alloc [(.int .i64 0),(.row () [])]),
  zN (.store 2 (.t 7) (.t 14))]
  (zs (zq 15 4 [49]) [15,16,17] [zM 15 1,
  zF 16 0 7,
  zL 17 16,
  zO 18 (.callv (.t 15) [(.t 17)])]
  (zc 18
  (.region true (zr 19 10) (zr 19 10) [zM 19 5,
  zF 20 0 7,
  zv (zL 21 20) [1],
  zO 22 (.bslice [(.int .i64 0)] 0 []),
  zF 23 1 7,
  zv (zL 24 23) [4],
  zv (zO 25 (.append 1 (.t 22) (.t 24))) [3,5,4],
  zv (zO 26 (.build [(.int .i64 0),(.row () [])] [(0,1,(.t 21)),(1,1,(.t 25))])) [2,1,6,3,5,4],
  zv (zO 27 (.bslice [(.int .i64 0),(.row () [])] 1 [(0,(.t 26))])) [7,2,1,6,3,5,4],
  zv (zO 28 (.append 2 (.t 19) (.t 27))) [0,8,7,2,1,6,3,5,4],
  zv (zA 5 28) [9,0,8,7,2,1,6,3,5,4]])
  .skip))))
  (zR [29] [29] [zO 29 (.bin .add (.t 11) (zI 1)),
  zM 11 29])))))))
  (zs [30] [30] [zM 30 5,
  zA 4 30]
  .ret))))⟩
def ir299:FnIr:=⟨1,1,8,[(2,none)],[],
  (zs [] [] [zK 2 zE]
  (.seq (zs [3,4] [3] [zM 3 0,
  zO 4 (.bad)]
  (zc 4
  (zs [] [] [zK 2 zE]
  .ret)
  .skip))
  (zs [5,6,7] [5,6,7] [zO 5 (.bslice [(.int .i64 0)] 0 []),
  zM 6 0,
  zO 7 (.append 1 (.t 5) (.t 6)),
  zA 2 7]
  .ret)))⟩
def ir288:FnIr:=⟨0,2,9,[(4,none)],[],
  (zs [] [] [zK 4 (zB false)]
  (zs (zq 5 4 [16]) (zr 5 4) [zM 5 0,
  zM 6 1,
  zC 7 351 [5,6],
  zO 8 (.bin .geq (.t 7) (zI 0)),
  zA 4 8]
  .ret))⟩
def ir68:FnIr:=⟨0,1,28,[(2,none)],[],
  (zs [1,29] [] [zO 1 (.box (.t 0)),
  zK 2 (zB false)]
  (zs (zq 3 25 [33,49,54]) (zr 3 25) [zF 3 0 1,
  zL 4 3,
  zO 5 (.call 230 [(.t 4),(zI 0),(zI 9)]),
  zM 6 5,
  zG 7 (.faddr 1 (.t 1)) 6 true,
  zG 8 (.load false 1 (.t 7)) 6 true,
  zG 9 (.len false (.t 8)) 6 true,
  zG 10 (.bin .leq (.t 9) (zI 6)) 6 true,
  zO 11 (.pick (.t 6) (.t 10) (zB false)),
  zM 12 11,
  zG 13 (.faddr 2 (.t 1)) 12 true,
  zG 14 (.load false 1 (.t 13)) 12 true,
  zG 15 (.len false (.t 14)) 12 true,
  zG 16 (.bin .leq (.t 15) (zI 6)) 12 true,
  zO 17 (.pick (.t 12) (.t 16) (zB false)),
  zM 18 17,
  zG 19 (.faddr 1 (.t 1)) 18 true,
  zG 20 (.load false 1 (.t 19)) 18 true,
  zG 21 (.call 231 [(.t 20)]) 18 true,
  zO 22 (.pick (.t 18) (.t 21) (zB false)),
  zM 23 22,
  zG 24 (.faddr 2 (.t 1)) 23 true,
  zG 25 (.load false 1 (.t 24)) 23 true,
  zG 26 (.call 231 [(.t 25)]) 23 true,
  zO 27 (.pick (.t 23) (.t 26) (zB false)),
  zA 2 27]
  .ret))⟩
def ir358:FnIr:=⟨0,1,25,[(2,none)],[],
  (zs [] [] [zK 2 (zI 0)]
  (.seq (zs [5,6,7] [5,6] [zM 5 0,
  zl 6 5,
  zO 7 (.bin .lss (.t 6) (zI 1))]
  (zc 7
  (zR [8] [8] [zO 8 (.bad),
  zN (.bad)])
  .skip))
  (zs [9,10,11] [9,10,11] [zM 9 0,
  zO 10 (.iaddr 1 (.t 9) (zI 0)),
  zL 11 10,
  zA 3 11]
  (.seq (zs [] [] [zK 4 (zI 1)]
  (.block 0 (.loop (.seq (zs (zr 12 4) [12,13,14] [zM 12 4,
  zM 13 0,
  zl 14 13,
  zb 15 .lss 12 14]
  (zc 15
  .skip
  (.exit 0)))
  (.seq (.block 1 (zR (zr 18 6) (zr 18 6) [zM 18 3,
  zM 19 0,
  zM 20 4,
  zp 21 1 19 20,
  zL 22 21,
  zO 23 (.max (.t 18) (.t 22)),
  zA 3 23]))
  (zR [16,17] [16,17] [zM 16 4,
  zO 17 (.bin .add (.t 16) (zI 1)),
  zA 4 17]))))))
  (zs [24] [24] [zM 24 3,
  zA 2 24]
  .ret)))))⟩
def ir359:FnIr:=⟨0,2,27,[(3,none)],[],
  (zs [2,29] [] [zO 2 (.box (.t 0)),
  zK 3 (zB false)]
  (zs (zq 4 23 [35,44,50]) (zr 4 23) [zF 4 1 1,
  zL 5 4,
  zF 6 0 2,
  zL 7 6,
  zC 8 302 [5,7],
  zM 9 8,
  zG 10 (.faddr 3 (.t 1)) 9 false,
  zG 11 (.load false 1 (.t 10)) 9 false,
  zG 12 (.move (.t 11)) 9 false,
  zG 13 (.faddr 2 (.t 1)) 12 true,
  zG 14 (.load false 1 (.t 13)) 12 true,
  zG 15 (.faddr 0 (.t 2)) 12 true,
  zG 16 (.load false 1 (.t 15)) 12 true,
  zG 17 (.call 302 [(.t 14),(.t 16)]) 12 true,
  zG 18 (.un .not (.t 17)) 12 true,
  zG 19 (.pick (.t 12) (.t 18) (zB false)) 9 false,
  zG 20 (.move (.t 19)) 9 false,
  zG 21 (.faddr 0 (.t 2)) 20 true,
  zG 22 (.load false 1 (.t 21)) 20 true,
  zG 23 (.call 232 [(.t 22),(zI 1),(zI 3)]) 20 true,
  zG 24 (.un .not (.t 23)) 20 true,
  zG 25 (.pick (.t 20) (.t 24) (zB false)) 9 false,
  zO 26 (.pick (.t 9) (zB true) (.t 25)),
  zA 3 26]
  .ret))⟩
def ir310:FnIr:=⟨0,2,20,[(4,none)],[],
  (zs [2,3,22,23] [] [zO 2 (.box (.t 0)),
  zO 3 (.box (.t 1)),
  zK 4 (zB false)]
  (.seq (.seq (.region true (zq 5 11 [31]) (zr 5 10) [zF 5 0 2,
  zv (zL 6 5) [0],
  zv (zO 7 (.bin .neq (.t 6) (zI 0))) [1,0],
  zv (zM 8 7) [2,1,0],
  zv (zG 9 (.faddr 0 (.t 3)) 8 true) [3,2,1,0],
  zv (zG 10 (.load false 1 (.t 9)) 8 true) [4,3,2,1,0],
  zv (zG 11 (.call 358 [(.t 10)]) 8 true) [5,4,3,2,1,0],
  zv (zG 12 (.faddr 0 (.t 2)) 8 true) [3,2,1,0],
  zv (zG 13 (.load false 1 (.t 12)) 8 true) [7,3,2,1,0],
  zv (zG 14 (.bin .gtr (.t 11) (.t 13)) 8 true) [6,5,4,3,2,1,0,8,7],
  zv (zO 15 (.pick (.t 8) (.t 14) (zB false))) [3,2,1,0,9,6,5,4,8,7]])
  (zc 15
  (zs [] [] [zK 4 (zB true)]
  .ret)
  .skip))
  (zs (zq 16 4 [39]) (zr 16 4) [zF 16 1 3,
  zL 17 16,
  zO 18 (.mkfn 359 [2]),
  zC 19 288 [17,18],
  zA 4 19]
  .ret)))⟩
def ir311:FnIr:=⟨0,2,9,[(3,none)],[],
  (zs [] [] [zK 3 (zB false)]
  (zs (zq 4 5 [16]) (zr 4 5) [zF 4 2 1,
  zL 5 4,
  zM 6 0,
  zC 7 302 [5,6],
  zn 8 7,
  zA 3 8]
  .ret))⟩
def ir69:FnIr:=⟨0,1,28,[(2,none)],[],
  (zs [1,29] [] [zO 1 (.box (.t 0)),
  zK 2 (zB false)]
  (zs (zq 3 25 [33,49,54]) (zr 3 25) [zF 3 0 1,
  zL 4 3,
  zO 5 (.call 232 [(.t 4),(zI 0),(zI 9)]),
  zM 6 5,
  zG 7 (.faddr 1 (.t 1)) 6 true,
  zG 8 (.load false 1 (.t 7)) 6 true,
  zG 9 (.len false (.t 8)) 6 true,
  zG 10 (.bin .leq (.t 9) (zI 6)) 6 true,
  zO 11 (.pick (.t 6) (.t 10) (zB false)),
  zM 12 11,
  zG 13 (.faddr 2 (.t 1)) 12 true,
  zG 14 (.load false 1 (.t 13)) 12 true,
  zG 15 (.len false (.t 14)) 12 true,
  zG 16 (.bin .leq (.t 15) (zI 6)) 12 true,
  zO 17 (.pick (.t 12) (.t 16) (zB false)),
  zM 18 17,
  zG 19 (.faddr 1 (.t 1)) 18 true,
  zG 20 (.load false 1 (.t 19)) 18 true,
  zG 21 (.call 233 [(.t 20),(zI 0),(zI 255)]) 18 true,
  zO 22 (.pick (.t 18) (.t 21) (zB false)),
  zM 23 22,
  zG 24 (.faddr 2 (.t 1)) 23 true,
  zG 25 (.load false 1 (.t 24)) 23 true,
  zG 26 (.call 233 [(.t 25),(zI 0),(zI 255)]) 23 true,
  zO 27 (.pick (.t 23) (.t 26) (zB false)),
  zA 2 27]
  .ret))⟩
def ir174:FnIr:=⟨0,2,28,[(4,(some (true,2))),(5,none)],[],
  (zs [2,3,4,30,31,32] [] [zO 2 (.box (.t 0)),
  zO 3 (.box (.t 1)),
  zO 4 (.alloc [(.row () []),(.row () [])]),
  zK 5 (zB false)]
  (.seq (zs (zq 6 13 [35,39,45]) (zr 6 12) [zS 6 4 2,
  zC 7 69 [6],
  zn 8 7,
  zM 9 8,
  zG 10 (.load true 2 (.t 3)) 9 false,
  zG 11 (.call 113 [(.t 10)]) 9 false,
  zG 12 (.un .not (.t 11)) 9 false,
  zO 13 (.pick (.t 9) (zB true) (.t 12)),
  zM 14 13,
  zG 15 (.load true 4 (.t 2)) 14 false,
  zG 16 (.load true 2 (.t 3)) 14 false,
  zG 17 (.call 310 [(.t 15),(.t 16)]) 14 false,
  zO 18 (.pick (.t 14) (zB true) (.t 17))]
  (zc 18
  (zs [19] [19] [zO 19 (.build [(.row () []),(.row () [])] []),
  zN (.store 2 (.t 4) (.t 19)),
  zK 5 (zB false)]
  .ret)
  .skip))
  (.seq (.region true (zq 20 8 [50,54]) (zr 20 8) [zF 20 0 3,
  zv (zL 21 20) [0],
  zv (zC 22 299 [21]) [1,0],
  zF 23 1 3,
  zv (zL 24 23) [3],
  zO 25 (.mkfn 311 [2]),
  zv (zC 26 264 [24,25]) [4,3,5,2,1,0],
  zv (zO 27 (.build [(.row () []),(.row () [])] [(0,1,(.t 22)),(1,1,(.t 26))])) [2,1,0,6,4,3,5],
  zv (zN (.store 2 (.t 4) (.t 27))) [7,2,1,0,6,4,3,5],
  zv (zK 5 (zB true)) [8,7,2,1,0,6,4,3,5]])
  .ret)))⟩
def ir347:FnIr:=⟨0,1,3,[(2,none)],[],
  (zs [] [] [zK 2 (zB false)]
  (zs [] [] [zK 2 (zB true)]
  .ret))⟩
def ir266:FnIr:=⟨0,1,5,[(2,none)],[],
  (zs [] [] [zK 2 zE]
  (zs [3,4,9] [3,4] [zM 3 0,
  zO 4 (.call 264 [(.t 3),(.f 347)]),
  zA 2 4]
  .ret))⟩
def ir261:FnIr:=⟨0,1,11,[(2,(some (true,2)))],[],
  (zs [1,2,12,13] [] [zO 1 (.box (.t 0)),
  zO 2 (.alloc [(.row () []),(.row () [])])]
  (.seq (.region true (zq 3 8 [20]) (zr 3 8) [zO 3 (.bslice [(.int .i64 0)] 0 []),
  zF 4 0 1,
  zv (zL 5 4) [1],
  zv (zO 6 (.append 1 (.t 3) (.t 5))) [0,2,1],
  zF 7 1 1,
  zv (zL 8 7) [4],
  zv (zC 9 266 [8]) [5,4,3,0,2,1],
  zv (zO 10 (.build [(.row () []),(.row () [])] [(0,1,(.t 6)),(1,1,(.t 9))])) [3,0,2,1,6,5,4],
  zv (zN (.store 2 (.t 2) (.t 10))) [7,3,0,2,1,6,5,4]])
  .ret))⟩
def ir182:FnIr:=⟨0,2,40,[(4,(some (true,2))),(5,none)],[],
  (zs [3,4,43,44] [] [zO 3 (.box (.t 1)),
  zO 4 (.alloc [(.row () []),(.row () [])]),
  zK 5 (zB false)]
  (.seq (zs (zq 9 8 [50]) (zr 9 7) [zS 9 2 3,
  zC 10 113 [9],
  zn 11 10,
  zM 12 11,
  zG 13 (.move (.t 0)) 12 false,
  zG 14 (.len false (.t 13)) 12 false,
  zG 15 (.bin .gtr (.t 14) (zI 4)) 12 false,
  zO 16 (.pick (.t 12) (zB true) (.t 15))]
  (zc 16
  (zs [17] [17] [zO 17 (.build [(.row () []),(.row () [])] []),
  zN (.store 2 (.t 4) (.t 17)),
  zK 5 (zB false)]
  .ret)
  .skip))
  (zs [18,19,6,59,46] [18,19] [zS 18 2 3,
  zC 19 261 [18],
  zO 6 (.alloc [(.row () []),(.row () [])]),
  zN (.store 2 (.t 6) (.t 19)),
  zK 7 (zB true)]
  (.seq (zs [] [] [zK 8 (zI 0)]
  (.block 0 (.loop (.seq (zs (zr 20 7) (zr 20 6) [zM 20 8,
  zM 21 0,
  zl 22 21,
  zb 23 .lss 20 22,
  zM 24 23,
  zG 25 (.move (.t 7)) 24 true,
  zO 26 (.pick (.t 24) (.t 25) (zB false))]
  (zc 26
  .skip
  (.exit 0)))
  (.seq (.block 1 (.region true (zq 30 6 [29,36,37,75]) (zq 30 6 [29,36,37]) [zM 30 0,
  zM 31 8,
  zv (zp 32 4 30 31) [0,1],
  zv (zS 33 4 32) [2,0,1],
  zS 34 2 6,
  zv (zC 35 174 [33,34]) [3,2,0,1,4],
  zv (zM 29 35) [5,3,2,0,1,4],
  zv (zO 36 (.extract 0 (.t 29))) [6,5,3,2,0,1,4],
  zv (zO 37 (.extract 1 (.t 29))) [6,5,3,2,0,1,4],
  zv (zN (.store 2 (.t 6) (.t 36))) [7,6,5,3,2,0,1,4],
  zv (zA 7 37) [8,6,5,3,2,0,1,4,9,7]]))
  (zR [27,28] [27,28] [zM 27 8,
  zO 28 (.bin .add (.t 27) (zI 1)),
  zA 8 28]))))))
  (zs [38,39] [38,39] [zS 38 2 6,
  zM 39 7,
  zN (.store 2 (.t 4) (.t 38)),
  zA 5 39]
  .ret)))))⟩
def ir185:FnIr:=⟨0,2,19,[(4,none)],[],
  (zs [2,21] [] [zO 2 (.box (.t 0)),
  zK 4 (zB false)]
  (zs [8,9,10,7,11,12,5,29,24] [8,9,10,7,11,12] [zM 8 1,
  zS 9 2 2,
  zC 10 182 [8,9],
  zM 7 10,
  zO 11 (.extract 0 (.t 7)),
  zO 12 (.extract 1 (.t 7)),
  zO 5 (.alloc [(.row () []),(.row () [])]),
  zN (.store 2 (.t 5) (.t 11)),
  zA 6 12]
  (zs (zq 13 6 [36]) (zr 13 6) [zM 13 6,
  zM 14 13,
  zG 15 (.load true 2 (.t 5)) 14 true,
  zG 16 (.load true 2 (.t 2)) 14 true,
  zG 17 (.call 131 [(.t 15),(.t 16)]) 14 true,
  zO 18 (.pick (.t 14) (.t 17) (zB false)),
  zA 4 18]
  .ret)))⟩
def ir307:FnIr:=⟨0,2,38,[(4,none)],[],
  (zs [] [] [zK 4 zE]
  (zs [7] [7] [zO 7 (.bslice [(.int .i64 0),(.row () [])] 0 []),
  zA 5 7]
  (.seq (zs [] [] [zK 6 (zI 0)]
  (.block 0 (.loop (.seq (zs (zr 8 4) [8,9,10] [zM 8 6,
  zM 9 0,
  zl 10 9,
  zb 11 .lss 8 10]
  (zc 11
  .skip
  (.exit 0)))
  (.seq (.block 1 (zs (zq 14 7 [58]) (zr 14 6) [zM 14 1,
  zM 15 0,
  zM 16 6,
  zp 17 2 15 16,
  zF 18 0 17,
  zL 19 18,
  zC 20 285 [14,19]]
  (zc 20
  (.region true (zr 21 16) (zr 21 16) [zM 21 5,
  zM 22 0,
  zM 23 6,
  zv (zp 24 2 22 23) [1,2],
  zv (zF 25 0 24) [3,1,2],
  zv (zL 26 25) [4,3,1,2],
  zO 27 (.bslice [(.int .i64 0)] 0 []),
  zM 28 0,
  zM 29 6,
  zv (zp 30 2 28 29) [7,8],
  zv (zF 31 1 30) [9,7,8],
  zv (zL 32 31) [10,9,7,8],
  zv (zO 33 (.append 1 (.t 27) (.t 32))) [6,11,10,9,7,8],
  zv (zO 34 (.build [(.int .i64 0),(.row () [])] [(0,1,(.t 26)),(1,1,(.t 33))])) [5,4,3,1,2,12,6,11,10,9,7,8],
  zv (zO 35 (.bslice [(.int .i64 0),(.row () [])] 1 [(0,(.t 34))])) [13,5,4,3,1,2,12,6,11,10,9,7,8],
  zv (zO 36 (.append 2 (.t 21) (.t 35))) [0,14,13,5,4,3,1,2,12,6,11,10,9,7,8],
  zv (zA 5 36) [15,0,14,13,5,4,3,1,2,12,6,11,10,9,7,8]])
  .skip)))
  (zR [12,13] [12,13] [zM 12 6,
  zO 13 (.bin .add (.t 12) (zI 1)),
  zA 6 13]))))))
  (zs [37] [37] [zM 37 5,
  zA 4 37]
  .ret))))⟩
def ir164:FnIr:=⟨0,3,83,[(6,(some (true,2))),(7,none)],[],
  (zs [3,6,86,89] [] [zO 3 (.box (.t 0)),
  zO 6 (.alloc [(.row () []),(.row () [])]),
  zK 7 (zB false)]
  (.seq (zs [11,12,13,95] [11,12] [zS 11 2 3,
  zC 12 142 [11],
  zn 13 12]
  (zc 13
  (zs [14] [14] [zO 14 (.build [(.row () []),(.row () [])] []),
  zN (.store 2 (.t 6) (.t 14)),
  zK 7 (zB false)]
  .ret)
  .skip))
  (zs [15,8,91] [15] [zO 15 (.build [(.row () []),(.row () [])] []),
  zO 8 (.alloc [(.row () []),(.row () [])]),
  zN (.store 2 (.t 8) (.t 15))]
  (.seq (zs [] [] [zK 9 (zI 0)]
  (.block 0 (.loop (.seq (zs (zr 16 5) (zr 16 4) [zM 16 9,
  zF 17 0 3,
  zL 18 17,
  zl 19 18,
  zb 20 .lss 16 19]
  (zc 20
  .skip
  (.exit 0)))
  (.seq (.block 1 (zs (zq 23 8 [112]) (zr 23 7) [zM 23 1,
  zF 24 0 3,
  zL 25 24,
  zM 26 9,
  zp 27 1 25 26,
  zL 28 27,
  zC 29 285 [23,28],
  zn 30 29]
  (zc 30
  (.region true (zr 31 10) (zr 31 10) [zF 31 0 8,
  zv (zL 32 31) [0],
  zF 33 0 3,
  zv (zL 34 33) [2],
  zM 35 9,
  zv (zp 36 1 34 35) [3,2,4],
  zv (zL 37 36) [5,3,2,4],
  zv (zO 38 (.bslice [(.int .i64 0)] 1 [(0,(.t 37))])) [6,5,3,2,4],
  zv (zO 39 (.append 1 (.t 32) (.t 38))) [1,0,7,6,5,3,2,4],
  zv (zF 40 0 8) [0,1,2,3,4,5,6,7,8],
  zv (zN (.store 1 (.t 40) (.t 39))) [9,0,1,2,3,4,5,6,7,8]])
  .skip)))
  (zR [21,22] [21,22] [zM 21 9,
  zO 22 (.bin .add (.t 21) (zI 1)),
  zA 9 22]))))))
  (.seq (zs [] [] [zK 10 (zI 0)]
  (.block 2 (.loop (.seq (zs (zr 41 5) (zr 41 4) [zM 41 10,
  zF 42 1 3,
  zL 43 42,
  zl 44 43,
  zb 45 .lss 41 44]
  (zc 45
  .skip
  (.exit 2)))
  (.seq (.block 3 (zs (zq 48 9 [138]) (zr 48 8) [zM 48 2,
  zF 49 1 3,
  zL 50 49,
  zM 51 10,
  zp 52 2 50 51,
  zF 53 0 52,
  zL 54 53,
  zC 55 285 [48,54],
  zn 56 55]
  (zc 56
  (.region true (zr 57 20) (zr 57 20) [zF 57 1 8,
  zv (zL 58 57) [0],
  zF 59 1 3,
  zv (zL 60 59) [2],
  zM 61 10,
  zv (zp 62 2 60 61) [3,2,4],
  zv (zF 63 0 62) [5,3,2,4],
  zv (zL 64 63) [6,5,3,2,4],
  zO 65 (.bslice [(.int .i64 0)] 0 []),
  zF 66 1 3,
  zv (zL 67 66) [9],
  zM 68 10,
  zv (zp 69 2 67 68) [10,9,11],
  zv (zF 70 1 69) [12,10,9,11],
  zv (zL 71 70) [13,12,10,9,11],
  zv (zO 72 (.append 1 (.t 65) (.t 71))) [8,14,13,12,10,9,11],
  zv (zO 73 (.build [(.int .i64 0),(.row () [])] [(0,1,(.t 64)),(1,1,(.t 72))])) [7,6,5,3,2,4,15,8,14,13,12,10,9,11],
  zv (zO 74 (.bslice [(.int .i64 0),(.row () [])] 1 [(0,(.t 73))])) [16,7,6,5,3,2,4,15,8,14,13,12,10,9,11],
  zv (zO 75 (.append 2 (.t 58) (.t 74))) [1,0,17,16,7,6,5,3,2,4,15,8,14,13,12,10,9,11],
  zv (zF 76 1 8) [0,1,2,3,4,5,6,7,8,9,10,11,12,13,14,15,16,17,18],
  zv (zN (.store 1 (.t 76) (.t 75))) [19,0,1,2,3,4,5,6,7,8,9,10,11,12,13,14,15,16,17,18]])
  .skip)))
  (zR [46,47] [46,47] [zM 46 10,
  zO 47 (.bin .add (.t 46) (zI 1)),
  zA 10 47]))))))
  (.seq (zs (zr 77 4) [77,78,79] [zF 77 0 8,
  zL 78 77,
  zl 79 78,
  zO 80 (.bin .eql (.t 79) (zI 0))]
  (zc 80
  (zs [81] [81] [zO 81 (.build [(.row () []),(.row () [])] []),
  zN (.store 2 (.t 6) (.t 81)),
  zK 7 (zB false)]
  .ret)
  .skip))
  (zs [82] [82] [zS 82 2 8,
  zN (.store 2 (.t 6) (.t 82)),
  zK 7 (zB true)]
  .ret)))))))⟩
def ir305:FnIr:=⟨0,2,8,[(3,none)],[],
  (zs [] [] [zK 3 (zB false)]
  (zs (zq 4 4 [14]) (zr 4 4) [zL 4 1,
  zM 5 0,
  zC 6 302 [4,5],
  zn 7 6,
  zA 3 7]
  .ret))⟩
def ir165:FnIr:=⟨0,3,28,[(6,(some (true,2))),(7,none)],[],
  (zs [3,5,6,31,33,34] [] [zO 3 (.box (.t 0)),
  zO 5 (.box (.t 2)),
  zO 6 (.alloc [(.row () []),(.row () [])]),
  zK 7 (zB false)]
  (zs (zq 9 4 [40]) (zr 9 4) [zF 9 0 3,
  zL 10 9,
  zM 11 1,
  zC 12 287 [10,11],
  zA 8 12]
  (.seq (zs (zq 13 8 [42]) (zr 13 7) [zS 13 2 3,
  zC 14 113 [13],
  zn 15 14,
  zM 16 15,
  zG 17 (.move (.t 8)) 16 false,
  zG 18 (.len false (.t 17)) 16 false,
  zG 19 (.bin .eql (.t 18) (zI 0)) 16 false,
  zO 20 (.pick (.t 16) (zB true) (.t 19))]
  (zc 20
  (zs [21] [21] [zO 21 (.build [(.row () []),(.row () [])] []),
  zN (.store 2 (.t 6) (.t 21)),
  zK 7 (zB false)]
  .ret)
  .skip))
  (zs (zq 22 6 [54]) (zr 22 6) [zM 22 8,
  zF 23 1 3,
  zL 24 23,
  zO 25 (.mkfn 305 [5]),
  zC 26 264 [24,25],
  zO 27 (.build [(.row () []),(.row () [])] [(0,1,(.t 22)),(1,1,(.t 26))]),
  zN (.store 2 (.t 6) (.t 27)),
  zK 7 (zB true)]
  .ret))))⟩
def ir77:FnIr:=⟨0,1,7,[(2,(some (true,2)))],[],
  (zs [2,9] [] [zO 2 (.alloc [(.row () []),(.row () [])])]
  (zs (zr 3 4) (zr 3 4) [zO 3 (.bslice [(.int .i64 0)] 0 []),
  zM 4 0,
  zO 5 (.append 1 (.t 3) (.t 4)),
  zO 6 (.build [(.row () []),(.row () [])] [(0,1,(.t 5))]),
  zN (.store 2 (.t 2) (.t 6))]
  .ret))⟩
def ir171:FnIr:=⟨0,2,37,[(4,none)],[],
  (zs [] [] [zK 4 zE]
  (zs [10] [10] [zO 10 (.bslice [(.int .i64 0)] 0 []),
  zA 5 10]
  (.seq (zs [11,12,13,49] [11,12] [zM 11 1,
  zC 12 255 [11],
  zn 13 12]
  (zc 13
  (zs [14] [14] [zM 14 5,
  zA 4 14]
  .ret)
  .skip))
  (.seq (zs [15,16,17] [] [zM 15 1,
  zl 16 15,
  zO 17 (.move (zI 0))]
  (.block 0 (.loop (zs [18] [] [zb 18 .lss 17 16]
  (.seq (zc 18
  .skip
  (.exit 0))
  (.seq (.block 1 (zs [19,20] [19,20] [zp 19 1 15 17,
  zL 20 19,
  zA 7 20]
  (zs (zq 22 5 [21,27,28,8,62,63,45]) (zq 22 5 [21,27,28,8]) [zM 22 0,
  zM 23 7,
  zO 24 (.bslice [(.int .i64 0)] 1 [(0,(.t 23))]),
  zC 25 77 [24],
  zC 26 182 [22,25],
  zM 21 26,
  zO 27 (.extract 0 (.t 21)),
  zO 28 (.extract 1 (.t 21)),
  zO 8 (.alloc [(.row () []),(.row () [])]),
  zN (.store 2 (.t 8) (.t 27)),
  zA 9 28]
  (zs [29,30] [29] [zM 29 9,
  zn 30 29]
  (zc 30
  (zR (zr 31 4) (zr 31 4) [zM 31 5,
  zM 32 7,
  zO 33 (.bslice [(.int .i64 0)] 1 [(0,(.t 32))]),
  zO 34 (.append 1 (.t 31) (.t 33)),
  zA 5 34])
  .skip)))))
  (zR [35] [35] [zO 35 (.bin .add (.t 17) (zI 1)),
  zM 17 35])))))))
  (zs [36] [36] [zM 36 5,
  zA 4 36]
  .ret)))))⟩
def ir167:FnIr:=⟨0,2,19,[(4,none)],[],
  (zs [] [] [zK 4 (zB false)]
  (.seq (zs [7,8,9,27] [7,8] [zM 7 1,
  zC 8 255 [7],
  zn 9 8]
  (zc 9
  (zs [] [] [zK 4 (zB false)]
  .ret)
  .skip))
  (zs (zq 11 5 [10,16,17,5,33,34,24]) (zq 11 5 [10,16,17,5]) [zM 11 0,
  zM 12 1,
  zO 13 (.slice 1 (.t 12) none (some (zI 1))),
  zC 14 77 [13],
  zC 15 182 [11,14],
  zM 10 15,
  zO 16 (.extract 0 (.t 10)),
  zO 17 (.extract 1 (.t 10)),
  zO 5 (.alloc [(.row () []),(.row () [])]),
  zN (.store 2 (.t 5) (.t 16)),
  zA 6 17]
  (zs [18] [18] [zM 18 6,
  zA 4 18]
  .ret))))⟩
def ir186:FnIr:=⟨0,3,42,[(6,none)],[],
  (zs [] [] [zK 6 zE]
  (zs [10] [10] [zO 10 (.bslice [(.int .i64 0)] 0 []),
  zA 7 10]
  (.seq (zs (zq 11 9 [55,59]) (zr 11 8) [zM 11 0,
  zM 12 1,
  zC 13 167 [11,12],
  zn 14 13,
  zM 15 14,
  zG 16 (.move (.t 2)) 15 false,
  zG 17 (.call 258 [(.t 16)]) 15 false,
  zG 18 (.un .not (.t 17)) 15 false,
  zO 19 (.pick (.t 15) (zB true) (.t 18))]
  (zc 19
  (zs [20] [20] [zM 20 7,
  zA 6 20]
  .ret)
  .skip))
  (.seq (zs [21,22,23] [] [zM 21 2,
  zl 22 21,
  zO 23 (.move (zI 0))]
  (.block 0 (.loop (zs [24] [] [zb 24 .lss 23 22]
  (.seq (zc 24
  .skip
  (.exit 0))
  (.seq (.block 1 (zs [25,26,9,51] [25,26] [zp 25 2 21 23,
  zS 26 2 25,
  zO 9 (.alloc [(.int .i64 0),(.row () [])]),
  zN (.store 2 (.t 9) (.t 26))]
  (.seq (.region true (zq 27 8 [75]) (zr 27 7) [zM 27 1,
  zv (zO 28 (.slice 1 (.t 27) none (some (zI 1)))) [0],
  zS 29 2 9,
  zv (zO 30 (.bslice [(.int .i64 0),(.row () [])] 1 [(0,(.t 29))])) [2],
  zv (zO 31 (.build [(.row () []),(.row () [])] [(0,1,(.t 28)),(1,1,(.t 30))])) [1,0,3,2],
  zM 32 0,
  zv (zC 33 185 [31,32]) [4,1,0,3,2,5],
  zv (zn 34 33) [6,4,1,0,3,2,5]])
  (zc 34
  (zR (zr 35 5) (zr 35 5) [zM 35 7,
  zF 36 0 9,
  zL 37 36,
  zO 38 (.bslice [(.int .i64 0)] 1 [(0,(.t 37))]),
  zO 39 (.append 1 (.t 35) (.t 38)),
  zA 7 39])
  .skip))))
  (zR [40] [40] [zO 40 (.bin .add (.t 23) (zI 1)),
  zM 23 40])))))))
  (zs [41] [41] [zM 41 7,
  zA 6 41]
  .ret)))))⟩
def ir189:FnIr:=⟨0,2,24,[(4,(some (true,2))),(5,none)],[],
  (zs [2,4,26,28] [] [zO 2 (.box (.t 0)),
  zO 4 (.alloc [(.row () []),(.row () [])]),
  zK 5 (zB false)]
  (zs (zq 7 4 [34]) (zr 7 4) [zM 7 1,
  zF 8 0 2,
  zL 9 8,
  zC 10 171 [7,9],
  zA 6 10]
  (.seq (.region true (zq 11 13 [41,44,45]) (zr 11 13) [zS 11 2 2,
  zM 12 6,
  zM 13 1,
  zF 14 0 2,
  zv (zL 15 14) [3],
  zM 16 6,
  zv (zC 17 287 [15,16]) [4,3,5],
  zF 18 1 2,
  zv (zL 19 18) [7],
  zv (zC 20 186 [13,17,19]) [2,6,4,3,5,8,7],
  zv (zC 21 165 [11,12,20]) [0,1,9,2,6,4,3,5,8,7],
  zv (zO 22 (.extract 0 (.t 21))) [10,0,1,9,2,6,4,3,5,8,7],
  zv (zO 23 (.extract 1 (.t 21))) [10,0,1,9,2,6,4,3,5,8,7],
  zv (zN (.store 2 (.t 4) (.t 22))) [11,10,0,1,9,2,6,4,3,5,8,7,12],
  zv (zA 5 23) [12,10,0,1,9,2,6,4,3,5,8,7,13,11]])
  .ret)))⟩
def ir184:FnIr:=⟨0,2,34,[(4,(some (true,2))),(5,none),(6,none)],[],
  (zs [2,4,36,38] [] [zO 2 (.box (.t 0)),
  zO 4 (.alloc [(.row () []),(.row () [])]),
  zK 5 (zI 0),
  zK 6 (zB false)]
  (.seq (zs [9,10,11,44] [9,10] [zS 9 2 2,
  zC 10 113 [9],
  zn 11 10]
  (zc 11
  (zs [12] [12] [zO 12 (.build [(.row () []),(.row () [])] []),
  zN (.store 2 (.t 4) (.t 12)),
  zK 5 (zI 0),
  zK 6 (zB false)]
  .ret)
  .skip))
  (.seq (zs [13,14,15,49] [13,14] [zS 13 2 2,
  zM 14 1,
  zC 15 185 [13,14]]
  (zc 15
  (zs [16,17,51] [16,17] [zS 16 2 2,
  zC 17 261 [16],
  zN (.store 2 (.t 4) (.t 17)),
  zK 5 (zI 1),
  zK 6 (zB true)]
  .ret)
  .skip))
  (zs [19,20,21,18,22,23,7,55,41] [19,20,21,18,22,23] [zS 19 2 2,
  zM 20 1,
  zC 21 189 [19,20],
  zM 18 21,
  zO 22 (.extract 0 (.t 18)),
  zO 23 (.extract 1 (.t 18)),
  zO 7 (.alloc [(.row () []),(.row () [])]),
  zN (.store 2 (.t 7) (.t 22)),
  zA 8 23]
  (.seq (zs (zq 24 8 [63]) (zr 24 7) [zM 24 8,
  zn 25 24,
  zM 26 25,
  zG 27 (.load true 2 (.t 7)) 26 false,
  zG 28 (.move (.t 1)) 26 false,
  zG 29 (.call 185 [(.t 27),(.t 28)]) 26 false,
  zG 30 (.un .not (.t 29)) 26 false,
  zO 31 (.pick (.t 26) (zB true) (.t 30))]
  (zc 31
  (zs [32] [32] [zO 32 (.build [(.row () []),(.row () [])] []),
  zN (.store 2 (.t 4) (.t 32)),
  zK 5 (zI 2),
  zK 6 (zB false)]
  .ret)
  .skip))
  (zs [33] [33] [zS 33 2 7,
  zN (.store 2 (.t 4) (.t 33)),
  zK 5 (zI 2),
  zK 6 (zB true)]
  .ret))))))⟩
def ir348:FnIr:=⟨0,2,15,[(4,none)],[],
  (zs [] [] [zK 4 (zI 0)]
  (.seq (zs [5,6,7,21] [5,6] [zM 5 1,
  zO 6 (.call 230 [(.t 5),(zI 1),(zI 1000000000000)]),
  zn 7 6]
  (zc 7
  (zs [] [] [zK 4 (zI 0)]
  .ret)
  .skip))
  (zs (zr 8 7) (zr 8 7) [zM 8 0,
  zM 9 1,
  zb 10 .rem 8 9,
  zM 11 1,
  zb 12 .add 10 11,
  zM 13 1,
  zb 14 .rem 12 13,
  zA 4 14]
  .ret)))⟩
def ir268:FnIr:=⟨0,1,22,[(2,none)],[],
  (zs [] [] [zK 2 (zI 0)]
  (zs [] [] [zK 3 (zI 11)]
  (.seq (zs [] [] [zK 4 (zI 0)]
  (.block 0 (.loop (.seq (zs (zr 5 4) [5,6,7] [zM 5 4,
  zM 6 0,
  zl 7 6,
  zb 8 .lss 5 7]
  (zc 8
  .skip
  (.exit 0)))
  (.seq (.block 1 (zR (zq 11 10 [39]) (zr 11 10) [zM 11 3,
  zO 12 (.bin .mul (.t 11) (zI 1000003)),
  zM 13 0,
  zM 14 4,
  zp 15 1 13 14,
  zL 16 15,
  zO 17 (.call 348 [(.t 16),(zI 2147483647)]),
  zb 18 .add 12 17,
  zO 19 (.bin .add (.t 18) (zI 13)),
  zO 20 (.bin .rem (.t 19) (zI 2147483647)),
  zA 3 20]))
  (zR [9,10] [9,10] [zM 9 4,
  zO 10 (.bin .add (.t 9) (zI 1)),
  zA 4 10]))))))
  (zs [21] [21] [zM 21 3,
  zA 2 21]
  .ret))))⟩
def ir71:FnIr:=⟨0,1,19,[(2,none)],[],
  (zs [] [] [zK 2 (zB false)]
  (.seq (zs [] [] [zK 3 (zI 0)]
  (.block 0 (.loop (.seq (zs (zr 4 4) [4,5,6] [zM 4 3,
  zM 5 0,
  zl 6 5,
  zb 7 .lss 4 6]
  (zc 7
  .skip
  (.exit 0)))
  (.seq (.block 1 (zs (zq 10 6 [33]) (zr 10 5) [zM 10 0,
  zM 11 3,
  zp 12 1 10 11,
  zL 13 12,
  zC 14 231 [13],
  zn 15 14]
  (zc 15
  (zs [] [] [zK 2 (zB false)]
  .ret)
  .skip)))
  (zR [8,9] [8,9] [zM 8 3,
  zO 9 (.bin .add (.t 8) (zI 1)),
  zA 3 9]))))))
  (zs [16,17,18] [16,17,18] [zM 16 0,
  zl 17 16,
  zO 18 (.bin .leq (.t 17) (zI 12)),
  zA 2 18]
  .ret)))⟩
def ir120:FnIr:=⟨0,1,28,[(2,none)],[],
  (zs [] [] [zK 2 (zI 0)]
  (zs [] [] [zK 3 (zI 1)]
  (.seq (zs [5,6,7,34] [5,6] [zM 5 0,
  zC 6 71 [5],
  zn 7 6]
  (zc 7
  (zs [] [] [zK 2 (zI 0)]
  .ret)
  .skip))
  (.seq (zs [] [] [zK 4 (zI 0)]
  (.block 0 (.loop (.seq (zs (zr 8 4) [8,9,10] [zM 8 4,
  zM 9 0,
  zl 10 9,
  zb 11 .lss 8 10]
  (zc 11
  .skip
  (.exit 0)))
  (.seq (.block 1 (.region true (zq 14 13 [54]) (zr 14 13) [zM 14 3,
  zM 15 0,
  zM 16 4,
  zv (zp 17 1 15 16) [1,2],
  zv (zL 18 17) [3,1,2],
  zv (zl 19 18) [4,3,1,2],
  zv (zO 20 (.bslice [(.int .i64 0)] 2 [(0,(.t 14)),(1,(.t 19))])) [0,5,4,3,1,2],
  zM 21 0,
  zM 22 4,
  zv (zp 23 1 21 22) [7,8],
  zv (zL 24 23) [9,7,8],
  zv (zO 25 (.append 1 (.t 20) (.t 24))) [6,0,5,4,3,1,2,10,9,7,8],
  zv (zC 26 268 [25]) [11,6,0,5,4,3,1,2,10,9,7,8],
  zv (zA 3 26) [12,11,6,0,5,4,3,1,2,10,9,7,8]]))
  (zR [12,13] [12,13] [zM 12 4,
  zO 13 (.bin .add (.t 12) (zI 1)),
  zA 4 13]))))))
  (zs [27] [27] [zM 27 3,
  zA 2 27]
  .ret)))))⟩
def ir282:FnIr:=⟨0,1,5,[(2,none)],[],
  (zs [] [] [zK 2 (zB false)]
  (zs [3,4,9] [3,4] [zM 3 0,
  zO 4 (.call 230 [(.t 3),(zI 1),(zI 2147483646)]),
  zA 2 4]
  .ret))⟩
def ir283:FnIr:=⟨0,2,13,[(4,none)],[],
  (zs [] [] [zK 4 (zI 0)]
  (zs (zq 5 8 [25]) (zr 5 8) [zM 5 0,
  zO 6 (.bslice [(.int .i64 0)] 1 [(0,(.t 5))]),
  zM 7 1,
  zO 8 (.append 1 (.t 6) (.t 7)),
  zM 9 0,
  zO 10 (.bslice [(.int .i64 0)] 1 [(0,(.t 9))]),
  zO 11 (.append 1 (.t 8) (.t 10)),
  zC 12 268 [11],
  zA 4 12]
  .ret))⟩
def ir143:FnIr:=⟨0,3,26,[(6,none)],[],
  (zs [] [] [zK 6 (zI 0)]
  (.seq (zs (zq 7 13 [34,38,43]) (zr 7 12) [zM 7 0,
  zC 8 282 [7],
  zn 9 8,
  zM 10 9,
  zG 11 (.move (.t 1)) 10 false,
  zG 12 (.call 71 [(.t 11)]) 10 false,
  zG 13 (.un .not (.t 12)) 10 false,
  zO 14 (.pick (.t 10) (zB true) (.t 13)),
  zM 15 14,
  zG 16 (.move (.t 2)) 15 false,
  zG 17 (.call 230 [(.t 16),(zI 0),(zI 1)]) 15 false,
  zG 18 (.un .not (.t 17)) 15 false,
  zO 19 (.pick (.t 15) (zB true) (.t 18))]
  (zc 19
  (zs [] [] [zK 6 (zI 0)]
  .ret)
  .skip))
  (zs (zq 20 6 [49,51]) (zr 20 6) [zM 20 0,
  zM 21 2,
  zM 22 1,
  zC 23 120 [22],
  zO 24 (.bslice [(.int .i64 0)] 2 [(0,(.t 21)),(1,(.t 23))]),
  zC 25 283 [20,24],
  zA 6 25]
  .ret)))⟩
def ir127:FnIr:=⟨0,1,11,[(2,none)],[],
  (zs [1,12] [] [zO 1 (.box (.t 0)),
  zK 2 (zB false)]
  (zs (zq 3 8 [16,20]) (zr 3 8) [zF 3 0 1,
  zL 4 3,
  zO 5 (.call 230 [(.t 4),(zI 1),(zI 9)]),
  zM 6 5,
  zG 7 (.faddr 1 (.t 1)) 6 true,
  zG 8 (.load false 1 (.t 7)) 6 true,
  zG 9 (.call 271 [(.t 8)]) 6 true,
  zO 10 (.pick (.t 6) (.t 9) (zB false)),
  zA 2 10]
  .ret))⟩
def ir293:FnIr:=⟨0,1,41,[(2,none),(3,none)],[],
  (zs [] [] [zK 2 zE,
  zK 3 (zB false)]
  (.seq (zs [6,7,8,48] [6,7] [zM 6 0,
  zC 7 271 [6],
  zn 8 7]
  (zc 8
  (zs [9] [9] [zO 9 (.bslice [(.int .i64 0)] 0 []),
  zA 2 9,
  zK 3 (zB false)]
  .ret)
  .skip))
  (zs [10,11,12] [10,11,12] [zM 10 0,
  zl 11 10,
  zO 12 (.bslice [(.int .i64 0)] 1 [(0,(.t 11))]),
  zA 4 12]
  (.seq (zs [] [] [zK 5 (zI 0)]
  (.block 0 (.loop (.seq (zs (zr 13 4) [13,14,15] [zM 13 5,
  zM 14 0,
  zl 15 14,
  zb 16 .lss 13 15]
  (zc 16
  .skip
  (.exit 0)))
  (.seq (.block 1 (.seq (.region true (zr 19 14) (zr 19 14) [zM 19 4,
  zM 20 0,
  zM 21 5,
  zv (zp 22 2 20 21) [1,2],
  zv (zF 23 0 22) [3,1,2],
  zv (zL 24 23) [4,3,1,2],
  zM 25 0,
  zM 26 5,
  zv (zp 27 2 25 26) [6,7],
  zv (zF 28 1 27) [8,6,7],
  zv (zL 29 28) [9,8,6,7],
  zv (zl 30 29) [10,9,8,6,7],
  zv (zO 31 (.bslice [(.int .i64 0)] 2 [(0,(.t 24)),(1,(.t 30))])) [5,4,3,1,2,11,10,9,8,6,7],
  zv (zO 32 (.append 1 (.t 19) (.t 31))) [0,12,5,4,3,1,2,11,10,9,8,6,7],
  zv (zA 4 32) [13,0,12,5,4,3,1,2,11,10,9,8,6,7]])
  (zR (zr 33 7) (zr 33 7) [zM 33 4,
  zM 34 0,
  zM 35 5,
  zp 36 2 34 35,
  zF 37 1 36,
  zL 38 37,
  zO 39 (.append 1 (.t 33) (.t 38)),
  zA 4 39])))
  (zR [17,18] [17,18] [zM 17 5,
  zO 18 (.bin .add (.t 17) (zI 1)),
  zA 5 18]))))))
  (zs [40] [40] [zM 40 4,
  zA 2 40,
  zK 3 (zB true)]
  .ret)))))⟩
def ir151:FnIr:=⟨0,1,20,[(2,none)],[],
  (zs [1,21] [] [zO 1 (.box (.t 0)),
  zK 2 zE]
  (.seq (zs [5,6,7,26] [5,6] [zS 5 2 1,
  zC 6 127 [5],
  zn 7 6]
  (zc 7
  (zs [8] [8] [zO 8 (.bslice [(.int .i64 0)] 0 []),
  zA 2 8]
  .ret)
  .skip))
  (zs [10,11,12,9,13,14,32] [10,11,12,9,13,14] [zF 10 1 1,
  zL 11 10,
  zC 12 293 [11],
  zM 9 12,
  zO 13 (.extract 0 (.t 9)),
  zO 14 (.extract 1 (.t 9)),
  zA 3 13,
  zA 4 14]
  (zs (zr 15 5) (zr 15 5) [zF 15 0 1,
  zL 16 15,
  zO 17 (.bslice [(.int .i64 0)] 1 [(0,(.t 16))]),
  zM 18 3,
  zO 19 (.append 1 (.t 17) (.t 18)),
  zA 2 19]
  .ret))))⟩
def ir301:FnIr:=⟨0,1,10,[(2,none)],[],
  (zs [] [] [zK 2 (zB false)]
  (zs (zq 3 7 [14]) (zr 3 7) [zM 3 0,
  zO 4 (.call 230 [(.t 3),(zI 0),(zI 255)]),
  zM 5 4,
  zG 6 (.move (.t 0)) 5 true,
  zG 7 (.bin .rem (.t 6) (zI 16)) 5 true,
  zG 8 (.bin .eql (.t 7) (zI 10)) 5 true,
  zO 9 (.pick (.t 5) (.t 8) (zB false)),
  zA 2 9]
  .ret))⟩
def ir160:FnIr:=⟨0,2,45,[(4,none)],[],
  (zs [2,3,47,48] [] [zO 2 (.box (.t 0)),
  zO 3 (.box (.t 1)),
  zK 4 (zB false)]
  (.seq (zs [] [] [zK 5 (zI 0)]
  (.block 0 (.loop (.seq (zs (zr 6 5) (zr 6 4) [zM 6 5,
  zF 7 1 3,
  zL 8 7,
  zl 9 8,
  zb 10 .lss 6 9]
  (zc 10
  .skip
  (.exit 0)))
  (.seq (.block 1 (.seq (.region true (zq 13 19 [66,75]) (zr 13 18) [zF 13 1 2,
  zv (zL 14 13) [0],
  zF 15 1 3,
  zv (zL 16 15) [2],
  zM 17 5,
  zv (zp 18 2 16 17) [3,2,4],
  zv (zF 19 0 18) [5,3,2,4],
  zv (zL 20 19) [6,5,3,2,4],
  zv (zC 21 286 [14,20]) [1,0,7,6,5,3,2,4],
  zv (zO 22 (.bin .lss (.t 21) (zI 0))) [8,1,0,7,6,5,3,2,4],
  zv (zM 23 22) [9,8,1,0,7,6,5,3,2,4],
  zv (zG 24 (.faddr 1 (.t 3)) 23 false) [10,9,8,1,0,7,6,5,3,2,4],
  zv (zG 25 (.load false 1 (.t 24)) 23 false) [11,10,9,8,1,0,7,6,5,3,2,4],
  zv (zG 26 (.move (.t 5)) 23 false) [10,9,8,1,0,7,6,5,3,2,4],
  zv (zG 27 (.iaddr 2 (.t 25) (.t 26)) 23 false) [12,11,10,9,8,1,0,7,6,5,3,2,4,13],
  zv (zG 28 (.faddr 0 (.t 27)) 23 false) [14,12,11,10,9,8,1,0,7,6,5,3,2,4,13],
  zv (zG 29 (.load false 1 (.t 28)) 23 false) [15,14,12,11,10,9,8,1,0,7,6,5,3,2,4,13],
  zv (zG 30 (.call 301 [(.t 29)]) 23 false) [16,15,14,12,11,10,9,8,1,0,7,6,5,3,2,4,13],
  zv (zO 31 (.pick (.t 23) (zB true) (.t 30))) [10,9,8,1,0,7,6,5,3,2,4,17,16,15,14,12,11,13]])
  (zc 31
  (zs [] [] [zK 4 (zB false)]
  .ret)
  .skip)))
  (zR [11,12] [11,12] [zM 11 5,
  zO 12 (.bin .add (.t 11) (zI 1)),
  zA 5 12]))))))
  (zs (zq 32 13 [78,81,88]) (zr 32 13) [zS 32 2 2,
  zC 33 142 [32],
  zM 34 33,
  zG 35 (.load true 2 (.t 3)) 34 true,
  zG 36 (.call 127 [(.t 35)]) 34 true,
  zO 37 (.pick (.t 34) (.t 36) (zB false)),
  zM 38 37,
  zG 39 (.faddr 0 (.t 2)) 38 true,
  zG 40 (.load false 1 (.t 39)) 38 true,
  zG 41 (.faddr 0 (.t 3)) 38 true,
  zG 42 (.load false 1 (.t 41)) 38 true,
  zG 43 (.call 285 [(.t 40),(.t 42)]) 38 true,
  zO 44 (.pick (.t 38) (.t 43) (zB false)),
  zA 4 44]
  .ret)))⟩
def ir162:FnIr:=⟨0,1,24,[(2,none)],[],
  (zs [1,25] [] [zO 1 (.box (.t 0)),
  zK 2 zE]
  (.seq (zs [5,6,7,30] [5,6] [zS 5 2 1,
  zC 6 142 [5],
  zn 7 6]
  (zc 7
  (zs [8] [8] [zO 8 (.bslice [(.int .i64 0)] 0 []),
  zA 2 8]
  .ret)
  .skip))
  (zs [10,11,12,9,13,14,36] [10,11,12,9,13,14] [zF 10 1 1,
  zL 11 10,
  zC 12 293 [11],
  zM 9 12,
  zO 13 (.extract 0 (.t 9)),
  zO 14 (.extract 1 (.t 9)),
  zA 3 13,
  zA 4 14]
  (zs (zr 15 9) (zr 15 9) [zF 15 0 1,
  zL 16 15,
  zl 17 16,
  zO 18 (.bslice [(.int .i64 0)] 1 [(0,(.t 17))]),
  zF 19 0 1,
  zL 20 19,
  zO 21 (.append 1 (.t 18) (.t 20)),
  zM 22 3,
  zO 23 (.append 1 (.t 21) (.t 22)),
  zA 2 23]
  .ret))))⟩
def ir256:FnIr:=⟨0,2,28,[(4,none)],[],
  (zs [] [] [zK 4 zE]
  (zs [7] [7] [zO 7 (.bslice [(.int .i64 0)] 0 []),
  zA 5 7]
  (.seq (zs [] [] [zK 6 (zI 0)]
  (.block 0 (.loop (.seq (zs (zr 8 4) [8,9,10] [zM 8 6,
  zM 9 0,
  zl 10 9,
  zb 11 .lss 8 10]
  (zc 11
  .skip
  (.exit 0)))
  (.seq (.block 1 (zs (zq 14 6 [47]) (zr 14 5) [zM 14 1,
  zM 15 0,
  zM 16 6,
  zp 17 1 15 16,
  zL 18 17,
  zC 19 285 [14,18]]
  (zc 19
  (zR (zr 20 7) (zr 20 7) [zM 20 5,
  zM 21 0,
  zM 22 6,
  zp 23 1 21 22,
  zL 24 23,
  zO 25 (.bslice [(.int .i64 0)] 1 [(0,(.t 24))]),
  zO 26 (.append 1 (.t 20) (.t 25)),
  zA 5 26])
  .skip)))
  (zR [12,13] [12,13] [zM 12 6,
  zO 13 (.bin .add (.t 12) (zI 1)),
  zA 6 13]))))))
  (zs [27] [27] [zM 27 5,
  zA 4 27]
  .ret))))⟩
def ir112:FnIr:=⟨0,2,28,[(4,none)],[],
  (zs [] [] [zK 4 (zI 0)]
  (zs [6,7,8,36] [6,7,8] [zM 6 0,
  zM 7 1,
  zC 8 256 [6,7],
  zA 5 8]
  (.seq (zs (zq 9 13 [38,42]) (zr 9 12) [zM 9 0,
  zC 10 257 [9],
  zn 11 10,
  zM 12 11,
  zG 13 (.move (.t 1)) 12 false,
  zG 14 (.call 257 [(.t 13)]) 12 false,
  zG 15 (.un .not (.t 14)) 12 false,
  zO 16 (.pick (.t 12) (zB true) (.t 15)),
  zM 17 16,
  zG 18 (.move (.t 5)) 17 false,
  zG 19 (.len false (.t 18)) 17 false,
  zG 20 (.bin .eql (.t 19) (zI 0)) 17 false,
  zO 21 (.pick (.t 17) (zB true) (.t 20))]
  (zc 21
  (zs [] [] [zK 4 (zI 0)]
  .ret)
  .skip))
  (zs (zr 22 6) (zr 22 6) [zM 22 5,
  zM 23 5,
  zl 24 23,
  zO 25 (.bin .sub (.t 24) (zI 1)),
  zp 26 1 22 25,
  zL 27 26,
  zA 4 27]
  .ret))))⟩
def ir306:FnIr:=⟨0,1,36,[(2,none)],[],
  (zs [] [] [zK 2 zE]
  (zs [5] [5] [zO 5 (.bslice [(.int .i64 0),(.row () [])] 0 []),
  zA 3 5]
  (.seq (zs [] [] [zK 4 (zI 0)]
  (.block 0 (.loop (.seq (zs (zr 6 4) [6,7,8] [zM 6 4,
  zM 7 0,
  zl 8 7,
  zb 9 .lss 6 8]
  (zc 9
  .skip
  (.exit 0)))
  (.seq (.block 1 (zs (zq 12 7 [53]) (zr 12 6) [zM 12 0,
  zM 13 4,
  zp 14 2 12 13,
  zF 15 0 14,
  zL 16 15,
  zC 17 301 [16],
  zn 18 17]
  (zc 18
  (.region true (zr 19 16) (zr 19 16) [zM 19 3,
  zM 20 0,
  zM 21 4,
  zv (zp 22 2 20 21) [1,2],
  zv (zF 23 0 22) [3,1,2],
  zv (zL 24 23) [4,3,1,2],
  zO 25 (.bslice [(.int .i64 0)] 0 []),
  zM 26 0,
  zM 27 4,
  zv (zp 28 2 26 27) [7,8],
  zv (zF 29 1 28) [9,7,8],
  zv (zL 30 29) [10,9,7,8],
  zv (zO 31 (.append 1 (.t 25) (.t 30))) [6,11,10,9,7,8],
  zv (zO 32 (.build [(.int .i64 0),(.row () [])] [(0,1,(.t 24)),(1,1,(.t 31))])) [5,4,3,1,2,12,6,11,10,9,7,8],
  zv (zO 33 (.bslice [(.int .i64 0),(.row () [])] 1 [(0,(.t 32))])) [13,5,4,3,1,2,12,6,11,10,9,7,8],
  zv (zO 34 (.append 2 (.t 19) (.t 33))) [0,14,13,5,4,3,1,2,12,6,11,10,9,7,8],
  zv (zA 3 34) [15,0,14,13,5,4,3,1,2,12,6,11,10,9,7,8]])
  .skip)))
  (zR [10,11] [10,11] [zM 10 4,
  zO 11 (.bin .add (.t 10) (zI 1)),
  zA 4 11]))))))
  (zs [35] [35] [zM 35 3,
  zA 2 35]
  .ret))))⟩
def ir168:FnIr:=⟨0,3,28,[(6,(some (true,2))),(7,none)],[],
  (zs [5,6,33,34] [] [zO 5 (.box (.t 2)),
  zO 6 (.alloc [(.int .i64 0),(.row () [])]),
  zK 7 (zB false)]
  (zs (zq 9 4 [40]) (zr 9 4) [zM 9 0,
  zF 10 0 5,
  zL 11 10,
  zC 12 112 [9,11],
  zA 8 12]
  (.seq (zs (zq 13 7 [42]) (zr 13 6) [zS 13 2 5,
  zC 14 142 [13],
  zn 15 14,
  zM 16 15,
  zG 17 (.move (.t 8)) 16 false,
  zG 18 (.bin .eql (.t 17) (zI 0)) 16 false,
  zO 19 (.pick (.t 16) (zB true) (.t 18))]
  (zc 19
  (zs [20] [20] [zO 20 (.build [(.int .i64 0),(.row () [])] []),
  zN (.store 2 (.t 6) (.t 20)),
  zK 7 (zB false)]
  .ret)
  .skip))
  (zs (zq 21 7 [53,54]) (zr 21 7) [zM 21 8,
  zF 22 1 5,
  zL 23 22,
  zM 24 1,
  zC 25 307 [23,24],
  zC 26 306 [25],
  zO 27 (.build [(.int .i64 0),(.row () [])] [(0,1,(.t 21)),(1,1,(.t 26))]),
  zN (.store 2 (.t 6) (.t 27)),
  zK 7 (zB true)]
  .ret))))⟩
def ir173:FnIr:=⟨0,2,95,[(4,(some (true,2))),(5,none)],[],
  (zs [2,3,4,97,98,99] [] [zO 2 (.box (.t 0)),
  zO 3 (.box (.t 1)),
  zO 4 (.alloc [(.row () []),(.row () [])]),
  zK 5 (zB false)]
  (.seq (.seq (.region true (zq 10 26 [106,110]) (zr 10 25) [zS 10 4 2,
  zv (zC 11 68 [10]) [0],
  zv (zn 12 11) [1,0],
  zv (zM 13 12) [2,1,0],
  zv (zG 14 (.load true 2 (.t 3)) 13 false) [3,2,1,0],
  zv (zG 15 (.call 142 [(.t 14)]) 13 false) [4,3,2,1,0],
  zv (zG 16 (.un .not (.t 15)) 13 false) [5,4,3,2,1,0],
  zv (zO 17 (.pick (.t 13) (zB true) (.t 16))) [3,2,1,0,6,5,4],
  zv (zM 18 17) [7,3,2,1,0,6,5,4],
  zv (zG 19 (.faddr 0 (.t 2)) 18 false) [8,7,3,2,1,0,6,5,4],
  zv (zG 20 (.load false 1 (.t 19)) 18 false) [9,8,7,3,2,1,0,6,5,4],
  zv (zG 21 (.bin .gtr (.t 20) (zI 0)) 18 false) [10,9,8,7,3,2,1,0,6,5,4],
  zv (zG 22 (.move (.t 21)) 18 false) [11,10,9,8,7,3,2,1,0,6,5,4],
  zv (zG 23 (.faddr 0 (.t 3)) 22 true) [12,11,10,9,8,7,3,2,1,0,6,5,4],
  zv (zG 24 (.load false 1 (.t 23)) 22 true) [13,12,11,10,9,8,7,3,2,1,0,6,5,4],
  zv (zG 25 (.faddr 0 (.t 3)) 22 true) [12,11,10,9,8,7,3,2,1,0,6,5,4],
  zv (zG 26 (.load false 1 (.t 25)) 22 true) [15,12,11,10,9,8,7,3,2,1,0,6,5,4],
  zv (zG 27 (.len false (.t 26)) 22 true) [16,15,12,11,10,9,8,7,3,2,1,0,6,5,4],
  zv (zG 28 (.bin .sub (.t 27) (zI 1)) 22 true) [17,16,15,12,11,10,9,8,7,3,2,1,0,6,5,4],
  zv (zG 29 (.iaddr 1 (.t 24) (.t 28)) 22 true) [14,13,12,11,10,9,8,7,3,2,1,0,6,5,4,18,17,16,15],
  zv (zG 30 (.load false 1 (.t 29)) 22 true) [19,14,13,12,11,10,9,8,7,3,2,1,0,6,5,4,18,17,16,15],
  zv (zG 31 (.faddr 0 (.t 2)) 22 true) [12,11,10,9,8,7,3,2,1,0,6,5,4],
  zv (zG 32 (.load false 1 (.t 31)) 22 true) [21,12,11,10,9,8,7,3,2,1,0,6,5,4],
  zv (zG 33 (.bin .gtr (.t 30) (.t 32)) 22 true) [20,19,14,13,12,11,10,9,8,7,3,2,1,0,6,5,4,18,17,16,15,22,21],
  zv (zG 34 (.pick (.t 22) (.t 33) (zB false)) 18 false) [12,11,10,9,8,7,3,2,1,0,6,5,4,23,20,19,14,13,18,17,16,15,22,21],
  zv (zO 35 (.pick (.t 18) (zB true) (.t 34))) [8,7,3,2,1,0,6,5,4,24,12,11,10,9,23,20,19,14,13,18,17,16,15,22,21]])
  (zc 35
  (zs [36] [36] [zO 36 (.build [(.row () []),(.row () [])] []),
  zN (.store 2 (.t 4) (.t 36)),
  zK 5 (zB false)]
  .ret)
  .skip))
  (zs (zq 37 5 [6,101]) (zr 37 5) [zO 37 (.bslice [(.int .i64 0)] 0 []),
  zF 38 0 3,
  zL 39 38,
  zO 40 (.append 1 (.t 37) (.t 39)),
  zO 41 (.build [(.row () []),(.row () [])] [(0,1,(.t 40))]),
  zO 6 (.alloc [(.row () []),(.row () [])]),
  zN (.store 2 (.t 6) (.t 41))]
  (.seq (zs [] [] [zK 7 (zI 0)]
  (.block 0 (.loop (.seq (zs (zr 42 5) (zr 42 4) [zM 42 7,
  zF 43 1 3,
  zL 44 43,
  zl 45 44,
  zb 46 .lss 42 45]
  (zc 46
  .skip
  (.exit 0)))
  (.seq (.block 1 (zs (zr 49 6) (zr 49 6) [zF 49 1 3,
  zL 50 49,
  zM 51 7,
  zp 52 2 50 51,
  zF 53 0 52,
  zL 54 53,
  zA 8 54]
  (zs (zq 55 4 [153]) (zr 55 4) [zF 55 2 2,
  zL 56 55,
  zM 57 8,
  zC 58 285 [56,57],
  zA 9 58]
  (.seq (zs (zq 59 17 [157,167]) (zr 59 16) [zF 59 1 2,
  zL 60 59,
  zM 61 8,
  zC 62 285 [60,61],
  zM 63 62,
  zG 64 (.faddr 3 (.t 2)) 63 false,
  zG 65 (.load false 1 (.t 64)) 63 false,
  zG 66 (.move (.t 65)) 63 false,
  zG 67 (.move (.t 9)) 66 true,
  zG 68 (.un .not (.t 67)) 66 true,
  zG 69 (.pick (.t 66) (.t 68) (zB false)) 63 false,
  zG 70 (.move (.t 69)) 63 false,
  zG 71 (.move (.t 8)) 70 true,
  zG 72 (.call 230 [(.t 71),(zI 1),(zI 3)]) 70 true,
  zG 73 (.un .not (.t 72)) 70 true,
  zG 74 (.pick (.t 70) (.t 73) (zB false)) 63 false,
  zO 75 (.pick (.t 63) (zB true) (.t 74))]
  (zc 75
  (zs [76] [76] [zO 76 (.build [(.row () []),(.row () [])] []),
  zN (.store 2 (.t 4) (.t 76)),
  zK 5 (zB false)]
  .ret)
  .skip))
  (zs [77,78] [77] [zM 77 9,
  zn 78 77]
  (zc 78
  (.region true (zr 79 15) (zr 79 15) [zF 79 1 6,
  zv (zL 80 79) [0],
  zM 81 8,
  zO 82 (.bslice [(.int .i64 0)] 0 []),
  zF 83 1 3,
  zv (zL 84 83) [4],
  zM 85 7,
  zv (zp 86 2 84 85) [5,4,6],
  zv (zF 87 1 86) [7,5,4,6],
  zv (zL 88 87) [8,7,5,4,6],
  zv (zO 89 (.append 1 (.t 82) (.t 88))) [3,9,8,7,5,4,6],
  zv (zO 90 (.build [(.int .i64 0),(.row () [])] [(0,1,(.t 81)),(1,1,(.t 89))])) [2,10,3,9,8,7,5,4,6],
  zv (zO 91 (.bslice [(.int .i64 0),(.row () [])] 1 [(0,(.t 90))])) [11,2,10,3,9,8,7,5,4,6],
  zv (zO 92 (.append 2 (.t 80) (.t 91))) [1,0,12,11,2,10,3,9,8,7,5,4,6],
  zv (zF 93 1 6) [0,1,2,3,4,5,6,7,8,9,10,11,12,13],
  zv (zN (.store 1 (.t 93) (.t 92))) [14,0,1,2,3,4,5,6,7,8,9,10,11,12,13]])
  .skip))))))
  (zR [47,48] [47,48] [zM 47 7,
  zO 48 (.bin .add (.t 47) (zI 1)),
  zA 7 48]))))))
  (zs [94] [94] [zS 94 2 6,
  zN (.store 2 (.t 4) (.t 94)),
  zK 5 (zB true)]
  .ret)))))⟩
def ir295:FnIr:=⟨0,1,7,[(2,none)],[],
  (zs [] [] [zK 2 zE]
  (zs (zq 3 4 [12,13]) (zr 3 4) [zM 3 0,
  zM 4 0,
  zC 5 280 [4],
  zC 6 307 [3,5],
  zA 2 6]
  .ret))⟩
def ir279:FnIr:=⟨0,1,11,[(2,(some (true,2)))],[],
  (zs [1,2,12,13] [] [zO 1 (.box (.t 0)),
  zO 2 (.alloc [(.row () []),(.row () [])])]
  (.seq (.region true (zq 3 8 [20]) (zr 3 8) [zO 3 (.bslice [(.int .i64 0)] 0 []),
  zF 4 0 1,
  zv (zL 5 4) [1],
  zv (zO 6 (.append 1 (.t 3) (.t 5))) [0,2,1],
  zF 7 1 1,
  zv (zL 8 7) [4],
  zv (zC 9 295 [8]) [5,4,3,0,2,1],
  zv (zO 10 (.build [(.row () []),(.row () [])] [(0,1,(.t 6)),(1,1,(.t 9))])) [3,0,2,1,6,5,4],
  zv (zN (.store 2 (.t 2) (.t 10))) [7,3,0,2,1,6,5,4]])
  .ret))⟩
def ir196:FnIr:=⟨0,2,41,[(4,(some (true,2))),(5,none)],[],
  (zs [3,4,44,45] [] [zO 3 (.box (.t 1)),
  zO 4 (.alloc [(.row () []),(.row () [])]),
  zK 5 (zB false)]
  (.seq (zs (zq 10 8 [56]) (zr 10 7) [zM 10 0,
  zl 11 10,
  zO 12 (.bin .gtr (.t 11) (zI 4)),
  zM 13 12,
  zG 14 (.load true 2 (.t 3)) 13 false,
  zG 15 (.call 142 [(.t 14)]) 13 false,
  zG 16 (.un .not (.t 15)) 13 false,
  zO 17 (.pick (.t 13) (zB true) (.t 16))]
  (zc 17
  (zs [18] [18] [zO 18 (.build [(.row () []),(.row () [])] []),
  zN (.store 2 (.t 4) (.t 18)),
  zK 5 (zB false)]
  .ret)
  .skip))
  (zs [19,20,6,61,47] [19,20] [zS 19 2 3,
  zC 20 279 [19],
  zO 6 (.alloc [(.row () []),(.row () [])]),
  zN (.store 2 (.t 6) (.t 20))]
  (.seq (zs [] [] [zK 7 (zI 0)]
  (.block 0 (.loop (.seq (zs (zr 21 4) [21,22,23] [zM 21 7,
  zM 22 0,
  zl 23 22,
  zb 24 .lss 21 23]
  (zc 24
  .skip
  (.exit 0)))
  (.seq (.block 1 (.seq (.region true (zq 28 6 [27,34,35,8,74,49]) (zq 28 6 [27,34,35]) [zM 28 0,
  zM 29 7,
  zv (zp 30 4 28 29) [0,1],
  zv (zS 31 4 30) [2,0,1],
  zS 32 2 6,
  zv (zC 33 173 [31,32]) [3,2,0,1,4],
  zv (zM 27 33) [5,3,2,0,1,4],
  zv (zO 34 (.extract 0 (.t 27))) [6,5,3,2,0,1,4],
  zv (zO 35 (.extract 1 (.t 27))) [6,5,3,2,0,1,4],
  zO 8 (.alloc [(.row () []),(.row () [])]),
  zv (zN (.store 2 (.t 8) (.t 34))) [9,7,6,5,3,2,0,1,4],
  zv (zA 9 35) [8,6,5,3,2,0,1,4,10,9,7]])
  (.seq (zs [36,37] [36] [zM 36 9,
  zn 37 36]
  (zc 37
  (zs [38] [38] [zO 38 (.build [(.row () []),(.row () [])] []),
  zN (.store 2 (.t 4) (.t 38)),
  zK 5 (zB false)]
  .ret)
  .skip))
  (zR [39] [39] [zS 39 2 8,
  zN (.store 2 (.t 6) (.t 39))]))))
  (zR [25,26] [25,26] [zM 25 7,
  zO 26 (.bin .add (.t 25) (zI 1)),
  zA 7 26]))))))
  (zs [40] [40] [zS 40 2 6,
  zN (.store 2 (.t 4) (.t 40)),
  zK 5 (zB true)]
  .ret)))))⟩
def ir210:FnIr:=⟨0,5,68,[(10,(some (true,3)))],[],
  (zs [5,10,73,78] [] [zO 5 (.box (.t 0)),
  zO 10 (.alloc [(.bool false),(.int .i64 0),(.row () [])])]
  (zs [17,18,19,16,20,21,11,87,79] [17,18,19,16,20,21] [zM 17 1,
  zS 18 2 5,
  zC 19 196 [17,18],
  zM 16 19,
  zO 20 (.extract 0 (.t 16)),
  zO 21 (.extract 1 (.t 16)),
  zO 11 (.alloc [(.row () []),(.row () [])]),
  zN (.store 2 (.t 11) (.t 20)),
  zA 12 21]
  (.seq (zs [22,23] [22] [zM 22 12,
  zn 23 22]
  (zc 23
  (zs [24] [24] [zO 24 (.build [(.bool false),(.int .i64 0),(.row () [])] []),
  zN (.store 3 (.t 10) (.t 24))]
  .ret)
  .skip))
  (zs (zq 26 4 [25,30,31,13,97,81]) (zq 26 4 [25,30,31]) [zM 26 2,
  zM 27 3,
  zS 28 2 11,
  zC 29 168 [26,27,28],
  zM 25 29,
  zO 30 (.extract 0 (.t 25)),
  zO 31 (.extract 1 (.t 25)),
  zO 13 (.alloc [(.int .i64 0),(.row () [])]),
  zN (.store 2 (.t 13) (.t 30)),
  zA 14 31]
  (.seq (zs (zq 32 8 [105]) (zr 32 7) [zM 32 14,
  zn 33 32,
  zM 34 33,
  zG 35 (.load true 2 (.t 5)) 34 false,
  zG 36 (.load true 2 (.t 13)) 34 false,
  zG 37 (.call 160 [(.t 35),(.t 36)]) 34 false,
  zG 38 (.un .not (.t 37)) 34 false,
  zO 39 (.pick (.t 34) (zB true) (.t 38))]
  (zc 39
  (zs [40] [40] [zO 40 (.build [(.bool false),(.int .i64 0),(.row () [])] []),
  zN (.store 3 (.t 10) (.t 40))]
  .ret)
  .skip))
  (.seq (.region true (zq 41 7 [111,113,115]) (zr 41 7) [zM 41 4,
  zS 42 2 5,
  zv (zC 43 162 [42]) [1],
  zS 44 2 13,
  zv (zC 45 151 [44]) [3,2,1],
  zv (zO 46 (.bslice [(.row () [])] 2 [(0,(.t 43)),(1,(.t 45))])) [2,1,4,3],
  zv (zO 47 (.call 143 [(.t 41),(.t 46),(zI 1)])) [0,5,2,1,4,3],
  zv (zA 15 47) [6,0,5,2,1,4,3]])
  (.seq (.seq (.region true (zq 48 13 [122,124,126]) (zr 48 12) [zM 48 15,
  zv (zO 49 (.bin .eql (.t 48) (zI 0))) [0],
  zv (zM 50 49) [1,0],
  zv (zG 51 (.move (.t 15)) 50 false) [2,1,0],
  zv (zG 52 (.move (.t 4)) 50 false) [2,1,0],
  zv (zG 53 (.load true 2 (.t 11)) 50 false) [2,1,0],
  zv (zG 54 (.call 162 [(.t 53)]) 50 false) [5,2,1,0],
  zv (zG 55 (.load true 2 (.t 13)) 50 false) [2,1,0],
  zv (zG 56 (.call 151 [(.t 55)]) 50 false) [7,2,1,0,6,5],
  zv (zG 57 (.bslice [(.row () [])] 2 [(0,(.t 54)),(1,(.t 56))]) 50 false) [6,5,2,1,0,8,7],
  zv (zG 58 (.call 143 [(.t 52),(.t 57),(zI 1)]) 50 false) [4,2,1,0,9,6,5,8,7],
  zv (zG 59 (.bin .neq (.t 51) (.t 58)) 50 false) [3,2,1,0,10,4,9,6,5,8,7],
  zv (zO 60 (.pick (.t 50) (zB true) (.t 59))) [2,1,0,11,3,10,4,9,6,5,8,7]])
  (zc 60
  (zs [61] [61] [zO 61 (.build [(.bool false),(.int .i64 0),(.row () [])] []),
  zN (.store 3 (.t 10) (.t 61))]
  .ret)
  .skip))
  (.seq (.region true (zq 62 6 [134]) (zr 62 6) [zF 62 0 13,
  zv (zL 63 62) [0],
  zF 64 1 13,
  zv (zL 65 64) [2],
  zv (zC 66 280 [65]) [3,2],
  zv (zO 67 (.build [(.bool false),(.int .i64 0),(.row () [])] [(0,1,(zB true)),(1,1,(.t 63)),(2,1,(.t 66))])) [1,0,4,3,2],
  zv (zN (.store 3 (.t 10) (.t 67))) [5,1,0,4,3,2]])
  .ret))))))))⟩
def ir267:FnIr:=⟨0,2,8,[(3,none)],[],
  (zs [] [] [zK 3 (zB false)]
  (zs (zr 4 4) (zr 4 4) [zM 4 0,
  zF 5 1 1,
  zL 6 5,
  zb 7 .neq 4 6,
  zA 3 7]
  .ret))⟩
def ir119:FnIr:=⟨0,2,30,[(4,(some (true,2)))],[],
  (zs [2,3,4,32,33,34] [] [zO 2 (.box (.t 0)),
  zO 3 (.box (.t 1)),
  zO 4 (.alloc [(.int .i64 0),(.row () [])])]
  (.seq (.region true (zq 6 6 [5,40,35]) (zr 6 6) [zF 6 0 2,
  zv (zL 7 6) [0],
  zF 8 1 2,
  zv (zL 9 8) [2],
  zv (zC 10 266 [9]) [3,2],
  zv (zO 11 (.build [(.int .i64 0),(.row () [])] [(0,1,(.t 7)),(1,1,(.t 10))])) [1,0,4,3,2],
  zO 5 (.alloc [(.int .i64 0),(.row () [])]),
  zv (zN (.store 2 (.t 5) (.t 11))) [6,5,1,0,4,3,2]])
  (.seq (zs [12,13] [12] [zF 12 0 3,
  zL 13 12]
  (.block 0 (zs [15] [15] [zO 15 (.bin .eql (.t 13) (zI 4)),
  zA 14 15]
  (zc 14
  (zs [16,17,18,48] [16,17] [zF 16 1 3,
  zL 17 16,
  zO 18 (.call 232 [(.t 17),(zI 1),(zI 9)])]
  (zc 18
  (zR [19,20,21] [19,20,21] [zF 19 1 3,
  zL 20 19,
  zF 21 0 5,
  zN (.store 1 (.t 21) (.t 20))])
  .skip))
  (zs [23] [23] [zO 23 (.bin .eql (.t 13) (zI 5)),
  zA 22 23]
  (zc 22
  (zR (zq 24 5 [57]) (zr 24 5) [zF 24 1 2,
  zL 25 24,
  zO 26 (.mkfn 267 [3]),
  zC 27 264 [25,26],
  zF 28 1 5,
  zN (.store 1 (.t 28) (.t 27))])
  .skip))))))
  (zs [29] [29] [zS 29 2 5,
  zN (.store 2 (.t 4) (.t 29))]
  .ret))))⟩
def ir114:FnIr:=⟨0,1,5,[(2,none)],[],
  (zs [] [] [zK 2 (zB false)]
  (zs [3,4,9] [3,4] [zM 3 0,
  zO 4 (.call 232 [(.t 3),(zI 1),(zI 2147483646)]),
  zA 2 4]
  .ret))⟩
def ir349:FnIr:=⟨0,2,15,[(4,none)],[],
  (zs [] [] [zK 4 (zI 0)]
  (.seq (zs [5,6,7,21] [5,6] [zM 5 1,
  zO 6 (.call 232 [(.t 5),(zI 1),(zI 1000000000000)]),
  zn 7 6]
  (zc 7
  (zs [] [] [zK 4 (zI 0)]
  .ret)
  .skip))
  (zs (zr 8 7) (zr 8 7) [zM 8 0,
  zM 9 1,
  zb 10 .rem 8 9,
  zM 11 1,
  zb 12 .add 10 11,
  zM 13 1,
  zb 14 .rem 12 13,
  zA 4 14]
  .ret)))⟩
def ir269:FnIr:=⟨0,1,21,[(2,none)],[],
  (zs [] [] [zK 2 (zI 0)]
  (zs [] [] [zK 3 (zI 11)]
  (.seq (zs [6,7,8] [] [zM 6 0,
  zl 7 6,
  zO 8 (.move (zI 0))]
  (.block 0 (.loop (zs [9] [] [zb 9 .lss 8 7]
  (.seq (zc 9
  .skip
  (.exit 0))
  (.seq (.block 1 (zs [10,11] [10,11] [zp 10 1 6 8,
  zL 11 10,
  zA 5 11]
  (zR (zq 12 7 [36]) (zr 12 7) [zM 12 3,
  zO 13 (.bin .mul (.t 12) (zI 1000003)),
  zM 14 5,
  zO 15 (.call 349 [(.t 14),(zI 2147483647)]),
  zb 16 .add 13 15,
  zO 17 (.bin .add (.t 16) (zI 13)),
  zO 18 (.bin .rem (.t 17) (zI 2147483647)),
  zA 3 18])))
  (zR [19] [19] [zO 19 (.bin .add (.t 8) (zI 1)),
  zM 8 19])))))))
  (zs [20] [20] [zM 20 3,
  zA 2 20]
  .ret))))⟩
def ir341:FnIr:=⟨0,2,19,[(4,none)],[],
  (zs [] [] [zK 4 (zI 0)]
  (.seq (zs [6,7,8] [6] [zM 6 0,
  zl 7 6,
  zO 8 (.move (zI 0))]
  (.block 0 (.loop (zs [9] [] [zb 9 .lss 8 7]
  (.seq (zc 9
  .skip
  (.exit 0))
  (.seq (.block 1 (zs [10] [10] [zM 10 8,
  zA 5 10]
  (zs (zq 11 6 [35]) (zr 11 5) [zM 11 1,
  zM 12 0,
  zM 13 5,
  zp 14 1 12 13,
  zL 15 14,
  zO 16 (.callv (.t 11) [(.t 15)])]
  (zc 16
  (zs [17] [17] [zM 17 5,
  zA 4 17]
  .ret)
  .skip))))
  (zR [18] [18] [zO 18 (.bin .add (.t 8) (zI 1)),
  zM 8 18])))))))
  (zs [] [] [zK 4 (zI (-1))]
  .ret)))⟩
def ir234:FnIr:=⟨0,2,9,[(4,none)],[],
  (zs [] [] [zK 4 (zB false)]
  (zs (zq 5 4 [16]) (zr 5 4) [zM 5 0,
  zM 6 1,
  zC 7 341 [5,6],
  zO 8 (.bin .geq (.t 7) (zI 0)),
  zA 4 8]
  .ret))⟩
def ir235:FnIr:=⟨0,1,6,[(2,none)],[],
  (zs [] [] [zK 2 (zB false)]
  (zs [3,4,5,10] [3,4,5] [zM 3 0,
  zO 4 (.call 233 [(.t 3),(zI 0),(zI 255)]),
  zn 5 4,
  zA 2 5]
  .ret))⟩
def ir73:FnIr:=⟨0,1,11,[(2,none)],[],
  (zs [] [] [zK 2 (zB false)]
  (zs (zq 3 8 [19]) (zr 3 8) [zM 3 0,
  zl 4 3,
  zO 5 (.bin .leq (.t 4) (zI 12)),
  zM 6 5,
  zG 7 (.move (.t 0)) 6 true,
  zG 8 (.call 234 [(.t 7),(.f 235)]) 6 true,
  zG 9 (.un .not (.t 8)) 6 true,
  zO 10 (.pick (.t 6) (.t 9) (zB false)),
  zA 2 10]
  .ret))⟩
def ir121:FnIr:=⟨0,1,24,[(2,none)],[],
  (zs [] [] [zK 2 (zI 0)]
  (.seq (zs [6,7,8,31] [6,7] [zM 6 0,
  zC 7 73 [6],
  zn 8 7]
  (zc 8
  (zs [] [] [zK 2 (zI 0)]
  .ret)
  .skip))
  (zs [] [] [zK 3 (zI 1)]
  (.seq (zs [9,10,11] [] [zM 9 0,
  zl 10 9,
  zO 11 (.move (zI 0))]
  (.block 0 (.loop (zs [12] [] [zb 12 .lss 11 10]
  (.seq (zc 12
  .skip
  (.exit 0))
  (.seq (.block 1 (zs [13,14] [13,14] [zp 13 1 9 11,
  zL 14 13,
  zA 5 14]
  (zR (zq 15 7 [45]) (zr 15 7) [zM 15 3,
  zM 16 5,
  zl 17 16,
  zO 18 (.bslice [(.int .i64 0)] 2 [(0,(.t 15)),(1,(.t 17))]),
  zM 19 5,
  zO 20 (.append 1 (.t 18) (.t 19)),
  zC 21 269 [20],
  zA 3 21])))
  (zR [22] [22] [zO 22 (.bin .add (.t 11) (zI 1)),
  zM 11 22])))))))
  (zs [23] [23] [zM 23 3,
  zA 2 23]
  .ret)))))⟩
def ir355:FnIr:=⟨2,2,27,[(4,none)],[],
  (zs [] [] [zK 4 zE]
  (.seq (zs [5,6] [5] [zM 5 1,
  zO 6 (.bin .lss (.t 5) (zI 0))]
  (zc 6
  (zR [7] [7] [zO 7 (.bad),
  zN (.bad)])
  .skip))
  (.seq (zs (zr 8 7) (zr 8 7) [zM 8 1,
  zM 9 0,
  zO 10 (.bad),
  zM 11 0,
  zl 12 11,
  zb 13 .sub 10 12,
  zb 14 .sub 8 13,
  zA 1 14]
  (zs [15,16] [15] [zM 15 1,
  zO 16 (.bin .gtr (.t 15) (zI 0))]
  (zc 16
  (zR (zr 17 9) (zr 17 9) [zM 17 0,
  zM 18 0,
  zO 19 (.bad),
  zO 20 (.slice 1 (.t 17) none (some (.t 19))),
  zM 21 1,
  zO 22 (.bad),
  zM 23 0,
  zl 24 23,
  zO 25 (.slice 1 (.t 22) none (some (.t 24))),
  zA 0 25])
  .skip)))
  (zs [26] [26] [zM 26 0,
  zA 4 26]
  .ret))))⟩
def ir304:FnIr:=⟨0,1,36,[(2,none)],[],
  (zs [] [] [zK 2 zE]
  (zs [] [] [zK 3 (zI 0)]
  (.seq (zs [9,10,11] [] [zM 9 0,
  zl 10 9,
  zO 11 (.move (zI 0))]
  (.block 0 (.loop (zs [12] [] [zb 12 .lss 11 10]
  (.seq (zc 12
  .skip
  (.exit 0))
  (.seq (.block 1 (zs [13,14] [13,14] [zp 13 1 9 11,
  zL 14 13,
  zA 5 14]
  (zs (zr 15 4) (zr 15 4) [zM 15 3,
  zM 16 5,
  zl 17 16,
  zb 18 .add 15 17,
  zA 3 18]
  (zs [19,20] [19] [zM 19 3,
  zO 20 (.bin .lss (.t 19) (zI 0))]
  (zc 20
  (zR [21] [21] [zO 21 (.bad),
  zN (.bad)])
  .skip)))))
  (zR [22] [22] [zO 22 (.bin .add (.t 11) (zI 1)),
  zM 11 22])))))))
  (zs [23,24,60] [23,24] [zM 23 3,
  zO 24 (.call 355 [zE,(.t 23)]),
  zA 6 24]
  (.seq (zs [25,26,27] [] [zM 25 0,
  zl 26 25,
  zO 27 (.move (zI 0))]
  (.block 2 (.loop (zs [28] [] [zb 28 .lss 27 26]
  (.seq (zc 28
  .skip
  (.exit 2))
  (.seq (.block 3 (zs [29,30] [29,30] [zp 29 1 25 27,
  zL 30 29,
  zA 8 30]
  (zR [31,32,33] [31,32,33] [zM 31 6,
  zM 32 8,
  zO 33 (.append 1 (.t 31) (.t 32)),
  zA 6 33])))
  (zR [34] [34] [zO 34 (.bin .add (.t 27) (zI 1)),
  zM 27 34])))))))
  (zs [35] [35] [zM 35 6,
  zA 2 35]
  .ret))))))⟩
def ir284:FnIr:=⟨0,2,13,[(4,none)],[],
  (zs [] [] [zK 4 (zI 0)]
  (zs (zq 5 8 [24,25]) (zr 5 8) [zM 5 0,
  zO 6 (.bslice [(.int .i64 0)] 1 [(0,(.t 5))]),
  zM 7 1,
  zM 8 0,
  zO 9 (.bslice [(.int .i64 0)] 1 [(0,(.t 8))]),
  zO 10 (.bslice [(.row () [])] 3 [(0,(.t 6)),(1,(.t 7)),(2,(.t 9))]),
  zC 11 304 [10],
  zC 12 269 [11],
  zA 4 12]
  .ret))⟩
def ir144:FnIr:=⟨0,3,26,[(6,none)],[],
  (zs [] [] [zK 6 (zI 0)]
  (.seq (zs (zq 7 13 [34,38,43]) (zr 7 12) [zM 7 0,
  zC 8 114 [7],
  zn 9 8,
  zM 10 9,
  zG 11 (.move (.t 1)) 10 false,
  zG 12 (.call 73 [(.t 11)]) 10 false,
  zG 13 (.un .not (.t 12)) 10 false,
  zO 14 (.pick (.t 10) (zB true) (.t 13)),
  zM 15 14,
  zG 16 (.move (.t 2)) 15 false,
  zG 17 (.call 232 [(.t 16),(zI 0),(zI 1)]) 15 false,
  zG 18 (.un .not (.t 17)) 15 false,
  zO 19 (.pick (.t 15) (zB true) (.t 18))]
  (zc 19
  (zs [] [] [zK 6 (zI 0)]
  .ret)
  .skip))
  (zs (zq 20 6 [49,51]) (zr 20 6) [zM 20 0,
  zM 21 2,
  zM 22 1,
  zC 23 121 [22],
  zO 24 (.bslice [(.int .i64 0)] 2 [(0,(.t 21)),(1,(.t 23))]),
  zC 25 284 [20,24],
  zA 6 25]
  .ret)))⟩
def ir146:FnIr:=⟨0,4,19,[(8,none)],[],
  (zs [] [] [zK 8 (zB false)]
  (zs (zq 9 10 [35]) (zr 9 10) [zM 9 3,
  zO 10 (.bin .neq (.t 9) (zI 0)),
  zM 11 10,
  zG 12 (.move (.t 3)) 11 true,
  zG 13 (.move (.t 0)) 11 true,
  zG 14 (.move (.t 1)) 11 true,
  zG 15 (.move (.t 2)) 11 true,
  zG 16 (.call 144 [(.t 13),(.t 14),(.t 15)]) 11 true,
  zG 17 (.bin .eql (.t 12) (.t 16)) 11 true,
  zO 18 (.pick (.t 11) (.t 17) (zB false)),
  zA 8 18]
  .ret))⟩
def ir118:FnIr:=⟨0,1,11,[(2,none)],[],
  (zs [1,12] [] [zO 1 (.box (.t 0)),
  zK 2 (zB false)]
  (zs (zq 3 8 [16,20]) (zr 3 8) [zF 3 0 1,
  zL 4 3,
  zO 5 (.call 232 [(.t 4),(zI 1),(zI 9)]),
  zM 6 5,
  zG 7 (.faddr 1 (.t 1)) 6 true,
  zG 8 (.load false 1 (.t 7)) 6 true,
  zG 9 (.call 258 [(.t 8)]) 6 true,
  zO 10 (.pick (.t 6) (.t 9) (zB false)),
  zA 2 10]
  .ret))⟩
def ir294:FnIr:=⟨0,1,32,[(2,none),(3,none)],[],
  (zs [] [] [zK 2 zE,
  zK 3 (zB false)]
  (.seq (zs [7,8,9,40] [7,8] [zM 7 0,
  zC 8 258 [7],
  zn 9 8]
  (zc 9
  (zs [] [] [zK 2 zE,
  zK 3 (zB false)]
  .ret)
  .skip))
  (zs [10,11,12] [10,11,12] [zM 10 0,
  zl 11 10,
  zO 12 (.bslice [(.int .i64 0)] 1 [(0,(.t 11))]),
  zA 4 12]
  (.seq (zs [13,14,15] [] [zM 13 0,
  zl 14 13,
  zO 15 (.move (zI 0))]
  (.block 0 (.loop (zs [16] [] [zb 16 .lss 15 14]
  (.seq (zc 16
  .skip
  (.exit 0))
  (.seq (.block 1 (zs [17,18,6,38] [17,18] [zp 17 2 13 15,
  zS 18 2 17,
  zO 6 (.alloc [(.int .i64 0),(.row () [])]),
  zN (.store 2 (.t 6) (.t 18))]
  (.region true (zr 19 11) (zr 19 11) [zM 19 4,
  zF 20 0 6,
  zv (zL 21 20) [1],
  zF 22 1 6,
  zv (zL 23 22) [3],
  zv (zl 24 23) [4,3],
  zv (zO 25 (.bslice [(.int .i64 0)] 2 [(0,(.t 21)),(1,(.t 24))])) [2,1,5,4,3],
  zv (zO 26 (.append 1 (.t 19) (.t 25))) [0,6,2,1,5,4,3],
  zF 27 1 6,
  zv (zL 28 27) [8],
  zv (zO 29 (.append 1 (.t 26) (.t 28))) [7,0,6,2,1,5,4,3,9,8],
  zv (zA 4 29) [10,7,0,6,2,1,5,4,3,9,8]])))
  (zR [30] [30] [zO 30 (.bin .add (.t 15) (zI 1)),
  zM 15 30])))))))
  (zs [31] [31] [zM 31 4,
  zA 2 31,
  zK 3 (zB true)]
  .ret)))))⟩
def ir152:FnIr:=⟨0,1,19,[(2,none)],[],
  (zs [1,20] [] [zO 1 (.box (.t 0)),
  zK 2 zE]
  (.seq (zs [5,6,7,25] [5,6] [zS 5 2 1,
  zC 6 118 [5],
  zn 7 6]
  (zc 7
  (zs [] [] [zK 2 zE]
  .ret)
  .skip))
  (zs [9,10,11,8,12,13,30] [9,10,11,8,12,13] [zF 9 1 1,
  zL 10 9,
  zC 11 294 [10],
  zM 8 11,
  zO 12 (.extract 0 (.t 8)),
  zO 13 (.extract 1 (.t 8)),
  zA 3 12,
  zA 4 13]
  (zs (zr 14 5) (zr 14 5) [zF 14 0 1,
  zL 15 14,
  zO 16 (.bslice [(.int .i64 0)] 1 [(0,(.t 15))]),
  zM 17 3,
  zO 18 (.append 1 (.t 16) (.t 17)),
  zA 2 18]
  .ret))))⟩
def ir337:FnIr:=⟨0,1,10,[(2,none)],[],
  (zs [] [] [zK 2 (zB false)]
  (zs (zq 3 7 [14]) (zr 3 7) [zM 3 0,
  zO 4 (.call 232 [(.t 3),(zI 0),(zI 255)]),
  zM 5 4,
  zG 6 (.move (.t 0)) 5 true,
  zG 7 (.bin .rem (.t 6) (zI 16)) 5 true,
  zG 8 (.bin .eql (.t 7) (zI 10)) 5 true,
  zO 9 (.pick (.t 5) (.t 8) (zB false)),
  zA 2 9]
  .ret))⟩
def ir223:FnIr:=⟨0,1,5,[(2,none)],[],
  (zs [] [] [zK 2 (zB false)]
  (zs [3,4,9] [3,4] [zM 3 0,
  zO 4 (.call 336 [(.t 3),(.f 337)]),
  zA 2 4]
  .ret))⟩
def ir303:FnIr:=⟨0,1,6,[(2,none)],[],
  (zs [] [] [zK 2 (zB false)]
  (zs [3,4,5,10,11] [3,4,5] [zM 3 0,
  zC 4 179 [3],
  zC 5 223 [4],
  zA 2 5]
  .ret))⟩
def ir161:FnIr:=⟨0,2,35,[(4,none)],[],
  (zs [2,3,37,38] [] [zO 2 (.box (.t 0)),
  zO 3 (.box (.t 1)),
  zK 4 (zB false)]
  (.seq (.region true (zq 5 30 [41,44,51,56,59,60,67]) (zr 5 30) [zS 5 2 2,
  zv (zC 6 113 [5]) [0],
  zv (zM 7 6) [1,0],
  zv (zG 8 (.load true 2 (.t 3)) 7 true) [2,1,0],
  zv (zG 9 (.call 118 [(.t 8)]) 7 true) [3,2,1,0],
  zv (zO 10 (.pick (.t 7) (.t 9) (zB false))) [2,1,0,4,3],
  zv (zM 11 10) [5,2,1,0,4,3],
  zv (zG 12 (.faddr 0 (.t 2)) 11 true) [6,5,2,1,0,4,3],
  zv (zG 13 (.load false 1 (.t 12)) 11 true) [7,6,5,2,1,0,4,3],
  zv (zG 14 (.faddr 0 (.t 3)) 11 true) [6,5,2,1,0,4,3],
  zv (zG 15 (.load false 1 (.t 14)) 11 true) [9,6,5,2,1,0,4,3],
  zv (zG 16 (.call 302 [(.t 13),(.t 15)]) 11 true) [8,7,6,5,2,1,0,4,3,10,9],
  zv (zO 17 (.pick (.t 11) (.t 16) (zB false))) [6,5,2,1,0,4,3,11,8,7,10,9],
  zv (zM 18 17) [12,6,5,2,1,0,4,3,11,8,7,10,9],
  zv (zG 19 (.faddr 1 (.t 3)) 18 true) [13,12,6,5,2,1,0,4,3,11,8,7,10,9],
  zv (zG 20 (.load false 1 (.t 19)) 18 true) [14,13,12,6,5,2,1,0,4,3,11,8,7,10,9],
  zv (zG 21 (.call 179 [(.t 20)]) 18 true) [15,14,13,12,6,5,2,1,0,4,3,11,8,7,10,9],
  zv (zG 22 (.faddr 1 (.t 2)) 18 true) [13,12,6,5,2,1,0,4,3,11,8,7,10,9],
  zv (zG 23 (.load false 1 (.t 22)) 18 true) [17,13,12,6,5,2,1,0,4,3,11,8,7,10,9],
  zv (zG 24 (.call 179 [(.t 23)]) 18 true) [18,17,13,12,6,5,2,1,0,4,3,11,8,7,10,9,16,15,14],
  zv (zG 25 (.call 287 [(.t 21),(.t 24)]) 18 true) [16,15,14,13,12,6,5,2,1,0,4,3,11,8,7,10,9,19,18,17],
  zv (zG 26 (.len false (.t 25)) 18 true) [20,16,15,14,13,12,6,5,2,1,0,4,3,11,8,7,10,9,19,18,17],
  zv (zG 27 (.bin .eql (.t 26) (zI 0)) 18 true) [21,20,16,15,14,13,12,6,5,2,1,0,4,3,11,8,7,10,9,19,18,17],
  zv (zO 28 (.pick (.t 18) (.t 27) (zB false))) [13,12,6,5,2,1,0,4,3,11,8,7,10,9,22,21,20,16,15,14,19,18,17],
  zv (zM 29 28) [23,13,12,6,5,2,1,0,4,3,11,8,7,10,9,22,21,20,16,15,14,19,18,17],
  zv (zG 30 (.faddr 1 (.t 3)) 29 true) [24,23,13,12,6,5,2,1,0,4,3,11,8,7,10,9,22,21,20,16,15,14,19,18,17],
  zv (zG 31 (.load false 1 (.t 30)) 29 true) [25,24,23,13,12,6,5,2,1,0,4,3,11,8,7,10,9,22,21,20,16,15,14,19,18,17],
  zv (zG 32 (.call 303 [(.t 31)]) 29 true) [26,25,24,23,13,12,6,5,2,1,0,4,3,11,8,7,10,9,22,21,20,16,15,14,19,18,17],
  zv (zG 33 (.un .not (.t 32)) 29 true) [27,26,25,24,23,13,12,6,5,2,1,0,4,3,11,8,7,10,9,22,21,20,16,15,14,19,18,17],
  zv (zO 34 (.pick (.t 29) (.t 33) (zB false))) [24,23,13,12,6,5,2,1,0,4,3,11,8,7,10,9,22,21,20,16,15,14,19,18,17,28,27,26,25],
  zv (zA 4 34) [29,24,23,13,12,6,5,2,1,0,4,3,11,8,7,10,9,22,21,20,16,15,14,19,18,17,28,27,26,25]])
  .ret))⟩
def ir163:FnIr:=⟨0,1,23,[(2,none)],[],
  (zs [1,24] [] [zO 1 (.box (.t 0)),
  zK 2 zE]
  (.seq (zs [5,6,7,29] [5,6] [zS 5 2 1,
  zC 6 113 [5],
  zn 7 6]
  (zc 7
  (zs [] [] [zK 2 zE]
  .ret)
  .skip))
  (zs [9,10,11,8,12,13,34] [9,10,11,8,12,13] [zF 9 1 1,
  zL 10 9,
  zC 11 294 [10],
  zM 8 11,
  zO 12 (.extract 0 (.t 8)),
  zO 13 (.extract 1 (.t 8)),
  zA 3 12,
  zA 4 13]
  (zs (zq 14 9 [45]) (zr 14 9) [zF 14 0 1,
  zL 15 14,
  zl 16 15,
  zO 17 (.bslice [(.int .i64 0)] 1 [(0,(.t 16))]),
  zF 18 0 1,
  zL 19 18,
  zM 20 3,
  zO 21 (.bslice [(.row () [])] 3 [(0,(.t 17)),(1,(.t 19)),(2,(.t 20))]),
  zC 22 304 [21],
  zA 2 22]
  .ret))))⟩
def ir180:FnIr:=⟨0,2,24,[(4,none)],[],
  (zs [] [] [zK 4 zE]
  (zs [8] [8] [zO 8 (.bslice [(.int .i64 0)] 0 []),
  zA 5 8]
  (.seq (zs [9,10,11] [] [zM 9 0,
  zl 10 9,
  zO 11 (.move (zI 0))]
  (.block 0 (.loop (zs [12] [] [zb 12 .lss 11 10]
  (.seq (zc 12
  .skip
  (.exit 0))
  (.seq (.block 1 (zs [13,14] [13,14] [zp 13 1 9 11,
  zL 14 13,
  zA 7 14]
  (zs [15,16,17,41] [15,16] [zM 15 1,
  zM 16 7,
  zC 17 302 [15,16]]
  (zc 17
  (zR (zr 18 4) (zr 18 4) [zM 18 5,
  zM 19 7,
  zO 20 (.bslice [(.int .i64 0)] 1 [(0,(.t 19))]),
  zO 21 (.append 1 (.t 18) (.t 20)),
  zA 5 21])
  .skip))))
  (zR [22] [22] [zO 22 (.bin .add (.t 11) (zI 1)),
  zM 11 22])))))))
  (zs [23] [23] [zM 23 5,
  zA 4 23]
  .ret))))⟩
def ir111:FnIr:=⟨0,2,29,[(4,none)],[],
  (zs [] [] [zK 4 (zI 0)]
  (.seq (zs (zq 8 8 [38,42]) (zr 8 7) [zM 8 0,
  zC 9 255 [8],
  zn 10 9,
  zM 11 10,
  zG 12 (.move (.t 1)) 11 false,
  zG 13 (.call 255 [(.t 12)]) 11 false,
  zG 14 (.un .not (.t 13)) 11 false,
  zO 15 (.pick (.t 11) (zB true) (.t 14))]
  (zc 15
  (zs [] [] [zK 4 (zI 0)]
  .ret)
  .skip))
  (zs [] [] [zK 5 (zI 0)]
  (.seq (zs (zq 16 5 [47]) [16,17] [zM 16 0,
  zM 17 1,
  zC 18 180 [16,17],
  zl 19 18,
  zO 20 (.move (zI 0))]
  (.block 0 (.loop (zs [21] [] [zb 21 .lss 20 19]
  (.seq (zc 21
  .skip
  (.exit 0))
  (.seq (.block 1 (zs [22,23] [22,23] [zp 22 1 18 20,
  zL 23 22,
  zA 7 23]
  (zR [24,25,26] [24,25,26] [zM 24 5,
  zM 25 7,
  zO 26 (.max (.t 24) (.t 25)),
  zA 5 26])))
  (zR [27] [27] [zO 27 (.bin .add (.t 20) (zI 1)),
  zM 20 27])))))))
  (zs [28] [28] [zM 28 5,
  zA 4 28]
  .ret)))))⟩
def ir356:FnIr:=⟨0,1,6,[(2,none)],[],
  (zs [] [] [zK 2 (zB false)]
  (zs [3,4,5,10] [3,4,5] [zM 3 0,
  zC 4 337 [3],
  zn 5 4,
  zA 2 5]
  .ret))⟩
def ir308:FnIr:=⟨0,1,5,[(2,none)],[],
  (zs [] [] [zK 2 zE]
  (zs [3,4,9] [3,4] [zM 3 0,
  zO 4 (.call 264 [(.t 3),(.f 356)]),
  zA 2 4]
  .ret))⟩
def ir357:FnIr:=⟨0,2,7,[(3,none)],[],
  (zs [] [] [zK 3 (zB false)]
  (zs [4,5,6,13] [4,5,6] [zL 4 1,
  zM 5 0,
  zC 6 302 [4,5],
  zA 3 6]
  .ret))⟩
def ir309:FnIr:=⟨0,2,8,[(4,none)],[],
  (zs [3,11] [] [zO 3 (.box (.t 1)),
  zK 4 zE]
  (zs [5,6,7,15] [5,6,7] [zM 5 0,
  zO 6 (.mkfn 357 [3]),
  zC 7 264 [5,6],
  zA 4 7]
  .ret))⟩
def ir169:FnIr:=⟨0,3,28,[(6,(some (true,2))),(7,none)],[],
  (zs [5,6,33,34] [] [zO 5 (.box (.t 2)),
  zO 6 (.alloc [(.int .i64 0),(.row () [])]),
  zK 7 (zB false)]
  (zs (zq 9 4 [40]) (zr 9 4) [zM 9 0,
  zF 10 0 5,
  zL 11 10,
  zC 12 111 [9,11],
  zA 8 12]
  (.seq (zs (zq 13 7 [42]) (zr 13 6) [zS 13 2 5,
  zC 14 113 [13],
  zn 15 14,
  zM 16 15,
  zG 17 (.move (.t 8)) 16 false,
  zG 18 (.bin .eql (.t 17) (zI 0)) 16 false,
  zO 19 (.pick (.t 16) (zB true) (.t 18))]
  (zc 19
  (zs [20] [20] [zO 20 (.build [(.int .i64 0),(.row () [])] []),
  zN (.store 2 (.t 6) (.t 20)),
  zK 7 (zB false)]
  .ret)
  .skip))
  (zs (zq 21 7 [53,54]) (zr 21 7) [zM 21 8,
  zF 22 1 5,
  zL 23 22,
  zM 24 1,
  zC 25 309 [23,24],
  zC 26 308 [25],
  zO 27 (.build [(.int .i64 0),(.row () [])] [(0,1,(.t 21)),(1,1,(.t 26))]),
  zN (.store 2 (.t 6) (.t 27)),
  zK 7 (zB true)]
  .ret))))⟩
def ir254:FnIr:=⟨0,6,69,[(12,(some (true,3)))],[],
  (zs [6,7,12,75,76,81] [] [zO 6 (.box (.t 0)),
  zO 7 (.box (.t 1)),
  zO 12 (.alloc [(.bool false),(.int .i64 0),(.row () [])])]
  (zs (zq 20 4 [19,24,25,13,92,82]) (zq 20 4 [19,24,25]) [zM 20 2,
  zM 21 3,
  zS 22 2 7,
  zC 23 169 [20,21,22],
  zM 19 23,
  zO 24 (.extract 0 (.t 19)),
  zO 25 (.extract 1 (.t 19)),
  zO 13 (.alloc [(.int .i64 0),(.row () [])]),
  zN (.store 2 (.t 13) (.t 24)),
  zA 14 25]
  (.seq (zs [26,27] [26] [zM 26 14,
  zn 27 26]
  (zc 27
  (zs [28] [28] [zO 28 (.build [(.bool false),(.int .i64 0),(.row () [])] []),
  zN (.store 3 (.t 12) (.t 28))]
  .ret)
  .skip))
  (zs [29,15,84] [29] [zS 29 2 13,
  zO 15 (.alloc [(.int .i64 0),(.row () [])]),
  zN (.store 2 (.t 15) (.t 29))]
  (.seq (zs [30,31,32] [] [zM 30 5,
  zl 31 30,
  zO 32 (.move (zI 0))]
  (.block 0 (.loop (zs [33] [] [zb 33 .lss 32 31]
  (.seq (zc 33
  .skip
  (.exit 0))
  (.seq (.block 1 (zs [34,35,17,86] [34,35] [zp 34 2 30 32,
  zS 35 2 34,
  zO 17 (.alloc [(.int .i64 0),(.int .i64 0)]),
  zN (.store 2 (.t 17) (.t 35))]
  (zR [36,37,38,107] [36,37,38] [zS 36 2 15,
  zS 37 2 17,
  zC 38 119 [36,37],
  zN (.store 2 (.t 15) (.t 38))])))
  (zR [39] [39] [zO 39 (.bin .add (.t 32) (zI 1)),
  zM 32 39])))))))
  (.seq (.region true (zq 40 7 [111,113,115]) (zr 40 7) [zM 40 4,
  zS 41 2 7,
  zv (zC 42 163 [41]) [1],
  zS 43 2 13,
  zv (zC 44 152 [43]) [3,2,1],
  zv (zO 45 (.bslice [(.row () [])] 2 [(0,(.t 42)),(1,(.t 44))])) [2,1,4,3],
  zv (zO 46 (.call 144 [(.t 40),(.t 45),(zI 1)])) [0,5,2,1,4,3],
  zv (zA 18 46) [6,0,5,2,1,4,3]])
  (.seq (.seq (.region true (zq 47 15 [118,123,125,128]) (zr 47 14) [zS 47 2 6,
  zS 48 2 15,
  zv (zC 49 161 [47,48]) [0,1],
  zv (zn 50 49) [2,0,1],
  zv (zM 51 50) [3,2,0,1],
  zv (zG 52 (.move (.t 4)) 51 false) [4,3,2,0,1],
  zv (zG 53 (.load true 2 (.t 6)) 51 false) [4,3,2,0,1],
  zv (zG 54 (.call 163 [(.t 53)]) 51 false) [6,4,3,2,0,1],
  zv (zG 55 (.load true 2 (.t 15)) 51 false) [4,3,2,0,1],
  zv (zG 56 (.call 152 [(.t 55)]) 51 false) [8,4,3,2,0,1,7,6],
  zv (zG 57 (.bslice [(.row () [])] 2 [(0,(.t 54)),(1,(.t 56))]) 51 false) [7,6,4,3,2,0,1,9,8],
  zv (zG 58 (.move (.t 18)) 51 false) [4,3,2,0,1],
  zv (zG 59 (.call 146 [(.t 52),(.t 57),(zI 1),(.t 58)]) 51 false) [5,4,3,2,0,1,10,7,6,9,8,11],
  zv (zG 60 (.un .not (.t 59)) 51 false) [12,5,4,3,2,0,1,10,7,6,9,8,11],
  zv (zO 61 (.pick (.t 51) (zB true) (.t 60))) [4,3,2,0,1,13,12,5,10,7,6,9,8,11]])
  (zc 61
  (zs [62] [62] [zO 62 (.build [(.bool false),(.int .i64 0),(.row () [])] []),
  zN (.store 3 (.t 12) (.t 62))]
  .ret)
  .skip))
  (.seq (.region true (zq 63 6 [136]) (zr 63 6) [zF 63 0 15,
  zv (zL 64 63) [0],
  zF 65 1 15,
  zv (zL 66 65) [2],
  zv (zC 67 179 [66]) [3,2],
  zv (zO 68 (.build [(.bool false),(.int .i64 0),(.row () [])] [(0,1,(zB true)),(1,1,(.t 64)),(2,1,(.t 67))])) [1,0,4,3,2],
  zv (zN (.store 3 (.t 12) (.t 68))) [5,1,0,4,3,2]])
  .ret))))))))⟩
def ir211:FnIr:=⟨0,5,28,[(10,(some (true,3)))],[],
  (zs [5,10,33,38] [] [zO 5 (.box (.t 0)),
  zO 10 (.alloc [(.bool false),(.int .i64 0),(.row () [])])]
  (zs [14,15,16,13,17,18,11,44,39] [14,15,16,13,17,18] [zM 14 1,
  zS 15 2 5,
  zC 16 182 [14,15],
  zM 13 16,
  zO 17 (.extract 0 (.t 13)),
  zO 18 (.extract 1 (.t 13)),
  zO 11 (.alloc [(.row () []),(.row () [])]),
  zN (.store 2 (.t 11) (.t 17)),
  zA 12 18]
  (.seq (zs [19,20] [19] [zM 19 12,
  zn 20 19]
  (zc 20
  (zs [21] [21] [zO 21 (.build [(.bool false),(.int .i64 0),(.row () [])] []),
  zN (.store 3 (.t 10) (.t 21))]
  .ret)
  .skip))
  (zs (zq 22 6 [55]) (zr 22 6) [zS 22 2 5,
  zS 23 2 11,
  zM 24 2,
  zM 25 3,
  zM 26 4,
  zO 27 (.call 254 [(.t 22),(.t 23),(.t 24),(.t 25),(.t 26),zE]),
  zN (.store 3 (.t 10) (.t 27))]
  .ret))))⟩
def ir130:FnIr:=⟨0,2,17,[(4,none)],[],
  (zs [2,3,19,20] [] [zO 2 (.box (.t 0)),
  zO 3 (.box (.t 1)),
  zK 4 (zB false)]
  (zs (zq 5 12 [26,32]) (zr 5 12) [zF 5 0 2,
  zL 6 5,
  zF 7 0 3,
  zL 8 7,
  zC 9 228 [6,8],
  zM 10 9,
  zG 11 (.faddr 1 (.t 2)) 10 true,
  zG 12 (.load false 1 (.t 11)) 10 true,
  zG 13 (.faddr 1 (.t 3)) 10 true,
  zG 14 (.load false 1 (.t 13)) 10 true,
  zG 15 (.call 272 [(.t 12),(.t 14)]) 10 true,
  zO 16 (.pick (.t 10) (.t 15) (zB false)),
  zA 4 16]
  .ret))⟩
def ir192:FnIr:=⟨0,2,19,[(4,none)],[],
  (zs [2,21] [] [zO 2 (.box (.t 0)),
  zK 4 (zB false)]
  (zs [8,9,10,7,11,12,5,29,24] [8,9,10,7,11,12] [zM 8 1,
  zS 9 2 2,
  zC 10 196 [8,9],
  zM 7 10,
  zO 11 (.extract 0 (.t 7)),
  zO 12 (.extract 1 (.t 7)),
  zO 5 (.alloc [(.row () []),(.row () [])]),
  zN (.store 2 (.t 5) (.t 11)),
  zA 6 12]
  (zs (zq 13 6 [36]) (zr 13 6) [zM 13 6,
  zM 14 13,
  zG 15 (.load true 2 (.t 5)) 14 true,
  zG 16 (.load true 2 (.t 2)) 14 true,
  zG 17 (.call 130 [(.t 15),(.t 16)]) 14 true,
  zO 18 (.pick (.t 14) (.t 17) (zB false)),
  zA 4 18]
  .ret)))⟩
def ir75:FnIr:=⟨0,1,7,[(2,(some (true,2)))],[],
  (zs [2,9] [] [zO 2 (.alloc [(.row () []),(.row () [])])]
  (zs (zr 3 4) (zr 3 4) [zO 3 (.bslice [(.int .i64 0)] 0 []),
  zM 4 0,
  zO 5 (.append 1 (.t 3) (.t 4)),
  zO 6 (.build [(.row () []),(.row () [])] [(0,1,(.t 5))]),
  zN (.store 2 (.t 2) (.t 6))]
  .ret))⟩
def ir166:FnIr:=⟨0,2,19,[(4,none)],[],
  (zs [] [] [zK 4 (zB false)]
  (.seq (zs [7,8,9,27] [7,8] [zM 7 1,
  zC 8 257 [7],
  zn 9 8]
  (zc 9
  (zs [] [] [zK 4 (zB false)]
  .ret)
  .skip))
  (zs (zq 11 5 [10,16,17,5,33,34,24]) (zq 11 5 [10,16,17,5]) [zM 11 0,
  zM 12 1,
  zO 13 (.slice 1 (.t 12) none (some (zI 1))),
  zC 14 75 [13],
  zC 15 196 [11,14],
  zM 10 15,
  zO 16 (.extract 0 (.t 10)),
  zO 17 (.extract 1 (.t 10)),
  zO 5 (.alloc [(.row () []),(.row () [])]),
  zN (.store 2 (.t 5) (.t 16)),
  zA 6 17]
  (zs [18] [18] [zM 18 6,
  zA 4 18]
  .ret))))⟩
def ir170:FnIr:=⟨0,2,34,[(4,none)],[],
  (zs [] [] [zK 4 zE]
  (zs [7] [7] [zO 7 (.bslice [(.int .i64 0)] 0 []),
  zA 5 7]
  (.seq (zs [] [] [zK 6 (zI 0)]
  (.block 0 (.loop (.seq (zs (zq 8 8 [48]) (zr 8 7) [zM 8 6,
  zM 9 1,
  zl 10 9,
  zb 11 .lss 8 10,
  zM 12 11,
  zG 13 (.move (.t 1)) 12 true,
  zG 14 (.call 257 [(.t 13)]) 12 true,
  zO 15 (.pick (.t 12) (.t 14) (zB false))]
  (zc 15
  .skip
  (.exit 0)))
  (.seq (.block 1 (zs (zq 18 8 [58]) (zr 18 7) [zM 18 0,
  zM 19 1,
  zM 20 6,
  zM 21 6,
  zO 22 (.bin .add (.t 21) (zI 1)),
  zO 23 (.slice 1 (.t 19) (some (.t 20)) (some (.t 22))),
  zC 24 166 [18,23],
  zn 25 24]
  (zc 25
  (zR (zr 26 7) (zr 26 7) [zM 26 5,
  zM 27 1,
  zM 28 6,
  zp 29 1 27 28,
  zL 30 29,
  zO 31 (.bslice [(.int .i64 0)] 1 [(0,(.t 30))]),
  zO 32 (.append 1 (.t 26) (.t 31)),
  zA 5 32])
  .skip)))
  (zR [16,17] [16,17] [zM 16 6,
  zO 17 (.bin .add (.t 16) (zI 1)),
  zA 6 17]))))))
  (zs [33] [33] [zM 33 5,
  zA 4 33]
  .ret))))⟩
def ir198:FnIr:=⟨0,3,63,[(6,none)],[],
  (zs [] [] [zK 6 zE]
  (zs [12] [12] [zO 12 (.bslice [(.int .i64 0)] 0 []),
  zA 7 12]
  (.seq (zs (zq 13 9 [77,82]) (zr 13 8) [zM 13 2,
  zC 14 271 [13],
  zn 15 14,
  zM 16 15,
  zG 17 (.move (.t 0)) 16 false,
  zG 18 (.move (.t 1)) 16 false,
  zG 19 (.call 166 [(.t 17),(.t 18)]) 16 false,
  zG 20 (.un .not (.t 19)) 16 false,
  zO 21 (.pick (.t 16) (zB true) (.t 20))]
  (zc 21
  (zs [22] [22] [zM 22 7,
  zA 6 22]
  .ret)
  .skip))
  (.seq (zs [] [] [zK 8 (zI 0)]
  (.block 0 (.loop (.seq (zs (zr 23 4) [23,24,25] [zM 23 8,
  zM 24 2,
  zl 25 24,
  zb 26 .lss 23 25]
  (zc 26
  .skip
  (.exit 0)))
  (.seq (.block 1 (zs [29,30,31,9,94,72] [29,30,31] [zM 29 1,
  zO 30 (.slice 1 (.t 29) none (some (zI 1))),
  zC 31 75 [30],
  zO 9 (.alloc [(.row () []),(.row () [])]),
  zN (.store 2 (.t 9) (.t 31))]
  (zs (zr 32 6) (zr 32 6) [zM 32 2,
  zM 33 8,
  zM 34 8,
  zO 35 (.bin .add (.t 34) (zI 1)),
  zO 36 (.slice 2 (.t 32) (some (.t 33)) (some (.t 35))),
  zF 37 1 9,
  zN (.store 1 (.t 37) (.t 36))]
  (zs [39,40,41,38,42,43,10,104,73] [39,40,41,38,42,43] [zM 39 0,
  zS 40 2 9,
  zC 41 196 [39,40],
  zM 38 41,
  zO 42 (.extract 0 (.t 38)),
  zO 43 (.extract 1 (.t 38)),
  zO 10 (.alloc [(.row () []),(.row () [])]),
  zN (.store 2 (.t 10) (.t 42)),
  zA 11 43]
  (zs (zq 44 10 [114]) (zr 44 9) [zM 44 11,
  zn 45 44,
  zM 46 45,
  zG 47 (.faddr 1 (.t 10)) 46 false,
  zG 48 (.load false 1 (.t 47)) 46 false,
  zG 49 (.faddr 1 (.t 9)) 46 false,
  zG 50 (.load false 1 (.t 49)) 46 false,
  zG 51 (.call 272 [(.t 48),(.t 50)]) 46 false,
  zG 52 (.un .not (.t 51)) 46 false,
  zO 53 (.pick (.t 46) (zB true) (.t 52))]
  (zc 53
  (zR (zr 54 8) (zr 54 8) [zM 54 7,
  zM 55 2,
  zM 56 8,
  zp 57 2 55 56,
  zF 58 0 57,
  zL 59 58,
  zO 60 (.bslice [(.int .i64 0)] 1 [(0,(.t 59))]),
  zO 61 (.append 1 (.t 54) (.t 60)),
  zA 7 61])
  .skip))))))
  (zR [27,28] [27,28] [zM 27 8,
  zO 28 (.bin .add (.t 27) (zI 1)),
  zA 8 28]))))))
  (zs [62] [62] [zM 62 7,
  zA 6 62]
  .ret)))))⟩
def ir205:FnIr:=⟨0,2,28,[(4,(some (true,2))),(5,none)],[],
  (zs [2,4,30,32] [] [zO 2 (.box (.t 0)),
  zO 4 (.alloc [(.row () []),(.row () [])]),
  zK 5 (zB false)]
  (.seq (zs [7,8,9,36] [7,8] [zS 7 2 2,
  zC 8 142 [7],
  zn 9 8]
  (zc 9
  (zs [10] [10] [zO 10 (.build [(.row () []),(.row () [])] []),
  zN (.store 2 (.t 4) (.t 10)),
  zK 5 (zB false)]
  .ret)
  .skip))
  (zs (zq 11 4 [42]) (zr 11 4) [zM 11 1,
  zF 12 0 2,
  zL 13 12,
  zC 14 170 [11,13],
  zA 6 14]
  (.seq (.region true (zq 15 13 [49,52,53]) (zr 15 13) [zS 15 2 2,
  zM 16 6,
  zM 17 1,
  zF 18 0 2,
  zv (zL 19 18) [3],
  zM 20 6,
  zv (zC 21 292 [19,20]) [4,3,5],
  zF 22 1 2,
  zv (zL 23 22) [7],
  zv (zC 24 198 [17,21,23]) [2,6,4,3,5,8,7],
  zv (zC 25 164 [15,16,24]) [0,1,9,2,6,4,3,5,8,7],
  zv (zO 26 (.extract 0 (.t 25))) [10,0,1,9,2,6,4,3,5,8,7],
  zv (zO 27 (.extract 1 (.t 25))) [10,0,1,9,2,6,4,3,5,8,7],
  zv (zN (.store 2 (.t 4) (.t 26))) [11,10,0,1,9,2,6,4,3,5,8,7,12],
  zv (zA 5 27) [12,10,0,1,9,2,6,4,3,5,8,7,13,11]])
  .ret))))⟩
def ir208:FnIr:=⟨0,2,34,[(4,(some (true,2))),(5,none),(6,none)],[],
  (zs [2,4,36,38] [] [zO 2 (.box (.t 0)),
  zO 4 (.alloc [(.row () []),(.row () [])]),
  zK 5 (zI 0),
  zK 6 (zB false)]
  (.seq (zs [9,10,11,44] [9,10] [zS 9 2 2,
  zC 10 142 [9],
  zn 11 10]
  (zc 11
  (zs [12] [12] [zO 12 (.build [(.row () []),(.row () [])] []),
  zN (.store 2 (.t 4) (.t 12)),
  zK 5 (zI 0),
  zK 6 (zB false)]
  .ret)
  .skip))
  (.seq (zs [13,14,15,49] [13,14] [zS 13 2 2,
  zM 14 1,
  zC 15 192 [13,14]]
  (zc 15
  (zs [16,17,51] [16,17] [zS 16 2 2,
  zC 17 279 [16],
  zN (.store 2 (.t 4) (.t 17)),
  zK 5 (zI 1),
  zK 6 (zB true)]
  .ret)
  .skip))
  (zs [19,20,21,18,22,23,7,55,41] [19,20,21,18,22,23] [zS 19 2 2,
  zM 20 1,
  zC 21 205 [19,20],
  zM 18 21,
  zO 22 (.extract 0 (.t 18)),
  zO 23 (.extract 1 (.t 18)),
  zO 7 (.alloc [(.row () []),(.row () [])]),
  zN (.store 2 (.t 7) (.t 22)),
  zA 8 23]
  (.seq (zs (zq 24 8 [63]) (zr 24 7) [zM 24 8,
  zn 25 24,
  zM 26 25,
  zG 27 (.load true 2 (.t 7)) 26 false,
  zG 28 (.move (.t 1)) 26 false,
  zG 29 (.call 192 [(.t 27),(.t 28)]) 26 false,
  zG 30 (.un .not (.t 29)) 26 false,
  zO 31 (.pick (.t 26) (zB true) (.t 30))]
  (zc 31
  (zs [32] [32] [zO 32 (.build [(.row () []),(.row () [])] []),
  zN (.store 2 (.t 4) (.t 32)),
  zK 5 (zI 2),
  zK 6 (zB false)]
  .ret)
  .skip))
  (zs [33] [33] [zS 33 2 7,
  zN (.store 2 (.t 4) (.t 33)),
  zK 5 (zI 2),
  zK 6 (zB true)]
  .ret))))))⟩
def ir222:FnIr:=⟨0,5,36,[(10,(some (true,5)))],[],
  (zs [5,10,41,46] [] [zO 5 (.box (.t 0)),
  zO 10 (.alloc [(.bool false),(.int .i64 0),(.row () []),(.int .i64 0),(.row () [])])]
  (zs [15,16,17,14,18,19,20,11,53,47] [15,16,17,14,18,19,20] [zS 15 2 5,
  zM 16 1,
  zC 17 208 [15,16],
  zM 14 17,
  zO 18 (.extract 0 (.t 14)),
  zO 19 (.extract 1 (.t 14)),
  zO 20 (.extract 2 (.t 14)),
  zO 11 (.alloc [(.row () []),(.row () [])]),
  zN (.store 2 (.t 11) (.t 18)),
  zA 12 19,
  zA 13 20]
  (.seq (zs [21,22] [21] [zM 21 13,
  zn 22 21]
  (zc 22
  (zs [23,24] [23,24] [zM 23 12,
  zO 24 (.build [(.bool false),(.int .i64 0),(.row () []),(.int .i64 0),(.row () [])] [(3,1,(.t 23))]),
  zN (.store 5 (.t 10) (.t 24))]
  .ret)
  .skip))
  (.seq (.region true (zq 25 11 [66,70]) (zr 25 11) [zS 25 2 11,
  zM 26 1,
  zM 27 2,
  zM 28 3,
  zM 29 4,
  zv (zC 30 210 [25,26,27,28,29]) [0,1,2,3,4],
  zM 31 12,
  zS 32 2 5,
  zS 33 2 11,
  zv (zC 34 149 [32,33]) [7,8,5,0,1,2,3,4],
  zv (zO 35 (.build [(.bool false),(.int .i64 0),(.row () []),(.int .i64 0),(.row () [])] [(0,3,(.t 30)),(3,1,(.t 31)),(4,1,(.t 34))])) [5,0,1,2,3,4,6,9,7,8],
  zv (zN (.store 5 (.t 10) (.t 35))) [10,5,0,1,2,3,4,6,9,7,8]])
  .ret))))⟩
def ir204:FnIr:=⟨0,5,36,[(10,(some (true,5)))],[],
  (zs [5,10,41,46] [] [zO 5 (.box (.t 0)),
  zO 10 (.alloc [(.bool false),(.int .i64 0),(.row () []),(.int .i64 0),(.row () [])])]
  (zs [15,16,17,14,18,19,20,11,53,47] [15,16,17,14,18,19,20] [zS 15 2 5,
  zM 16 1,
  zC 17 184 [15,16],
  zM 14 17,
  zO 18 (.extract 0 (.t 14)),
  zO 19 (.extract 1 (.t 14)),
  zO 20 (.extract 2 (.t 14)),
  zO 11 (.alloc [(.row () []),(.row () [])]),
  zN (.store 2 (.t 11) (.t 18)),
  zA 12 19,
  zA 13 20]
  (.seq (zs [21,22] [21] [zM 21 13,
  zn 22 21]
  (zc 22
  (zs [23,24] [23,24] [zM 23 12,
  zO 24 (.build [(.bool false),(.int .i64 0),(.row () []),(.int .i64 0),(.row () [])] [(3,1,(.t 23))]),
  zN (.store 5 (.t 10) (.t 24))]
  .ret)
  .skip))
  (.seq (.region true (zq 25 11 [66,70]) (zr 25 11) [zS 25 2 11,
  zM 26 1,
  zM 27 2,
  zM 28 3,
  zM 29 4,
  zv (zC 30 211 [25,26,27,28,29]) [0,1,2,3,4],
  zM 31 12,
  zS 32 2 5,
  zS 33 2 11,
  zv (zC 34 150 [32,33]) [7,8,5,0,1,2,3,4],
  zv (zO 35 (.build [(.bool false),(.int .i64 0),(.row () []),(.int .i64 0),(.row () [])] [(0,3,(.t 30)),(3,1,(.t 31)),(4,1,(.t 34))])) [5,0,1,2,3,4,6,9,7,8],
  zv (zN (.store 5 (.t 10) (.t 35))) [10,5,0,1,2,3,4,6,9,7,8]])
  .ret))))⟩
def ir125:FnIr:=⟨0,2,21,[(4,none)],[],
  (zs [] [] [zK 4 (zI 0)]
  (.seq (zs [] [] [zK 5 (zI 0)]
  (.block 0 (.loop (.seq (zs (zr 6 4) [6,7,8] [zM 6 5,
  zM 7 0,
  zl 8 7,
  zb 9 .lss 6 8]
  (zc 9
  .skip
  (.exit 0)))
  (.seq (.block 1 (.seq (zs (zr 12 6) (zr 12 5) [zM 12 0,
  zM 13 5,
  zp 14 1 12 13,
  zL 15 14,
  zM 16 1,
  zb 17 .neq 15 16]
  (zc 17
  (zs [] [] [zK 4 (zI (-1))]
  .ret)
  .skip))
  (zR [18,19] [18,19] [zM 18 1,
  zO 19 (.bin .add (.t 18) (zI 1)),
  zA 1 19])))
  (zR [10,11] [10,11] [zM 10 5,
  zO 11 (.bin .add (.t 10) (zI 1)),
  zA 5 11]))))))
  (zs [20] [20] [zM 20 1,
  zA 4 20]
  .ret)))⟩
def ir88:FnIr:=⟨0,2,12,[(4,none)],[],
  (zs [2,14] [] [zO 2 (.box (.t 0)),
  zK 4 (zI 0)]
  (zs (zq 5 4 [20]) (zr 5 4) [zF 5 2 2,
  zL 6 5,
  zM 7 1,
  zC 8 125 [6,7],
  zA 1 8]
  (.seq (zs [9,10] [9] [zM 9 1,
  zO 10 (.bin .lss (.t 9) (zI 0))]
  (zc 10
  (zs [] [] [zK 4 (zI (-1))]
  .ret)
  .skip))
  (zs [11] [11] [zM 11 1,
  zA 4 11]
  .ret))))⟩
def ir225:FnIr:=⟨0,2,18,[(4,none)],[],
  (zs [2,20] [] [zO 2 (.box (.t 0)),
  zK 4 (zI 0)]
  (zs (zq 5 4 [26]) (zr 5 4) [zF 5 0 2,
  zS 6 3 5,
  zM 7 1,
  zC 8 88 [6,7],
  zA 1 8]
  (.seq (zs [9,10] [9] [zM 9 1,
  zO 10 (.bin .lss (.t 9) (zI 0))]
  (zc 10
  (zs [] [] [zK 4 (zI (-1))]
  .ret)
  .skip))
  (zs (zq 11 4 [32]) (zr 11 4) [zF 11 4 2,
  zL 12 11,
  zM 13 1,
  zC 14 125 [12,13],
  zA 1 14]
  (.seq (zs [15,16] [15] [zM 15 1,
  zO 16 (.bin .lss (.t 15) (zI 0))]
  (zc 16
  (zs [] [] [zK 4 (zI (-1))]
  .ret)
  .skip))
  (zs [17] [17] [zM 17 1,
  zA 4 17]
  .ret))))))⟩
def ir321:FnIr:=⟨0,2,16,[(4,none)],[],
  (zs [2,3,18,19] [] [zO 2 (.box (.t 0)),
  zO 3 (.box (.t 1)),
  zK 4 (zB false)]
  (.seq (zs (zr 5 5) (zr 5 4) [zF 5 0 2,
  zL 6 5,
  zF 7 0 3,
  zL 8 7,
  zb 9 .neq 6 8]
  (zc 9
  (zs [] [] [zK 4 (zB false)]
  .ret)
  .skip))
  (.seq (zs (zq 10 6 [30]) (zr 10 5) [zF 10 1 2,
  zL 11 10,
  zF 12 1 3,
  zL 13 12,
  zC 14 79 [11,13],
  zn 15 14]
  (zc 15
  (zs [] [] [zK 4 (zB false)]
  .ret)
  .skip))
  (zs [] [] [zK 4 (zB true)]
  .ret))))⟩
def ir200:FnIr:=⟨0,2,27,[(4,none)],[],
  (zs [] [] [zK 4 (zB false)]
  (.seq (zs (zr 6 5) (zr 6 4) [zM 6 0,
  zl 7 6,
  zM 8 1,
  zl 9 8,
  zb 10 .neq 7 9]
  (zc 10
  (zs [] [] [zK 4 (zB false)]
  .ret)
  .skip))
  (.seq (zs [] [] [zK 5 (zI 0)]
  (.block 0 (.loop (.seq (zs (zr 11 4) [11,12,13] [zM 11 5,
  zM 12 0,
  zl 13 12,
  zb 14 .lss 11 13]
  (zc 14
  .skip
  (.exit 0)))
  (.seq (.block 1 (.seq (.region true (zq 17 10 [52]) (zr 17 9) [zM 17 0,
  zM 18 5,
  zv (zp 19 2 17 18) [0,1],
  zv (zS 20 2 19) [2,0,1],
  zM 21 1,
  zM 22 5,
  zv (zp 23 2 21 22) [4,5],
  zv (zS 24 2 23) [6,4,5],
  zv (zC 25 321 [20,24]) [3,2,0,1,7,6,4,5],
  zv (zn 26 25) [8,3,2,0,1,7,6,4,5]])
  (zc 26
  (zs [] [] [zK 4 (zB false)]
  .ret)
  .skip)))
  (zR [15,16] [15,16] [zM 15 5,
  zO 16 (.bin .add (.t 15) (zI 1)),
  zA 5 16]))))))
  (zs [] [] [zK 4 (zB true)]
  .ret))))⟩
def ir78:FnIr:=⟨0,2,17,[(4,none)],[],
  (zs [2,3,19,20] [] [zO 2 (.box (.t 0)),
  zO 3 (.box (.t 1)),
  zK 4 (zB false)]
  (.seq (zs (zq 5 6 [26]) (zr 5 5) [zF 5 0 2,
  zL 6 5,
  zF 7 0 3,
  zL 8 7,
  zC 9 79 [6,8],
  zn 10 9]
  (zc 10
  (zs [] [] [zK 4 (zB false)]
  .ret)
  .skip))
  (.seq (zs (zq 11 6 [32]) (zr 11 5) [zF 11 1 2,
  zL 12 11,
  zF 13 1 3,
  zL 14 13,
  zC 15 200 [12,14],
  zn 16 15]
  (zc 16
  (zs [] [] [zK 4 (zB false)]
  .ret)
  .skip))
  (zs [] [] [zK 4 (zB true)]
  .ret))))⟩
def ir319:FnIr:=⟨0,2,12,[(4,none)],[],
  (zs [2,14] [] [zO 2 (.box (.t 0)),
  zK 4 (zI 0)]
  (zs (zq 5 4 [20]) (zr 5 4) [zF 5 1 2,
  zL 6 5,
  zM 7 1,
  zC 8 227 [6,7],
  zA 1 8]
  (.seq (zs [9,10] [9] [zM 9 1,
  zO 10 (.bin .lss (.t 9) (zI 0))]
  (zc 10
  (zs [] [] [zK 4 (zI (-1))]
  .ret)
  .skip))
  (zs [11] [11] [zM 11 1,
  zA 4 11]
  .ret))))⟩
def ir197:FnIr:=⟨0,2,27,[(4,none)],[],
  (zs [] [] [zK 4 (zI 0)]
  (zs (zr 6 4) (zr 6 4) [zM 6 1,
  zM 7 0,
  zl 8 7,
  zb 9 .sub 6 8,
  zA 1 9]
  (.seq (zs [10,11] [10] [zM 10 1,
  zO 11 (.bin .lss (.t 10) (zI 0))]
  (zc 11
  (zs [] [] [zK 4 (zI (-1))]
  .ret)
  .skip))
  (.seq (zs [] [] [zK 5 (zI 0)]
  (.block 0 (.loop (.seq (zs (zr 12 4) [12,13,14] [zM 12 5,
  zM 13 0,
  zl 14 13,
  zb 15 .lss 12 14]
  (zc 15
  .skip
  (.exit 0)))
  (.seq (.block 1 (zs (zq 18 6 [50]) (zr 18 6) [zM 18 0,
  zM 19 5,
  zp 20 2 18 19,
  zS 21 2 20,
  zM 22 1,
  zC 23 319 [21,22],
  zA 1 23]
  (zs [24,25] [24] [zM 24 1,
  zO 25 (.bin .lss (.t 24) (zI 0))]
  (zc 25
  (zs [] [] [zK 4 (zI (-1))]
  .ret)
  .skip))))
  (zR [16,17] [16,17] [zM 16 5,
  zO 17 (.bin .add (.t 16) (zI 1)),
  zA 5 17]))))))
  (zs [26] [26] [zM 26 1,
  zA 4 26]
  .ret)))))⟩
def ir83:FnIr:=⟨0,2,18,[(4,none)],[],
  (zs [2,20] [] [zO 2 (.box (.t 0)),
  zK 4 (zI 0)]
  (zs (zq 5 4 [26]) (zr 5 4) [zF 5 0 2,
  zL 6 5,
  zM 7 1,
  zC 8 227 [6,7],
  zA 1 8]
  (.seq (zs [9,10] [9] [zM 9 1,
  zO 10 (.bin .lss (.t 9) (zI 0))]
  (zc 10
  (zs [] [] [zK 4 (zI (-1))]
  .ret)
  .skip))
  (zs (zq 11 4 [32]) (zr 11 4) [zF 11 1 2,
  zL 12 11,
  zM 13 1,
  zC 14 197 [12,13],
  zA 1 14]
  (.seq (zs [15,16] [15] [zM 15 1,
  zO 16 (.bin .lss (.t 15) (zI 0))]
  (zc 16
  (zs [] [] [zK 4 (zI (-1))]
  .ret)
  .skip))
  (zs [17] [17] [zM 17 1,
  zA 4 17]
  .ret))))))⟩
def ir320:FnIr:=⟨0,1,12,[(2,(some (true,2)))],[],
  (zs [1,2,13,14] [] [zO 1 (.box (.t 0)),
  zO 2 (.alloc [(.int .i64 0),(.row () [])])]
  (zs [3,15] [] [zO 3 (.alloc [(.int .i64 0),(.row () [])])]
  (zs [4,5,6] [4,5,6] [zF 4 0 1,
  zL 5 4,
  zF 6 0 3,
  zN (.store 1 (.t 6) (.t 5))]
  (zs (zq 7 4 [21]) (zr 7 4) [zF 7 1 1,
  zL 8 7,
  zC 9 76 [8],
  zF 10 1 3,
  zN (.store 1 (.t 10) (.t 9))]
  (zs [11] [11] [zS 11 2 3,
  zN (.store 2 (.t 2) (.t 11))]
  .ret)))))⟩
def ir199:FnIr:=⟨0,1,23,[(2,none)],[],
  (zs [] [] [zK 2 zE]
  (zs [5,6,7] [5,6,7] [zM 5 0,
  zl 6 5,
  zO 7 (.mkslice [(.int .i64 0),(.row () [])] (.t 6) (.t 6)),
  zA 3 7]
  (.seq (zs [] [] [zK 4 (zI 0)]
  (.block 0 (.loop (.seq (zs (zr 8 4) [8,9,10] [zM 8 4,
  zM 9 0,
  zl 10 9,
  zb 11 .lss 8 10]
  (zc 11
  .skip
  (.exit 0)))
  (.seq (.block 1 (zR (zq 14 8 [43]) (zr 14 8) [zM 14 3,
  zM 15 4,
  zM 16 0,
  zM 17 4,
  zp 18 2 16 17,
  zS 19 2 18,
  zC 20 320 [19],
  zp 21 2 14 15,
  zN (.rstore 2 (.t 21) (.t 20))]))
  (zR [12,13] [12,13] [zM 12 4,
  zO 13 (.bin .add (.t 12) (zI 1)),
  zA 4 13]))))))
  (zs [22] [22] [zM 22 3,
  zA 2 22]
  .ret))))⟩
def ir85:FnIr:=⟨0,1,13,[(2,(some (true,2)))],[],
  (zs [1,2,14,15] [] [zO 1 (.box (.t 0)),
  zO 2 (.alloc [(.row () []),(.row () [])])]
  (zs [3,16] [] [zO 3 (.alloc [(.row () []),(.row () [])])]
  (zs (zq 4 4 [19]) (zr 4 4) [zF 4 0 1,
  zL 5 4,
  zC 6 76 [5],
  zF 7 0 3,
  zN (.store 1 (.t 7) (.t 6))]
  (zs (zq 8 4 [23]) (zr 8 4) [zF 8 1 1,
  zL 9 8,
  zC 10 199 [9],
  zF 11 1 3,
  zN (.store 1 (.t 11) (.t 10))]
  (zs [12] [12] [zS 12 2 3,
  zN (.store 2 (.t 2) (.t 12))]
  .ret)))))⟩
def ir65:FnIr:=⟨0,2,21,[(4,none)],[],
  (zs [2,3,23,24] [] [zO 2 (.box (.t 0)),
  zO 3 (.box (.t 1)),
  zK 4 (zB false)]
  (.seq (zs (zr 5 5) (zr 5 4) [zF 5 0 2,
  zL 6 5,
  zF 7 0 3,
  zL 8 7,
  zO 9 (.beq true (.t 6) (.t 8))]
  (zc 9
  (zs [] [] [zK 4 (zB false)]
  .ret)
  .skip))
  (.seq (zs (zr 10 5) (zr 10 4) [zF 10 1 2,
  zL 11 10,
  zF 12 1 3,
  zL 13 12,
  zb 14 .neq 11 13]
  (zc 14
  (zs [] [] [zK 4 (zB false)]
  .ret)
  .skip))
  (.seq (zs (zq 15 6 [40]) (zr 15 5) [zF 15 2 2,
  zL 16 15,
  zF 17 2 3,
  zL 18 17,
  zC 19 79 [16,18],
  zn 20 19]
  (zc 20
  (zs [] [] [zK 4 (zB false)]
  .ret)
  .skip))
  (zs [] [] [zK 4 (zB true)]
  .ret)))))⟩
def ir95:FnIr:=⟨0,2,22,[(4,none)],[],
  (zs [2,3,24,25] [] [zO 2 (.box (.t 0)),
  zO 3 (.box (.t 1)),
  zK 4 (zB false)]
  (.seq (zs (zq 5 6 [31]) (zr 5 5) [zF 5 0 2,
  zS 6 3 5,
  zF 7 0 3,
  zS 8 3 7,
  zC 9 65 [6,8],
  zn 10 9]
  (zc 10
  (zs [] [] [zK 4 (zB false)]
  .ret)
  .skip))
  (.seq (zs (zr 11 5) (zr 11 4) [zF 11 3 2,
  zL 12 11,
  zF 13 3 3,
  zL 14 13,
  zb 15 .neq 12 14]
  (zc 15
  (zs [] [] [zK 4 (zB false)]
  .ret)
  .skip))
  (.seq (zs (zq 16 6 [42]) (zr 16 5) [zF 16 4 2,
  zL 17 16,
  zF 18 4 3,
  zL 19 18,
  zC 20 79 [17,19],
  zn 21 20]
  (zc 21
  (zs [] [] [zK 4 (zB false)]
  .ret)
  .skip))
  (zs [] [] [zK 4 (zB true)]
  .ret)))))⟩
def ir54:FnIr:=⟨0,5,139,[(10,none)],[],
  (zs [5,144] [] [zO 5 (.box (.t 0)),
  zK 10 (zB false)]
  (.seq (zs [22,23,24] [22,23] [zM 22 2,
  zl 23 22,
  zO 24 (.bin .gtr (.t 23) (zI 1048576))]
  (zc 24
  (zs [] [] [zK 10 (zB true)]
  .ret)
  .skip))
  (.seq (zs [25,26,27] [25,26] [zM 25 3,
  zl 26 25,
  zO 27 (.bin .gtr (.t 26) (zI 1048576))]
  (zc 27
  (zs [] [] [zK 10 (zB true)]
  .ret)
  .skip))
  (zs [] [] [zK 11 (zI 1048576)]
  (zs [28,29,30,169] [28,29,30] [zS 28 2 5,
  zM 29 11,
  zC 30 83 [28,29],
  zA 11 30]
  (.seq (zs [31,32] [31] [zM 31 11,
  zO 32 (.bin .lss (.t 31) (zI 0))]
  (zc 32
  (zs [] [] [zK 10 (zB true)]
  .ret)
  .skip))
  (zs [33,34,35,174] [33,34,35] [zM 33 1,
  zM 34 11,
  zC 35 101 [33,34],
  zA 11 35]
  (.seq (zs [36,37] [36] [zM 36 11,
  zO 37 (.bin .lss (.t 36) (zI 0))]
  (zc 37
  (zs [] [] [zK 10 (zB true)]
  .ret)
  .skip))
  (zs (zq 38 10 [12,178,180,182,184,186,151]) (zr 38 10) [zS 38 2 5,
  zC 39 85 [38],
  zM 40 1,
  zC 41 103 [40],
  zM 42 2,
  zC 43 76 [42],
  zM 44 3,
  zC 45 76 [44],
  zM 46 4,
  zC 47 222 [39,41,43,45,46],
  zO 12 (.alloc [(.bool false),(.int .i64 0),(.row () []),(.int .i64 0),(.row () [])]),
  zN (.store 5 (.t 12) (.t 47))]
  (zs [48,49,13,188,152] [48,49] [zS 48 2 5,
  zC 49 85 [48],
  zO 13 (.alloc [(.row () []),(.row () [])]),
  zN (.store 2 (.t 13) (.t 49))]
  (zs [50,51,190] [50,51] [zM 50 1,
  zC 51 103 [50],
  zA 14 51]
  (zs [52,53,192] [52,53] [zM 52 2,
  zC 53 76 [52],
  zA 15 53]
  (zs [54,55,194] [54,55] [zM 54 3,
  zC 55 76 [54],
  zA 16 55]
  (zs (zq 56 6 [17,200,156]) (zr 56 6) [zS 56 2 13,
  zM 57 14,
  zM 58 15,
  zM 59 16,
  zM 60 4,
  zC 61 204 [56,57,58,59,60],
  zO 17 (.alloc [(.bool false),(.int .i64 0),(.row () []),(.int .i64 0),(.row () [])]),
  zN (.store 5 (.t 17) (.t 61))]
  (.seq (zs (zq 62 4 [203]) [62,63,64] [zS 62 5 17,
  zS 63 5 12,
  zC 64 95 [62,63],
  zn 65 64]
  (zc 65
  (zs [] [] [zK 10 (zB false)]
  .ret)
  .skip))
  (.seq (.seq (.region true (zq 66 5 [207,208]) (zr 66 4) [zS 66 2 13,
  zS 67 2 5,
  zv (zC 68 85 [67]) [1],
  zv (zC 69 78 [66,68]) [0,2,1],
  zv (zn 70 69) [3,0,2,1]])
  (zc 70
  (zs [] [] [zK 10 (zB false)]
  .ret)
  .skip))
  (.seq (zs (zq 71 5 [212,213]) (zr 71 4) [zM 71 14,
  zM 72 1,
  zC 73 103 [72],
  zC 74 105 [71,73],
  zn 75 74]
  (zc 75
  (zs [] [] [zK 10 (zB false)]
  .ret)
  .skip))
  (.seq (zs (zq 76 5 [217,218]) (zr 76 4) [zM 76 15,
  zM 77 2,
  zC 78 76 [77],
  zC 79 79 [76,78],
  zn 80 79]
  (zc 80
  (zs [] [] [zK 10 (zB false)]
  .ret)
  .skip))
  (.seq (zs (zq 81 5 [222,223]) (zr 81 4) [zM 81 16,
  zM 82 3,
  zC 83 76 [82],
  zC 84 79 [81,83],
  zn 85 84]
  (zc 85
  (zs [] [] [zK 10 (zB false)]
  .ret)
  .skip))
  (zs [] [] [zK 18 (zI 1)]
  (zs [86,87,88,227] [86,87,88] [zS 86 2 13,
  zM 87 18,
  zC 88 1081 [86,87],
  zA 18 88]
  (zs [89,90,91,230] [89,90,91] [zM 89 14,
  zM 90 18,
  zC 91 1172 [89,90],
  zA 18 91]
  (zs [92,93,94,233] [92,93,94] [zM 92 15,
  zM 93 18,
  zC 94 1080 [92,93],
  zA 18 94]
  (zs [95,96,97,236] [95,96,97] [zM 95 16,
  zM 96 18,
  zC 97 1080 [95,96],
  zA 18 97]
  (.seq (zs (zq 98 8 [242]) (zr 98 7) [zM 98 18,
  zO 99 (.bin .lss (.t 98) (zI 0)),
  zM 100 99,
  zG 101 (.load true 5 (.t 17)) 100 false,
  zG 102 (.load true 5 (.t 12)) 100 false,
  zG 103 (.call 95 [(.t 101),(.t 102)]) 100 false,
  zG 104 (.un .not (.t 103)) 100 false,
  zO 105 (.pick (.t 100) (zB true) (.t 104))]
  (zc 105
  (zs [] [] [zK 10 (zB false)]
  .ret)
  .skip))
  (zs [] [] [zK 19 (zI 1)]
  (zs [106,107,108,247] [106,107,108] [zS 106 5 17,
  zM 107 19,
  zC 108 1224 [106,107],
  zA 19 108]
  (zs [] [] [zK 20 (zI 1)]
  (zs [109,110,111,250] [109,110,111] [zS 109 5 17,
  zM 110 20,
  zC 111 225 [109,110],
  zA 20 111]
  (.seq (zs [112,113] [112] [zM 112 20,
  zO 113 (.bin .lss (.t 112) (zI 0))]
  (zc 113
  (zs [] [] [zK 10 (zB false)]
  .ret)
  .skip))
  (.seq (zs [114,115,116] [114,115] [zM 114 20,
  zM 115 19,
  zb 116 .neq 114 115]
  (zc 116
  (zs [] [] [zK 10 (zB false)]
  .ret)
  .skip))
  (zs (zq 117 10 [21,257,259,261,263,265,160]) (zr 117 10) [zS 117 2 5,
  zC 118 85 [117],
  zM 119 1,
  zC 120 103 [119],
  zM 121 2,
  zC 122 76 [121],
  zM 123 3,
  zC 124 76 [123],
  zM 125 4,
  zC 126 204 [118,120,122,124,125],
  zO 21 (.alloc [(.bool false),(.int .i64 0),(.row () []),(.int .i64 0),(.row () [])]),
  zN (.store 5 (.t 21) (.t 126))]
  (.seq (zs (zq 127 4 [268]) [127,128,129] [zS 127 5 21,
  zS 128 5 12,
  zC 129 95 [127,128],
  zn 130 129]
  (zc 130
  (zs [] [] [zK 10 (zB false)]
  .ret)
  .skip))
  (zs [] [] [zK 20 (zI 1)]
  (zs [131,132,133,272] [131,132,133] [zS 131 5 17,
  zM 132 20,
  zC 133 225 [131,132],
  zA 20 133]
  (.seq (zs [134,135] [134] [zM 134 20,
  zO 135 (.bin .lss (.t 134) (zI 0))]
  (zc 135
  (zs [] [] [zK 10 (zB false)]
  .ret)
  .skip))
  (.seq (zs [136,137,138] [136,137] [zM 136 20,
  zM 137 19,
  zb 138 .neq 136 137]
  (zc 138
  (zs [] [] [zK 10 (zB false)]
  .ret)
  .skip))
  (zs [] [] [zK 10 (zB true)]
  .ret))))))))))))))))))))))))))))))))))))))⟩
def ir338:FnIr:=⟨0,2,10,[(4,none)],[],
  (zs [] [] [zK 4 (zI 0)]
  (.seq (zs [5,6,7] [5,6] [zM 5 1,
  zM 6 0,
  zb 7 .lss 5 6]
  (zc 7
  (zs [8] [8] [zM 8 1,
  zA 4 8]
  .ret)
  .skip))
  (zs [9] [9] [zM 9 0,
  zA 4 9]
  .ret)))⟩
def ir339:FnIr:=⟨0,2,10,[(4,none)],[],
  (zs [] [] [zK 4 (zI 0)]
  (.seq (zs [5,6,7] [5,6] [zM 5 1,
  zM 6 0,
  zb 7 .gtr 5 6]
  (zc 7
  (zs [8] [8] [zM 8 1,
  zA 4 8]
  .ret)
  .skip))
  (zs [9] [9] [zM 9 0,
  zA 4 9]
  .ret)))⟩
def ir226:FnIr:=⟨0,6,31,[(12,(some (true,5)))],[],
  (zs [6,12,37,43] [] [zO 6 (.box (.t 0)),
  zO 12 (.alloc [(.bool false),(.int .i64 0),(.row () []),(.int .i64 0),(.row () [])])]
  (.seq (zs [14,15] [14] [zM 14 5,
  zO 15 (.bin .geq (.t 14) (zI 3))]
  (zc 15
  (zs [16] [16] [zO 16 (.build [(.bool false),(.int .i64 0),(.row () []),(.int .i64 0),(.row () [])] [(3,1,(zI 3))]),
  zN (.store 5 (.t 12) (.t 16))]
  .ret)
  .skip))
  (zs (zq 17 6 [13,53,44]) (zr 17 6) [zS 17 2 6,
  zM 18 1,
  zM 19 2,
  zM 20 3,
  zM 21 4,
  zC 22 222 [17,18,19,20,21],
  zO 13 (.alloc [(.bool false),(.int .i64 0),(.row () []),(.int .i64 0),(.row () [])]),
  zN (.store 5 (.t 13) (.t 22))]
  (.seq (.region true (zq 23 7 [57,59]) (zr 23 7) [zF 23 3 13,
  zv (zL 24 23) [0],
  zM 25 5,
  zv (zO 26 (.call 339 [(zI 0),(.t 25)])) [2],
  zv (zb 27 .add 24 26) [1,0,3,2],
  zv (zO 28 (.call 338 [(zI 3),(.t 27)])) [4,1,0,3,2],
  zv (zF 29 3 13) [0,1,2,3,4,5],
  zv (zN (.store 1 (.t 29) (.t 28))) [6,0,1,2,3,4,5]])
  (zs [30] [30] [zS 30 5 13,
  zN (.store 5 (.t 12) (.t 30))]
  .ret)))))⟩
def ir203:FnIr:=⟨0,6,32,[(12,(some (true,5)))],[],
  (zs [6,12,38,44] [] [zO 6 (.box (.t 0)),
  zO 12 (.alloc [(.bool false),(.int .i64 0),(.row () []),(.int .i64 0),(.row () [])])]
  (.seq (zs [14,15] [14] [zM 14 5,
  zO 15 (.bin .geq (.t 14) (zI 3))]
  (zc 15
  (zs [16] [16] [zO 16 (.build [(.bool false),(.int .i64 0),(.row () []),(.int .i64 0),(.row () [])] [(3,1,(zI 3))]),
  zN (.store 5 (.t 12) (.t 16))]
  .ret)
  .skip))
  (zs (zq 17 6 [13,54,45]) (zr 17 6) [zS 17 2 6,
  zM 18 1,
  zM 19 2,
  zM 20 3,
  zM 21 4,
  zC 22 204 [17,18,19,20,21],
  zO 13 (.alloc [(.bool false),(.int .i64 0),(.row () []),(.int .i64 0),(.row () [])]),
  zN (.store 5 (.t 13) (.t 22))]
  (.seq (zs [23,24] [23] [zM 23 5,
  zO 24 (.bin .gtr (.t 23) (zI 0))]
  (zc 24
  (zR (zr 25 6) (zr 25 6) [zF 25 3 13,
  zL 26 25,
  zM 27 5,
  zb 28 .add 26 27,
  zO 29 (.min (.t 28) (zI 3)),
  zF 30 3 13,
  zN (.store 1 (.t 30) (.t 29))])
  .skip))
  (zs [31] [31] [zS 31 5 13,
  zN (.store 5 (.t 12) (.t 31))]
  .ret)))))⟩
def ir55:FnIr:=⟨0,6,144,[(12,none)],[],
  (zs [6,150] [] [zO 6 (.box (.t 0)),
  zK 12 (zB false)]
  (.seq (zs [24,25,26] [24,25] [zM 24 2,
  zl 25 24,
  zO 26 (.bin .gtr (.t 25) (zI 1048576))]
  (zc 26
  (zs [] [] [zK 12 (zB true)]
  .ret)
  .skip))
  (.seq (zs [27,28,29] [27,28] [zM 27 3,
  zl 28 27,
  zO 29 (.bin .gtr (.t 28) (zI 1048576))]
  (zc 29
  (zs [] [] [zK 12 (zB true)]
  .ret)
  .skip))
  (zs [] [] [zK 13 (zI 1048576)]
  (zs [30,31,32,176] [30,31,32] [zS 30 2 6,
  zM 31 13,
  zC 32 83 [30,31],
  zA 13 32]
  (.seq (zs [33,34] [33] [zM 33 13,
  zO 34 (.bin .lss (.t 33) (zI 0))]
  (zc 34
  (zs [] [] [zK 12 (zB true)]
  .ret)
  .skip))
  (zs [35,36,37,181] [35,36,37] [zM 35 1,
  zM 36 13,
  zC 37 101 [35,36],
  zA 13 37]
  (.seq (zs [38,39] [38] [zM 38 13,
  zO 39 (.bin .lss (.t 38) (zI 0))]
  (zc 39
  (zs [] [] [zK 12 (zB true)]
  .ret)
  .skip))
  (zs (zq 40 11 [14,185,187,189,191,194,158]) (zr 40 11) [zS 40 2 6,
  zC 41 85 [40],
  zM 42 1,
  zC 43 103 [42],
  zM 44 2,
  zC 45 76 [44],
  zM 46 3,
  zC 47 76 [46],
  zM 48 4,
  zM 49 5,
  zC 50 226 [41,43,45,47,48,49],
  zO 14 (.alloc [(.bool false),(.int .i64 0),(.row () []),(.int .i64 0),(.row () [])]),
  zN (.store 5 (.t 14) (.t 50))]
  (zs [51,52,15,196,159] [51,52] [zS 51 2 6,
  zC 52 85 [51],
  zO 15 (.alloc [(.row () []),(.row () [])]),
  zN (.store 2 (.t 15) (.t 52))]
  (zs [53,54,198] [53,54] [zM 53 1,
  zC 54 103 [53],
  zA 16 54]
  (zs [55,56,200] [55,56] [zM 55 2,
  zC 56 76 [55],
  zA 17 56]
  (zs [57,58,202] [57,58] [zM 57 3,
  zC 58 76 [57],
  zA 18 58]
  (zs (zq 59 7 [19,209,163]) (zr 59 7) [zS 59 2 15,
  zM 60 16,
  zM 61 17,
  zM 62 18,
  zM 63 4,
  zM 64 5,
  zC 65 203 [59,60,61,62,63,64],
  zO 19 (.alloc [(.bool false),(.int .i64 0),(.row () []),(.int .i64 0),(.row () [])]),
  zN (.store 5 (.t 19) (.t 65))]
  (.seq (zs (zq 66 4 [212]) [66,67,68] [zS 66 5 19,
  zS 67 5 14,
  zC 68 95 [66,67],
  zn 69 68]
  (zc 69
  (zs [] [] [zK 12 (zB false)]
  .ret)
  .skip))
  (.seq (.seq (.region true (zq 70 5 [216,217]) (zr 70 4) [zS 70 2 15,
  zS 71 2 6,
  zv (zC 72 85 [71]) [1],
  zv (zC 73 78 [70,72]) [0,2,1],
  zv (zn 74 73) [3,0,2,1]])
  (zc 74
  (zs [] [] [zK 12 (zB false)]
  .ret)
  .skip))
  (.seq (zs (zq 75 5 [221,222]) (zr 75 4) [zM 75 16,
  zM 76 1,
  zC 77 103 [76],
  zC 78 105 [75,77],
  zn 79 78]
  (zc 79
  (zs [] [] [zK 12 (zB false)]
  .ret)
  .skip))
  (.seq (zs (zq 80 5 [226,227]) (zr 80 4) [zM 80 17,
  zM 81 2,
  zC 82 76 [81],
  zC 83 79 [80,82],
  zn 84 83]
  (zc 84
  (zs [] [] [zK 12 (zB false)]
  .ret)
  .skip))
  (.seq (zs (zq 85 5 [231,232]) (zr 85 4) [zM 85 18,
  zM 86 3,
  zC 87 76 [86],
  zC 88 79 [85,87],
  zn 89 88]
  (zc 89
  (zs [] [] [zK 12 (zB false)]
  .ret)
  .skip))
  (zs [] [] [zK 20 (zI 1)]
  (zs [90,91,92,236] [90,91,92] [zS 90 2 15,
  zM 91 20,
  zC 92 1081 [90,91],
  zA 20 92]
  (zs [93,94,95,239] [93,94,95] [zM 93 16,
  zM 94 20,
  zC 95 1172 [93,94],
  zA 20 95]
  (zs [96,97,98,242] [96,97,98] [zM 96 17,
  zM 97 20,
  zC 98 1080 [96,97],
  zA 20 98]
  (zs [99,100,101,245] [99,100,101] [zM 99 18,
  zM 100 20,
  zC 101 1080 [99,100],
  zA 20 101]
  (.seq (zs (zq 102 8 [251]) (zr 102 7) [zM 102 20,
  zO 103 (.bin .lss (.t 102) (zI 0)),
  zM 104 103,
  zG 105 (.load true 5 (.t 19)) 104 false,
  zG 106 (.load true 5 (.t 14)) 104 false,
  zG 107 (.call 95 [(.t 105),(.t 106)]) 104 false,
  zG 108 (.un .not (.t 107)) 104 false,
  zO 109 (.pick (.t 104) (zB true) (.t 108))]
  (zc 109
  (zs [] [] [zK 12 (zB false)]
  .ret)
  .skip))
  (zs [] [] [zK 21 (zI 1)]
  (zs [110,111,112,256] [110,111,112] [zS 110 5 19,
  zM 111 21,
  zC 112 1224 [110,111],
  zA 21 112]
  (zs [] [] [zK 22 (zI 1)]
  (zs [113,114,115,259] [113,114,115] [zS 113 5 19,
  zM 114 22,
  zC 115 225 [113,114],
  zA 22 115]
  (.seq (zs [116,117] [116] [zM 116 22,
  zO 117 (.bin .lss (.t 116) (zI 0))]
  (zc 117
  (zs [] [] [zK 12 (zB false)]
  .ret)
  .skip))
  (.seq (zs [118,119,120] [118,119] [zM 118 22,
  zM 119 21,
  zb 120 .neq 118 119]
  (zc 120
  (zs [] [] [zK 12 (zB false)]
  .ret)
  .skip))
  (zs (zq 121 11 [23,266,268,270,272,275,167]) (zr 121 11) [zS 121 2 6,
  zC 122 85 [121],
  zM 123 1,
  zC 124 103 [123],
  zM 125 2,
  zC 126 76 [125],
  zM 127 3,
  zC 128 76 [127],
  zM 129 4,
  zM 130 5,
  zC 131 203 [122,124,126,128,129,130],
  zO 23 (.alloc [(.bool false),(.int .i64 0),(.row () []),(.int .i64 0),(.row () [])]),
  zN (.store 5 (.t 23) (.t 131))]
  (.seq (zs (zq 132 4 [278]) [132,133,134] [zS 132 5 23,
  zS 133 5 14,
  zC 134 95 [132,133],
  zn 135 134]
  (zc 135
  (zs [] [] [zK 12 (zB false)]
  .ret)
  .skip))
  (zs [] [] [zK 22 (zI 1)]
  (zs [136,137,138,282] [136,137,138] [zS 136 5 19,
  zM 137 22,
  zC 138 225 [136,137],
  zA 22 138]
  (.seq (zs [139,140] [139] [zM 139 22,
  zO 140 (.bin .lss (.t 139) (zI 0))]
  (zc 140
  (zs [] [] [zK 12 (zB false)]
  .ret)
  .skip))
  (.seq (zs [141,142,143] [141,142] [zM 141 22,
  zM 142 21,
  zb 143 .neq 141 142]
  (zc 143
  (zs [] [] [zK 12 (zB false)]
  .ret)
  .skip))
  (zs [] [] [zK 12 (zB true)]
  .ret))))))))))))))))))))))))))))))))))))))⟩
def tbl:List (Nat×FnIr):=[(227,ir227),(56,ir56),(101,ir101),(76,ir76),(58,ir58),(103,ir103),(79,ir79),(60,ir60),(105,ir105),(1080,ir1080),(1201,ir1201),(1081,ir1081),(1172,ir1172),(228,ir228),(285,ir285),(286,ir286),(230,ir230),(292,ir292),(149,ir149),(280,ir280),(179,ir179),(232,ir232),(354,ir354),(302,ir302),(287,ir287),(150,ir150),(1087,ir1087),(1224,ir1224),(257,ir257),(231,ir231),(271,ir271),(142,ir142),(255,ir255),(377,ir377),(336,ir336),(340,ir340),(233,ir233),(351,ir351),(352,ir352),(290,ir290),(258,ir258),(113,ir113),(229,ir229),(272,ir272),(291,ir291),(350,ir350),(273,ir273),(131,ir131),(264,ir264),(299,ir299),(288,ir288),(68,ir68),(358,ir358),(359,ir359),(310,ir310),(311,ir311),(69,ir69),(174,ir174),(347,ir347),(266,ir266),(261,ir261),(182,ir182),(185,ir185),(307,ir307),(164,ir164),(305,ir305),(165,ir165),(77,ir77),(171,ir171),(167,ir167),(186,ir186),(189,ir189),(184,ir184),(348,ir348),(268,ir268),(71,ir71),(120,ir120),(282,ir282),(283,ir283),(143,ir143),(127,ir127),(293,ir293),(151,ir151),(301,ir301),(160,ir160),(162,ir162),(256,ir256),(112,ir112),(306,ir306),(168,ir168),(173,ir173),(295,ir295),(279,ir279),(196,ir196),(210,ir210),(267,ir267),(119,ir119),(114,ir114),(349,ir349),(269,ir269),(341,ir341),(234,ir234),(235,ir235),(73,ir73),(121,ir121),(355,ir355),(304,ir304),(284,ir284),(144,ir144),(146,ir146),(118,ir118),(294,ir294),(152,ir152),(337,ir337),(223,ir223),(303,ir303),(161,ir161),(163,ir163),(180,ir180),(111,ir111),(356,ir356),(308,ir308),(357,ir357),(309,ir309),(169,ir169),(254,ir254),(211,ir211),(130,ir130),(192,ir192),(75,ir75),(166,ir166),(170,ir170),(198,ir198),(205,ir205),(208,ir208),(222,ir222),(204,ir204),(125,ir125),(88,ir88),(225,ir225),(321,ir321),(200,ir200),(78,ir78),(319,ir319),(197,ir197),(83,ir83),(320,ir320),(199,ir199),(85,ir85),(65,ir65),(95,ir95),(54,ir54),(338,ir338),(339,ir339),(226,ir226),(203,ir203),(55,ir55)]
def Tb (g:Nat):Option FnIr:=tbl.lookup g
theorem tb_227:Tb 227=some ir227:=rfl
theorem tb_56:Tb 56=some ir56:=rfl
theorem tb_101:Tb 101=some ir101:=rfl
theorem tb_76:Tb 76=some ir76:=rfl
theorem tb_58:Tb 58=some ir58:=rfl
theorem tb_103:Tb 103=some ir103:=rfl
theorem tb_79:Tb 79=some ir79:=rfl
theorem tb_60:Tb 60=some ir60:=rfl
theorem tb_105:Tb 105=some ir105:=rfl
theorem tb_1080:Tb 1080=some ir1080:=rfl
theorem tb_1201:Tb 1201=some ir1201:=rfl
theorem tb_1081:Tb 1081=some ir1081:=rfl
theorem tb_1172:Tb 1172=some ir1172:=rfl
theorem tb_228:Tb 228=some ir228:=rfl
theorem tb_285:Tb 285=some ir285:=rfl
theorem tb_286:Tb 286=some ir286:=rfl
theorem tb_230:Tb 230=some ir230:=rfl
theorem tb_292:Tb 292=some ir292:=rfl
theorem tb_149:Tb 149=some ir149:=rfl
theorem tb_280:Tb 280=some ir280:=rfl
theorem tb_179:Tb 179=some ir179:=rfl
theorem tb_232:Tb 232=some ir232:=rfl
theorem tb_354:Tb 354=some ir354:=rfl
theorem tb_302:Tb 302=some ir302:=rfl
theorem tb_287:Tb 287=some ir287:=rfl
theorem tb_150:Tb 150=some ir150:=rfl
theorem tb_1087:Tb 1087=some ir1087:=rfl
theorem tb_1224:Tb 1224=some ir1224:=rfl
theorem tb_257:Tb 257=some ir257:=rfl
theorem tb_231:Tb 231=some ir231:=rfl
theorem tb_271:Tb 271=some ir271:=rfl
theorem tb_142:Tb 142=some ir142:=rfl
theorem tb_255:Tb 255=some ir255:=rfl
theorem tb_377:Tb 377=some ir377:=rfl
theorem tb_336:Tb 336=some ir336:=rfl
theorem tb_340:Tb 340=some ir340:=rfl
theorem tb_233:Tb 233=some ir233:=rfl
theorem tb_351:Tb 351=some ir351:=rfl
theorem tb_352:Tb 352=some ir352:=rfl
theorem tb_290:Tb 290=some ir290:=rfl
theorem tb_258:Tb 258=some ir258:=rfl
theorem tb_113:Tb 113=some ir113:=rfl
theorem tb_229:Tb 229=some ir229:=rfl
theorem tb_272:Tb 272=some ir272:=rfl
theorem tb_291:Tb 291=some ir291:=rfl
theorem tb_350:Tb 350=some ir350:=rfl
theorem tb_273:Tb 273=some ir273:=rfl
theorem tb_131:Tb 131=some ir131:=rfl
theorem tb_264:Tb 264=some ir264:=rfl
theorem tb_299:Tb 299=some ir299:=rfl
theorem tb_288:Tb 288=some ir288:=rfl
theorem tb_68:Tb 68=some ir68:=rfl
theorem tb_358:Tb 358=some ir358:=rfl
theorem tb_359:Tb 359=some ir359:=rfl
theorem tb_310:Tb 310=some ir310:=rfl
theorem tb_311:Tb 311=some ir311:=rfl
theorem tb_69:Tb 69=some ir69:=rfl
theorem tb_174:Tb 174=some ir174:=rfl
theorem tb_347:Tb 347=some ir347:=rfl
theorem tb_266:Tb 266=some ir266:=rfl
theorem tb_261:Tb 261=some ir261:=rfl
theorem tb_182:Tb 182=some ir182:=rfl
theorem tb_185:Tb 185=some ir185:=rfl
theorem tb_307:Tb 307=some ir307:=rfl
theorem tb_164:Tb 164=some ir164:=rfl
theorem tb_305:Tb 305=some ir305:=rfl
theorem tb_165:Tb 165=some ir165:=rfl
theorem tb_77:Tb 77=some ir77:=rfl
theorem tb_171:Tb 171=some ir171:=rfl
theorem tb_167:Tb 167=some ir167:=rfl
theorem tb_186:Tb 186=some ir186:=rfl
theorem tb_189:Tb 189=some ir189:=rfl
theorem tb_184:Tb 184=some ir184:=rfl
theorem tb_348:Tb 348=some ir348:=rfl
theorem tb_268:Tb 268=some ir268:=rfl
theorem tb_71:Tb 71=some ir71:=rfl
theorem tb_120:Tb 120=some ir120:=rfl
theorem tb_282:Tb 282=some ir282:=rfl
theorem tb_283:Tb 283=some ir283:=rfl
theorem tb_143:Tb 143=some ir143:=rfl
theorem tb_127:Tb 127=some ir127:=rfl
theorem tb_293:Tb 293=some ir293:=rfl
theorem tb_151:Tb 151=some ir151:=rfl
theorem tb_301:Tb 301=some ir301:=rfl
theorem tb_160:Tb 160=some ir160:=rfl
theorem tb_162:Tb 162=some ir162:=rfl
theorem tb_256:Tb 256=some ir256:=rfl
theorem tb_112:Tb 112=some ir112:=rfl
theorem tb_306:Tb 306=some ir306:=rfl
theorem tb_168:Tb 168=some ir168:=rfl
theorem tb_173:Tb 173=some ir173:=rfl
theorem tb_295:Tb 295=some ir295:=rfl
theorem tb_279:Tb 279=some ir279:=rfl
theorem tb_196:Tb 196=some ir196:=rfl
theorem tb_210:Tb 210=some ir210:=rfl
theorem tb_267:Tb 267=some ir267:=rfl
theorem tb_119:Tb 119=some ir119:=rfl
theorem tb_114:Tb 114=some ir114:=rfl
theorem tb_349:Tb 349=some ir349:=rfl
theorem tb_269:Tb 269=some ir269:=rfl
theorem tb_341:Tb 341=some ir341:=rfl
theorem tb_234:Tb 234=some ir234:=rfl
theorem tb_235:Tb 235=some ir235:=rfl
theorem tb_73:Tb 73=some ir73:=rfl
theorem tb_121:Tb 121=some ir121:=rfl
theorem tb_355:Tb 355=some ir355:=rfl
theorem tb_304:Tb 304=some ir304:=rfl
theorem tb_284:Tb 284=some ir284:=rfl
theorem tb_144:Tb 144=some ir144:=rfl
theorem tb_146:Tb 146=some ir146:=rfl
theorem tb_118:Tb 118=some ir118:=rfl
theorem tb_294:Tb 294=some ir294:=rfl
theorem tb_152:Tb 152=some ir152:=rfl
theorem tb_337:Tb 337=some ir337:=rfl
theorem tb_223:Tb 223=some ir223:=rfl
theorem tb_303:Tb 303=some ir303:=rfl
theorem tb_161:Tb 161=some ir161:=rfl
theorem tb_163:Tb 163=some ir163:=rfl
theorem tb_180:Tb 180=some ir180:=rfl
theorem tb_111:Tb 111=some ir111:=rfl
theorem tb_356:Tb 356=some ir356:=rfl
theorem tb_308:Tb 308=some ir308:=rfl
theorem tb_357:Tb 357=some ir357:=rfl
theorem tb_309:Tb 309=some ir309:=rfl
theorem tb_169:Tb 169=some ir169:=rfl
theorem tb_254:Tb 254=some ir254:=rfl
theorem tb_211:Tb 211=some ir211:=rfl
theorem tb_130:Tb 130=some ir130:=rfl
theorem tb_192:Tb 192=some ir192:=rfl
theorem tb_75:Tb 75=some ir75:=rfl
theorem tb_166:Tb 166=some ir166:=rfl
theorem tb_170:Tb 170=some ir170:=rfl
theorem tb_198:Tb 198=some ir198:=rfl
theorem tb_205:Tb 205=some ir205:=rfl
theorem tb_208:Tb 208=some ir208:=rfl
theorem tb_222:Tb 222=some ir222:=rfl
theorem tb_204:Tb 204=some ir204:=rfl
theorem tb_125:Tb 125=some ir125:=rfl
theorem tb_88:Tb 88=some ir88:=rfl
theorem tb_225:Tb 225=some ir225:=rfl
theorem tb_321:Tb 321=some ir321:=rfl
theorem tb_200:Tb 200=some ir200:=rfl
theorem tb_78:Tb 78=some ir78:=rfl
theorem tb_319:Tb 319=some ir319:=rfl
theorem tb_197:Tb 197=some ir197:=rfl
theorem tb_83:Tb 83=some ir83:=rfl
theorem tb_320:Tb 320=some ir320:=rfl
theorem tb_199:Tb 199=some ir199:=rfl
theorem tb_85:Tb 85=some ir85:=rfl
theorem tb_65:Tb 65=some ir65:=rfl
theorem tb_95:Tb 95=some ir95:=rfl
theorem tb_54:Tb 54=some ir54:=rfl
theorem tb_338:Tb 338=some ir338:=rfl
theorem tb_339:Tb 339=some ir339:=rfl
theorem tb_226:Tb 226=some ir226:=rfl
theorem tb_203:Tb 203=some ir203:=rfl
theorem tb_55:Tb 55=some ir55:=rfl
end Go.Vm
