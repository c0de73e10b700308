/- The code of the functions that the law reaches, as data. -/
import Derived.Test.YtmojgceacpclpaaVmF
set_option maxHeartbeats 4000000
set_option maxRecDepth 10000
set_option linter.unusedVariables false
set_option linter.unusedSimpArgs false
namespace Go.Vm
def ir108 : FnIr := ⟨0, 1, 6, [(2, none)], [],
  (zs [] [] [zK 2 (zB false)]
  (zs [3,4,5] [3,4,5] [zM 3 0,
  zl 4 3,
  zO 5 (.bin .gtr (.t 4) (zI 1048576)),
  zA 2 5]
  .ret))⟩
def ir246 : FnIr := ⟨0, 1, 32, [(2, none)], [],
  (zs [] [] [zO 2 (.clear)]
  (zs [5,6,7] [5,6,7] [zM 5 0,
  zl 6 5,
  zO 7 (.bin .add (zI 193017) (.t 6)),
  zA 3 7]
  (.seq (zs [] [] [zK 4 (zI 0)]
  (.block 0 (.loop (.seq (zs (zr 8 8) (zr 8 7) [zM 8 4,
  zM 9 0,
  zl 10 9,
  zb 11 .lss 8 10,
  zM 12 11,
  zG 13 (.move (.t 4)) 12 true,
  zG 14 (.bin .lss (.t 13) (zI 4000)) 12 true,
  zO 15 (.pick (.t 12) (.t 14) (zB false))]
  (zc 15
  .skip
  (.exit 0)))
  (.seq (.block 1 (zR (zr 18 10) (zr 18 10) [zM 18 3,
  zO 19 (.bin .mul (.t 18) (zI 137)),
  zM 20 0,
  zM 21 4,
  zp 22 1 20 21,
  zL 23 22,
  zO 24 (.conv .i64 (.t 23)),
  zb 25 .add 19 24,
  zO 26 (.bin .add (.t 25) (zI 11)),
  zO 27 (.bin .and (.t 26) (zI 1073741823)),
  zA 3 27]))
  (zR [16,17] [16,17] [zM 16 4,
  zO 17 (.bin .add (.t 16) (zI 1)),
  zA 4 17]))))))
  (zs (zq 28 4 [63]) (zr 28 4) [zM 28 0,
  zM 29 3,
  zO 30 (.build [(.row () []), (.int .i64 0), (.int .i64 0)] [(0, 1, (.t 28)), (2, 1, (.t 29))]),
  zO 31 (.box (.t 30)),
  zA 2 31]
  .ret))))⟩
def ir341 : FnIr := ⟨0, 2, 19, [(4, none)], [],
  (zs [] [] [zK 4 (zI 0)]
  (.seq (zs [6,7,8] [6] [zM 6 0,
  zl 7 6,
  zO 8 (.move (zI 0))]
  (.block 0 (.loop (zs [9] [] [zb 9 .lss 8 7]
  (.seq (zc 9
  .skip
  (.exit 0))
  (.seq (.block 1 (zs [10] [10] [zM 10 8,
  zA 5 10]
  (zs (zq 11 6 [35]) (zr 11 5) [zM 11 1,
  zM 12 0,
  zM 13 5,
  zp 14 1 12 13,
  zL 15 14,
  zO 16 (.callv (.t 11) [(.t 15)])]
  (zc 16
  (zs [17] [17] [zM 17 5,
  zA 4 17]
  .ret)
  .skip))))
  (zR [18] [18] [zO 18 (.bin .add (.t 8) (zI 1)),
  zM 8 18])))))))
  (zs [] [] [zK 4 (zI (-1))]
  .ret)))⟩
def ir234 : FnIr := ⟨0, 2, 9, [(4, none)], [],
  (zs [] [] [zK 4 (zB false)]
  (zs (zq 5 4 [16]) (zr 5 4) [zM 5 0,
  zM 6 1,
  zC 7 341 [5,6],
  zO 8 (.bin .geq (.t 7) (zI 0)),
  zA 4 8]
  .ret))⟩
def ir229 : FnIr := ⟨0, 2, 26, [(4, none)], [],
  (zs [] [] [zK 4 (zB false)]
  (.seq (zs (zr 6 5) (zr 6 4) [zM 6 0,
  zl 7 6,
  zM 8 1,
  zl 9 8,
  zb 10 .neq 7 9]
  (zc 10
  (zs [] [] [zK 4 (zB false)]
  .ret)
  .skip))
  (.seq (zs [11,12,13] [11] [zM 11 0,
  zl 12 11,
  zO 13 (.move (zI 0))]
  (.block 0 (.loop (zs [14] [] [zb 14 .lss 13 12]
  (.seq (zc 14
  .skip
  (.exit 0))
  (.seq (.block 1 (zs [15] [15] [zM 15 13,
  zA 5 15]
  (.seq (.region true (zr 16 9) (zr 16 8) [zM 16 0,
  zM 17 5,
  zv (zp 18 1 16 17) [0,1],
  zv (zL 19 18) [2,0,1],
  zM 20 1,
  zM 21 5,
  zv (zp 22 1 20 21) [4,5],
  zv (zL 23 22) [6,4,5],
  zv (zb 24 .neq 19 23) [3,2,0,1,7,6,4,5]])
  (zc 24
  (zs [] [] [zK 4 (zB false)]
  .ret)
  .skip))))
  (zR [25] [25] [zO 25 (.bin .add (.t 13) (zI 1)),
  zM 13 25])))))))
  (zs [] [] [zK 4 (zB true)]
  .ret))))⟩
def ir374 : FnIr := ⟨0, 2, 7, [(3, none)], [],
  (zs [] [] [zK 3 (zB false)]
  (zs [4,5,6,13] [4,5,6] [zM 4 0,
  zL 5 1,
  zC 6 229 [4,5],
  zA 3 6]
  .ret))⟩
def ir230 : FnIr := ⟨0, 3, 15, [(6, none)], [],
  (zs [] [] [zK 6 (zB false)]
  (zs (zr 7 8) (zr 7 8) [zM 7 0,
  zM 8 1,
  zb 9 .geq 7 8,
  zM 10 9,
  zG 11 (.move (.t 0)) 10 true,
  zG 12 (.move (.t 2)) 10 true,
  zG 13 (.bin .leq (.t 11) (.t 12)) 10 true,
  zO 14 (.pick (.t 10) (.t 13) (zB false)),
  zA 6 14]
  .ret))⟩
def ir285 : FnIr := ⟨0, 2, 18, [(4, none)], [],
  (zs [] [] [zK 4 (zB false)]
  (.seq (zs [] [] [zK 5 (zI 0)]
  (.block 0 (.loop (.seq (zs (zr 6 4) [6,7,8] [zM 6 5,
  zM 7 0,
  zl 8 7,
  zb 9 .lss 6 8]
  (zc 9
  .skip
  (.exit 0)))
  (.seq (.block 1 (zs (zr 12 6) (zr 12 5) [zM 12 0,
  zM 13 5,
  zp 14 1 12 13,
  zL 15 14,
  zM 16 1,
  zb 17 .eql 15 16]
  (zc 17
  (zs [] [] [zK 4 (zB true)]
  .ret)
  .skip)))
  (zR [10,11] [10,11] [zM 10 5,
  zO 11 (.bin .add (.t 10) (zI 1)),
  zA 5 11]))))))
  (zs [] [] [zK 4 (zB false)]
  .ret)))⟩
def ir331 : FnIr := ⟨0, 1, 44, [(2, none)], [],
  (zs [] [] [zK 2 zE]
  (zs [7,8] [7,8] [zO 7 (.bslice [(.int .i64 0)] 2 [(0, (zI 0)), (1, (zI 0))]),
  zO 8 (.bslice [(.row () [])] 1 [(0, (.t 7))]),
  zA 3 8]
  (.seq (zs [] [] [zK 4 (zI 0)]
  (.block 0 (.loop (.seq (zs (zr 9 4) [9,10,11] [zM 9 4,
  zM 10 3,
  zl 11 10,
  zb 12 .lss 9 11]
  (zc 12
  .skip
  (.exit 0)))
  (.seq (.block 1 (.seq (.region true (zq 15 16 [72]) (zr 15 13) [zM 15 0,
  zM 16 3,
  zM 17 4,
  zv (zp 18 1 16 17) [1,2],
  zv (zL 19 18) [3,1,2],
  zv (zO 20 (.iaddr 1 (.t 19) (zI 0))) [4,3,1,2],
  zv (zL 21 20) [5,4,3,1,2],
  zM 22 3,
  zM 23 4,
  zv (zp 24 1 22 23) [7,8],
  zv (zL 25 24) [9,7,8],
  zv (zO 26 (.iaddr 1 (.t 25) (zI 1))) [10,9,7,8],
  zv (zL 27 26) [11,10,9,7,8],
  zv (zO 28 (.callv (.t 15) [(.t 21), (.t 27)])) [0,6,5,4,3,1,2,12,11,10,9,7,8],
  zv (zl 29 28) [13,0,6,5,4,3,1,2,12,11,10,9,7,8],
  zO 30 (.move (zI 0))])
  (.block 2 (.loop (zs [31] [] [zb 31 .lss 30 29]
  (.seq (zc 31
  .skip
  (.exit 2))
  (.seq (.block 3 (zs [32,33,6,50] [32,33] [zp 32 1 28 30,
  zL 33 32,
  zO 6 (.alloc [(.row () [])]),
  zN (.store 1 (.t 6) (.t 33))]
  (zs (zq 34 4 [80]) [34,35,36] [zM 34 3,
  zO 35 (.mkfn 374 [6]),
  zC 36 234 [34,35],
  zn 37 36]
  (zc 37
  (zR (zr 38 4) (zr 38 4) [zM 38 3,
  zL 39 6,
  zO 40 (.bslice [(.row () [])] 1 [(0, (.t 39))]),
  zO 41 (.append 1 (.t 38) (.t 40)),
  zA 3 41])
  .skip))))
  (zR [42] [42] [zO 42 (.bin .add (.t 30) (zI 1)),
  zM 30 42]))))))))
  (zR [13,14] [13,14] [zM 13 4,
  zO 14 (.bin .add (.t 13) (zI 1)),
  zA 4 14]))))))
  (zs [43] [43] [zM 43 3,
  zA 2 43]
  .ret))))⟩
def ir366 : FnIr := ⟨0, 4, 40, [(8, none)], [],
  (zs [4,44] [] [zO 4 (.box (.t 0)),
  zK 8 (zI 0)]
  (.seq (zs [] [] [zK 9 (zI 0)]
  (.block 0 (.loop (.seq (zs (zr 11 5) (zr 11 4) [zM 11 9,
  zF 12 2 4,
  zL 13 12,
  zl 14 13,
  zb 15 .lss 11 14]
  (zc 15
  .skip
  (.exit 0)))
  (.seq (.block 1 (zs (zq 18 5 [10,50]) (zr 18 5) [zF 18 2 4,
  zL 19 18,
  zM 20 9,
  zp 21 4 19 20,
  zS 22 4 21,
  zO 10 (.alloc [(.int .i64 0), (.bool false), (.int .i64 0), (.int .i64 0)]),
  zN (.store 4 (.t 10) (.t 22))]
  (zs (zr 23 16) (zr 23 15) [zF 23 0 10,
  zL 24 23,
  zM 25 1,
  zb 26 .eql 24 25,
  zM 27 26,
  zG 28 (.faddr 1 (.t 10)) 27 true,
  zG 29 (.load false 1 (.t 28)) 27 true,
  zG 30 (.move (.t 2)) 27 true,
  zG 31 (.beq false (.t 29) (.t 30)) 27 true,
  zO 32 (.pick (.t 27) (.t 31) (zB false)),
  zM 33 32,
  zG 34 (.faddr 2 (.t 10)) 33 true,
  zG 35 (.load false 1 (.t 34)) 33 true,
  zG 36 (.move (.t 3)) 33 true,
  zG 37 (.bin .eql (.t 35) (.t 36)) 33 true,
  zO 38 (.pick (.t 33) (.t 37) (zB false))]
  (zc 38
  (zs [39] [39] [zM 39 9,
  zA 8 39]
  .ret)
  .skip))))
  (zR [16,17] [16,17] [zM 16 9,
  zO 17 (.bin .add (.t 16) (zI 1)),
  zA 9 17]))))))
  (zs [] [] [zK 8 (zI (-1))]
  .ret)))⟩
def ir3361 : FnIr := ⟨0, 1, 58, [(2, none)], [.mbox],
  (zs [] [] [zK 2 (zI 0)]
  (zs (zr 4 9) (zr 4 9) [zM 4 0,
  zM 5 0,
  zO 6 (.nilchk (.t 5)),
  zF 7 2 6,
  zL 8 7,
  zO 9 (.bin .mul (.t 8) (zI 6364136223846793005)),
  zO 10 (.bin .add (.t 9) (zI 1442695040888963407)),
  zO 11 (.nilchk (.t 4)),
  zF 12 2 11,
  zN (.store 1 (.t 12) (.t 10))]
  (.seq (.region true (zr 13 12) (zr 13 12) [zM 13 0,
  zv (zO 14 (.nilchk (.t 13))) [0],
  zv (zF 15 2 14) [1,0],
  zv (zL 16 15) [2,1,0],
  zv (zO 17 (.bin .shr (.t 16) (.c false [(.int .u64 33)]))) [3,2,1,0],
  zM 18 0,
  zv (zO 19 (.nilchk (.t 18))) [5],
  zv (zF 20 2 19) [6,5],
  zv (zL 21 20) [7,6,5],
  zv (zO 22 (.bin .shr (.t 21) (.c false [(.int .u64 47)]))) [8,7,6,5],
  zv (zb 23 .xor 17 22) [4,3,2,1,0,9,8,7,6,5],
  zv (zO 24 (.bin .and (.t 23) (zI 255))) [10,4,3,2,1,0,9,8,7,6,5],
  zv (zA 3 24) [11,10,4,3,2,1,0,9,8,7,6,5]])
  (.seq (.seq (.region true (zr 25 10) (zr 25 9) [zM 25 0,
  zv (zO 26 (.nilchk (.t 25))) [0],
  zv (zF 27 1 26) [1,0],
  zv (zL 28 27) [2,1,0],
  zM 29 0,
  zv (zO 30 (.nilchk (.t 29))) [4],
  zv (zF 31 0 30) [5,4],
  zv (zL 32 31) [6,5,4],
  zv (zl 33 32) [7,6,5,4],
  zv (zb 34 .lss 28 33) [3,2,1,0,8,7,6,5,4]])
  (zc 34
  (.seq (.region true (zr 35 14) (zr 35 14) [zM 35 3,
  zM 36 0,
  zv (zO 37 (.nilchk (.t 36))) [1],
  zv (zF 38 0 37) [2,1],
  zv (zL 39 38) [3,2,1],
  zM 40 0,
  zv (zO 41 (.nilchk (.t 40))) [5],
  zv (zF 42 1 41) [6,5],
  zv (zL 43 42) [7,6,5],
  zv (zp 44 1 39 43) [4,3,2,1,8,7,6,5],
  zv (zL 45 44) [9,4,3,2,1,8,7,6,5],
  zv (zO 46 (.conv .i64 (.t 45))) [10,9,4,3,2,1,8,7,6,5],
  zv (zb 47 .add 35 46) [0,11,10,9,4,3,2,1,8,7,6,5],
  zv (zO 48 (.bin .and (.t 47) (zI 255))) [12,0,11,10,9,4,3,2,1,8,7,6,5],
  zv (zA 3 48) [13,12,0,11,10,9,4,3,2,1,8,7,6,5]])
  (zR (zr 49 8) (zr 49 8) [zM 49 0,
  zM 50 0,
  zO 51 (.nilchk (.t 50)),
  zF 52 1 51,
  zL 53 52,
  zO 54 (.bin .add (.t 53) (zI 1)),
  zO 55 (.nilchk (.t 49)),
  zF 56 1 55,
  zN (.store 1 (.t 56) (.t 54))]))
  .skip))
  (zs [57] [57] [zM 57 3,
  zA 2 57]
  .ret)))))⟩
def ir3317 : FnIr := ⟨0, 2, 31, [(4, none)], [.mbox],
  (zs [] [] [zK 4 (zI 0)]
  (.seq (zs [8,9] [8] [zM 8 1,
  zO 9 (.bin .leq (.t 8) (zI 0))]
  (zc 9
  (zs [] [] [zK 4 (zI 0)]
  .ret)
  .skip))
  (.seq (zs [10,11] [10] [zM 10 1,
  zO 11 (.bin .leq (.t 10) (zI 256))]
  (zc 11
  (zs (zq 12 4 [44]) (zr 12 4) [zM 12 0,
  zC 13 3361 [12],
  zM 14 1,
  zb 15 .rem 13 14,
  zA 4 15]
  .ret)
  .skip))
  (zs [16,17,48] [16,17] [zM 16 0,
  zC 17 3361 [16],
  zA 5 17]
  (zs [18,19,50] [18,19] [zM 18 0,
  zC 19 3361 [18],
  zA 6 19]
  (zs [20,21,52] [20,21] [zM 20 0,
  zC 21 3361 [20],
  zA 7 21]
  (zs (zr 22 9) (zr 22 9) [zM 22 5,
  zO 23 (.bin .mul (.t 22) (zI 65536)),
  zM 24 6,
  zO 25 (.bin .mul (.t 24) (zI 256)),
  zb 26 .add 23 25,
  zM 27 7,
  zb 28 .add 26 27,
  zM 29 1,
  zb 30 .rem 28 29,
  zA 4 30]
  .ret)))))))⟩
def ir3252 : FnIr := ⟨0, 2, 12, [(4, none)], [.mbox],
  (zs [] [] [zK 4 (zI 0)]
  (zs (zq 5 7 [21]) (zr 5 7) [zM 5 1,
  zM 6 0,
  zM 7 1,
  zl 8 7,
  zC 9 3317 [6,8],
  zp 10 1 5 9,
  zL 11 10,
  zA 4 11]
  .ret))⟩
def ir345 : FnIr := ⟨0, 2, 47, [(4, none)], [],
  (zs [] [] [zK 4 zE]
  (zs [] [] [zK 5 (zI 0)]
  (.seq (.block 0 (.loop (.seq (zs (zr 6 12) (zr 6 11) [zM 6 5,
  zM 7 0,
  zl 8 7,
  zb 9 .lss 6 8,
  zM 10 9,
  zG 11 (.move (.t 0)) 10 true,
  zG 12 (.move (.t 5)) 10 true,
  zG 13 (.iaddr 1 (.t 11) (.t 12)) 10 true,
  zG 14 (.load false 1 (.t 13)) 10 true,
  zG 15 (.move (.t 1)) 10 true,
  zG 16 (.bin .lss (.t 14) (.t 15)) 10 true,
  zO 17 (.pick (.t 10) (.t 16) (zB false))]
  (zc 17
  .skip
  (.exit 0)))
  (.block 1 (zR [18,19] [18,19] [zM 18 5,
  zO 19 (.bin .add (.t 18) (zI 1)),
  zA 5 19])))))
  (.seq (zs (zr 20 12) (zr 20 11) [zM 20 5,
  zM 21 0,
  zl 22 21,
  zb 23 .lss 20 22,
  zM 24 23,
  zG 25 (.move (.t 0)) 24 true,
  zG 26 (.move (.t 5)) 24 true,
  zG 27 (.iaddr 1 (.t 25) (.t 26)) 24 true,
  zG 28 (.load false 1 (.t 27)) 24 true,
  zG 29 (.move (.t 1)) 24 true,
  zG 30 (.bin .eql (.t 28) (.t 29)) 24 true,
  zO 31 (.pick (.t 24) (.t 30) (zB false))]
  (zc 31
  (zs [32,33,34] [32,33,34] [zO 32 (.bslice [(.int .i64 0)] 0 []),
  zM 33 0,
  zO 34 (.append 1 (.t 32) (.t 33)),
  zA 4 34]
  .ret)
  .skip))
  (.seq (.region true (zr 35 12) (zr 35 12) [zO 35 (.bslice [(.int .i64 0)] 0 []),
  zM 36 0,
  zM 37 5,
  zv (zO 38 (.slice 1 (.t 36) none (some (.t 37)))) [1,2],
  zv (zO 39 (.append 1 (.t 35) (.t 38))) [0,3,1,2],
  zM 40 1,
  zv (zO 41 (.bslice [(.int .i64 0)] 1 [(0, (.t 40))])) [5],
  zv (zO 42 (.append 1 (.t 39) (.t 41))) [4,0,3,1,2,6,5],
  zM 43 0,
  zM 44 5,
  zv (zO 45 (.slice 1 (.t 43) (some (.t 44)) none)) [8,9],
  zv (zO 46 (.append 1 (.t 42) (.t 45))) [7,4,0,3,1,2,6,5,10,8,9],
  zv (zA 4 46) [11,7,4,0,3,1,2,6,5,10,8,9]])
  .ret)))))⟩
def ir3250 : FnIr := ⟨0, 2, 9, [(4, none)], [.mbox],
  (zs [] [] [zK 4 (zB false)]
  (zs (zq 5 4 [16]) (zr 5 4) [zM 5 0,
  zM 6 1,
  zC 7 3317 [5,6],
  zO 8 (.bin .eql (.t 7) (zI 0)),
  zA 4 8]
  .ret))⟩
def ir3363 : FnIr := ⟨0, 1, 67, [(2, (some (true, 3)))], [.mbox],
  (zs [2,69] [] [zO 2 (.alloc [(.int .i64 0), (.row () []), (.row () [])])]
  (zs (zq 9 4 [3,77,70]) (zr 9 4) [zM 9 0,
  zO 10 (.call 3317 [(.t 9), (zI 4)]),
  zO 11 (.bin .add (zI 1) (.t 10)),
  zO 12 (.build [(.int .i64 0), (.row () []), (.row () [])] [(0, 1, (.t 11))]),
  zO 3 (.alloc [(.int .i64 0), (.row () []), (.row () [])]),
  zN (.store 3 (.t 3) (.t 12))]
  (.seq (zs [] [] [zK 4 (zI 0)]
  (.block 0 (.loop (.seq (zs (zr 13 4) [13,14,15] [zM 13 4,
  zF 14 0 3,
  zL 15 14,
  zb 16 .lss 13 15]
  (zc 16
  .skip
  (.exit 0)))
  (.seq (.block 1 (zs [19,20,87] [19,20] [zM 19 0,
  zO 20 (.call 3250 [(.t 19), (zI 2)]),
  zA 5 20]
  (zs [21,22,89] [21,22] [zM 21 0,
  zO 22 (.call 3317 [(.t 21), (zI 3)]),
  zA 6 22]
  (.seq (zs [23,24] [23] [zM 23 4,
  zO 24 (.bin .eql (.t 23) (zI 0))]
  (zc 24
  (zR [25,26,27,93] [25,26,27] [zM 25 0,
  zO 26 (.call 3317 [(.t 25), (zI 2)]),
  zO 27 (.bin .add (zI 1) (.t 26)),
  zA 6 27])
  .skip))
  (.seq (zs [] [] [zK 7 (zI 0)]
  (.block 2 (.loop (.seq (zs [28,29,30] [28,29] [zM 28 7,
  zM 29 6,
  zb 30 .lss 28 29]
  (zc 30
  .skip
  (.exit 2)))
  (.seq (.block 3 (.seq (.region true (zq 33 9 [8,103,107,75]) (zr 33 9) [zM 33 4,
  zM 34 5,
  zM 35 0,
  zv (zO 36 (.call 3317 [(.t 35), (zI 3)])) [2],
  zM 37 0,
  zF 38 0 3,
  zv (zL 39 38) [5],
  zv (zC 40 3317 [37,39]) [4,6,5,3,2],
  zv (zO 41 (.build [(.int .i64 0), (.bool false), (.int .i64 0), (.int .i64 0)] [(0, 1, (.t 33)), (1, 1, (.t 34)), (2, 1, (.t 36)), (3, 1, (.t 40))])) [0,1,3,2,7,4,6,5],
  zO 8 (.alloc [(.int .i64 0), (.bool false), (.int .i64 0), (.int .i64 0)]),
  zv (zN (.store 4 (.t 8) (.t 41))) [9,8,0,1,3,2,7,4,6,5]])
  (zs (zq 42 7 [114]) (zr 42 6) [zS 42 3 3,
  zM 43 4,
  zM 44 5,
  zF 45 2 8,
  zL 46 45,
  zC 47 366 [42,43,44,46],
  zO 48 (.bin .lss (.t 47) (zI 0))]
  (zc 48
  (zR (zr 49 6) (zr 49 6) [zF 49 2 3,
  zL 50 49,
  zS 51 4 8,
  zO 52 (.bslice [(.int .i64 0), (.bool false), (.int .i64 0), (.int .i64 0)] 1 [(0, (.t 51))]),
  zO 53 (.append 4 (.t 50) (.t 52)),
  zF 54 2 3,
  zN (.store 1 (.t 54) (.t 53))])
  .skip))))
  (zR [31,32] [31,32] [zM 31 7,
  zO 32 (.bin .add (.t 31) (zI 1)),
  zA 7 32]))))))
  (.region true (zq 55 11 [128]) (zr 55 11) [zF 55 1 3,
  zv (zL 56 55) [0],
  zM 57 6,
  zv (zO 58 (.bin .eql (.t 57) (zI 0))) [2],
  zv (zM 59 58) [3,2],
  zv (zG 60 (.move (.t 0)) 59 false) [4,3,2],
  zv (zG 61 (.call 3250 [(.t 60), (zI 4)]) 59 false) [5,4,3,2],
  zv (zO 62 (.pick (.t 59) (zB true) (.t 61))) [4,3,2,6,5],
  zv (zO 63 (.bslice [(.bool false)] 1 [(0, (.t 62))])) [7,4,3,2,6,5],
  zv (zO 64 (.append 1 (.t 56) (.t 63))) [1,0,8,7,4,3,2,6,5],
  zv (zF 65 1 3) [0,1,2,3,4,5,6,7,8,9],
  zv (zN (.store 1 (.t 65) (.t 64))) [10,0,1,2,3,4,5,6,7,8,9]]))))))
  (zR [17,18] [17,18] [zM 17 4,
  zO 18 (.bin .add (.t 17) (zI 1)),
  zA 4 18]))))))
  (zs [66] [66] [zS 66 3 3,
  zN (.store 3 (.t 2) (.t 66))]
  .ret))))⟩
def ir217 : FnIr := ⟨0, 1, 36, [(2, (some (true, 3)))], [],
  (zs [1,2,37,38] [] [zO 1 (.box (.t 0)),
  zO 2 (.alloc [(.int .i64 0), (.row () []), (.row () [])])]
  (.seq (.region true (zq 5 11 [3,39]) (zr 5 11) [zF 5 0 1,
  zv (zL 6 5) [0],
  zO 7 (.bslice [(.bool false)] 0 []),
  zF 8 1 1,
  zv (zL 9 8) [3],
  zv (zO 10 (.append 1 (.t 7) (.t 9))) [2,4,3],
  zO 11 (.bslice [(.int .i64 0), (.bool false), (.int .i64 0), (.int .i64 0)] 0 []),
  zF 12 2 1,
  zv (zL 13 12) [7],
  zv (zO 14 (.append 4 (.t 11) (.t 13))) [6,8,7,5,2,4,3],
  zv (zO 15 (.build [(.int .i64 0), (.row () []), (.row () [])] [(0, 1, (.t 6)), (1, 1, (.t 10)), (2, 1, (.t 14))])) [1,0,5,2,4,3,9,6,8,7],
  zO 3 (.alloc [(.int .i64 0), (.row () []), (.row () [])]),
  zv (zN (.store 3 (.t 3) (.t 15))) [11,10,1,0,5,2,4,3,9,6,8,7]])
  (.seq (zs (zr 16 4) [16,17] [zF 16 2 3,
  zL 17 16,
  zl 18 17,
  zO 19 (.move (zI 0))]
  (.block 0 (.loop (zs [20] [] [zb 20 .lss 19 18]
  (.seq (zc 20
  .skip
  (.exit 0))
  (.seq (.block 1 (zs [21] [21] [zM 21 19,
  zA 4 21]
  (.region true (zr 22 12) (zr 22 12) [zF 22 2 3,
  zv (zL 23 22) [0],
  zM 24 4,
  zF 25 2 3,
  zv (zL 26 25) [3],
  zM 27 4,
  zv (zp 28 4 26 27) [4,3,5],
  zv (zF 29 1 28) [6,4,3,5],
  zv (zL 30 29) [7,6,4,3,5],
  zv (zn 31 30) [8,7,6,4,3,5],
  zv (zp 32 4 23 24) [1,0,2,3,4,5,6,7,8,9],
  zv (zF 33 1 32) [10,1,0,2,3,4,5,6,7,8,9],
  zv (zN (.rstore 1 (.t 33) (.t 31))) [11,10,1,0,2,3,4,5,6,7,8,9]])))
  (zR [34] [34] [zO 34 (.bin .add (.t 19) (zI 1)),
  zM 19 34])))))))
  (zs [35] [35] [zS 35 3 3,
  zN (.store 3 (.t 2) (.t 35))]
  .ret))))⟩
def ir2346 : FnIr := ⟨3, 1, 11, [], [.mrow],
  (zs [3,4] [3,4] [zM 3 0,
  zl 4 3,
  zA 2 4]
  (zR (zq 5 6 [20,21]) (zr 5 6) [zM 5 0,
  zM 6 2,
  zM 7 2,
  zO 8 (.conv .u64 (.t 7)),
  zC 9 379 [8],
  zO 10 (.call 2378 [(.t 5), (zI 0), (.t 6), (.t 9)])]))⟩
def ir376 : FnIr := ⟨0, 1, 61, [(2, none)], [],
  (zs [] [] [zK 2 zE]
  (.seq (zs [6,7,8] [6,7] [zM 6 0,
  zl 7 6,
  zO 8 (.bin .lss (.t 7) (zI 2))]
  (zc 8
  (zs [9] [9] [zM 9 0,
  zA 2 9]
  .ret)
  .skip))
  (.seq (zs [] [] [zK 3 (zI 1)]
  (.block 0 (.loop (.seq (zs (zr 10 4) [10,11,12] [zM 10 3,
  zM 11 0,
  zl 12 11,
  zb 13 .lss 10 12]
  (zc 13
  .skip
  (.exit 0)))
  (.seq (.block 1 (.seq (.region true (zr 16 10) (zr 16 9) [zM 16 0,
  zM 17 3,
  zv (zp 18 1 16 17) [0,1],
  zv (zL 19 18) [2,0,1],
  zM 20 0,
  zM 21 3,
  zv (zO 22 (.bin .sub (.t 21) (zI 1))) [5],
  zv (zp 23 1 20 22) [4,6,5],
  zv (zL 24 23) [7,4,6,5],
  zv (zb 25 .eql 19 24) [3,2,0,1,8,7,4,6,5]])
  (zc 25
  (zs [26,27,28] [26,27,28] [zM 26 0,
  zM 27 3,
  zO 28 (.slice 1 (.t 26) (some (.t 27)) none),
  zA 4 28]
  (.seq (zs [] [] [zK 5 (zI 1)]
  (.block 2 (.loop (.seq (zs (zr 29 4) [29,30,31] [zM 29 5,
  zM 30 4,
  zl 31 30,
  zb 32 .lss 29 31]
  (zc 32
  .skip
  (.exit 2)))
  (.seq (.block 3 (.seq (.region true (zr 35 10) (zr 35 9) [zM 35 4,
  zM 36 5,
  zv (zp 37 1 35 36) [0,1],
  zv (zL 38 37) [2,0,1],
  zM 39 4,
  zM 40 5,
  zv (zO 41 (.bin .sub (.t 40) (zI 1))) [5],
  zv (zp 42 1 39 41) [4,6,5],
  zv (zL 43 42) [7,4,6,5],
  zv (zb 44 .neq 38 43) [3,2,0,1,8,7,4,6,5]])
  (zc 44
  (zs (zr 45 7) (zr 45 7) [zM 45 0,
  zM 46 3,
  zM 47 4,
  zM 48 5,
  zp 49 1 47 48,
  zL 50 49,
  zp 51 1 45 46,
  zN (.rstore 1 (.t 51) (.t 50))]
  (zR [52,53] [52,53] [zM 52 3,
  zO 53 (.bin .add (.t 52) (zI 1)),
  zA 3 53]))
  .skip)))
  (zR [33,34] [33,34] [zM 33 5,
  zO 34 (.bin .add (.t 33) (zI 1)),
  zA 5 34]))))))
  (zs [54,55,56] [54,55,56] [zM 54 0,
  zM 55 3,
  zO 56 (.slice 1 (.t 54) (some (.t 55)) none),
  zN (.bad)]
  (zs [57,58,59] [57,58,59] [zM 57 0,
  zM 58 3,
  zO 59 (.slice 1 (.t 57) none (some (.t 58))),
  zA 2 59]
  .ret))))
  .skip)))
  (zR [14,15] [14,15] [zM 14 3,
  zO 15 (.bin .add (.t 14) (zI 1)),
  zA 3 15]))))))
  (zs [60] [60] [zM 60 0,
  zA 2 60]
  .ret))))⟩
def ir334 : FnIr := ⟨0, 3, 38, [(6, none)], [],
  (zs [3,41] [] [zO 3 (.box (.t 0)),
  zK 6 zE]
  (zs [10] [10] [zO 10 (.bslice [(.int .i64 0)] 0 []),
  zA 7 10]
  (.seq (zs (zr 11 4) [11] [zF 11 2 3,
  zL 12 11,
  zl 13 12,
  zO 14 (.move (zI 0))]
  (.block 0 (.loop (zs [15] [] [zb 15 .lss 14 13]
  (.seq (zc 15
  .skip
  (.exit 0))
  (.seq (.block 1 (zs [16,17,9,47] [16,17] [zp 16 4 12 14,
  zS 17 4 16,
  zO 9 (.alloc [(.int .i64 0), (.bool false), (.int .i64 0), (.int .i64 0)]),
  zN (.store 4 (.t 9) (.t 17))]
  (zs (zr 18 10) (zr 18 9) [zF 18 0 9,
  zL 19 18,
  zM 20 1,
  zb 21 .eql 19 20,
  zM 22 21,
  zG 23 (.faddr 1 (.t 9)) 22 true,
  zG 24 (.load false 1 (.t 23)) 22 true,
  zG 25 (.move (.t 2)) 22 true,
  zG 26 (.beq false (.t 24) (.t 25)) 22 true,
  zO 27 (.pick (.t 22) (.t 26) (zB false))]
  (zc 27
  (zR (zr 28 5) (zr 28 5) [zM 28 7,
  zF 29 2 9,
  zL 30 29,
  zO 31 (.bslice [(.int .i64 0)] 1 [(0, (.t 30))]),
  zO 32 (.append 1 (.t 28) (.t 31)),
  zA 7 32])
  .skip))))
  (zR [33] [33] [zO 33 (.bin .add (.t 14) (zI 1)),
  zM 14 33])))))))
  (zs [34,35,73] [34,35] [zM 34 7,
  zC 35 2346 [34]]
  (zs [36,37,75] [36,37] [zM 36 7,
  zC 37 376 [36],
  zA 6 37]
  .ret)))))⟩
def ir232 : FnIr := ⟨0, 3, 15, [(6, none)], [],
  (zs [] [] [zK 6 (zB false)]
  (zs (zr 7 8) (zr 7 8) [zM 7 1,
  zM 8 0,
  zb 9 .leq 7 8,
  zM 10 9,
  zG 11 (.move (.t 0)) 10 true,
  zG 12 (.move (.t 2)) 10 true,
  zG 13 (.bin .leq (.t 11) (.t 12)) 10 true,
  zO 14 (.pick (.t 10) (.t 13) (zB false)),
  zA 6 14]
  .ret))⟩
def ir214 : FnIr := ⟨0, 1, 85, [(2, none)], [],
  (zs [1,86] [] [zO 1 (.box (.t 0)),
  zK 2 (zB false)]
  (.seq (zs (zq 7 18 [94]) (zr 7 17) [zF 7 0 1,
  zL 8 7,
  zO 9 (.call 232 [(.t 8), (zI 1), (zI 6)]),
  zn 10 9,
  zM 11 10,
  zG 12 (.faddr 1 (.t 1)) 11 false,
  zG 13 (.load false 1 (.t 12)) 11 false,
  zG 14 (.len false (.t 13)) 11 false,
  zG 15 (.faddr 0 (.t 1)) 11 false,
  zG 16 (.load false 1 (.t 15)) 11 false,
  zG 17 (.bin .neq (.t 14) (.t 16)) 11 false,
  zO 18 (.pick (.t 11) (zB true) (.t 17)),
  zM 19 18,
  zG 20 (.faddr 2 (.t 1)) 19 false,
  zG 21 (.load false 1 (.t 20)) 19 false,
  zG 22 (.len false (.t 21)) 19 false,
  zG 23 (.bin .gtr (.t 22) (zI 12)) 19 false,
  zO 24 (.pick (.t 19) (zB true) (.t 23))]
  (zc 24
  (zs [] [] [zK 2 (zB false)]
  .ret)
  .skip))
  (.seq (zs (zr 25 4) [25] [zF 25 2 1,
  zL 26 25,
  zl 27 26,
  zO 28 (.move (zI 0))]
  (.block 0 (.loop (zs [29] [] [zb 29 .lss 28 27]
  (.seq (zc 29
  .skip
  (.exit 0))
  (.seq (.block 1 (zs [30,31,32,4,89] [30,31,32] [zM 30 28,
  zp 31 4 26 28,
  zS 32 4 31,
  zO 4 (.alloc [(.int .i64 0), (.bool false), (.int .i64 0), (.int .i64 0)]),
  zA 3 30,
  zN (.store 4 (.t 4) (.t 32))]
  (.seq (zs (zq 33 22 [123,131,137]) (zr 33 21) [zF 33 0 4,
  zL 34 33,
  zF 35 0 1,
  zL 36 35,
  zO 37 (.bin .sub (.t 36) (zI 1)),
  zO 38 (.call 232 [(.t 34), (zI 0), (.t 37)]),
  zn 39 38,
  zM 40 39,
  zG 41 (.faddr 3 (.t 4)) 40 false,
  zG 42 (.load false 1 (.t 41)) 40 false,
  zG 43 (.faddr 0 (.t 1)) 40 false,
  zG 44 (.load false 1 (.t 43)) 40 false,
  zG 45 (.bin .sub (.t 44) (zI 1)) 40 false,
  zG 46 (.call 232 [(.t 42), (zI 0), (.t 45)]) 40 false,
  zG 47 (.un .not (.t 46)) 40 false,
  zO 48 (.pick (.t 40) (zB true) (.t 47)),
  zM 49 48,
  zG 50 (.faddr 2 (.t 4)) 49 false,
  zG 51 (.load false 1 (.t 50)) 49 false,
  zG 52 (.call 232 [(.t 51), (zI 0), (zI 5)]) 49 false,
  zG 53 (.un .not (.t 52)) 49 false,
  zO 54 (.pick (.t 49) (zB true) (.t 53))]
  (zc 54
  (zs [] [] [zK 2 (zB false)]
  .ret)
  .skip))
  (zs (zr 55 6) [55,56,57] [zF 55 2 1,
  zL 56 55,
  zM 57 3,
  zO 58 (.slice 4 (.t 56) none (some (.t 57))),
  zl 59 58,
  zO 60 (.move (zI 0))]
  (.block 2 (.loop (zs [61] [] [zb 61 .lss 60 59]
  (.seq (zc 61
  .skip
  (.exit 2))
  (.seq (.block 3 (zs [62,63,6,91] [62,63] [zp 62 4 58 60,
  zS 63 4 62,
  zO 6 (.alloc [(.int .i64 0), (.bool false), (.int .i64 0), (.int .i64 0)]),
  zN (.store 4 (.t 6) (.t 63))]
  (zs (zr 64 19) (zr 64 18) [zF 64 0 6,
  zL 65 64,
  zF 66 0 4,
  zL 67 66,
  zb 68 .eql 65 67,
  zM 69 68,
  zG 70 (.faddr 1 (.t 6)) 69 true,
  zG 71 (.load false 1 (.t 70)) 69 true,
  zG 72 (.faddr 1 (.t 4)) 69 true,
  zG 73 (.load false 1 (.t 72)) 69 true,
  zG 74 (.beq true (.t 71) (.t 73)) 69 true,
  zG 75 (.move (.t 74)) 69 true,
  zG 76 (.faddr 2 (.t 6)) 75 false,
  zG 77 (.load false 1 (.t 76)) 75 false,
  zG 78 (.faddr 2 (.t 4)) 75 false,
  zG 79 (.load false 1 (.t 78)) 75 false,
  zG 80 (.bin .eql (.t 77) (.t 79)) 75 false,
  zG 81 (.pick (.t 75) (zB true) (.t 80)) 69 true,
  zO 82 (.pick (.t 69) (.t 81) (zB false))]
  (zc 82
  (zs [] [] [zK 2 (zB false)]
  .ret)
  .skip))))
  (zR [83] [83] [zO 83 (.bin .add (.t 60) (zI 1)),
  zM 60 83]))))))))))
  (zR [84] [84] [zO 84 (.bin .add (.t 28) (zI 1)),
  zM 28 84])))))))
  (zs [] [] [zK 2 (zB true)]
  .ret))))⟩
def ir335 : FnIr := ⟨0, 2, 18, [(4, none)], [],
  (zs [2,20] [] [zO 2 (.box (.t 0)),
  zK 4 (zB false)]
  (zs (zq 5 13 [28]) (zr 5 13) [zM 5 1,
  zF 6 1 2,
  zL 7 6,
  zl 8 7,
  zO 9 (.bin .sub (.t 8) (zI 1)),
  zO 10 (.call 232 [(.t 5), (zI 0), (.t 9)]),
  zM 11 10,
  zG 12 (.faddr 1 (.t 2)) 11 true,
  zG 13 (.load false 1 (.t 12)) 11 true,
  zG 14 (.move (.t 1)) 11 true,
  zG 15 (.iaddr 1 (.t 13) (.t 14)) 11 true,
  zG 16 (.load false 1 (.t 15)) 11 true,
  zO 17 (.pick (.t 11) (.t 16) (zB false)),
  zA 4 17]
  .ret))⟩
def ir367 : FnIr := ⟨0, 3, 44, [(6, none)], [],
  (zs [3,47] [] [zO 3 (.box (.t 0)),
  zK 6 zE]
  (zs [9] [9] [zO 9 (.bslice [(.int .i64 0)] 0 []),
  zA 7 9]
  (.seq (zs [] [] [zK 8 (zI 0)]
  (.block 0 (.loop (.seq (zs (zr 10 5) (zr 10 4) [zM 10 8,
  zF 11 2 3,
  zL 12 11,
  zl 13 12,
  zb 14 .lss 10 13]
  (zc 14
  .skip
  (.exit 0)))
  (.seq (.block 1 (zs (zr 17 18) (zr 17 17) [zF 17 2 3,
  zL 18 17,
  zM 19 8,
  zp 20 4 18 19,
  zF 21 0 20,
  zL 22 21,
  zM 23 1,
  zb 24 .eql 22 23,
  zM 25 24,
  zG 26 (.faddr 2 (.t 3)) 25 true,
  zG 27 (.load false 1 (.t 26)) 25 true,
  zG 28 (.move (.t 8)) 25 true,
  zG 29 (.iaddr 4 (.t 27) (.t 28)) 25 true,
  zG 30 (.faddr 1 (.t 29)) 25 true,
  zG 31 (.load false 1 (.t 30)) 25 true,
  zG 32 (.move (.t 2)) 25 true,
  zG 33 (.beq false (.t 31) (.t 32)) 25 true,
  zO 34 (.pick (.t 25) (.t 33) (zB false))]
  (zc 34
  (zR (zq 35 8 [86]) (zr 35 8) [zM 35 7,
  zF 36 2 3,
  zL 37 36,
  zM 38 8,
  zp 39 4 37 38,
  zF 40 2 39,
  zL 41 40,
  zC 42 345 [35,41],
  zA 7 42])
  .skip)))
  (zR [15,16] [15,16] [zM 15 8,
  zO 16 (.bin .add (.t 15) (zI 1)),
  zA 8 16]))))))
  (zs [43] [43] [zM 43 7,
  zA 6 43]
  .ret))))⟩
def ir380 : FnIr := ⟨0, 1, 36, [(2, (some (true, 3)))], [],
  (zs [1,2,37,38] [] [zO 1 (.box (.t 0)),
  zO 2 (.alloc [(.int .i64 0), (.row () []), (.row () [])])]
  (.seq (.region true (zq 6 7 [3,39]) (zr 6 7) [zF 6 0 1,
  zv (zL 7 6) [0],
  zO 8 (.bslice [(.bool false)] 0 []),
  zF 9 1 1,
  zv (zL 10 9) [3],
  zv (zO 11 (.append 1 (.t 8) (.t 10))) [2,4,3],
  zv (zO 12 (.build [(.int .i64 0), (.row () []), (.row () [])] [(0, 1, (.t 7)), (1, 1, (.t 11))])) [1,0,5,2,4,3],
  zO 3 (.alloc [(.int .i64 0), (.row () []), (.row () [])]),
  zv (zN (.store 3 (.t 3) (.t 12))) [7,6,1,0,5,2,4,3]])
  (.seq (zs [] [] [zK 4 (zI 0)]
  (.block 0 (.loop (.seq (zs (zr 13 5) (zr 13 4) [zM 13 4,
  zF 14 2 1,
  zL 15 14,
  zl 16 15,
  zb 17 .lss 13 16]
  (zc 17
  .skip
  (.exit 0)))
  (.seq (.block 1 (zs (zq 20 5 [5,41]) (zr 20 5) [zF 20 2 1,
  zL 21 20,
  zM 22 4,
  zp 23 4 21 22,
  zS 24 4 23,
  zO 5 (.alloc [(.int .i64 0), (.bool false), (.int .i64 0), (.int .i64 0)]),
  zN (.store 4 (.t 5) (.t 24))]
  (zs (zr 25 4) (zr 25 4) [zF 25 1 5,
  zL 26 25,
  zn 27 26,
  zF 28 1 5,
  zN (.store 1 (.t 28) (.t 27))]
  (zR (zr 29 6) (zr 29 6) [zF 29 2 3,
  zL 30 29,
  zS 31 4 5,
  zO 32 (.bslice [(.int .i64 0), (.bool false), (.int .i64 0), (.int .i64 0)] 1 [(0, (.t 31))]),
  zO 33 (.append 4 (.t 30) (.t 32)),
  zF 34 2 3,
  zN (.store 1 (.t 34) (.t 33))]))))
  (zR [18,19] [18,19] [zM 18 4,
  zO 19 (.bin .add (.t 18) (zI 1)),
  zA 4 19]))))))
  (zs [35] [35] [zS 35 3 3,
  zN (.store 3 (.t 2) (.t 35))]
  .ret))))⟩
def ir3364 : FnIr := ⟨0, 2, 98, [(4, (some (true, 3)))], [.mbox],
  (zs [3,4,101,102] [] [zO 3 (.box (.t 1)),
  zO 4 (.alloc [(.int .i64 0), (.row () []), (.row () [])])]
  (zs [9,10,11,5,108,109,103] [9,10,11] [zS 9 3 3,
  zC 10 380 [9],
  zC 11 380 [10],
  zO 5 (.alloc [(.int .i64 0), (.row () []), (.row () [])]),
  zN (.store 3 (.t 5) (.t 11))]
  (.seq (zs [12,13,111] [12,13] [zM 12 0,
  zO 13 (.call 3317 [(.t 12), (zI 3)]),
  zA 6 13]
  (.block 0 (.loop (.seq (zs (zr 14 8) (zr 14 7) [zM 14 6,
  zO 15 (.bin .gtr (.t 14) (zI 0)),
  zM 16 15,
  zG 17 (.faddr 2 (.t 5)) 16 true,
  zG 18 (.load false 1 (.t 17)) 16 true,
  zG 19 (.len false (.t 18)) 16 true,
  zG 20 (.bin .gtr (.t 19) (zI 0)) 16 true,
  zO 21 (.pick (.t 16) (.t 20) (zB false))]
  (zc 21
  .skip
  (.exit 0)))
  (.seq (.block 1 (zs (zq 24 5 [126]) (zr 24 5) [zM 24 0,
  zF 25 2 5,
  zL 26 25,
  zl 27 26,
  zC 28 3317 [24,27],
  zA 7 28]
  (zs (zq 29 5 [8,106]) (zr 29 5) [zF 29 2 5,
  zL 30 29,
  zM 31 7,
  zp 32 4 30 31,
  zS 33 4 32,
  zO 8 (.alloc [(.int .i64 0), (.bool false), (.int .i64 0), (.int .i64 0)]),
  zN (.store 4 (.t 8) (.t 33))]
  (zs (zq 34 10 [138]) (zr 34 9) [zF 34 1 8,
  zL 35 34,
  zM 36 35,
  zG 37 (.load true 3 (.t 5)) 36 true,
  zG 38 (.faddr 0 (.t 8)) 36 true,
  zG 39 (.load false 1 (.t 38)) 36 true,
  zG 40 (.call 367 [(.t 37), (.t 39), (zB true)]) 36 true,
  zG 41 (.len false (.t 40)) 36 true,
  zG 42 (.bin .gtr (.t 41) (zI 1)) 36 true,
  zO 43 (.pick (.t 36) (.t 42) (zB false))]
  (zc 43
  (.region true (zr 44 13) (zr 44 13) [zO 44 (.bslice [(.int .i64 0), (.bool false), (.int .i64 0), (.int .i64 0)] 0 []),
  zF 45 2 5,
  zv (zL 46 45) [1],
  zM 47 7,
  zv (zO 48 (.slice 4 (.t 46) none (some (.t 47)))) [2,1,3],
  zv (zO 49 (.append 4 (.t 44) (.t 48))) [0,4,2,1,3],
  zF 50 2 5,
  zv (zL 51 50) [6],
  zM 52 7,
  zv (zO 53 (.bin .add (.t 52) (zI 1))) [8],
  zv (zO 54 (.slice 4 (.t 51) (some (.t 53)) none)) [7,6,9,8],
  zv (zO 55 (.append 4 (.t 49) (.t 54))) [5,0,4,2,1,3,10,7,6,9,8],
  zv (zF 56 2 5) [0,1,2,3,4,5,6,7,8,9,10,11],
  zv (zN (.store 1 (.t 56) (.t 55))) [12,0,1,2,3,4,5,6,7,8,9,10,11]])
  (zs [57,58,59] [57,58] [zF 57 1 8,
  zL 58 57,
  zn 59 58]
  (zc 59
  (zs [60,61,62,159] [60,61,62] [zM 60 0,
  zO 61 (.call 3317 [(.t 60), (zI 5)]),
  zF 62 2 8,
  zN (.store 1 (.t 62) (.t 61))]
  (zs (zq 63 5 [164]) (zr 63 5) [zM 63 0,
  zF 64 0 5,
  zL 65 64,
  zC 66 3317 [63,65],
  zF 67 3 8,
  zN (.store 1 (.t 67) (.t 66))]
  (zs (zq 68 13 [171]) (zr 68 12) [zS 68 3 5,
  zF 69 0 8,
  zL 70 69,
  zF 71 2 8,
  zL 72 71,
  zO 73 (.call 366 [(.t 68), (.t 70), (zB false), (.t 72)]),
  zO 74 (.bin .lss (.t 73) (zI 0)),
  zM 75 74,
  zG 76 (.faddr 2 (.t 5)) 75 true,
  zG 77 (.load false 1 (.t 76)) 75 true,
  zG 78 (.len false (.t 77)) 75 true,
  zG 79 (.bin .lss (.t 78) (zI 12)) 75 true,
  zO 80 (.pick (.t 75) (.t 79) (zB false))]
  (zc 80
  (zR (zr 81 6) (zr 81 6) [zF 81 2 5,
  zL 82 81,
  zS 83 4 8,
  zO 84 (.bslice [(.int .i64 0), (.bool false), (.int .i64 0), (.int .i64 0)] 1 [(0, (.t 83))]),
  zO 85 (.append 4 (.t 82) (.t 84)),
  zF 86 2 5,
  zN (.store 1 (.t 86) (.t 85))])
  .skip))))
  .skip)))))))
  (zR [22,23] [22,23] [zM 22 6,
  zO 23 (.bin .sub (.t 22) (zI 1)),
  zA 6 23]))))))
  (.seq (zs [87,88,186] [87] [zM 87 0,
  zO 88 (.call 3250 [(.t 87), (zI 6)])]
  (zc 88
  (zR (zr 89 8) (zr 89 8) [zF 89 2 5,
  zL 90 89,
  zF 91 2 5,
  zL 92 91,
  zl 93 92,
  zO 94 (.bin .quo (.t 93) (zI 2)),
  zO 95 (.slice 4 (.t 90) none (some (.t 94))),
  zF 96 2 5,
  zN (.store 1 (.t 96) (.t 95))])
  .skip))
  (zs [97] [97] [zS 97 3 5,
  zN (.store 3 (.t 4) (.t 97))]
  .ret)))))⟩
def ir3365 : FnIr := ⟨0, 1, 85, [(2, (some (true, 3)))], [.mbox],
  (zs [2,87] [] [zO 2 (.alloc [(.int .i64 0), (.row () []), (.row () [])])]
  (zs [6,7,3,92,88] [6,7] [zM 6 0,
  zC 7 3363 [6],
  zO 3 (.alloc [(.int .i64 0), (.row () []), (.row () [])]),
  zN (.store 3 (.t 3) (.t 7))]
  (.seq (zs (zr 8 4) [8,9,10] [zF 8 2 3,
  zL 9 8,
  zl 10 9,
  zO 11 (.bin .eql (.t 10) (zI 0))]
  (zc 11
  (zs [12] [12] [zS 12 3 3,
  zN (.store 3 (.t 2) (.t 12))]
  .ret)
  .skip))
  (zs (zq 13 5 [102]) (zr 13 5) [zM 13 0,
  zF 14 2 3,
  zL 15 14,
  zl 16 15,
  zC 17 3317 [13,16],
  zA 4 17]
  (.seq (zs [18,19,104] [18] [zM 18 0,
  zO 19 (.call 3317 [(.t 18), (zI 12)])]
  (.block 0 (zs [21] [21] [zO 21 (.bin .eql (.t 19) (zI 0)),
  zA 20 21]
  (zc 20
  (.region true (zq 22 10 [114]) (zr 22 10) [zF 22 2 3,
  zv (zL 23 22) [0],
  zM 24 4,
  zM 25 0,
  zF 26 0 3,
  zv (zL 27 26) [4],
  zv (zO 28 (.bslice [(.int .i64 0)] 3 [(0, (zI (-1))), (1, (.t 27)), (2, (zI 9223372036854775807))])) [5,4],
  zv (zC 29 3252 [25,28]) [3,6,5,4],
  zv (zp 30 4 23 24) [1,0,2,3,4,5,6,7],
  zv (zF 31 3 30) [8,1,0,2,3,4,5,6,7],
  zv (zN (.rstore 1 (.t 31) (.t 29))) [9,8,1,0,2,3,4,5,6,7]])
  (zs [33] [33] [zO 33 (.bin .eql (.t 19) (zI 1)),
  zA 32 33]
  (zc 32
  (.region true (zq 34 8 [124]) (zr 34 8) [zF 34 2 3,
  zv (zL 35 34) [0],
  zM 36 4,
  zM 37 0,
  zO 38 (.bslice [(.int .i64 0)] 3 [(0, (zI (-1))), (1, (zI 5)), (2, (zI 6))]),
  zv (zC 39 3252 [37,38]) [3,4],
  zv (zp 40 4 35 36) [1,0,2,3,4,5],
  zv (zF 41 2 40) [6,1,0,2,3,4,5],
  zv (zN (.rstore 1 (.t 41) (.t 39))) [7,6,1,0,2,3,4,5]])
  (zs [43] [43] [zO 43 (.bin .eql (.t 19) (zI 2)),
  zA 42 43]
  (zc 42
  (.region true (zr 44 10) (zr 44 10) [zF 44 2 3,
  zv (zL 45 44) [0],
  zF 46 2 3,
  zv (zL 47 46) [2],
  zM 48 4,
  zv (zp 49 4 47 48) [3,2,4],
  zv (zS 50 4 49) [5,3,2,4],
  zv (zO 51 (.bslice [(.int .i64 0), (.bool false), (.int .i64 0), (.int .i64 0)] 1 [(0, (.t 50))])) [6,5,3,2,4],
  zv (zO 52 (.append 4 (.t 45) (.t 51))) [1,0,7,6,5,3,2,4],
  zv (zF 53 2 3) [0,1,2,3,4,5,6,7,8],
  zv (zN (.store 1 (.t 53) (.t 52))) [9,0,1,2,3,4,5,6,7,8]])
  (zs [55] [55] [zO 55 (.bin .eql (.t 19) (zI 3)),
  zA 54 55]
  (zc 54
  (zs (zq 56 5 [5,90]) (zr 56 5) [zF 56 2 3,
  zL 57 56,
  zM 58 4,
  zp 59 4 57 58,
  zS 60 4 59,
  zO 5 (.alloc [(.int .i64 0), (.bool false), (.int .i64 0), (.int .i64 0)]),
  zN (.store 4 (.t 5) (.t 60))]
  (zs (zr 61 4) (zr 61 4) [zF 61 1 5,
  zL 62 61,
  zn 63 62,
  zF 64 1 5,
  zN (.store 1 (.t 64) (.t 63))]
  (zR (zr 65 6) (zr 65 6) [zF 65 2 3,
  zL 66 65,
  zS 67 4 5,
  zO 68 (.bslice [(.int .i64 0), (.bool false), (.int .i64 0), (.int .i64 0)] 1 [(0, (.t 67))]),
  zO 69 (.append 4 (.t 66) (.t 68)),
  zF 70 2 3,
  zN (.store 1 (.t 70) (.t 69))])))
  (zs [72] [72] [zO 72 (.bin .eql (.t 19) (zI 4)),
  zA 71 72]
  (zc 71
  (zR (zq 73 4 [160]) (zr 73 4) [zM 73 0,
  zO 74 (.bslice [(.int .i64 0)] 3 [(0, (zI 0)), (1, (zI 6)), (2, (zI 7))]),
  zC 75 3252 [73,74],
  zF 76 0 3,
  zN (.store 1 (.t 76) (.t 75))])
  (zs [78] [78] [zO 78 (.bin .eql (.t 19) (zI 5)),
  zA 77 78]
  (zc 77
  (zR (zr 79 5) (zr 79 5) [zF 79 1 3,
  zL 80 79,
  zO 81 (.bslice [(.bool false)] 1 [(0, (zB true))]),
  zO 82 (.append 1 (.t 80) (.t 81)),
  zF 83 1 3,
  zN (.store 1 (.t 83) (.t 82))])
  .skip))))))))))))))
  (zs [84] [84] [zS 84 3 3,
  zN (.store 3 (.t 2) (.t 84))]
  .ret))))))⟩
def ir325 : FnIr := ⟨0, 1, 27, [(2, (some (true, 3))), (3, (some (true, 3)))], [],
  (zs [2,3,29,30] [] [zO 2 (.alloc [(.int .i64 0), (.row () []), (.row () [])]),
  zO 3 (.alloc [(.int .i64 0), (.row () []), (.row () [])])]
  (zs [7,8,35] [7,8] [zM 7 0,
  zC 8 246 [7],
  zA 4 8]
  (zs [9,10,5,37,32] [9,10] [zM 9 4,
  zC 10 3363 [9],
  zO 5 (.alloc [(.int .i64 0), (.row () []), (.row () [])]),
  zN (.store 3 (.t 5) (.t 10))]
  (zs [11,12,13,6,40,33] [11,12,13] [zM 11 4,
  zS 12 3 5,
  zC 13 3364 [11,12],
  zO 6 (.alloc [(.int .i64 0), (.row () []), (.row () [])]),
  zN (.store 3 (.t 6) (.t 13))]
  (.seq (zs [14,15,42] [14] [zM 14 4,
  zO 15 (.call 3317 [(.t 14), (zI 6)])]
  (.block 0 (zs [17] [17] [zO 17 (.bin .eql (.t 15) (zI 0)),
  zA 16 17]
  (zc 16
  (.seq (.region true [18,19] [18,19] [zS 18 3 5,
  zS 19 3 6,
  zv (zN (.store 3 (.t 2) (.t 18))) [0],
  zv (zN (.store 3 (.t 3) (.t 19))) [1,2,0]])
  .ret)
  (zs [21] [21] [zO 21 (.bin .eql (.t 15) (zI 1)),
  zA 20 21]
  (zc 20
  (.seq (.region true [22,23,24,51] [22,23,24] [zS 22 3 6,
  zM 23 4,
  zv (zC 24 3365 [23]) [1],
  zv (zN (.store 3 (.t 2) (.t 22))) [0,2,1],
  zv (zN (.store 3 (.t 3) (.t 24))) [2,1,3,0]])
  .ret)
  .skip))))))
  (.seq (.region true [25,26] [25,26] [zS 25 3 6,
  zS 26 3 5,
  zv (zN (.store 3 (.t 2) (.t 25))) [0],
  zv (zN (.store 3 (.t 3) (.t 26))) [1,2,0]])
  .ret))))))⟩
def ir212 : FnIr := ⟨0, 1, 8, [(2, (some (true, 3))), (3, (some (true, 3)))], [],
  (zs [2,3,10,11] [] [zO 2 (.alloc [(.int .i64 0), (.row () []), (.row () [])]),
  zO 3 (.alloc [(.int .i64 0), (.row () []), (.row () [])])]
  (zs (zq 4 4 [13]) (zr 4 4) [zM 4 0,
  zC 5 325 [4],
  zO 6 (.extract 0 (.t 5)),
  zO 7 (.extract 1 (.t 5)),
  zN (.store 3 (.t 2) (.t 6)),
  zN (.store 3 (.t 3) (.t 7))]
  .ret))⟩
def ir383 : FnIr := ⟨0, 2, 19, [(4, none)], [],
  (zs [] [] [zK 4 (zI 0)]
  (.seq (zs [6,7,8] [6] [zM 6 0,
  zl 7 6,
  zO 8 (.move (zI 0))]
  (.block 0 (.loop (zs [9] [] [zb 9 .lss 8 7]
  (.seq (zc 9
  .skip
  (.exit 0))
  (.seq (.block 1 (zs [10] [10] [zM 10 8,
  zA 5 10]
  (zs (zq 11 6 [35]) (zr 11 5) [zM 11 1,
  zM 12 0,
  zM 13 5,
  zp 14 4 12 13,
  zS 15 4 14,
  zO 16 (.callv (.t 11) [(.t 15)])]
  (zc 16
  (zs [17] [17] [zM 17 5,
  zA 4 17]
  .ret)
  .skip))))
  (zR [18] [18] [zO 18 (.bin .add (.t 8) (zI 1)),
  zM 8 18])))))))
  (zs [] [] [zK 4 (zI (-1))]
  .ret)))⟩
def ir384 : FnIr := ⟨0, 4, 22, [(5, none)], [],
  (zs [4,26] [] [zO 4 (.box (.t 0)),
  zK 5 (zB false)]
  (zs (zr 6 16) (zr 6 16) [zF 6 0 4,
  zL 7 6,
  zL 8 1,
  zb 9 .eql 7 8,
  zM 10 9,
  zG 11 (.faddr 1 (.t 4)) 10 true,
  zG 12 (.load false 1 (.t 11)) 10 true,
  zG 13 (.load false 1 (.t 2)) 10 true,
  zG 14 (.beq false (.t 12) (.t 13)) 10 true,
  zO 15 (.pick (.t 10) (.t 14) (zB false)),
  zM 16 15,
  zG 17 (.faddr 2 (.t 4)) 16 true,
  zG 18 (.load false 1 (.t 17)) 16 true,
  zG 19 (.load false 1 (.t 3)) 16 true,
  zG 20 (.bin .eql (.t 18) (.t 19)) 16 true,
  zO 21 (.pick (.t 16) (.t 20) (zB false)),
  zA 5 21]
  .ret))⟩
def ir375 : FnIr := ⟨0, 4, 13, [(8, none)], [],
  (zs (zq 4 4 [17,18,19,20]) [] [zO 4 (.box (.t 0)),
  zO 5 (.box (.t 1)),
  zO 6 (.box (.t 2)),
  zO 7 (.box (.t 3)),
  zK 8 (zI 0)]
  (zs (zq 9 4 [25]) (zr 9 4) [zF 9 2 4,
  zL 10 9,
  zO 11 (.mkfn 384 [5, 6, 7]),
  zC 12 383 [10,11],
  zA 8 12]
  .ret))⟩
def ir333 : FnIr := ⟨0, 4, 73, [(8, none)], [],
  (zs [4,5,77,78] [] [zO 4 (.box (.t 0)),
  zO 5 (.box (.t 1)),
  zK 8 zE]
  (zs [17] [17] [zO 17 (.bslice [(.row () [])] 0 []),
  zA 9 17]
  (.seq (zs [18,19,20] [] [zO 18 (.bslice [(.bool false)] 2 [(0, (zB true)), (1, (zB false))]),
  zl 19 18,
  zO 20 (.move (zI 0))]
  (.block 0 (.loop (zs [21] [] [zb 21 .lss 20 19]
  (.seq (zc 21
  .skip
  (.exit 0))
  (.seq (.block 1 (zs [22,23] [22,23] [zp 22 1 18 20,
  zL 23 22,
  zA 11 23]
  (zs [24,25,26,99] [24,25,26] [zS 24 3 4,
  zM 25 2,
  zO 26 (.call 334 [(.t 24), (.t 25), (zB true)]),
  zA 12 26]
  (.seq (zs [27,28] [27] [zM 27 11,
  zn 28 27]
  (zc 28
  (zR [29,30,31,104] [29,30,31] [zS 29 3 5,
  zM 30 3,
  zO 31 (.call 334 [(.t 29), (.t 30), (zB false)]),
  zA 12 31])
  .skip))
  (zs [32,33,34] [] [zM 32 12,
  zl 33 32,
  zO 34 (.move (zI 0))]
  (.block 2 (.loop (zs [35] [] [zb 35 .lss 34 33]
  (.seq (zc 35
  .skip
  (.exit 2))
  (.seq (.block 3 (zs [36,37] [36,37] [zp 36 1 32 34,
  zL 37 36,
  zA 14 37]
  (.seq (.region true (zq 38 10 [115,120]) (zr 38 10) [zS 38 3 4,
  zM 39 2,
  zM 40 11,
  zM 41 14,
  zv (zC 42 375 [38,39,40,41]) [0,1,2,3],
  zS 43 3 5,
  zM 44 3,
  zM 45 11,
  zM 46 14,
  zv (zC 47 375 [43,44,45,46]) [5,6,7,8,4,0,1,2,3],
  zv (zA 15 42) [4,0,1,2,3,9,5,6,7,8],
  zv (zA 16 47) [9,5,6,7,8,4,0,1,2,3,10]])
  (zs (zr 48 6) (zr 48 5) [zM 48 15,
  zO 49 (.bin .geq (.t 48) (zI 0)),
  zM 50 49,
  zG 51 (.move (.t 16)) 50 true,
  zG 52 (.bin .geq (.t 51) (zI 0)) 50 true,
  zO 53 (.pick (.t 50) (.t 52) (zB false))]
  (zc 53
  (.region true (zr 54 16) (zr 54 16) [zM 54 9,
  zF 55 2 4,
  zv (zL 56 55) [1],
  zM 57 15,
  zv (zp 58 4 56 57) [2,1,3],
  zv (zF 59 3 58) [4,2,1,3],
  zv (zL 60 59) [5,4,2,1,3],
  zF 61 2 5,
  zv (zL 62 61) [7],
  zM 63 16,
  zv (zp 64 4 62 63) [8,7,9],
  zv (zF 65 3 64) [10,8,7,9],
  zv (zL 66 65) [11,10,8,7,9],
  zv (zO 67 (.bslice [(.int .i64 0)] 2 [(0, (.t 60)), (1, (.t 66))])) [6,5,4,2,1,3,12,11,10,8,7,9],
  zv (zO 68 (.bslice [(.row () [])] 1 [(0, (.t 67))])) [13,6,5,4,2,1,3,12,11,10,8,7,9],
  zv (zO 69 (.append 1 (.t 54) (.t 68))) [0,14,13,6,5,4,2,1,3,12,11,10,8,7,9],
  zv (zA 9 69) [15,0,14,13,6,5,4,2,1,3,12,11,10,8,7,9]])
  .skip)))))
  (zR [70] [70] [zO 70 (.bin .add (.t 34) (zI 1)),
  zM 34 70])))))))))))
  (zR [71] [71] [zO 71 (.bin .add (.t 20) (zI 1)),
  zM 20 71])))))))
  (zs [72] [72] [zM 72 9,
  zA 8 72]
  .ret))))⟩
def ir382 : FnIr := ⟨0, 4, 74, [(8, none)], [],
  (zs [4,5,78,79] [] [zO 4 (.box (.t 0)),
  zO 5 (.box (.t 1)),
  zK 8 zE]
  (zs [17] [17] [zO 17 (.bslice [(.row () [])] 0 []),
  zA 9 17]
  (.seq (zs [18,19,20] [] [zO 18 (.bslice [(.bool false)] 2 [(0, (zB true)), (1, (zB false))]),
  zl 19 18,
  zO 20 (.move (zI 0))]
  (.block 0 (.loop (zs [21] [] [zb 21 .lss 20 19]
  (.seq (zc 21
  .skip
  (.exit 0))
  (.seq (.block 1 (zs [22,23] [22,23] [zp 22 1 18 20,
  zL 23 22,
  zA 11 23]
  (zs [24,25,26,100] [24,25,26] [zS 24 3 4,
  zM 25 2,
  zO 26 (.call 334 [(.t 24), (.t 25), (zB true)]),
  zA 12 26]
  (.seq (zs [27,28] [27] [zM 27 11,
  zn 28 27]
  (zc 28
  (zR [29,30,31,105] [29,30,31] [zS 29 3 5,
  zM 30 3,
  zO 31 (.call 334 [(.t 29), (.t 30), (zB true)]),
  zA 12 31])
  .skip))
  (zs [32,33,34] [] [zM 32 12,
  zl 33 32,
  zO 34 (.move (zI 0))]
  (.block 2 (.loop (zs [35] [] [zb 35 .lss 34 33]
  (.seq (zc 35
  .skip
  (.exit 2))
  (.seq (.block 3 (zs [36,37] [36,37] [zp 36 1 32 34,
  zL 37 36,
  zA 14 37]
  (.seq (.region true (zq 38 11 [116,122]) (zr 38 11) [zS 38 3 4,
  zM 39 2,
  zM 40 11,
  zM 41 14,
  zv (zC 42 375 [38,39,40,41]) [0,1,2,3],
  zS 43 3 5,
  zM 44 3,
  zM 45 11,
  zv (zn 46 45) [7],
  zM 47 14,
  zv (zC 48 375 [43,44,46,47]) [5,6,8,7,9,4,0,1,2,3],
  zv (zA 15 42) [4,0,1,2,3,10,5,6,8,7,9],
  zv (zA 16 48) [10,5,6,8,7,9,4,0,1,2,3,11]])
  (zs (zr 49 6) (zr 49 5) [zM 49 15,
  zO 50 (.bin .geq (.t 49) (zI 0)),
  zM 51 50,
  zG 52 (.move (.t 16)) 51 true,
  zG 53 (.bin .geq (.t 52) (zI 0)) 51 true,
  zO 54 (.pick (.t 51) (.t 53) (zB false))]
  (zc 54
  (.region true (zr 55 16) (zr 55 16) [zM 55 9,
  zF 56 2 4,
  zv (zL 57 56) [1],
  zM 58 15,
  zv (zp 59 4 57 58) [2,1,3],
  zv (zF 60 3 59) [4,2,1,3],
  zv (zL 61 60) [5,4,2,1,3],
  zF 62 2 5,
  zv (zL 63 62) [7],
  zM 64 16,
  zv (zp 65 4 63 64) [8,7,9],
  zv (zF 66 3 65) [10,8,7,9],
  zv (zL 67 66) [11,10,8,7,9],
  zv (zO 68 (.bslice [(.int .i64 0)] 2 [(0, (.t 61)), (1, (.t 67))])) [6,5,4,2,1,3,12,11,10,8,7,9],
  zv (zO 69 (.bslice [(.row () [])] 1 [(0, (.t 68))])) [13,6,5,4,2,1,3,12,11,10,8,7,9],
  zv (zO 70 (.append 1 (.t 55) (.t 69))) [0,14,13,6,5,4,2,1,3,12,11,10,8,7,9],
  zv (zA 9 70) [15,0,14,13,6,5,4,2,1,3,12,11,10,8,7,9]])
  .skip)))))
  (zR [71] [71] [zO 71 (.bin .add (.t 34) (zI 1)),
  zM 34 71])))))))))))
  (zR [72] [72] [zO 72 (.bin .add (.t 20) (zI 1)),
  zM 20 72])))))))
  (zs [73] [73] [zM 73 9,
  zA 8 73]
  .ret))))⟩
def ir332 : FnIr := ⟨0, 4, 12, [(6, none)], [],
  (zs [] [] [zK 6 zE]
  (zs (zq 7 5 [23]) (zr 7 5) [zS 7 3 2,
  zS 8 3 3,
  zM 9 0,
  zM 10 1,
  zC 11 333 [7,8,9,10],
  zA 6 11]
  .ret))⟩
def ir219 : FnIr := ⟨0, 2, 15, [(4, none)], [],
  (zs [2,3,17,18] [] [zO 2 (.box (.t 0)),
  zO 3 (.box (.t 1)),
  zK 4 zE]
  (.seq (zs (zq 5 8 [21,25]) (zr 5 7) [zS 5 3 2,
  zC 6 214 [5],
  zn 7 6,
  zM 8 7,
  zG 9 (.load true 3 (.t 3)) 8 false,
  zG 10 (.call 214 [(.t 9)]) 8 false,
  zG 11 (.un .not (.t 10)) 8 false,
  zO 12 (.pick (.t 8) (zB true) (.t 11))]
  (zc 12
  (zs [] [] [zK 4 zE]
  .ret)
  .skip))
  (zs [13,14,29] [13,14] [zO 13 (.mkfn 332 [2, 3]),
  zC 14 331 [13],
  zA 4 14]
  .ret)))⟩
def ir354 : FnIr := ⟨0, 2, 19, [(4, none)], [],
  (zs [] [] [zK 4 (zI 0)]
  (.seq (zs [6,7,8] [6] [zM 6 0,
  zl 7 6,
  zO 8 (.move (zI 0))]
  (.block 0 (.loop (zs [9] [] [zb 9 .lss 8 7]
  (.seq (zc 9
  .skip
  (.exit 0))
  (.seq (.block 1 (zs [10] [10] [zM 10 8,
  zA 5 10]
  (zs (zr 11 6) (zr 11 5) [zM 11 1,
  zM 12 0,
  zM 13 5,
  zp 14 1 12 13,
  zL 15 14,
  zb 16 .eql 11 15]
  (zc 16
  (zs [17] [17] [zM 17 5,
  zA 4 17]
  .ret)
  .skip))))
  (zR [18] [18] [zO 18 (.bin .add (.t 8) (zI 1)),
  zM 8 18])))))))
  (zs [] [] [zK 4 (zI (-1))]
  .ret)))⟩
def ir302 : FnIr := ⟨0, 2, 9, [(4, none)], [],
  (zs [] [] [zK 4 (zB false)]
  (zs (zq 5 4 [16]) (zr 5 4) [zM 5 0,
  zM 6 1,
  zC 7 354 [5,6],
  zO 8 (.bin .geq (.t 7) (zI 0)),
  zA 4 8]
  .ret))⟩
def ir287 : FnIr := ⟨0, 2, 25, [(4, none)], [],
  (zs [] [] [zK 4 zE]
  (zs [8] [8] [zO 8 (.bslice [(.int .i64 0)] 0 []),
  zA 5 8]
  (.seq (zs [9,10,11] [] [zM 9 0,
  zl 10 9,
  zO 11 (.move (zI 0))]
  (.block 0 (.loop (zs [12] [] [zb 12 .lss 11 10]
  (.seq (zc 12
  .skip
  (.exit 0))
  (.seq (.block 1 (zs [13,14] [13,14] [zp 13 1 9 11,
  zL 14 13,
  zA 7 14]
  (zs (zq 15 4 [42]) [15,16,17] [zM 15 1,
  zM 16 7,
  zC 17 302 [15,16],
  zn 18 17]
  (zc 18
  (zR (zr 19 4) (zr 19 4) [zM 19 5,
  zM 20 7,
  zO 21 (.bslice [(.int .i64 0)] 1 [(0, (.t 20))]),
  zO 22 (.append 1 (.t 19) (.t 21)),
  zA 5 22])
  .skip))))
  (zR [23] [23] [zO 23 (.bin .add (.t 11) (zI 1)),
  zM 11 23])))))))
  (zs [24] [24] [zM 24 5,
  zA 4 24]
  .ret))))⟩
def ir220 : FnIr := ⟨0, 4, 65, [(8, none)], [],
  (zs [4,5,69,70] [] [zO 4 (.box (.t 0)),
  zO 5 (.box (.t 1)),
  zK 8 (zB false)]
  (.seq (.region true (zq 13 6 [80,83]) (zr 13 6) [zS 13 3 4,
  zM 14 2,
  zv (zO 15 (.call 334 [(.t 13), (.t 14), (zB true)])) [0,1],
  zS 16 3 4,
  zM 17 2,
  zv (zO 18 (.call 334 [(.t 16), (.t 17), (zB false)])) [3,4,2,0,1],
  zv (zA 9 15) [2,0,1,5,3,4],
  zv (zA 10 18) [5,3,4,2,0,1,6]])
  (.seq (.region true (zq 19 6 [86,89]) (zr 19 6) [zS 19 3 5,
  zM 20 3,
  zv (zO 21 (.call 334 [(.t 19), (.t 20), (zB true)])) [0,1],
  zS 22 3 5,
  zM 23 3,
  zv (zO 24 (.call 334 [(.t 22), (.t 23), (zB false)])) [3,4,2,0,1],
  zv (zA 11 21) [2,0,1,5,3,4],
  zv (zA 12 24) [5,3,4,2,0,1,6]])
  (.seq (.block 0 (zs (zq 26 12 [93,99]) (zr 26 12) [zM 26 12,
  zM 27 10,
  zC 28 287 [26,27],
  zl 29 28,
  zO 30 (.bin .gtr (.t 29) (zI 0)),
  zM 31 30,
  zG 32 (.move (.t 9)) 31 false,
  zG 33 (.move (.t 11)) 31 false,
  zG 34 (.call 287 [(.t 32), (.t 33)]) 31 false,
  zG 35 (.len false (.t 34)) 31 false,
  zG 36 (.bin .gtr (.t 35) (zI 0)) 31 false,
  zO 37 (.pick (.t 31) (zB true) (.t 36)),
  zA 25 37]
  (zc 25
  (zs [] [] [zK 8 (zB false)]
  .ret)
  (zs (zr 39 17) (zr 39 17) [zM 39 11,
  zl 40 39,
  zO 41 (.bin .gtr (.t 40) (zI 0)),
  zM 42 9,
  zl 43 42,
  zO 44 (.bin .gtr (.t 43) (zI 0)),
  zO 45 (.beq true (.t 41) (.t 44)),
  zM 46 45,
  zG 47 (.move (.t 12)) 46 false,
  zG 48 (.len false (.t 47)) 46 false,
  zG 49 (.bin .eql (.t 48) (zI 0)) 46 false,
  zG 50 (.move (.t 49)) 46 false,
  zG 51 (.move (.t 10)) 50 true,
  zG 52 (.len false (.t 51)) 50 true,
  zG 53 (.bin .gtr (.t 52) (zI 0)) 50 true,
  zG 54 (.pick (.t 50) (.t 53) (zB false)) 46 false,
  zO 55 (.pick (.t 46) (zB true) (.t 54)),
  zA 38 55]
  (zc 38
  (zs [] [] [zK 8 (zB false)]
  .ret)
  .skip)))))
  (zs (zq 56 9 [123,127]) (zr 56 9) [zS 56 3 4,
  zM 57 2,
  zC 58 335 [56,57],
  zM 59 58,
  zG 60 (.load true 3 (.t 5)) 59 false,
  zG 61 (.move (.t 3)) 59 false,
  zG 62 (.call 335 [(.t 60), (.t 61)]) 59 false,
  zG 63 (.un .not (.t 62)) 59 false,
  zO 64 (.pick (.t 59) (zB true) (.t 63)),
  zA 8 64]
  .ret)))))⟩
def ir213 : FnIr := ⟨0, 2, 34, [(4, none)], [],
  (zs [2,3,36,37] [] [zO 2 (.box (.t 0)),
  zO 3 (.box (.t 1)),
  zK 4 (zB false)]
  (.seq (zs (zq 7 8 [42,46]) (zr 7 7) [zS 7 3 2,
  zC 8 214 [7],
  zn 9 8,
  zM 10 9,
  zG 11 (.load true 3 (.t 3)) 10 false,
  zG 12 (.call 214 [(.t 11)]) 10 false,
  zG 13 (.un .not (.t 12)) 10 false,
  zO 14 (.pick (.t 10) (zB true) (.t 13))]
  (zc 14
  (zs [] [] [zK 4 (zB false)]
  .ret)
  .skip))
  (.seq (zs (zq 15 5 [51]) [15,16] [zS 15 3 2,
  zS 16 3 3,
  zC 17 219 [15,16],
  zl 18 17,
  zO 19 (.move (zI 0))]
  (.block 0 (.loop (zs [20] [] [zb 20 .lss 19 18]
  (.seq (zc 20
  .skip
  (.exit 0))
  (.seq (.block 1 (zs [21,22] [21,22] [zp 21 1 17 19,
  zL 22 21,
  zA 6 22]
  (.seq (.region true (zq 23 10 [65]) (zr 23 9) [zS 23 3 2,
  zS 24 3 3,
  zM 25 6,
  zv (zO 26 (.iaddr 1 (.t 25) (zI 0))) [2],
  zv (zL 27 26) [3,2],
  zM 28 6,
  zv (zO 29 (.iaddr 1 (.t 28) (zI 1))) [5],
  zv (zL 30 29) [6,5],
  zv (zC 31 220 [23,24,27,30]) [0,1,4,3,2,7,6,5],
  zv (zn 32 31) [8,0,1,4,3,2,7,6,5]])
  (zc 32
  (zs [] [] [zK 4 (zB false)]
  .ret)
  .skip))))
  (zR [33] [33] [zO 33 (.bin .add (.t 19) (zI 1)),
  zM 19 33])))))))
  (zs [] [] [zK 4 (zB true)]
  .ret))))⟩
def ir326 : FnIr := ⟨0, 1, 80, [(2, none)], [],
  (zs [1,81] [] [zO 1 (.box (.t 0)),
  zK 2 (zB false)]
  (.seq (zs (zq 5 18 [87]) (zr 5 17) [zF 5 0 1,
  zL 6 5,
  zO 7 (.call 230 [(.t 6), (zI 1), (zI 6)]),
  zn 8 7,
  zM 9 8,
  zG 10 (.faddr 1 (.t 1)) 9 false,
  zG 11 (.load false 1 (.t 10)) 9 false,
  zG 12 (.len false (.t 11)) 9 false,
  zG 13 (.faddr 0 (.t 1)) 9 false,
  zG 14 (.load false 1 (.t 13)) 9 false,
  zG 15 (.bin .neq (.t 12) (.t 14)) 9 false,
  zO 16 (.pick (.t 9) (zB true) (.t 15)),
  zM 17 16,
  zG 18 (.faddr 2 (.t 1)) 17 false,
  zG 19 (.load false 1 (.t 18)) 17 false,
  zG 20 (.len false (.t 19)) 17 false,
  zG 21 (.bin .gtr (.t 20) (zI 12)) 17 false,
  zO 22 (.pick (.t 17) (zB true) (.t 21))]
  (zc 22
  (zs [] [] [zK 2 (zB false)]
  .ret)
  .skip))
  (.seq (zs [] [] [zK 3 (zI 0)]
  (.block 0 (.loop (.seq (zs (zr 23 5) (zr 23 4) [zM 23 3,
  zF 24 2 1,
  zL 25 24,
  zl 26 25,
  zb 27 .lss 23 26]
  (zc 27
  .skip
  (.exit 0)))
  (.seq (.block 1 (zs (zq 30 5 [4,84]) (zr 30 5) [zF 30 2 1,
  zL 31 30,
  zM 32 3,
  zp 33 4 31 32,
  zS 34 4 33,
  zO 4 (.alloc [(.int .i64 0), (.bool false), (.int .i64 0), (.int .i64 0)]),
  zN (.store 4 (.t 4) (.t 34))]
  (zs (zq 35 45 [120,128,134,145,156]) (zr 35 44) [zF 35 0 4,
  zL 36 35,
  zF 37 0 1,
  zL 38 37,
  zO 39 (.bin .sub (.t 38) (zI 1)),
  zO 40 (.call 230 [(.t 36), (zI 0), (.t 39)]),
  zn 41 40,
  zM 42 41,
  zG 43 (.faddr 3 (.t 4)) 42 false,
  zG 44 (.load false 1 (.t 43)) 42 false,
  zG 45 (.faddr 0 (.t 1)) 42 false,
  zG 46 (.load false 1 (.t 45)) 42 false,
  zG 47 (.bin .sub (.t 46) (zI 1)) 42 false,
  zG 48 (.call 230 [(.t 44), (zI 0), (.t 47)]) 42 false,
  zG 49 (.un .not (.t 48)) 42 false,
  zO 50 (.pick (.t 42) (zB true) (.t 49)),
  zM 51 50,
  zG 52 (.faddr 2 (.t 4)) 51 false,
  zG 53 (.load false 1 (.t 52)) 51 false,
  zG 54 (.call 230 [(.t 53), (zI 0), (zI 5)]) 51 false,
  zG 55 (.un .not (.t 54)) 51 false,
  zO 56 (.pick (.t 51) (zB true) (.t 55)),
  zM 57 56,
  zG 58 (.load true 3 (.t 1)) 57 false,
  zG 59 (.faddr 0 (.t 4)) 57 false,
  zG 60 (.load false 1 (.t 59)) 57 false,
  zG 61 (.faddr 1 (.t 4)) 57 false,
  zG 62 (.load false 1 (.t 61)) 57 false,
  zG 63 (.faddr 2 (.t 4)) 57 false,
  zG 64 (.load false 1 (.t 63)) 57 false,
  zG 65 (.call 366 [(.t 58), (.t 60), (.t 62), (.t 64)]) 57 false,
  zG 66 (.move (.t 3)) 57 false,
  zG 67 (.bin .lss (.t 65) (.t 66)) 57 false,
  zO 68 (.pick (.t 57) (zB true) (.t 67)),
  zM 69 68,
  zG 70 (.load true 3 (.t 1)) 69 false,
  zG 71 (.faddr 0 (.t 4)) 69 false,
  zG 72 (.load false 1 (.t 71)) 69 false,
  zG 73 (.faddr 1 (.t 4)) 69 false,
  zG 74 (.load false 1 (.t 73)) 69 false,
  zG 75 (.un .not (.t 74)) 69 false,
  zG 76 (.call 367 [(.t 70), (.t 72), (.t 75)]) 69 false,
  zG 77 (.len false (.t 76)) 69 false,
  zG 78 (.bin .gtr (.t 77) (zI 0)) 69 false,
  zO 79 (.pick (.t 69) (zB true) (.t 78))]
  (zc 79
  (zs [] [] [zK 2 (zB false)]
  .ret)
  .skip))))
  (zR [28,29] [28,29] [zM 28 3,
  zO 29 (.bin .add (.t 28) (zI 1)),
  zA 3 29]))))))
  (zs [] [] [zK 2 (zB true)]
  .ret))))⟩
def ir369 : FnIr := ⟨0, 2, 19, [(4, none)], [],
  (zs [] [] [zK 4 (zB false)]
  (.seq (zs [] [] [zK 5 (zI 0)]
  (.block 0 (.loop (.seq (zs (zr 6 4) [6,7,8] [zM 6 5,
  zM 7 0,
  zl 8 7,
  zb 9 .lss 6 8]
  (zc 9
  .skip
  (.exit 0)))
  (.seq (.block 1 (zs (zq 12 7 [36]) (zr 12 6) [zM 12 1,
  zM 13 0,
  zM 14 5,
  zp 15 1 13 14,
  zL 16 15,
  zC 17 285 [12,16],
  zn 18 17]
  (zc 18
  (zs [] [] [zK 4 (zB false)]
  .ret)
  .skip)))
  (zR [10,11] [10,11] [zM 10 5,
  zO 11 (.bin .add (.t 10) (zI 1)),
  zA 5 11]))))))
  (zs [] [] [zK 4 (zB true)]
  .ret)))⟩
def ir370 : FnIr := ⟨0, 2, 18, [(4, none)], [],
  (zs [2,20] [] [zO 2 (.box (.t 0)),
  zK 4 (zB false)]
  (zs (zq 5 13 [28]) (zr 5 13) [zM 5 1,
  zF 6 1 2,
  zL 7 6,
  zl 8 7,
  zO 9 (.bin .sub (.t 8) (zI 1)),
  zO 10 (.call 230 [(.t 5), (zI 0), (.t 9)]),
  zM 11 10,
  zG 12 (.faddr 1 (.t 2)) 11 true,
  zG 13 (.load false 1 (.t 12)) 11 true,
  zG 14 (.move (.t 1)) 11 true,
  zG 15 (.iaddr 1 (.t 13) (.t 14)) 11 true,
  zG 16 (.load false 1 (.t 15)) 11 true,
  zO 17 (.pick (.t 11) (.t 16) (zB false)),
  zA 4 17]
  .ret))⟩
def ir328 : FnIr := ⟨0, 4, 63, [(8, none)], [],
  (zs [4,5,67,68] [] [zO 4 (.box (.t 0)),
  zO 5 (.box (.t 1)),
  zK 8 (zB false)]
  (zs [13,14,15,78] [13,14,15] [zS 13 3 4,
  zM 14 2,
  zO 15 (.call 367 [(.t 13), (.t 14), (zB true)]),
  zA 9 15]
  (zs [16,17,18,81] [16,17,18] [zS 16 3 5,
  zM 17 3,
  zO 18 (.call 367 [(.t 16), (.t 17), (zB true)]),
  zA 10 18]
  (zs [19,20,21,84] [19,20,21] [zS 19 3 4,
  zM 20 2,
  zO 21 (.call 367 [(.t 19), (.t 20), (zB false)]),
  zA 11 21]
  (zs [22,23,24,87] [22,23,24] [zS 22 3 5,
  zM 23 3,
  zO 24 (.call 367 [(.t 22), (.t 23), (zB false)]),
  zA 12 24]
  (.seq (zs (zq 25 29 [90,95]) (zr 25 28) [zM 25 12,
  zM 26 11,
  zC 27 369 [25,26],
  zn 28 27,
  zM 29 28,
  zG 30 (.move (.t 9)) 29 false,
  zG 31 (.move (.t 10)) 29 false,
  zG 32 (.call 369 [(.t 30), (.t 31)]) 29 false,
  zG 33 (.un .not (.t 32)) 29 false,
  zO 34 (.pick (.t 29) (zB true) (.t 33)),
  zM 35 34,
  zG 36 (.move (.t 10)) 35 false,
  zG 37 (.len false (.t 36)) 35 false,
  zG 38 (.bin .gtr (.t 37) (zI 0)) 35 false,
  zG 39 (.move (.t 9)) 35 false,
  zG 40 (.len false (.t 39)) 35 false,
  zG 41 (.bin .gtr (.t 40) (zI 0)) 35 false,
  zG 42 (.beq true (.t 38) (.t 41)) 35 false,
  zO 43 (.pick (.t 35) (zB true) (.t 42)),
  zM 44 43,
  zG 45 (.move (.t 12)) 44 false,
  zG 46 (.len false (.t 45)) 44 false,
  zG 47 (.bin .eql (.t 46) (zI 0)) 44 false,
  zG 48 (.move (.t 47)) 44 false,
  zG 49 (.move (.t 11)) 48 true,
  zG 50 (.len false (.t 49)) 48 true,
  zG 51 (.bin .gtr (.t 50) (zI 0)) 48 true,
  zG 52 (.pick (.t 48) (.t 51) (zB false)) 44 false,
  zO 53 (.pick (.t 44) (zB true) (.t 52))]
  (zc 53
  (zs [] [] [zK 8 (zB false)]
  .ret)
  .skip))
  (zs (zq 54 9 [119,124]) (zr 54 9) [zS 54 3 5,
  zM 55 3,
  zC 56 370 [54,55],
  zn 57 56,
  zM 58 57,
  zG 59 (.load true 3 (.t 4)) 58 false,
  zG 60 (.move (.t 2)) 58 false,
  zG 61 (.call 370 [(.t 59), (.t 60)]) 58 false,
  zO 62 (.pick (.t 58) (zB true) (.t 61)),
  zA 8 62]
  .ret)))))))⟩
def ir228 : FnIr := ⟨0, 2, 26, [(4, none)], [],
  (zs [] [] [zK 4 (zB false)]
  (.seq (zs (zr 6 5) (zr 6 4) [zM 6 0,
  zl 7 6,
  zM 8 1,
  zl 9 8,
  zb 10 .neq 7 9]
  (zc 10
  (zs [] [] [zK 4 (zB false)]
  .ret)
  .skip))
  (.seq (zs [] [] [zK 5 (zI 0)]
  (.block 0 (.loop (.seq (zs (zr 11 4) [11,12,13] [zM 11 5,
  zM 12 0,
  zl 13 12,
  zb 14 .lss 11 13]
  (zc 14
  .skip
  (.exit 0)))
  (.seq (.block 1 (.seq (.region true (zr 17 9) (zr 17 8) [zM 17 0,
  zM 18 5,
  zv (zp 19 1 17 18) [0,1],
  zv (zL 20 19) [2,0,1],
  zM 21 1,
  zM 22 5,
  zv (zp 23 1 21 22) [4,5],
  zv (zL 24 23) [6,4,5],
  zv (zb 25 .neq 20 24) [3,2,0,1,7,6,4,5]])
  (zc 25
  (zs [] [] [zK 4 (zB false)]
  .ret)
  .skip)))
  (zR [15,16] [15,16] [zM 15 5,
  zO 16 (.bin .add (.t 15) (zI 1)),
  zA 5 16]))))))
  (zs [] [] [zK 4 (zB true)]
  .ret))))⟩
def ir368 : FnIr := ⟨0, 2, 18, [(4, none)], [],
  (zs [] [] [zK 4 (zB false)]
  (.seq (zs [] [] [zK 5 (zI 0)]
  (.block 0 (.loop (.seq (zs (zr 6 4) [6,7,8] [zM 6 5,
  zM 7 0,
  zl 8 7,
  zb 9 .lss 6 8]
  (zc 9
  .skip
  (.exit 0)))
  (.seq (.block 1 (zs (zq 12 6 [35]) (zr 12 5) [zM 12 0,
  zM 13 5,
  zp 14 1 12 13,
  zL 15 14,
  zM 16 1,
  zC 17 228 [15,16]]
  (zc 17
  (zs [] [] [zK 4 (zB true)]
  .ret)
  .skip)))
  (zR [10,11] [10,11] [zM 10 5,
  zO 11 (.bin .add (.t 10) (zI 1)),
  zA 5 11]))))))
  (zs [] [] [zK 4 (zB false)]
  .ret)))⟩
def ir327 : FnIr := ⟨0, 2, 111, [(4, none)], [],
  (zs [2,3,113,114] [] [zO 2 (.box (.t 0)),
  zO 3 (.box (.t 1)),
  zK 4 zE]
  (zs [15] [15] [zO 15 (.bslice [(.row () [])] 0 []),
  zA 5 15]
  (.seq (zs (zq 16 8 [128,132]) (zr 16 7) [zS 16 3 2,
  zC 17 326 [16],
  zn 18 17,
  zM 19 18,
  zG 20 (.load true 3 (.t 3)) 19 false,
  zG 21 (.call 326 [(.t 20)]) 19 false,
  zG 22 (.un .not (.t 21)) 19 false,
  zO 23 (.pick (.t 19) (zB true) (.t 22))]
  (zc 23
  (zs [24] [24] [zM 24 5,
  zA 4 24]
  .ret)
  .skip))
  (zs (zr 25 4) (zr 25 4) [zM 25 5,
  zO 26 (.bslice [(.int .i64 0)] 2 [(0, (zI 0)), (1, (zI 0))]),
  zO 27 (.bslice [(.row () [])] 1 [(0, (.t 26))]),
  zO 28 (.append 1 (.t 25) (.t 27)),
  zA 5 28]
  (.seq (zs [] [] [zK 6 (zI 0)]
  (.block 0 (.loop (.seq (zs (zr 29 4) [29,30,31] [zM 29 6,
  zM 30 5,
  zl 31 30,
  zb 32 .lss 29 31]
  (zc 32
  .skip
  (.exit 0)))
  (.seq (.block 1 (zs (zr 35 6) (zr 35 6) [zM 35 5,
  zM 36 6,
  zp 37 1 35 36,
  zL 38 37,
  zO 39 (.iaddr 1 (.t 38) (zI 0)),
  zL 40 39,
  zA 7 40]
  (zs (zr 41 6) (zr 41 6) [zM 41 5,
  zM 42 6,
  zp 43 1 41 42,
  zL 44 43,
  zO 45 (.iaddr 1 (.t 44) (zI 1)),
  zL 46 45,
  zA 8 46]
  (zs [] [] [zK 9 (zI 1)]
  (.block 2 (.loop (.seq (zs [47,48] [47] [zM 47 9,
  zO 48 (.bin .geq (.t 47) (zI 0))]
  (zc 48
  .skip
  (.exit 2)))
  (.seq (.block 3 (zs [51,52,53,164] [51,52,53] [zS 51 3 2,
  zM 52 7,
  zO 53 (.call 367 [(.t 51), (.t 52), (zB true)]),
  zA 10 53]
  (.seq (zs [54,55] [54] [zM 54 9,
  zO 55 (.bin .eql (.t 54) (zI 0))]
  (zc 55
  (zR [56,57,58,169] [56,57,58] [zS 56 3 3,
  zM 57 8,
  zO 58 (.call 367 [(.t 56), (.t 57), (zB false)]),
  zA 10 58])
  .skip))
  (zs [] [] [zK 11 (zI 0)]
  (.block 4 (.loop (.seq (zs (zr 59 4) [59,60,61] [zM 59 11,
  zM 60 10,
  zl 61 60,
  zb 62 .lss 59 61]
  (zc 62
  .skip
  (.exit 4)))
  (.seq (.block 5 (.seq (.region true (zq 65 9 [184]) (zr 65 9) [zS 65 3 2,
  zM 66 7,
  zM 67 9,
  zv (zO 68 (.bin .eql (.t 67) (zI 1))) [2],
  zM 69 10,
  zM 70 11,
  zv (zp 71 1 69 70) [4,5],
  zv (zL 72 71) [6,4,5],
  zv (zC 73 366 [65,66,68,72]) [0,1,3,2,7,6,4,5],
  zv (zA 12 73) [8,0,1,3,2,7,6,4,5]])
  (.seq (.region true (zq 74 9 [193]) (zr 74 9) [zS 74 3 3,
  zM 75 8,
  zM 76 9,
  zv (zO 77 (.bin .eql (.t 76) (zI 1))) [2],
  zM 78 10,
  zM 79 11,
  zv (zp 80 1 78 79) [4,5],
  zv (zL 81 80) [6,4,5],
  zv (zC 82 366 [74,75,77,81]) [0,1,3,2,7,6,4,5],
  zv (zA 13 82) [8,0,1,3,2,7,6,4,5]])
  (.seq (zs (zr 83 6) (zr 83 5) [zM 83 12,
  zO 84 (.bin .lss (.t 83) (zI 0)),
  zM 85 84,
  zG 86 (.move (.t 13)) 85 false,
  zG 87 (.bin .lss (.t 86) (zI 0)) 85 false,
  zO 88 (.pick (.t 85) (zB true) (.t 87))]
  (zc 88
  (.exit 5)
  .skip))
  (.seq (.region true (zr 89 13) (zr 89 13) [zF 89 2 2,
  zv (zL 90 89) [0],
  zM 91 12,
  zv (zp 92 4 90 91) [1,0,2],
  zv (zF 93 3 92) [3,1,0,2],
  zv (zL 94 93) [4,3,1,0,2],
  zF 95 2 3,
  zv (zL 96 95) [6],
  zM 97 13,
  zv (zp 98 4 96 97) [7,6,8],
  zv (zF 99 3 98) [9,7,6,8],
  zv (zL 100 99) [10,9,7,6,8],
  zv (zO 101 (.bslice [(.int .i64 0)] 2 [(0, (.t 94)), (1, (.t 100))])) [5,4,3,1,0,2,11,10,9,7,6,8],
  zv (zA 14 101) [12,5,4,3,1,0,2,11,10,9,7,6,8]])
  (zs (zq 102 4 [215]) [102,103,104] [zM 102 5,
  zM 103 14,
  zC 104 368 [102,103],
  zn 105 104]
  (zc 105
  (zR (zr 106 4) (zr 106 4) [zM 106 5,
  zM 107 14,
  zO 108 (.bslice [(.row () [])] 1 [(0, (.t 107))]),
  zO 109 (.append 1 (.t 106) (.t 108)),
  zA 5 109])
  .skip)))))))
  (zR [63,64] [63,64] [zM 63 11,
  zO 64 (.bin .add (.t 63) (zI 1)),
  zA 11 64])))))))))
  (zR [49,50] [49,50] [zM 49 9,
  zO 50 (.bin .sub (.t 49) (zI 1)),
  zA 9 50])))))))))
  (zR [33,34] [33,34] [zM 33 6,
  zO 34 (.bin .add (.t 33) (zI 1)),
  zA 6 34]))))))
  (zs [110] [110] [zM 110 5,
  zA 4 110]
  .ret))))))⟩
def ir215 : FnIr := ⟨0, 2, 40, [(4, none)], [],
  (zs [2,3,42,43] [] [zO 2 (.box (.t 0)),
  zO 3 (.box (.t 1)),
  zK 4 (zB false)]
  (.seq (zs (zq 7 8 [48,52]) (zr 7 7) [zS 7 3 2,
  zC 8 326 [7],
  zn 9 8,
  zM 10 9,
  zG 11 (.load true 3 (.t 3)) 10 false,
  zG 12 (.call 326 [(.t 11)]) 10 false,
  zG 13 (.un .not (.t 12)) 10 false,
  zO 14 (.pick (.t 10) (zB true) (.t 13))]
  (zc 14
  (zs [] [] [zK 4 (zB false)]
  .ret)
  .skip))
  (zs [15,16,17,57] [15,16,17] [zS 15 3 2,
  zS 16 3 3,
  zC 17 327 [15,16],
  zA 5 17]
  (.seq (zs [] [] [zK 6 (zI 0)]
  (.block 0 (.loop (.seq (zs (zr 18 4) [18,19,20] [zM 18 6,
  zM 19 5,
  zl 20 19,
  zb 21 .lss 18 20]
  (zc 21
  .skip
  (.exit 0)))
  (.seq (.block 1 (.seq (.region true (zq 24 16 [78]) (zr 24 15) [zS 24 3 2,
  zS 25 3 3,
  zM 26 5,
  zM 27 6,
  zv (zp 28 1 26 27) [2,3],
  zv (zL 29 28) [4,2,3],
  zv (zO 30 (.iaddr 1 (.t 29) (zI 0))) [5,4,2,3],
  zv (zL 31 30) [6,5,4,2,3],
  zM 32 5,
  zM 33 6,
  zv (zp 34 1 32 33) [8,9],
  zv (zL 35 34) [10,8,9],
  zv (zO 36 (.iaddr 1 (.t 35) (zI 1))) [11,10,8,9],
  zv (zL 37 36) [12,11,10,8,9],
  zv (zC 38 328 [24,25,31,37]) [0,1,7,6,5,4,2,3,13,12,11,10,8,9],
  zv (zn 39 38) [14,0,1,7,6,5,4,2,3,13,12,11,10,8,9]])
  (zc 39
  (zs [] [] [zK 4 (zB false)]
  .ret)
  .skip)))
  (zR [22,23] [22,23] [zM 22 6,
  zO 23 (.bin .add (.t 22) (zI 1)),
  zA 6 23]))))))
  (zs [] [] [zK 4 (zB true)]
  .ret)))))⟩
def ir381 : FnIr := ⟨0, 4, 12, [(6, none)], [],
  (zs [] [] [zK 6 zE]
  (zs (zq 7 5 [23]) (zr 7 5) [zS 7 3 2,
  zS 8 3 3,
  zM 9 0,
  zM 10 1,
  zC 11 382 [7,8,9,10],
  zA 6 11]
  .ret))⟩
def ir371 : FnIr := ⟨0, 2, 15, [(4, none)], [],
  (zs [2,3,17,18] [] [zO 2 (.box (.t 0)),
  zO 3 (.box (.t 1)),
  zK 4 zE]
  (.seq (zs (zq 5 8 [21,25]) (zr 5 7) [zS 5 3 2,
  zC 6 214 [5],
  zn 7 6,
  zM 8 7,
  zG 9 (.load true 3 (.t 3)) 8 false,
  zG 10 (.call 214 [(.t 9)]) 8 false,
  zG 11 (.un .not (.t 10)) 8 false,
  zO 12 (.pick (.t 8) (zB true) (.t 11))]
  (zc 12
  (zs [] [] [zK 4 zE]
  .ret)
  .skip))
  (zs [13,14,29] [13,14] [zO 13 (.mkfn 381 [2, 3]),
  zC 14 331 [13],
  zA 4 14]
  .ret)))⟩
def ir372 : FnIr := ⟨0, 4, 49, [(8, none)], [],
  (zs [4,5,53,54] [] [zO 4 (.box (.t 0)),
  zO 5 (.box (.t 1)),
  zK 8 (zI 0)]
  (.seq (.block 0 (.seq (.region true (zq 10 20 [61,64,65,71,74,75]) (zr 10 20) [zS 10 3 4,
  zM 11 2,
  zv (zO 12 (.call 334 [(.t 10), (.t 11), (zB true)])) [0,1],
  zS 13 3 5,
  zM 14 3,
  zv (zO 15 (.call 334 [(.t 13), (.t 14), (zB false)])) [3,4,2,0,1],
  zv (zC 16 287 [12,15]) [2,0,1,5,3,4],
  zv (zl 17 16) [6,2,0,1,5,3,4],
  zv (zO 18 (.bin .gtr (.t 17) (zI 0))) [7,6,2,0,1,5,3,4],
  zv (zM 19 18) [8,7,6,2,0,1,5,3,4],
  zv (zG 20 (.load true 3 (.t 5)) 19 false) [9,8,7,6,2,0,1,5,3,4],
  zv (zG 21 (.move (.t 3)) 19 false) [9,8,7,6,2,0,1,5,3,4],
  zv (zG 22 (.call 334 [(.t 20), (.t 21), (zB true)]) 19 false) [10,9,8,7,6,2,0,1,5,3,4,11],
  zv (zG 23 (.load true 3 (.t 4)) 19 false) [9,8,7,6,2,0,1,5,3,4],
  zv (zG 24 (.move (.t 2)) 19 false) [9,8,7,6,2,0,1,5,3,4],
  zv (zG 25 (.call 334 [(.t 23), (.t 24), (zB false)]) 19 false) [13,9,8,7,6,2,0,1,5,3,4,14,12,10,11],
  zv (zG 26 (.call 287 [(.t 22), (.t 25)]) 19 false) [12,10,9,8,7,6,2,0,1,5,3,4,11,15,13,14],
  zv (zG 27 (.len false (.t 26)) 19 false) [16,12,10,9,8,7,6,2,0,1,5,3,4,11,15,13,14],
  zv (zG 28 (.bin .gtr (.t 27) (zI 0)) 19 false) [17,16,12,10,9,8,7,6,2,0,1,5,3,4,11,15,13,14],
  zv (zO 29 (.pick (.t 19) (zB true) (.t 28))) [9,8,7,6,2,0,1,5,3,4,18,17,16,12,10,11,15,13,14],
  zv (zA 9 29) [19,9,8,7,6,2,0,1,5,3,4,18,17,16,12,10,11,15,13,14]])
  (zc 9
  (zs [] [] [zK 8 (zI 1)]
  .ret)
  (zs (zq 31 18 [84,90,94]) (zr 31 18) [zS 31 3 4,
  zS 32 3 5,
  zM 33 2,
  zM 34 3,
  zC 35 382 [31,32,33,34],
  zl 36 35,
  zO 37 (.bin .eql (.t 36) (zI 0)),
  zM 38 37,
  zG 39 (.load true 3 (.t 4)) 38 true,
  zG 40 (.move (.t 2)) 38 true,
  zG 41 (.call 335 [(.t 39), (.t 40)]) 38 true,
  zG 42 (.move (.t 41)) 38 true,
  zG 43 (.load true 3 (.t 5)) 42 true,
  zG 44 (.move (.t 3)) 42 true,
  zG 45 (.call 335 [(.t 43), (.t 44)]) 42 true,
  zG 46 (.pick (.t 42) (.t 45) (zB false)) 38 true,
  zG 47 (.un .not (.t 46)) 38 true,
  zO 48 (.pick (.t 38) (.t 47) (zB false)),
  zA 30 48]
  (zc 30
  (zs [] [] [zK 8 (zI 2)]
  .ret)
  .skip)))))
  (zs [] [] [zK 8 (zI 0)]
  .ret)))⟩
def ir329 : FnIr := ⟨0, 2, 27, [(4, none)], [],
  (zs [2,3,29,30] [] [zO 2 (.box (.t 0)),
  zO 3 (.box (.t 1)),
  zK 4 zE]
  (.seq (zs (zq 7 5 [36]) [7,8] [zS 7 3 2,
  zS 8 3 3,
  zC 9 371 [7,8],
  zl 10 9,
  zO 11 (.move (zI 0))]
  (.block 0 (.loop (zs [12] [] [zb 12 .lss 11 10]
  (.seq (zc 12
  .skip
  (.exit 0))
  (.seq (.block 1 (zs [13,14] [13,14] [zp 13 1 9 11,
  zL 14 13,
  zA 6 14]
  (.seq (.region true (zq 15 10 [50]) (zr 15 9) [zS 15 3 2,
  zS 16 3 3,
  zM 17 6,
  zv (zO 18 (.iaddr 1 (.t 17) (zI 0))) [2],
  zv (zL 19 18) [3,2],
  zM 20 6,
  zv (zO 21 (.iaddr 1 (.t 20) (zI 1))) [5],
  zv (zL 22 21) [6,5],
  zv (zC 23 372 [15,16,19,22]) [0,1,4,3,2,7,6,5],
  zv (zO 24 (.bin .neq (.t 23) (zI 0))) [8,0,1,4,3,2,7,6,5]])
  (zc 24
  (zs [25] [25] [zM 25 6,
  zA 4 25]
  .ret)
  .skip))))
  (zR [26] [26] [zO 26 (.bin .add (.t 11) (zI 1)),
  zM 11 26])))))))
  (zs [] [] [zK 4 zE]
  .ret)))⟩
def ir216 : FnIr := ⟨0, 2, 18, [(4, none)], [],
  (zs [2,3,20,21] [] [zO 2 (.box (.t 0)),
  zO 3 (.box (.t 1)),
  zK 4 (zB false)]
  (zs (zq 5 13 [24,27,32]) (zr 5 13) [zS 5 3 2,
  zC 6 214 [5],
  zM 7 6,
  zG 8 (.load true 3 (.t 3)) 7 true,
  zG 9 (.call 214 [(.t 8)]) 7 true,
  zO 10 (.pick (.t 7) (.t 9) (zB false)),
  zM 11 10,
  zG 12 (.load true 3 (.t 2)) 11 true,
  zG 13 (.load true 3 (.t 3)) 11 true,
  zG 14 (.call 329 [(.t 12), (.t 13)]) 11 true,
  zG 15 (.len false (.t 14)) 11 true,
  zG 16 (.bin .eql (.t 15) (zI 0)) 11 true,
  zO 17 (.pick (.t 11) (.t 16) (zB false)),
  zA 4 17]
  .ret))⟩
def ir3373 : FnIr := ⟨0, 1, 85, [(2, (some (true, 3))), (3, (some (true, 3)))], [.mbox],
  (zs [2,3,87,88] [] [zO 2 (.alloc [(.int .i64 0), (.row () []), (.row () [])]),
  zO 3 (.alloc [(.int .i64 0), (.row () []), (.row () [])])]
  (zs [9,10,4,95,89] [9,10] [zM 9 0,
  zC 10 3363 [9],
  zO 4 (.alloc [(.int .i64 0), (.row () []), (.row () [])]),
  zN (.store 3 (.t 4) (.t 10))]
  (zs [11,12,5,97,90] [11,12] [zS 11 3 4,
  zC 12 380 [11],
  zO 5 (.alloc [(.int .i64 0), (.row () []), (.row () [])]),
  zN (.store 3 (.t 5) (.t 12))]
  (.seq (zs [13,14,99] [13,14] [zM 13 0,
  zO 14 (.call 3317 [(.t 13), (zI 3)]),
  zA 6 14]
  (.block 0 (.loop (.seq (zs (zr 15 8) (zr 15 7) [zM 15 6,
  zO 16 (.bin .gtr (.t 15) (zI 0)),
  zM 17 16,
  zG 18 (.faddr 2 (.t 5)) 17 true,
  zG 19 (.load false 1 (.t 18)) 17 true,
  zG 20 (.len false (.t 19)) 17 true,
  zG 21 (.bin .gtr (.t 20) (zI 0)) 17 true,
  zO 22 (.pick (.t 17) (.t 21) (zB false))]
  (zc 22
  .skip
  (.exit 0)))
  (.seq (.block 1 (zs (zq 25 5 [114]) (zr 25 5) [zM 25 0,
  zF 26 2 5,
  zL 27 26,
  zl 28 27,
  zC 29 3317 [25,28],
  zA 7 29]
  (zs [30,31,116] [30] [zM 30 0,
  zO 31 (.call 3317 [(.t 30), (zI 4)])]
  (.block 2 (zs [33] [33] [zO 33 (.bin .eql (.t 31) (zI 0)),
  zA 32 33]
  (zc 32
  (.region true (zr 34 13) (zr 34 13) [zO 34 (.bslice [(.int .i64 0), (.bool false), (.int .i64 0), (.int .i64 0)] 0 []),
  zF 35 2 5,
  zv (zL 36 35) [1],
  zM 37 7,
  zv (zO 38 (.slice 4 (.t 36) none (some (.t 37)))) [2,1,3],
  zv (zO 39 (.append 4 (.t 34) (.t 38))) [0,4,2,1,3],
  zF 40 2 5,
  zv (zL 41 40) [6],
  zM 42 7,
  zv (zO 43 (.bin .add (.t 42) (zI 1))) [8],
  zv (zO 44 (.slice 4 (.t 41) (some (.t 43)) none)) [7,6,9,8],
  zv (zO 45 (.append 4 (.t 39) (.t 44))) [5,0,4,2,1,3,10,7,6,9,8],
  zv (zF 46 2 5) [0,1,2,3,4,5,6,7,8,9,10,11],
  zv (zN (.store 1 (.t 46) (.t 45))) [12,0,1,2,3,4,5,6,7,8,9,10,11]])
  (zs [48] [48] [zO 48 (.bin .eql (.t 31) (zI 1)),
  zA 47 48]
  (zc 47
  (zs (zq 49 5 [8,93]) (zr 49 5) [zF 49 2 5,
  zL 50 49,
  zM 51 7,
  zp 52 4 50 51,
  zS 53 4 52,
  zO 8 (.alloc [(.int .i64 0), (.bool false), (.int .i64 0), (.int .i64 0)]),
  zN (.store 4 (.t 8) (.t 53))]
  (zs [54,55,56,140] [54,55,56] [zM 54 0,
  zO 55 (.call 3317 [(.t 54), (zI 4)]),
  zF 56 2 8,
  zN (.store 1 (.t 56) (.t 55))]
  (zs (zq 57 9 [149]) (zr 57 8) [zS 57 3 5,
  zF 58 0 8,
  zL 59 58,
  zF 60 1 8,
  zL 61 60,
  zF 62 2 8,
  zL 63 62,
  zC 64 366 [57,59,61,63],
  zO 65 (.bin .lss (.t 64) (zI 0))]
  (zc 65
  (zR (zr 66 6) (zr 66 6) [zF 66 2 5,
  zL 67 66,
  zS 68 4 8,
  zO 69 (.bslice [(.int .i64 0), (.bool false), (.int .i64 0), (.int .i64 0)] 1 [(0, (.t 68))]),
  zO 70 (.append 4 (.t 67) (.t 69)),
  zF 71 2 5,
  zN (.store 1 (.t 71) (.t 70))])
  .skip))))
  (zs [73] [73] [zO 73 (.bin .eql (.t 31) (zI 2)),
  zA 72 73]
  (zc 72
  (.region true (zq 74 9 [165]) (zr 74 9) [zF 74 2 5,
  zv (zL 75 74) [0],
  zM 76 7,
  zM 77 0,
  zF 78 0 5,
  zv (zL 79 78) [4],
  zv (zC 80 3317 [77,79]) [3,5,4],
  zv (zp 81 4 75 76) [1,0,2,3,4,5,6],
  zv (zF 82 3 81) [7,1,0,2,3,4,5,6],
  zv (zN (.rstore 1 (.t 82) (.t 80))) [8,7,1,0,2,3,4,5,6]])
  .skip))))))))))
  (zR [23,24] [23,24] [zM 23 6,
  zO 24 (.bin .sub (.t 23) (zI 1)),
  zA 6 24]))))))
  (.seq (.region true [83,84] [83,84] [zS 83 3 4,
  zS 84 3 5,
  zv (zN (.store 3 (.t 2) (.t 83))) [0],
  zv (zN (.store 3 (.t 3) (.t 84))) [1,2,0]])
  .ret)))))⟩
def ir3330 : FnIr := ⟨0, 1, 25, [(2, (some (true, 3))), (3, (some (true, 3)))], [.mbox],
  (zs [2,3,27,28] [] [zO 2 (.alloc [(.int .i64 0), (.row () []), (.row () [])]),
  zO 3 (.alloc [(.int .i64 0), (.row () []), (.row () [])])]
  (zs [7,8,6,9,10,4,5,33,29,30] [7,8,6,9,10] [zM 7 0,
  zC 8 3373 [7],
  zM 6 8,
  zO 9 (.extract 0 (.t 6)),
  zO 10 (.extract 1 (.t 6)),
  zO 4 (.alloc [(.int .i64 0), (.row () []), (.row () [])]),
  zO 5 (.alloc [(.int .i64 0), (.row () []), (.row () [])]),
  zN (.store 3 (.t 4) (.t 9)),
  zN (.store 3 (.t 5) (.t 10))]
  (.seq (zs [11,12,37] [11] [zM 11 0,
  zO 12 (.call 3317 [(.t 11), (zI 6)])]
  (.block 0 (zs [14] [14] [zO 14 (.bin .eql (.t 12) (zI 0)),
  zA 13 14]
  (zc 13
  (.seq (.region true [15,16,17,42] [15,16,17] [zS 15 3 4,
  zM 16 0,
  zv (zC 17 3365 [16]) [1],
  zv (zN (.store 3 (.t 2) (.t 15))) [0,2,1],
  zv (zN (.store 3 (.t 3) (.t 17))) [2,1,3,0]])
  .ret)
  (zs [19] [19] [zO 19 (.bin .eql (.t 12) (zI 1)),
  zA 18 19]
  (zc 18
  (.seq (.region true [20,21,22,46] [20,21,22] [zM 20 0,
  zv (zC 21 3365 [20]) [0],
  zS 22 3 5,
  zv (zN (.store 3 (.t 2) (.t 21))) [1,0],
  zv (zN (.store 3 (.t 3) (.t 22))) [2,3,1,0]])
  .ret)
  .skip))))))
  (.seq (.region true [23,24] [23,24] [zS 23 3 4,
  zS 24 3 5,
  zv (zN (.store 3 (.t 2) (.t 23))) [0],
  zv (zN (.store 3 (.t 3) (.t 24))) [1,2,0]])
  .ret))))⟩
def ir218 : FnIr := ⟨0, 1, 11, [(2, (some (true, 3))), (3, (some (true, 3)))], [],
  (zs [2,3,13,14] [] [zO 2 (.alloc [(.int .i64 0), (.row () []), (.row () [])]),
  zO 3 (.alloc [(.int .i64 0), (.row () []), (.row () [])])]
  (zs [5,6,17] [5,6] [zM 5 0,
  zC 6 246 [5],
  zA 4 6]
  (zs (zq 7 4 [19]) (zr 7 4) [zM 7 4,
  zC 8 3330 [7],
  zO 9 (.extract 0 (.t 8)),
  zO 10 (.extract 1 (.t 8)),
  zN (.store 3 (.t 2) (.t 9)),
  zN (.store 3 (.t 3) (.t 10))]
  .ret)))⟩
def ir52 : FnIr := ⟨0, 1, 101, [(2, none)], [],
  (zs [] [] [zK 2 (zB false)]
  (.seq (zs [9,10,111] [9] [zM 9 0,
  zC 10 108 [9]]
  (zc 10
  (zs [] [] [zK 2 (zB true)]
  .ret)
  .skip))
  (zs [12,13,11,14,15,3,4,114,104,105] [12,13,11,14,15] [zM 12 0,
  zC 13 212 [12],
  zM 11 13,
  zO 14 (.extract 0 (.t 11)),
  zO 15 (.extract 1 (.t 11)),
  zO 3 (.alloc [(.int .i64 0), (.row () []), (.row () [])]),
  zO 4 (.alloc [(.int .i64 0), (.row () []), (.row () [])]),
  zN (.store 3 (.t 3) (.t 14)),
  zN (.store 3 (.t 4) (.t 15))]
  (.seq (zs (zq 16 4 [119]) [16,17,18] [zS 16 3 3,
  zS 17 3 4,
  zC 18 213 [16,17],
  zn 19 18]
  (zc 19
  (.seq (.region true (zq 20 12 [122,125,130]) (zr 20 12) [zS 20 3 4,
  zv (zC 21 214 [20]) [0],
  zS 22 3 4,
  zS 23 3 4,
  zv (zC 24 213 [22,23]) [2,3,1,0],
  zv (zO 25 (.beq false (.t 21) (.t 24))) [1,0,4,2,3],
  zv (zM 26 25) [5,1,0,4,2,3],
  zv (zG 27 (.load true 3 (.t 3)) 26 true) [6,5,1,0,4,2,3],
  zv (zG 28 (.load true 3 (.t 4)) 26 true) [6,5,1,0,4,2,3],
  zv (zG 29 (.call 215 [(.t 27), (.t 28)]) 26 true) [7,6,5,1,0,4,2,3,8],
  zv (zG 30 (.un .not (.t 29)) 26 true) [9,7,6,5,1,0,4,2,3,8],
  zv (zO 31 (.pick (.t 26) (.t 30) (zB false))) [6,5,1,0,4,2,3,10,9,7,8],
  zv (zA 2 31) [11,6,5,1,0,4,2,3,10,9,7,8]])
  .ret)
  .skip))
  (.seq (.seq (.region true (zq 32 11 [135,136,140,141]) (zr 32 10) [zS 32 3 4,
  zS 33 3 4,
  zv (zC 34 217 [33]) [1],
  zv (zC 35 216 [32,34]) [0,2,1],
  zv (zM 36 35) [3,0,2,1],
  zv (zG 37 (.load true 3 (.t 3)) 36 true) [4,3,0,2,1],
  zv (zG 38 (.load true 3 (.t 4)) 36 true) [4,3,0,2,1],
  zv (zG 39 (.call 217 [(.t 38)]) 36 true) [6,4,3,0,2,1],
  zv (zG 40 (.call 216 [(.t 37), (.t 39)]) 36 true) [5,4,3,0,2,1,7,6],
  zv (zG 41 (.un .not (.t 40)) 36 true) [8,5,4,3,0,2,1,7,6],
  zv (zO 42 (.pick (.t 36) (.t 41) (zB false))) [4,3,0,2,1,9,8,5,7,6]])
  (zc 42
  (zs [] [] [zK 2 (zB false)]
  .ret)
  .skip))
  (zs [44,45,43,46,47,5,6,146,106,107] [44,45,43,46,47] [zM 44 0,
  zC 45 218 [44],
  zM 43 45,
  zO 46 (.extract 0 (.t 43)),
  zO 47 (.extract 1 (.t 43)),
  zO 5 (.alloc [(.int .i64 0), (.row () []), (.row () [])]),
  zO 6 (.alloc [(.int .i64 0), (.row () []), (.row () [])]),
  zN (.store 3 (.t 5) (.t 46)),
  zN (.store 3 (.t 6) (.t 47))]
  (.seq (zs (zq 48 20 [151,155,161,165]) (zr 48 19) [zS 48 3 4,
  zS 49 3 5,
  zC 50 216 [48,49],
  zM 51 50,
  zG 52 (.load true 3 (.t 3)) 51 true,
  zG 53 (.load true 3 (.t 5)) 51 true,
  zG 54 (.call 216 [(.t 52), (.t 53)]) 51 true,
  zG 55 (.un .not (.t 54)) 51 true,
  zO 56 (.pick (.t 51) (.t 55) (zB false)),
  zM 57 56,
  zG 58 (.load true 3 (.t 4)) 57 false,
  zG 59 (.load true 3 (.t 6)) 57 false,
  zG 60 (.call 216 [(.t 58), (.t 59)]) 57 false,
  zG 61 (.move (.t 60)) 57 false,
  zG 62 (.load true 3 (.t 3)) 61 true,
  zG 63 (.load true 3 (.t 6)) 61 true,
  zG 64 (.call 216 [(.t 62), (.t 63)]) 61 true,
  zG 65 (.un .not (.t 64)) 61 true,
  zG 66 (.pick (.t 61) (.t 65) (zB false)) 57 false,
  zO 67 (.pick (.t 57) (zB true) (.t 66))]
  (zc 67
  (zs [] [] [zK 2 (zB false)]
  .ret)
  .skip))
  (zs [68,69,70,171] [68,69,70] [zS 68 3 3,
  zS 69 3 4,
  zC 70 219 [68,69],
  zA 7 70]
  (.seq (zs [] [] [zK 8 (zI 0)]
  (.block 0 (.loop (.seq (zs (zr 71 4) [71,72,73] [zM 71 8,
  zM 72 7,
  zl 73 72,
  zb 74 .lss 71 73]
  (zc 74
  .skip
  (.exit 0)))
  (.seq (.block 1 (.seq (.region true (zq 77 16 [192]) (zr 77 15) [zS 77 3 3,
  zS 78 3 4,
  zM 79 7,
  zM 80 8,
  zv (zp 81 1 79 80) [2,3],
  zv (zL 82 81) [4,2,3],
  zv (zO 83 (.iaddr 1 (.t 82) (zI 0))) [5,4,2,3],
  zv (zL 84 83) [6,5,4,2,3],
  zM 85 7,
  zM 86 8,
  zv (zp 87 1 85 86) [8,9],
  zv (zL 88 87) [10,8,9],
  zv (zO 89 (.iaddr 1 (.t 88) (zI 1))) [11,10,8,9],
  zv (zL 90 89) [12,11,10,8,9],
  zv (zC 91 220 [77,78,84,90]) [0,1,7,6,5,4,2,3,13,12,11,10,8,9],
  zv (zn 92 91) [14,0,1,7,6,5,4,2,3,13,12,11,10,8,9]])
  (zc 92
  (zs [] [] [zK 2 (zB false)]
  .ret)
  .skip)))
  (zR [75,76] [75,76] [zM 75 8,
  zO 76 (.bin .add (.t 75) (zI 1)),
  zA 8 76]))))))
  (zs (zq 93 8 [200]) (zr 93 8) [zM 93 7,
  zl 94 93,
  zO 95 (.bin .gtr (.t 94) (zI 0)),
  zM 96 95,
  zG 97 (.load true 3 (.t 4)) 96 true,
  zG 98 (.load true 3 (.t 4)) 96 true,
  zG 99 (.call 213 [(.t 97), (.t 98)]) 96 true,
  zO 100 (.pick (.t 96) (.t 99) (zB false)),
  zA 2 100]
  .ret))))))))))⟩
def tbl : List (Nat × FnIr) := [(108, ir108), (246, ir246), (341, ir341), (234, ir234), (229, ir229), (374, ir374), (230, ir230), (285, ir285), (331, ir331), (366, ir366), (3361, ir3361), (3317, ir3317), (3252, ir3252), (345, ir345), (3250, ir3250), (3363, ir3363), (217, ir217), (2346, ir2346), (376, ir376), (334, ir334), (232, ir232), (214, ir214), (335, ir335), (367, ir367), (380, ir380), (3364, ir3364), (3365, ir3365), (325, ir325), (212, ir212), (383, ir383), (384, ir384), (375, ir375), (333, ir333), (382, ir382), (332, ir332), (219, ir219), (354, ir354), (302, ir302), (287, ir287), (220, ir220), (213, ir213), (326, ir326), (369, ir369), (370, ir370), (328, ir328), (228, ir228), (368, ir368), (327, ir327), (215, ir215), (381, ir381), (371, ir371), (372, ir372), (329, ir329), (216, ir216), (3373, ir3373), (3330, ir3330), (218, ir218), (52, ir52)]
def Tb (g : Nat) : Option FnIr := tbl.lookup g
theorem tb_108 : Tb 108 = some ir108 := rfl
theorem tb_246 : Tb 246 = some ir246 := rfl
theorem tb_341 : Tb 341 = some ir341 := rfl
theorem tb_234 : Tb 234 = some ir234 := rfl
theorem tb_229 : Tb 229 = some ir229 := rfl
theorem tb_374 : Tb 374 = some ir374 := rfl
theorem tb_230 : Tb 230 = some ir230 := rfl
theorem tb_285 : Tb 285 = some ir285 := rfl
theorem tb_331 : Tb 331 = some ir331 := rfl
theorem tb_366 : Tb 366 = some ir366 := rfl
theorem tb_3361 : Tb 3361 = some ir3361 := rfl
theorem tb_3317 : Tb 3317 = some ir3317 := rfl
theorem tb_3252 : Tb 3252 = some ir3252 := rfl
theorem tb_345 : Tb 345 = some ir345 := rfl
theorem tb_3250 : Tb 3250 = some ir3250 := rfl
theorem tb_3363 : Tb 3363 = some ir3363 := rfl
theorem tb_217 : Tb 217 = some ir217 := rfl
theorem tb_2346 : Tb 2346 = some ir2346 := rfl
theorem tb_376 : Tb 376 = some ir376 := rfl
theorem tb_334 : Tb 334 = some ir334 := rfl
theorem tb_232 : Tb 232 = some ir232 := rfl
theorem tb_214 : Tb 214 = some ir214 := rfl
theorem tb_335 : Tb 335 = some ir335 := rfl
theorem tb_367 : Tb 367 = some ir367 := rfl
theorem tb_380 : Tb 380 = some ir380 := rfl
theorem tb_3364 : Tb 3364 = some ir3364 := rfl
theorem tb_3365 : Tb 3365 = some ir3365 := rfl
theorem tb_325 : Tb 325 = some ir325 := rfl
theorem tb_212 : Tb 212 = some ir212 := rfl
theorem tb_383 : Tb 383 = some ir383 := rfl
theorem tb_384 : Tb 384 = some ir384 := rfl
theorem tb_375 : Tb 375 = some ir375 := rfl
theorem tb_333 : Tb 333 = some ir333 := rfl
theorem tb_382 : Tb 382 = some ir382 := rfl
theorem tb_332 : Tb 332 = some ir332 := rfl
theorem tb_219 : Tb 219 = some ir219 := rfl
theorem tb_354 : Tb 354 = some ir354 := rfl
theorem tb_302 : Tb 302 = some ir302 := rfl
theorem tb_287 : Tb 287 = some ir287 := rfl
theorem tb_220 : Tb 220 = some ir220 := rfl
theorem tb_213 : Tb 213 = some ir213 := rfl
theorem tb_326 : Tb 326 = some ir326 := rfl
theorem tb_369 : Tb 369 = some ir369 := rfl
theorem tb_370 : Tb 370 = some ir370 := rfl
theorem tb_328 : Tb 328 = some ir328 := rfl
theorem tb_228 : Tb 228 = some ir228 := rfl
theorem tb_368 : Tb 368 = some ir368 := rfl
theorem tb_327 : Tb 327 = some ir327 := rfl
theorem tb_215 : Tb 215 = some ir215 := rfl
theorem tb_381 : Tb 381 = some ir381 := rfl
theorem tb_371 : Tb 371 = some ir371 := rfl
theorem tb_372 : Tb 372 = some ir372 := rfl
theorem tb_329 : Tb 329 = some ir329 := rfl
theorem tb_216 : Tb 216 = some ir216 := rfl
theorem tb_3373 : Tb 3373 = some ir3373 := rfl
theorem tb_3330 : Tb 3330 = some ir3330 := rfl
theorem tb_218 : Tb 218 = some ir218 := rfl
theorem tb_52 : Tb 52 = some ir52 := rfl
end Go.Vm
