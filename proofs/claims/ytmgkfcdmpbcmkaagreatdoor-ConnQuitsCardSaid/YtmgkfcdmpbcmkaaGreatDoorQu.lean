/- A text of the claim: SQu. -/
import Derived.Test.YtmgkfcdmpbcmkaaGreatDoorG
namespace Go.Am
open Go.Proofs
set_option maxRecDepth 1000000
set_option linter.unusedVariables false
noncomputable def quA (C : CallOp) (Lp : LoopOp) (a0 a1 v2 : AV) : AM AV :=
 @AM.bind AV AV (bsl [(.int .u8 (.ofNat 0)), (.int .u8 (.ofNat 0)), (.int .u8 (.ofNat 0)), (.int .u8 (.ofNat 0)), (.int .u8 (.ofNat 0)), (.int .u8 (.ofNat 0)), (.int .u8 (.ofNat 0)), (.int .u8 (.ofNat 0)), (.int .u8 (.ofNat 0)), (.int .u8 (.ofNat 0)), (.int .u8 (.ofNat 0)), (.int .u8 (.ofNat 0)), (.int .u8 (.ofNat 0)), (.int .u8 (.ofNat 0)), (.int .u8 (.ofNat 0)), (.int .u8 (.ofNat 0)), (.int .u8 (.ofNat 0)), (.int .u8 (.ofNat 0)), (.int .u8 (.ofNat 0)), (.int .u8 (.ofNat 0)), (.int .u8 (.ofNat 0)), (.int .u8 (.ofNat 0)), (.int .u8 (.ofNat 0)), (.int .u8 (.ofNat 0)), (.int .u8 (.ofNat 0)), (.int .u8 (.ofNat 0)), (.int .u8 (.ofNat 0)), (.int .u8 (.ofNat 0))] [(0, 1, (.int .u8 (.ofNat 71))), (1, 1, (.int .u8 (.ofNat 69))), (2, 1, (.int .u8 (.ofNat 84))), (3, 1, (.int .u8 (.ofNat 32))), (4, 1, (.int .u8 (.ofNat 47))), (5, 1, (.int .u8 (.ofNat 97))), (6, 1, (.int .u8 (.ofNat 32))), (7, 1, (.int .u8 (.ofNat 72))), (8, 1, (.int .u8 (.ofNat 84))), (9, 1, (.int .u8 (.ofNat 84))), (10, 1, (.int .u8 (.ofNat 80))), (11, 1, (.int .u8 (.ofNat 47))), (12, 1, (.int .u8 (.ofNat 49))), (13, 1, (.int .u8 (.ofNat 46))), (14, 1, (.int .u8 (.ofNat 49))), (15, 1, (.int .u8 (.ofNat 13))), (16, 1, (.int .u8 (.ofNat 10))), (17, 1, (.int .u8 (.ofNat 72))), (18, 1, (.int .u8 (.ofNat 111))), (19, 1, (.int .u8 (.ofNat 115))), (20, 1, (.int .u8 (.ofNat 116))), (21, 1, (.int .u8 (.ofNat 58))), (22, 1, (.int .u8 (.ofNat 32))), (23, 1, (.int .u8 (.ofNat 97))), (24, 1, (.int .u8 (.ofNat 13))), (25, 1, (.int .u8 (.ofNat 10))), (26, 1, (.int .u8 (.ofNat 13))), (27, 1, (.int .u8 (.ofNat 10)))] 28 1) fun v0 =>
 @AM.bind AV AV (convA Tryz.prog 22 22 v0) fun v1 =>
 @AM.bind AV AV (guardA v2 false (.ret a0)) fun v3 =>
 @AM.bind AV AV (guardA v2 false (.ret v1)) fun v4 =>
 @AM.bind AV AV (guardA v2 false (lenSl v4)) fun v5 =>
 @AM.bind AV AV (guardA v2 false (bn Tryz.prog .gtr 3 false v3 v5)) fun v6 =>
 @AM.bind AV AV (pickA v2 (.bool true) v6) fun v7 =>
 @AM.bind AV AV (guardA v7 false (.ret a1)) fun v8 =>
 @AM.bind AV AV (guardA v7 false (lenSl v8)) fun v9 =>
 @AM.bind AV AV (guardA v7 false (bn Tryz.prog .gtr 3 true v9 (.int .i64 (.ofNat 1000)))) fun v10 =>
 @AM.bind AV AV (pickA v7 (.bool true) v10) fun v11 =>
 @bcond AV v11 (
 @AM.bind AV AV (C 12 []) fun v12 =>
 @AM.ret AV v12) (
 @AM.bind AV AV (C 14 []) fun v13 =>
 @AM.bind AV AV (C 13 [v13, (.int .i64 (.ofNat 4096))]) fun v14 =>
 @AM.bind AV AV (extA v14 0) fun v15 =>
 @AM.bind AV AV (extA v14 1) fun v16 =>
 @AM.bind AV AV (un .not v16) fun v17 =>
 @AM.bind AV AV (guardA v17 false (.ret v15)) fun v18 =>
 @AM.bind AV AV (guardA v17 false (nilC v18)) fun v19 =>
 @AM.bind AV AV (guardA v17 false (faddr 0 v19)) fun v20 =>
 @AM.bind AV AV (guardA v17 false (ld v20)) fun v21 =>
 @AM.bind AV AV (guardA v17 false (bn Tryz.prog .eql 32 true v21 (.ptr none))) fun v22 =>
 @AM.bind AV AV (pickA v17 (.bool true) v22) fun v23 =>
 @bcond AV v23 (
 @AM.ret AV (.bool false)) (
 @bindP AV AV false (nilC v15) fun v24 =>
 @bindP AV AV false (faddr 0 v24) fun v25 =>
 @bindP AV AV false (ld v25) fun v26 =>
 @bindP AV AV false (sliceA Tryz.prog 22 v1 none (some a0) none) fun v27 =>
 @heavyA true (C 15 [v26, v27, (.int .i64 (.ofNat 0))]) AV fun v28 =>
 @AM.bind AV AV (nilC v15) fun v29 =>
 @AM.bind AV AV (faddr 0 v29) fun v30 =>
 @AM.bind AV AV (ld v30) fun v31 =>
 @AM.bind AV AV (C 32 [v31, (.int .i64 (.ofNat 1))]) fun v32 =>
 @AM.bind AV AV (nilC v15) fun v33 =>
 @AM.bind AV AV (faddr 0 v33) fun v34 =>
 @AM.bind AV AV (ld v34) fun v35 =>
 @AM.bind AV AV (C 25 [v35]) fun v36 =>
 @AM.bind AV AV (extA v36 0) fun v37 =>
 @AM.bind AV AV (extA v36 1) fun v38 =>
 @AM.bind AV AV (bn Tryz.prog .eql 3 true a0 (.int .i64 (.ofNat 0))) fun v39 =>
 @bcond AV v39 (
 @AM.bind AV AV (bn Tryz.prog .eql 3 true v37 (.int .i64 (.ofNat 5))) fun v40 =>
 @AM.bind AV AV (guardA v40 true (.ret v38)) fun v41 =>
 @AM.bind AV AV (guardA v40 true (bn Tryz.prog .eql 3 true v41 (.int .i64 (.ofNat 1)))) fun v42 =>
 @AM.bind AV AV (pickA v40 v42 (.bool false)) fun v43 =>
 @AM.bind AV AV (guardA v43 true (.ret v15)) fun v44 =>
 @AM.bind AV AV (guardA v43 true (nilC v44)) fun v45 =>
 @AM.bind AV AV (guardA v43 true (faddr 0 v45)) fun v46 =>
 @AM.bind AV AV (guardA v43 true (ld v46)) fun v47 =>
 @AM.bind AV AV (guardA v43 true (.ret v1)) fun v48 =>
 @AM.bind AV AV (guardA v43 true (C 15 [v47, v48, (.int .i64 (.ofNat 2))])) fun v49 =>
 @AM.bind AV AV (guardA v43 true (.ret v1)) fun v50 =>
 @AM.bind AV AV (guardA v43 true (lenSl v50)) fun v51 =>
 @AM.bind AV AV (guardA v43 true (bn Tryz.prog .eql 3 false v49 v51)) fun v52 =>
 @AM.bind AV AV (pickA v43 v52 (.bool false)) fun v53 =>
 @AM.bind AV AV (guardA v53 true (.ret v15)) fun v54 =>
 @AM.bind AV AV (guardA v53 true (nilC v54)) fun v55 =>
 @AM.bind AV AV (guardA v53 true (faddr 0 v55)) fun v56 =>
 @AM.bind AV AV (guardA v53 true (ld v56)) fun v57 =>
 @AM.bind AV AV (guardA v53 true (nilC v57)) fun v58 =>
 @AM.bind AV AV (guardA v53 true (faddr 0 v58)) fun v59 =>
 @AM.bind AV AV (guardA v53 true (ld v59)) fun v60 =>
 @AM.bind AV AV (guardA v53 true (C 16 [v60])) fun v61 =>
 @AM.bind AV AV (guardA v53 true (bn Tryz.prog .eql 3 true v61 (.int .i64 (.ofNat 0)))) fun v62 =>
 @AM.bind AV AV (pickA v53 v62 (.bool false)) fun v63 =>
 @AM.bind AV AV (guardA v63 true (C 12 [])) fun v64 =>
 @AM.bind AV AV (pickA v63 v64 (.bool false)) fun v65 =>
 @AM.ret AV v65) (
 @bindP AV AV false (nilC v15) fun v66 =>
 @bindP AV AV false (faddr 0 v66) fun v67 =>
 @bindP AV AV false (ld v67) fun v68 =>
 @bindP AV AV false (sliceA Tryz.prog 22 v1 (some a0) none none) fun v69 =>
 @heavyA true (C 15 [v68, v69, (.int .i64 (.ofNat 2))]) AV fun v70 =>
 @AM.bind AV AV (lenSl v1) fun v71 =>
 @AM.bind AV AV (bn Tryz.prog .lss 3 false a0 v71) fun v72 =>
 @AM.bind Ans AV (@bcond Ans v72 (
 @AM.bind AV Ans (nilC v15) fun v73 =>
 @AM.bind AV Ans (faddr 0 v73) fun v74 =>
 @AM.bind AV Ans (ld v74) fun v75 =>
 @AM.bind AV Ans (C 15 [v75, a1, (.int .i64 (.ofNat 3))]) fun v76 =>
 @AM.ret Ans (0, [])) (
 @AM.ret Ans (0, []))) fun r77 =>
 cond (Nat.beq r77.1 0) (
 @bindP AV AV false (nilC v15) fun v78 =>
 @bindP AV AV false (faddr 0 v78) fun v79 =>
 fun h81 => @bindP AV AV false (ld v79) (fun v80 =>
 @bindP AV AV false (nilC v80) fun v83 =>
 @bindP AV AV false (faddr 0 v83) fun v84 =>
 fun h86 => @bindP AV AV false (ld v84) (fun v85 =>
 @bindP AV AV false (nilC v15) fun v88 =>
 @bindP AV AV false (faddr 0 v88) fun v89 =>
 @bindP AV AV false (ld v89) fun v90 =>
 @bindP AV AV false (nilC v90) fun v91 =>
 @bindP AV AV false (faddr 0 v91) fun v92 =>
 @bindP AV AV false (ld v92) fun v93 =>
 fun h95 => @bindP AV AV true (C 16 [v93]) (fun v94 h96 => cond (Nat.ble h95.next h96.next && (AV.under h81.next v80 && (sameS (ld v79) v80 h96 && (AV.under h86.next v85 && (sameS (ld v84) v85 h96 && true))))) ((
 @heavyA true (C 17 [v85, v94]) AV fun v97 =>
 @bindP AV AV false (convA Tryz.prog 22 9 v97) fun v98 =>
 @AM.bind Ans AV (Lp (fun l99 =>
 (fun (v100 v101 : AV) =>
 @AM.bind AV Ans (bn Tryz.prog .add 3 true v101 (.int .i64 (.ofNat 17))) fun v102 =>
 @AM.bind AV Ans (lenStr v98) fun v103 =>
 @AM.bind AV Ans (bn Tryz.prog .leq 3 false v102 v103) fun v104 =>
 @bcond Ans v104 (
 @AM.bind AV Ans (guardA v100 false (.ret v98)) fun v105 =>
 @AM.bind AV Ans (guardA v100 false (.ret v101)) fun v106 =>
 @AM.bind AV Ans (guardA v100 false (.ret v101)) fun v107 =>
 @AM.bind AV Ans (guardA v100 false (bn Tryz.prog .add 3 true v107 (.int .i64 (.ofNat 17)))) fun v108 =>
 @AM.bind AV Ans (guardA v100 false (sliceA Tryz.prog 9 v105 (some v106) (some v108) none)) fun v109 =>
 @AM.bind AV Ans (guardA v100 false (bn Tryz.prog .eql 9 true v109 (.str [67,111,110,110,101,99,116,105,111,110,58,32,99,108,111,115,101]))) fun v110 =>
 @AM.bind AV Ans (pickA v100 (.bool true) v110) fun v111 =>
 @AM.bind AV Ans (bn Tryz.prog .add 3 true v101 (.int .i64 (.ofNat 1))) fun v112 =>
 @AM.ret Ans (0, [v111, v112])) (
 @AM.ret Ans (2, [v100, v101]))) (g0 l99 0) (g0 l99 1)) [(.bool false), (.int .i64 (.ofNat 0))]) fun r113 =>
 cond (Nat.beq r113.1 2) (
 (fun (v114 v115 : AV) =>
 @AM.bind AV AV (lenSl v1) fun v116 =>
 @AM.bind AV AV (bn Tryz.prog .lss 3 false a0 v116) fun v117 =>
 @AM.bind AV AV (bn Tryz.prog .neq 4 false v114 v117) fun v118 =>
 @bcond AV v118 (
 @AM.ret AV (.bool false)) (
 @bindP AV AV false (nilC v15) fun v119 =>
 @bindP AV AV false (faddr 0 v119) fun v120 =>
 fun h122 => @bindP AV AV false (ld v120) (fun v121 =>
 @bindP AV AV false (nilC v15) fun v124 =>
 @bindP AV AV false (faddr 0 v124) fun v125 =>
 @bindP AV AV false (ld v125) fun v126 =>
 @bindP AV AV false (nilC v126) fun v127 =>
 @bindP AV AV false (faddr 0 v127) fun v128 =>
 @bindP AV AV false (ld v128) fun v129 =>
 fun h131 => @bindP AV AV true (C 16 [v129]) (fun v130 h132 => cond (Nat.ble h131.next h132.next && (AV.under h122.next v121 && (sameS (ld v120) v121 h132 && true))) ((
 @heavyA true (C 18 [v121, v130, (.int .i64 (.ofNat 4))]) AV fun v133 =>
 @AM.bind AV AV (lenSl v1) fun v134 =>
 @AM.bind AV AV (bn Tryz.prog .lss 3 false a0 v134) fun v135 =>
 @bcond AV v135 (
 @AM.bind AV AV (nilC v15) fun v136 =>
 @AM.bind AV AV (faddr 0 v136) fun v137 =>
 @AM.bind AV AV (ld v137) fun v138 =>
 @AM.bind AV AV (C 25 [v138]) fun v139 =>
 @AM.bind AV AV (extA v139 0) fun v140 =>
 @AM.bind AV AV (extA v139 1) fun v141 =>
 @AM.bind AV AV (nilC v15) fun v142 =>
 @AM.bind AV AV (faddr 0 v142) fun v143 =>
 @AM.bind AV AV (ld v143) fun v144 =>
 @AM.bind AV AV (C 27 [v144]) fun v145 =>
 @AM.bind AV AV (extA v145 0) fun v146 =>
 @AM.bind AV AV (extA v145 1) fun v147 =>
 @AM.bind AV AV (extA v145 2) fun v148 =>
 @AM.bind AV AV (bn Tryz.prog .eql 3 true v140 (.int .i64 (.ofNat 4))) fun v149 =>
 @AM.bind AV AV (guardA v149 true (.ret v141)) fun v150 =>
 @AM.bind AV AV (guardA v149 true (bn Tryz.prog .eql 3 true v150 (.int .i64 (.ofNat 4)))) fun v151 =>
 @AM.bind AV AV (pickA v149 v151 (.bool false)) fun v152 =>
 @AM.bind AV AV (guardA v152 true (.ret v146)) fun v153 =>
 @AM.bind AV AV (guardA v152 true (bn Tryz.prog .eql 3 true v153 (.int .i64 (.ofNat 1)))) fun v154 =>
 @AM.bind AV AV (pickA v152 v154 (.bool false)) fun v155 =>
 @AM.bind AV AV (guardA v155 true (.ret v15)) fun v156 =>
 @AM.bind AV AV (guardA v155 true (nilC v156)) fun v157 =>
 @AM.bind AV AV (guardA v155 true (faddr 0 v157)) fun v158 =>
 @AM.bind AV AV (guardA v155 true (ld v158)) fun v159 =>
 @AM.bind AV AV (guardA v155 true (C 33 [v159])) fun v160 =>
 @AM.bind AV AV (pickA v155 v160 (.bool false)) fun v161 =>
 @AM.bind AV AV (guardA v161 true (C 12 [])) fun v162 =>
 @AM.bind AV AV (pickA v161 v162 (.bool false)) fun v163 =>
 @AM.ret AV v163) (
 @AM.bind AV AV (C 12 []) fun v164 =>
 @AM.ret AV v164)) h132) .bad) h131) h122)) (g0 r113.2 0) (g0 r113.2 1)) (.bad)) h96) .bad) h95) h86) h81) (.bad))))
noncomputable def quB (C : CallOp) (Lp : LoopOp) (a0 a1 v6 : AV) : AM AV :=
 @AM.bind AV AV (bsl [(.int .u8 (.ofNat 0)), (.int .u8 (.ofNat 0)), (.int .u8 (.ofNat 0)), (.int .u8 (.ofNat 0)), (.int .u8 (.ofNat 0)), (.int .u8 (.ofNat 0)), (.int .u8 (.ofNat 0)), (.int .u8 (.ofNat 0)), (.int .u8 (.ofNat 0)), (.int .u8 (.ofNat 0)), (.int .u8 (.ofNat 0)), (.int .u8 (.ofNat 0)), (.int .u8 (.ofNat 0)), (.int .u8 (.ofNat 0)), (.int .u8 (.ofNat 0)), (.int .u8 (.ofNat 0)), (.int .u8 (.ofNat 0)), (.int .u8 (.ofNat 0)), (.int .u8 (.ofNat 0)), (.int .u8 (.ofNat 0)), (.int .u8 (.ofNat 0)), (.int .u8 (.ofNat 0)), (.int .u8 (.ofNat 0)), (.int .u8 (.ofNat 0)), (.int .u8 (.ofNat 0)), (.int .u8 (.ofNat 0)), (.int .u8 (.ofNat 0)), (.int .u8 (.ofNat 0))] [(0, 1, (.int .u8 (.ofNat 71))), (1, 1, (.int .u8 (.ofNat 69))), (2, 1, (.int .u8 (.ofNat 84))), (3, 1, (.int .u8 (.ofNat 32))), (4, 1, (.int .u8 (.ofNat 47))), (5, 1, (.int .u8 (.ofNat 97))), (6, 1, (.int .u8 (.ofNat 32))), (7, 1, (.int .u8 (.ofNat 72))), (8, 1, (.int .u8 (.ofNat 84))), (9, 1, (.int .u8 (.ofNat 84))), (10, 1, (.int .u8 (.ofNat 80))), (11, 1, (.int .u8 (.ofNat 47))), (12, 1, (.int .u8 (.ofNat 49))), (13, 1, (.int .u8 (.ofNat 46))), (14, 1, (.int .u8 (.ofNat 49))), (15, 1, (.int .u8 (.ofNat 13))), (16, 1, (.int .u8 (.ofNat 10))), (17, 1, (.int .u8 (.ofNat 72))), (18, 1, (.int .u8 (.ofNat 111))), (19, 1, (.int .u8 (.ofNat 115))), (20, 1, (.int .u8 (.ofNat 116))), (21, 1, (.int .u8 (.ofNat 58))), (22, 1, (.int .u8 (.ofNat 32))), (23, 1, (.int .u8 (.ofNat 97))), (24, 1, (.int .u8 (.ofNat 13))), (25, 1, (.int .u8 (.ofNat 10))), (26, 1, (.int .u8 (.ofNat 13))), (27, 1, (.int .u8 (.ofNat 10)))] 28 1) fun v0 =>
 @AM.bind AV AV (convA Tryz.prog 22 22 v0) fun v1 =>
 @AM.bind AV AV (AM.ret (.bool false)) fun v2 =>
 @AM.bind AV AV (guardA v2 false (.ret a0)) fun v3 =>
 @AM.bind AV AV (guardA v2 false (.ret v1)) fun v4 =>
 @AM.bind AV AV (guardA v2 false (lenSl v4)) fun v5 =>
 @AM.bind AV AV (pickA v2 (.bool true) v6) fun v7 =>
 @AM.bind AV AV (guardA v7 false (.ret a1)) fun v8 =>
 @AM.bind AV AV (guardA v7 false (lenSl v8)) fun v9 =>
 @AM.bind AV AV (guardA v7 false (bn Tryz.prog .gtr 3 true v9 (.int .i64 (.ofNat 1000)))) fun v10 =>
 @AM.bind AV AV (pickA v7 (.bool true) v10) fun v11 =>
 @bcond AV v11 (
 @AM.bind AV AV (C 12 []) fun v12 =>
 @AM.ret AV v12) (
 @AM.bind AV AV (C 14 []) fun v13 =>
 @AM.bind AV AV (C 13 [v13, (.int .i64 (.ofNat 4096))]) fun v14 =>
 @AM.bind AV AV (extA v14 0) fun v15 =>
 @AM.bind AV AV (extA v14 1) fun v16 =>
 @AM.bind AV AV (un .not v16) fun v17 =>
 @AM.bind AV AV (guardA v17 false (.ret v15)) fun v18 =>
 @AM.bind AV AV (guardA v17 false (nilC v18)) fun v19 =>
 @AM.bind AV AV (guardA v17 false (faddr 0 v19)) fun v20 =>
 @AM.bind AV AV (guardA v17 false (ld v20)) fun v21 =>
 @AM.bind AV AV (guardA v17 false (bn Tryz.prog .eql 32 true v21 (.ptr none))) fun v22 =>
 @AM.bind AV AV (pickA v17 (.bool true) v22) fun v23 =>
 @bcond AV v23 (
 @AM.ret AV (.bool false)) (
 @bindP AV AV false (nilC v15) fun v24 =>
 @bindP AV AV false (faddr 0 v24) fun v25 =>
 @bindP AV AV false (ld v25) fun v26 =>
 @bindP AV AV false (sliceA Tryz.prog 22 v1 none (some a0) none) fun v27 =>
 @heavyA true (C 15 [v26, v27, (.int .i64 (.ofNat 0))]) AV fun v28 =>
 @AM.bind AV AV (nilC v15) fun v29 =>
 @AM.bind AV AV (faddr 0 v29) fun v30 =>
 @AM.bind AV AV (ld v30) fun v31 =>
 @AM.bind AV AV (C 32 [v31, (.int .i64 (.ofNat 1))]) fun v32 =>
 @AM.bind AV AV (nilC v15) fun v33 =>
 @AM.bind AV AV (faddr 0 v33) fun v34 =>
 @AM.bind AV AV (ld v34) fun v35 =>
 @AM.bind AV AV (C 25 [v35]) fun v36 =>
 @AM.bind AV AV (extA v36 0) fun v37 =>
 @AM.bind AV AV (extA v36 1) fun v38 =>
 @AM.bind AV AV (bn Tryz.prog .eql 3 true a0 (.int .i64 (.ofNat 0))) fun v39 =>
 @bcond AV v39 (
 @AM.bind AV AV (bn Tryz.prog .eql 3 true v37 (.int .i64 (.ofNat 5))) fun v40 =>
 @AM.bind AV AV (guardA v40 true (.ret v38)) fun v41 =>
 @AM.bind AV AV (guardA v40 true (bn Tryz.prog .eql 3 true v41 (.int .i64 (.ofNat 1)))) fun v42 =>
 @AM.bind AV AV (pickA v40 v42 (.bool false)) fun v43 =>
 @AM.bind AV AV (guardA v43 true (.ret v15)) fun v44 =>
 @AM.bind AV AV (guardA v43 true (nilC v44)) fun v45 =>
 @AM.bind AV AV (guardA v43 true (faddr 0 v45)) fun v46 =>
 @AM.bind AV AV (guardA v43 true (ld v46)) fun v47 =>
 @AM.bind AV AV (guardA v43 true (.ret v1)) fun v48 =>
 @AM.bind AV AV (guardA v43 true (C 15 [v47, v48, (.int .i64 (.ofNat 2))])) fun v49 =>
 @AM.bind AV AV (guardA v43 true (.ret v1)) fun v50 =>
 @AM.bind AV AV (guardA v43 true (lenSl v50)) fun v51 =>
 @AM.bind AV AV (guardA v43 true (bn Tryz.prog .eql 3 false v49 v51)) fun v52 =>
 @AM.bind AV AV (pickA v43 v52 (.bool false)) fun v53 =>
 @AM.bind AV AV (guardA v53 true (.ret v15)) fun v54 =>
 @AM.bind AV AV (guardA v53 true (nilC v54)) fun v55 =>
 @AM.bind AV AV (guardA v53 true (faddr 0 v55)) fun v56 =>
 @AM.bind AV AV (guardA v53 true (ld v56)) fun v57 =>
 @AM.bind AV AV (guardA v53 true (nilC v57)) fun v58 =>
 @AM.bind AV AV (guardA v53 true (faddr 0 v58)) fun v59 =>
 @AM.bind AV AV (guardA v53 true (ld v59)) fun v60 =>
 @AM.bind AV AV (guardA v53 true (C 16 [v60])) fun v61 =>
 @AM.bind AV AV (guardA v53 true (bn Tryz.prog .eql 3 true v61 (.int .i64 (.ofNat 0)))) fun v62 =>
 @AM.bind AV AV (pickA v53 v62 (.bool false)) fun v63 =>
 @AM.bind AV AV (guardA v63 true (C 12 [])) fun v64 =>
 @AM.bind AV AV (pickA v63 v64 (.bool false)) fun v65 =>
 @AM.ret AV v65) (
 @bindP AV AV false (nilC v15) fun v66 =>
 @bindP AV AV false (faddr 0 v66) fun v67 =>
 @bindP AV AV false (ld v67) fun v68 =>
 @bindP AV AV false (sliceA Tryz.prog 22 v1 (some a0) none none) fun v69 =>
 @heavyA true (C 15 [v68, v69, (.int .i64 (.ofNat 2))]) AV fun v70 =>
 @AM.bind AV AV (lenSl v1) fun v71 =>
 @AM.bind AV AV (bn Tryz.prog .lss 3 false a0 v71) fun v72 =>
 @AM.bind Ans AV (@bcond Ans v72 (
 @AM.bind AV Ans (nilC v15) fun v73 =>
 @AM.bind AV Ans (faddr 0 v73) fun v74 =>
 @AM.bind AV Ans (ld v74) fun v75 =>
 @AM.bind AV Ans (C 15 [v75, a1, (.int .i64 (.ofNat 3))]) fun v76 =>
 @AM.ret Ans (0, [])) (
 @AM.ret Ans (0, []))) fun r77 =>
 cond (Nat.beq r77.1 0) (
 @bindP AV AV false (nilC v15) fun v78 =>
 @bindP AV AV false (faddr 0 v78) fun v79 =>
 fun h81 => @bindP AV AV false (ld v79) (fun v80 =>
 @bindP AV AV false (nilC v80) fun v83 =>
 @bindP AV AV false (faddr 0 v83) fun v84 =>
 fun h86 => @bindP AV AV false (ld v84) (fun v85 =>
 @bindP AV AV false (nilC v15) fun v88 =>
 @bindP AV AV false (faddr 0 v88) fun v89 =>
 @bindP AV AV false (ld v89) fun v90 =>
 @bindP AV AV false (nilC v90) fun v91 =>
 @bindP AV AV false (faddr 0 v91) fun v92 =>
 @bindP AV AV false (ld v92) fun v93 =>
 fun h95 => @bindP AV AV true (C 16 [v93]) (fun v94 h96 => cond (Nat.ble h95.next h96.next && (AV.under h81.next v80 && (sameS (ld v79) v80 h96 && (AV.under h86.next v85 && (sameS (ld v84) v85 h96 && true))))) ((
 @heavyA true (C 17 [v85, v94]) AV fun v97 =>
 @bindP AV AV false (convA Tryz.prog 22 9 v97) fun v98 =>
 @AM.bind Ans AV (Lp (fun l99 =>
 (fun (v100 v101 : AV) =>
 @AM.bind AV Ans (bn Tryz.prog .add 3 true v101 (.int .i64 (.ofNat 17))) fun v102 =>
 @AM.bind AV Ans (lenStr v98) fun v103 =>
 @AM.bind AV Ans (bn Tryz.prog .leq 3 false v102 v103) fun v104 =>
 @bcond Ans v104 (
 @AM.bind AV Ans (guardA v100 false (.ret v98)) fun v105 =>
 @AM.bind AV Ans (guardA v100 false (.ret v101)) fun v106 =>
 @AM.bind AV Ans (guardA v100 false (.ret v101)) fun v107 =>
 @AM.bind AV Ans (guardA v100 false (bn Tryz.prog .add 3 true v107 (.int .i64 (.ofNat 17)))) fun v108 =>
 @AM.bind AV Ans (guardA v100 false (sliceA Tryz.prog 9 v105 (some v106) (some v108) none)) fun v109 =>
 @AM.bind AV Ans (guardA v100 false (bn Tryz.prog .eql 9 true v109 (.str [67,111,110,110,101,99,116,105,111,110,58,32,99,108,111,115,101]))) fun v110 =>
 @AM.bind AV Ans (pickA v100 (.bool true) v110) fun v111 =>
 @AM.bind AV Ans (bn Tryz.prog .add 3 true v101 (.int .i64 (.ofNat 1))) fun v112 =>
 @AM.ret Ans (0, [v111, v112])) (
 @AM.ret Ans (2, [v100, v101]))) (g0 l99 0) (g0 l99 1)) [(.bool false), (.int .i64 (.ofNat 0))]) fun r113 =>
 cond (Nat.beq r113.1 2) (
 (fun (v114 v115 : AV) =>
 @AM.bind AV AV (lenSl v1) fun v116 =>
 @AM.bind AV AV (bn Tryz.prog .lss 3 false a0 v116) fun v117 =>
 @AM.bind AV AV (bn Tryz.prog .neq 4 false v114 v117) fun v118 =>
 @bcond AV v118 (
 @AM.ret AV (.bool false)) (
 @bindP AV AV false (nilC v15) fun v119 =>
 @bindP AV AV false (faddr 0 v119) fun v120 =>
 fun h122 => @bindP AV AV false (ld v120) (fun v121 =>
 @bindP AV AV false (nilC v15) fun v124 =>
 @bindP AV AV false (faddr 0 v124) fun v125 =>
 @bindP AV AV false (ld v125) fun v126 =>
 @bindP AV AV false (nilC v126) fun v127 =>
 @bindP AV AV false (faddr 0 v127) fun v128 =>
 @bindP AV AV false (ld v128) fun v129 =>
 fun h131 => @bindP AV AV true (C 16 [v129]) (fun v130 h132 => cond (Nat.ble h131.next h132.next && (AV.under h122.next v121 && (sameS (ld v120) v121 h132 && true))) ((
 @heavyA true (C 18 [v121, v130, (.int .i64 (.ofNat 4))]) AV fun v133 =>
 @AM.bind AV AV (lenSl v1) fun v134 =>
 @AM.bind AV AV (bn Tryz.prog .lss 3 false a0 v134) fun v135 =>
 @bcond AV v135 (
 @AM.bind AV AV (nilC v15) fun v136 =>
 @AM.bind AV AV (faddr 0 v136) fun v137 =>
 @AM.bind AV AV (ld v137) fun v138 =>
 @AM.bind AV AV (C 25 [v138]) fun v139 =>
 @AM.bind AV AV (extA v139 0) fun v140 =>
 @AM.bind AV AV (extA v139 1) fun v141 =>
 @AM.bind AV AV (nilC v15) fun v142 =>
 @AM.bind AV AV (faddr 0 v142) fun v143 =>
 @AM.bind AV AV (ld v143) fun v144 =>
 @AM.bind AV AV (C 27 [v144]) fun v145 =>
 @AM.bind AV AV (extA v145 0) fun v146 =>
 @AM.bind AV AV (extA v145 1) fun v147 =>
 @AM.bind AV AV (extA v145 2) fun v148 =>
 @AM.bind AV AV (bn Tryz.prog .eql 3 true v140 (.int .i64 (.ofNat 4))) fun v149 =>
 @AM.bind AV AV (guardA v149 true (.ret v141)) fun v150 =>
 @AM.bind AV AV (guardA v149 true (bn Tryz.prog .eql 3 true v150 (.int .i64 (.ofNat 4)))) fun v151 =>
 @AM.bind AV AV (pickA v149 v151 (.bool false)) fun v152 =>
 @AM.bind AV AV (guardA v152 true (.ret v146)) fun v153 =>
 @AM.bind AV AV (guardA v152 true (bn Tryz.prog .eql 3 true v153 (.int .i64 (.ofNat 1)))) fun v154 =>
 @AM.bind AV AV (pickA v152 v154 (.bool false)) fun v155 =>
 @AM.bind AV AV (guardA v155 true (.ret v15)) fun v156 =>
 @AM.bind AV AV (guardA v155 true (nilC v156)) fun v157 =>
 @AM.bind AV AV (guardA v155 true (faddr 0 v157)) fun v158 =>
 @AM.bind AV AV (guardA v155 true (ld v158)) fun v159 =>
 @AM.bind AV AV (guardA v155 true (C 33 [v159])) fun v160 =>
 @AM.bind AV AV (pickA v155 v160 (.bool false)) fun v161 =>
 @AM.bind AV AV (guardA v161 true (C 12 [])) fun v162 =>
 @AM.bind AV AV (pickA v161 v162 (.bool false)) fun v163 =>
 @AM.ret AV v163) (
 @AM.bind AV AV (C 12 []) fun v164 =>
 @AM.ret AV v164)) h132) .bad) h131) h122)) (g0 r113.2 0) (g0 r113.2 1)) (.bad)) h96) .bad) h95) h86) h81) (.bad))))
noncomputable def quC (C : CallOp) (Lp : LoopOp) (a0 a1 v10 : AV) : AM AV :=
 @AM.bind AV AV (bsl [(.int .u8 (.ofNat 0)), (.int .u8 (.ofNat 0)), (.int .u8 (.ofNat 0)), (.int .u8 (.ofNat 0)), (.int .u8 (.ofNat 0)), (.int .u8 (.ofNat 0)), (.int .u8 (.ofNat 0)), (.int .u8 (.ofNat 0)), (.int .u8 (.ofNat 0)), (.int .u8 (.ofNat 0)), (.int .u8 (.ofNat 0)), (.int .u8 (.ofNat 0)), (.int .u8 (.ofNat 0)), (.int .u8 (.ofNat 0)), (.int .u8 (.ofNat 0)), (.int .u8 (.ofNat 0)), (.int .u8 (.ofNat 0)), (.int .u8 (.ofNat 0)), (.int .u8 (.ofNat 0)), (.int .u8 (.ofNat 0)), (.int .u8 (.ofNat 0)), (.int .u8 (.ofNat 0)), (.int .u8 (.ofNat 0)), (.int .u8 (.ofNat 0)), (.int .u8 (.ofNat 0)), (.int .u8 (.ofNat 0)), (.int .u8 (.ofNat 0)), (.int .u8 (.ofNat 0))] [(0, 1, (.int .u8 (.ofNat 71))), (1, 1, (.int .u8 (.ofNat 69))), (2, 1, (.int .u8 (.ofNat 84))), (3, 1, (.int .u8 (.ofNat 32))), (4, 1, (.int .u8 (.ofNat 47))), (5, 1, (.int .u8 (.ofNat 97))), (6, 1, (.int .u8 (.ofNat 32))), (7, 1, (.int .u8 (.ofNat 72))), (8, 1, (.int .u8 (.ofNat 84))), (9, 1, (.int .u8 (.ofNat 84))), (10, 1, (.int .u8 (.ofNat 80))), (11, 1, (.int .u8 (.ofNat 47))), (12, 1, (.int .u8 (.ofNat 49))), (13, 1, (.int .u8 (.ofNat 46))), (14, 1, (.int .u8 (.ofNat 49))), (15, 1, (.int .u8 (.ofNat 13))), (16, 1, (.int .u8 (.ofNat 10))), (17, 1, (.int .u8 (.ofNat 72))), (18, 1, (.int .u8 (.ofNat 111))), (19, 1, (.int .u8 (.ofNat 115))), (20, 1, (.int .u8 (.ofNat 116))), (21, 1, (.int .u8 (.ofNat 58))), (22, 1, (.int .u8 (.ofNat 32))), (23, 1, (.int .u8 (.ofNat 97))), (24, 1, (.int .u8 (.ofNat 13))), (25, 1, (.int .u8 (.ofNat 10))), (26, 1, (.int .u8 (.ofNat 13))), (27, 1, (.int .u8 (.ofNat 10)))] 28 1) fun v0 =>
 @AM.bind AV AV (convA Tryz.prog 22 22 v0) fun v1 =>
 @AM.bind AV AV (AM.ret (.bool false)) fun v2 =>
 @AM.bind AV AV (guardA v2 false (.ret a0)) fun v3 =>
 @AM.bind AV AV (guardA v2 false (.ret v1)) fun v4 =>
 @AM.bind AV AV (guardA v2 false (lenSl v4)) fun v5 =>
 @AM.bind AV AV (AM.ret (.bool false)) fun v6 =>
 @AM.bind AV AV (pickA v2 (.bool true) v6) fun v7 =>
 @AM.bind AV AV (guardA v7 false (.ret a1)) fun v8 =>
 @AM.bind AV AV (guardA v7 false (lenSl v8)) fun v9 =>
 @AM.bind AV AV (pickA v7 (.bool true) v10) fun v11 =>
 @bcond AV v11 (
 @AM.bind AV AV (C 12 []) fun v12 =>
 @AM.ret AV v12) (
 @AM.bind AV AV (C 14 []) fun v13 =>
 @AM.bind AV AV (C 13 [v13, (.int .i64 (.ofNat 4096))]) fun v14 =>
 @AM.bind AV AV (extA v14 0) fun v15 =>
 @AM.bind AV AV (extA v14 1) fun v16 =>
 @AM.bind AV AV (un .not v16) fun v17 =>
 @AM.bind AV AV (guardA v17 false (.ret v15)) fun v18 =>
 @AM.bind AV AV (guardA v17 false (nilC v18)) fun v19 =>
 @AM.bind AV AV (guardA v17 false (faddr 0 v19)) fun v20 =>
 @AM.bind AV AV (guardA v17 false (ld v20)) fun v21 =>
 @AM.bind AV AV (guardA v17 false (bn Tryz.prog .eql 32 true v21 (.ptr none))) fun v22 =>
 @AM.bind AV AV (pickA v17 (.bool true) v22) fun v23 =>
 @bcond AV v23 (
 @AM.ret AV (.bool false)) (
 @bindP AV AV false (nilC v15) fun v24 =>
 @bindP AV AV false (faddr 0 v24) fun v25 =>
 @bindP AV AV false (ld v25) fun v26 =>
 @bindP AV AV false (sliceA Tryz.prog 22 v1 none (some a0) none) fun v27 =>
 @heavyA true (C 15 [v26, v27, (.int .i64 (.ofNat 0))]) AV fun v28 =>
 @AM.bind AV AV (nilC v15) fun v29 =>
 @AM.bind AV AV (faddr 0 v29) fun v30 =>
 @AM.bind AV AV (ld v30) fun v31 =>
 @AM.bind AV AV (C 32 [v31, (.int .i64 (.ofNat 1))]) fun v32 =>
 @AM.bind AV AV (nilC v15) fun v33 =>
 @AM.bind AV AV (faddr 0 v33) fun v34 =>
 @AM.bind AV AV (ld v34) fun v35 =>
 @AM.bind AV AV (C 25 [v35]) fun v36 =>
 @AM.bind AV AV (extA v36 0) fun v37 =>
 @AM.bind AV AV (extA v36 1) fun v38 =>
 @AM.bind AV AV (bn Tryz.prog .eql 3 true a0 (.int .i64 (.ofNat 0))) fun v39 =>
 @bcond AV v39 (
 @AM.bind AV AV (bn Tryz.prog .eql 3 true v37 (.int .i64 (.ofNat 5))) fun v40 =>
 @AM.bind AV AV (guardA v40 true (.ret v38)) fun v41 =>
 @AM.bind AV AV (guardA v40 true (bn Tryz.prog .eql 3 true v41 (.int .i64 (.ofNat 1)))) fun v42 =>
 @AM.bind AV AV (pickA v40 v42 (.bool false)) fun v43 =>
 @AM.bind AV AV (guardA v43 true (.ret v15)) fun v44 =>
 @AM.bind AV AV (guardA v43 true (nilC v44)) fun v45 =>
 @AM.bind AV AV (guardA v43 true (faddr 0 v45)) fun v46 =>
 @AM.bind AV AV (guardA v43 true (ld v46)) fun v47 =>
 @AM.bind AV AV (guardA v43 true (.ret v1)) fun v48 =>
 @AM.bind AV AV (guardA v43 true (C 15 [v47, v48, (.int .i64 (.ofNat 2))])) fun v49 =>
 @AM.bind AV AV (guardA v43 true (.ret v1)) fun v50 =>
 @AM.bind AV AV (guardA v43 true (lenSl v50)) fun v51 =>
 @AM.bind AV AV (guardA v43 true (bn Tryz.prog .eql 3 false v49 v51)) fun v52 =>
 @AM.bind AV AV (pickA v43 v52 (.bool false)) fun v53 =>
 @AM.bind AV AV (guardA v53 true (.ret v15)) fun v54 =>
 @AM.bind AV AV (guardA v53 true (nilC v54)) fun v55 =>
 @AM.bind AV AV (guardA v53 true (faddr 0 v55)) fun v56 =>
 @AM.bind AV AV (guardA v53 true (ld v56)) fun v57 =>
 @AM.bind AV AV (guardA v53 true (nilC v57)) fun v58 =>
 @AM.bind AV AV (guardA v53 true (faddr 0 v58)) fun v59 =>
 @AM.bind AV AV (guardA v53 true (ld v59)) fun v60 =>
 @AM.bind AV AV (guardA v53 true (C 16 [v60])) fun v61 =>
 @AM.bind AV AV (guardA v53 true (bn Tryz.prog .eql 3 true v61 (.int .i64 (.ofNat 0)))) fun v62 =>
 @AM.bind AV AV (pickA v53 v62 (.bool false)) fun v63 =>
 @AM.bind AV AV (guardA v63 true (C 12 [])) fun v64 =>
 @AM.bind AV AV (pickA v63 v64 (.bool false)) fun v65 =>
 @AM.ret AV v65) (
 @bindP AV AV false (nilC v15) fun v66 =>
 @bindP AV AV false (faddr 0 v66) fun v67 =>
 @bindP AV AV false (ld v67) fun v68 =>
 @bindP AV AV false (sliceA Tryz.prog 22 v1 (some a0) none none) fun v69 =>
 @heavyA true (C 15 [v68, v69, (.int .i64 (.ofNat 2))]) AV fun v70 =>
 @AM.bind AV AV (lenSl v1) fun v71 =>
 @AM.bind AV AV (bn Tryz.prog .lss 3 false a0 v71) fun v72 =>
 @AM.bind Ans AV (@bcond Ans v72 (
 @AM.bind AV Ans (nilC v15) fun v73 =>
 @AM.bind AV Ans (faddr 0 v73) fun v74 =>
 @AM.bind AV Ans (ld v74) fun v75 =>
 @AM.bind AV Ans (C 15 [v75, a1, (.int .i64 (.ofNat 3))]) fun v76 =>
 @AM.ret Ans (0, [])) (
 @AM.ret Ans (0, []))) fun r77 =>
 cond (Nat.beq r77.1 0) (
 @bindP AV AV false (nilC v15) fun v78 =>
 @bindP AV AV false (faddr 0 v78) fun v79 =>
 fun h81 => @bindP AV AV false (ld v79) (fun v80 =>
 @bindP AV AV false (nilC v80) fun v83 =>
 @bindP AV AV false (faddr 0 v83) fun v84 =>
 fun h86 => @bindP AV AV false (ld v84) (fun v85 =>
 @bindP AV AV false (nilC v15) fun v88 =>
 @bindP AV AV false (faddr 0 v88) fun v89 =>
 @bindP AV AV false (ld v89) fun v90 =>
 @bindP AV AV false (nilC v90) fun v91 =>
 @bindP AV AV false (faddr 0 v91) fun v92 =>
 @bindP AV AV false (ld v92) fun v93 =>
 fun h95 => @bindP AV AV true (C 16 [v93]) (fun v94 h96 => cond (Nat.ble h95.next h96.next && (AV.under h81.next v80 && (sameS (ld v79) v80 h96 && (AV.under h86.next v85 && (sameS (ld v84) v85 h96 && true))))) ((
 @heavyA true (C 17 [v85, v94]) AV fun v97 =>
 @bindP AV AV false (convA Tryz.prog 22 9 v97) fun v98 =>
 @AM.bind Ans AV (Lp (fun l99 =>
 (fun (v100 v101 : AV) =>
 @AM.bind AV Ans (bn Tryz.prog .add 3 true v101 (.int .i64 (.ofNat 17))) fun v102 =>
 @AM.bind AV Ans (lenStr v98) fun v103 =>
 @AM.bind AV Ans (bn Tryz.prog .leq 3 false v102 v103) fun v104 =>
 @bcond Ans v104 (
 @AM.bind AV Ans (guardA v100 false (.ret v98)) fun v105 =>
 @AM.bind AV Ans (guardA v100 false (.ret v101)) fun v106 =>
 @AM.bind AV Ans (guardA v100 false (.ret v101)) fun v107 =>
 @AM.bind AV Ans (guardA v100 false (bn Tryz.prog .add 3 true v107 (.int .i64 (.ofNat 17)))) fun v108 =>
 @AM.bind AV Ans (guardA v100 false (sliceA Tryz.prog 9 v105 (some v106) (some v108) none)) fun v109 =>
 @AM.bind AV Ans (guardA v100 false (bn Tryz.prog .eql 9 true v109 (.str [67,111,110,110,101,99,116,105,111,110,58,32,99,108,111,115,101]))) fun v110 =>
 @AM.bind AV Ans (pickA v100 (.bool true) v110) fun v111 =>
 @AM.bind AV Ans (bn Tryz.prog .add 3 true v101 (.int .i64 (.ofNat 1))) fun v112 =>
 @AM.ret Ans (0, [v111, v112])) (
 @AM.ret Ans (2, [v100, v101]))) (g0 l99 0) (g0 l99 1)) [(.bool false), (.int .i64 (.ofNat 0))]) fun r113 =>
 cond (Nat.beq r113.1 2) (
 (fun (v114 v115 : AV) =>
 @AM.bind AV AV (lenSl v1) fun v116 =>
 @AM.bind AV AV (bn Tryz.prog .lss 3 false a0 v116) fun v117 =>
 @AM.bind AV AV (bn Tryz.prog .neq 4 false v114 v117) fun v118 =>
 @bcond AV v118 (
 @AM.ret AV (.bool false)) (
 @bindP AV AV false (nilC v15) fun v119 =>
 @bindP AV AV false (faddr 0 v119) fun v120 =>
 fun h122 => @bindP AV AV false (ld v120) (fun v121 =>
 @bindP AV AV false (nilC v15) fun v124 =>
 @bindP AV AV false (faddr 0 v124) fun v125 =>
 @bindP AV AV false (ld v125) fun v126 =>
 @bindP AV AV false (nilC v126) fun v127 =>
 @bindP AV AV false (faddr 0 v127) fun v128 =>
 @bindP AV AV false (ld v128) fun v129 =>
 fun h131 => @bindP AV AV true (C 16 [v129]) (fun v130 h132 => cond (Nat.ble h131.next h132.next && (AV.under h122.next v121 && (sameS (ld v120) v121 h132 && true))) ((
 @heavyA true (C 18 [v121, v130, (.int .i64 (.ofNat 4))]) AV fun v133 =>
 @AM.bind AV AV (lenSl v1) fun v134 =>
 @AM.bind AV AV (bn Tryz.prog .lss 3 false a0 v134) fun v135 =>
 @bcond AV v135 (
 @AM.bind AV AV (nilC v15) fun v136 =>
 @AM.bind AV AV (faddr 0 v136) fun v137 =>
 @AM.bind AV AV (ld v137) fun v138 =>
 @AM.bind AV AV (C 25 [v138]) fun v139 =>
 @AM.bind AV AV (extA v139 0) fun v140 =>
 @AM.bind AV AV (extA v139 1) fun v141 =>
 @AM.bind AV AV (nilC v15) fun v142 =>
 @AM.bind AV AV (faddr 0 v142) fun v143 =>
 @AM.bind AV AV (ld v143) fun v144 =>
 @AM.bind AV AV (C 27 [v144]) fun v145 =>
 @AM.bind AV AV (extA v145 0) fun v146 =>
 @AM.bind AV AV (extA v145 1) fun v147 =>
 @AM.bind AV AV (extA v145 2) fun v148 =>
 @AM.bind AV AV (bn Tryz.prog .eql 3 true v140 (.int .i64 (.ofNat 4))) fun v149 =>
 @AM.bind AV AV (guardA v149 true (.ret v141)) fun v150 =>
 @AM.bind AV AV (guardA v149 true (bn Tryz.prog .eql 3 true v150 (.int .i64 (.ofNat 4)))) fun v151 =>
 @AM.bind AV AV (pickA v149 v151 (.bool false)) fun v152 =>
 @AM.bind AV AV (guardA v152 true (.ret v146)) fun v153 =>
 @AM.bind AV AV (guardA v152 true (bn Tryz.prog .eql 3 true v153 (.int .i64 (.ofNat 1)))) fun v154 =>
 @AM.bind AV AV (pickA v152 v154 (.bool false)) fun v155 =>
 @AM.bind AV AV (guardA v155 true (.ret v15)) fun v156 =>
 @AM.bind AV AV (guardA v155 true (nilC v156)) fun v157 =>
 @AM.bind AV AV (guardA v155 true (faddr 0 v157)) fun v158 =>
 @AM.bind AV AV (guardA v155 true (ld v158)) fun v159 =>
 @AM.bind AV AV (guardA v155 true (C 33 [v159])) fun v160 =>
 @AM.bind AV AV (pickA v155 v160 (.bool false)) fun v161 =>
 @AM.bind AV AV (guardA v161 true (C 12 [])) fun v162 =>
 @AM.bind AV AV (pickA v161 v162 (.bool false)) fun v163 =>
 @AM.ret AV v163) (
 @AM.bind AV AV (C 12 []) fun v164 =>
 @AM.ret AV v164)) h132) .bad) h131) h122)) (g0 r113.2 0) (g0 r113.2 1)) (.bad)) h96) .bad) h95) h86) h81) (.bad))))
theorem qu1n (c : Int) (X : List AV) : okT (callS Tryz.prog XX TT HH 100000 8 [.int .i64 c, .snil] (initH (lG ++ [X]))) = okT (quA (callS Tryz.prog XX TT HH 99999) (loopN 99999) (.int .i64 c) .snil (.bool (decide (c < .ofNat 0))) (initH (lG ++ [X]))) := by kernel_rfl
theorem qu2n (c : Int) (X : List AV) : okT (quA (callS Tryz.prog XX TT HH 99999) (loopN 99999) (.int .i64 c) .snil (.bool true) (initH (lG ++ [X]))) = true := by kernel_rfl
theorem qu3n (c : Int) (X : List AV) : okT (quA (callS Tryz.prog XX TT HH 99999) (loopN 99999) (.int .i64 c) .snil (.bool false) (initH (lG ++ [X]))) = okT (quB (callS Tryz.prog XX TT HH 99999) (loopN 99999) (.int .i64 c) .snil (.bool (decide (c > .ofNat 28))) (initH (lG ++ [X]))) := by kernel_rfl
theorem qu4n (c : Int) (X : List AV) : okT (quB (callS Tryz.prog XX TT HH 99999) (loopN 99999) (.int .i64 c) .snil (.bool true) (initH (lG ++ [X]))) = true := by kernel_rfl
theorem qu5n (c : Int) (X : List AV) : okT (quB (callS Tryz.prog XX TT HH 99999) (loopN 99999) (.int .i64 c) .snil (.bool false) (initH (lG ++ [X]))) = okT (quC (callS Tryz.prog XX TT HH 99999) (loopN 99999) (.int .i64 c) .snil (.bool (decide (Int.ofNat 0 > .ofNat 1000))) (initH (lG ++ [X]))) := by kernel_rfl
theorem qu6n (c : Int) (X : List AV) : okT (quC (callS Tryz.prog XX TT HH 99999) (loopN 99999) (.int .i64 c) .snil (.bool true) (initH (lG ++ [X]))) = true := by kernel_rfl
theorem qu1z (c : Int) (X : List AV) : okT (callS Tryz.prog XX TT HH 100000 8 [.int .i64 c, .szero] (initH (lG ++ [X]))) = okT (quA (callS Tryz.prog XX TT HH 99999) (loopN 99999) (.int .i64 c) .szero (.bool (decide (c < .ofNat 0))) (initH (lG ++ [X]))) := by kernel_rfl
theorem qu2z (c : Int) (X : List AV) : okT (quA (callS Tryz.prog XX TT HH 99999) (loopN 99999) (.int .i64 c) .szero (.bool true) (initH (lG ++ [X]))) = true := by kernel_rfl
theorem qu3z (c : Int) (X : List AV) : okT (quA (callS Tryz.prog XX TT HH 99999) (loopN 99999) (.int .i64 c) .szero (.bool false) (initH (lG ++ [X]))) = okT (quB (callS Tryz.prog XX TT HH 99999) (loopN 99999) (.int .i64 c) .szero (.bool (decide (c > .ofNat 28))) (initH (lG ++ [X]))) := by kernel_rfl
theorem qu4z (c : Int) (X : List AV) : okT (quB (callS Tryz.prog XX TT HH 99999) (loopN 99999) (.int .i64 c) .szero (.bool true) (initH (lG ++ [X]))) = true := by kernel_rfl
theorem qu5z (c : Int) (X : List AV) : okT (quB (callS Tryz.prog XX TT HH 99999) (loopN 99999) (.int .i64 c) .szero (.bool false) (initH (lG ++ [X]))) = okT (quC (callS Tryz.prog XX TT HH 99999) (loopN 99999) (.int .i64 c) .szero (.bool (decide (Int.ofNat 0 > .ofNat 1000))) (initH (lG ++ [X]))) := by kernel_rfl
theorem qu6z (c : Int) (X : List AV) : okT (quC (callS Tryz.prog XX TT HH 99999) (loopN 99999) (.int .i64 c) .szero (.bool true) (initH (lG ++ [X]))) = true := by kernel_rfl
theorem qu1s (len : Nat) (c : Int) (X : List AV) : okT (callS Tryz.prog XX TT HH 100000 8 [.int .i64 c, (.sl 8 0 len 1)] (initH (lG ++ [X]))) = okT (quA (callS Tryz.prog XX TT HH 99999) (loopN 99999) (.int .i64 c) (.sl 8 0 len 1) (.bool (decide (c < .ofNat 0))) (initH (lG ++ [X]))) := by kernel_rfl
theorem qu2s (len : Nat) (c : Int) (X : List AV) : okT (quA (callS Tryz.prog XX TT HH 99999) (loopN 99999) (.int .i64 c) (.sl 8 0 len 1) (.bool true) (initH (lG ++ [X]))) = true := by kernel_rfl
theorem qu3s (len : Nat) (c : Int) (X : List AV) : okT (quA (callS Tryz.prog XX TT HH 99999) (loopN 99999) (.int .i64 c) (.sl 8 0 len 1) (.bool false) (initH (lG ++ [X]))) = okT (quB (callS Tryz.prog XX TT HH 99999) (loopN 99999) (.int .i64 c) (.sl 8 0 len 1) (.bool (decide (c > .ofNat 28))) (initH (lG ++ [X]))) := by kernel_rfl
theorem qu4s (len : Nat) (c : Int) (X : List AV) : okT (quB (callS Tryz.prog XX TT HH 99999) (loopN 99999) (.int .i64 c) (.sl 8 0 len 1) (.bool true) (initH (lG ++ [X]))) = true := by kernel_rfl
theorem qu5s (len : Nat) (c : Int) (X : List AV) : okT (quB (callS Tryz.prog XX TT HH 99999) (loopN 99999) (.int .i64 c) (.sl 8 0 len 1) (.bool false) (initH (lG ++ [X]))) = okT (quC (callS Tryz.prog XX TT HH 99999) (loopN 99999) (.int .i64 c) (.sl 8 0 len 1) (.bool (decide (Int.ofNat len > .ofNat 1000))) (initH (lG ++ [X]))) := by kernel_rfl
theorem qu6s (len : Nat) (c : Int) (X : List AV) : okT (quC (callS Tryz.prog XX TT HH 99999) (loopN 99999) (.int .i64 c) (.sl 8 0 len 1) (.bool true) (initH (lG ++ [X]))) = true := by kernel_rfl
end Go.Am
