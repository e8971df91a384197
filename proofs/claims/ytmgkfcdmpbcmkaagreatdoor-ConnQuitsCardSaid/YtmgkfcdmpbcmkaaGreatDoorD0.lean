/- A text of the claim: SD0. -/
import Derived.Test.YtmgkfcdmpbcmkaaGreatDoorAmF
import Derived.KernelRfl
import Derived.Test.YtmgkfcdmpbcmkaaGreatDoorProg
namespace Go.Am
open Go.Proofs
set_option maxRecDepth 1000000
set_option linter.unusedVariables false
/- usher/usherlaw21.ConnAll -/
noncomputable def F3 (C : CallOp) (Lp : LoopOp) (a0 a1 : AV) : AM AV :=
 @AM.bind AV AV (lenSl a0) fun v0 =>
 @AM.bind AV AV (bn Tryz.prog .gtr 3 true v0 (.int .i64 (.ofNat 3000))) fun v1 =>
 @AM.bind AV AV (guardA v1 false (.ret a1)) fun v2 =>
 @AM.bind AV AV (guardA v1 false (lenSl v2)) fun v3 =>
 @AM.bind AV AV (guardA v1 false (bn Tryz.prog .gtr 3 true v3 (.int .i64 (.ofNat 2000)))) fun v4 =>
 @AM.bind AV AV (pickA v1 (.bool true) v4) fun v5 =>
 @bcond AV v5 (
 @AM.bind AV AV (C 12 []) fun v6 =>
 @AM.ret AV v6) (
 @AM.bind AV AV (C 14 []) fun v7 =>
 @AM.bind AV AV (C 13 [v7, (.int .i64 (.ofNat 256))]) fun v8 =>
 @AM.bind AV AV (extA v8 0) fun v9 =>
 @AM.bind AV AV (extA v8 1) fun v10 =>
 @AM.bind AV AV (un .not v10) fun v11 =>
 @AM.bind AV AV (guardA v11 false (.ret v9)) fun v12 =>
 @AM.bind AV AV (guardA v11 false (nilC v12)) fun v13 =>
 @AM.bind AV AV (guardA v11 false (faddr 0 v13)) fun v14 =>
 @AM.bind AV AV (guardA v11 false (ld v14)) fun v15 =>
 @AM.bind AV AV (guardA v11 false (bn Tryz.prog .eql 32 true v15 (.ptr none))) fun v16 =>
 @AM.bind AV AV (pickA v11 (.bool true) v16) fun v17 =>
 @bcond AV v17 (
 @AM.ret AV (.bool false)) (
 @AM.bind Ans AV (Lp (fun l18 =>
 (fun (v19 v20 v21 v22 : AV) =>
 @AM.bind AV Ans (lenSl a0) fun v23 =>
 @AM.bind AV Ans (bn Tryz.prog .lss 3 false v20 v23) fun v24 =>
 @bcond Ans v24 (
 @AM.bind AV Ans (lenSl a0) fun v25 =>
 @AM.bind AV Ans (bn Tryz.prog .sub 3 false v25 v20) fun v26 =>
 @AM.bind AV Ans (ofOpt (minA v26 [(.int .i64 (.ofNat 64))])) fun v27 =>
 @AM.bind AV Ans (lenSl a1) fun v28 =>
 @AM.bind AV Ans (bn Tryz.prog .lss 3 false v22 v28) fun v29 =>
 @AM.bind Ans Ans (@bcond Ans v29 (
 @AM.bind AV Ans (iaddrS 1 a1 v22) fun v30 =>
 @AM.bind AV Ans (ld v30) fun v31 =>
 @AM.bind AV Ans (bn Tryz.prog .and 3 true v31 (.int .i64 (.ofNat 63))) fun v32 =>
 @AM.bind AV Ans (bn Tryz.prog .add 3 true (.int .i64 (.ofNat 1)) v32) fun v33 =>
 @AM.bind AV Ans (ofOpt (minA v27 [v33])) fun v34 =>
 @AM.ret Ans (0, [v34])) (
 @AM.ret Ans (0, [v27]))) fun r35 =>
 cond (Nat.beq r35.1 0) (
 (fun (v36 : AV) =>
 @bindP AV Ans false (nilC v9) fun v37 =>
 @bindP AV Ans false (faddr 0 v37) fun v38 =>
 @bindP AV Ans false (ld v38) fun v39 =>
 @bindP AV Ans false (bn Tryz.prog .add 3 false v20 v36) fun v40 =>
 @bindP AV Ans false (sliceA Tryz.prog 22 a0 (some v20) (some v40) none) fun v41 =>
 @heavyA true (C 15 [v39, v41, v22]) Ans fun v42 =>
 @bindP AV Ans false (bn Tryz.prog .neq 3 false v42 v36) fun v43 =>
 @bcond Ans v43 (
 @AM.ret Ans (1, [(.bool false), v20, v21, v22])) (
 @AM.bind AV Ans (bn Tryz.prog .add 3 false v20 v36) fun v44 =>
 @AM.bind Ans Ans (Lp (fun l45 =>
 (fun (v46 v47 : AV) =>
 @AM.bind AV Ans (nilC v9) fun v48 =>
 @AM.bind AV Ans (faddr 0 v48) fun v49 =>
 @AM.bind AV Ans (ld v49) fun v50 =>
 @AM.bind AV Ans (nilC v50) fun v51 =>
 @AM.bind AV Ans (faddr 0 v51) fun v52 =>
 @AM.bind AV Ans (ld v52) fun v53 =>
 @AM.bind AV Ans (C 16 [v53]) fun v54 =>
 @AM.bind AV Ans (bn Tryz.prog .gtr 3 true v54 (.int .i64 (.ofNat 0))) fun v55 =>
 @bcond Ans v55 (
 @AM.bind AV Ans (nilC v9) fun v56 =>
 @AM.bind AV Ans (faddr 0 v56) fun v57 =>
 @AM.bind AV Ans (ld v57) fun v58 =>
 @AM.bind AV Ans (nilC v58) fun v59 =>
 @AM.bind AV Ans (faddr 0 v59) fun v60 =>
 @AM.bind AV Ans (ld v60) fun v61 =>
 @AM.bind AV Ans (C 17 [v61, (.int .i64 (.ofNat 100))]) fun v62 =>
 @AM.bind AV Ans (lenSl v62) fun v63 =>
 @AM.bind AV Ans (bn Tryz.prog .eql 3 true v63 (.int .i64 (.ofNat 0))) fun v64 =>
 @bcond Ans v64 (
 @AM.ret Ans (1, [(.bool false), v47])) (
 @AM.bind AV Ans (nilC v9) fun v65 =>
 @AM.bind AV Ans (faddr 0 v65) fun v66 =>
 @AM.bind AV Ans (ld v66) fun v67 =>
 @AM.bind AV Ans (lenSl v62) fun v68 =>
 @AM.bind AV Ans (C 18 [v67, v68, v22]) fun v69 =>
 @AM.bind AV Ans (apnd 1 v47 v62) fun v70 =>
 @AM.ret Ans (0, [v46, v70]))) (
 @AM.ret Ans (4, [v46, v47]))) (g0 l45 0) (g0 l45 1)) [v19, v21]) fun r71 =>
 cond (Nat.beq r71.1 4) (
 (fun (v72 v73 : AV) =>
 @AM.bind AV Ans (bn Tryz.prog .add 3 true v22 (.int .i64 (.ofNat 1))) fun v74 =>
 @AM.ret Ans (0, [v72, v44, v73, v74])) (g0 r71.2 0) (g0 r71.2 1)) (cond (Nat.beq r71.1 1) (
 (fun (v75 v76 : AV) =>
 @AM.ret Ans (1, [v75, v44, v76, v22])) (g0 r71.2 0) (g0 r71.2 1)) (.bad)))) (g0 r35.2 0)) (.bad)) (
 @AM.ret Ans (2, [v19, v20, v21, v22]))) (g0 l18 0) (g0 l18 1) (g0 l18 2) (g0 l18 3)) [(.bool false), (.int .i64 (.ofNat 0)), .snil, (.int .i64 (.ofNat 0))]) fun r77 =>
 cond (Nat.beq r77.1 2) (
 (fun (v78 v79 v80 v81 : AV) =>
 @AM.bind AV AV (C 14 []) fun v82 =>
 @AM.bind AV AV (nw [(.int .i64 (.ofNat 0)), (.int .i64 (.ofNat 0)), (.int .i64 (.ofNat 0)), (.int .i64 (.ofNat 0)), (.int .i64 (.ofNat 0)), (.int .i64 (.ofNat 0)), (.int .i64 (.ofNat 0)), (.int .i64 (.ofNat 0)), (.int .i64 (.ofNat 0)), (.int .i64 (.ofNat 0)), (.int .i64 (.ofNat 0)), (.int .i64 (.ofNat 0)), (.int .i64 (.ofNat 0)), (.bool false), (.bool false), .snil]) fun v83 =>
 @AM.bind AV AV (unit2 (stN 16 v83 v82)) fun _ =>
 @AM.bind AV AV (C 19 []) fun v84 =>
 @AM.bind AV AV (faddr 15 v83) fun v85 =>
 @AM.bind AV AV (unit2 (st v85 v84)) fun _ =>
 @AM.bind AV AV (ldN 16 v83) fun v86 =>
 @AM.bind AV AV (C 20 [v86, a0, v80]) fun v87 =>
 @AM.bind AV AV (extA v87 0) fun v88 =>
 @AM.bind AV AV (extA v87 1) fun v89 =>
 @AM.bind AV AV (guardA v89 true (.ret v88)) fun v90 =>
 @AM.bind AV AV (guardA v89 true (ldN 16 v83)) fun v91 =>
 @AM.bind AV AV (guardA v89 true (.ret a0)) fun v92 =>
 @AM.bind AV AV (guardA v89 true (C 22 [v91, v92])) fun v93 =>
 @AM.bind AV AV (guardA v89 true (C 21 [v90, v93])) fun v94 =>
 @AM.bind AV AV (pickA v89 v94 (.bool false)) fun v95 =>
 @AM.bind AV AV (guardA v95 true (C 12 [])) fun v96 =>
 @AM.bind AV AV (pickA v95 v96 (.bool false)) fun v97 =>
 @AM.ret AV v97) (g0 r77.2 0) (g0 r77.2 1) (g0 r77.2 2) (g0 r77.2 3)) (cond (Nat.beq r77.1 1) (
 (fun (v98 v99 v100 v101 : AV) =>
 @AM.ret AV v98) (g0 r77.2 0) (g0 r77.2 1) (g0 r77.2 2) (g0 r77.2 3)) (.bad))))
/- usher/usherlaw21.ConnLate -/
noncomputable def F4 (C : CallOp) (Lp : LoopOp) (a0 a1 : AV) : AM AV :=
 @AM.bind AV AV (bn Tryz.prog .lss 3 true a1 (.int .i64 (.ofNat 1))) fun v0 =>
 @AM.bind AV AV (guardA v0 false (.ret a1)) fun v1 =>
 @AM.bind AV AV (guardA v0 false (bn Tryz.prog .gtr 3 true v1 (.int .i64 (.ofNat 19)))) fun v2 =>
 @AM.bind AV AV (pickA v0 (.bool true) v2) fun v3 =>
 @bcond AV v3 (
 @AM.bind AV AV (C 12 []) fun v4 =>
 @AM.ret AV v4) (
 @AM.bind AV AV (C 14 []) fun v5 =>
 @AM.bind AV AV (C 13 [v5, (.int .i64 (.ofNat 256))]) fun v6 =>
 @AM.bind AV AV (extA v6 0) fun v7 =>
 @AM.bind AV AV (extA v6 1) fun v8 =>
 @AM.bind AV AV (un .not v8) fun v9 =>
 @AM.bind AV AV (guardA v9 false (.ret v7)) fun v10 =>
 @AM.bind AV AV (guardA v9 false (nilC v10)) fun v11 =>
 @AM.bind AV AV (guardA v9 false (faddr 0 v11)) fun v12 =>
 @AM.bind AV AV (guardA v9 false (ld v12)) fun v13 =>
 @AM.bind AV AV (guardA v9 false (bn Tryz.prog .eql 32 true v13 (.ptr none))) fun v14 =>
 @AM.bind AV AV (pickA v9 (.bool true) v14) fun v15 =>
 @bcond AV v15 (
 @AM.ret AV (.bool false)) (
 @AM.bind AV AV (bsl [(.int .u8 (.ofNat 0)), (.int .u8 (.ofNat 0)), (.int .u8 (.ofNat 0)), (.int .u8 (.ofNat 0)), (.int .u8 (.ofNat 0)), (.int .u8 (.ofNat 0)), (.int .u8 (.ofNat 0)), (.int .u8 (.ofNat 0)), (.int .u8 (.ofNat 0)), (.int .u8 (.ofNat 0)), (.int .u8 (.ofNat 0)), (.int .u8 (.ofNat 0)), (.int .u8 (.ofNat 0)), (.int .u8 (.ofNat 0)), (.int .u8 (.ofNat 0)), (.int .u8 (.ofNat 0)), (.int .u8 (.ofNat 0)), (.int .u8 (.ofNat 0)), (.int .u8 (.ofNat 0)), (.int .u8 (.ofNat 0)), (.int .u8 (.ofNat 0)), (.int .u8 (.ofNat 0)), (.int .u8 (.ofNat 0)), (.int .u8 (.ofNat 0)), (.int .u8 (.ofNat 0)), (.int .u8 (.ofNat 0)), (.int .u8 (.ofNat 0)), (.int .u8 (.ofNat 0))] [(0, 1, (.int .u8 (.ofNat 71))), (1, 1, (.int .u8 (.ofNat 69))), (2, 1, (.int .u8 (.ofNat 84))), (3, 1, (.int .u8 (.ofNat 32))), (4, 1, (.int .u8 (.ofNat 47))), (5, 1, (.int .u8 (.ofNat 32))), (6, 1, (.int .u8 (.ofNat 72))), (7, 1, (.int .u8 (.ofNat 84))), (8, 1, (.int .u8 (.ofNat 84))), (9, 1, (.int .u8 (.ofNat 80))), (10, 1, (.int .u8 (.ofNat 47))), (11, 1, (.int .u8 (.ofNat 49))), (12, 1, (.int .u8 (.ofNat 46))), (13, 1, (.int .u8 (.ofNat 49))), (14, 1, (.int .u8 (.ofNat 13))), (15, 1, (.int .u8 (.ofNat 10))), (16, 1, (.int .u8 (.ofNat 72))), (17, 1, (.int .u8 (.ofNat 111))), (18, 1, (.int .u8 (.ofNat 115))), (19, 1, (.int .u8 (.ofNat 116))), (20, 1, (.int .u8 (.ofNat 58))), (21, 1, (.int .u8 (.ofNat 32))), (22, 1, (.int .u8 (.ofNat 97))), (23, 1, (.int .u8 (.ofNat 13))), (24, 1, (.int .u8 (.ofNat 10))), (25, 1, (.int .u8 (.ofNat 88))), (26, 1, (.int .u8 (.ofNat 58))), (27, 1, (.int .u8 (.ofNat 32)))] 28 1) fun v16 =>
 @AM.bind AV AV (convA Tryz.prog 22 22 v16) fun v17 =>
 @AM.bind Ans AV (@bcond Ans a0 (
 @AM.bind AV Ans (bsl [(.int .u8 (.ofNat 0)), (.int .u8 (.ofNat 0)), (.int .u8 (.ofNat 0)), (.int .u8 (.ofNat 0)), (.int .u8 (.ofNat 0)), (.int .u8 (.ofNat 0)), (.int .u8 (.ofNat 0)), (.int .u8 (.ofNat 0)), (.int .u8 (.ofNat 0)), (.int .u8 (.ofNat 0)), (.int .u8 (.ofNat 0)), (.int .u8 (.ofNat 0)), (.int .u8 (.ofNat 0)), (.int .u8 (.ofNat 0)), (.int .u8 (.ofNat 0)), (.int .u8 (.ofNat 0)), (.int .u8 (.ofNat 0)), (.int .u8 (.ofNat 0)), (.int .u8 (.ofNat 0)), (.int .u8 (.ofNat 0)), (.int .u8 (.ofNat 0)), (.int .u8 (.ofNat 0)), (.int .u8 (.ofNat 0)), (.int .u8 (.ofNat 0)), (.int .u8 (.ofNat 0)), (.int .u8 (.ofNat 0)), (.int .u8 (.ofNat 0)), (.int .u8 (.ofNat 0)), (.int .u8 (.ofNat 0)), (.int .u8 (.ofNat 0)), (.int .u8 (.ofNat 0)), (.int .u8 (.ofNat 0)), (.int .u8 (.ofNat 0)), (.int .u8 (.ofNat 0)), (.int .u8 (.ofNat 0)), (.int .u8 (.ofNat 0)), (.int .u8 (.ofNat 0)), (.int .u8 (.ofNat 0)), (.int .u8 (.ofNat 0)), (.int .u8 (.ofNat 0)), (.int .u8 (.ofNat 0)), (.int .u8 (.ofNat 0)), (.int .u8 (.ofNat 0)), (.int .u8 (.ofNat 0)), (.int .u8 (.ofNat 0)), (.int .u8 (.ofNat 0)), (.int .u8 (.ofNat 0)), (.int .u8 (.ofNat 0)), (.int .u8 (.ofNat 0)), (.int .u8 (.ofNat 0)), (.int .u8 (.ofNat 0)), (.int .u8 (.ofNat 0))] [(0, 1, (.int .u8 (.ofNat 80))), (1, 1, (.int .u8 (.ofNat 79))), (2, 1, (.int .u8 (.ofNat 83))), (3, 1, (.int .u8 (.ofNat 84))), (4, 1, (.int .u8 (.ofNat 32))), (5, 1, (.int .u8 (.ofNat 47))), (6, 1, (.int .u8 (.ofNat 101))), (7, 1, (.int .u8 (.ofNat 99))), (8, 1, (.int .u8 (.ofNat 104))), (9, 1, (.int .u8 (.ofNat 111))), (10, 1, (.int .u8 (.ofNat 32))), (11, 1, (.int .u8 (.ofNat 72))), (12, 1, (.int .u8 (.ofNat 84))), (13, 1, (.int .u8 (.ofNat 84))), (14, 1, (.int .u8 (.ofNat 80))), (15, 1, (.int .u8 (.ofNat 47))), (16, 1, (.int .u8 (.ofNat 49))), (17, 1, (.int .u8 (.ofNat 46))), (18, 1, (.int .u8 (.ofNat 49))), (19, 1, (.int .u8 (.ofNat 13))), (20, 1, (.int .u8 (.ofNat 10))), (21, 1, (.int .u8 (.ofNat 72))), (22, 1, (.int .u8 (.ofNat 111))), (23, 1, (.int .u8 (.ofNat 115))), (24, 1, (.int .u8 (.ofNat 116))), (25, 1, (.int .u8 (.ofNat 58))), (26, 1, (.int .u8 (.ofNat 32))), (27, 1, (.int .u8 (.ofNat 97))), (28, 1, (.int .u8 (.ofNat 13))), (29, 1, (.int .u8 (.ofNat 10))), (30, 1, (.int .u8 (.ofNat 67))), (31, 1, (.int .u8 (.ofNat 111))), (32, 1, (.int .u8 (.ofNat 110))), (33, 1, (.int .u8 (.ofNat 116))), (34, 1, (.int .u8 (.ofNat 101))), (35, 1, (.int .u8 (.ofNat 110))), (36, 1, (.int .u8 (.ofNat 116))), (37, 1, (.int .u8 (.ofNat 45))), (38, 1, (.int .u8 (.ofNat 76))), (39, 1, (.int .u8 (.ofNat 101))), (40, 1, (.int .u8 (.ofNat 110))), (41, 1, (.int .u8 (.ofNat 103))), (42, 1, (.int .u8 (.ofNat 116))), (43, 1, (.int .u8 (.ofNat 104))), (44, 1, (.int .u8 (.ofNat 58))), (45, 1, (.int .u8 (.ofNat 32))), (46, 1, (.int .u8 (.ofNat 57))), (47, 1, (.int .u8 (.ofNat 48))), (48, 1, (.int .u8 (.ofNat 13))), (49, 1, (.int .u8 (.ofNat 10))), (50, 1, (.int .u8 (.ofNat 13))), (51, 1, (.int .u8 (.ofNat 10)))] 52 1) fun v18 =>
 @AM.bind AV Ans (convA Tryz.prog 22 22 v18) fun v19 =>
 @AM.ret Ans (0, [v19, (.int .i64 (.ofNat 30))])) (
 @AM.ret Ans (0, [v17, (.int .i64 (.ofNat 20))]))) fun r20 =>
 cond (Nat.beq r20.1 0) (
 (fun (v21 v22 : AV) =>
 @AM.bind AV AV (nilC v7) fun v23 =>
 @AM.bind AV AV (faddr 0 v23) fun v24 =>
 @AM.bind AV AV (ld v24) fun v25 =>
 @AM.bind AV AV (C 15 [v25, v21, (.int .i64 (.ofNat 0))]) fun v26 =>
 @AM.bind Ans AV (Lp (fun l27 =>
 (fun (v28 v29 : AV) =>
 @AM.bind AV Ans (bn Tryz.prog .lss 3 false v29 v22) fun v30 =>
 @bcond Ans v30 (
 @AM.bind AV Ans (bn Tryz.prog .rem 3 false v29 a1) fun v31 =>
 @AM.bind AV Ans (bn Tryz.prog .eql 3 true v31 (.int .i64 (.ofNat 0))) fun v32 =>
 @AM.bind Ans Ans (@bcond Ans v32 (
 @AM.bind AV Ans (nilC v7) fun v33 =>
 @AM.bind AV Ans (faddr 0 v33) fun v34 =>
 @AM.bind AV Ans (ld v34) fun v35 =>
 @AM.bind AV Ans (bsl [(.int .u8 (.ofNat 0))] [(0, 1, (.int .u8 (.ofNat 120)))] 1 1) fun v36 =>
 @AM.bind AV Ans (C 15 [v35, v36, v29]) fun v37 =>
 @AM.ret Ans (0, [])) (
 @AM.ret Ans (0, []))) fun r38 =>
 cond (Nat.beq r38.1 0) (
 @AM.bind AV Ans (nilC v7) fun v39 =>
 @AM.bind AV Ans (faddr 0 v39) fun v40 =>
 @AM.bind AV Ans (ld v40) fun v41 =>
 @AM.bind AV Ans (C 23 [v41, v29]) fun v42 =>
 @AM.bind AV Ans (nilC v7) fun v43 =>
 @AM.bind AV Ans (faddr 0 v43) fun v44 =>
 @AM.bind AV Ans (ld v44) fun v45 =>
 @AM.bind AV Ans (C 24 [v45]) fun v46 =>
 @AM.bind AV Ans (extA v46 0) fun v47 =>
 @AM.bind AV Ans (extA v46 1) fun v48 =>
 @AM.bind AV Ans (un .not v48) fun v49 =>
 @AM.bind AV Ans (guardA v49 false (.ret v47)) fun v50 =>
 @AM.bind AV Ans (guardA v49 false (.ret v22)) fun v51 =>
 @AM.bind AV Ans (guardA v49 false (bn Tryz.prog .neq 3 false v50 v51)) fun v52 =>
 @AM.bind AV Ans (pickA v49 (.bool true) v52) fun v53 =>
 @AM.bind AV Ans (guardA v53 false (.ret v7)) fun v54 =>
 @AM.bind AV Ans (guardA v53 false (nilC v54)) fun v55 =>
 @AM.bind AV Ans (guardA v53 false (faddr 0 v55)) fun v56 =>
 @AM.bind AV Ans (guardA v53 false (ld v56)) fun v57 =>
 @AM.bind AV Ans (guardA v53 false (nilC v57)) fun v58 =>
 @AM.bind AV Ans (guardA v53 false (faddr 0 v58)) fun v59 =>
 @AM.bind AV Ans (guardA v53 false (ld v59)) fun v60 =>
 @AM.bind AV Ans (guardA v53 false (C 16 [v60])) fun v61 =>
 @AM.bind AV Ans (guardA v53 false (bn Tryz.prog .neq 3 true v61 (.int .i64 (.ofNat 0)))) fun v62 =>
 @AM.bind AV Ans (pickA v53 (.bool true) v62) fun v63 =>
 @bcond Ans v63 (
 @AM.ret Ans (1, [(.bool false), v29])) (
 @AM.bind AV Ans (bn Tryz.prog .add 3 true v29 (.int .i64 (.ofNat 1))) fun v64 =>
 @AM.ret Ans (0, [v28, v64]))) (.bad)) (
 @AM.ret Ans (2, [v28, v29]))) (g0 l27 0) (g0 l27 1)) [(.bool false), (.int .i64 (.ofNat 1))]) fun r65 =>
 cond (Nat.beq r65.1 2) (
 (fun (v66 v67 : AV) =>
 @AM.bind AV AV (nilC v7) fun v68 =>
 @AM.bind AV AV (faddr 0 v68) fun v69 =>
 @AM.bind AV AV (ld v69) fun v70 =>
 @AM.bind AV AV (C 23 [v70, v22]) fun v71 =>
 @AM.bind AV AV (nilC v7) fun v72 =>
 @AM.bind AV AV (faddr 0 v72) fun v73 =>
 @AM.bind AV AV (ld v73) fun v74 =>
 @AM.bind AV AV (C 25 [v74]) fun v75 =>
 @AM.bind AV AV (extA v75 0) fun v76 =>
 @AM.bind AV AV (extA v75 1) fun v77 =>
 @AM.bind AV AV (bn Tryz.prog .eql 3 true v76 (.int .i64 (.ofNat 3))) fun v78 =>
 @AM.bind AV AV (guardA v78 true (.ret v77)) fun v79 =>
 @AM.bind AV AV (guardA v78 true (.ret v22)) fun v80 =>
 @AM.bind AV AV (guardA v78 true (bn Tryz.prog .eql 3 false v79 v80)) fun v81 =>
 @AM.bind AV AV (pickA v78 v81 (.bool false)) fun v82 =>
 @AM.bind AV AV (guardA v82 true (.ret v7)) fun v83 =>
 @AM.bind AV AV (guardA v82 true (nilC v83)) fun v84 =>
 @AM.bind AV AV (guardA v82 true (faddr 0 v84)) fun v85 =>
 @AM.bind AV AV (guardA v82 true (ld v85)) fun v86 =>
 @AM.bind AV AV (guardA v82 true (nilC v86)) fun v87 =>
 @AM.bind AV AV (guardA v82 true (faddr 0 v87)) fun v88 =>
 @AM.bind AV AV (guardA v82 true (ld v88)) fun v89 =>
 @AM.bind AV AV (guardA v82 true (C 17 [v89, (.int .i64 (.ofNat 12))])) fun v90 =>
 @AM.bind AV AV (guardA v82 true (bsl [(.int .u8 (.ofNat 0)), (.int .u8 (.ofNat 0)), (.int .u8 (.ofNat 0)), (.int .u8 (.ofNat 0)), (.int .u8 (.ofNat 0)), (.int .u8 (.ofNat 0)), (.int .u8 (.ofNat 0)), (.int .u8 (.ofNat 0)), (.int .u8 (.ofNat 0)), (.int .u8 (.ofNat 0)), (.int .u8 (.ofNat 0)), (.int .u8 (.ofNat 0))] [(0, 1, (.int .u8 (.ofNat 72))), (1, 1, (.int .u8 (.ofNat 84))), (2, 1, (.int .u8 (.ofNat 84))), (3, 1, (.int .u8 (.ofNat 80))), (4, 1, (.int .u8 (.ofNat 47))), (5, 1, (.int .u8 (.ofNat 49))), (6, 1, (.int .u8 (.ofNat 46))), (7, 1, (.int .u8 (.ofNat 49))), (8, 1, (.int .u8 (.ofNat 32))), (9, 1, (.int .u8 (.ofNat 52))), (10, 1, (.int .u8 (.ofNat 48))), (11, 1, (.int .u8 (.ofNat 56)))] 12 1)) fun v91 =>
 @AM.bind AV AV (guardA v82 true (convA Tryz.prog 22 22 v91)) fun v92 =>
 @AM.bind AV AV (guardA v82 true (C 21 [v90, v92])) fun v93 =>
 @AM.bind AV AV (pickA v82 v93 (.bool false)) fun v94 =>
 @AM.bind AV AV (guardA v94 true (C 12 [])) fun v95 =>
 @AM.bind AV AV (pickA v94 v95 (.bool false)) fun v96 =>
 @AM.ret AV v96) (g0 r65.2 0) (g0 r65.2 1)) (cond (Nat.beq r65.1 1) (
 (fun (v97 v98 : AV) =>
 @AM.ret AV v97) (g0 r65.2 0) (g0 r65.2 1)) (.bad))) (g0 r20.2 0) (g0 r20.2 1)) (.bad)))
/- usher/usherlaw21.ConnWord -/
noncomputable def F5 (C : CallOp) (Lp : LoopOp) (a0 : AV) : AM AV :=
 @AM.bind AV AV (lenSl a0) fun v0 =>
 @AM.bind AV AV (bn Tryz.prog .lss 3 true v0 (.int .i64 (.ofNat 1))) fun v1 =>
 @AM.bind AV AV (guardA v1 false (.ret a0)) fun v2 =>
 @AM.bind AV AV (guardA v1 false (lenSl v2)) fun v3 =>
 @AM.bind AV AV (guardA v1 false (bn Tryz.prog .gtr 3 true v3 (.int .i64 (.ofNat 200)))) fun v4 =>
 @AM.bind AV AV (pickA v1 (.bool true) v4) fun v5 =>
 @bcond AV v5 (
 @AM.bind AV AV (C 12 []) fun v6 =>
 @AM.ret AV v6) (
 @AM.bind AV AV (C 14 []) fun v7 =>
 @AM.bind AV AV (C 13 [v7, (.int .i64 (.ofNat 4096))]) fun v8 =>
 @AM.bind AV AV (extA v8 0) fun v9 =>
 @AM.bind AV AV (extA v8 1) fun v10 =>
 @AM.bind AV AV (un .not v10) fun v11 =>
 @AM.bind AV AV (guardA v11 false (.ret v9)) fun v12 =>
 @AM.bind AV AV (guardA v11 false (nilC v12)) fun v13 =>
 @AM.bind AV AV (guardA v11 false (faddr 0 v13)) fun v14 =>
 @AM.bind AV AV (guardA v11 false (ld v14)) fun v15 =>
 @AM.bind AV AV (guardA v11 false (bn Tryz.prog .eql 32 true v15 (.ptr none))) fun v16 =>
 @AM.bind AV AV (pickA v11 (.bool true) v16) fun v17 =>
 @bcond AV v17 (
 @AM.ret AV (.bool false)) (
 @AM.bind AV AV (lenSl a0) fun v18 =>
 @AM.bind AV AV (C 26 [v18]) fun v19 =>
 @AM.bind AV AV (bn Tryz.prog .add 9 true (.str [80,79,83,84,32,47,101,99,104,111,32,72,84,84,80,47,49,46,49,13,10,72,111,115,116,58,32,97,13,10,69,120,112,101,99,116,58,32,49,48,48,45,99,111,110,116,105,110,117,101,13,10,67,111,110,116,101,110,116,45,76,101,110,103,116,104,58,32]) v19) fun v20 =>
 @AM.bind AV AV (bn Tryz.prog .add 9 true v20 (.str [13,10,13,10])) fun v21 =>
 @AM.bind AV AV (convA Tryz.prog 9 22 v21) fun v22 =>
 @AM.bind AV AV (nilC v9) fun v23 =>
 @AM.bind AV AV (faddr 0 v23) fun v24 =>
 @AM.bind AV AV (ld v24) fun v25 =>
 @AM.bind AV AV (C 15 [v25, v22, (.int .i64 (.ofNat 0))]) fun v26 =>
 @bindP AV AV false (nilC v9) fun v27 =>
 @bindP AV AV false (faddr 0 v27) fun v28 =>
 fun h30 => @bindP AV AV false (ld v28) (fun v29 =>
 @bindP AV AV false (nilC v29) fun v32 =>
 @bindP AV AV false (faddr 0 v32) fun v33 =>
 fun h35 => @bindP AV AV false (ld v33) (fun v34 =>
 @bindP AV AV false (nilC v9) fun v37 =>
 @bindP AV AV false (faddr 0 v37) fun v38 =>
 @bindP AV AV false (ld v38) fun v39 =>
 @bindP AV AV false (nilC v39) fun v40 =>
 @bindP AV AV false (faddr 0 v40) fun v41 =>
 @bindP AV AV false (ld v41) fun v42 =>
 fun h44 => @bindP AV AV true (C 16 [v42]) (fun v43 h45 => cond (Nat.ble h44.next h45.next && (AV.under h30.next v29 && (sameS (ld v28) v29 h45 && (AV.under h35.next v34 && (sameS (ld v33) v34 h45 && true))))) ((
 @heavyA true (C 17 [v34, v43]) AV fun v46 =>
 @AM.bind AV AV (bsl [(.int .u8 (.ofNat 0)), (.int .u8 (.ofNat 0)), (.int .u8 (.ofNat 0)), (.int .u8 (.ofNat 0)), (.int .u8 (.ofNat 0)), (.int .u8 (.ofNat 0)), (.int .u8 (.ofNat 0)), (.int .u8 (.ofNat 0)), (.int .u8 (.ofNat 0)), (.int .u8 (.ofNat 0)), (.int .u8 (.ofNat 0)), (.int .u8 (.ofNat 0)), (.int .u8 (.ofNat 0)), (.int .u8 (.ofNat 0)), (.int .u8 (.ofNat 0)), (.int .u8 (.ofNat 0)), (.int .u8 (.ofNat 0)), (.int .u8 (.ofNat 0)), (.int .u8 (.ofNat 0)), (.int .u8 (.ofNat 0)), (.int .u8 (.ofNat 0)), (.int .u8 (.ofNat 0)), (.int .u8 (.ofNat 0)), (.int .u8 (.ofNat 0)), (.int .u8 (.ofNat 0))] [(0, 1, (.int .u8 (.ofNat 72))), (1, 1, (.int .u8 (.ofNat 84))), (2, 1, (.int .u8 (.ofNat 84))), (3, 1, (.int .u8 (.ofNat 80))), (4, 1, (.int .u8 (.ofNat 47))), (5, 1, (.int .u8 (.ofNat 49))), (6, 1, (.int .u8 (.ofNat 46))), (7, 1, (.int .u8 (.ofNat 49))), (8, 1, (.int .u8 (.ofNat 32))), (9, 1, (.int .u8 (.ofNat 49))), (10, 1, (.int .u8 (.ofNat 48))), (11, 1, (.int .u8 (.ofNat 48))), (12, 1, (.int .u8 (.ofNat 32))), (13, 1, (.int .u8 (.ofNat 67))), (14, 1, (.int .u8 (.ofNat 111))), (15, 1, (.int .u8 (.ofNat 110))), (16, 1, (.int .u8 (.ofNat 116))), (17, 1, (.int .u8 (.ofNat 105))), (18, 1, (.int .u8 (.ofNat 110))), (19, 1, (.int .u8 (.ofNat 117))), (20, 1, (.int .u8 (.ofNat 101))), (21, 1, (.int .u8 (.ofNat 13))), (22, 1, (.int .u8 (.ofNat 10))), (23, 1, (.int .u8 (.ofNat 13))), (24, 1, (.int .u8 (.ofNat 10)))] 25 1) fun v47 =>
 @AM.bind AV AV (convA Tryz.prog 22 22 v47) fun v48 =>
 @AM.bind AV AV (C 21 [v46, v48]) fun v49 =>
 @AM.bind AV AV (un .not v49) fun v50 =>
 @bcond AV v50 (
 @AM.ret AV (.bool false)) (
 @AM.bind AV AV (nilC v9) fun v51 =>
 @AM.bind AV AV (faddr 0 v51) fun v52 =>
 @AM.bind AV AV (ld v52) fun v53 =>
 @AM.bind AV AV (lenSl v46) fun v54 =>
 @AM.bind AV AV (C 18 [v53, v54, (.int .i64 (.ofNat 1))]) fun v55 =>
 @AM.bind AV AV (nilC v9) fun v56 =>
 @AM.bind AV AV (faddr 0 v56) fun v57 =>
 @AM.bind AV AV (ld v57) fun v58 =>
 @AM.bind AV AV (C 25 [v58]) fun v59 =>
 @AM.bind AV AV (extA v59 0) fun v60 =>
 @AM.bind AV AV (extA v59 1) fun v61 =>
 @AM.bind AV AV (nilC v9) fun v62 =>
 @AM.bind AV AV (faddr 0 v62) fun v63 =>
 @AM.bind AV AV (ld v63) fun v64 =>
 @AM.bind AV AV (C 27 [v64]) fun v65 =>
 @AM.bind AV AV (extA v65 0) fun v66 =>
 @AM.bind AV AV (extA v65 1) fun v67 =>
 @AM.bind AV AV (extA v65 2) fun v68 =>
 @AM.bind AV AV (bn Tryz.prog .neq 3 true v60 (.int .i64 (.ofNat 2))) fun v69 =>
 @AM.bind AV AV (guardA v69 false (.ret v61)) fun v70 =>
 @AM.bind AV AV (guardA v69 false (bn Tryz.prog .neq 3 true v70 (.int .i64 (.ofNat 1)))) fun v71 =>
 @AM.bind AV AV (pickA v69 (.bool true) v71) fun v72 =>
 @AM.bind AV AV (guardA v72 false (.ret v67)) fun v73 =>
 @AM.bind AV AV (guardA v72 false (bn Tryz.prog .neq 3 true v73 (.int .i64 (.ofNat 0)))) fun v74 =>
 @AM.bind AV AV (pickA v72 (.bool true) v74) fun v75 =>
 @AM.bind AV AV (guardA v75 false (.ret v9)) fun v76 =>
 @AM.bind AV AV (guardA v75 false (nilC v76)) fun v77 =>
 @AM.bind AV AV (guardA v75 false (faddr 0 v77)) fun v78 =>
 @AM.bind AV AV (guardA v75 false (ld v78)) fun v79 =>
 @AM.bind AV AV (guardA v75 false (nilC v79)) fun v80 =>
 @AM.bind AV AV (guardA v75 false (faddr 0 v80)) fun v81 =>
 @AM.bind AV AV (guardA v75 false (ld v81)) fun v82 =>
 @AM.bind AV AV (guardA v75 false (C 16 [v82])) fun v83 =>
 @AM.bind AV AV (guardA v75 false (bn Tryz.prog .neq 3 true v83 (.int .i64 (.ofNat 0)))) fun v84 =>
 @AM.bind AV AV (pickA v75 (.bool true) v84) fun v85 =>
 @bcond AV v85 (
 @AM.ret AV (.bool false)) (
 @AM.bind AV AV (nilC v9) fun v86 =>
 @AM.bind AV AV (faddr 0 v86) fun v87 =>
 @AM.bind AV AV (ld v87) fun v88 =>
 @AM.bind AV AV (C 15 [v88, a0, (.int .i64 (.ofNat 2))]) fun v89 =>
 @bindP AV AV false (nilC v9) fun v90 =>
 @bindP AV AV false (faddr 0 v90) fun v91 =>
 fun h93 => @bindP AV AV false (ld v91) (fun v92 =>
 @bindP AV AV false (nilC v92) fun v95 =>
 @bindP AV AV false (faddr 0 v95) fun v96 =>
 fun h98 => @bindP AV AV false (ld v96) (fun v97 =>
 @bindP AV AV false (nilC v9) fun v100 =>
 @bindP AV AV false (faddr 0 v100) fun v101 =>
 @bindP AV AV false (ld v101) fun v102 =>
 @bindP AV AV false (nilC v102) fun v103 =>
 @bindP AV AV false (faddr 0 v103) fun v104 =>
 @bindP AV AV false (ld v104) fun v105 =>
 fun h107 => @bindP AV AV true (C 16 [v105]) (fun v106 h108 => cond (Nat.ble h107.next h108.next && (AV.under h93.next v92 && (sameS (ld v91) v92 h108 && (AV.under h98.next v97 && (sameS (ld v96) v97 h108 && true))))) ((
 @heavyA true (C 17 [v97, v106]) AV fun v109 =>
 @AM.bind AV AV (nilC v9) fun v110 =>
 @AM.bind AV AV (faddr 0 v110) fun v111 =>
 @AM.bind AV AV (ld v111) fun v112 =>
 @AM.bind AV AV (C 27 [v112]) fun v113 =>
 @AM.bind AV AV (extA v113 0) fun v114 =>
 @AM.bind AV AV (extA v113 1) fun v115 =>
 @AM.bind AV AV (extA v113 2) fun v116 =>
 @AM.bind AV AV (bn Tryz.prog .eql 3 true v114 (.int .i64 (.ofNat 1))) fun v117 =>
 @AM.bind AV AV (guardA v117 true (.ret v115)) fun v118 =>
 @AM.bind AV AV (guardA v117 true (bn Tryz.prog .eql 3 true v118 (.int .i64 (.ofNat 1)))) fun v119 =>
 @AM.bind AV AV (pickA v117 v119 (.bool false)) fun v120 =>
 @AM.bind AV AV (guardA v120 true (.ret v116)) fun v121 =>
 @AM.bind AV AV (guardA v120 true (bn Tryz.prog .eql 3 true v121 (.int .i64 (.ofNat 0)))) fun v122 =>
 @AM.bind AV AV (pickA v120 v122 (.bool false)) fun v123 =>
 @AM.bind AV AV (guardA v123 true (.ret v109)) fun v124 =>
 @AM.bind AV AV (guardA v123 true (lenSl v124)) fun v125 =>
 @AM.bind AV AV (guardA v123 true (.ret a0)) fun v126 =>
 @AM.bind AV AV (guardA v123 true (lenSl v126)) fun v127 =>
 @AM.bind AV AV (guardA v123 true (bn Tryz.prog .gtr 3 false v125 v127)) fun v128 =>
 @AM.bind AV AV (pickA v123 v128 (.bool false)) fun v129 =>
 @AM.bind AV AV (guardA v129 true (.ret v109)) fun v130 =>
 @AM.bind AV AV (guardA v129 true (.ret v109)) fun v131 =>
 @AM.bind AV AV (guardA v129 true (lenSl v131)) fun v132 =>
 @AM.bind AV AV (guardA v129 true (.ret a0)) fun v133 =>
 @AM.bind AV AV (guardA v129 true (lenSl v133)) fun v134 =>
 @AM.bind AV AV (guardA v129 true (bn Tryz.prog .sub 3 false v132 v134)) fun v135 =>
 @AM.bind AV AV (guardA v129 true (sliceA Tryz.prog 22 v130 (some v135) none none)) fun v136 =>
 @AM.bind AV AV (guardA v129 true (.ret a0)) fun v137 =>
 @AM.bind AV AV (guardA v129 true (C 21 [v136, v137])) fun v138 =>
 @AM.bind AV AV (pickA v129 v138 (.bool false)) fun v139 =>
 @AM.bind AV AV (guardA v139 true (.ret v109)) fun v140 =>
 @AM.bind AV AV (guardA v139 true (sliceA Tryz.prog 22 v140 none (some (.int .i64 (.ofNat 15))) none)) fun v141 =>
 @AM.bind AV AV (guardA v139 true (bsl [(.int .u8 (.ofNat 0)), (.int .u8 (.ofNat 0)), (.int .u8 (.ofNat 0)), (.int .u8 (.ofNat 0)), (.int .u8 (.ofNat 0)), (.int .u8 (.ofNat 0)), (.int .u8 (.ofNat 0)), (.int .u8 (.ofNat 0)), (.int .u8 (.ofNat 0)), (.int .u8 (.ofNat 0)), (.int .u8 (.ofNat 0)), (.int .u8 (.ofNat 0)), (.int .u8 (.ofNat 0)), (.int .u8 (.ofNat 0)), (.int .u8 (.ofNat 0))] [(0, 1, (.int .u8 (.ofNat 72))), (1, 1, (.int .u8 (.ofNat 84))), (2, 1, (.int .u8 (.ofNat 84))), (3, 1, (.int .u8 (.ofNat 80))), (4, 1, (.int .u8 (.ofNat 47))), (5, 1, (.int .u8 (.ofNat 49))), (6, 1, (.int .u8 (.ofNat 46))), (7, 1, (.int .u8 (.ofNat 49))), (8, 1, (.int .u8 (.ofNat 32))), (9, 1, (.int .u8 (.ofNat 50))), (10, 1, (.int .u8 (.ofNat 48))), (11, 1, (.int .u8 (.ofNat 48))), (12, 1, (.int .u8 (.ofNat 32))), (13, 1, (.int .u8 (.ofNat 79))), (14, 1, (.int .u8 (.ofNat 75)))] 15 1)) fun v142 =>
 @AM.bind AV AV (guardA v139 true (convA Tryz.prog 22 22 v142)) fun v143 =>
 @AM.bind AV AV (guardA v139 true (C 21 [v141, v143])) fun v144 =>
 @AM.bind AV AV (pickA v139 v144 (.bool false)) fun v145 =>
 @AM.bind AV AV (guardA v145 true (C 12 [])) fun v146 =>
 @AM.bind AV AV (pickA v145 v146 (.bool false)) fun v147 =>
 @AM.ret AV v147) h108) .bad) h107) h98) h93))) h45) .bad) h44) h35) h30))
/- usher/usherlaw21.ConnTells -/
noncomputable def F6 (C : CallOp) (Lp : LoopOp) (a0 a1 a2 : AV) : AM AV :=
 @AM.bind AV AV (lenSl a0) fun v0 =>
 @AM.bind AV AV (bn Tryz.prog .gtr 3 true v0 (.int .i64 (.ofNat 3000))) fun v1 =>
 @AM.bind AV AV (guardA v1 false (.ret a1)) fun v2 =>
 @AM.bind AV AV (guardA v1 false (lenSl v2)) fun v3 =>
 @AM.bind AV AV (guardA v1 false (bn Tryz.prog .gtr 3 true v3 (.int .i64 (.ofNat 100)))) fun v4 =>
 @AM.bind AV AV (pickA v1 (.bool true) v4) fun v5 =>
 @AM.bind AV AV (guardA v5 false (.ret a2)) fun v6 =>
 @AM.bind AV AV (guardA v5 false (lenSl v6)) fun v7 =>
 @AM.bind AV AV (guardA v5 false (bn Tryz.prog .gtr 3 true v7 (.int .i64 (.ofNat 100)))) fun v8 =>
 @AM.bind AV AV (pickA v5 (.bool true) v8) fun v9 =>
 @bcond AV v9 (
 @AM.bind AV AV (C 12 []) fun v10 =>
 @AM.ret AV v10) (
 @AM.bind AV AV (C 14 []) fun v11 =>
 @AM.bind AV AV (C 13 [v11, (.int .i64 (.ofNat 256))]) fun v12 =>
 @AM.bind AV AV (extA v12 0) fun v13 =>
 @AM.bind AV AV (extA v12 1) fun v14 =>
 @AM.bind AV AV (un .not v14) fun v15 =>
 @AM.bind AV AV (guardA v15 false (.ret v13)) fun v16 =>
 @AM.bind AV AV (guardA v15 false (nilC v16)) fun v17 =>
 @AM.bind AV AV (guardA v15 false (faddr 0 v17)) fun v18 =>
 @AM.bind AV AV (guardA v15 false (ld v18)) fun v19 =>
 @AM.bind AV AV (guardA v15 false (bn Tryz.prog .eql 32 true v19 (.ptr none))) fun v20 =>
 @AM.bind AV AV (pickA v15 (.bool true) v20) fun v21 =>
 @bcond AV v21 (
 @AM.ret AV (.bool false)) (
 @AM.bind Ans AV (Lp (fun l22 =>
 (fun (v23 v24 v25 v26 : AV) =>
 @AM.bind AV Ans (lenSl a1) fun v27 =>
 @AM.bind AV Ans (bn Tryz.prog .lss 3 false v26 v27) fun v28 =>
 @AM.bind AV Ans (guardA v28 true (.ret v24)) fun v29 =>
 @AM.bind AV Ans (guardA v28 true (.ret a0)) fun v30 =>
 @AM.bind AV Ans (guardA v28 true (lenSl v30)) fun v31 =>
 @AM.bind AV Ans (guardA v28 true (bn Tryz.prog .lss 3 false v29 v31)) fun v32 =>
 @AM.bind AV Ans (pickA v28 v32 (.bool false)) fun v33 =>
 @bcond Ans v33 (
 fun h35 => @bindP AV Ans false (lenSl a0) (fun v34 =>
 @bindP AV Ans false (bn Tryz.prog .sub 3 false v34 v24) fun v37 =>
 @bindP AV Ans false (nilC v13) fun v38 =>
 @bindP AV Ans false (faddr 0 v38) fun v39 =>
 @bindP AV Ans false (ld v39) fun v40 =>
 fun h42 => @bindP AV Ans false (C 28 [v40]) (fun v41 h43 => cond (Nat.ble h42.next h43.next && (AV.under h35.next v34 && (sameS (lenSl a0) v34 h43 && true))) ((
 @bindP AV Ans false (iaddrS 1 a1 v26) fun v44 =>
 fun h46 => @bindP AV Ans false (ld v44) (fun v45 h47 => cond ((AV.under h42.next v44 && true) && (sameS (ld v44) v45 h42 && true)) ((
 @bindP AV Ans false (bn Tryz.prog .and 3 true v45 (.int .i64 (.ofNat 127))) fun v48 =>
 @bindP AV Ans false (ofOpt (minA v41 [v48])) fun v49 =>
 @bindP AV Ans false (ofOpt (minA v37 [v49])) fun v50 =>
 @AM.bind AV Ans (bn Tryz.prog .gtr 3 true v50 (.int .i64 (.ofNat 0))) fun v51 =>
 @AM.bind Ans Ans (@bcond Ans v51 (
 @bindP AV Ans false (nilC v13) fun v52 =>
 @bindP AV Ans false (faddr 0 v52) fun v53 =>
 @bindP AV Ans false (ld v53) fun v54 =>
 @bindP AV Ans false (bn Tryz.prog .add 3 false v24 v50) fun v55 =>
 @bindP AV Ans false (sliceA Tryz.prog 22 a0 (some v24) (some v55) none) fun v56 =>
 @heavyA true (C 15 [v54, v56, v26]) Ans fun v57 =>
 @AM.bind AV Ans (bn Tryz.prog .neq 3 false v57 v50) fun v58 =>
 @bcond Ans v58 (
 @AM.ret Ans (1, [(.bool false), v24])) (
 @AM.bind AV Ans (bn Tryz.prog .add 3 false v24 v57) fun v59 =>
 @AM.ret Ans (0, [v23, v59]))) (
 @AM.ret Ans (0, [v23, v24]))) fun r60 =>
 cond (Nat.beq r60.1 1) (
 (fun (v61 v62 : AV) =>
 @AM.ret Ans (1, [v61, v62, v25, v26])) (g0 r60.2 0) (g0 r60.2 1)) (cond (Nat.beq r60.1 0) (
 (fun (v63 v64 : AV) =>
 @AM.bind AV Ans (lenSl a2) fun v65 =>
 @AM.bind AV Ans (bn Tryz.prog .lss 3 false v26 v65) fun v66 =>
 @AM.bind Ans Ans (@bcond Ans v66 (
 @bindP AV Ans false (nilC v13) fun v67 =>
 @bindP AV Ans false (faddr 0 v67) fun v68 =>
 @bindP AV Ans false (ld v68) fun v69 =>
 @bindP AV Ans false (nilC v69) fun v70 =>
 @bindP AV Ans false (faddr 0 v70) fun v71 =>
 @bindP AV Ans false (ld v71) fun v72 =>
 @bindP AV Ans false (iaddrS 1 a2 v26) fun v73 =>
 @bindP AV Ans false (ld v73) fun v74 =>
 @bindP AV Ans false (bn Tryz.prog .and 3 true v74 (.int .i64 (.ofNat 255))) fun v75 =>
 @heavyA true (C 17 [v72, v75]) Ans fun v76 =>
 @AM.bind AV Ans (nilC v13) fun v77 =>
 @AM.bind AV Ans (faddr 0 v77) fun v78 =>
 @AM.bind AV Ans (ld v78) fun v79 =>
 @AM.bind AV Ans (lenSl v76) fun v80 =>
 @AM.bind AV Ans (C 18 [v79, v80, v26]) fun v81 =>
 @AM.bind AV Ans (apnd 1 v25 v76) fun v82 =>
 @AM.ret Ans (0, [v82])) (
 @AM.ret Ans (0, [v25]))) fun r83 =>
 cond (Nat.beq r83.1 0) (
 (fun (v84 : AV) =>
 @AM.bind AV Ans (bn Tryz.prog .add 3 true v26 (.int .i64 (.ofNat 1))) fun v85 =>
 @AM.ret Ans (0, [v63, v64, v84, v85])) (g0 r83.2 0)) (.bad)) (g0 r60.2 0) (g0 r60.2 1)) (.bad))) h47) .bad) h46) h43) .bad) h42) h35) (
 @AM.ret Ans (2, [v23, v24, v25, v26]))) (g0 l22 0) (g0 l22 1) (g0 l22 2) (g0 l22 3)) [(.bool false), (.int .i64 (.ofNat 0)), .snil, (.int .i64 (.ofNat 0))]) fun r86 =>
 cond (Nat.beq r86.1 2) (
 (fun (v87 v88 v89 v90 : AV) =>
 @AM.bind AV AV (C 14 []) fun v91 =>
 @AM.bind AV AV (nw [(.int .i64 (.ofNat 0)), (.int .i64 (.ofNat 0)), (.int .i64 (.ofNat 0)), (.int .i64 (.ofNat 0)), (.int .i64 (.ofNat 0)), (.int .i64 (.ofNat 0)), (.int .i64 (.ofNat 0)), (.int .i64 (.ofNat 0)), (.int .i64 (.ofNat 0)), (.int .i64 (.ofNat 0)), (.int .i64 (.ofNat 0)), (.int .i64 (.ofNat 0)), (.int .i64 (.ofNat 0)), (.bool false), (.bool false), .snil]) fun v92 =>
 @AM.bind AV AV (unit2 (stN 16 v92 v91)) fun _ =>
 @AM.bind AV AV (C 19 []) fun v93 =>
 @AM.bind AV AV (faddr 15 v92) fun v94 =>
 @AM.bind AV AV (unit2 (st v94 v93)) fun _ =>
 fun h96 => @bindP AV AV false (ldN 16 v92) (fun v95 =>
 fun h99 => @bindP AV AV false (sliceA Tryz.prog 22 a0 none (some v88) none) (fun v98 =>
 @bindP AV AV false (nilC v13) fun v101 =>
 @bindP AV AV false (faddr 0 v101) fun v102 =>
 fun h104 => @bindP AV AV false (ld v102) (fun v103 =>
 @bindP AV AV false (nilC v103) fun v106 =>
 @bindP AV AV false (faddr 0 v106) fun v107 =>
 fun h109 => @bindP AV AV false (ld v107) (fun v108 =>
 @bindP AV AV false (nilC v13) fun v111 =>
 @bindP AV AV false (faddr 0 v111) fun v112 =>
 @bindP AV AV false (ld v112) fun v113 =>
 @bindP AV AV false (nilC v113) fun v114 =>
 @bindP AV AV false (faddr 0 v114) fun v115 =>
 @bindP AV AV false (ld v115) fun v116 =>
 fun h118 => @bindP AV AV true (C 16 [v116]) (fun v117 h119 => cond (Nat.ble h118.next h119.next && (AV.under h96.next v95 && (sameS (ldN 16 v92) v95 h119 && (AV.under h99.next v98 && (sameS (sliceA Tryz.prog 22 a0 none (some v88) none) v98 h119 && (AV.under h104.next v103 && (sameS (ld v102) v103 h119 && (AV.under h109.next v108 && (sameS (ld v107) v108 h119 && true))))))))) ((
 fun h121 => @bindP AV AV true (C 17 [v108, v117]) (fun v120 h122 => cond (Nat.ble h121.next h122.next && (AV.under h96.next v95 && (sameS (ldN 16 v92) v95 h122 && (AV.under h99.next v98 && (sameS (sliceA Tryz.prog 22 a0 none (some v88) none) v98 h122 && true))))) ((
 fun h124 => @bindP AV AV true (apnd 1 v89 v120) (fun v123 h125 => cond (Nat.ble h124.next h125.next && (AV.under h96.next v95 && (sameS (ldN 16 v92) v95 h125 && (AV.under h99.next v98 && (sameS (sliceA Tryz.prog 22 a0 none (some v88) none) v98 h125 && true))))) ((
 @heavyA true (C 29 [v95, v98, v123, (.bool false)]) AV fun v126 =>
 @heavyA true (guardA v126 true (C 12 [])) AV fun v127 =>
 @bindP AV AV false (pickA v126 v127 (.bool false)) fun v128 =>
 @AM.ret AV v128) h125) .bad) h124) h122) .bad) h121) h119) .bad) h118) h109) h104) h99) h96) (g0 r86.2 0) (g0 r86.2 1) (g0 r86.2 2) (g0 r86.2 3)) (cond (Nat.beq r86.1 1) (
 (fun (v129 v130 v131 v132 : AV) =>
 @AM.ret AV v129) (g0 r86.2 0) (g0 r86.2 1) (g0 r86.2 2) (g0 r86.2 3)) (.bad))))
/- usher/usherlaw21.ConnPipeline -/
noncomputable def F7 (C : CallOp) (Lp : LoopOp) (a0 a1 : AV) : AM AV :=
 @AM.bind AV AV (bn Tryz.prog .lss 3 true a0 (.int .i64 (.ofNat 1))) fun v0 =>
 @AM.bind AV AV (guardA v0 false (.ret a0)) fun v1 =>
 @AM.bind AV AV (guardA v0 false (bn Tryz.prog .gtr 3 true v1 (.int .i64 (.ofNat 20)))) fun v2 =>
 @AM.bind AV AV (pickA v0 (.bool true) v2) fun v3 =>
 @AM.bind AV AV (guardA v3 false (.ret a1)) fun v4 =>
 @AM.bind AV AV (guardA v3 false (bn Tryz.prog .lss 3 true v4 (.int .i64 (.ofNat 1)))) fun v5 =>
 @AM.bind AV AV (pickA v3 (.bool true) v5) fun v6 =>
 @AM.bind AV AV (guardA v6 false (.ret a1)) fun v7 =>
 @AM.bind AV AV (guardA v6 false (bn Tryz.prog .gtr 3 true v7 (.int .i64 (.ofNat 30)))) fun v8 =>
 @AM.bind AV AV (pickA v6 (.bool true) v8) fun v9 =>
 @bcond AV v9 (
 @AM.bind AV AV (C 12 []) fun v10 =>
 @AM.ret AV v10) (
 @AM.bind AV AV (C 14 []) fun v11 =>
 @AM.bind AV AV (nw [(.int .i64 (.ofNat 0)), (.int .i64 (.ofNat 0)), (.int .i64 (.ofNat 0)), (.int .i64 (.ofNat 0)), (.int .i64 (.ofNat 0)), (.int .i64 (.ofNat 0)), (.int .i64 (.ofNat 0)), (.int .i64 (.ofNat 0)), (.int .i64 (.ofNat 0)), (.int .i64 (.ofNat 0)), (.int .i64 (.ofNat 0)), (.int .i64 (.ofNat 0)), (.int .i64 (.ofNat 0)), (.bool false), (.bool false), .snil]) fun v12 =>
 @AM.bind AV AV (unit2 (stN 16 v12 v11)) fun _ =>
 @AM.bind AV AV (faddr 2 v12) fun v13 =>
 @AM.bind AV AV (unit2 (st v13 a0)) fun _ =>
 @AM.bind AV AV (ldN 16 v12) fun v14 =>
 @AM.bind AV AV (C 13 [v14, (.int .i64 (.ofNat 4096))]) fun v15 =>
 @AM.bind AV AV (extA v15 0) fun v16 =>
 @AM.bind AV AV (extA v15 1) fun v17 =>
 @AM.bind AV AV (un .not v17) fun v18 =>
 @AM.bind AV AV (guardA v18 false (.ret v16)) fun v19 =>
 @AM.bind AV AV (guardA v18 false (nilC v19)) fun v20 =>
 @AM.bind AV AV (guardA v18 false (faddr 0 v20)) fun v21 =>
 @AM.bind AV AV (guardA v18 false (ld v21)) fun v22 =>
 @AM.bind AV AV (guardA v18 false (bn Tryz.prog .eql 32 true v22 (.ptr none))) fun v23 =>
 @AM.bind AV AV (pickA v18 (.bool true) v23) fun v24 =>
 @bcond AV v24 (
 @AM.ret AV (.bool false)) (
 @AM.bind Ans AV (Lp (fun l25 =>
 (fun (v26 v27 : AV) =>
 @AM.bind AV Ans (bn Tryz.prog .lss 3 false v27 a1) fun v28 =>
 @bcond Ans v28 (
 @AM.bind AV Ans (apnd 1 v26 (.str [71,69,84,32,47,97,32,72,84,84,80,47,49,46,49,13,10,72,111,115,116,58,32,97,13,10,13,10])) fun v29 =>
 @AM.bind AV Ans (bn Tryz.prog .add 3 true v27 (.int .i64 (.ofNat 1))) fun v30 =>
 @AM.ret Ans (0, [v29, v30])) (
 @AM.ret Ans (2, [v26, v27]))) (g0 l25 0) (g0 l25 1)) [.snil, (.int .i64 (.ofNat 0))]) fun r31 =>
 cond (Nat.beq r31.1 2) (
 (fun (v32 v33 : AV) =>
 @AM.bind AV AV (nilC v16) fun v34 =>
 @AM.bind AV AV (faddr 0 v34) fun v35 =>
 @AM.bind AV AV (ld v35) fun v36 =>
 @AM.bind AV AV (C 15 [v36, v32, (.int .i64 (.ofNat 0))]) fun v37 =>
 @AM.bind AV AV (lenSl v32) fun v38 =>
 @AM.bind AV AV (bn Tryz.prog .neq 3 false v37 v38) fun v39 =>
 @bcond AV v39 (
 @AM.ret AV (.bool false)) (
 @AM.bind Ans AV (Lp (fun l40 =>
 (fun (v41 v42 : AV) =>
 @AM.bind AV Ans (bn Tryz.prog .lss 3 false v42 a1) fun v43 =>
 @bcond Ans v43 (
 @AM.bind AV Ans (nilC v16) fun v44 =>
 @AM.bind AV Ans (faddr 0 v44) fun v45 =>
 @AM.bind AV Ans (ld v45) fun v46 =>
 @AM.bind AV Ans (C 27 [v46]) fun v47 =>
 @AM.bind AV Ans (extA v47 0) fun v48 =>
 @AM.bind AV Ans (extA v47 1) fun v49 =>
 @AM.bind AV Ans (extA v47 2) fun v50 =>
 @AM.bind AV Ans (bn Tryz.prog .add 3 false v42 a0) fun v51 =>
 @AM.bind AV Ans (ofOpt (minA a1 [v51])) fun v52 =>
 @AM.bind AV Ans (nilC v16) fun v53 =>
 @AM.bind AV Ans (faddr 0 v53) fun v54 =>
 @AM.bind AV Ans (ld v54) fun v55 =>
 @AM.bind AV Ans (C 30 [v55]) fun v56 =>
 @AM.bind AV Ans (extA v56 0) fun v57 =>
 @AM.bind AV Ans (extA v56 1) fun v58 =>
 @AM.bind AV Ans (bn Tryz.prog .neq 3 false v48 v52) fun v59 =>
 @AM.bind AV Ans (guardA v59 false (.ret v49)) fun v60 =>
 @AM.bind AV Ans (guardA v59 false (.ret v52)) fun v61 =>
 @AM.bind AV Ans (guardA v59 false (bn Tryz.prog .neq 3 false v60 v61)) fun v62 =>
 @AM.bind AV Ans (pickA v59 (.bool true) v62) fun v63 =>
 @AM.bind AV Ans (guardA v63 false (.ret v50)) fun v64 =>
 @AM.bind AV Ans (guardA v63 false (.ret v42)) fun v65 =>
 @AM.bind AV Ans (guardA v63 false (bn Tryz.prog .neq 3 false v64 v65)) fun v66 =>
 @AM.bind AV Ans (pickA v63 (.bool true) v66) fun v67 =>
 @AM.bind AV Ans (guardA v67 false (.ret v16)) fun v68 =>
 @AM.bind AV Ans (guardA v67 false (nilC v68)) fun v69 =>
 @AM.bind AV Ans (guardA v67 false (faddr 0 v69)) fun v70 =>
 @AM.bind AV Ans (guardA v67 false (ld v70)) fun v71 =>
 @AM.bind AV Ans (guardA v67 false (nilC v71)) fun v72 =>
 @AM.bind AV Ans (guardA v67 false (faddr 0 v72)) fun v73 =>
 @AM.bind AV Ans (guardA v67 false (ld v73)) fun v74 =>
 @AM.bind AV Ans (guardA v67 false (C 31 [v74])) fun v75 =>
 @AM.bind AV Ans (guardA v67 false (lenSl v75)) fun v76 =>
 @AM.bind AV Ans (guardA v67 false (.ret v52)) fun v77 =>
 @AM.bind AV Ans (guardA v67 false (.ret v42)) fun v78 =>
 @AM.bind AV Ans (guardA v67 false (bn Tryz.prog .sub 3 false v77 v78)) fun v79 =>
 @AM.bind AV Ans (guardA v67 false (bn Tryz.prog .neq 3 false v76 v79)) fun v80 =>
 @AM.bind AV Ans (pickA v67 (.bool true) v80) fun v81 =>
 @AM.bind AV Ans (guardA v81 false (.ret v57)) fun v82 =>
 @AM.bind AV Ans (guardA v81 false (.ret v52)) fun v83 =>
 @AM.bind AV Ans (guardA v81 false (.ret v42)) fun v84 =>
 @AM.bind AV Ans (guardA v81 false (bn Tryz.prog .sub 3 false v83 v84)) fun v85 =>
 @AM.bind AV Ans (guardA v81 false (.ret a0)) fun v86 =>
 @AM.bind AV Ans (guardA v81 false (bn Tryz.prog .lss 3 false v85 v86)) fun v87 =>
 @AM.bind AV Ans (guardA v81 false (bn Tryz.prog .neq 4 false v82 v87)) fun v88 =>
 @AM.bind AV Ans (pickA v81 (.bool true) v88) fun v89 =>
 @bcond Ans v89 (
 @AM.ret Ans (1, [(.bool false), v42])) (
 @bindP AV Ans false (nilC v16) fun v90 =>
 @bindP AV Ans false (faddr 0 v90) fun v91 =>
 fun h93 => @bindP AV Ans false (ld v91) (fun v92 =>
 @bindP AV Ans false (nilC v16) fun v95 =>
 @bindP AV Ans false (faddr 0 v95) fun v96 =>
 @bindP AV Ans false (ld v96) fun v97 =>
 @bindP AV Ans false (nilC v97) fun v98 =>
 @bindP AV Ans false (faddr 0 v98) fun v99 =>
 @bindP AV Ans false (ld v99) fun v100 =>
 fun h102 => @bindP AV Ans false (C 16 [v100]) (fun v101 h103 => cond (Nat.ble h102.next h103.next && (AV.under h93.next v92 && (sameS (ld v91) v92 h103 && true))) ((
 @bindP AV Ans false (bn Tryz.prog .sub 3 false v52 v42) fun v104 =>
 @bindP AV Ans false (bn Tryz.prog .quo 3 false v101 v104) fun v105 =>
 @heavyA true (C 18 [v92, v105, v42]) Ans fun v106 =>
 @AM.bind AV Ans (bn Tryz.prog .add 3 true v42 (.int .i64 (.ofNat 1))) fun v107 =>
 @AM.ret Ans (0, [v41, v107])) h103) .bad) h102) h93)) (
 @AM.ret Ans (4, [v41, v42]))) (g0 l40 0) (g0 l40 1)) [(.bool false), (.int .i64 (.ofNat 0))]) fun r108 =>
 cond (Nat.beq r108.1 4) (
 (fun (v109 v110 : AV) =>
 @AM.bind AV AV (nilC v16) fun v111 =>
 @AM.bind AV AV (faddr 0 v111) fun v112 =>
 @AM.bind AV AV (ld v112) fun v113 =>
 @AM.bind AV AV (C 25 [v113]) fun v114 =>
 @AM.bind AV AV (extA v114 0) fun v115 =>
 @AM.bind AV AV (extA v114 1) fun v116 =>
 @AM.bind AV AV (bn Tryz.prog .eql 3 true v115 (.int .i64 (.ofNat 0))) fun v117 =>
 @AM.bind AV AV (guardA v117 true (.ret v16)) fun v118 =>
 @AM.bind AV AV (guardA v117 true (nilC v118)) fun v119 =>
 @AM.bind AV AV (guardA v117 true (faddr 0 v119)) fun v120 =>
 @AM.bind AV AV (guardA v117 true (ld v120)) fun v121 =>
 @AM.bind AV AV (guardA v117 true (nilC v121)) fun v122 =>
 @AM.bind AV AV (guardA v117 true (faddr 0 v122)) fun v123 =>
 @AM.bind AV AV (guardA v117 true (ld v123)) fun v124 =>
 @AM.bind AV AV (guardA v117 true (C 16 [v124])) fun v125 =>
 @AM.bind AV AV (guardA v117 true (bn Tryz.prog .eql 3 true v125 (.int .i64 (.ofNat 0)))) fun v126 =>
 @AM.bind AV AV (pickA v117 v126 (.bool false)) fun v127 =>
 @AM.bind AV AV (guardA v127 true (C 12 [])) fun v128 =>
 @AM.bind AV AV (pickA v127 v128 (.bool false)) fun v129 =>
 @AM.ret AV v129) (g0 r108.2 0) (g0 r108.2 1)) (cond (Nat.beq r108.1 1) (
 (fun (v130 v131 : AV) =>
 @AM.ret AV v130) (g0 r108.2 0) (g0 r108.2 1)) (.bad)))) (g0 r31.2 0) (g0 r31.2 1)) (.bad)))
/- usher/usherlaw21.ConnQuits -/
noncomputable def F8 (C : CallOp) (Lp : LoopOp) (a0 a1 : AV) : AM AV :=
 @AM.bind AV AV (bsl [(.int .u8 (.ofNat 0)), (.int .u8 (.ofNat 0)), (.int .u8 (.ofNat 0)), (.int .u8 (.ofNat 0)), (.int .u8 (.ofNat 0)), (.int .u8 (.ofNat 0)), (.int .u8 (.ofNat 0)), (.int .u8 (.ofNat 0)), (.int .u8 (.ofNat 0)), (.int .u8 (.ofNat 0)), (.int .u8 (.ofNat 0)), (.int .u8 (.ofNat 0)), (.int .u8 (.ofNat 0)), (.int .u8 (.ofNat 0)), (.int .u8 (.ofNat 0)), (.int .u8 (.ofNat 0)), (.int .u8 (.ofNat 0)), (.int .u8 (.ofNat 0)), (.int .u8 (.ofNat 0)), (.int .u8 (.ofNat 0)), (.int .u8 (.ofNat 0)), (.int .u8 (.ofNat 0)), (.int .u8 (.ofNat 0)), (.int .u8 (.ofNat 0)), (.int .u8 (.ofNat 0)), (.int .u8 (.ofNat 0)), (.int .u8 (.ofNat 0)), (.int .u8 (.ofNat 0))] [(0, 1, (.int .u8 (.ofNat 71))), (1, 1, (.int .u8 (.ofNat 69))), (2, 1, (.int .u8 (.ofNat 84))), (3, 1, (.int .u8 (.ofNat 32))), (4, 1, (.int .u8 (.ofNat 47))), (5, 1, (.int .u8 (.ofNat 97))), (6, 1, (.int .u8 (.ofNat 32))), (7, 1, (.int .u8 (.ofNat 72))), (8, 1, (.int .u8 (.ofNat 84))), (9, 1, (.int .u8 (.ofNat 84))), (10, 1, (.int .u8 (.ofNat 80))), (11, 1, (.int .u8 (.ofNat 47))), (12, 1, (.int .u8 (.ofNat 49))), (13, 1, (.int .u8 (.ofNat 46))), (14, 1, (.int .u8 (.ofNat 49))), (15, 1, (.int .u8 (.ofNat 13))), (16, 1, (.int .u8 (.ofNat 10))), (17, 1, (.int .u8 (.ofNat 72))), (18, 1, (.int .u8 (.ofNat 111))), (19, 1, (.int .u8 (.ofNat 115))), (20, 1, (.int .u8 (.ofNat 116))), (21, 1, (.int .u8 (.ofNat 58))), (22, 1, (.int .u8 (.ofNat 32))), (23, 1, (.int .u8 (.ofNat 97))), (24, 1, (.int .u8 (.ofNat 13))), (25, 1, (.int .u8 (.ofNat 10))), (26, 1, (.int .u8 (.ofNat 13))), (27, 1, (.int .u8 (.ofNat 10)))] 28 1) fun v0 =>
 @AM.bind AV AV (convA Tryz.prog 22 22 v0) fun v1 =>
 @AM.bind AV AV (bn Tryz.prog .lss 3 true a0 (.int .i64 (.ofNat 0))) fun v2 =>
 @AM.bind AV AV (guardA v2 false (.ret a0)) fun v3 =>
 @AM.bind AV AV (guardA v2 false (.ret v1)) fun v4 =>
 @AM.bind AV AV (guardA v2 false (lenSl v4)) fun v5 =>
 @AM.bind AV AV (guardA v2 false (bn Tryz.prog .gtr 3 false v3 v5)) fun v6 =>
 @AM.bind AV AV (pickA v2 (.bool true) v6) fun v7 =>
 @AM.bind AV AV (guardA v7 false (.ret a1)) fun v8 =>
 @AM.bind AV AV (guardA v7 false (lenSl v8)) fun v9 =>
 @AM.bind AV AV (guardA v7 false (bn Tryz.prog .gtr 3 true v9 (.int .i64 (.ofNat 1000)))) fun v10 =>
 @AM.bind AV AV (pickA v7 (.bool true) v10) fun v11 =>
 @bcond AV v11 (
 @AM.bind AV AV (C 12 []) fun v12 =>
 @AM.ret AV v12) (
 @AM.bind AV AV (C 14 []) fun v13 =>
 @AM.bind AV AV (C 13 [v13, (.int .i64 (.ofNat 4096))]) fun v14 =>
 @AM.bind AV AV (extA v14 0) fun v15 =>
 @AM.bind AV AV (extA v14 1) fun v16 =>
 @AM.bind AV AV (un .not v16) fun v17 =>
 @AM.bind AV AV (guardA v17 false (.ret v15)) fun v18 =>
 @AM.bind AV AV (guardA v17 false (nilC v18)) fun v19 =>
 @AM.bind AV AV (guardA v17 false (faddr 0 v19)) fun v20 =>
 @AM.bind AV AV (guardA v17 false (ld v20)) fun v21 =>
 @AM.bind AV AV (guardA v17 false (bn Tryz.prog .eql 32 true v21 (.ptr none))) fun v22 =>
 @AM.bind AV AV (pickA v17 (.bool true) v22) fun v23 =>
 @bcond AV v23 (
 @AM.ret AV (.bool false)) (
 @bindP AV AV false (nilC v15) fun v24 =>
 @bindP AV AV false (faddr 0 v24) fun v25 =>
 @bindP AV AV false (ld v25) fun v26 =>
 @bindP AV AV false (sliceA Tryz.prog 22 v1 none (some a0) none) fun v27 =>
 @heavyA true (C 15 [v26, v27, (.int .i64 (.ofNat 0))]) AV fun v28 =>
 @AM.bind AV AV (nilC v15) fun v29 =>
 @AM.bind AV AV (faddr 0 v29) fun v30 =>
 @AM.bind AV AV (ld v30) fun v31 =>
 @AM.bind AV AV (C 32 [v31, (.int .i64 (.ofNat 1))]) fun v32 =>
 @AM.bind AV AV (nilC v15) fun v33 =>
 @AM.bind AV AV (faddr 0 v33) fun v34 =>
 @AM.bind AV AV (ld v34) fun v35 =>
 @AM.bind AV AV (C 25 [v35]) fun v36 =>
 @AM.bind AV AV (extA v36 0) fun v37 =>
 @AM.bind AV AV (extA v36 1) fun v38 =>
 @AM.bind AV AV (bn Tryz.prog .eql 3 true a0 (.int .i64 (.ofNat 0))) fun v39 =>
 @bcond AV v39 (
 @AM.bind AV AV (bn Tryz.prog .eql 3 true v37 (.int .i64 (.ofNat 5))) fun v40 =>
 @AM.bind AV AV (guardA v40 true (.ret v38)) fun v41 =>
 @AM.bind AV AV (guardA v40 true (bn Tryz.prog .eql 3 true v41 (.int .i64 (.ofNat 1)))) fun v42 =>
 @AM.bind AV AV (pickA v40 v42 (.bool false)) fun v43 =>
 @AM.bind AV AV (guardA v43 true (.ret v15)) fun v44 =>
 @AM.bind AV AV (guardA v43 true (nilC v44)) fun v45 =>
 @AM.bind AV AV (guardA v43 true (faddr 0 v45)) fun v46 =>
 @AM.bind AV AV (guardA v43 true (ld v46)) fun v47 =>
 @AM.bind AV AV (guardA v43 true (.ret v1)) fun v48 =>
 @AM.bind AV AV (guardA v43 true (C 15 [v47, v48, (.int .i64 (.ofNat 2))])) fun v49 =>
 @AM.bind AV AV (guardA v43 true (.ret v1)) fun v50 =>
 @AM.bind AV AV (guardA v43 true (lenSl v50)) fun v51 =>
 @AM.bind AV AV (guardA v43 true (bn Tryz.prog .eql 3 false v49 v51)) fun v52 =>
 @AM.bind AV AV (pickA v43 v52 (.bool false)) fun v53 =>
 @AM.bind AV AV (guardA v53 true (.ret v15)) fun v54 =>
 @AM.bind AV AV (guardA v53 true (nilC v54)) fun v55 =>
 @AM.bind AV AV (guardA v53 true (faddr 0 v55)) fun v56 =>
 @AM.bind AV AV (guardA v53 true (ld v56)) fun v57 =>
 @AM.bind AV AV (guardA v53 true (nilC v57)) fun v58 =>
 @AM.bind AV AV (guardA v53 true (faddr 0 v58)) fun v59 =>
 @AM.bind AV AV (guardA v53 true (ld v59)) fun v60 =>
 @AM.bind AV AV (guardA v53 true (C 16 [v60])) fun v61 =>
 @AM.bind AV AV (guardA v53 true (bn Tryz.prog .eql 3 true v61 (.int .i64 (.ofNat 0)))) fun v62 =>
 @AM.bind AV AV (pickA v53 v62 (.bool false)) fun v63 =>
 @AM.bind AV AV (guardA v63 true (C 12 [])) fun v64 =>
 @AM.bind AV AV (pickA v63 v64 (.bool false)) fun v65 =>
 @AM.ret AV v65) (
 @bindP AV AV false (nilC v15) fun v66 =>
 @bindP AV AV false (faddr 0 v66) fun v67 =>
 @bindP AV AV false (ld v67) fun v68 =>
 @bindP AV AV false (sliceA Tryz.prog 22 v1 (some a0) none none) fun v69 =>
 @heavyA true (C 15 [v68, v69, (.int .i64 (.ofNat 2))]) AV fun v70 =>
 @AM.bind AV AV (lenSl v1) fun v71 =>
 @AM.bind AV AV (bn Tryz.prog .lss 3 false a0 v71) fun v72 =>
 @AM.bind Ans AV (@bcond Ans v72 (
 @AM.bind AV Ans (nilC v15) fun v73 =>
 @AM.bind AV Ans (faddr 0 v73) fun v74 =>
 @AM.bind AV Ans (ld v74) fun v75 =>
 @AM.bind AV Ans (C 15 [v75, a1, (.int .i64 (.ofNat 3))]) fun v76 =>
 @AM.ret Ans (0, [])) (
 @AM.ret Ans (0, []))) fun r77 =>
 cond (Nat.beq r77.1 0) (
 @bindP AV AV false (nilC v15) fun v78 =>
 @bindP AV AV false (faddr 0 v78) fun v79 =>
 fun h81 => @bindP AV AV false (ld v79) (fun v80 =>
 @bindP AV AV false (nilC v80) fun v83 =>
 @bindP AV AV false (faddr 0 v83) fun v84 =>
 fun h86 => @bindP AV AV false (ld v84) (fun v85 =>
 @bindP AV AV false (nilC v15) fun v88 =>
 @bindP AV AV false (faddr 0 v88) fun v89 =>
 @bindP AV AV false (ld v89) fun v90 =>
 @bindP AV AV false (nilC v90) fun v91 =>
 @bindP AV AV false (faddr 0 v91) fun v92 =>
 @bindP AV AV false (ld v92) fun v93 =>
 fun h95 => @bindP AV AV true (C 16 [v93]) (fun v94 h96 => cond (Nat.ble h95.next h96.next && (AV.under h81.next v80 && (sameS (ld v79) v80 h96 && (AV.under h86.next v85 && (sameS (ld v84) v85 h96 && true))))) ((
 @heavyA true (C 17 [v85, v94]) AV fun v97 =>
 @bindP AV AV false (convA Tryz.prog 22 9 v97) fun v98 =>
 @AM.bind Ans AV (Lp (fun l99 =>
 (fun (v100 v101 : AV) =>
 @AM.bind AV Ans (bn Tryz.prog .add 3 true v101 (.int .i64 (.ofNat 17))) fun v102 =>
 @AM.bind AV Ans (lenStr v98) fun v103 =>
 @AM.bind AV Ans (bn Tryz.prog .leq 3 false v102 v103) fun v104 =>
 @bcond Ans v104 (
 @AM.bind AV Ans (guardA v100 false (.ret v98)) fun v105 =>
 @AM.bind AV Ans (guardA v100 false (.ret v101)) fun v106 =>
 @AM.bind AV Ans (guardA v100 false (.ret v101)) fun v107 =>
 @AM.bind AV Ans (guardA v100 false (bn Tryz.prog .add 3 true v107 (.int .i64 (.ofNat 17)))) fun v108 =>
 @AM.bind AV Ans (guardA v100 false (sliceA Tryz.prog 9 v105 (some v106) (some v108) none)) fun v109 =>
 @AM.bind AV Ans (guardA v100 false (bn Tryz.prog .eql 9 true v109 (.str [67,111,110,110,101,99,116,105,111,110,58,32,99,108,111,115,101]))) fun v110 =>
 @AM.bind AV Ans (pickA v100 (.bool true) v110) fun v111 =>
 @AM.bind AV Ans (bn Tryz.prog .add 3 true v101 (.int .i64 (.ofNat 1))) fun v112 =>
 @AM.ret Ans (0, [v111, v112])) (
 @AM.ret Ans (2, [v100, v101]))) (g0 l99 0) (g0 l99 1)) [(.bool false), (.int .i64 (.ofNat 0))]) fun r113 =>
 cond (Nat.beq r113.1 2) (
 (fun (v114 v115 : AV) =>
 @AM.bind AV AV (lenSl v1) fun v116 =>
 @AM.bind AV AV (bn Tryz.prog .lss 3 false a0 v116) fun v117 =>
 @AM.bind AV AV (bn Tryz.prog .neq 4 false v114 v117) fun v118 =>
 @bcond AV v118 (
 @AM.ret AV (.bool false)) (
 @bindP AV AV false (nilC v15) fun v119 =>
 @bindP AV AV false (faddr 0 v119) fun v120 =>
 fun h122 => @bindP AV AV false (ld v120) (fun v121 =>
 @bindP AV AV false (nilC v15) fun v124 =>
 @bindP AV AV false (faddr 0 v124) fun v125 =>
 @bindP AV AV false (ld v125) fun v126 =>
 @bindP AV AV false (nilC v126) fun v127 =>
 @bindP AV AV false (faddr 0 v127) fun v128 =>
 @bindP AV AV false (ld v128) fun v129 =>
 fun h131 => @bindP AV AV true (C 16 [v129]) (fun v130 h132 => cond (Nat.ble h131.next h132.next && (AV.under h122.next v121 && (sameS (ld v120) v121 h132 && true))) ((
 @heavyA true (C 18 [v121, v130, (.int .i64 (.ofNat 4))]) AV fun v133 =>
 @AM.bind AV AV (lenSl v1) fun v134 =>
 @AM.bind AV AV (bn Tryz.prog .lss 3 false a0 v134) fun v135 =>
 @bcond AV v135 (
 @AM.bind AV AV (nilC v15) fun v136 =>
 @AM.bind AV AV (faddr 0 v136) fun v137 =>
 @AM.bind AV AV (ld v137) fun v138 =>
 @AM.bind AV AV (C 25 [v138]) fun v139 =>
 @AM.bind AV AV (extA v139 0) fun v140 =>
 @AM.bind AV AV (extA v139 1) fun v141 =>
 @AM.bind AV AV (nilC v15) fun v142 =>
 @AM.bind AV AV (faddr 0 v142) fun v143 =>
 @AM.bind AV AV (ld v143) fun v144 =>
 @AM.bind AV AV (C 27 [v144]) fun v145 =>
 @AM.bind AV AV (extA v145 0) fun v146 =>
 @AM.bind AV AV (extA v145 1) fun v147 =>
 @AM.bind AV AV (extA v145 2) fun v148 =>
 @AM.bind AV AV (bn Tryz.prog .eql 3 true v140 (.int .i64 (.ofNat 4))) fun v149 =>
 @AM.bind AV AV (guardA v149 true (.ret v141)) fun v150 =>
 @AM.bind AV AV (guardA v149 true (bn Tryz.prog .eql 3 true v150 (.int .i64 (.ofNat 4)))) fun v151 =>
 @AM.bind AV AV (pickA v149 v151 (.bool false)) fun v152 =>
 @AM.bind AV AV (guardA v152 true (.ret v146)) fun v153 =>
 @AM.bind AV AV (guardA v152 true (bn Tryz.prog .eql 3 true v153 (.int .i64 (.ofNat 1)))) fun v154 =>
 @AM.bind AV AV (pickA v152 v154 (.bool false)) fun v155 =>
 @AM.bind AV AV (guardA v155 true (.ret v15)) fun v156 =>
 @AM.bind AV AV (guardA v155 true (nilC v156)) fun v157 =>
 @AM.bind AV AV (guardA v155 true (faddr 0 v157)) fun v158 =>
 @AM.bind AV AV (guardA v155 true (ld v158)) fun v159 =>
 @AM.bind AV AV (guardA v155 true (C 33 [v159])) fun v160 =>
 @AM.bind AV AV (pickA v155 v160 (.bool false)) fun v161 =>
 @AM.bind AV AV (guardA v161 true (C 12 [])) fun v162 =>
 @AM.bind AV AV (pickA v161 v162 (.bool false)) fun v163 =>
 @AM.ret AV v163) (
 @AM.bind AV AV (C 12 []) fun v164 =>
 @AM.ret AV v164)) h132) .bad) h131) h122)) (g0 r113.2 0) (g0 r113.2 1)) (.bad)) h96) .bad) h95) h86) h81) (.bad))))
/- usher/usherlaw21.ConnEnds -/
noncomputable def F9 (C : CallOp) (Lp : LoopOp) (a0 a1 : AV) : AM AV :=
 @AM.bind AV AV (bn Tryz.prog .lss 3 true a0 (.int .i64 (.ofNat 0))) fun v0 =>
 @AM.bind AV AV (guardA v0 false (.ret a0)) fun v1 =>
 @AM.bind AV AV (guardA v0 false (bn Tryz.prog .gtr 3 true v1 (.int .i64 (.ofNat 10)))) fun v2 =>
 @AM.bind AV AV (pickA v0 (.bool true) v2) fun v3 =>
 @AM.bind AV AV (guardA v3 false (.ret a1)) fun v4 =>
 @AM.bind AV AV (guardA v3 false (bn Tryz.prog .lss 3 true v4 (.int .i64 (.ofNat 0)))) fun v5 =>
 @AM.bind AV AV (pickA v3 (.bool true) v5) fun v6 =>
 @AM.bind AV AV (guardA v6 false (.ret a1)) fun v7 =>
 @AM.bind AV AV (guardA v6 false (bn Tryz.prog .gtr 3 true v7 (.int .i64 (.ofNat 20)))) fun v8 =>
 @AM.bind AV AV (pickA v6 (.bool true) v8) fun v9 =>
 @bcond AV v9 (
 @AM.bind AV AV (C 12 []) fun v10 =>
 @AM.ret AV v10) (
 @AM.bind AV AV (C 14 []) fun v11 =>
 @AM.bind AV AV (C 13 [v11, (.int .i64 (.ofNat 4096))]) fun v12 =>
 @AM.bind AV AV (extA v12 0) fun v13 =>
 @AM.bind AV AV (extA v12 1) fun v14 =>
 @AM.bind AV AV (un .not v14) fun v15 =>
 @AM.bind AV AV (guardA v15 false (.ret v13)) fun v16 =>
 @AM.bind AV AV (guardA v15 false (nilC v16)) fun v17 =>
 @AM.bind AV AV (guardA v15 false (faddr 0 v17)) fun v18 =>
 @AM.bind AV AV (guardA v15 false (ld v18)) fun v19 =>
 @AM.bind AV AV (guardA v15 false (bn Tryz.prog .eql 32 true v19 (.ptr none))) fun v20 =>
 @AM.bind AV AV (pickA v15 (.bool true) v20) fun v21 =>
 @bcond AV v21 (
 @AM.ret AV (.bool false)) (
 @AM.bind Ans AV (Lp (fun l22 =>
 (fun (v23 v24 : AV) =>
 @AM.bind AV Ans (bn Tryz.prog .lss 3 false v24 a0) fun v25 =>
 @bcond Ans v25 (
 @AM.bind AV Ans (apnd 1 v23 (.str [71,69,84,32,47,107,101,121,63,97,32,72,84,84,80,47,49,46,49,13,10,72,111,115,116,58,32,97,13,10,13,10])) fun v26 =>
 @AM.bind AV Ans (bn Tryz.prog .add 3 true v24 (.int .i64 (.ofNat 1))) fun v27 =>
 @AM.ret Ans (0, [v26, v27])) (
 @AM.ret Ans (2, [v23, v24]))) (g0 l22 0) (g0 l22 1)) [.snil, (.int .i64 (.ofNat 0))]) fun r28 =>
 cond (Nat.beq r28.1 2) (
 (fun (v29 v30 : AV) =>
 @bindP AV AV false (nilC v13) fun v31 =>
 @bindP AV AV false (faddr 0 v31) fun v32 =>
 fun h34 => @bindP AV AV false (ld v32) (fun v33 =>
 @bindP AV AV false (sliceA Tryz.prog 9 (.str [71,69,84,32,47,107,101,121,63,97,32,72,84,84,80,47,49,46,49,13,10]) none (some a1) none) fun v36 =>
 fun h38 => @bindP AV AV true (apnd 1 v29 v36) (fun v37 h39 => cond (Nat.ble h38.next h39.next && (AV.under h34.next v33 && (sameS (ld v32) v33 h39 && true))) ((
 @heavyA true (C 15 [v33, v37, (.int .i64 (.ofNat 0))]) AV fun v40 =>
 @AM.bind AV AV (nilC v13) fun v41 =>
 @AM.bind AV AV (faddr 0 v41) fun v42 =>
 @AM.bind AV AV (ld v42) fun v43 =>
 @AM.bind AV AV (C 34 [v43, (.int .i64 (.ofNat 1))]) fun v44 =>
 @AM.bind Ans AV (Lp (fun l45 =>
 (fun (v46 v47 v48 : AV) =>
 @AM.bind AV Ans (bn Tryz.prog .lss 3 true v48 (.int .i64 (.ofNat 1000))) fun v49 =>
 @AM.bind AV Ans (guardA v49 true (.ret v13)) fun v50 =>
 @AM.bind AV Ans (guardA v49 true (nilC v50)) fun v51 =>
 @AM.bind AV Ans (guardA v49 true (faddr 0 v51)) fun v52 =>
 @AM.bind AV Ans (guardA v49 true (ld v52)) fun v53 =>
 @AM.bind AV Ans (guardA v49 true (nilC v53)) fun v54 =>
 @AM.bind AV Ans (guardA v49 true (faddr 0 v54)) fun v55 =>
 @AM.bind AV Ans (guardA v49 true (ld v55)) fun v56 =>
 @AM.bind AV Ans (guardA v49 true (C 16 [v56])) fun v57 =>
 @AM.bind AV Ans (guardA v49 true (bn Tryz.prog .gtr 3 true v57 (.int .i64 (.ofNat 0)))) fun v58 =>
 @AM.bind AV Ans (pickA v49 v58 (.bool false)) fun v59 =>
 @bcond Ans v59 (
 @AM.bind AV Ans (nilC v13) fun v60 =>
 @AM.bind AV Ans (faddr 0 v60) fun v61 =>
 @AM.bind AV Ans (ld v61) fun v62 =>
 @AM.bind AV Ans (C 25 [v62]) fun v63 =>
 @AM.bind AV Ans (extA v63 0) fun v64 =>
 @AM.bind AV Ans (extA v63 1) fun v65 =>
 @AM.bind AV Ans (nilC v13) fun v66 =>
 @AM.bind AV Ans (faddr 0 v66) fun v67 =>
 @AM.bind AV Ans (ld v67) fun v68 =>
 @AM.bind AV Ans (C 30 [v68]) fun v69 =>
 @AM.bind AV Ans (extA v69 0) fun v70 =>
 @AM.bind AV Ans (extA v69 1) fun v71 =>
 @AM.bind AV Ans (bn Tryz.prog .neq 3 true v64 (.int .i64 (.ofNat 3))) fun v72 =>
 @AM.bind AV Ans (guardA v72 false (.ret v70)) fun v73 =>
 @AM.bind AV Ans (pickA v72 (.bool true) v73) fun v74 =>
 @AM.bind AV Ans (guardA v74 false (.ret v71)) fun v75 =>
 @AM.bind AV Ans (guardA v74 false (un .not v75)) fun v76 =>
 @AM.bind AV Ans (pickA v74 (.bool true) v76) fun v77 =>
 @bcond Ans v77 (
 @AM.ret Ans (1, [(.bool false), v47, v48])) (
 @AM.bind AV Ans (nilC v13) fun v78 =>
 @AM.bind AV Ans (faddr 0 v78) fun v79 =>
 @AM.bind AV Ans (ld v79) fun v80 =>
 @AM.bind AV Ans (C 18 [v80, (.int .i64 (.ofNat 40)), (.int .i64 (.ofNat 2))]) fun v81 =>
 @AM.bind AV Ans (nilC v13) fun v82 =>
 @AM.bind AV Ans (faddr 0 v82) fun v83 =>
 @AM.bind AV Ans (ld v83) fun v84 =>
 @AM.bind AV Ans (C 27 [v84]) fun v85 =>
 @AM.bind AV Ans (extA v85 0) fun v86 =>
 @AM.bind AV Ans (extA v85 1) fun v87 =>
 @AM.bind AV Ans (extA v85 2) fun v88 =>
 @AM.bind AV Ans (bn Tryz.prog .add 3 true v48 (.int .i64 (.ofNat 1))) fun v89 =>
 @AM.ret Ans (0, [v46, v88, v89]))) (
 @AM.ret Ans (4, [v46, v47, v48]))) (g0 l45 0) (g0 l45 1) (g0 l45 2)) [(.bool false), (.int .i64 (.ofNat 0)), (.int .i64 (.ofNat 0))]) fun r90 =>
 cond (Nat.beq r90.1 4) (
 (fun (v91 v92 v93 : AV) =>
 @AM.bind AV AV (nilC v13) fun v94 =>
 @AM.bind AV AV (faddr 0 v94) fun v95 =>
 @AM.bind AV AV (ld v95) fun v96 =>
 @AM.bind AV AV (C 25 [v96]) fun v97 =>
 @AM.bind AV AV (extA v97 0) fun v98 =>
 @AM.bind AV AV (extA v97 1) fun v99 =>
 @AM.bind AV AV (nilC v13) fun v100 =>
 @AM.bind AV AV (faddr 0 v100) fun v101 =>
 @AM.bind AV AV (ld v101) fun v102 =>
 @AM.bind AV AV (C 27 [v102]) fun v103 =>
 @AM.bind AV AV (extA v103 0) fun v104 =>
 @AM.bind AV AV (extA v103 1) fun v105 =>
 @AM.bind AV AV (extA v103 2) fun v106 =>
 @AM.bind AV AV (bn Tryz.prog .eql 3 true v98 (.int .i64 (.ofNat 5))) fun v107 =>
 @AM.bind AV AV (guardA v107 true (.ret v92)) fun v108 =>
 @AM.bind AV AV (guardA v107 true (.ret a0)) fun v109 =>
 @AM.bind AV AV (guardA v107 true (bn Tryz.prog .eql 3 false v108 v109)) fun v110 =>
 @AM.bind AV AV (pickA v107 v110 (.bool false)) fun v111 =>
 @AM.bind AV AV (guardA v111 true (.ret v104)) fun v112 =>
 @AM.bind AV AV (guardA v111 true (.ret a0)) fun v113 =>
 @AM.bind AV AV (guardA v111 true (bn Tryz.prog .eql 3 false v112 v113)) fun v114 =>
 @AM.bind AV AV (pickA v111 v114 (.bool false)) fun v115 =>
 @AM.bind AV AV (guardA v115 true (.ret v105)) fun v116 =>
 @AM.bind AV AV (guardA v115 true (.ret a0)) fun v117 =>
 @AM.bind AV AV (guardA v115 true (bn Tryz.prog .eql 3 false v116 v117)) fun v118 =>
 @AM.bind AV AV (pickA v115 v118 (.bool false)) fun v119 =>
 @AM.bind AV AV (guardA v119 true (.ret v13)) fun v120 =>
 @AM.bind AV AV (guardA v119 true (nilC v120)) fun v121 =>
 @AM.bind AV AV (guardA v119 true (faddr 0 v121)) fun v122 =>
 @AM.bind AV AV (guardA v119 true (ld v122)) fun v123 =>
 @AM.bind AV AV (guardA v119 true (C 28 [v123])) fun v124 =>
 @AM.bind AV AV (guardA v119 true (bn Tryz.prog .eql 3 true v124 (.int .i64 (.ofNat 0)))) fun v125 =>
 @AM.bind AV AV (pickA v119 v125 (.bool false)) fun v126 =>
 @AM.bind AV AV (guardA v126 true (C 12 [])) fun v127 =>
 @AM.bind AV AV (pickA v126 v127 (.bool false)) fun v128 =>
 @AM.ret AV v128) (g0 r90.2 0) (g0 r90.2 1) (g0 r90.2 2)) (cond (Nat.beq r90.1 1) (
 (fun (v129 v130 v131 : AV) =>
 @AM.ret AV v129) (g0 r90.2 0) (g0 r90.2 1) (g0 r90.2 2)) (.bad))) h39) .bad) h38) h34) (g0 r28.2 0) (g0 r28.2 1)) (.bad)))
/- usher/usherlaw21.ConnPlays -/
noncomputable def F10 (C : CallOp) (Lp : LoopOp) (a0 a1 a2 : AV) : AM AV :=
 @AM.bind AV AV (boxA a0) fun v0 =>
 @AM.bind AV AV (C 35 [a2]) fun v1 =>
 @bcond AV v1 (
 @AM.bind AV AV (C 12 []) fun v2 =>
 @AM.ret AV v2) (
 @AM.bind AV AV (ldN 16 v0) fun v3 =>
 @AM.bind AV AV (C 13 [v3, a1]) fun v4 =>
 @AM.bind AV AV (extA v4 0) fun v5 =>
 @AM.bind AV AV (extA v4 1) fun v6 =>
 @AM.bind AV AV (un .not v6) fun v7 =>
 @bcond AV v7 (
 @AM.ret AV (.bool false)) (
 @AM.bind AV AV (nilC v5) fun v8 =>
 @AM.bind AV AV (faddr 0 v8) fun v9 =>
 @AM.bind AV AV (ld v9) fun v10 =>
 @AM.bind AV AV (bn Tryz.prog .eql 32 true v10 (.ptr none)) fun v11 =>
 @bcond AV v11 (
 @AM.bind AV AV (C 12 []) fun v12 =>
 @AM.ret AV v12) (
 @AM.bind Ans AV (Lp (fun l13 =>
 (fun (v14 v15 : AV) =>
 @AM.bind AV Ans (lenSl a2) fun v16 =>
 @AM.bind AV Ans (bn Tryz.prog .lss 3 false v15 v16) fun v17 =>
 @AM.bind AV Ans (guardA v17 true (.ret v15)) fun v18 =>
 @AM.bind AV Ans (guardA v17 true (bn Tryz.prog .lss 3 true v18 (.int .i64 (.ofNat 120)))) fun v19 =>
 @AM.bind AV Ans (pickA v17 v19 (.bool false)) fun v20 =>
 @bcond Ans v20 (
 @AM.bind AV Ans (iaddrS 4 a2 v15) fun v21 =>
 @AM.bind AV Ans (ldN 4 v21) fun v22 =>
 @AM.bind AV Ans (C 36 [v5, v22]) fun v23 =>
 @AM.bind AV Ans (un .not v23) fun v24 =>
 @AM.bind AV Ans (guardA v24 false (.ret v5)) fun v25 =>
 @AM.bind AV Ans (guardA v24 false (C 37 [v25])) fun v26 =>
 @AM.bind AV Ans (guardA v24 false (un .not v26)) fun v27 =>
 @AM.bind AV Ans (pickA v24 (.bool true) v27) fun v28 =>
 @bcond Ans v28 (
 @AM.ret Ans (1, [(.bool false), v15])) (
 @AM.bind AV Ans (bn Tryz.prog .add 3 true v15 (.int .i64 (.ofNat 1))) fun v29 =>
 @AM.ret Ans (0, [v14, v29]))) (
 @AM.ret Ans (2, [v14, v15]))) (g0 l13 0) (g0 l13 1)) [(.bool false), (.int .i64 (.ofNat 0))]) fun r30 =>
 cond (Nat.beq r30.1 2) (
 (fun (v31 v32 : AV) =>
 @AM.bind AV AV (C 12 []) fun v33 =>
 @AM.ret AV v33) (g0 r30.2 0) (g0 r30.2 1)) (cond (Nat.beq r30.1 1) (
 (fun (v34 v35 : AV) =>
 @AM.ret AV v34) (g0 r30.2 0) (g0 r30.2 1)) (.bad)))))
/- usher/usherlaw21.ConnOfNothing -/
noncomputable def F11 (C : CallOp) (Lp : LoopOp) (a0 a1 : AV) : AM AV :=
 @AM.bind AV AV (lenSl a0) fun v0 =>
 @AM.bind AV AV (bn Tryz.prog .gtr 3 true v0 (.int .i64 (.ofNat 6000))) fun v1 =>
 @bcond AV v1 (
 @AM.ret AV (.bool true)) (
 @AM.bind AV AV (C 15 [(.ptr none), a0, a1]) fun v2 =>
 @AM.bind AV AV (C 34 [(.ptr none), a1]) fun v3 =>
 @AM.bind AV AV (C 18 [(.ptr none), a1, a1]) fun v4 =>
 @AM.bind AV AV (C 23 [(.ptr none), a1]) fun v5 =>
 @AM.bind AV AV (C 32 [(.ptr none), a1]) fun v6 =>
 @AM.bind AV AV (C 38 [(.ptr none)]) fun v7 =>
 @AM.bind AV AV (C 39 [(.ptr none), a1, a1]) fun v8 =>
 @AM.bind AV AV (C 30 [(.ptr none)]) fun v9 =>
 @AM.bind AV AV (extA v9 0) fun v10 =>
 @AM.bind AV AV (extA v9 1) fun v11 =>
 @AM.bind AV AV (C 25 [(.ptr none)]) fun v12 =>
 @AM.bind AV AV (extA v12 0) fun v13 =>
 @AM.bind AV AV (extA v12 1) fun v14 =>
 @AM.bind AV AV (C 24 [(.ptr none)]) fun v15 =>
 @AM.bind AV AV (extA v15 0) fun v16 =>
 @AM.bind AV AV (extA v15 1) fun v17 =>
 @AM.bind AV AV (C 27 [(.ptr none)]) fun v18 =>
 @AM.bind AV AV (extA v18 0) fun v19 =>
 @AM.bind AV AV (extA v18 1) fun v20 =>
 @AM.bind AV AV (extA v18 2) fun v21 =>
 @AM.bind AV AV (C 14 []) fun v22 =>
 @AM.bind AV AV (C 40 [v22, (.ptr none), (.ptr none), (.int .i64 (.ofNat 0))]) fun v23 =>
 @AM.bind AV AV (extA v23 0) fun v24 =>
 @AM.bind AV AV (extA v23 1) fun v25 =>
 @AM.bind AV AV (C 28 [(.ptr none)]) fun v26 =>
 @AM.bind AV AV (bn Tryz.prog .add 3 false v2 v26) fun v27 =>
 @AM.bind AV AV (bn Tryz.prog .add 3 false v27 v13) fun v28 =>
 @AM.bind AV AV (bn Tryz.prog .add 3 false v28 v14) fun v29 =>
 @AM.bind AV AV (bn Tryz.prog .add 3 false v29 v16) fun v30 =>
 @AM.bind AV AV (bn Tryz.prog .add 3 false v30 v19) fun v31 =>
 @AM.bind AV AV (bn Tryz.prog .add 3 false v31 v20) fun v32 =>
 @AM.bind AV AV (bn Tryz.prog .add 3 false v32 v21) fun v33 =>
 @AM.bind AV AV (bn Tryz.prog .eql 3 true v33 (.int .i64 (.ofNat 0))) fun v34 =>
 @AM.bind AV AV (guardA v34 true (.ret v10)) fun v35 =>
 @AM.bind AV AV (guardA v34 true (un .not v35)) fun v36 =>
 @AM.bind AV AV (pickA v34 v36 (.bool false)) fun v37 =>
 @AM.bind AV AV (guardA v37 true (.ret v11)) fun v38 =>
 @AM.bind AV AV (guardA v37 true (un .not v38)) fun v39 =>
 @AM.bind AV AV (pickA v37 v39 (.bool false)) fun v40 =>
 @AM.bind AV AV (guardA v40 true (.ret v17)) fun v41 =>
 @AM.bind AV AV (guardA v40 true (un .not v41)) fun v42 =>
 @AM.bind AV AV (pickA v40 v42 (.bool false)) fun v43 =>
 @AM.bind AV AV (guardA v43 true (.ret (.ptr none))) fun v44 =>
 @AM.bind AV AV (guardA v43 true (C 33 [v44])) fun v45 =>
 @AM.bind AV AV (guardA v43 true (un .not v45)) fun v46 =>
 @AM.bind AV AV (pickA v43 v46 (.bool false)) fun v47 =>
 @AM.bind AV AV (guardA v47 true (.ret v24)) fun v48 =>
 @AM.bind AV AV (guardA v47 true (bn Tryz.prog .eql 32 true v48 (.ptr none))) fun v49 =>
 @AM.bind AV AV (pickA v47 v49 (.bool false)) fun v50 =>
 @AM.bind AV AV (guardA v50 true (.ret v25)) fun v51 =>
 @AM.bind AV AV (guardA v50 true (bn Tryz.prog .eql 76 true v51 (.int .i64 (.ofNat 1)))) fun v52 =>
 @AM.bind AV AV (pickA v50 v52 (.bool false)) fun v53 =>
 @AM.bind AV AV (guardA v53 true (C 12 [])) fun v54 =>
 @AM.bind AV AV (pickA v53 v54 (.bool false)) fun v55 =>
 @AM.ret AV v55)
/- usher/usherlaw21.known -/
noncomputable def F12 (C : CallOp) (Lp : LoopOp) : AM AV :=
 @AM.bind AV AV (C 14 []) fun v0 =>
 @AM.bind AV AV (C 13 [v0, (.int .i64 (.ofNat 256))]) fun v1 =>
 @AM.bind AV AV (extA v1 0) fun v2 =>
 @AM.bind AV AV (extA v1 1) fun v3 =>
 @AM.bind AV AV (un .not v3) fun v4 =>
 @AM.bind AV AV (guardA v4 false (.ret v2)) fun v5 =>
 @AM.bind AV AV (guardA v4 false (nilC v5)) fun v6 =>
 @AM.bind AV AV (guardA v4 false (faddr 0 v6)) fun v7 =>
 @AM.bind AV AV (guardA v4 false (ld v7)) fun v8 =>
 @AM.bind AV AV (guardA v4 false (bn Tryz.prog .eql 32 true v8 (.ptr none))) fun v9 =>
 @AM.bind AV AV (pickA v4 (.bool true) v9) fun v10 =>
 @bcond AV v10 (
 @AM.ret AV (.bool false)) (
 @AM.bind AV AV (bsl [(.int .u8 (.ofNat 0)), (.int .u8 (.ofNat 0)), (.int .u8 (.ofNat 0)), (.int .u8 (.ofNat 0)), (.int .u8 (.ofNat 0)), (.int .u8 (.ofNat 0)), (.int .u8 (.ofNat 0)), (.int .u8 (.ofNat 0)), (.int .u8 (.ofNat 0)), (.int .u8 (.ofNat 0)), (.int .u8 (.ofNat 0)), (.int .u8 (.ofNat 0)), (.int .u8 (.ofNat 0)), (.int .u8 (.ofNat 0)), (.int .u8 (.ofNat 0)), (.int .u8 (.ofNat 0)), (.int .u8 (.ofNat 0)), (.int .u8 (.ofNat 0)), (.int .u8 (.ofNat 0)), (.int .u8 (.ofNat 0)), (.int .u8 (.ofNat 0)), (.int .u8 (.ofNat 0)), (.int .u8 (.ofNat 0)), (.int .u8 (.ofNat 0)), (.int .u8 (.ofNat 0)), (.int .u8 (.ofNat 0)), (.int .u8 (.ofNat 0)), (.int .u8 (.ofNat 0)), (.int .u8 (.ofNat 0)), (.int .u8 (.ofNat 0)), (.int .u8 (.ofNat 0)), (.int .u8 (.ofNat 0)), (.int .u8 (.ofNat 0))] [(0, 1, (.int .u8 (.ofNat 71))), (1, 1, (.int .u8 (.ofNat 69))), (2, 1, (.int .u8 (.ofNat 84))), (3, 1, (.int .u8 (.ofNat 32))), (4, 1, (.int .u8 (.ofNat 47))), (5, 1, (.int .u8 (.ofNat 115))), (6, 1, (.int .u8 (.ofNat 116))), (7, 1, (.int .u8 (.ofNat 97))), (8, 1, (.int .u8 (.ofNat 116))), (9, 1, (.int .u8 (.ofNat 117))), (10, 1, (.int .u8 (.ofNat 115))), (11, 1, (.int .u8 (.ofNat 32))), (12, 1, (.int .u8 (.ofNat 72))), (13, 1, (.int .u8 (.ofNat 84))), (14, 1, (.int .u8 (.ofNat 84))), (15, 1, (.int .u8 (.ofNat 80))), (16, 1, (.int .u8 (.ofNat 47))), (17, 1, (.int .u8 (.ofNat 49))), (18, 1, (.int .u8 (.ofNat 46))), (19, 1, (.int .u8 (.ofNat 49))), (20, 1, (.int .u8 (.ofNat 13))), (21, 1, (.int .u8 (.ofNat 10))), (22, 1, (.int .u8 (.ofNat 72))), (23, 1, (.int .u8 (.ofNat 111))), (24, 1, (.int .u8 (.ofNat 115))), (25, 1, (.int .u8 (.ofNat 116))), (26, 1, (.int .u8 (.ofNat 58))), (27, 1, (.int .u8 (.ofNat 32))), (28, 1, (.int .u8 (.ofNat 97))), (29, 1, (.int .u8 (.ofNat 13))), (30, 1, (.int .u8 (.ofNat 10))), (31, 1, (.int .u8 (.ofNat 13))), (32, 1, (.int .u8 (.ofNat 10)))] 33 1) fun v11 =>
 @AM.bind AV AV (convA Tryz.prog 22 22 v11) fun v12 =>
 @AM.bind AV AV (nilC v2) fun v13 =>
 @AM.bind AV AV (faddr 0 v13) fun v14 =>
 @AM.bind AV AV (ld v14) fun v15 =>
 @AM.bind AV AV (C 15 [v15, v12, (.int .i64 (.ofNat 3))]) fun v16 =>
 @AM.bind AV AV (nilC v2) fun v17 =>
 @AM.bind AV AV (faddr 0 v17) fun v18 =>
 @AM.bind AV AV (ld v18) fun v19 =>
 @AM.bind AV AV (C 25 [v19]) fun v20 =>
 @AM.bind AV AV (extA v20 0) fun v21 =>
 @AM.bind AV AV (extA v20 1) fun v22 =>
 @AM.bind AV AV (lenSl v12) fun v23 =>
 @AM.bind AV AV (bn Tryz.prog .eql 3 false v16 v23) fun v24 =>
 @AM.bind AV AV (guardA v24 true (.ret v21)) fun v25 =>
 @AM.bind AV AV (guardA v24 true (bn Tryz.prog .eql 3 true v25 (.int .i64 (.ofNat 3)))) fun v26 =>
 @AM.bind AV AV (pickA v24 v26 (.bool false)) fun v27 =>
 @AM.bind AV AV (guardA v27 true (.ret v22)) fun v28 =>
 @AM.bind AV AV (guardA v27 true (bn Tryz.prog .eql 3 true v28 (.int .i64 (.ofNat 3)))) fun v29 =>
 @AM.bind AV AV (pickA v27 v29 (.bool false)) fun v30 =>
 @AM.bind AV AV (guardA v30 true (.ret v2)) fun v31 =>
 @AM.bind AV AV (guardA v30 true (nilC v31)) fun v32 =>
 @AM.bind AV AV (guardA v30 true (faddr 0 v32)) fun v33 =>
 @AM.bind AV AV (guardA v30 true (ld v33)) fun v34 =>
 @AM.bind AV AV (guardA v30 true (nilC v34)) fun v35 =>
 @AM.bind AV AV (guardA v30 true (faddr 0 v35)) fun v36 =>
 @AM.bind AV AV (guardA v30 true (ld v36)) fun v37 =>
 @AM.bind AV AV (guardA v30 true (C 16 [v37])) fun v38 =>
 @AM.bind AV AV (guardA v30 true (bn Tryz.prog .gtr 3 true v38 (.int .i64 (.ofNat 20)))) fun v39 =>
 @AM.bind AV AV (pickA v30 v39 (.bool false)) fun v40 =>
 @AM.bind AV AV (guardA v40 true (.ret v2)) fun v41 =>
 @AM.bind AV AV (guardA v40 true (nilC v41)) fun v42 =>
 @AM.bind AV AV (guardA v40 true (faddr 0 v42)) fun v43 =>
 @AM.bind AV AV (guardA v40 true (ld v43)) fun v44 =>
 @AM.bind AV AV (guardA v40 true (nilC v44)) fun v45 =>
 @AM.bind AV AV (guardA v40 true (faddr 0 v45)) fun v46 =>
 @AM.bind AV AV (guardA v40 true (ld v46)) fun v47 =>
 @AM.bind AV AV (guardA v40 true (C 17 [v47, (.int .i64 (.ofNat 15))])) fun v48 =>
 @AM.bind AV AV (guardA v40 true (bsl [(.int .u8 (.ofNat 0)), (.int .u8 (.ofNat 0)), (.int .u8 (.ofNat 0)), (.int .u8 (.ofNat 0)), (.int .u8 (.ofNat 0)), (.int .u8 (.ofNat 0)), (.int .u8 (.ofNat 0)), (.int .u8 (.ofNat 0)), (.int .u8 (.ofNat 0)), (.int .u8 (.ofNat 0)), (.int .u8 (.ofNat 0)), (.int .u8 (.ofNat 0)), (.int .u8 (.ofNat 0)), (.int .u8 (.ofNat 0)), (.int .u8 (.ofNat 0))] [(0, 1, (.int .u8 (.ofNat 72))), (1, 1, (.int .u8 (.ofNat 84))), (2, 1, (.int .u8 (.ofNat 84))), (3, 1, (.int .u8 (.ofNat 80))), (4, 1, (.int .u8 (.ofNat 47))), (5, 1, (.int .u8 (.ofNat 49))), (6, 1, (.int .u8 (.ofNat 46))), (7, 1, (.int .u8 (.ofNat 49))), (8, 1, (.int .u8 (.ofNat 32))), (9, 1, (.int .u8 (.ofNat 50))), (10, 1, (.int .u8 (.ofNat 48))), (11, 1, (.int .u8 (.ofNat 48))), (12, 1, (.int .u8 (.ofNat 32))), (13, 1, (.int .u8 (.ofNat 79))), (14, 1, (.int .u8 (.ofNat 75)))] 15 1)) fun v49 =>
 @AM.bind AV AV (guardA v40 true (convA Tryz.prog 22 22 v49)) fun v50 =>
 @AM.bind AV AV (guardA v40 true (C 21 [v48, v50])) fun v51 =>
 @AM.bind AV AV (pickA v40 v51 (.bool false)) fun v52 =>
 @AM.ret AV v52)
/- usher/usherlaw21.start -/
noncomputable def F13 (C : CallOp) (Lp : LoopOp) (a0 a1 : AV) : AM AV :=
 @AM.bind AV AV (boxA a0) fun v0 =>
 @AM.bind AV AV (C 19 []) fun v1 =>
 @AM.bind AV AV (C 41 [v1]) fun v2 =>
 @AM.bind AV AV (extA v2 0) fun v3 =>
 @AM.bind AV AV (extA v2 1) fun v4 =>
 @AM.bind AV AV (C 42 [a1]) fun v5 =>
 @AM.bind AV AV (extA v5 0) fun v6 =>
 @AM.bind AV AV (extA v5 1) fun v7 =>
 @AM.bind AV AV (C 19 []) fun v8 =>
 @AM.bind AV AV (C 43 [v8]) fun v9 =>
 @AM.bind AV AV (extA v9 0) fun v10 =>
 @AM.bind AV AV (extA v9 1) fun v11 =>
 @AM.bind AV AV (C 44 [a1]) fun v12 =>
 @AM.bind AV AV (extA v12 0) fun v13 =>
 @AM.bind AV AV (extA v12 1) fun v14 =>
 @AM.bind AV AV (bn Tryz.prog .neq 76 true v4 (.int .i64 (.ofNat 0))) fun v15 =>
 @AM.bind AV AV (guardA v15 false (.ret v11)) fun v16 =>
 @AM.bind AV AV (guardA v15 false (bn Tryz.prog .neq 3 true v16 (.int .i64 (.ofNat 0)))) fun v17 =>
 @AM.bind AV AV (pickA v15 (.bool true) v17) fun v18 =>
 @AM.bind AV AV (guardA v18 false (.ret v7)) fun v19 =>
 @AM.bind AV AV (guardA v18 false (.ret v14)) fun v20 =>
 @AM.bind AV AV (guardA v18 false (bn Tryz.prog .neq 3 false v19 v20)) fun v21 =>
 @AM.bind AV AV (pickA v18 (.bool true) v21) fun v22 =>
 @bcond AV v22 (
 @AM.ret AV (.tuple ((.ptr none) :: ((.bool false) :: [])))) (
 @AM.bind AV AV (ldN 16 v0) fun v23 =>
 @AM.bind AV AV (C 40 [v23, v3, v6, (.int .i64 (.ofNat 0))]) fun v24 =>
 @AM.bind AV AV (extA v24 0) fun v25 =>
 @AM.bind AV AV (extA v24 1) fun v26 =>
 @AM.bind AV AV (ldN 16 v0) fun v27 =>
 @AM.bind AV AV (C 45 [v27, v10, v13, (.int .i64 (.ofNat 0))]) fun v28 =>
 @AM.bind AV AV (extA v28 0) fun v29 =>
 @AM.bind AV AV (extA v28 1) fun v30 =>
 @AM.bind AV AV (bn Tryz.prog .neq 3 true v14 (.int .i64 (.ofNat 0))) fun v31 =>
 @AM.bind AV AV (bn Tryz.prog .eql 40 true v6 (.ptr none)) fun v32 =>
 @AM.bind AV AV (bn Tryz.prog .neq 4 false v31 v32) fun v33 =>
 @AM.bind AV AV (guardA v33 false (.ret v25)) fun v34 =>
 @AM.bind AV AV (guardA v33 false (bn Tryz.prog .eql 32 true v34 (.ptr none))) fun v35 =>
 @AM.bind AV AV (guardA v33 false (.ret v30)) fun v36 =>
 @AM.bind AV AV (guardA v33 false (bn Tryz.prog .neq 3 true v36 (.int .i64 (.ofNat 0)))) fun v37 =>
 @AM.bind AV AV (guardA v33 false (bn Tryz.prog .neq 4 false v35 v37)) fun v38 =>
 @AM.bind AV AV (pickA v33 (.bool true) v38) fun v39 =>
 @bcond AV v39 (
 @AM.ret AV (.tuple ((.ptr none) :: ((.bool false) :: [])))) (
 @bindP AV AV false (bld [(.ptr none), (.ptr none), (.int .i64 (.ofNat 0))] [(0, 1, v25), (1, 1, v29)]) fun v40 =>
 @bindP AV AV false (boxA v40) fun v41 =>
 @bindP AV AV false (bn Tryz.prog .eql 3 false v26 v30) fun v42 =>
 @bindP AV AV false (guardA v42 true (.ret v25)) fun v43 =>
 @bindP AV AV false (guardA v42 true (bn Tryz.prog .eql 32 true v43 (.ptr none))) fun v44 =>
 @bindP AV AV false (guardA v42 true (.ret v44)) fun v45 =>
 @bindP AV AV false (guardA v45 false (.ret v25)) fun v46 =>
 @bindP AV AV false (guardA v45 false (nilC v46)) fun v47 =>
 @bindP AV AV false (guardA v45 false (faddr 0 v47)) fun v48 =>
 @bindP AV AV false (guardA v45 false (ld v48)) fun v49 =>
 @bindP AV AV false (guardA v45 false (bn Tryz.prog .neq 38 true v49 (.ptr none))) fun v50 =>
 @bindP AV AV false (guardA v42 true (pickA v45 (.bool true) v50)) fun v51 =>
 @bindP AV AV false (pickA v42 v51 (.bool false)) fun v52 =>
 @AM.ret AV (.tuple (v41 :: (v52 :: [])))))
/- usher/usherlaw21.plain -/
noncomputable def F14 (C : CallOp) (Lp : LoopOp) : AM AV :=
 @AM.bind AV AV (nw [(.int .i64 (.ofNat 0)), (.int .i64 (.ofNat 0)), (.int .i64 (.ofNat 0)), (.int .i64 (.ofNat 0)), (.int .i64 (.ofNat 0)), (.int .i64 (.ofNat 0)), (.int .i64 (.ofNat 0)), (.int .i64 (.ofNat 0)), (.int .i64 (.ofNat 0)), (.int .i64 (.ofNat 0)), (.int .i64 (.ofNat 0)), (.int .i64 (.ofNat 0)), (.int .i64 (.ofNat 0)), (.bool false), (.bool false), .snil]) fun v0 =>
 @AM.bind AV AV (bld [(.int .i64 (.ofNat 0)), (.int .i64 (.ofNat 0)), (.int .i64 (.ofNat 0)), (.int .i64 (.ofNat 0)), (.int .i64 (.ofNat 0)), (.int .i64 (.ofNat 0)), (.int .i64 (.ofNat 0)), (.int .i64 (.ofNat 0)), (.int .i64 (.ofNat 0)), (.int .i64 (.ofNat 0)), (.int .i64 (.ofNat 0)), (.int .i64 (.ofNat 0)), (.int .i64 (.ofNat 0)), (.bool false), (.bool false), .snil] [(0, 1, (.int .i64 (.ofNat 1))), (1, 1, (.int .i64 (.ofNat 1))), (2, 1, (.int .i64 (.ofNat 2))), (4, 1, (.int .i64 (.ofNat 50))), (5, 1, (.int .i64 (.ofNat 20))), (6, 1, (.int .i64 (.ofNat 30))), (7, 1, (.int .i64 (.ofNat 40))), (8, 1, (.int .i64 (.ofNat 10)))]) fun v1 =>
 @AM.bind AV AV (unit2 (stN 16 v0 v1)) fun _ =>
 ldN 16 v0
/- (*usher/conn.Conn).Push -/
noncomputable def F15 (C : CallOp) (Lp : LoopOp) (a0 a1 a2 : AV) : AM AV :=
 @AM.bind AV AV (boxA a0) fun v0 =>
 @AM.bind AV AV (boxA a1) fun v1 =>
 @AM.bind AV AV (ld v0) fun v2 =>
 @AM.bind AV AV (bn Tryz.prog .eql 32 true v2 (.ptr none)) fun v3 =>
 @bcond AV v3 (
 @AM.ret AV (.int .i64 (.ofNat 0))) (
 @AM.bind AV AV (ld v0) fun v4 =>
 @AM.bind AV AV (nilC v4) fun v5 =>
 @AM.bind AV AV (faddr 25 v5) fun v6 =>
 @AM.bind AV AV (ld v6) fun v7 =>
 @AM.bind AV AV (guardA v7 false (ld v0)) fun v8 =>
 @AM.bind AV AV (guardA v7 false (nilC v8)) fun v9 =>
 @AM.bind AV AV (guardA v7 false (faddr 26 v9)) fun v10 =>
 @AM.bind AV AV (guardA v7 false (ld v10)) fun v11 =>
 @AM.bind AV AV (pickA v7 (.bool true) v11) fun v12 =>
 @AM.bind AV AV (guardA v12 false (ld v0)) fun v13 =>
 @AM.bind AV AV (guardA v12 false (nilC v13)) fun v14 =>
 @AM.bind AV AV (guardA v12 false (faddr 27 v14)) fun v15 =>
 @AM.bind AV AV (guardA v12 false (ld v15)) fun v16 =>
 @AM.bind AV AV (pickA v12 (.bool true) v16) fun v17 =>
 @bcond AV v17 (
 @AM.bind AV AV (ld v1) fun v18 =>
 @AM.bind AV AV (lenSl v18) fun v19 =>
 @AM.ret AV v19) (
 @AM.bind AV AV (nw [(.int .i64 (.ofNat 0))]) fun v20 =>
 @AM.bind AV AV (unit2 (st v20 (.int .i64 (.ofNat 0)))) fun _ =>
 @AM.bind AV AV (ld v0) fun v21 =>
 @AM.bind AV AV (C 46 [v21, a2, (.func (.func 47) [] [v0, v1, v20])]) fun v22 =>
 @AM.bind AV AV (ld v20) fun v23 =>
 @AM.ret AV v23))
/- (*usher/outq.Queue).Len -/
noncomputable def F16 (C : CallOp) (Lp : LoopOp) (a0 : AV) : AM AV :=
 @AM.bind AV AV (bn Tryz.prog .eql 38 true a0 (.ptr none)) fun v0 =>
 @bcond AV v0 (
 @AM.ret AV (.int .i64 (.ofNat 0))) (
 @AM.bind AV AV (nilC a0) fun v1 =>
 @AM.bind AV AV (faddr 0 v1) fun v2 =>
 @AM.bind AV AV (ld v2) fun v3 =>
 @AM.bind AV AV (lenSl v3) fun v4 =>
 @AM.ret AV v4)
/- (*usher/outq.Queue).Next -/
noncomputable def F17 (C : CallOp) (Lp : LoopOp) (a0 a1 : AV) : AM AV :=
 @AM.bind AV AV (C 51 [a0, a1]) fun v0 =>
 @AM.bind AV AV (C 50 [v0]) fun v1 =>
 @AM.ret AV v1
/- (*usher/conn.Conn).Wrote -/
noncomputable def F18 (C : CallOp) (Lp : LoopOp) (a0 a1 a2 : AV) : AM AV :=
 @AM.bind AV AV (boxA a0) fun v0 =>
 @AM.bind AV AV (boxA a1) fun v1 =>
 @AM.bind AV AV (ld v0) fun v2 =>
 @AM.bind AV AV (bn Tryz.prog .eql 32 true v2 (.ptr none)) fun v3 =>
 @AM.bind AV AV (guardA v3 false (ld v0)) fun v4 =>
 @AM.bind AV AV (guardA v3 false (nilC v4)) fun v5 =>
 @AM.bind AV AV (guardA v3 false (faddr 27 v5)) fun v6 =>
 @AM.bind AV AV (guardA v3 false (ld v6)) fun v7 =>
 @AM.bind AV AV (pickA v3 (.bool true) v7) fun v8 =>
 @bcond AV v8 (
 @AM.ret AV (.tuple [])) (
 @AM.bind AV AV (ld v0) fun v9 =>
 @AM.bind AV AV (C 46 [v9, a2, (.func (.func 52) [] [v0, v1])]) fun v10 =>
 @AM.ret AV (.tuple []))
/- usher/usherlaw21.table -/
noncomputable def F19 (C : CallOp) (Lp : LoopOp) : AM AV :=
 @AM.bind AV AV (bld [(.str []), (.str []), (.str [])] [(0, 1, (.str [47,97])), (1, 1, (.str [116,101,120,116,47,112,108,97,105,110])), (2, 1, (.str [104,101,108,108,111]))]) fun v0 =>
 @AM.bind AV AV (bld [(.str []), (.str []), (.str [])] [(0, 1, (.str [47,115])), (1, 1, (.str [115,116,114,101,97,109,47,120])), (2, 1, (.str [48,49,50,51,52,53,54,55,56,57,48,49,50,51,52,53,54,55,56,57,48,49,50,51,52,53,54,55,56,57,48,49,50,51,52,53,54,55,56,57]))]) fun v1 =>
 @AM.bind AV AV (bsl [(.str []), (.str []), (.str []), (.str []), (.str []), (.str [])] [(0, 3, v0), (3, 3, v1)] 2 3) fun v2 =>
 @AM.ret AV v2
/- usher/usherlaw21.same -/
noncomputable def F21 (C : CallOp) (Lp : LoopOp) (a0 a1 : AV) : AM AV :=
 @AM.bind AV AV (lenSl a0) fun v0 =>
 @AM.bind AV AV (lenSl a1) fun v1 =>
 @AM.bind AV AV (bn Tryz.prog .neq 3 false v0 v1) fun v2 =>
 @bcond AV v2 (
 @AM.ret AV (.bool false)) (
 @AM.bind Ans AV (Lp (fun l3 =>
 (fun (v4 v5 : AV) =>
 @AM.bind AV Ans (lenSl a0) fun v6 =>
 @AM.bind AV Ans (bn Tryz.prog .lss 3 false v5 v6) fun v7 =>
 @bcond Ans v7 (
 @bindP AV Ans false (iaddrS 1 a0 v5) fun v8 =>
 @bindP AV Ans false (ld v8) fun v9 =>
 @bindP AV Ans false (iaddrS 1 a1 v5) fun v10 =>
 @bindP AV Ans false (ld v10) fun v11 =>
 @bindP AV Ans false (bn Tryz.prog .neq 5 false v9 v11) fun v12 =>
 @bcond Ans v12 (
 @AM.ret Ans (1, [(.bool false), v5])) (
 @AM.bind AV Ans (bn Tryz.prog .add 3 true v5 (.int .i64 (.ofNat 1))) fun v13 =>
 @AM.ret Ans (0, [v4, v13]))) (
 @AM.ret Ans (2, [v4, v5]))) (g0 l3 0) (g0 l3 1)) [(.bool false), (.int .i64 (.ofNat 0))]) fun r14 =>
 cond (Nat.beq r14.1 2) (
 (fun (v15 v16 : AV) =>
 @AM.ret AV (.bool true)) (g0 r14.2 0) (g0 r14.2 1)) (cond (Nat.beq r14.1 1) (
 (fun (v17 v18 : AV) =>
 @AM.ret AV v17) (g0 r14.2 0) (g0 r14.2 1)) (.bad)))
/- (*usher/conn.Conn).Due -/
noncomputable def F23 (C : CallOp) (Lp : LoopOp) (a0 a1 : AV) : AM AV :=
 @AM.bind AV AV (boxA a0) fun v0 =>
 @AM.bind AV AV (ld v0) fun v1 =>
 @AM.bind AV AV (C 24 [v1]) fun v2 =>
 @AM.bind AV AV (extA v2 0) fun v3 =>
 @AM.bind AV AV (extA v2 1) fun v4 =>
 @AM.bind AV AV (un .not v4) fun v5 =>
 @AM.bind AV AV (guardA v5 false (.ret a1)) fun v6 =>
 @AM.bind AV AV (guardA v5 false (.ret v3)) fun v7 =>
 @AM.bind AV AV (guardA v5 false (bn Tryz.prog .lss 3 false v6 v7)) fun v8 =>
 @AM.bind AV AV (pickA v5 (.bool true) v8) fun v9 =>
 @bcond AV v9 (
 @AM.ret AV (.tuple [])) (
 @AM.bind AV AV (ld v0) fun v10 =>
 @AM.bind AV AV (nilC v10) fun v11 =>
 @AM.bind AV AV (faddr 20 v11) fun v12 =>
 @AM.bind AV AV (ld v12) fun v13 =>
 @AM.bind AV AV (bn Tryz.prog .eql 3 true v13 (.int .i64 (.ofNat 1))) fun v14 =>
 @bcond AV v14 (
 @AM.bind AV AV (ld v0) fun v15 =>
 @AM.bind AV AV (C 39 [v15, (.int .i64 (.ofNat 408)), a1]) fun v16 =>
 @AM.ret AV (.tuple [])) (
 @AM.bind AV AV (bn Tryz.prog .eql 3 true v13 (.int .i64 (.ofNat 2))) fun v17 =>
 @bcond AV v17 (
 @bindP AV AV false (ld v0) fun v18 =>
 @bindP AV AV false (nilC v18) fun v19 =>
 @bindP AV AV false (faddr 21 v19) fun v20 =>
 @bindP AV AV false (ld v20) fun v21 =>
 @bindP AV AV false (ld v0) fun v22 =>
 @bindP AV AV false (nilC v22) fun v23 =>
 @bindP AV AV false (faddr 1 v23) fun v24 =>
 @bindP AV AV false (faddr 6 v24) fun v25 =>
 @bindP AV AV false (ld v25) fun v26 =>
 @bindP AV AV false (bn Tryz.prog .add 3 false v21 v26) fun v27 =>
 @bindP AV AV false (bn Tryz.prog .geq 3 false a1 v27) fun v28 =>
 @bindP AV AV false (guardA v28 false (ld v0)) fun v29 =>
 @bindP AV AV false (guardA v28 false (nilC v29)) fun v30 =>
 @bindP AV AV false (guardA v28 false (faddr 23 v30)) fun v31 =>
 @bindP AV AV false (guardA v28 false (ld v31)) fun v32 =>
 @bindP AV AV false (guardA v28 false (ld v0)) fun v33 =>
 @bindP AV AV false (guardA v28 false (nilC v33)) fun v34 =>
 @bindP AV AV false (guardA v28 false (faddr 1 v34)) fun v35 =>
 @bindP AV AV false (guardA v28 false (faddr 10 v35)) fun v36 =>
 @bindP AV AV false (guardA v28 false (ld v36)) fun v37 =>
 @bindP AV AV false (guardA v28 false (bn Tryz.prog .lss 3 false v32 v37)) fun v38 =>
 @bindP AV AV false (pickA v28 (.bool true) v38) fun v39 =>
 @bcond AV v39 (
 @AM.bind AV AV (ld v0) fun v40 =>
 @AM.bind AV AV (C 39 [v40, (.int .i64 (.ofNat 408)), a1]) fun v41 =>
 @AM.ret AV (.tuple [])) (
 @bindP AV AV false (ld v0) fun v42 =>
 fun h44 => @bindP AV AV false (ld v0) (fun v43 =>
 @bindP AV AV false (nilC v42) fun v46 =>
 @bindP AV AV false (faddr 22 v46) fun v47 =>
 fun h48 => @bindP AV AV true (unit2 (st v47 a1)) (fun _ h49 => cond (Nat.ble h48.next h49.next && (AV.under h44.next v43 && (sameS (ld v0) v43 h49 && true))) ((
 @bindP AV AV false (nilC v43) fun v50 =>
 @bindP AV AV false (faddr 23 v50) fun v51 =>
 @heavyA true (unit2 (st v51 (.int .i64 (.ofNat 0)))) AV fun _ =>
 @AM.ret AV (.tuple [])) h49) .bad) h48) h44)) (
 @AM.bind AV AV (ld v0) fun v52 =>
 @AM.bind AV AV (C 46 [v52, a1, (.func (.func 57) [] [v0])]) fun v53 =>
 @AM.ret AV (.tuple []))))
/- (*usher/conn.Conn).Deadline -/
noncomputable def F24 (C : CallOp) (Lp : LoopOp) (a0 : AV) : AM AV :=
 @AM.bind AV AV (bn Tryz.prog .eql 32 true a0 (.ptr none)) fun v0 =>
 @AM.bind AV AV (guardA v0 false (.ret a0)) fun v1 =>
 @AM.bind AV AV (guardA v0 false (nilC v1)) fun v2 =>
 @AM.bind AV AV (guardA v0 false (faddr 27 v2)) fun v3 =>
 @AM.bind AV AV (guardA v0 false (ld v3)) fun v4 =>
 @AM.bind AV AV (pickA v0 (.bool true) v4) fun v5 =>
 @bcond AV v5 (
 @AM.ret AV (.tuple ((.int .i64 (.ofNat 0)) :: ((.bool false) :: [])))) (
 @bindP AV AV false (nilC a0) fun v6 =>
 @bindP AV AV false (faddr 21 v6) fun v7 =>
 @bindP AV AV false (ld v7) fun v8 =>
 @bindP AV AV false (nilC a0) fun v9 =>
 @bindP AV AV false (faddr 1 v9) fun v10 =>
 @bindP AV AV false (faddr 4 v10) fun v11 =>
 @bindP AV AV false (ld v11) fun v12 =>
 @bindP AV AV false (nilC a0) fun v13 =>
 @bindP AV AV false (faddr 1 v13) fun v14 =>
 @bindP AV AV false (faddr 5 v14) fun v15 =>
 @bindP AV AV false (ld v15) fun v16 =>
 @bindP AV AV false (nilC a0) fun v17 =>
 @bindP AV AV false (faddr 1 v17) fun v18 =>
 @bindP AV AV false (faddr 6 v18) fun v19 =>
 @bindP AV AV false (ld v19) fun v20 =>
 @bindP AV AV false (nilC a0) fun v21 =>
 @bindP AV AV false (faddr 1 v21) fun v22 =>
 @bindP AV AV false (faddr 7 v22) fun v23 =>
 @bindP AV AV false (ld v23) fun v24 =>
 @bindP AV AV false (nilC a0) fun v25 =>
 @bindP AV AV false (faddr 1 v25) fun v26 =>
 @bindP AV AV false (faddr 8 v26) fun v27 =>
 @bindP AV AV false (ld v27) fun v28 =>
 @bindP AV AV false (bsl [(.int .i64 (.ofNat 0)), (.int .i64 (.ofNat 0)), (.int .i64 (.ofNat 0)), (.int .i64 (.ofNat 0)), (.int .i64 (.ofNat 0))] [(0, 1, v12), (1, 1, v16), (2, 1, v20), (3, 1, v24), (4, 1, v28)] 5 1) fun v29 =>
 @bindP AV AV false (nilC a0) fun v30 =>
 @bindP AV AV false (faddr 20 v30) fun v31 =>
 @bindP AV AV false (ld v31) fun v32 =>
 @bindP AV AV false (iaddrS 1 v29 v32) fun v33 =>
 @bindP AV AV false (ld v33) fun v34 =>
 @bindP AV AV false (bn Tryz.prog .add 3 false v8 v34) fun v35 =>
 @AM.bind AV AV (nilC a0) fun v36 =>
 @AM.bind AV AV (faddr 20 v36) fun v37 =>
 @AM.bind AV AV (ld v37) fun v38 =>
 @AM.bind AV AV (bn Tryz.prog .eql 3 true v38 (.int .i64 (.ofNat 2))) fun v39 =>
 @AM.bind AV AV (guardA v39 true (.ret a0)) fun v40 =>
 @AM.bind AV AV (guardA v39 true (nilC v40)) fun v41 =>
 @AM.bind AV AV (guardA v39 true (faddr 1 v41)) fun v42 =>
 @AM.bind AV AV (guardA v39 true (faddr 9 v42)) fun v43 =>
 @AM.bind AV AV (guardA v39 true (ld v43)) fun v44 =>
 @AM.bind AV AV (guardA v39 true (bn Tryz.prog .gtr 3 true v44 (.int .i64 (.ofNat 0)))) fun v45 =>
 @AM.bind AV AV (pickA v39 v45 (.bool false)) fun v46 =>
 @AM.bind Ans AV (@bcond Ans v46 (
 @bindP AV Ans false (nilC a0) fun v47 =>
 @bindP AV Ans false (faddr 22 v47) fun v48 =>
 @bindP AV Ans false (ld v48) fun v49 =>
 @bindP AV Ans false (nilC a0) fun v50 =>
 @bindP AV Ans false (faddr 1 v50) fun v51 =>
 @bindP AV Ans false (faddr 9 v51) fun v52 =>
 @bindP AV Ans false (ld v52) fun v53 =>
 @bindP AV Ans false (bn Tryz.prog .add 3 false v49 v53) fun v54 =>
 @bindP AV Ans false (ofOpt (minA v35 [v54])) fun v55 =>
 @AM.ret Ans (0, [v55])) (
 @AM.ret Ans (0, [v35]))) fun r56 =>
 cond (Nat.beq r56.1 0) (
 (fun (v57 : AV) =>
 @AM.ret AV (.tuple (v57 :: ((.bool true) :: [])))) (g0 r56.2 0)) (.bad))
/- (*usher/conn.Conn).Phase -/
noncomputable def F25 (C : CallOp) (Lp : LoopOp) (a0 : AV) : AM AV :=
 @AM.bind AV AV (bn Tryz.prog .eql 32 true a0 (.ptr none)) fun v0 =>
 @bcond AV v0 (
 @AM.ret AV (.tuple ((.int .i64 (.ofNat 0)) :: ((.int .i64 (.ofNat 0)) :: [])))) (
 @bindP AV AV false (nilC a0) fun v1 =>
 @bindP AV AV false (faddr 20 v1) fun v2 =>
 @bindP AV AV false (ld v2) fun v3 =>
 @bindP AV AV false (nilC a0) fun v4 =>
 @bindP AV AV false (faddr 21 v4) fun v5 =>
 @bindP AV AV false (ld v5) fun v6 =>
 @AM.ret AV (.tuple (v3 :: (v6 :: []))))
/- (*usher/conn.Conn).Count -/
noncomputable def F27 (C : CallOp) (Lp : LoopOp) (a0 : AV) : AM AV :=
 @AM.bind AV AV (bn Tryz.prog .eql 32 true a0 (.ptr none)) fun v0 =>
 @bcond AV v0 (
 @AM.ret AV (.tuple ((.int .i64 (.ofNat 0)) :: ((.int .i64 (.ofNat 0)) :: ((.int .i64 (.ofNat 0)) :: []))))) (
 @bindP AV AV false (nilC a0) fun v1 =>
 @bindP AV AV false (faddr 30 v1) fun v2 =>
 @bindP AV AV false (ld v2) fun v3 =>
 @bindP AV AV false (nilC a0) fun v4 =>
 @bindP AV AV false (faddr 31 v4) fun v5 =>
 @bindP AV AV false (ld v5) fun v6 =>
 @bindP AV AV false (nilC a0) fun v7 =>
 @bindP AV AV false (faddr 32 v7) fun v8 =>
 @bindP AV AV false (ld v8) fun v9 =>
 @AM.ret AV (.tuple (v3 :: (v6 :: (v9 :: [])))))
/- (*usher/conn.Conn).Room -/
noncomputable def F28 (C : CallOp) (Lp : LoopOp) (a0 : AV) : AM AV :=
 @AM.bind AV AV (bn Tryz.prog .eql 32 true a0 (.ptr none)) fun v0 =>
 @AM.bind AV AV (guardA v0 false (.ret a0)) fun v1 =>
 @AM.bind AV AV (guardA v0 false (nilC v1)) fun v2 =>
 @AM.bind AV AV (guardA v0 false (faddr 27 v2)) fun v3 =>
 @AM.bind AV AV (guardA v0 false (ld v3)) fun v4 =>
 @AM.bind AV AV (pickA v0 (.bool true) v4) fun v5 =>
 @bcond AV v5 (
 @AM.ret AV (.int .i64 (.ofNat 0))) (
 @AM.bind AV AV (nilC a0) fun v6 =>
 @AM.bind AV AV (faddr 25 v6) fun v7 =>
 @AM.bind AV AV (ld v7) fun v8 =>
 @AM.bind AV AV (guardA v8 false (.ret a0)) fun v9 =>
 @AM.bind AV AV (guardA v8 false (nilC v9)) fun v10 =>
 @AM.bind AV AV (guardA v8 false (faddr 26 v10)) fun v11 =>
 @AM.bind AV AV (guardA v8 false (ld v11)) fun v12 =>
 @AM.bind AV AV (pickA v8 (.bool true) v12) fun v13 =>
 @bcond AV v13 (
 @AM.ret AV (.int .i64 (.ofNat 256))) (
 @AM.bind AV AV (nilC a0) fun v14 =>
 @AM.bind AV AV (faddr 18 v14) fun v15 =>
 @AM.bind AV AV (ld v15) fun v16 =>
 @AM.bind AV AV (C 59 [v16]) fun v17 =>
 @AM.ret AV v17))
/- (*usher/conn.Conn).Wants -/
noncomputable def F30 (C : CallOp) (Lp : LoopOp) (a0 : AV) : AM AV :=
 @AM.bind AV AV (bn Tryz.prog .eql 32 true a0 (.ptr none)) fun v0 =>
 @AM.bind AV AV (guardA v0 false (.ret a0)) fun v1 =>
 @AM.bind AV AV (guardA v0 false (nilC v1)) fun v2 =>
 @AM.bind AV AV (guardA v0 false (faddr 27 v2)) fun v3 =>
 @AM.bind AV AV (guardA v0 false (ld v3)) fun v4 =>
 @AM.bind AV AV (pickA v0 (.bool true) v4) fun v5 =>
 @bcond AV v5 (
 @AM.ret AV (.tuple ((.bool false) :: ((.bool false) :: [])))) (
 @bindP AV AV false (nilC a0) fun v6 =>
 @bindP AV AV false (faddr 26 v6) fun v7 =>
 @bindP AV AV false (ld v7) fun v8 =>
 @bindP AV AV false (un .not v8) fun v9 =>
 @bindP AV AV false (guardA v9 true (.ret a0)) fun v10 =>
 @bindP AV AV false (guardA v9 true (nilC v10)) fun v11 =>
 @bindP AV AV false (guardA v9 true (faddr 25 v11)) fun v12 =>
 @bindP AV AV false (guardA v9 true (ld v12)) fun v13 =>
 @bindP AV AV false (guardA v9 true (.ret v13)) fun v14 =>
 @bindP AV AV false (guardA v14 false (.ret a0)) fun v15 =>
 @bindP AV AV false (guardA v14 false (nilC v15)) fun v16 =>
 @bindP AV AV false (guardA v14 false (faddr 18 v16)) fun v17 =>
 @bindP AV AV false (guardA v14 false (ld v17)) fun v18 =>
 @heavyA true (guardA v14 false (C 59 [v18])) AV fun v19 =>
 @bindP AV AV false (guardA v14 false (bn Tryz.prog .gtr 3 true v19 (.int .i64 (.ofNat 0)))) fun v20 =>
 @bindP AV AV false (guardA v14 false (.ret v20)) fun v21 =>
 @bindP AV AV false (guardA v21 true (.ret a0)) fun v22 =>
 @bindP AV AV false (guardA v21 true (nilC v22)) fun v23 =>
 @bindP AV AV false (guardA v21 true (faddr 0 v23)) fun v24 =>
 @bindP AV AV false (guardA v21 true (ld v24)) fun v25 =>
 fun h27 => @bindP AV AV false (guardA v21 true (C 31 [v25])) (fun v26 h28 => cond (Nat.ble h27.next h28.next && true) ((
 @bindP AV AV false (guardA v21 true (lenSl v26)) fun v29 =>
 @bindP AV AV false (guardA v21 true (.ret a0)) fun v30 =>
 @bindP AV AV false (guardA v21 true (nilC v30)) fun v31 =>
 @bindP AV AV false (guardA v21 true (faddr 1 v31)) fun v32 =>
 @bindP AV AV false (guardA v21 true (faddr 2 v32)) fun v33 =>
 fun h35 => @bindP AV AV false (guardA v21 true (ld v33)) (fun v34 h36 => cond ((AV.under h27.next v33 && (AV.under h27.next v21 && true)) && (sameS (guardA v21 true (ld v33)) v34 h27 && true)) ((
 @bindP AV AV false (guardA v21 true (bn Tryz.prog .lss 3 false v29 v34)) fun v37 =>
 @bindP AV AV false (guardA v14 false (pickA v21 v37 (.bool false))) fun v38 =>
 @bindP AV AV false (guardA v9 true (pickA v14 (.bool true) v38)) fun v39 =>
 @bindP AV AV false (pickA v9 v39 (.bool false)) fun v40 =>
 @AM.bind AV AV (nilC a0) fun v41 =>
 @AM.bind AV AV (faddr 0 v41) fun v42 =>
 @AM.bind AV AV (ld v42) fun v43 =>
 @AM.bind AV AV (C 16 [v43]) fun v44 =>
 @AM.bind AV AV (bn Tryz.prog .gtr 3 true v44 (.int .i64 (.ofNat 0))) fun v45 =>
 @AM.ret AV (.tuple (v40 :: (v45 :: [])))) h36) .bad) h35) h28) .bad) h27)
/- (*usher/outq.Queue).Left -/
noncomputable def F31 (C : CallOp) (Lp : LoopOp) (a0 : AV) : AM AV :=
 @AM.bind AV AV (bn Tryz.prog .eql 38 true a0 (.ptr none)) fun v0 =>
 @bcond AV v0 (
 @AM.ret AV .snil) (
 @AM.bind AV AV (nilC a0) fun v1 =>
 @AM.bind AV AV (faddr 1 v1) fun v2 =>
 @AM.bind AV AV (ld v2) fun v3 =>
 @AM.bind AV AV (lenSl v3) fun v4 =>
 @AM.bind Ans AV (Lp (fun l5 =>
 (fun (v6 v7 : AV) =>
 @AM.bind AV Ans (bn Tryz.prog .lss 3 false v7 v4) fun v8 =>
 @bcond Ans v8 (
 @AM.bind AV Ans (iaddrS 2 v3 v7) fun v9 =>
 @AM.bind AV Ans (ldN 2 v9) fun v10 =>
 @AM.bind AV Ans (nw [(.int .i64 (.ofNat 0)), (.int .i64 (.ofNat 0))]) fun v11 =>
 @AM.bind AV Ans (unit2 (stN 2 v11 v10)) fun _ =>
 @AM.bind AV Ans (faddr 0 v11) fun v12 =>
 @AM.bind AV Ans (ld v12) fun v13 =>
 @AM.bind AV Ans (bsl [(.int .i64 (.ofNat 0))] [(0, 1, v13)] 1 1) fun v14 =>
 @AM.bind AV Ans (apnd 1 v6 v14) fun v15 =>
 @AM.bind AV Ans (bn Tryz.prog .add 3 true v7 (.int .i64 (.ofNat 1))) fun v16 =>
 @AM.ret Ans (0, [v15, v16])) (
 @AM.ret Ans (2, [v6, v7]))) (g0 l5 0) (g0 l5 1)) [.snil, (.int .i64 (.ofNat 0))]) fun r17 =>
 cond (Nat.beq r17.1 2) (
 (fun (v18 v19 : AV) =>
 @AM.ret AV v18) (g0 r17.2 0) (g0 r17.2 1)) (.bad))
/- (*usher/conn.Conn).Quit -/
noncomputable def F32 (C : CallOp) (Lp : LoopOp) (a0 a1 : AV) : AM AV :=
 @AM.bind AV AV (boxA a0) fun v0 =>
 @AM.bind AV AV (ld v0) fun v1 =>
 @AM.bind AV AV (bn Tryz.prog .eql 32 true v1 (.ptr none)) fun v2 =>
 @AM.bind AV AV (guardA v2 false (ld v0)) fun v3 =>
 @AM.bind AV AV (guardA v2 false (nilC v3)) fun v4 =>
 @AM.bind AV AV (guardA v2 false (faddr 27 v4)) fun v5 =>
 @AM.bind AV AV (guardA v2 false (ld v5)) fun v6 =>
 @AM.bind AV AV (pickA v2 (.bool true) v6) fun v7 =>
 @bcond AV v7 (
 @AM.ret AV (.tuple [])) (
 @AM.bind AV AV (ld v0) fun v8 =>
 @AM.bind AV AV (C 46 [v8, a1, (.func (.func 61) [] [v0])]) fun v9 =>
 @AM.ret AV (.tuple []))
/- (*usher/conn.Conn).Shut -/
noncomputable def F33 (C : CallOp) (Lp : LoopOp) (a0 : AV) : AM AV :=
 @AM.bind AV AV (bn Tryz.prog .neq 32 true a0 (.ptr none)) fun v0 =>
 @AM.bind AV AV (guardA v0 true (.ret a0)) fun v1 =>
 @AM.bind AV AV (guardA v0 true (nilC v1)) fun v2 =>
 @AM.bind AV AV (guardA v0 true (faddr 20 v2)) fun v3 =>
 @AM.bind AV AV (guardA v0 true (ld v3)) fun v4 =>
 @AM.bind AV AV (guardA v0 true (bn Tryz.prog .eql 3 true v4 (.int .i64 (.ofNat 4)))) fun v5 =>
 @AM.bind AV AV (pickA v0 v5 (.bool false)) fun v6 =>
 @AM.ret AV v6
/- (*usher/conn.Conn).End -/
noncomputable def F34 (C : CallOp) (Lp : LoopOp) (a0 a1 : AV) : AM AV :=
 @AM.bind AV AV (boxA a0) fun v0 =>
 @AM.bind AV AV (ld v0) fun v1 =>
 @AM.bind AV AV (bn Tryz.prog .neq 32 true v1 (.ptr none)) fun v2 =>
 @AM.bind AV AV (guardA v2 true (ld v0)) fun v3 =>
 @AM.bind AV AV (guardA v2 true (nilC v3)) fun v4 =>
 @AM.bind AV AV (guardA v2 true (faddr 27 v4)) fun v5 =>
 @AM.bind AV AV (guardA v2 true (ld v5)) fun v6 =>
 @AM.bind AV AV (guardA v2 true (un .not v6)) fun v7 =>
 @AM.bind AV AV (pickA v2 v7 (.bool false)) fun v8 =>
 @bcond AV v8 (
 @AM.bind AV AV (ld v0) fun v9 =>
 @AM.bind AV AV (C 46 [v9, a1, (.func (.func 62) [] [v0])]) fun v10 =>
 @AM.ret AV (.tuple [])) (
 @AM.ret AV (.tuple []))
/- (*usher/conn.Conn).Break -/
noncomputable def F38 (C : CallOp) (Lp : LoopOp) (a0 : AV) : AM AV :=
 @AM.bind AV AV (bn Tryz.prog .neq 32 true a0 (.ptr none)) fun v0 =>
 @bcond AV v0 (
 @AM.bind AV AV (nilC a0) fun v1 =>
 @AM.bind AV AV (faddr 27 v1) fun v2 =>
 @AM.bind AV AV (unit2 (st v2 (.bool true))) fun _ =>
 @AM.bind AV AV (nilC a0) fun v3 =>
 @AM.bind AV AV (faddr 20 v3) fun v4 =>
 @AM.bind AV AV (unit2 (st v4 (.int .i64 (.ofNat 5)))) fun _ =>
 @AM.ret AV (.tuple [])) (
 @AM.ret AV (.tuple []))
/- (*usher/conn.Conn).Refuse -/
noncomputable def F39 (C : CallOp) (Lp : LoopOp) (a0 a1 a2 : AV) : AM AV :=
 @AM.bind AV AV (boxA a0) fun v0 =>
 @AM.bind AV AV (boxA a1) fun v1 =>
 @AM.bind AV AV (ld v0) fun v2 =>
 @AM.bind AV AV (bn Tryz.prog .neq 32 true v2 (.ptr none)) fun v3 =>
 @AM.bind AV AV (guardA v3 true (ld v0)) fun v4 =>
 @AM.bind AV AV (guardA v3 true (nilC v4)) fun v5 =>
 @AM.bind AV AV (guardA v3 true (faddr 25 v5)) fun v6 =>
 @AM.bind AV AV (guardA v3 true (ld v6)) fun v7 =>
 @AM.bind AV AV (guardA v3 true (un .not v7)) fun v8 =>
 @AM.bind AV AV (pickA v3 v8 (.bool false)) fun v9 =>
 @AM.bind AV AV (guardA v9 true (ld v0)) fun v10 =>
 @AM.bind AV AV (guardA v9 true (nilC v10)) fun v11 =>
 @AM.bind AV AV (guardA v9 true (faddr 27 v11)) fun v12 =>
 @AM.bind AV AV (guardA v9 true (ld v12)) fun v13 =>
 @AM.bind AV AV (guardA v9 true (un .not v13)) fun v14 =>
 @AM.bind AV AV (pickA v9 v14 (.bool false)) fun v15 =>
 @AM.bind AV AV (guardA v15 true (ld v1)) fun v16 =>
 @AM.bind AV AV (guardA v15 true (bn Tryz.prog .geq 3 true v16 (.int .i64 (.ofNat 200)))) fun v17 =>
 @AM.bind AV AV (pickA v15 v17 (.bool false)) fun v18 =>
 @AM.bind AV AV (guardA v18 true (ld v1)) fun v19 =>
 @AM.bind AV AV (guardA v18 true (bn Tryz.prog .leq 3 true v19 (.int .i64 (.ofNat 599)))) fun v20 =>
 @AM.bind AV AV (pickA v18 v20 (.bool false)) fun v21 =>
 @bcond AV v21 (
 @AM.bind AV AV (ld v0) fun v22 =>
 @AM.bind AV AV (C 46 [v22, a2, (.func (.func 79) [] [v0, v1])]) fun v23 =>
 @AM.ret AV (.tuple [])) (
 @AM.ret AV (.tuple []))
/- usher/conn.New -/
noncomputable def F40 (C : CallOp) (Lp : LoopOp) (a0 a1 a2 a3 : AV) : AM AV :=
 @AM.bind AV AV (boxA a0) fun v0 =>
 @AM.bind AV AV (ldN 16 v0) fun v1 =>
 @AM.bind AV AV (C 82 [v1]) fun v2 =>
 @AM.bind AV AV (extA v2 0) fun v3 =>
 @AM.bind AV AV (extA v2 1) fun v4 =>
 @AM.bind AV AV (bn Tryz.prog .neq 76 true v4 (.int .i64 (.ofNat 0))) fun v5 =>
 @AM.bind AV AV (guardA v5 false (.ret a1)) fun v6 =>
 @AM.bind AV AV (guardA v5 false (bn Tryz.prog .eql 39 true v6 (.ptr none))) fun v7 =>
 @AM.bind AV AV (pickA v5 (.bool true) v7) fun v8 =>
 @AM.bind AV AV (guardA v8 false (.ret a2)) fun v9 =>
 @AM.bind AV AV (guardA v8 false (bn Tryz.prog .eql 40 true v9 (.ptr none))) fun v10 =>
 @AM.bind AV AV (pickA v8 (.bool true) v10) fun v11 =>
 @AM.bind AV AV (guardA v11 false (.ret a3)) fun v12 =>
 @AM.bind AV AV (guardA v11 false (bn Tryz.prog .lss 3 true v12 (.int .i64 (.ofNat 0)))) fun v13 =>
 @AM.bind AV AV (pickA v11 (.bool true) v13) fun v14 =>
 @bcond AV v14 (
 @AM.ret AV (.tuple ((.ptr none) :: ((.int .i64 (.ofNat 1)) :: [])))) (
 fun h16 => @bindP AV AV false (C 83 []) (fun v15 h17 => cond (Nat.ble h16.next h17.next && true) ((
 fun h19 => @bindP AV AV false (ldN 16 v0) (fun v18 h20 => cond ((AV.under h16.next v0 && true) && (sameS (ldN 16 v0) v18 h16 && true)) ((
 fun h22 => @bindP AV AV false (C 84 []) (fun v21 h23 => cond (Nat.ble h22.next h23.next && (AV.under h19.next v18 && (sameS (ldN 16 v0) v18 h23 && true))) ((
 @bindP AV AV false (nwMap) fun v24 =>
 @bindP AV AV false (bld [(.ptr none), (.int .i64 (.ofNat 0)), (.int .i64 (.ofNat 0)), (.int .i64 (.ofNat 0)), (.int .i64 (.ofNat 0)), (.int .i64 (.ofNat 0)), (.int .i64 (.ofNat 0)), (.int .i64 (.ofNat 0)), (.int .i64 (.ofNat 0)), (.int .i64 (.ofNat 0)), (.int .i64 (.ofNat 0)), (.int .i64 (.ofNat 0)), (.int .i64 (.ofNat 0)), (.int .i64 (.ofNat 0)), (.bool false), (.bool false), .snil, (.ptr none), (.ptr none), (.ptr none), (.int .i64 (.ofNat 0)), (.int .i64 (.ofNat 0)), (.int .i64 (.ofNat 0)), (.int .i64 (.ofNat 0)), (.bool false), (.bool false), (.bool false), (.bool false), (.bool false), (.map none), (.int .i64 (.ofNat 0)), (.int .i64 (.ofNat 0)), (.int .i64 (.ofNat 0)), (.int .i64 (.ofNat 0))] [(0, 1, v15), (1, 16, v18), (17, 1, a1), (18, 1, a2), (19, 1, v21), (21, 1, a3), (22, 1, a3), (29, 1, v24)]) fun v25 =>
 @bindP AV AV false (boxA v25) fun v26 =>
 @AM.ret AV (.tuple (v26 :: ((.int .i64 (.ofNat 0)) :: [])))) h23) .bad) h22) h20) .bad) h19) h17) .bad) h16)
/- usher/site.New -/
noncomputable def F41 (C : CallOp) (Lp : LoopOp) (a0 : AV) : AM AV :=
 @AM.bind AV AV (lenSl a0) fun v0 =>
 @AM.bind AV AV (bn Tryz.prog .gtr 3 true v0 (.int .i64 (.ofNat 40))) fun v1 =>
 @bcond AV v1 (
 @AM.ret AV (.tuple ((.ptr none) :: ((.int .i64 (.ofNat 1)) :: [])))) (
 @AM.bind AV AV (lenSl a0) fun v2 =>
 @AM.bind Ans AV (Lp (fun l3 =>
 (fun (v4 v5 v6 : AV) =>
 @AM.bind AV Ans (bn Tryz.prog .lss 3 false v6 v2) fun v7 =>
 @bcond Ans v7 (
 @AM.bind AV Ans (iaddrS 3 a0 v6) fun v8 =>
 @AM.bind AV Ans (ldN 3 v8) fun v9 =>
 @AM.bind AV Ans (nw [(.str []), (.str []), (.str [])]) fun v10 =>
 @AM.bind AV Ans (unit2 (stN 3 v10 v9)) fun _ =>
 @AM.bind AV Ans (ldN 3 v10) fun v11 =>
 @AM.bind AV Ans (C 85 [v11]) fun v12 =>
 @AM.bind AV Ans (un .not v12) fun v13 =>
 @bcond Ans v13 (
 @AM.ret Ans (1, [(.ptr none), (.int .i64 (.ofNat 1)), v6])) (
 @AM.bind AV Ans (bn Tryz.prog .add 3 true v6 (.int .i64 (.ofNat 1))) fun v14 =>
 @AM.ret Ans (0, [v4, v5, v14]))) (
 @AM.ret Ans (2, [v4, v5, v6]))) (g0 l3 0) (g0 l3 1) (g0 l3 2)) [(.ptr none), (.int .i64 (.ofNat 0)), (.int .i64 (.ofNat 0))]) fun r15 =>
 cond (Nat.beq r15.1 2) (
 (fun (v16 v17 v18 : AV) =>
 @AM.bind AV AV (C 86 []) fun v19 =>
 @AM.bind AV AV (C 87 [a0]) fun v20 =>
 @AM.bind AV AV (bld [(.ptr none), .snil] [(0, 1, v19), (1, 1, v20)]) fun v21 =>
 @AM.bind AV AV (boxA v21) fun v22 =>
 @AM.bind AV AV (nilC v22) fun v23 =>
 @AM.bind AV AV (faddr 0 v23) fun v24 =>
 @AM.bind AV AV (ld v24) fun v25 =>
 @AM.bind AV AV (bsl [(.str [])] [(0, 1, (.str [80,79,83,84]))] 1 1) fun v26 =>
 @AM.bind AV AV (C 88 [v25, (.str [47,101,99,104,111]), (.int .i64 (.ofNat 1)), v26]) fun v27 =>
 @AM.bind AV AV (nilC v22) fun v28 =>
 @AM.bind AV AV (faddr 0 v28) fun v29 =>
 @AM.bind AV AV (ld v29) fun v30 =>
 @AM.bind AV AV (bsl [(.str [])] [(0, 1, (.str [71,69,84]))] 1 1) fun v31 =>
 @AM.bind AV AV (C 88 [v30, (.str [47,107,101,121]), (.int .i64 (.ofNat 2)), v31]) fun v32 =>
 @AM.bind AV AV (nilC v22) fun v33 =>
 @AM.bind AV AV (faddr 0 v33) fun v34 =>
 @AM.bind AV AV (ld v34) fun v35 =>
 @AM.bind AV AV (bsl [(.str [])] [(0, 1, (.str [71,69,84]))] 1 1) fun v36 =>
 @AM.bind AV AV (C 88 [v35, (.str [47,115,116,97,116,117,115]), (.int .i64 (.ofNat 3)), v36]) fun v37 =>
 @AM.bind AV AV (lenSl a0) fun v38 =>
 @AM.bind Ans AV (Lp (fun l39 =>
 (fun (v40 v41 v42 : AV) =>
 @AM.bind AV Ans (bn Tryz.prog .lss 3 false v42 v38) fun v43 =>
 @bcond Ans v43 (
 @AM.bind AV Ans (iaddrS 3 a0 v42) fun v44 =>
 @AM.bind AV Ans (ldN 3 v44) fun v45 =>
 @AM.bind AV Ans (nw [(.str []), (.str []), (.str [])]) fun v46 =>
 @AM.bind AV Ans (unit2 (stN 3 v46 v45)) fun _ =>
 @bindP AV Ans false (nilC v22) fun v47 =>
 @bindP AV Ans false (faddr 0 v47) fun v48 =>
 @bindP AV Ans false (ld v48) fun v49 =>
 @bindP AV Ans false (faddr 0 v46) fun v50 =>
 @bindP AV Ans false (ld v50) fun v51 =>
 @bindP AV Ans false (bn Tryz.prog .add 3 true (.int .i64 (.ofNat 10)) v42) fun v52 =>
 @bindP AV Ans false (bsl [(.str [])] [(0, 1, (.str [71,69,84]))] 1 1) fun v53 =>
 @heavyA true (C 88 [v49, v51, v52, v53]) Ans fun v54 =>
 @AM.bind AV Ans (bn Tryz.prog .neq 76 true v54 (.int .i64 (.ofNat 0))) fun v55 =>
 @bcond Ans v55 (
 @AM.ret Ans (1, [(.ptr none), (.int .i64 (.ofNat 11)), v42])) (
 @AM.bind AV Ans (bn Tryz.prog .add 3 true v42 (.int .i64 (.ofNat 1))) fun v56 =>
 @AM.ret Ans (0, [v40, v41, v56]))) (
 @AM.ret Ans (4, [v40, v41, v42]))) (g0 l39 0) (g0 l39 1) (g0 l39 2)) [v16, v17, (.int .i64 (.ofNat 0))]) fun r57 =>
 cond (Nat.beq r57.1 4) (
 (fun (v58 v59 v60 : AV) =>
 @AM.bind AV AV (lenSl a0) fun v61 =>
 @AM.bind Ans AV (Lp (fun l62 =>
 (fun (v63 v64 v65 : AV) =>
 @AM.bind AV Ans (bn Tryz.prog .lss 3 false v65 v61) fun v66 =>
 @bcond Ans v66 (
 @AM.bind AV Ans (iaddrS 3 a0 v65) fun v67 =>
 @AM.bind AV Ans (ldN 3 v67) fun v68 =>
 @AM.bind AV Ans (nw [(.str []), (.str []), (.str [])]) fun v69 =>
 @AM.bind AV Ans (unit2 (stN 3 v69 v68)) fun _ =>
 @AM.bind AV Ans (faddr 0 v69) fun v70 =>
 @AM.bind AV Ans (ld v70) fun v71 =>
 @AM.bind AV Ans (bn Tryz.prog .eql 9 true v71 (.str [47,101,99,104,111])) fun v72 =>
 @bcond Ans v72 (
 @AM.ret Ans (1, [(.ptr none), (.int .i64 (.ofNat 11)), v65])) (
 @AM.bind AV Ans (bn Tryz.prog .add 3 true v65 (.int .i64 (.ofNat 1))) fun v73 =>
 @AM.ret Ans (0, [v63, v64, v73]))) (
 @AM.ret Ans (6, [v63, v64, v65]))) (g0 l62 0) (g0 l62 1) (g0 l62 2)) [v58, v59, (.int .i64 (.ofNat 0))]) fun r74 =>
 cond (Nat.beq r74.1 6) (
 (fun (v75 v76 v77 : AV) =>
 @AM.ret AV (.tuple (v22 :: ((.int .i64 (.ofNat 0)) :: [])))) (g0 r74.2 0) (g0 r74.2 1) (g0 r74.2 2)) (cond (Nat.beq r74.1 1) (
 (fun (v78 v79 v80 : AV) =>
 @AM.ret AV (.tuple (v78 :: (v79 :: [])))) (g0 r74.2 0) (g0 r74.2 1) (g0 r74.2 2)) (.bad))) (g0 r57.2 0) (g0 r57.2 1) (g0 r57.2 2)) (cond (Nat.beq r57.1 1) (
 (fun (v81 v82 v83 : AV) =>
 @AM.ret AV (.tuple (v81 :: (v82 :: [])))) (g0 r57.2 0) (g0 r57.2 1) (g0 r57.2 2)) (.bad))) (g0 r15.2 0) (g0 r15.2 1) (g0 r15.2 2)) (cond (Nat.beq r15.1 1) (
 (fun (v84 v85 v86 : AV) =>
 @AM.ret AV (.tuple (v84 :: (v85 :: [])))) (g0 r15.2 0) (g0 r15.2 1) (g0 r15.2 2)) (.bad)))
/- usher/ring.New -/
noncomputable def F42 (C : CallOp) (Lp : LoopOp) (a0 : AV) : AM AV :=
 @AM.bind AV AV (bn Tryz.prog .lss 3 true a0 (.int .i64 (.ofNat 1))) fun v0 =>
 @AM.bind AV AV (guardA v0 false (.ret a0)) fun v1 =>
 @AM.bind AV AV (guardA v0 false (bn Tryz.prog .gtr 3 true v1 (.int .i64 (.ofNat 65536)))) fun v2 =>
 @AM.bind AV AV (pickA v0 (.bool true) v2) fun v3 =>
 @bcond AV v3 (
 @AM.ret AV (.tuple ((.ptr none) :: ((.int .i64 (.ofNat 1)) :: [])))) (
 @AM.bind AV AV (makeSliceA Tryz.prog 22 a0 a0) fun v4 =>
 @AM.bind AV AV (bld [.snil, (.int .i64 (.ofNat 0)), (.int .i64 (.ofNat 0))] [(0, 1, v4)]) fun v5 =>
 @AM.bind AV AV (boxA v5) fun v6 =>
 @AM.ret AV (.tuple (v6 :: ((.int .i64 (.ofNat 0)) :: []))))
/- usher/usherref20.New -/
noncomputable def F43 (C : CallOp) (Lp : LoopOp) (a0 : AV) : AM AV :=
 @AM.bind AV AV (lenSl a0) fun v0 =>
 @AM.bind AV AV (bn Tryz.prog .gtr 3 true v0 (.int .i64 (.ofNat 40))) fun v1 =>
 @bcond AV v1 (
 @AM.ret AV (.tuple ((.ptr none) :: ((.int .i64 (.ofNat 1)) :: [])))) (
 @AM.bind Ans AV (Lp (fun l2 =>
 (fun (v3 v4 v5 : AV) =>
 @AM.bind AV Ans (lenSl a0) fun v6 =>
 @AM.bind AV Ans (bn Tryz.prog .lss 3 false v5 v6) fun v7 =>
 @bcond Ans v7 (
 @AM.bind AV Ans (iaddrS 3 a0 v5) fun v8 =>
 @AM.bind AV Ans (ldN 3 v8) fun v9 =>
 @AM.bind AV Ans (nw [(.str []), (.str []), (.str [])]) fun v10 =>
 @AM.bind AV Ans (unit2 (stN 3 v10 v9)) fun _ =>
 @bindP AV Ans false (faddr 0 v10) fun v11 =>
 @bindP AV Ans false (ld v11) fun v12 =>
 @heavyA true (C 89 [v12]) Ans fun v13 =>
 @bindP AV Ans false (un .not v13) fun v14 =>
 @bindP AV Ans false (guardA v14 false (faddr 1 v10)) fun v15 =>
 @bindP AV Ans false (guardA v14 false (ld v15)) fun v16 =>
 @bindP AV Ans false (guardA v14 false (bn Tryz.prog .eql 9 true v16 (.str []))) fun v17 =>
 @bindP AV Ans false (pickA v14 (.bool true) v17) fun v18 =>
 @bindP AV Ans false (guardA v18 false (faddr 1 v10)) fun v19 =>
 @bindP AV Ans false (guardA v18 false (ld v19)) fun v20 =>
 @bindP AV Ans false (guardA v18 false (lenStr v20)) fun v21 =>
 @bindP AV Ans false (guardA v18 false (bn Tryz.prog .gtr 3 true v21 (.int .i64 (.ofNat 100)))) fun v22 =>
 @bindP AV Ans false (pickA v18 (.bool true) v22) fun v23 =>
 @bindP AV Ans false (guardA v23 false (faddr 1 v10)) fun v24 =>
 @bindP AV Ans false (guardA v23 false (ld v24)) fun v25 =>
 @heavyA true (guardA v23 false (C 90 [v25])) Ans fun v26 =>
 @bindP AV Ans false (guardA v23 false (un .not v26)) fun v27 =>
 @bindP AV Ans false (pickA v23 (.bool true) v27) fun v28 =>
 @bindP AV Ans false (guardA v28 false (faddr 1 v10)) fun v29 =>
 @bindP AV Ans false (guardA v28 false (ld v29)) fun v30 =>
 fun h32 => @bindP AV Ans false (guardA v28 false (C 91 [v30])) (fun v31 h33 => cond (Nat.ble h32.next h33.next && true) ((
 @bindP AV Ans false (guardA v28 false (faddr 1 v10)) fun v34 =>
 fun h36 => @bindP AV Ans false (guardA v28 false (ld v34)) (fun v35 h37 => cond ((AV.under h32.next v34 && (AV.under h32.next v28 && true)) && (sameS (guardA v28 false (ld v34)) v35 h32 && true)) ((
 @bindP AV Ans false (guardA v28 false (bn Tryz.prog .neq 9 false v31 v35)) fun v38 =>
 @bindP AV Ans false (pickA v28 (.bool true) v38) fun v39 =>
 @bindP AV Ans false (guardA v39 false (faddr 2 v10)) fun v40 =>
 @bindP AV Ans false (guardA v39 false (ld v40)) fun v41 =>
 @bindP AV Ans false (guardA v39 false (lenStr v41)) fun v42 =>
 @bindP AV Ans false (guardA v39 false (bn Tryz.prog .gtr 3 true v42 (.int .i64 (.ofNat 2048)))) fun v43 =>
 @bindP AV Ans false (pickA v39 (.bool true) v43) fun v44 =>
 @bcond Ans v44 (
 @AM.ret Ans (1, [(.ptr none), (.int .i64 (.ofNat 1)), v5])) (
 @AM.bind AV Ans (bn Tryz.prog .add 3 true v5 (.int .i64 (.ofNat 1))) fun v45 =>
 @AM.ret Ans (0, [v3, v4, v45]))) h37) .bad) h36) h33) .bad) h32) (
 @AM.ret Ans (2, [v3, v4, v5]))) (g0 l2 0) (g0 l2 1) (g0 l2 2)) [(.ptr none), (.int .i64 (.ofNat 0)), (.int .i64 (.ofNat 0))]) fun r46 =>
 cond (Nat.beq r46.1 2) (
 (fun (v47 v48 v49 : AV) =>
 @AM.bind AV AV (AM.ret .szero) fun v50 =>
 @AM.bind AV AV (apnd 3 v50 a0) fun v51 =>
 @AM.bind AV AV (bld [.snil, .snil] [(1, 1, v51)]) fun v52 =>
 @AM.bind AV AV (boxA v52) fun v53 =>
 @AM.bind AV AV (nilC v53) fun v54 =>
 @AM.bind AV AV (faddr 0 v54) fun v55 =>
 @AM.bind AV AV (bsl [(.str [])] [(0, 1, (.str [80,79,83,84]))] 1 1) fun v56 =>
 @AM.bind AV AV (C 92 [v55, (.str [47,101,99,104,111]), (.int .i64 (.ofNat 1)), v56]) fun v57 =>
 @AM.bind AV AV (nilC v53) fun v58 =>
 @AM.bind AV AV (faddr 0 v58) fun v59 =>
 @AM.bind AV AV (bsl [(.str [])] [(0, 1, (.str [71,69,84]))] 1 1) fun v60 =>
 @AM.bind AV AV (C 92 [v59, (.str [47,107,101,121]), (.int .i64 (.ofNat 2)), v60]) fun v61 =>
 @AM.bind AV AV (nilC v53) fun v62 =>
 @AM.bind AV AV (faddr 0 v62) fun v63 =>
 @AM.bind AV AV (bsl [(.str [])] [(0, 1, (.str [71,69,84]))] 1 1) fun v64 =>
 @AM.bind AV AV (C 92 [v63, (.str [47,115,116,97,116,117,115]), (.int .i64 (.ofNat 3)), v64]) fun v65 =>
 @AM.bind Ans AV (Lp (fun l66 =>
 (fun (v67 v68 v69 : AV) =>
 @AM.bind AV Ans (lenSl a0) fun v70 =>
 @AM.bind AV Ans (bn Tryz.prog .lss 3 false v69 v70) fun v71 =>
 @bcond Ans v71 (
 @AM.bind Ans Ans (Lp (fun l72 =>
 (fun (v73 v74 v75 : AV) =>
 @AM.bind AV Ans (nilC v53) fun v76 =>
 @AM.bind AV Ans (faddr 0 v76) fun v77 =>
 @AM.bind AV Ans (faddr 0 v77) fun v78 =>
 @AM.bind AV Ans (ld v78) fun v79 =>
 @AM.bind AV Ans (lenSl v79) fun v80 =>
 @AM.bind AV Ans (bn Tryz.prog .lss 3 false v75 v80) fun v81 =>
 @bcond Ans v81 (
 @bindP AV Ans false (nilC v53) fun v82 =>
 @bindP AV Ans false (faddr 0 v82) fun v83 =>
 @bindP AV Ans false (faddr 0 v83) fun v84 =>
 @bindP AV Ans false (ld v84) fun v85 =>
 @bindP AV Ans false (iaddrS 3 v85 v75) fun v86 =>
 @bindP AV Ans false (faddr 0 v86) fun v87 =>
 @bindP AV Ans false (ld v87) fun v88 =>
 @bindP AV Ans false (iaddrS 3 a0 v69) fun v89 =>
 @bindP AV Ans false (faddr 0 v89) fun v90 =>
 @bindP AV Ans false (ld v90) fun v91 =>
 @bindP AV Ans false (bn Tryz.prog .eql 9 false v88 v91) fun v92 =>
 @bcond Ans v92 (
 @AM.ret Ans (1, [(.ptr none), (.int .i64 (.ofNat 11)), v75])) (
 @AM.bind AV Ans (bn Tryz.prog .add 3 true v75 (.int .i64 (.ofNat 1))) fun v93 =>
 @AM.ret Ans (0, [v73, v74, v93]))) (
 @AM.ret Ans (6, [v73, v74, v75]))) (g0 l72 0) (g0 l72 1) (g0 l72 2)) [v67, v68, (.int .i64 (.ofNat 0))]) fun r94 =>
 cond (Nat.beq r94.1 6) (
 (fun (v95 v96 v97 : AV) =>
 @bindP AV Ans false (nilC v53) fun v98 =>
 @bindP AV Ans false (faddr 0 v98) fun v99 =>
 @bindP AV Ans false (iaddrS 3 a0 v69) fun v100 =>
 @bindP AV Ans false (faddr 0 v100) fun v101 =>
 @bindP AV Ans false (ld v101) fun v102 =>
 @bindP AV Ans false (bn Tryz.prog .add 3 true (.int .i64 (.ofNat 10)) v69) fun v103 =>
 @bindP AV Ans false (bsl [(.str [])] [(0, 1, (.str [71,69,84]))] 1 1) fun v104 =>
 @heavyA true (C 92 [v99, v102, v103, v104]) Ans fun v105 =>
 @AM.bind AV Ans (bn Tryz.prog .add 3 true v69 (.int .i64 (.ofNat 1))) fun v106 =>
 @AM.ret Ans (0, [v95, v96, v106])) (g0 r94.2 0) (g0 r94.2 1) (g0 r94.2 2)) (cond (Nat.beq r94.1 1) (
 (fun (v107 v108 v109 : AV) =>
 @AM.ret Ans (1, [v107, v108, v69])) (g0 r94.2 0) (g0 r94.2 1) (g0 r94.2 2)) (.bad))) (
 @AM.ret Ans (4, [v67, v68, v69]))) (g0 l66 0) (g0 l66 1) (g0 l66 2)) [v47, v48, (.int .i64 (.ofNat 0))]) fun r110 =>
 cond (Nat.beq r110.1 4) (
 (fun (v111 v112 v113 : AV) =>
 @AM.ret AV (.tuple (v53 :: ((.int .i64 (.ofNat 0)) :: [])))) (g0 r110.2 0) (g0 r110.2 1) (g0 r110.2 2)) (cond (Nat.beq r110.1 1) (
 (fun (v114 v115 v116 : AV) =>
 @AM.ret AV (.tuple (v114 :: (v115 :: [])))) (g0 r110.2 0) (g0 r110.2 1) (g0 r110.2 2)) (.bad))) (g0 r46.2 0) (g0 r46.2 1) (g0 r46.2 2)) (cond (Nat.beq r46.1 1) (
 (fun (v117 v118 v119 : AV) =>
 @AM.ret AV (.tuple (v117 :: (v118 :: [])))) (g0 r46.2 0) (g0 r46.2 1) (g0 r46.2 2)) (.bad)))
/- usher/usherref3.New -/
noncomputable def F44 (C : CallOp) (Lp : LoopOp) (a0 : AV) : AM AV :=
 @AM.bind AV AV (bn Tryz.prog .lss 3 true a0 (.int .i64 (.ofNat 1))) fun v0 =>
 @AM.bind AV AV (guardA v0 false (.ret a0)) fun v1 =>
 @AM.bind AV AV (guardA v0 false (bn Tryz.prog .gtr 3 true v1 (.int .i64 (.ofNat 65536)))) fun v2 =>
 @AM.bind AV AV (pickA v0 (.bool true) v2) fun v3 =>
 @bcond AV v3 (
 @AM.ret AV (.tuple ((.ptr none) :: ((.int .i64 (.ofNat 1)) :: [])))) (
 @AM.bind AV AV (bld [(.int .i64 (.ofNat 0)), .snil] [(0, 1, a0)]) fun v4 =>
 @AM.bind AV AV (boxA v4) fun v5 =>
 @AM.ret AV (.tuple (v5 :: ((.int .i64 (.ofNat 0)) :: []))))
/- usher/usherref21.New -/
noncomputable def F45 (C : CallOp) (Lp : LoopOp) (a0 a1 a2 a3 : AV) : AM AV :=
 @AM.bind AV AV (boxA a0) fun v0 =>
 @AM.bind AV AV (bn Tryz.prog .eql 84 true a1 (.ptr none)) fun v1 =>
 @AM.bind AV AV (guardA v1 false (.ret a2)) fun v2 =>
 @AM.bind AV AV (guardA v1 false (bn Tryz.prog .eql 87 true v2 (.ptr none))) fun v3 =>
 @AM.bind AV AV (pickA v1 (.bool true) v3) fun v4 =>
 @AM.bind AV AV (guardA v4 false (ldN 16 v0)) fun v5 =>
 @AM.bind AV AV (guardA v4 false (C 93 [v5])) fun v6 =>
 @AM.bind AV AV (guardA v4 false (un .not v6)) fun v7 =>
 @AM.bind AV AV (pickA v4 (.bool true) v7) fun v8 =>
 @AM.bind AV AV (guardA v8 false (.ret a3)) fun v9 =>
 @AM.bind AV AV (guardA v8 false (bn Tryz.prog .lss 3 true v9 (.int .i64 (.ofNat 0)))) fun v10 =>
 @AM.bind AV AV (pickA v8 (.bool true) v10) fun v11 =>
 @bcond AV v11 (
 @AM.ret AV (.tuple ((.ptr none) :: ((.int .i64 (.ofNat 1)) :: [])))) (
 @AM.bind AV AV (bld [.snil, .snil, (.int .i64 (.ofNat 0)), (.int .i64 (.ofNat 0)), (.int .i64 (.ofNat 0))] []) fun v12 =>
 @AM.bind AV AV (boxA v12) fun v13 =>
 @AM.bind AV AV (ldN 16 v0) fun v14 =>
 @AM.bind AV AV (bld [(.int .i64 (.ofNat 0)), (.int .i64 (.ofNat 0)), (.ptr none), .snil, (.int .i64 (.ofNat 0)), (.int .i64 (.ofNat 0)), (.bool false), (.bool false), .snil, (.ptr none), (.bool false)] []) fun v15 =>
 @AM.bind AV AV (boxA v15) fun v16 =>
 @AM.bind AV AV (bld [(.ptr none), (.int .i64 (.ofNat 0)), (.int .i64 (.ofNat 0)), (.int .i64 (.ofNat 0)), (.int .i64 (.ofNat 0)), (.int .i64 (.ofNat 0)), (.int .i64 (.ofNat 0)), (.int .i64 (.ofNat 0)), (.int .i64 (.ofNat 0)), (.int .i64 (.ofNat 0)), (.int .i64 (.ofNat 0)), (.int .i64 (.ofNat 0)), (.int .i64 (.ofNat 0)), (.int .i64 (.ofNat 0)), (.bool false), (.bool false), .snil, (.ptr none), (.ptr none), (.ptr none), (.bool false), (.bool false), (.bool false), (.bool false), (.bool false), .snil, (.int .i64 (.ofNat 0)), (.int .i64 (.ofNat 0)), (.int .i64 (.ofNat 0)), (.int .i64 (.ofNat 0)), (.int .i64 (.ofNat 0)), (.int .i64 (.ofNat 0))] [(0, 1, v13), (1, 16, v14), (17, 1, a1), (18, 1, a2), (19, 1, v16), (26, 1, a3), (27, 1, a3)]) fun v17 =>
 @AM.bind AV AV (boxA v17) fun v18 =>
 @AM.ret AV (.tuple (v18 :: ((.int .i64 (.ofNat 0)) :: []))))
/- (*usher/conn.Conn).does -/
noncomputable def F46 (C : CallOp) (Lp : LoopOp) (a0 a1 a2 : AV) : AM AV :=
 @bindP AV AV false (nilC a0) fun v0 =>
 @bindP AV AV false (faddr 20 v0) fun v1 =>
 @bindP AV AV false (ld v1) fun v2 =>
 @bindP AV AV false (nilC a0) fun v3 =>
 @bindP AV AV false (faddr 33 v3) fun v4 =>
 @bindP AV AV false (ld v4) fun v5 =>
 @AM.bind AV AV (callA C a2 []) fun v6 =>
 @AM.bind AV AV (C 49 [a0]) fun v7 =>
 @AM.bind AV AV (C 94 [a0]) fun v8 =>
 @AM.bind AV AV (nilC a0) fun v9 =>
 @AM.bind AV AV (faddr 20 v9) fun v10 =>
 @AM.bind AV AV (unit2 (st v10 v8)) fun _ =>
 @AM.bind AV AV (nilC a0) fun v11 =>
 @AM.bind AV AV (faddr 20 v11) fun v12 =>
 @AM.bind AV AV (ld v12) fun v13 =>
 @AM.bind AV AV (bn Tryz.prog .neq 3 false v13 v2) fun v14 =>
 @AM.bind AV AV (guardA v14 false (.ret a0)) fun v15 =>
 @AM.bind AV AV (guardA v14 false (nilC v15)) fun v16 =>
 @AM.bind AV AV (guardA v14 false (faddr 20 v16)) fun v17 =>
 @AM.bind AV AV (guardA v14 false (ld v17)) fun v18 =>
 @AM.bind AV AV (guardA v14 false (bn Tryz.prog .eql 3 true v18 (.int .i64 (.ofNat 3)))) fun v19 =>
 @AM.bind AV AV (guardA v14 false (.ret v19)) fun v20 =>
 @AM.bind AV AV (guardA v20 true (.ret a0)) fun v21 =>
 @AM.bind AV AV (guardA v20 true (nilC v21)) fun v22 =>
 @AM.bind AV AV (guardA v20 true (faddr 33 v22)) fun v23 =>
 @AM.bind AV AV (guardA v20 true (ld v23)) fun v24 =>
 @AM.bind AV AV (guardA v20 true (.ret v5)) fun v25 =>
 @AM.bind AV AV (guardA v20 true (bn Tryz.prog .neq 3 false v24 v25)) fun v26 =>
 @AM.bind AV AV (guardA v14 false (pickA v20 v26 (.bool false))) fun v27 =>
 @AM.bind AV AV (pickA v14 (.bool true) v27) fun v28 =>
 @bcond AV v28 (
 @AM.bind AV AV (nilC a0) fun v29 =>
 @AM.bind AV AV (faddr 21 v29) fun v30 =>
 @AM.bind AV AV (unit2 (st v30 a1)) fun _ =>
 @AM.bind AV AV (nilC a0) fun v31 =>
 @AM.bind AV AV (faddr 22 v31) fun v32 =>
 @AM.bind AV AV (unit2 (st v32 a1)) fun _ =>
 @AM.bind AV AV (nilC a0) fun v33 =>
 @AM.bind AV AV (faddr 23 v33) fun v34 =>
 @AM.bind AV AV (unit2 (st v34 (.int .i64 (.ofNat 0)))) fun _ =>
 @AM.ret AV (.tuple [])) (
 @AM.ret AV (.tuple []))
/- (*usher/conn.Conn).Push$1 -/
noncomputable def F47 (C : CallOp) (Lp : LoopOp) (a0 a1 a2 : AV) : AM AV :=
 @AM.bind Ans AV (Lp (fun _ =>
 @bindP AV Ans false (ld a0) fun v1 =>
 @bindP AV Ans false (nilC v1) fun v2 =>
 @bindP AV Ans false (faddr 18 v2) fun v3 =>
 @bindP AV Ans false (ld v3) fun v4 =>
 @bindP AV Ans false (ld a1) fun v5 =>
 @bindP AV Ans false (ld a2) fun v6 =>
 @bindP AV Ans false (sliceA Tryz.prog 22 v5 (some v6) none none) fun v7 =>
 @bindP AV Ans false (bsl [.snil] [(0, 1, v7)] 1 1) fun v8 =>
 @heavyA true (C 48 [v4, v8]) Ans fun v9 =>
 @AM.bind AV Ans (ld a2) fun v10 =>
 @AM.bind AV Ans (bn Tryz.prog .add 3 false v10 v9) fun v11 =>
 @AM.bind AV Ans (unit2 (st a2 v11)) fun _ =>
 @AM.bind AV Ans (ld a0) fun v12 =>
 @AM.bind AV Ans (C 49 [v12]) fun v13 =>
 @AM.bind AV Ans (ld a0) fun v14 =>
 @AM.bind AV Ans (nilC v14) fun v15 =>
 @AM.bind AV Ans (faddr 25 v15) fun v16 =>
 @AM.bind AV Ans (ld v16) fun v17 =>
 @AM.bind AV Ans (guardA v17 false (ld a0)) fun v18 =>
 @AM.bind AV Ans (guardA v17 false (nilC v18)) fun v19 =>
 @AM.bind AV Ans (guardA v17 false (faddr 27 v19)) fun v20 =>
 @AM.bind AV Ans (guardA v17 false (ld v20)) fun v21 =>
 @AM.bind AV Ans (pickA v17 (.bool true) v21) fun v22 =>
 @AM.bind Ans Ans (@bcond Ans v22 (
 @AM.bind AV Ans (ld a1) fun v23 =>
 @AM.bind AV Ans (lenSl v23) fun v24 =>
 @AM.bind AV Ans (unit2 (st a2 v24)) fun _ =>
 @AM.ret Ans (0, [])) (
 @AM.ret Ans (0, []))) fun r25 =>
 cond (Nat.beq r25.1 0) (
 @AM.bind AV Ans (bn Tryz.prog .eql 3 true v9 (.int .i64 (.ofNat 0))) fun v26 =>
 @AM.bind AV Ans (guardA v26 false (ld a2)) fun v27 =>
 @AM.bind AV Ans (guardA v26 false (ld a1)) fun v28 =>
 @AM.bind AV Ans (guardA v26 false (lenSl v28)) fun v29 =>
 @AM.bind AV Ans (guardA v26 false (bn Tryz.prog .eql 3 false v27 v29)) fun v30 =>
 @AM.bind AV Ans (pickA v26 (.bool true) v30) fun v31 =>
 @bcond Ans v31 (
 @AM.ret Ans (1, [])) (
 @AM.ret Ans (0, []))) (.bad)) []) fun r32 =>
 cond (Nat.beq r32.1 1) (
 @AM.ret AV (.tuple [])) (.bad)
/- (*usher/ring.Ring).Write -/
noncomputable def F48 (C : CallOp) (Lp : LoopOp) (a0 a1 : AV) : AM AV :=
 @AM.bind AV AV (lenSl a1) fun v0 =>
 @AM.bind Ans AV (Lp (fun l1 =>
 (fun (v2 v3 : AV) =>
 @AM.bind AV Ans (bn Tryz.prog .lss 3 false v3 v0) fun v4 =>
 @bcond Ans v4 (
 @AM.bind AV Ans (iaddrS 1 a1 v3) fun v5 =>
 @AM.bind AV Ans (ld v5) fun v6 =>
 @AM.bind AV Ans (lenSl v6) fun v7 =>
 @AM.bind AV Ans (C 59 [a0]) fun v8 =>
 @AM.bind AV Ans (ofOpt (minA v7 [v8])) fun v9 =>
 @AM.bind AV Ans (sliceA Tryz.prog 22 v6 none (some v9) none) fun v10 =>
 @AM.bind AV Ans (lenSl v10) fun v11 =>
 @AM.bind Ans Ans (Lp (fun l12 =>
 (fun (v13 : AV) =>
 @AM.bind AV Ans (bn Tryz.prog .lss 3 false v13 v11) fun v14 =>
 @bcond Ans v14 (
 @AM.bind AV Ans (iaddrS 1 v10 v13) fun v15 =>
 @AM.bind AV Ans (ld v15) fun v16 =>
 @bindP AV Ans false (nilC a0) fun v17 =>
 @bindP AV Ans false (faddr 0 v17) fun v18 =>
 fun h20 => @bindP AV Ans false (ld v18) (fun v19 =>
 @bindP AV Ans false (nilC a0) fun v22 =>
 @bindP AV Ans false (faddr 2 v22) fun v23 =>
 @bindP AV Ans false (ld v23) fun v24 =>
 fun h26 => @bindP AV Ans true (C 95 [a0, v24]) (fun v25 h27 => cond (Nat.ble h26.next h27.next && (AV.under h20.next v19 && (sameS (ld v18) v19 h27 && true))) ((
 @bindP AV Ans false (iaddrS 1 v19 v25) fun v28 =>
 @heavyA true (unit2 (st v28 v16)) Ans fun _ =>
 @AM.bind AV Ans (nilC a0) fun v29 =>
 @AM.bind AV Ans (faddr 2 v29) fun v30 =>
 @AM.bind AV Ans (ld v30) fun v31 =>
 @AM.bind AV Ans (bn Tryz.prog .add 3 true v31 (.int .i64 (.ofNat 1))) fun v32 =>
 @AM.bind AV Ans (nilC a0) fun v33 =>
 @AM.bind AV Ans (faddr 2 v33) fun v34 =>
 @AM.bind AV Ans (unit2 (st v34 v32)) fun _ =>
 @AM.bind AV Ans (bn Tryz.prog .add 3 true v13 (.int .i64 (.ofNat 1))) fun v35 =>
 @AM.ret Ans (0, [v35])) h27) .bad) h26) h20) (
 @AM.ret Ans (4, [v13]))) (g0 l12 0)) [(.int .i64 (.ofNat 0))]) fun r36 =>
 cond (Nat.beq r36.1 4) (
 (fun (v37 : AV) =>
 @AM.bind AV Ans (lenSl v10) fun v38 =>
 @AM.bind AV Ans (bn Tryz.prog .add 3 false v2 v38) fun v39 =>
 @AM.bind AV Ans (bn Tryz.prog .add 3 true v3 (.int .i64 (.ofNat 1))) fun v40 =>
 @AM.ret Ans (0, [v39, v40])) (g0 r36.2 0)) (.bad)) (
 @AM.ret Ans (2, [v2, v3]))) (g0 l1 0) (g0 l1 1)) [(.int .i64 (.ofNat 0)), (.int .i64 (.ofNat 0))]) fun r41 =>
 cond (Nat.beq r41.1 2) (
 (fun (v42 v43 : AV) =>
 @AM.ret AV v42) (g0 r41.2 0) (g0 r41.2 1)) (.bad)
/- (*usher/conn.Conn).works -/
noncomputable def F49 (C : CallOp) (Lp : LoopOp) (a0 : AV) : AM AV :=
 @AM.bind Ans AV (Lp (fun _ =>
 @AM.bind AV Ans (nilC a0) fun v1 =>
 @AM.bind AV Ans (faddr 27 v1) fun v2 =>
 @AM.bind AV Ans (ld v2) fun v3 =>
 @AM.bind AV Ans (un .not v3) fun v4 =>
 @AM.bind AV Ans (guardA v4 true (.ret a0)) fun v5 =>
 @AM.bind AV Ans (guardA v4 true (C 96 [v5])) fun v6 =>
 @AM.bind AV Ans (pickA v4 v6 (.bool false)) fun v7 =>
 @bcond Ans v7 (
 @AM.ret Ans (0, [])) (
 @AM.ret Ans (2, []))) []) fun r8 =>
 cond (Nat.beq r8.1 2) (
 @AM.bind AV AV (nilC a0) fun v9 =>
 @AM.bind AV AV (faddr 0 v9) fun v10 =>
 @AM.bind AV AV (ld v10) fun v11 =>
 @AM.bind AV AV (C 16 [v11]) fun v12 =>
 @AM.bind AV AV (bn Tryz.prog .gtr 3 true v12 (.int .i64 (.ofNat 0))) fun v13 =>
 @AM.bind AV AV (guardA v13 false (.ret a0)) fun v14 =>
 @AM.bind AV AV (guardA v13 false (nilC v14)) fun v15 =>
 @AM.bind AV AV (guardA v13 false (faddr 27 v15)) fun v16 =>
 @AM.bind AV AV (guardA v13 false (ld v16)) fun v17 =>
 @AM.bind AV AV (pickA v13 (.bool true) v17) fun v18 =>
 @bcond AV v18 (
 @AM.ret AV (.tuple [])) (
 @AM.bind AV AV (nilC a0) fun v19 =>
 @AM.bind AV AV (faddr 26 v19) fun v20 =>
 @AM.bind AV AV (ld v20) fun v21 =>
 @AM.bind AV AV (guardA v21 false (.ret a0)) fun v22 =>
 @AM.bind AV AV (guardA v21 false (nilC v22)) fun v23 =>
 @AM.bind AV AV (guardA v21 false (faddr 24 v23)) fun v24 =>
 @AM.bind AV AV (guardA v21 false (ld v24)) fun v25 =>
 @AM.bind AV AV (guardA v21 false (.ret v25)) fun v26 =>
 @AM.bind AV AV (guardA v26 true (.ret a0)) fun v27 =>
 @AM.bind AV AV (guardA v26 true (nilC v27)) fun v28 =>
 @AM.bind AV AV (guardA v26 true (faddr 25 v28)) fun v29 =>
 @AM.bind AV AV (guardA v26 true (ld v29)) fun v30 =>
 @AM.bind AV AV (guardA v26 true (un .not v30)) fun v31 =>
 @AM.bind AV AV (guardA v21 false (pickA v26 v31 (.bool false))) fun v32 =>
 @AM.bind AV AV (guardA v21 false (.ret v32)) fun v33 =>
 @AM.bind AV AV (guardA v33 true (.ret a0)) fun v34 =>
 @AM.bind AV AV (guardA v33 true (nilC v34)) fun v35 =>
 @AM.bind AV AV (guardA v33 true (faddr 19 v35)) fun v36 =>
 @AM.bind AV AV (guardA v33 true (ld v36)) fun v37 =>
 @AM.bind AV AV (guardA v33 true (C 97 [v37])) fun v38 =>
 @AM.bind AV AV (guardA v33 true (bn Tryz.prog .eql 3 true v38 (.int .i64 (.ofNat 0)))) fun v39 =>
 @AM.bind AV AV (guardA v21 false (pickA v33 v39 (.bool false))) fun v40 =>
 @AM.bind AV AV (guardA v21 false (.ret v40)) fun v41 =>
 @AM.bind AV AV (guardA v41 true (.ret a0)) fun v42 =>
 @AM.bind AV AV (guardA v41 true (nilC v42)) fun v43 =>
 @AM.bind AV AV (guardA v41 true (faddr 18 v43)) fun v44 =>
 @AM.bind AV AV (guardA v41 true (ld v44)) fun v45 =>
 @AM.bind AV AV (guardA v41 true (C 98 [v45])) fun v46 =>
 @AM.bind AV AV (guardA v41 true (bn Tryz.prog .eql 3 true v46 (.int .i64 (.ofNat 0)))) fun v47 =>
 @AM.bind AV AV (guardA v21 false (pickA v41 v47 (.bool false))) fun v48 =>
 @AM.bind AV AV (pickA v21 (.bool true) v48) fun v49 =>
 @AM.bind AV AV (nilC a0) fun v50 =>
 @AM.bind AV AV (faddr 27 v50) fun v51 =>
 @AM.bind AV AV (unit2 (st v51 v49)) fun _ =>
 @AM.ret AV (.tuple []))) (.bad)
/- bytes.Clone -/
noncomputable def F50 (C : CallOp) (Lp : LoopOp) (a0 : AV) : AM AV :=
 @AM.bind AV AV (bn Tryz.prog .eql 22 true a0 .snil) fun v0 =>
 @bcond AV v0 (
 @AM.ret AV .snil) (
 @AM.bind AV AV (AM.ret .szero) fun v1 =>
 @AM.bind AV AV (apnd 1 v1 a0) fun v2 =>
 @AM.ret AV v2)
/- (*usher/outq.Queue).first -/
noncomputable def F51 (C : CallOp) (Lp : LoopOp) (a0 a1 : AV) : AM AV :=
 @AM.bind AV AV (bn Tryz.prog .eql 38 true a0 (.ptr none)) fun v0 =>
 @bcond AV v0 (
 @AM.ret AV .snil) (
 @bindP AV AV false (nilC a0) fun v1 =>
 @bindP AV AV false (faddr 0 v1) fun v2 =>
 @bindP AV AV false (ld v2) fun v3 =>
 @bindP AV AV false (nilC a0) fun v4 =>
 @bindP AV AV false (faddr 0 v4) fun v5 =>
 @bindP AV AV false (ld v5) fun v6 =>
 @bindP AV AV false (lenSl v6) fun v7 =>
 @bindP AV AV false (ofOpt (minA a1 [v7])) fun v8 =>
 @bindP AV AV false (ofOpt (maxA (.int .i64 (.ofNat 0)) [v8])) fun v9 =>
 @bindP AV AV false (sliceA Tryz.prog 22 v3 none (some v9) none) fun v10 =>
 @AM.ret AV v10)
/- (*usher/conn.Conn).Wrote$1 -/
noncomputable def F52 (C : CallOp) (Lp : LoopOp) (a0 a1 : AV) : AM AV :=
 @bindP AV AV false (ld a0) fun v0 =>
 @bindP AV AV false (nilC v0) fun v1 =>
 @bindP AV AV false (faddr 0 v1) fun v2 =>
 @bindP AV AV false (ld v2) fun v3 =>
 @bindP AV AV false (ld a1) fun v4 =>
 @heavyA true (C 53 [v3, v4]) AV fun v5 =>
 @bindP AV AV false (lenSl v5) fun v6 =>
 @AM.bind Ans AV (Lp (fun l7 =>
 (fun (v8 : AV) =>
 @AM.bind AV Ans (bn Tryz.prog .lss 3 false v8 v6) fun v9 =>
 @bcond Ans v9 (
 @AM.bind AV Ans (iaddrS 1 v5 v8) fun v10 =>
 @AM.bind AV Ans (ld v10) fun v11 =>
 @AM.bind AV Ans (ld a0) fun v12 =>
 @AM.bind AV Ans (nilC v12) fun v13 =>
 @AM.bind AV Ans (faddr 33 v13) fun v14 =>
 @AM.bind AV Ans (ld v14) fun v15 =>
 @AM.bind AV Ans (bn Tryz.prog .add 3 true v15 (.int .i64 (.ofNat 1))) fun v16 =>
 @AM.bind AV Ans (nilC v12) fun v17 =>
 @AM.bind AV Ans (faddr 33 v17) fun v18 =>
 @AM.bind AV Ans (unit2 (st v18 v16)) fun _ =>
 @AM.bind AV Ans (ld a0) fun v19 =>
 @AM.bind AV Ans (nilC v19) fun v20 =>
 @AM.bind AV Ans (faddr 29 v20) fun v21 =>
 @AM.bind AV Ans (ld v21) fun v22 =>
 @AM.bind AV Ans (lookA Tryz.prog 42 v22 v11 false) fun v23 =>
 @AM.bind Ans Ans (@bcond Ans v23 (
 @AM.bind AV Ans (ld a0) fun v24 =>
 @AM.bind AV Ans (nilC v24) fun v25 =>
 @AM.bind AV Ans (faddr 29 v25) fun v26 =>
 @AM.bind AV Ans (ld v26) fun v27 =>
 @AM.bind AV Ans (mdelA Tryz.prog 42 v27 v11) fun _ =>
 @AM.ret Ans (0, [])) (
 @AM.bind AV Ans (ld a0) fun v28 =>
 @AM.bind AV Ans (nilC v28) fun v29 =>
 @AM.bind AV Ans (faddr 32 v29) fun v30 =>
 @AM.bind AV Ans (ld v30) fun v31 =>
 @AM.bind AV Ans (bn Tryz.prog .add 3 true v31 (.int .i64 (.ofNat 1))) fun v32 =>
 @AM.bind AV Ans (nilC v28) fun v33 =>
 @AM.bind AV Ans (faddr 32 v33) fun v34 =>
 @AM.bind AV Ans (unit2 (st v34 v32)) fun _ =>
 @AM.ret Ans (0, []))) fun r35 =>
 cond (Nat.beq r35.1 0) (
 @AM.bind AV Ans (bn Tryz.prog .add 3 true v8 (.int .i64 (.ofNat 1))) fun v36 =>
 @AM.ret Ans (0, [v36])) (.bad)) (
 @AM.ret Ans (2, [v8]))) (g0 l7 0)) [(.int .i64 (.ofNat 0))]) fun r37 =>
 cond (Nat.beq r37.1 2) (
 (fun (v38 : AV) =>
 @AM.ret AV (.tuple [])) (g0 r37.2 0)) (.bad)
/- (*usher/outq.Queue).Done -/
noncomputable def F53 (C : CallOp) (Lp : LoopOp) (a0 a1 : AV) : AM AV :=
 @AM.bind AV AV (bn Tryz.prog .eql 38 true a0 (.ptr none)) fun v0 =>
 @bcond AV v0 (
 @AM.ret AV .snil) (
 @AM.bind AV AV (C 51 [a0, a1]) fun v1 =>
 @AM.bind AV AV (lenSl v1) fun v2 =>
 @AM.bind AV AV (nilC a0) fun v3 =>
 @AM.bind AV AV (faddr 0 v3) fun v4 =>
 @AM.bind AV AV (ld v4) fun v5 =>
 @AM.bind AV AV (sliceA Tryz.prog 22 v5 (some v2) none none) fun v6 =>
 @AM.bind AV AV (nilC a0) fun v7 =>
 @AM.bind AV AV (faddr 0 v7) fun v8 =>
 @AM.bind AV AV (unit2 (st v8 v6)) fun _ =>
 @AM.bind Ans AV (Lp (fun l9 =>
 (fun (v10 v11 : AV) =>
 @AM.bind AV Ans (nilC a0) fun v12 =>
 @AM.bind AV Ans (faddr 1 v12) fun v13 =>
 @AM.bind AV Ans (ld v13) fun v14 =>
 @AM.bind AV Ans (lenSl v14) fun v15 =>
 @AM.bind AV Ans (bn Tryz.prog .gtr 3 true v15 (.int .i64 (.ofNat 0))) fun v16 =>
 @AM.bind AV Ans (guardA v16 true (.ret a0)) fun v17 =>
 @AM.bind AV Ans (guardA v16 true (nilC v17)) fun v18 =>
 @AM.bind AV Ans (guardA v16 true (faddr 1 v18)) fun v19 =>
 @AM.bind AV Ans (guardA v16 true (ld v19)) fun v20 =>
 @AM.bind AV Ans (guardA v16 true (iaddrS 2 v20 (.int .i64 (.ofNat 0)))) fun v21 =>
 @AM.bind AV Ans (guardA v16 true (faddr 1 v21)) fun v22 =>
 @AM.bind AV Ans (guardA v16 true (ld v22)) fun v23 =>
 @AM.bind AV Ans (guardA v16 true (.ret v10)) fun v24 =>
 @AM.bind AV Ans (guardA v16 true (bn Tryz.prog .leq 3 false v23 v24)) fun v25 =>
 @AM.bind AV Ans (pickA v16 v25 (.bool false)) fun v26 =>
 @bcond Ans v26 (
 @AM.bind AV Ans (nilC a0) fun v27 =>
 @AM.bind AV Ans (faddr 1 v27) fun v28 =>
 @AM.bind AV Ans (ld v28) fun v29 =>
 @AM.bind AV Ans (iaddrS 2 v29 (.int .i64 (.ofNat 0))) fun v30 =>
 @AM.bind AV Ans (faddr 1 v30) fun v31 =>
 @AM.bind AV Ans (ld v31) fun v32 =>
 @AM.bind AV Ans (bn Tryz.prog .sub 3 false v10 v32) fun v33 =>
 @AM.bind AV Ans (nilC a0) fun v34 =>
 @AM.bind AV Ans (faddr 1 v34) fun v35 =>
 @AM.bind AV Ans (ld v35) fun v36 =>
 @AM.bind AV Ans (iaddrS 2 v36 (.int .i64 (.ofNat 0))) fun v37 =>
 @AM.bind AV Ans (faddr 0 v37) fun v38 =>
 @AM.bind AV Ans (ld v38) fun v39 =>
 @AM.bind AV Ans (bsl [(.int .i64 (.ofNat 0))] [(0, 1, v39)] 1 1) fun v40 =>
 @AM.bind AV Ans (apnd 1 v11 v40) fun v41 =>
 @AM.bind AV Ans (nilC a0) fun v42 =>
 @AM.bind AV Ans (faddr 1 v42) fun v43 =>
 @AM.bind AV Ans (ld v43) fun v44 =>
 @AM.bind AV Ans (sliceA Tryz.prog 94 v44 (some (.int .i64 (.ofNat 1))) none none) fun v45 =>
 @AM.bind AV Ans (nilC a0) fun v46 =>
 @AM.bind AV Ans (faddr 1 v46) fun v47 =>
 @AM.bind AV Ans (unit2 (st v47 v45)) fun _ =>
 @AM.ret Ans (0, [v33, v41])) (
 @AM.ret Ans (2, [v10, v11]))) (g0 l9 0) (g0 l9 1)) [v2, .snil]) fun r48 =>
 cond (Nat.beq r48.1 2) (
 (fun (v49 v50 : AV) =>
 @AM.bind AV AV (nilC a0) fun v51 =>
 @AM.bind AV AV (faddr 1 v51) fun v52 =>
 @AM.bind AV AV (ld v52) fun v53 =>
 @AM.bind AV AV (lenSl v53) fun v54 =>
 @AM.bind AV AV (bn Tryz.prog .gtr 3 true v54 (.int .i64 (.ofNat 0))) fun v55 =>
 @AM.bind Ans AV (@bcond Ans v55 (
 @AM.bind AV Ans (nilC a0) fun v56 =>
 @AM.bind AV Ans (faddr 1 v56) fun v57 =>
 @AM.bind AV Ans (ld v57) fun v58 =>
 @AM.bind AV Ans (iaddrS 2 v58 (.int .i64 (.ofNat 0))) fun v59 =>
 @AM.bind AV Ans (faddr 1 v59) fun v60 =>
 @AM.bind AV Ans (ld v60) fun v61 =>
 @AM.bind AV Ans (bn Tryz.prog .sub 3 false v61 v49) fun v62 =>
 @AM.bind AV Ans (iaddrS 2 v58 (.int .i64 (.ofNat 0))) fun v63 =>
 @AM.bind AV Ans (faddr 1 v63) fun v64 =>
 @AM.bind AV Ans (unit2 (st v64 v62)) fun _ =>
 @AM.ret Ans (0, [])) (
 @AM.ret Ans (0, []))) fun r65 =>
 cond (Nat.beq r65.1 0) (
 @AM.ret AV v50) (.bad)) (g0 r48.2 0) (g0 r48.2 1)) (.bad))
/- (*usher/ring.Ring).Room -/
noncomputable def F59 (C : CallOp) (Lp : LoopOp) (a0 : AV) : AM AV :=
 @AM.bind AV AV (bn Tryz.prog .eql 40 true a0 (.ptr none)) fun v0 =>
 @bcond AV v0 (
 @AM.ret AV (.int .i64 (.ofNat 0))) (
 @bindP AV AV false (nilC a0) fun v1 =>
 @bindP AV AV false (faddr 0 v1) fun v2 =>
 @bindP AV AV false (ld v2) fun v3 =>
 @bindP AV AV false (lenSl v3) fun v4 =>
 @bindP AV AV false (nilC a0) fun v5 =>
 @bindP AV AV false (faddr 2 v5) fun v6 =>
 @bindP AV AV false (ld v6) fun v7 =>
 @bindP AV AV false (bn Tryz.prog .sub 3 false v4 v7) fun v8 =>
 @AM.ret AV v8)
/- (*usher/conn.Conn).Quit$1 -/
noncomputable def F61 (C : CallOp) (Lp : LoopOp) (a0 : AV) : AM AV :=
 @AM.bind AV AV (ld a0) fun v0 =>
 @AM.bind AV AV (nilC v0) fun v1 =>
 @AM.bind AV AV (faddr 24 v1) fun v2 =>
 @AM.bind AV AV (unit2 (st v2 (.bool true))) fun _ =>
 @AM.ret AV (.tuple [])
/- (*usher/conn.Conn).End$1 -/
noncomputable def F62 (C : CallOp) (Lp : LoopOp) (a0 : AV) : AM AV :=
 @AM.bind AV AV (ld a0) fun v0 =>
 @AM.bind AV AV (nilC v0) fun v1 =>
 @AM.bind AV AV (faddr 26 v1) fun v2 =>
 @AM.bind AV AV (unit2 (st v2 (.bool true))) fun _ =>
 @AM.ret AV (.tuple [])
/- (*usher/conn.Conn).Refuse$1 -/
noncomputable def F79 (C : CallOp) (Lp : LoopOp) (a0 a1 : AV) : AM AV :=
 fun h1 => @bindP AV AV false (ld a0) (fun v0 =>
 @bindP AV AV false (ld a1) fun v3 =>
 fun h5 => @bindP AV AV true (C 81 [v3, .snil]) (fun v4 h6 => cond (Nat.ble h5.next h6.next && (AV.under h1.next v0 && (sameS (ld a0) v0 h6 && true))) ((
 @heavyA true (C 80 [v0, v4, (.bool false), (.int .i64 (.ofNat 1)), (.bool true)]) AV fun v7 =>
 @AM.ret AV (.tuple [])) h6) .bad) h5) h1
/- (*usher/conn.Conn).lays -/
noncomputable def F80 (C : CallOp) (Lp : LoopOp) (a0 a1 a2 a3 a4 : AV) : AM AV :=
 @AM.bind AV AV (boxA a1) fun v0 =>
 @AM.bind AV AV (ldN 4 v0) fun v1 =>
 @AM.bind AV AV (C 110 [v1, a2, a3, a4]) fun v2 =>
 @AM.bind AV AV (extA v2 0) fun v3 =>
 @AM.bind AV AV (extA v2 1) fun v4 =>
 @AM.bind AV AV (bn Tryz.prog .neq 76 true v4 (.int .i64 (.ofNat 0))) fun v5 =>
 @bcond AV v5 (
 @AM.ret AV (.tuple [])) (
 @AM.bind AV AV (nilC a0) fun v6 =>
 @AM.bind AV AV (faddr 0 v6) fun v7 =>
 @AM.bind AV AV (ld v7) fun v8 =>
 @AM.bind AV AV (bsl [.snil] [(0, 1, v3)] 1 1) fun v9 =>
 @AM.bind AV AV (C 111 [v8, v9]) fun v10 =>
 @AM.bind AV AV (nilC a0) fun v11 =>
 @AM.bind AV AV (faddr 31 v11) fun v12 =>
 @AM.bind AV AV (ld v12) fun v13 =>
 @AM.bind AV AV (bn Tryz.prog .add 3 true v13 (.int .i64 (.ofNat 1))) fun v14 =>
 @AM.bind AV AV (nilC a0) fun v15 =>
 @AM.bind AV AV (faddr 31 v15) fun v16 =>
 @AM.bind AV AV (unit2 (st v16 v14)) fun _ =>
 @AM.bind AV AV (nilC a0) fun v17 =>
 @AM.bind AV AV (faddr 25 v17) fun v18 =>
 @AM.bind AV AV (ld v18) fun v19 =>
 @AM.bind AV AV (guardA v19 false (.ret a4)) fun v20 =>
 @AM.bind AV AV (pickA v19 (.bool true) v20) fun v21 =>
 @AM.bind AV AV (nilC a0) fun v22 =>
 @AM.bind AV AV (faddr 25 v22) fun v23 =>
 @AM.bind AV AV (unit2 (st v23 v21)) fun _ =>
 @AM.ret AV (.tuple []))
/- usher/status.Canned -/
noncomputable def F81 (C : CallOp) (Lp : LoopOp) (a0 a1 : AV) : AM AV :=
 @AM.bind AV AV (nw [(.int .i64 (.ofNat 0)), .snil, .snil, .snil]) fun v0 =>
 @AM.bind AV AV (bld [(.int .i64 (.ofNat 0)), .snil, .snil, .snil] [(0, 1, a0)]) fun v1 =>
 @AM.bind AV AV (nw [(.int .i64 (.ofNat 0)), .snil, .snil, .snil]) fun v2 =>
 @AM.bind AV AV (unit2 (stN 4 v2 v1)) fun _ =>
 @AM.bind AV AV (C 112 [a0]) fun v3 =>
 @AM.bind AV AV (un .not v3) fun v4 =>
 @AM.bind Ans AV (@bcond Ans v4 (
 @AM.bind AV Ans (faddr 1 v2) fun v5 =>
 @AM.bind AV Ans (ld v5) fun v6 =>
 @AM.bind AV Ans (bld [(.str []), (.str [])] [(0, 1, (.str [67,111,110,116,101,110,116,45,84,121,112,101])), (1, 1, (.str [116,101,120,116,47,112,108,97,105,110]))]) fun v7 =>
 @AM.bind AV Ans (bsl [(.str []), (.str [])] [(0, 2, v7)] 1 2) fun v8 =>
 @AM.bind AV Ans (apnd 2 v6 v8) fun v9 =>
 @AM.bind AV Ans (faddr 1 v2) fun v10 =>
 @AM.bind AV Ans (unit2 (st v10 v9)) fun _ =>
 @AM.bind AV Ans (C 114 [a0]) fun v11 =>
 @AM.bind AV Ans (C 115 [a0]) fun v12 =>
 @AM.bind AV Ans (bsl [(.str []), (.str []), (.str []), (.str [])] [(0, 1, v11), (1, 1, (.str [32])), (2, 1, v12), (3, 1, (.str [10]))] 4 1) fun v13 =>
 @AM.bind AV Ans (C 113 [v13]) fun v14 =>
 @AM.bind AV Ans (convA Tryz.prog 9 22 v14) fun v15 =>
 @AM.bind AV Ans (faddr 2 v2) fun v16 =>
 @AM.bind AV Ans (unit2 (st v16 v15)) fun _ =>
 @AM.ret Ans (0, [])) (
 @AM.ret Ans (0, []))) fun r17 =>
 cond (Nat.beq r17.1 0) (
 @AM.bind AV AV (faddr 1 v2) fun v18 =>
 @AM.bind AV AV (ld v18) fun v19 =>
 @AM.bind AV AV (apnd 2 v19 a1) fun v20 =>
 @AM.bind AV AV (faddr 1 v2) fun v21 =>
 @AM.bind AV AV (unit2 (st v21 v20)) fun _ =>
 @AM.bind AV AV (ldN 4 v2) fun v22 =>
 @AM.bind AV AV (unit2 (stN 4 v0 v22)) fun _ =>
 ldN 4 v0) (.bad)
/- usher/gate.New -/
noncomputable def F82 (C : CallOp) (Lp : LoopOp) (a0 : AV) : AM AV :=
 @AM.bind AV AV (boxA a0) fun v0 =>
 @AM.bind AV AV (ldN 16 v0) fun v1 =>
 @AM.bind AV AV (C 116 [v1]) fun v2 =>
 @AM.bind AV AV (un .not v2) fun v3 =>
 @bcond AV v3 (
 @AM.ret AV (.tuple ((.ptr none) :: ((.int .i64 (.ofNat 1)) :: [])))) (
 @AM.bind AV AV (ldN 16 v0) fun v4 =>
 @AM.bind AV AV (nwMap) fun v5 =>
 @AM.bind AV AV (bld [(.int .i64 (.ofNat 0)), (.int .i64 (.ofNat 0)), (.int .i64 (.ofNat 0)), (.int .i64 (.ofNat 0)), (.int .i64 (.ofNat 0)), (.int .i64 (.ofNat 0)), (.int .i64 (.ofNat 0)), (.int .i64 (.ofNat 0)), (.int .i64 (.ofNat 0)), (.int .i64 (.ofNat 0)), (.int .i64 (.ofNat 0)), (.int .i64 (.ofNat 0)), (.int .i64 (.ofNat 0)), (.bool false), (.bool false), .snil, (.map none), (.int .i64 (.ofNat 0)), (.int .i64 (.ofNat 0)), (.int .i64 (.ofNat 0)), (.int .i64 (.ofNat 0)), (.bool false)] [(0, 16, v4), (16, 1, v5)]) fun v6 =>
 @AM.bind AV AV (boxA v6) fun v7 =>
 @AM.ret AV (.tuple (v7 :: ((.int .i64 (.ofNat 0)) :: []))))
/- usher/outq.New -/
noncomputable def F83 (C : CallOp) (Lp : LoopOp) : AM AV :=
 @AM.bind AV AV (bld [.snil, .snil, (.int .i64 (.ofNat 0))] []) fun v0 =>
 @AM.bind AV AV (boxA v0) fun v1 =>
 @AM.ret AV v1
/- usher/parse.New -/
noncomputable def F84 (C : CallOp) (Lp : LoopOp) : AM AV :=
 @AM.bind AV AV (C 117 []) fun v0 =>
 @AM.bind AV AV (bld [(.int .i64 (.ofNat 0)), (.int .i64 (.ofNat 0)), .snil, (.ptr none), (.int .i64 (.ofNat 0)), .snil, (.ptr none), (.int .i64 (.ofNat 0))] [(3, 1, v0)]) fun v1 =>
 @AM.bind AV AV (boxA v1) fun v2 =>
 @AM.ret AV v2
/- usher/site.isEntry -/
noncomputable def F85 (C : CallOp) (Lp : LoopOp) (a0 : AV) : AM AV :=
 @AM.bind AV AV (boxA a0) fun v0 =>
 @AM.bind AV AV (faddr 0 v0) fun v1 =>
 @AM.bind AV AV (ld v1) fun v2 =>
 @AM.bind AV AV (C 118 [v2]) fun v3 =>
 @AM.bind AV AV (extA v3 0) fun v4 =>
 @AM.bind AV AV (extA v3 1) fun v5 =>
 @bindP AV AV false (guardA v5 true (.ret v4)) fun v6 =>
 @bindP AV AV false (guardA v5 true (faddr 0 v0)) fun v7 =>
 @bindP AV AV false (guardA v5 true (ld v7)) fun v8 =>
 @bindP AV AV false (guardA v5 true (bn Tryz.prog .eql 9 false v6 v8)) fun v9 =>
 @bindP AV AV false (pickA v5 v9 (.bool false)) fun v10 =>
 @bindP AV AV false (guardA v10 true (.ret v4)) fun v11 =>
 @bindP AV AV false (guardA v10 true (lenStr v11)) fun v12 =>
 @bindP AV AV false (guardA v10 true (bn Tryz.prog .leq 3 true v12 (.int .i64 (.ofNat 200)))) fun v13 =>
 @bindP AV AV false (pickA v10 v13 (.bool false)) fun v14 =>
 @bindP AV AV false (guardA v14 true (.ret v4)) fun v15 =>
 @heavyA true (guardA v14 true (C 119 [v15, (.str [47,42])])) AV fun v16 =>
 @bindP AV AV false (guardA v14 true (un .not v16)) fun v17 =>
 @bindP AV AV false (pickA v14 v17 (.bool false)) fun v18 =>
 @bindP AV AV false (guardA v18 true (faddr 1 v0)) fun v19 =>
 @bindP AV AV false (guardA v18 true (ld v19)) fun v20 =>
 @bindP AV AV false (guardA v18 true (bn Tryz.prog .neq 9 true v20 (.str []))) fun v21 =>
 @bindP AV AV false (pickA v18 v21 (.bool false)) fun v22 =>
 @bindP AV AV false (guardA v22 true (faddr 1 v0)) fun v23 =>
 @bindP AV AV false (guardA v22 true (ld v23)) fun v24 =>
 @heavyA true (guardA v22 true (C 120 [v24])) AV fun v25 =>
 @bindP AV AV false (pickA v22 v25 (.bool false)) fun v26 =>
 @bindP AV AV false (guardA v26 true (faddr 1 v0)) fun v27 =>
 @bindP AV AV false (guardA v26 true (ld v27)) fun v28 =>
 fun h30 => @bindP AV AV false (guardA v26 true (C 121 [v28])) (fun v29 h31 => cond (Nat.ble h30.next h31.next && true) ((
 @bindP AV AV false (guardA v26 true (faddr 1 v0)) fun v32 =>
 fun h34 => @bindP AV AV false (guardA v26 true (ld v32)) (fun v33 h35 => cond ((AV.under h30.next v32 && (AV.under h30.next v26 && true)) && (sameS (guardA v26 true (ld v32)) v33 h30 && true)) ((
 @bindP AV AV false (guardA v26 true (bn Tryz.prog .eql 9 false v29 v33)) fun v36 =>
 @bindP AV AV false (pickA v26 v36 (.bool false)) fun v37 =>
 @bindP AV AV false (guardA v37 true (faddr 1 v0)) fun v38 =>
 @bindP AV AV false (guardA v37 true (ld v38)) fun v39 =>
 @bindP AV AV false (guardA v37 true (lenStr v39)) fun v40 =>
 @bindP AV AV false (guardA v37 true (bn Tryz.prog .leq 3 true v40 (.int .i64 (.ofNat 100)))) fun v41 =>
 @bindP AV AV false (pickA v37 v41 (.bool false)) fun v42 =>
 @bindP AV AV false (guardA v42 true (faddr 2 v0)) fun v43 =>
 @bindP AV AV false (guardA v42 true (ld v43)) fun v44 =>
 @bindP AV AV false (guardA v42 true (lenStr v44)) fun v45 =>
 @bindP AV AV false (guardA v42 true (bn Tryz.prog .leq 3 true v45 (.int .i64 (.ofNat 2048)))) fun v46 =>
 @bindP AV AV false (pickA v42 v46 (.bool false)) fun v47 =>
 @AM.ret AV v47) h35) .bad) h34) h31) .bad) h30
/- usher/route.New -/
noncomputable def F86 (C : CallOp) (Lp : LoopOp) : AM AV :=
 @AM.bind AV AV (nwMap) fun v0 =>
 @AM.bind AV AV (nwMap) fun v1 =>
 @AM.bind AV AV (bld [(.map none), (.map none), (.int .i64 (.ofNat 0))] [(0, 1, v0), (1, 1, v1)]) fun v2 =>
 @AM.bind AV AV (boxA v2) fun v3 =>
 @AM.ret AV v3
/- slices.Clone[[]usher/api.Entry,usher/api.Entry] -/
noncomputable def F87 (C : CallOp) (Lp : LoopOp) (a0 : AV) : AM AV :=
 @AM.bind AV AV (bn Tryz.prog .eql 28 true a0 .snil) fun v0 =>
 @bcond AV v0 (
 @AM.ret AV .snil) (
 @AM.bind AV AV (AM.ret .szero) fun v1 =>
 @AM.bind AV AV (apnd 3 v1 a0) fun v2 =>
 @AM.ret AV v2)
/- (*usher/route.Router).Add -/
noncomputable def F88 (C : CallOp) (Lp : LoopOp) (a0 a1 a2 a3 : AV) : AM AV :=
 @AM.bind AV AV (bn Tryz.prog .eql 127 true a0 (.ptr none)) fun v0 =>
 @bcond AV v0 (
 @AM.ret AV (.int .i64 (.ofNat 1))) (
 @AM.bind AV AV (nilC a0) fun v1 =>
 @AM.bind AV AV (faddr 0 v1) fun v2 =>
 @AM.bind AV AV (ld v2) fun v3 =>
 @AM.bind AV AV (C 122 [a1, (.str [47,42])]) fun v4 =>
 @AM.bind AV AV (extA v4 0) fun v5 =>
 @AM.bind AV AV (extA v4 1) fun v6 =>
 @AM.bind Ans AV (@bcond Ans v6 (
 @AM.bind AV Ans (nilC a0) fun v7 =>
 @AM.bind AV Ans (faddr 1 v7) fun v8 =>
 @AM.bind AV Ans (ld v8) fun v9 =>
 @AM.bind AV Ans (bn Tryz.prog .add 9 true v5 (.str [47])) fun v10 =>
 @AM.ret Ans (0, [v9, v10])) (
 @AM.ret Ans (0, [v3, a1]))) fun r11 =>
 cond (Nat.beq r11.1 0) (
 (fun (v12 v13 : AV) =>
 @AM.bind AV AV (C 118 [v13]) fun v14 =>
 @AM.bind AV AV (extA v14 0) fun v15 =>
 @AM.bind AV AV (extA v14 1) fun v16 =>
 @AM.bind AV AV (un .not v16) fun v17 =>
 @AM.bind AV AV (guardA v17 false (.ret v15)) fun v18 =>
 @AM.bind AV AV (guardA v17 false (.ret v13)) fun v19 =>
 @AM.bind AV AV (guardA v17 false (bn Tryz.prog .neq 9 false v18 v19)) fun v20 =>
 @AM.bind AV AV (pickA v17 (.bool true) v20) fun v21 =>
 @AM.bind AV AV (guardA v21 false (.ret v13)) fun v22 =>
 @AM.bind AV AV (guardA v21 false (lenStr v22)) fun v23 =>
 @AM.bind AV AV (guardA v21 false (bn Tryz.prog .gtr 3 true v23 (.int .i64 (.ofNat 200)))) fun v24 =>
 @AM.bind AV AV (pickA v21 (.bool true) v24) fun v25 =>
 @AM.bind AV AV (guardA v25 false (.ret a2)) fun v26 =>
 @AM.bind AV AV (guardA v25 false (bn Tryz.prog .lss 3 true v26 (.int .i64 (.ofNat 0)))) fun v27 =>
 @AM.bind AV AV (pickA v25 (.bool true) v27) fun v28 =>
 @AM.bind AV AV (guardA v28 false (.ret a3)) fun v29 =>
 @AM.bind AV AV (guardA v28 false (C 123 [v29, (.func (.func 124) [] [])])) fun v30 =>
 @AM.bind AV AV (pickA v28 (.bool true) v30) fun v31 =>
 @bcond AV v31 (
 @AM.ret AV (.int .i64 (.ofNat 1))) (
 @AM.bind AV AV (nilC a0) fun v32 =>
 @AM.bind AV AV (faddr 2 v32) fun v33 =>
 @AM.bind AV AV (ld v33) fun v34 =>
 @AM.bind AV AV (bn Tryz.prog .geq 3 true v34 (.int .i64 (.ofNat 64))) fun v35 =>
 @bcond AV v35 (
 @AM.ret AV (.int .i64 (.ofNat 3))) (
 @AM.bind AV AV (lookA Tryz.prog 186 v12 v13 false) fun v36 =>
 @AM.bind AV AV (lenSl v36) fun v37 =>
 @AM.bind Ans AV (Lp (fun l38 =>
 (fun (v39 v40 : AV) =>
 @AM.bind AV Ans (bn Tryz.prog .lss 3 false v40 v37) fun v41 =>
 @bcond Ans v41 (
 @AM.bind AV Ans (iaddrS 2 v36 v40) fun v42 =>
 @AM.bind AV Ans (ldN 2 v42) fun v43 =>
 @AM.bind AV Ans (nw [(.int .i64 (.ofNat 0)), .snil]) fun v44 =>
 @AM.bind AV Ans (unit2 (stN 2 v44 v43)) fun _ =>
 @AM.bind AV Ans (lenSl a3) fun v45 =>
 @AM.bind AV Ans (bn Tryz.prog .eql 3 true v45 (.int .i64 (.ofNat 0))) fun v46 =>
 @AM.bind AV Ans (guardA v46 false (faddr 1 v44)) fun v47 =>
 @AM.bind AV Ans (guardA v46 false (ld v47)) fun v48 =>
 @AM.bind AV Ans (guardA v46 false (lenSl v48)) fun v49 =>
 @AM.bind AV Ans (guardA v46 false (bn Tryz.prog .eql 3 true v49 (.int .i64 (.ofNat 0)))) fun v50 =>
 @AM.bind AV Ans (pickA v46 (.bool true) v50) fun v51 =>
 @AM.bind AV Ans (guardA v51 false (.ret a3)) fun v52 =>
 @AM.bind AV Ans (guardA v51 false (.ret (.func (.func 126) [] [v44]))) fun v53 =>
 @AM.bind AV Ans (guardA v51 false (C 123 [v52, v53])) fun v54 =>
 @AM.bind AV Ans (pickA v51 (.bool true) v54) fun v55 =>
 @bcond Ans v55 (
 @AM.ret Ans (1, [(.int .i64 (.ofNat 11)), v40])) (
 @AM.bind AV Ans (bn Tryz.prog .add 3 true v40 (.int .i64 (.ofNat 1))) fun v56 =>
 @AM.ret Ans (0, [v39, v56]))) (
 @AM.ret Ans (2, [v39, v40]))) (g0 l38 0) (g0 l38 1)) [(.int .i64 (.ofNat 0)), (.int .i64 (.ofNat 0))]) fun r57 =>
 cond (Nat.beq r57.1 2) (
 (fun (v58 v59 : AV) =>
 fun h61 => @bindP AV AV false (lookA Tryz.prog 186 v12 v13 false) (fun v60 =>
 fun h64 => @bindP AV AV true (C 128 [a3]) (fun v63 h65 => cond (Nat.ble h64.next h65.next && (AV.under h61.next v60 && (sameS (lookA Tryz.prog 186 v12 v13 false) v60 h65 && true))) ((
 @bindP AV AV false (bld [(.int .i64 (.ofNat 0)), .snil] [(0, 1, a2), (1, 1, v63)]) fun v66 =>
 @bindP AV AV false (bsl [(.int .i64 (.ofNat 0)), .snil] [(0, 2, v66)] 1 2) fun v67 =>
 @heavyA true (apnd 2 v60 v67) AV fun v68 =>
 @heavyA true (unit2 (mupdA Tryz.prog 186 v12 v13 v68)) AV fun _ =>
 @AM.bind AV AV (nilC a0) fun v69 =>
 @AM.bind AV AV (faddr 2 v69) fun v70 =>
 @AM.bind AV AV (ld v70) fun v71 =>
 @AM.bind AV AV (bn Tryz.prog .add 3 true v71 (.int .i64 (.ofNat 1))) fun v72 =>
 @AM.bind AV AV (nilC a0) fun v73 =>
 @AM.bind AV AV (faddr 2 v73) fun v74 =>
 @AM.bind AV AV (unit2 (st v74 v72)) fun _ =>
 @AM.ret AV (.int .i64 (.ofNat 0))) h65) .bad) h64) h61) (g0 r57.2 0) (g0 r57.2 1)) (cond (Nat.beq r57.1 1) (
 (fun (v75 v76 : AV) =>
 @AM.ret AV v75) (g0 r57.2 0) (g0 r57.2 1)) (.bad))))) (g0 r11.2 0) (g0 r11.2 1)) (.bad))
/- usher/usherref19.Plain -/
noncomputable def F89 (C : CallOp) (Lp : LoopOp) (a0 : AV) : AM AV :=
 @AM.bind AV AV (lenStr a0) fun v0 =>
 @AM.bind AV AV (bn Tryz.prog .gtr 3 true v0 (.int .i64 (.ofNat 200))) fun v1 =>
 @bcond AV v1 (
 @AM.ret AV (.bool false)) (
 @AM.bind AV AV (C 129 [a0]) fun v2 =>
 @AM.bind AV AV (extA v2 0) fun v3 =>
 @AM.bind AV AV (extA v2 1) fun v4 =>
 @AM.bind AV AV (guardA v4 true (.ret v3)) fun v5 =>
 @AM.bind AV AV (guardA v4 true (.ret a0)) fun v6 =>
 @AM.bind AV AV (guardA v4 true (bn Tryz.prog .eql 9 false v5 v6)) fun v7 =>
 @AM.bind AV AV (pickA v4 v7 (.bool false)) fun v8 =>
 @AM.bind AV AV (guardA v8 true (.ret a0)) fun v9 =>
 @AM.bind AV AV (guardA v8 true (C 130 [v9])) fun v10 =>
 @AM.bind AV AV (guardA v8 true (un .not v10)) fun v11 =>
 @AM.bind AV AV (pickA v8 v11 (.bool false)) fun v12 =>
 @AM.ret AV v12)
/- usher/usherref1.IsValue -/
noncomputable def F90 (C : CallOp) (Lp : LoopOp) (a0 : AV) : AM AV :=
 @AM.bind Ans AV (Lp (fun l0 =>
 (fun (v1 v2 : AV) =>
 @AM.bind AV Ans (lenStr a0) fun v3 =>
 @AM.bind AV Ans (bn Tryz.prog .lss 3 false v2 v3) fun v4 =>
 @bcond Ans v4 (
 @AM.bind AV Ans (sIdx a0 v2) fun v5 =>
 @AM.bind AV Ans (C 131 [v5]) fun v6 =>
 @AM.bind AV Ans (un .not v6) fun v7 =>
 @bcond Ans v7 (
 @AM.ret Ans (1, [(.bool false), v2])) (
 @AM.bind AV Ans (bn Tryz.prog .add 3 true v2 (.int .i64 (.ofNat 1))) fun v8 =>
 @AM.ret Ans (0, [v1, v8]))) (
 @AM.ret Ans (2, [v1, v2]))) (g0 l0 0) (g0 l0 1)) [(.bool false), (.int .i64 (.ofNat 0))]) fun r9 =>
 cond (Nat.beq r9.1 2) (
 (fun (v10 v11 : AV) =>
 @AM.ret AV (.bool true)) (g0 r9.2 0) (g0 r9.2 1)) (cond (Nat.beq r9.1 1) (
 (fun (v12 v13 : AV) =>
 @AM.ret AV v12) (g0 r9.2 0) (g0 r9.2 1)) (.bad))
/- usher/usherref1.Trim -/
noncomputable def F91 (C : CallOp) (Lp : LoopOp) (a0 : AV) : AM AV :=
 @AM.bind Ans AV (Lp (fun l0 =>
 (fun (v1 : AV) =>
 @AM.bind AV Ans (lenStr v1) fun v2 =>
 @AM.bind AV Ans (bn Tryz.prog .gtr 3 true v2 (.int .i64 (.ofNat 0))) fun v3 =>
 @AM.bind AV Ans (guardA v3 true (.ret v1)) fun v4 =>
 @AM.bind AV Ans (guardA v3 true (sIdx v4 (.int .i64 (.ofNat 0)))) fun v5 =>
 @AM.bind AV Ans (guardA v3 true (bn Tryz.prog .eql 5 true v5 (.int .u8 (.ofNat 9)))) fun v6 =>
 @AM.bind AV Ans (guardA v3 true (.ret v6)) fun v7 =>
 @AM.bind AV Ans (guardA v7 false (.ret v1)) fun v8 =>
 @AM.bind AV Ans (guardA v7 false (sIdx v8 (.int .i64 (.ofNat 0)))) fun v9 =>
 @AM.bind AV Ans (guardA v7 false (bn Tryz.prog .eql 5 true v9 (.int .u8 (.ofNat 32)))) fun v10 =>
 @AM.bind AV Ans (guardA v3 true (pickA v7 (.bool true) v10)) fun v11 =>
 @AM.bind AV Ans (pickA v3 v11 (.bool false)) fun v12 =>
 @bcond Ans v12 (
 @AM.bind AV Ans (sliceA Tryz.prog 9 v1 (some (.int .i64 (.ofNat 1))) none none) fun v13 =>
 @AM.ret Ans (0, [v13])) (
 @AM.ret Ans (2, [v1]))) (g0 l0 0)) [a0]) fun r14 =>
 cond (Nat.beq r14.1 2) (
 (fun (v15 : AV) =>
 @AM.bind Ans AV (Lp (fun l16 =>
 (fun (v17 : AV) =>
 @AM.bind AV Ans (lenStr v17) fun v18 =>
 @AM.bind AV Ans (bn Tryz.prog .gtr 3 true v18 (.int .i64 (.ofNat 0))) fun v19 =>
 @AM.bind AV Ans (guardA v19 true (.ret v17)) fun v20 =>
 @AM.bind AV Ans (guardA v19 true (.ret v17)) fun v21 =>
 @AM.bind AV Ans (guardA v19 true (lenStr v21)) fun v22 =>
 @AM.bind AV Ans (guardA v19 true (bn Tryz.prog .sub 3 true v22 (.int .i64 (.ofNat 1)))) fun v23 =>
 @AM.bind AV Ans (guardA v19 true (sIdx v20 v23)) fun v24 =>
 @AM.bind AV Ans (guardA v19 true (bn Tryz.prog .eql 5 true v24 (.int .u8 (.ofNat 9)))) fun v25 =>
 @AM.bind AV Ans (guardA v19 true (.ret v25)) fun v26 =>
 @AM.bind AV Ans (guardA v26 false (.ret v17)) fun v27 =>
 @AM.bind AV Ans (guardA v26 false (.ret v17)) fun v28 =>
 @AM.bind AV Ans (guardA v26 false (lenStr v28)) fun v29 =>
 @AM.bind AV Ans (guardA v26 false (bn Tryz.prog .sub 3 true v29 (.int .i64 (.ofNat 1)))) fun v30 =>
 @AM.bind AV Ans (guardA v26 false (sIdx v27 v30)) fun v31 =>
 @AM.bind AV Ans (guardA v26 false (bn Tryz.prog .eql 5 true v31 (.int .u8 (.ofNat 32)))) fun v32 =>
 @AM.bind AV Ans (guardA v19 true (pickA v26 (.bool true) v32)) fun v33 =>
 @AM.bind AV Ans (pickA v19 v33 (.bool false)) fun v34 =>
 @bcond Ans v34 (
 @AM.bind AV Ans (lenStr v17) fun v35 =>
 @AM.bind AV Ans (bn Tryz.prog .sub 3 true v35 (.int .i64 (.ofNat 1))) fun v36 =>
 @AM.bind AV Ans (sliceA Tryz.prog 9 v17 none (some v36) none) fun v37 =>
 @AM.ret Ans (0, [v37])) (
 @AM.ret Ans (4, [v17]))) (g0 l16 0)) [v15]) fun r38 =>
 cond (Nat.beq r38.1 4) (
 (fun (v39 : AV) =>
 @AM.ret AV v39) (g0 r38.2 0)) (.bad)) (g0 r14.2 0)) (.bad)
/- (*usher/usherref19.Router).Add -/
noncomputable def F92 (C : CallOp) (Lp : LoopOp) (a0 a1 a2 a3 : AV) : AM AV :=
 @AM.bind AV AV (C 132 [a1]) fun v0 =>
 @AM.bind AV AV (un .not v0) fun v1 =>
 @AM.bind AV AV (guardA v1 false (.ret a2)) fun v2 =>
 @AM.bind AV AV (guardA v1 false (bn Tryz.prog .lss 3 true v2 (.int .i64 (.ofNat 0)))) fun v3 =>
 @AM.bind AV AV (pickA v1 (.bool true) v3) fun v4 =>
 @bcond AV v4 (
 @AM.ret AV (.int .i64 (.ofNat 1))) (
 @AM.bind Ans AV (Lp (fun l5 =>
 (fun (v6 v7 : AV) =>
 @AM.bind AV Ans (lenSl a3) fun v8 =>
 @AM.bind AV Ans (bn Tryz.prog .lss 3 false v7 v8) fun v9 =>
 @bcond Ans v9 (
 @AM.bind AV Ans (iaddrS 1 a3 v7) fun v10 =>
 @AM.bind AV Ans (ld v10) fun v11 =>
 @AM.bind AV Ans (C 133 [v11]) fun v12 =>
 @AM.bind AV Ans (un .not v12) fun v13 =>
 @bcond Ans v13 (
 @AM.ret Ans (1, [(.int .i64 (.ofNat 1)), v7])) (
 @AM.bind AV Ans (bn Tryz.prog .add 3 true v7 (.int .i64 (.ofNat 1))) fun v14 =>
 @AM.ret Ans (0, [v6, v14]))) (
 @AM.ret Ans (2, [v6, v7]))) (g0 l5 0) (g0 l5 1)) [(.int .i64 (.ofNat 0)), (.int .i64 (.ofNat 0))]) fun r15 =>
 cond (Nat.beq r15.1 2) (
 (fun (v16 v17 : AV) =>
 @AM.bind AV AV (nilC a0) fun v18 =>
 @AM.bind AV AV (faddr 0 v18) fun v19 =>
 @AM.bind AV AV (ld v19) fun v20 =>
 @AM.bind AV AV (lenSl v20) fun v21 =>
 @AM.bind AV AV (bn Tryz.prog .geq 3 true v21 (.int .i64 (.ofNat 64))) fun v22 =>
 @bcond AV v22 (
 @AM.ret AV (.int .i64 (.ofNat 3))) (
 @AM.bind Ans AV (Lp (fun l23 =>
 (fun (v24 v25 : AV) =>
 @AM.bind AV Ans (nilC a0) fun v26 =>
 @AM.bind AV Ans (faddr 0 v26) fun v27 =>
 @AM.bind AV Ans (ld v27) fun v28 =>
 @AM.bind AV Ans (lenSl v28) fun v29 =>
 @AM.bind AV Ans (bn Tryz.prog .lss 3 false v25 v29) fun v30 =>
 @bcond Ans v30 (
 @AM.bind AV Ans (nilC a0) fun v31 =>
 @AM.bind AV Ans (faddr 0 v31) fun v32 =>
 @AM.bind AV Ans (ld v32) fun v33 =>
 @AM.bind AV Ans (iaddrS 3 v33 v25) fun v34 =>
 @AM.bind AV Ans (faddr 0 v34) fun v35 =>
 @AM.bind AV Ans (ld v35) fun v36 =>
 @AM.bind AV Ans (bn Tryz.prog .neq 9 false v36 a1) fun v37 =>
 @bcond Ans v37 (
 @AM.bind AV Ans (bn Tryz.prog .add 3 true v25 (.int .i64 (.ofNat 1))) fun v38 =>
 @AM.ret Ans (0, [v24, v38])) (
 @AM.bind AV Ans (lenSl a3) fun v39 =>
 @AM.bind AV Ans (bn Tryz.prog .eql 3 true v39 (.int .i64 (.ofNat 0))) fun v40 =>
 @AM.bind AV Ans (guardA v40 false (.ret a0)) fun v41 =>
 @AM.bind AV Ans (guardA v40 false (nilC v41)) fun v42 =>
 @AM.bind AV Ans (guardA v40 false (faddr 0 v42)) fun v43 =>
 @AM.bind AV Ans (guardA v40 false (ld v43)) fun v44 =>
 @AM.bind AV Ans (guardA v40 false (.ret v25)) fun v45 =>
 @AM.bind AV Ans (guardA v40 false (iaddrS 3 v44 v45)) fun v46 =>
 @AM.bind AV Ans (guardA v40 false (faddr 2 v46)) fun v47 =>
 @AM.bind AV Ans (guardA v40 false (ld v47)) fun v48 =>
 @AM.bind AV Ans (guardA v40 false (lenSl v48)) fun v49 =>
 @AM.bind AV Ans (guardA v40 false (bn Tryz.prog .eql 3 true v49 (.int .i64 (.ofNat 0)))) fun v50 =>
 @AM.bind AV Ans (pickA v40 (.bool true) v50) fun v51 =>
 @bcond Ans v51 (
 @AM.ret Ans (1, [(.int .i64 (.ofNat 11)), v25])) (
 @AM.bind Ans Ans (Lp (fun l52 =>
 (fun (v53 v54 : AV) =>
 @AM.bind AV Ans (lenSl a3) fun v55 =>
 @AM.bind AV Ans (bn Tryz.prog .lss 3 false v54 v55) fun v56 =>
 @bcond Ans v56 (
 @bindP AV Ans false (nilC a0) fun v57 =>
 @bindP AV Ans false (faddr 0 v57) fun v58 =>
 @bindP AV Ans false (ld v58) fun v59 =>
 @bindP AV Ans false (iaddrS 3 v59 v25) fun v60 =>
 @bindP AV Ans false (faddr 2 v60) fun v61 =>
 @bindP AV Ans false (ld v61) fun v62 =>
 @bindP AV Ans false (iaddrS 1 a3 v54) fun v63 =>
 @bindP AV Ans false (ld v63) fun v64 =>
 @heavyA true (C 134 [v62, v64]) Ans fun v65 =>
 @bcond Ans v65 (
 @AM.ret Ans (1, [(.int .i64 (.ofNat 11)), v54])) (
 @AM.bind AV Ans (bn Tryz.prog .add 3 true v54 (.int .i64 (.ofNat 1))) fun v66 =>
 @AM.ret Ans (0, [v53, v66]))) (
 @AM.ret Ans (6, [v53, v54]))) (g0 l52 0) (g0 l52 1)) [v24, (.int .i64 (.ofNat 0))]) fun r67 =>
 cond (Nat.beq r67.1 6) (
 (fun (v68 v69 : AV) =>
 @AM.bind AV Ans (bn Tryz.prog .add 3 true v25 (.int .i64 (.ofNat 1))) fun v70 =>
 @AM.ret Ans (0, [v68, v70])) (g0 r67.2 0) (g0 r67.2 1)) (cond (Nat.beq r67.1 1) (
 (fun (v71 v72 : AV) =>
 @AM.ret Ans (1, [v71, v25])) (g0 r67.2 0) (g0 r67.2 1)) (.bad))))) (
 @AM.ret Ans (4, [v24, v25]))) (g0 l23 0) (g0 l23 1)) [v16, (.int .i64 (.ofNat 0))]) fun r73 =>
 cond (Nat.beq r73.1 4) (
 (fun (v74 v75 : AV) =>
 @bindP AV AV false (nilC a0) fun v76 =>
 @bindP AV AV false (faddr 0 v76) fun v77 =>
 fun h79 => @bindP AV AV false (ld v77) (fun v78 =>
 @bindP AV AV false (AM.ret .szero) fun v81 =>
 fun h83 => @bindP AV AV true (apnd 1 v81 a3) (fun v82 h84 => cond (Nat.ble h83.next h84.next && (AV.under h79.next v78 && (sameS (ld v77) v78 h84 && true))) ((
 @bindP AV AV false (bld [(.str []), (.int .i64 (.ofNat 0)), .snil] [(0, 1, a1), (1, 1, a2), (2, 1, v82)]) fun v85 =>
 @bindP AV AV false (bsl [(.str []), (.int .i64 (.ofNat 0)), .snil] [(0, 3, v85)] 1 3) fun v86 =>
 @heavyA true (apnd 3 v78 v86) AV fun v87 =>
 @bindP AV AV false (nilC a0) fun v88 =>
 @bindP AV AV false (faddr 0 v88) fun v89 =>
 @heavyA true (unit2 (st v89 v87)) AV fun _ =>
 @AM.ret AV (.int .i64 (.ofNat 0))) h84) .bad) h83) h79) (g0 r73.2 0) (g0 r73.2 1)) (cond (Nat.beq r73.1 1) (
 (fun (v90 v91 : AV) =>
 @AM.ret AV v90) (g0 r73.2 0) (g0 r73.2 1)) (.bad)))) (g0 r15.2 0) (g0 r15.2 1)) (cond (Nat.beq r15.1 1) (
 (fun (v92 v93 : AV) =>
 @AM.ret AV v92) (g0 r15.2 0) (g0 r15.2 1)) (.bad)))
/- usher/usherref21.Config -/
noncomputable def F93 (C : CallOp) (Lp : LoopOp) (a0 : AV) : AM AV :=
 @AM.bind AV AV (boxA a0) fun v0 =>
 @AM.bind AV AV (faddr 0 v0) fun v1 =>
 @AM.bind AV AV (ld v1) fun v2 =>
 @AM.bind AV AV (C 135 [v2, (.int .i64 (.ofNat 1)), (.int .i64 (.ofNat 64))]) fun v3 =>
 @AM.bind AV AV (guardA v3 true (faddr 1 v0)) fun v4 =>
 @AM.bind AV AV (guardA v3 true (ld v4)) fun v5 =>
 @AM.bind AV AV (guardA v3 true (C 135 [v5, (.int .i64 (.ofNat 1)), (.int .i64 (.ofNat 64))])) fun v6 =>
 @AM.bind AV AV (pickA v3 v6 (.bool false)) fun v7 =>
 @AM.bind AV AV (guardA v7 true (faddr 2 v0)) fun v8 =>
 @AM.bind AV AV (guardA v7 true (ld v8)) fun v9 =>
 @AM.bind AV AV (guardA v7 true (C 135 [v9, (.int .i64 (.ofNat 1)), (.int .i64 (.ofNat 64))])) fun v10 =>
 @AM.bind AV AV (pickA v7 v10 (.bool false)) fun v11 =>
 @AM.bind AV AV (guardA v11 true (faddr 3 v0)) fun v12 =>
 @AM.bind AV AV (guardA v11 true (ld v12)) fun v13 =>
 @AM.bind AV AV (guardA v11 true (C 135 [v13, (.int .i64 (.ofNat 0)), (.int .i64 (.ofNat 4096))])) fun v14 =>
 @AM.bind AV AV (pickA v11 v14 (.bool false)) fun v15 =>
 @AM.bind AV AV (faddr 4 v0) fun v16 =>
 @AM.bind AV AV (ld v16) fun v17 =>
 @AM.bind AV AV (C 135 [v17, (.int .i64 (.ofNat 1)), (.int .i64 (.ofNat 1073741824))]) fun v18 =>
 @AM.bind AV AV (guardA v18 true (faddr 5 v0)) fun v19 =>
 @AM.bind AV AV (guardA v18 true (ld v19)) fun v20 =>
 @AM.bind AV AV (guardA v18 true (C 135 [v20, (.int .i64 (.ofNat 1)), (.int .i64 (.ofNat 1073741824))])) fun v21 =>
 @AM.bind AV AV (pickA v18 v21 (.bool false)) fun v22 =>
 @AM.bind AV AV (guardA v22 true (faddr 6 v0)) fun v23 =>
 @AM.bind AV AV (guardA v22 true (ld v23)) fun v24 =>
 @AM.bind AV AV (guardA v22 true (C 135 [v24, (.int .i64 (.ofNat 1)), (.int .i64 (.ofNat 1073741824))])) fun v25 =>
 @AM.bind AV AV (pickA v22 v25 (.bool false)) fun v26 =>
 @AM.bind AV AV (guardA v26 true (faddr 7 v0)) fun v27 =>
 @AM.bind AV AV (guardA v26 true (ld v27)) fun v28 =>
 @AM.bind AV AV (guardA v26 true (C 135 [v28, (.int .i64 (.ofNat 1)), (.int .i64 (.ofNat 1073741824))])) fun v29 =>
 @AM.bind AV AV (pickA v26 v29 (.bool false)) fun v30 =>
 @AM.bind AV AV (guardA v30 true (faddr 8 v0)) fun v31 =>
 @AM.bind AV AV (guardA v30 true (ld v31)) fun v32 =>
 @AM.bind AV AV (guardA v30 true (C 135 [v32, (.int .i64 (.ofNat 1)), (.int .i64 (.ofNat 1073741824))])) fun v33 =>
 @AM.bind AV AV (pickA v30 v33 (.bool false)) fun v34 =>
 @AM.bind AV AV (guardA v15 true (.ret v34)) fun v35 =>
 @AM.bind AV AV (pickA v15 v35 (.bool false)) fun v36 =>
 @AM.bind AV AV (guardA v36 true (faddr 9 v0)) fun v37 =>
 @AM.bind AV AV (guardA v36 true (ld v37)) fun v38 =>
 @AM.bind AV AV (guardA v36 true (C 135 [v38, (.int .i64 (.ofNat 0)), (.int .i64 (.ofNat 1073741824))])) fun v39 =>
 @AM.bind AV AV (pickA v36 v39 (.bool false)) fun v40 =>
 @AM.bind AV AV (guardA v40 true (faddr 10 v0)) fun v41 =>
 @AM.bind AV AV (guardA v40 true (ld v41)) fun v42 =>
 @AM.bind AV AV (guardA v40 true (C 135 [v42, (.int .i64 (.ofNat 0)), (.int .i64 (.ofNat 1048576))])) fun v43 =>
 @AM.bind AV AV (pickA v40 v43 (.bool false)) fun v44 =>
 @AM.bind AV AV (guardA v44 true (faddr 11 v0)) fun v45 =>
 @AM.bind AV AV (guardA v44 true (ld v45)) fun v46 =>
 @AM.bind AV AV (guardA v44 true (C 135 [v46, (.int .i64 (.ofNat 0)), (.int .i64 (.ofNat 1048576))])) fun v47 =>
 @AM.bind AV AV (pickA v44 v47 (.bool false)) fun v48 =>
 @AM.bind AV AV (guardA v48 true (faddr 12 v0)) fun v49 =>
 @AM.bind AV AV (guardA v48 true (ld v49)) fun v50 =>
 @AM.bind AV AV (guardA v48 true (C 135 [v50, (.int .i64 (.ofNat 0)), (.int .i64 (.ofNat 1073741824))])) fun v51 =>
 @AM.bind AV AV (pickA v48 v51 (.bool false)) fun v52 =>
 @AM.ret AV v52
/- (*usher/conn.Conn).state -/
noncomputable def F94 (C : CallOp) (Lp : LoopOp) (a0 : AV) : AM AV :=
 @AM.bind AV AV (nilC a0) fun v0 =>
 @AM.bind AV AV (faddr 27 v0) fun v1 =>
 @AM.bind AV AV (ld v1) fun v2 =>
 @bcond AV v2 (
 @AM.ret AV (.int .i64 (.ofNat 5))) (
 @AM.bind AV AV (nilC a0) fun v3 =>
 @AM.bind AV AV (faddr 25 v3) fun v4 =>
 @AM.bind AV AV (ld v4) fun v5 =>
 @AM.bind AV AV (guardA v5 true (.ret a0)) fun v6 =>
 @AM.bind AV AV (guardA v5 true (nilC v6)) fun v7 =>
 @AM.bind AV AV (guardA v5 true (faddr 0 v7)) fun v8 =>
 @AM.bind AV AV (guardA v5 true (ld v8)) fun v9 =>
 @AM.bind AV AV (guardA v5 true (C 16 [v9])) fun v10 =>
 @AM.bind AV AV (guardA v5 true (bn Tryz.prog .eql 3 true v10 (.int .i64 (.ofNat 0)))) fun v11 =>
 @AM.bind AV AV (pickA v5 v11 (.bool false)) fun v12 =>
 @bcond AV v12 (
 @AM.ret AV (.int .i64 (.ofNat 4))) (
 @AM.bind AV AV (nilC a0) fun v13 =>
 @AM.bind AV AV (faddr 0 v13) fun v14 =>
 @AM.bind AV AV (ld v14) fun v15 =>
 @AM.bind AV AV (C 16 [v15]) fun v16 =>
 @AM.bind AV AV (bn Tryz.prog .gtr 3 true v16 (.int .i64 (.ofNat 0))) fun v17 =>
 @bcond AV v17 (
 @AM.ret AV (.int .i64 (.ofNat 3))) (
 @AM.bind AV AV (nilC a0) fun v18 =>
 @AM.bind AV AV (faddr 19 v18) fun v19 =>
 @AM.bind AV AV (ld v19) fun v20 =>
 @AM.bind AV AV (C 97 [v20]) fun v21 =>
 @AM.bind AV AV (ofOpt (minA v21 [(.int .i64 (.ofNat 2))])) fun v22 =>
 @AM.ret AV v22)))
/- (*usher/ring.Ring).at -/
noncomputable def F95 (C : CallOp) (Lp : LoopOp) (a0 a1 : AV) : AM AV :=
 @bindP AV AV false (nilC a0) fun v0 =>
 @bindP AV AV false (faddr 1 v0) fun v1 =>
 @bindP AV AV false (ld v1) fun v2 =>
 @bindP AV AV false (bn Tryz.prog .add 3 false v2 a1) fun v3 =>
 @bindP AV AV false (nilC a0) fun v4 =>
 @bindP AV AV false (faddr 0 v4) fun v5 =>
 @bindP AV AV false (ld v5) fun v6 =>
 @bindP AV AV false (lenSl v6) fun v7 =>
 @bindP AV AV false (bn Tryz.prog .rem 3 false v3 v7) fun v8 =>
 @AM.ret AV v8
/- (*usher/conn.Conn).step -/
noncomputable def F96 (C : CallOp) (Lp : LoopOp) (a0 : AV) : AM AV :=
 @AM.bind AV AV (C 136 [a0]) fun v0 =>
 @AM.bind Ans AV (@bcond Ans v0 (
 @bindP AV Ans false (nilC a0) fun v1 =>
 @bindP AV Ans false (faddr 23 v1) fun v2 =>
 fun h4 => @bindP AV Ans false (ld v2) (fun v3 =>
 @bindP AV Ans false (nilC a0) fun v6 =>
 @bindP AV Ans false (faddr 18 v6) fun v7 =>
 fun h9 => @bindP AV Ans false (ld v7) (fun v8 =>
 @bindP AV Ans false (nilC a0) fun v11 =>
 @bindP AV Ans false (faddr 19 v11) fun v12 =>
 fun h14 => @bindP AV Ans false (ld v12) (fun v13 =>
 @bindP AV Ans false (nilC a0) fun v16 =>
 @bindP AV Ans false (faddr 18 v16) fun v17 =>
 fun h19 => @bindP AV Ans false (ld v17) (fun v18 =>
 @bindP AV Ans false (nilC a0) fun v21 =>
 @bindP AV Ans false (faddr 18 v21) fun v22 =>
 @bindP AV Ans false (ld v22) fun v23 =>
 fun h25 => @bindP AV Ans true (C 98 [v23]) (fun v24 h26 => cond (Nat.ble h25.next h26.next && (AV.under h4.next v3 && (sameS (ld v2) v3 h26 && (AV.under h9.next v8 && (sameS (ld v7) v8 h26 && (AV.under h14.next v13 && (sameS (ld v12) v13 h26 && (AV.under h19.next v18 && (sameS (ld v17) v18 h26 && true))))))))) ((
 fun h28 => @bindP AV Ans true (C 139 [v18, v24]) (fun v27 h29 => cond (Nat.ble h28.next h29.next && (AV.under h4.next v3 && (sameS (ld v2) v3 h29 && (AV.under h9.next v8 && (sameS (ld v7) v8 h29 && (AV.under h14.next v13 && (sameS (ld v12) v13 h29 && true))))))) ((
 @bindP AV Ans false (bsl [.snil] [(0, 1, v27)] 1 1) fun v30 =>
 fun h32 => @bindP AV Ans true (C 138 [v13, v30]) (fun v31 h33 => cond (Nat.ble h32.next h33.next && (AV.under h4.next v3 && (sameS (ld v2) v3 h33 && (AV.under h9.next v8 && (sameS (ld v7) v8 h33 && true))))) ((
 fun h35 => @bindP AV Ans true (C 137 [v8, v31]) (fun v34 h36 => cond (Nat.ble h35.next h36.next && (AV.under h4.next v3 && (sameS (ld v2) v3 h36 && true))) ((
 @bindP AV Ans false (bn Tryz.prog .add 3 false v3 v34) fun v37 =>
 @bindP AV Ans false (nilC a0) fun v38 =>
 @bindP AV Ans false (faddr 23 v38) fun v39 =>
 @heavyA true (unit2 (st v39 v37)) Ans fun _ =>
 @AM.ret Ans (0, [(.bool false)])) h36) .bad) h35) h33) .bad) h32) h29) .bad) h28) h26) .bad) h25) h19) h14) h9) h4) (
 @AM.bind AV Ans (nilC a0) fun v40 =>
 @AM.bind AV Ans (faddr 25 v40) fun v41 =>
 @AM.bind AV Ans (ld v41) fun v42 =>
 @bcond Ans v42 (
 @AM.ret Ans (1, [(.bool false)])) (
 @AM.bind AV Ans (nilC a0) fun v43 =>
 @AM.bind AV Ans (faddr 19 v43) fun v44 =>
 @AM.bind AV Ans (ld v44) fun v45 =>
 @AM.bind AV Ans (C 97 [v45]) fun v46 =>
 @AM.bind AV Ans (bn Tryz.prog .eql 3 true v46 (.int .i64 (.ofNat 3))) fun v47 =>
 @bcond Ans v47 (
 @AM.bind AV Ans (nilC a0) fun v48 =>
 @AM.bind AV Ans (faddr 19 v48) fun v49 =>
 @AM.bind AV Ans (ld v49) fun v50 =>
 @AM.bind AV Ans (C 140 [v50]) fun v51 =>
 @AM.bind AV Ans (extA v51 0) fun v52 =>
 @AM.bind AV Ans (extA v51 1) fun v53 =>
 @AM.bind AV Ans (nw [(.str []), (.int .i64 (.ofNat 0)), (.str []), (.str []), (.str []), (.int .i64 (.ofNat 0)), .snil, .snil, (.bool false), (.bool false)]) fun v54 =>
 @AM.bind AV Ans (unit2 (stN 10 v54 v52)) fun _ =>
 @AM.bind AV Ans (nilC a0) fun v55 =>
 @AM.bind AV Ans (faddr 30 v55) fun v56 =>
 @AM.bind AV Ans (ld v56) fun v57 =>
 @AM.bind AV Ans (bn Tryz.prog .add 3 true v57 (.int .i64 (.ofNat 1))) fun v58 =>
 @AM.bind AV Ans (nilC a0) fun v59 =>
 @AM.bind AV Ans (faddr 30 v59) fun v60 =>
 @AM.bind AV Ans (unit2 (st v60 v58)) fun _ =>
 @AM.bind AV Ans (nilC a0) fun v61 =>
 @AM.bind AV Ans (faddr 28 v61) fun v62 =>
 @AM.bind AV Ans (unit2 (st v62 (.bool false))) fun _ =>
 @bindP AV Ans false (nilC a0) fun v63 =>
 @bindP AV Ans false (faddr 17 v63) fun v64 =>
 @bindP AV Ans false (ld v64) fun v65 =>
 @bindP AV Ans false (ldN 10 v54) fun v66 =>
 fun h68 => @bindP AV Ans false (C 141 [v65, v66]) (fun v67 h69 => cond (Nat.ble h68.next h69.next && true) ((
 @bindP AV Ans false (faddr 0 v54) fun v70 =>
 fun h72 => @bindP AV Ans false (ld v70) (fun v71 h73 => cond ((AV.under h68.next v70 && true) && (sameS (ld v70) v71 h68 && true)) ((
 @bindP AV Ans false (bn Tryz.prog .eql 9 true v71 (.str [72,69,65,68])) fun v74 =>
 @bindP AV Ans false (faddr 5 v54) fun v75 =>
 fun h77 => @bindP AV Ans false (ld v75) (fun v76 h78 => cond ((AV.under h68.next v75 && true) && (sameS (ld v75) v76 h68 && true)) ((
 @bindP AV Ans false (faddr 8 v54) fun v79 =>
 fun h81 => @bindP AV Ans false (ld v79) (fun v80 h82 => cond ((AV.under h68.next v79 && true) && (sameS (ld v79) v80 h68 && true)) ((
 @bindP AV Ans false (guardA v80 false (.ret a0)) fun v83 =>
 @bindP AV Ans false (guardA v80 false (nilC v83)) fun v84 =>
 @bindP AV Ans false (guardA v80 false (faddr 24 v84)) fun v85 =>
 @bindP AV Ans false (guardA v80 false (ld v85)) fun v86 =>
 @bindP AV Ans false (pickA v80 (.bool true) v86) fun v87 =>
 @heavyA true (C 80 [a0, v67, v74, v76, v87]) Ans fun v88 =>
 @AM.ret Ans (0, [(.bool false)])) h82) .bad) h81) h78) .bad) h77) h73) .bad) h72) h69) .bad) h68) (
 @AM.bind AV Ans (nilC a0) fun v89 =>
 @AM.bind AV Ans (faddr 19 v89) fun v90 =>
 @AM.bind AV Ans (ld v90) fun v91 =>
 @AM.bind AV Ans (C 97 [v91]) fun v92 =>
 @AM.bind AV Ans (bn Tryz.prog .eql 3 true v92 (.int .i64 (.ofNat 4))) fun v93 =>
 @bcond Ans v93 (
 @AM.bind AV Ans (nilC a0) fun v94 =>
 @AM.bind AV Ans (faddr 19 v94) fun v95 =>
 @AM.bind AV Ans (ld v95) fun v96 =>
 @AM.bind AV Ans (C 142 [v96]) fun v97 =>
 @AM.bind AV Ans (C 81 [v97, .snil]) fun v98 =>
 @AM.bind AV Ans (C 80 [a0, v98, (.bool false), (.int .i64 (.ofNat 1)), (.bool true)]) fun v99 =>
 @AM.ret Ans (0, [(.bool false)])) (
 @AM.bind AV Ans (nilC a0) fun v100 =>
 @AM.bind AV Ans (faddr 19 v100) fun v101 =>
 @AM.bind AV Ans (ld v101) fun v102 =>
 @AM.bind AV Ans (C 143 [v102]) fun v103 =>
 @AM.bind AV Ans (guardA v103 true (.ret a0)) fun v104 =>
 @AM.bind AV Ans (guardA v103 true (nilC v104)) fun v105 =>
 @AM.bind AV Ans (guardA v103 true (faddr 18 v105)) fun v106 =>
 @AM.bind AV Ans (guardA v103 true (ld v106)) fun v107 =>
 @AM.bind AV Ans (guardA v103 true (C 98 [v107])) fun v108 =>
 @AM.bind AV Ans (guardA v103 true (bn Tryz.prog .eql 3 true v108 (.int .i64 (.ofNat 0)))) fun v109 =>
 @AM.bind AV Ans (pickA v103 v109 (.bool false)) fun v110 =>
 @AM.bind AV Ans (guardA v110 true (.ret a0)) fun v111 =>
 @AM.bind AV Ans (guardA v110 true (nilC v111)) fun v112 =>
 @AM.bind AV Ans (guardA v110 true (faddr 28 v112)) fun v113 =>
 @AM.bind AV Ans (guardA v110 true (ld v113)) fun v114 =>
 @AM.bind AV Ans (guardA v110 true (un .not v114)) fun v115 =>
 @AM.bind AV Ans (pickA v110 v115 (.bool false)) fun v116 =>
 @bcond Ans v116 (
 @AM.bind AV Ans (nilC a0) fun v117 =>
 @AM.bind AV Ans (faddr 28 v117) fun v118 =>
 @AM.bind AV Ans (unit2 (st v118 (.bool true))) fun _ =>
 @bindP AV Ans false (nilC a0) fun v119 =>
 @bindP AV Ans false (faddr 29 v119) fun v120 =>
 fun h122 => @bindP AV Ans false (ld v120) (fun v121 =>
 @bindP AV Ans false (nilC a0) fun v124 =>
 @bindP AV Ans false (faddr 0 v124) fun v125 =>
 fun h127 => @bindP AV Ans false (ld v125) (fun v126 =>
 fun h130 => @bindP AV Ans true (C 144 []) (fun v129 h131 => cond (Nat.ble h130.next h131.next && (AV.under h122.next v121 && (sameS (ld v120) v121 h131 && (AV.under h127.next v126 && (sameS (ld v125) v126 h131 && true))))) ((
 @bindP AV Ans false (bsl [.snil] [(0, 1, v129)] 1 1) fun v132 =>
 fun h134 => @bindP AV Ans true (C 111 [v126, v132]) (fun v133 h135 => cond (Nat.ble h134.next h135.next && (AV.under h122.next v121 && (sameS (ld v120) v121 h135 && true))) ((
 @heavyA true (unit2 (mupdA Tryz.prog 42 v121 v133 (.bool true))) Ans fun _ =>
 @AM.ret Ans (0, [(.bool false)])) h135) .bad) h134) h131) .bad) h130) h127) h122) (
 @AM.ret Ans (1, [(.bool false)]))))))) fun r136 =>
 cond (Nat.beq r136.1 0) (
 (fun (v137 : AV) =>
 @AM.ret AV (.bool true)) (g0 r136.2 0)) (cond (Nat.beq r136.1 1) (
 (fun (v138 : AV) =>
 @AM.ret AV v138) (g0 r136.2 0)) (.bad))
/- (*usher/parse.Parser).Phase -/
noncomputable def F97 (C : CallOp) (Lp : LoopOp) (a0 : AV) : AM AV :=
 @AM.bind AV AV (bn Tryz.prog .eql 41 true a0 (.ptr none)) fun v0 =>
 @bcond AV v0 (
 @AM.ret AV (.int .i64 (.ofNat 0))) (
 @AM.bind AV AV (nilC a0) fun v1 =>
 @AM.bind AV AV (faddr 0 v1) fun v2 =>
 @AM.bind AV AV (ld v2) fun v3 =>
 @AM.ret AV v3)
/- (*usher/ring.Ring).Len -/
noncomputable def F98 (C : CallOp) (Lp : LoopOp) (a0 : AV) : AM AV :=
 @AM.bind AV AV (bn Tryz.prog .eql 40 true a0 (.ptr none)) fun v0 =>
 @bcond AV v0 (
 @AM.ret AV (.int .i64 (.ofNat 0))) (
 @AM.bind AV AV (nilC a0) fun v1 =>
 @AM.bind AV AV (faddr 2 v1) fun v2 =>
 @AM.bind AV AV (ld v2) fun v3 =>
 @AM.ret AV v3)
/- usher/reply.Encode -/
noncomputable def F110 (C : CallOp) (Lp : LoopOp) (a0 a1 a2 a3 : AV) : AM AV :=
 @AM.bind AV AV (boxA a0) fun v0 =>
 @AM.bind AV AV (ldN 4 v0) fun v1 =>
 @AM.bind AV AV (C 160 [v1]) fun v2 =>
 @AM.bind AV AV (un .not v2) fun v3 =>
 @bcond AV v3 (
 @AM.ret AV (.tuple (.snil :: ((.int .i64 (.ofNat 1)) :: [])))) (
 @AM.bind AV AV (nw [.snil]) fun v4 =>
 @bindP AV AV false (faddr 0 v0) fun v5 =>
 @bindP AV AV false (ld v5) fun v6 =>
 fun h8 => @bindP AV AV false (C 114 [v6]) (fun v7 h9 => cond (Nat.ble h8.next h9.next && true) ((
 @bindP AV AV false (faddr 0 v0) fun v10 =>
 fun h12 => @bindP AV AV false (ld v10) (fun v11 h13 => cond ((AV.under h8.next v10 && true) && (sameS (ld v10) v11 h8 && true)) ((
 @heavyA true (C 115 [v11]) AV fun v14 =>
 @bindP AV AV false (bsl [(.str []), (.str []), (.str []), (.str [])] [(0, 1, (.str [72,84,84,80,47,49,46,49,32])), (1, 1, v7), (2, 1, (.str [32])), (3, 1, v14)] 4 1) fun v15 =>
 @heavyA true (callA C (.func (.func 161) [] [v4]) [v15]) AV fun v16 =>
 @AM.bind AV AV (faddr 1 v0) fun v17 =>
 @AM.bind AV AV (ld v17) fun v18 =>
 @AM.bind AV AV (lenSl v18) fun v19 =>
 @AM.bind Ans AV (Lp (fun l20 =>
 (fun (v21 : AV) =>
 @AM.bind AV Ans (bn Tryz.prog .lss 3 false v21 v19) fun v22 =>
 @bcond Ans v22 (
 @AM.bind AV Ans (iaddrS 2 v18 v21) fun v23 =>
 @AM.bind AV Ans (ldN 2 v23) fun v24 =>
 @AM.bind AV Ans (nw [(.str []), (.str [])]) fun v25 =>
 @AM.bind AV Ans (unit2 (stN 2 v25 v24)) fun _ =>
 @AM.bind AV Ans (faddr 0 v25) fun v26 =>
 @AM.bind AV Ans (ld v26) fun v27 =>
 @AM.bind AV Ans (faddr 1 v25) fun v28 =>
 @AM.bind AV Ans (ld v28) fun v29 =>
 @AM.bind AV Ans (bsl [(.str []), (.str []), (.str [])] [(0, 1, v27), (1, 1, (.str [58,32])), (2, 1, v29)] 3 1) fun v30 =>
 @AM.bind AV Ans (callA C (.func (.func 161) [] [v4]) [v30]) fun v31 =>
 @AM.bind AV Ans (bn Tryz.prog .add 3 true v21 (.int .i64 (.ofNat 1))) fun v32 =>
 @AM.ret Ans (0, [v32])) (
 @AM.ret Ans (2, [v21]))) (g0 l20 0)) [(.int .i64 (.ofNat 0))]) fun r33 =>
 cond (Nat.beq r33.1 2) (
 (fun (v34 : AV) =>
 @AM.bind AV AV (faddr 3 v0) fun v35 =>
 @AM.bind AV AV (ld v35) fun v36 =>
 @AM.bind AV AV (lenSl v36) fun v37 =>
 @AM.bind AV AV (bn Tryz.prog .gtr 3 true v37 (.int .i64 (.ofNat 0))) fun v38 =>
 @AM.bind AV AV (guardA v38 true (.ret a2)) fun v39 =>
 @AM.bind AV AV (guardA v38 true (bn Tryz.prog .gtr 3 true v39 (.int .i64 (.ofNat 0)))) fun v40 =>
 @AM.bind AV AV (pickA v38 v40 (.bool false)) fun v41 =>
 @AM.bind AV AV (faddr 0 v0) fun v42 =>
 @AM.bind AV AV (ld v42) fun v43 =>
 @AM.bind AV AV (C 112 [v43]) fun v44 =>
 @AM.bind Ans AV (@bcond Ans v44 (
 @AM.ret Ans (0, [])) (
 @bcond Ans v41 (
 @AM.bind AV Ans (bsl [(.str []), (.str [])] [(0, 1, (.str [84,114,97,110,115,102,101,114,45,69,110,99,111,100,105,110,103])), (1, 1, (.str [58,32,99,104,117,110,107,101,100]))] 2 1) fun v45 =>
 @AM.bind AV Ans (callA C (.func (.func 161) [] [v4]) [v45]) fun v46 =>
 @AM.ret Ans (0, [])) (
 @AM.bind AV Ans (faddr 2 v0) fun v47 =>
 @AM.bind AV Ans (ld v47) fun v48 =>
 @AM.bind AV Ans (lenSl v48) fun v49 =>
 @AM.bind AV Ans (C 114 [v49]) fun v50 =>
 @AM.bind AV Ans (bsl [(.str []), (.str []), (.str [])] [(0, 1, (.str [67,111,110,116,101,110,116,45,76,101,110,103,116,104])), (1, 1, (.str [58,32])), (2, 1, v50)] 3 1) fun v51 =>
 @AM.bind AV Ans (callA C (.func (.func 161) [] [v4]) [v51]) fun v52 =>
 @AM.ret Ans (0, [])))) fun r53 =>
 cond (Nat.beq r53.1 0) (
 @AM.bind Ans AV (@bcond Ans a3 (
 @AM.bind AV Ans (bsl [(.str []), (.str [])] [(0, 1, (.str [67,111,110,110,101,99,116,105,111,110])), (1, 1, (.str [58,32,99,108,111,115,101]))] 2 1) fun v54 =>
 @AM.bind AV Ans (callA C (.func (.func 161) [] [v4]) [v54]) fun v55 =>
 @AM.ret Ans (0, [])) (
 @AM.bind AV Ans (bn Tryz.prog .lss 3 true a2 (.int .i64 (.ofNat 1))) fun v56 =>
 @bcond Ans v56 (
 @AM.bind AV Ans (bsl [(.str []), (.str [])] [(0, 1, (.str [67,111,110,110,101,99,116,105,111,110])), (1, 1, (.str [58,32,107,101,101,112,45,97,108,105,118,101]))] 2 1) fun v57 =>
 @AM.bind AV Ans (callA C (.func (.func 161) [] [v4]) [v57]) fun v58 =>
 @AM.ret Ans (0, [])) (
 @AM.ret Ans (0, [])))) fun r59 =>
 cond (Nat.beq r59.1 0) (
 @AM.bind AV AV (callA C (.func (.func 161) [] [v4]) [.snil]) fun v60 =>
 @AM.bind AV AV (guardA a1 false (faddr 0 v0)) fun v61 =>
 @AM.bind AV AV (guardA a1 false (ld v61)) fun v62 =>
 @AM.bind AV AV (guardA a1 false (C 112 [v62])) fun v63 =>
 @AM.bind AV AV (pickA a1 (.bool true) v63) fun v64 =>
 @AM.bind Ans AV (@bcond Ans v64 (
 @AM.ret Ans (0, [])) (
 @bcond Ans v41 (
 fun h66 => @bindP AV Ans false (ld v4) (fun v65 =>
 @bindP AV Ans false (ldN 4 v0) fun v68 =>
 fun h70 => @bindP AV Ans true (C 163 [v68]) (fun v69 h71 => cond (Nat.ble h70.next h71.next && (AV.under h66.next v65 && (sameS (ld v4) v65 h71 && true))) ((
 fun h73 => @bindP AV Ans true (C 162 [v69]) (fun v72 h74 => cond (Nat.ble h73.next h74.next && (AV.under h66.next v65 && (sameS (ld v4) v65 h74 && true))) ((
 @heavyA true (apnd 1 v65 v72) Ans fun v75 =>
 @heavyA true (unit2 (st v4 v75)) Ans fun _ =>
 @AM.ret Ans (0, [])) h74) .bad) h73) h71) .bad) h70) h66) (
 @AM.bind AV Ans (ld v4) fun v76 =>
 @AM.bind AV Ans (faddr 2 v0) fun v77 =>
 @AM.bind AV Ans (ld v77) fun v78 =>
 @AM.bind AV Ans (apnd 1 v76 v78) fun v79 =>
 @AM.bind AV Ans (unit2 (st v4 v79)) fun _ =>
 @AM.ret Ans (0, [])))) fun r80 =>
 cond (Nat.beq r80.1 0) (
 @AM.bind AV AV (ld v4) fun v81 =>
 @AM.bind AV AV (lenSl v81) fun v82 =>
 @AM.bind AV AV (bn Tryz.prog .gtr 3 true v82 (.int .i64 (.ofNat 65536))) fun v83 =>
 @bcond AV v83 (
 @AM.ret AV (.tuple (.snil :: ((.int .i64 (.ofNat 9)) :: [])))) (
 @AM.bind AV AV (ld v4) fun v84 =>
 @AM.ret AV (.tuple (v84 :: ((.int .i64 (.ofNat 0)) :: []))))) (.bad)) (.bad)) (.bad)) (g0 r33.2 0)) (.bad)) h13) .bad) h12) h9) .bad) h8)
/- (*usher/outq.Queue).Add -/
noncomputable def F111 (C : CallOp) (Lp : LoopOp) (a0 a1 : AV) : AM AV :=
 @AM.bind AV AV (bn Tryz.prog .eql 38 true a0 (.ptr none)) fun v0 =>
 @bcond AV v0 (
 @AM.ret AV (.int .i64 (.ofNat 0))) (
 @AM.bind AV AV (nilC a0) fun v1 =>
 @AM.bind AV AV (faddr 0 v1) fun v2 =>
 @AM.bind AV AV (ld v2) fun v3 =>
 @AM.bind AV AV (lenSl v3) fun v4 =>
 @AM.bind AV AV (lenSl a1) fun v5 =>
 @AM.bind Ans AV (Lp (fun l6 =>
 (fun (v7 : AV) =>
 @AM.bind AV Ans (bn Tryz.prog .lss 3 false v7 v5) fun v8 =>
 @bcond Ans v8 (
 @AM.bind AV Ans (iaddrS 1 a1 v7) fun v9 =>
 @AM.bind AV Ans (ld v9) fun v10 =>
 @AM.bind AV Ans (nilC a0) fun v11 =>
 @AM.bind AV Ans (faddr 0 v11) fun v12 =>
 @AM.bind AV Ans (ld v12) fun v13 =>
 @AM.bind AV Ans (apnd 1 v13 v10) fun v14 =>
 @AM.bind AV Ans (nilC a0) fun v15 =>
 @AM.bind AV Ans (faddr 0 v15) fun v16 =>
 @AM.bind AV Ans (unit2 (st v16 v14)) fun _ =>
 @AM.bind AV Ans (bn Tryz.prog .add 3 true v7 (.int .i64 (.ofNat 1))) fun v17 =>
 @AM.ret Ans (0, [v17])) (
 @AM.ret Ans (2, [v7]))) (g0 l6 0)) [(.int .i64 (.ofNat 0))]) fun r18 =>
 cond (Nat.beq r18.1 2) (
 (fun (v19 : AV) =>
 @AM.bind AV AV (nilC a0) fun v20 =>
 @AM.bind AV AV (faddr 2 v20) fun v21 =>
 @AM.bind AV AV (ld v21) fun v22 =>
 @AM.bind AV AV (bn Tryz.prog .add 3 true v22 (.int .i64 (.ofNat 1))) fun v23 =>
 @AM.bind AV AV (nilC a0) fun v24 =>
 @AM.bind AV AV (faddr 2 v24) fun v25 =>
 @AM.bind AV AV (unit2 (st v25 v23)) fun _ =>
 @bindP AV AV false (nilC a0) fun v26 =>
 @bindP AV AV false (faddr 1 v26) fun v27 =>
 @bindP AV AV false (ld v27) fun v28 =>
 @bindP AV AV false (nilC a0) fun v29 =>
 @bindP AV AV false (faddr 2 v29) fun v30 =>
 @bindP AV AV false (ld v30) fun v31 =>
 @bindP AV AV false (nilC a0) fun v32 =>
 @bindP AV AV false (faddr 0 v32) fun v33 =>
 @bindP AV AV false (ld v33) fun v34 =>
 @bindP AV AV false (lenSl v34) fun v35 =>
 @bindP AV AV false (bn Tryz.prog .sub 3 false v35 v4) fun v36 =>
 @bindP AV AV false (bld [(.int .i64 (.ofNat 0)), (.int .i64 (.ofNat 0))] [(0, 1, v31), (1, 1, v36)]) fun v37 =>
 @bindP AV AV false (bsl [(.int .i64 (.ofNat 0)), (.int .i64 (.ofNat 0))] [(0, 2, v37)] 1 2) fun v38 =>
 @heavyA true (apnd 2 v28 v38) AV fun v39 =>
 @bindP AV AV false (nilC a0) fun v40 =>
 @bindP AV AV false (faddr 1 v40) fun v41 =>
 @heavyA true (unit2 (st v41 v39)) AV fun _ =>
 @AM.bind AV AV (nilC a0) fun v42 =>
 @AM.bind AV AV (faddr 2 v42) fun v43 =>
 @AM.bind AV AV (ld v43) fun v44 =>
 @AM.ret AV v44) (g0 r18.2 0)) (.bad))
/- usher/status.NoBody -/
noncomputable def F112 (C : CallOp) (Lp : LoopOp) (a0 : AV) : AM AV :=
 @AM.bind AV AV (bn Tryz.prog .eql 3 true a0 (.int .i64 (.ofNat 204))) fun v0 =>
 @AM.bind AV AV (guardA v0 false (.ret a0)) fun v1 =>
 @AM.bind AV AV (guardA v0 false (bn Tryz.prog .eql 3 true v1 (.int .i64 (.ofNat 304)))) fun v2 =>
 @AM.bind AV AV (pickA v0 (.bool true) v2) fun v3 =>
 @AM.bind AV AV (guardA v3 false (.ret a0)) fun v4 =>
 @AM.bind AV AV (guardA v3 false (bn Tryz.prog .geq 3 true v4 (.int .i64 (.ofNat 100)))) fun v5 =>
 @AM.bind AV AV (guardA v3 false (.ret v5)) fun v6 =>
 @AM.bind AV AV (guardA v6 true (.ret a0)) fun v7 =>
 @AM.bind AV AV (guardA v6 true (bn Tryz.prog .leq 3 true v7 (.int .i64 (.ofNat 199)))) fun v8 =>
 @AM.bind AV AV (guardA v3 false (pickA v6 v8 (.bool false))) fun v9 =>
 @AM.bind AV AV (pickA v3 (.bool true) v9) fun v10 =>
 @AM.ret AV v10
/- usher/ascii.Join -/
noncomputable def F113 (C : CallOp) (Lp : LoopOp) (a0 : AV) : AM AV :=
 @AM.bind AV AV (C 164 [a0, (.str [])]) fun v0 =>
 @AM.ret AV v0
/- usher/ascii.Dec -/
noncomputable def F114 (C : CallOp) (Lp : LoopOp) (a0 : AV) : AM AV :=
 @AM.bind AV AV (ofOpt (maxA (.int .i64 (.ofNat 0)) [a0])) fun v0 =>
 @AM.bind AV AV (C 165 [v0]) fun v1 =>
 @AM.ret AV v1
/- usher/status.Phrase -/
noncomputable def F115 (C : CallOp) (Lp : LoopOp) (a0 : AV) : AM AV :=
 @AM.bind AV AV (bn Tryz.prog .eql 3 true a0 (.int .i64 (.ofNat 100))) fun v0 =>
 @bcond AV v0 (
 @AM.ret AV (.str [67,111,110,116,105,110,117,101])) (
 @AM.bind AV AV (bn Tryz.prog .eql 3 true a0 (.int .i64 (.ofNat 200))) fun v1 =>
 @bcond AV v1 (
 @AM.ret AV (.str [79,75])) (
 @AM.bind AV AV (bn Tryz.prog .eql 3 true a0 (.int .i64 (.ofNat 204))) fun v2 =>
 @bcond AV v2 (
 @AM.ret AV (.str [78,111,32,67,111,110,116,101,110,116])) (
 @AM.bind AV AV (bn Tryz.prog .eql 3 true a0 (.int .i64 (.ofNat 304))) fun v3 =>
 @bcond AV v3 (
 @AM.ret AV (.str [78,111,116,32,77,111,100,105,102,105,101,100])) (
 @AM.bind AV AV (bn Tryz.prog .eql 3 true a0 (.int .i64 (.ofNat 400))) fun v4 =>
 @bcond AV v4 (
 @AM.ret AV (.str [66,97,100,32,82,101,113,117,101,115,116])) (
 @AM.bind AV AV (bn Tryz.prog .eql 3 true a0 (.int .i64 (.ofNat 404))) fun v5 =>
 @bcond AV v5 (
 @AM.ret AV (.str [78,111,116,32,70,111,117,110,100])) (
 @AM.bind AV AV (bn Tryz.prog .eql 3 true a0 (.int .i64 (.ofNat 405))) fun v6 =>
 @bcond AV v6 (
 @AM.ret AV (.str [77,101,116,104,111,100,32,78,111,116,32,65,108,108,111,119,101,100])) (
 @AM.bind AV AV (bn Tryz.prog .eql 3 true a0 (.int .i64 (.ofNat 408))) fun v7 =>
 @bcond AV v7 (
 @AM.ret AV (.str [82,101,113,117,101,115,116,32,84,105,109,101,111,117,116])) (
 @AM.bind AV AV (bn Tryz.prog .eql 3 true a0 (.int .i64 (.ofNat 413))) fun v8 =>
 @bcond AV v8 (
 @AM.ret AV (.str [67,111,110,116,101,110,116,32,84,111,111,32,76,97,114,103,101])) (
 @AM.bind AV AV (bn Tryz.prog .eql 3 true a0 (.int .i64 (.ofNat 414))) fun v9 =>
 @bcond AV v9 (
 @AM.ret AV (.str [85,82,73,32,84,111,111,32,76,111,110,103])) (
 @AM.bind AV AV (bn Tryz.prog .eql 3 true a0 (.int .i64 (.ofNat 417))) fun v10 =>
 @bcond AV v10 (
 @AM.ret AV (.str [69,120,112,101,99,116,97,116,105,111,110,32,70,97,105,108,101,100])) (
 @AM.bind AV AV (bn Tryz.prog .eql 3 true a0 (.int .i64 (.ofNat 431))) fun v11 =>
 @bcond AV v11 (
 @AM.ret AV (.str [82,101,113,117,101,115,116,32,72,101,97,100,101,114,32,70,105,101,108,100,115,32,84,111,111,32,76,97,114,103,101])) (
 @AM.bind AV AV (bn Tryz.prog .eql 3 true a0 (.int .i64 (.ofNat 501))) fun v12 =>
 @bcond AV v12 (
 @AM.ret AV (.str [78,111,116,32,73,109,112,108,101,109,101,110,116,101,100])) (
 @AM.bind AV AV (bn Tryz.prog .eql 3 true a0 (.int .i64 (.ofNat 503))) fun v13 =>
 @bcond AV v13 (
 @AM.ret AV (.str [83,101,114,118,105,99,101,32,85,110,97,118,97,105,108,97,98,108,101])) (
 @AM.bind AV AV (bn Tryz.prog .eql 3 true a0 (.int .i64 (.ofNat 505))) fun v14 =>
 @bcond AV v14 (
 @AM.ret AV (.str [72,84,84,80,32,86,101,114,115,105,111,110,32,78,111,116,32,83,117,112,112,111,114,116,101,100])) (
 @AM.ret AV (.str [83,116,97,116,117,115]))))))))))))))))
end Go.Am
