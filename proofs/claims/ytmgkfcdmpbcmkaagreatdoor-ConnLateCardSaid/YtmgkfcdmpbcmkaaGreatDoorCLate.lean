/- usherlaw21.ConnLate: whatever the input, the call returns true, and each argument reads behind it as it read before. Conditions: the row's own (the package-level variables start as the program's text lays them). -/
import Derived.Test.YtmgkfcdmpbcmkaaGreatDoorK
import Derived.Test.YtmgkfcdmpbcmkaaGreatDoorLa0
import Derived.Test.YtmgkfcdmpbcmkaaGreatDoorLa1
import Derived.Test.YtmgkfcdmpbcmkaaGreatDoorLa2
import Derived.Test.YtmgkfcdmpbcmkaaGreatDoorLa3
namespace Go.Am
open Go.Proofs Go.Proofs.YtmgkfcdmpbcmkaaGreatDoor Go.ChangeShapes Go.WideShapes Go.ChangeAt Go.RowKit
set_option maxRecDepth 1000000
set_option linter.unusedVariables false
noncomputable def lateA (C : CallOp) (Lp : LoopOp) (a0 a1 v0 : AV) : AM AV :=
 @AM.bind AV AV (guardA v0 false (.ret a1)) fun v1 =>
 @AM.bind AV AV (guardA v0 false (bn Tryz.prog .gtr 3 true v1 (.int .i64 (.ofNat 19)))) fun v2 =>
 @AM.bind AV AV (pickA v0 (.bool true) v2) fun v3 =>
 @bcond AV v3 (
 @AM.bind AV AV (C 12 []) fun v4 =>
 @AM.ret AV v4) (
 @AM.bind AV AV (C 14 []) fun v5 =>
 @AM.bind AV AV (C 13 [v5, (.int .i64 (.ofNat 256))]) fun v6 =>
 @AM.bind AV AV (extA v6 0) fun v7 =>
 @AM.bind AV AV (extA v6 1) fun v8 =>
 @AM.bind AV AV (un .not v8) fun v9 =>
 @AM.bind AV AV (guardA v9 false (.ret v7)) fun v10 =>
 @AM.bind AV AV (guardA v9 false (nilC v10)) fun v11 =>
 @AM.bind AV AV (guardA v9 false (faddr 0 v11)) fun v12 =>
 @AM.bind AV AV (guardA v9 false (ld v12)) fun v13 =>
 @AM.bind AV AV (guardA v9 false (bn Tryz.prog .eql 32 true v13 (.ptr none))) fun v14 =>
 @AM.bind AV AV (pickA v9 (.bool true) v14) fun v15 =>
 @bcond AV v15 (
 @AM.ret AV (.bool false)) (
 @AM.bind AV AV (bsl [(.int .u8 (.ofNat 0)), (.int .u8 (.ofNat 0)), (.int .u8 (.ofNat 0)), (.int .u8 (.ofNat 0)), (.int .u8 (.ofNat 0)), (.int .u8 (.ofNat 0)), (.int .u8 (.ofNat 0)), (.int .u8 (.ofNat 0)), (.int .u8 (.ofNat 0)), (.int .u8 (.ofNat 0)), (.int .u8 (.ofNat 0)), (.int .u8 (.ofNat 0)), (.int .u8 (.ofNat 0)), (.int .u8 (.ofNat 0)), (.int .u8 (.ofNat 0)), (.int .u8 (.ofNat 0)), (.int .u8 (.ofNat 0)), (.int .u8 (.ofNat 0)), (.int .u8 (.ofNat 0)), (.int .u8 (.ofNat 0)), (.int .u8 (.ofNat 0)), (.int .u8 (.ofNat 0)), (.int .u8 (.ofNat 0)), (.int .u8 (.ofNat 0)), (.int .u8 (.ofNat 0)), (.int .u8 (.ofNat 0)), (.int .u8 (.ofNat 0)), (.int .u8 (.ofNat 0))] [(0, 1, (.int .u8 (.ofNat 71))), (1, 1, (.int .u8 (.ofNat 69))), (2, 1, (.int .u8 (.ofNat 84))), (3, 1, (.int .u8 (.ofNat 32))), (4, 1, (.int .u8 (.ofNat 47))), (5, 1, (.int .u8 (.ofNat 32))), (6, 1, (.int .u8 (.ofNat 72))), (7, 1, (.int .u8 (.ofNat 84))), (8, 1, (.int .u8 (.ofNat 84))), (9, 1, (.int .u8 (.ofNat 80))), (10, 1, (.int .u8 (.ofNat 47))), (11, 1, (.int .u8 (.ofNat 49))), (12, 1, (.int .u8 (.ofNat 46))), (13, 1, (.int .u8 (.ofNat 49))), (14, 1, (.int .u8 (.ofNat 13))), (15, 1, (.int .u8 (.ofNat 10))), (16, 1, (.int .u8 (.ofNat 72))), (17, 1, (.int .u8 (.ofNat 111))), (18, 1, (.int .u8 (.ofNat 115))), (19, 1, (.int .u8 (.ofNat 116))), (20, 1, (.int .u8 (.ofNat 58))), (21, 1, (.int .u8 (.ofNat 32))), (22, 1, (.int .u8 (.ofNat 97))), (23, 1, (.int .u8 (.ofNat 13))), (24, 1, (.int .u8 (.ofNat 10))), (25, 1, (.int .u8 (.ofNat 88))), (26, 1, (.int .u8 (.ofNat 58))), (27, 1, (.int .u8 (.ofNat 32)))] 28 1) fun v16 =>
 @AM.bind AV AV (convA Tryz.prog 22 22 v16) fun v17 =>
 @AM.bind Ans AV (@bcond Ans a0 (
 @AM.bind AV Ans (bsl [(.int .u8 (.ofNat 0)), (.int .u8 (.ofNat 0)), (.int .u8 (.ofNat 0)), (.int .u8 (.ofNat 0)), (.int .u8 (.ofNat 0)), (.int .u8 (.ofNat 0)), (.int .u8 (.ofNat 0)), (.int .u8 (.ofNat 0)), (.int .u8 (.ofNat 0)), (.int .u8 (.ofNat 0)), (.int .u8 (.ofNat 0)), (.int .u8 (.ofNat 0)), (.int .u8 (.ofNat 0)), (.int .u8 (.ofNat 0)), (.int .u8 (.ofNat 0)), (.int .u8 (.ofNat 0)), (.int .u8 (.ofNat 0)), (.int .u8 (.ofNat 0)), (.int .u8 (.ofNat 0)), (.int .u8 (.ofNat 0)), (.int .u8 (.ofNat 0)), (.int .u8 (.ofNat 0)), (.int .u8 (.ofNat 0)), (.int .u8 (.ofNat 0)), (.int .u8 (.ofNat 0)), (.int .u8 (.ofNat 0)), (.int .u8 (.ofNat 0)), (.int .u8 (.ofNat 0)), (.int .u8 (.ofNat 0)), (.int .u8 (.ofNat 0)), (.int .u8 (.ofNat 0)), (.int .u8 (.ofNat 0)), (.int .u8 (.ofNat 0)), (.int .u8 (.ofNat 0)), (.int .u8 (.ofNat 0)), (.int .u8 (.ofNat 0)), (.int .u8 (.ofNat 0)), (.int .u8 (.ofNat 0)), (.int .u8 (.ofNat 0)), (.int .u8 (.ofNat 0)), (.int .u8 (.ofNat 0)), (.int .u8 (.ofNat 0)), (.int .u8 (.ofNat 0)), (.int .u8 (.ofNat 0)), (.int .u8 (.ofNat 0)), (.int .u8 (.ofNat 0)), (.int .u8 (.ofNat 0)), (.int .u8 (.ofNat 0)), (.int .u8 (.ofNat 0)), (.int .u8 (.ofNat 0)), (.int .u8 (.ofNat 0)), (.int .u8 (.ofNat 0))] [(0, 1, (.int .u8 (.ofNat 80))), (1, 1, (.int .u8 (.ofNat 79))), (2, 1, (.int .u8 (.ofNat 83))), (3, 1, (.int .u8 (.ofNat 84))), (4, 1, (.int .u8 (.ofNat 32))), (5, 1, (.int .u8 (.ofNat 47))), (6, 1, (.int .u8 (.ofNat 101))), (7, 1, (.int .u8 (.ofNat 99))), (8, 1, (.int .u8 (.ofNat 104))), (9, 1, (.int .u8 (.ofNat 111))), (10, 1, (.int .u8 (.ofNat 32))), (11, 1, (.int .u8 (.ofNat 72))), (12, 1, (.int .u8 (.ofNat 84))), (13, 1, (.int .u8 (.ofNat 84))), (14, 1, (.int .u8 (.ofNat 80))), (15, 1, (.int .u8 (.ofNat 47))), (16, 1, (.int .u8 (.ofNat 49))), (17, 1, (.int .u8 (.ofNat 46))), (18, 1, (.int .u8 (.ofNat 49))), (19, 1, (.int .u8 (.ofNat 13))), (20, 1, (.int .u8 (.ofNat 10))), (21, 1, (.int .u8 (.ofNat 72))), (22, 1, (.int .u8 (.ofNat 111))), (23, 1, (.int .u8 (.ofNat 115))), (24, 1, (.int .u8 (.ofNat 116))), (25, 1, (.int .u8 (.ofNat 58))), (26, 1, (.int .u8 (.ofNat 32))), (27, 1, (.int .u8 (.ofNat 97))), (28, 1, (.int .u8 (.ofNat 13))), (29, 1, (.int .u8 (.ofNat 10))), (30, 1, (.int .u8 (.ofNat 67))), (31, 1, (.int .u8 (.ofNat 111))), (32, 1, (.int .u8 (.ofNat 110))), (33, 1, (.int .u8 (.ofNat 116))), (34, 1, (.int .u8 (.ofNat 101))), (35, 1, (.int .u8 (.ofNat 110))), (36, 1, (.int .u8 (.ofNat 116))), (37, 1, (.int .u8 (.ofNat 45))), (38, 1, (.int .u8 (.ofNat 76))), (39, 1, (.int .u8 (.ofNat 101))), (40, 1, (.int .u8 (.ofNat 110))), (41, 1, (.int .u8 (.ofNat 103))), (42, 1, (.int .u8 (.ofNat 116))), (43, 1, (.int .u8 (.ofNat 104))), (44, 1, (.int .u8 (.ofNat 58))), (45, 1, (.int .u8 (.ofNat 32))), (46, 1, (.int .u8 (.ofNat 57))), (47, 1, (.int .u8 (.ofNat 48))), (48, 1, (.int .u8 (.ofNat 13))), (49, 1, (.int .u8 (.ofNat 10))), (50, 1, (.int .u8 (.ofNat 13))), (51, 1, (.int .u8 (.ofNat 10)))] 52 1) fun v18 =>
 @AM.bind AV Ans (convA Tryz.prog 22 22 v18) fun v19 =>
 @AM.ret Ans (0, [v19, (.int .i64 (.ofNat 30))])) (
 @AM.ret Ans (0, [v17, (.int .i64 (.ofNat 20))]))) fun r20 =>
 cond (Nat.beq r20.1 0) (
 (fun (v21 v22 : AV) =>
 @AM.bind AV AV (nilC v7) fun v23 =>
 @AM.bind AV AV (faddr 0 v23) fun v24 =>
 @AM.bind AV AV (ld v24) fun v25 =>
 @AM.bind AV AV (C 15 [v25, v21, (.int .i64 (.ofNat 0))]) fun v26 =>
 @AM.bind Ans AV (Lp (fun l27 =>
 (fun (v28 v29 : AV) =>
 @AM.bind AV Ans (bn Tryz.prog .lss 3 false v29 v22) fun v30 =>
 @bcond Ans v30 (
 @AM.bind AV Ans (bn Tryz.prog .rem 3 false v29 a1) fun v31 =>
 @AM.bind AV Ans (bn Tryz.prog .eql 3 true v31 (.int .i64 (.ofNat 0))) fun v32 =>
 @AM.bind Ans Ans (@bcond Ans v32 (
 @AM.bind AV Ans (nilC v7) fun v33 =>
 @AM.bind AV Ans (faddr 0 v33) fun v34 =>
 @AM.bind AV Ans (ld v34) fun v35 =>
 @AM.bind AV Ans (bsl [(.int .u8 (.ofNat 0))] [(0, 1, (.int .u8 (.ofNat 120)))] 1 1) fun v36 =>
 @AM.bind AV Ans (C 15 [v35, v36, v29]) fun v37 =>
 @AM.ret Ans (0, [])) (
 @AM.ret Ans (0, []))) fun r38 =>
 cond (Nat.beq r38.1 0) (
 @AM.bind AV Ans (nilC v7) fun v39 =>
 @AM.bind AV Ans (faddr 0 v39) fun v40 =>
 @AM.bind AV Ans (ld v40) fun v41 =>
 @AM.bind AV Ans (C 23 [v41, v29]) fun v42 =>
 @AM.bind AV Ans (nilC v7) fun v43 =>
 @AM.bind AV Ans (faddr 0 v43) fun v44 =>
 @AM.bind AV Ans (ld v44) fun v45 =>
 @AM.bind AV Ans (C 24 [v45]) fun v46 =>
 @AM.bind AV Ans (extA v46 0) fun v47 =>
 @AM.bind AV Ans (extA v46 1) fun v48 =>
 @AM.bind AV Ans (un .not v48) fun v49 =>
 @AM.bind AV Ans (guardA v49 false (.ret v47)) fun v50 =>
 @AM.bind AV Ans (guardA v49 false (.ret v22)) fun v51 =>
 @AM.bind AV Ans (guardA v49 false (bn Tryz.prog .neq 3 false v50 v51)) fun v52 =>
 @AM.bind AV Ans (pickA v49 (.bool true) v52) fun v53 =>
 @AM.bind AV Ans (guardA v53 false (.ret v7)) fun v54 =>
 @AM.bind AV Ans (guardA v53 false (nilC v54)) fun v55 =>
 @AM.bind AV Ans (guardA v53 false (faddr 0 v55)) fun v56 =>
 @AM.bind AV Ans (guardA v53 false (ld v56)) fun v57 =>
 @AM.bind AV Ans (guardA v53 false (nilC v57)) fun v58 =>
 @AM.bind AV Ans (guardA v53 false (faddr 0 v58)) fun v59 =>
 @AM.bind AV Ans (guardA v53 false (ld v59)) fun v60 =>
 @AM.bind AV Ans (guardA v53 false (C 16 [v60])) fun v61 =>
 @AM.bind AV Ans (guardA v53 false (bn Tryz.prog .neq 3 true v61 (.int .i64 (.ofNat 0)))) fun v62 =>
 @AM.bind AV Ans (pickA v53 (.bool true) v62) fun v63 =>
 @bcond Ans v63 (
 @AM.ret Ans (1, [(.bool false), v29])) (
 @AM.bind AV Ans (bn Tryz.prog .add 3 true v29 (.int .i64 (.ofNat 1))) fun v64 =>
 @AM.ret Ans (0, [v28, v64]))) (.bad)) (
 @AM.ret Ans (2, [v28, v29]))) (g0 l27 0) (g0 l27 1)) [(.bool false), (.int .i64 (.ofNat 1))]) fun r65 =>
 cond (Nat.beq r65.1 2) (
 (fun (v66 v67 : AV) =>
 @AM.bind AV AV (nilC v7) fun v68 =>
 @AM.bind AV AV (faddr 0 v68) fun v69 =>
 @AM.bind AV AV (ld v69) fun v70 =>
 @AM.bind AV AV (C 23 [v70, v22]) fun v71 =>
 @AM.bind AV AV (nilC v7) fun v72 =>
 @AM.bind AV AV (faddr 0 v72) fun v73 =>
 @AM.bind AV AV (ld v73) fun v74 =>
 @AM.bind AV AV (C 25 [v74]) fun v75 =>
 @AM.bind AV AV (extA v75 0) fun v76 =>
 @AM.bind AV AV (extA v75 1) fun v77 =>
 @AM.bind AV AV (bn Tryz.prog .eql 3 true v76 (.int .i64 (.ofNat 3))) fun v78 =>
 @AM.bind AV AV (guardA v78 true (.ret v77)) fun v79 =>
 @AM.bind AV AV (guardA v78 true (.ret v22)) fun v80 =>
 @AM.bind AV AV (guardA v78 true (bn Tryz.prog .eql 3 false v79 v80)) fun v81 =>
 @AM.bind AV AV (pickA v78 v81 (.bool false)) fun v82 =>
 @AM.bind AV AV (guardA v82 true (.ret v7)) fun v83 =>
 @AM.bind AV AV (guardA v82 true (nilC v83)) fun v84 =>
 @AM.bind AV AV (guardA v82 true (faddr 0 v84)) fun v85 =>
 @AM.bind AV AV (guardA v82 true (ld v85)) fun v86 =>
 @AM.bind AV AV (guardA v82 true (nilC v86)) fun v87 =>
 @AM.bind AV AV (guardA v82 true (faddr 0 v87)) fun v88 =>
 @AM.bind AV AV (guardA v82 true (ld v88)) fun v89 =>
 @AM.bind AV AV (guardA v82 true (C 17 [v89, (.int .i64 (.ofNat 12))])) fun v90 =>
 @AM.bind AV AV (guardA v82 true (bsl [(.int .u8 (.ofNat 0)), (.int .u8 (.ofNat 0)), (.int .u8 (.ofNat 0)), (.int .u8 (.ofNat 0)), (.int .u8 (.ofNat 0)), (.int .u8 (.ofNat 0)), (.int .u8 (.ofNat 0)), (.int .u8 (.ofNat 0)), (.int .u8 (.ofNat 0)), (.int .u8 (.ofNat 0)), (.int .u8 (.ofNat 0)), (.int .u8 (.ofNat 0))] [(0, 1, (.int .u8 (.ofNat 72))), (1, 1, (.int .u8 (.ofNat 84))), (2, 1, (.int .u8 (.ofNat 84))), (3, 1, (.int .u8 (.ofNat 80))), (4, 1, (.int .u8 (.ofNat 47))), (5, 1, (.int .u8 (.ofNat 49))), (6, 1, (.int .u8 (.ofNat 46))), (7, 1, (.int .u8 (.ofNat 49))), (8, 1, (.int .u8 (.ofNat 32))), (9, 1, (.int .u8 (.ofNat 52))), (10, 1, (.int .u8 (.ofNat 48))), (11, 1, (.int .u8 (.ofNat 56)))] 12 1)) fun v91 =>
 @AM.bind AV AV (guardA v82 true (convA Tryz.prog 22 22 v91)) fun v92 =>
 @AM.bind AV AV (guardA v82 true (C 21 [v90, v92])) fun v93 =>
 @AM.bind AV AV (pickA v82 v93 (.bool false)) fun v94 =>
 @AM.bind AV AV (guardA v94 true (C 12 [])) fun v95 =>
 @AM.bind AV AV (pickA v94 v95 (.bool false)) fun v96 =>
 @AM.ret AV v96) (g0 r65.2 0) (g0 r65.2 1)) (cond (Nat.beq r65.1 1) (
 (fun (v97 v98 : AV) =>
 @AM.ret AV v97) (g0 r65.2 0) (g0 r65.2 1)) (.bad))) (g0 r20.2 0) (g0 r20.2 1)) (.bad)))
noncomputable def lateB (C : CallOp) (Lp : LoopOp) (a0 a1 v0 v2 : AV) : AM AV :=
 @AM.bind AV AV (pickA v0 (.bool true) v2) fun v3 =>
 @bcond AV v3 (
 @AM.bind AV AV (C 12 []) fun v4 =>
 @AM.ret AV v4) (
 @AM.bind AV AV (C 14 []) fun v5 =>
 @AM.bind AV AV (C 13 [v5, (.int .i64 (.ofNat 256))]) fun v6 =>
 @AM.bind AV AV (extA v6 0) fun v7 =>
 @AM.bind AV AV (extA v6 1) fun v8 =>
 @AM.bind AV AV (un .not v8) fun v9 =>
 @AM.bind AV AV (guardA v9 false (.ret v7)) fun v10 =>
 @AM.bind AV AV (guardA v9 false (nilC v10)) fun v11 =>
 @AM.bind AV AV (guardA v9 false (faddr 0 v11)) fun v12 =>
 @AM.bind AV AV (guardA v9 false (ld v12)) fun v13 =>
 @AM.bind AV AV (guardA v9 false (bn Tryz.prog .eql 32 true v13 (.ptr none))) fun v14 =>
 @AM.bind AV AV (pickA v9 (.bool true) v14) fun v15 =>
 @bcond AV v15 (
 @AM.ret AV (.bool false)) (
 @AM.bind AV AV (bsl [(.int .u8 (.ofNat 0)), (.int .u8 (.ofNat 0)), (.int .u8 (.ofNat 0)), (.int .u8 (.ofNat 0)), (.int .u8 (.ofNat 0)), (.int .u8 (.ofNat 0)), (.int .u8 (.ofNat 0)), (.int .u8 (.ofNat 0)), (.int .u8 (.ofNat 0)), (.int .u8 (.ofNat 0)), (.int .u8 (.ofNat 0)), (.int .u8 (.ofNat 0)), (.int .u8 (.ofNat 0)), (.int .u8 (.ofNat 0)), (.int .u8 (.ofNat 0)), (.int .u8 (.ofNat 0)), (.int .u8 (.ofNat 0)), (.int .u8 (.ofNat 0)), (.int .u8 (.ofNat 0)), (.int .u8 (.ofNat 0)), (.int .u8 (.ofNat 0)), (.int .u8 (.ofNat 0)), (.int .u8 (.ofNat 0)), (.int .u8 (.ofNat 0)), (.int .u8 (.ofNat 0)), (.int .u8 (.ofNat 0)), (.int .u8 (.ofNat 0)), (.int .u8 (.ofNat 0))] [(0, 1, (.int .u8 (.ofNat 71))), (1, 1, (.int .u8 (.ofNat 69))), (2, 1, (.int .u8 (.ofNat 84))), (3, 1, (.int .u8 (.ofNat 32))), (4, 1, (.int .u8 (.ofNat 47))), (5, 1, (.int .u8 (.ofNat 32))), (6, 1, (.int .u8 (.ofNat 72))), (7, 1, (.int .u8 (.ofNat 84))), (8, 1, (.int .u8 (.ofNat 84))), (9, 1, (.int .u8 (.ofNat 80))), (10, 1, (.int .u8 (.ofNat 47))), (11, 1, (.int .u8 (.ofNat 49))), (12, 1, (.int .u8 (.ofNat 46))), (13, 1, (.int .u8 (.ofNat 49))), (14, 1, (.int .u8 (.ofNat 13))), (15, 1, (.int .u8 (.ofNat 10))), (16, 1, (.int .u8 (.ofNat 72))), (17, 1, (.int .u8 (.ofNat 111))), (18, 1, (.int .u8 (.ofNat 115))), (19, 1, (.int .u8 (.ofNat 116))), (20, 1, (.int .u8 (.ofNat 58))), (21, 1, (.int .u8 (.ofNat 32))), (22, 1, (.int .u8 (.ofNat 97))), (23, 1, (.int .u8 (.ofNat 13))), (24, 1, (.int .u8 (.ofNat 10))), (25, 1, (.int .u8 (.ofNat 88))), (26, 1, (.int .u8 (.ofNat 58))), (27, 1, (.int .u8 (.ofNat 32)))] 28 1) fun v16 =>
 @AM.bind AV AV (convA Tryz.prog 22 22 v16) fun v17 =>
 @AM.bind Ans AV (@bcond Ans a0 (
 @AM.bind AV Ans (bsl [(.int .u8 (.ofNat 0)), (.int .u8 (.ofNat 0)), (.int .u8 (.ofNat 0)), (.int .u8 (.ofNat 0)), (.int .u8 (.ofNat 0)), (.int .u8 (.ofNat 0)), (.int .u8 (.ofNat 0)), (.int .u8 (.ofNat 0)), (.int .u8 (.ofNat 0)), (.int .u8 (.ofNat 0)), (.int .u8 (.ofNat 0)), (.int .u8 (.ofNat 0)), (.int .u8 (.ofNat 0)), (.int .u8 (.ofNat 0)), (.int .u8 (.ofNat 0)), (.int .u8 (.ofNat 0)), (.int .u8 (.ofNat 0)), (.int .u8 (.ofNat 0)), (.int .u8 (.ofNat 0)), (.int .u8 (.ofNat 0)), (.int .u8 (.ofNat 0)), (.int .u8 (.ofNat 0)), (.int .u8 (.ofNat 0)), (.int .u8 (.ofNat 0)), (.int .u8 (.ofNat 0)), (.int .u8 (.ofNat 0)), (.int .u8 (.ofNat 0)), (.int .u8 (.ofNat 0)), (.int .u8 (.ofNat 0)), (.int .u8 (.ofNat 0)), (.int .u8 (.ofNat 0)), (.int .u8 (.ofNat 0)), (.int .u8 (.ofNat 0)), (.int .u8 (.ofNat 0)), (.int .u8 (.ofNat 0)), (.int .u8 (.ofNat 0)), (.int .u8 (.ofNat 0)), (.int .u8 (.ofNat 0)), (.int .u8 (.ofNat 0)), (.int .u8 (.ofNat 0)), (.int .u8 (.ofNat 0)), (.int .u8 (.ofNat 0)), (.int .u8 (.ofNat 0)), (.int .u8 (.ofNat 0)), (.int .u8 (.ofNat 0)), (.int .u8 (.ofNat 0)), (.int .u8 (.ofNat 0)), (.int .u8 (.ofNat 0)), (.int .u8 (.ofNat 0)), (.int .u8 (.ofNat 0)), (.int .u8 (.ofNat 0)), (.int .u8 (.ofNat 0))] [(0, 1, (.int .u8 (.ofNat 80))), (1, 1, (.int .u8 (.ofNat 79))), (2, 1, (.int .u8 (.ofNat 83))), (3, 1, (.int .u8 (.ofNat 84))), (4, 1, (.int .u8 (.ofNat 32))), (5, 1, (.int .u8 (.ofNat 47))), (6, 1, (.int .u8 (.ofNat 101))), (7, 1, (.int .u8 (.ofNat 99))), (8, 1, (.int .u8 (.ofNat 104))), (9, 1, (.int .u8 (.ofNat 111))), (10, 1, (.int .u8 (.ofNat 32))), (11, 1, (.int .u8 (.ofNat 72))), (12, 1, (.int .u8 (.ofNat 84))), (13, 1, (.int .u8 (.ofNat 84))), (14, 1, (.int .u8 (.ofNat 80))), (15, 1, (.int .u8 (.ofNat 47))), (16, 1, (.int .u8 (.ofNat 49))), (17, 1, (.int .u8 (.ofNat 46))), (18, 1, (.int .u8 (.ofNat 49))), (19, 1, (.int .u8 (.ofNat 13))), (20, 1, (.int .u8 (.ofNat 10))), (21, 1, (.int .u8 (.ofNat 72))), (22, 1, (.int .u8 (.ofNat 111))), (23, 1, (.int .u8 (.ofNat 115))), (24, 1, (.int .u8 (.ofNat 116))), (25, 1, (.int .u8 (.ofNat 58))), (26, 1, (.int .u8 (.ofNat 32))), (27, 1, (.int .u8 (.ofNat 97))), (28, 1, (.int .u8 (.ofNat 13))), (29, 1, (.int .u8 (.ofNat 10))), (30, 1, (.int .u8 (.ofNat 67))), (31, 1, (.int .u8 (.ofNat 111))), (32, 1, (.int .u8 (.ofNat 110))), (33, 1, (.int .u8 (.ofNat 116))), (34, 1, (.int .u8 (.ofNat 101))), (35, 1, (.int .u8 (.ofNat 110))), (36, 1, (.int .u8 (.ofNat 116))), (37, 1, (.int .u8 (.ofNat 45))), (38, 1, (.int .u8 (.ofNat 76))), (39, 1, (.int .u8 (.ofNat 101))), (40, 1, (.int .u8 (.ofNat 110))), (41, 1, (.int .u8 (.ofNat 103))), (42, 1, (.int .u8 (.ofNat 116))), (43, 1, (.int .u8 (.ofNat 104))), (44, 1, (.int .u8 (.ofNat 58))), (45, 1, (.int .u8 (.ofNat 32))), (46, 1, (.int .u8 (.ofNat 57))), (47, 1, (.int .u8 (.ofNat 48))), (48, 1, (.int .u8 (.ofNat 13))), (49, 1, (.int .u8 (.ofNat 10))), (50, 1, (.int .u8 (.ofNat 13))), (51, 1, (.int .u8 (.ofNat 10)))] 52 1) fun v18 =>
 @AM.bind AV Ans (convA Tryz.prog 22 22 v18) fun v19 =>
 @AM.ret Ans (0, [v19, (.int .i64 (.ofNat 30))])) (
 @AM.ret Ans (0, [v17, (.int .i64 (.ofNat 20))]))) fun r20 =>
 cond (Nat.beq r20.1 0) (
 (fun (v21 v22 : AV) =>
 @AM.bind AV AV (nilC v7) fun v23 =>
 @AM.bind AV AV (faddr 0 v23) fun v24 =>
 @AM.bind AV AV (ld v24) fun v25 =>
 @AM.bind AV AV (C 15 [v25, v21, (.int .i64 (.ofNat 0))]) fun v26 =>
 @AM.bind Ans AV (Lp (fun l27 =>
 (fun (v28 v29 : AV) =>
 @AM.bind AV Ans (bn Tryz.prog .lss 3 false v29 v22) fun v30 =>
 @bcond Ans v30 (
 @AM.bind AV Ans (bn Tryz.prog .rem 3 false v29 a1) fun v31 =>
 @AM.bind AV Ans (bn Tryz.prog .eql 3 true v31 (.int .i64 (.ofNat 0))) fun v32 =>
 @AM.bind Ans Ans (@bcond Ans v32 (
 @AM.bind AV Ans (nilC v7) fun v33 =>
 @AM.bind AV Ans (faddr 0 v33) fun v34 =>
 @AM.bind AV Ans (ld v34) fun v35 =>
 @AM.bind AV Ans (bsl [(.int .u8 (.ofNat 0))] [(0, 1, (.int .u8 (.ofNat 120)))] 1 1) fun v36 =>
 @AM.bind AV Ans (C 15 [v35, v36, v29]) fun v37 =>
 @AM.ret Ans (0, [])) (
 @AM.ret Ans (0, []))) fun r38 =>
 cond (Nat.beq r38.1 0) (
 @AM.bind AV Ans (nilC v7) fun v39 =>
 @AM.bind AV Ans (faddr 0 v39) fun v40 =>
 @AM.bind AV Ans (ld v40) fun v41 =>
 @AM.bind AV Ans (C 23 [v41, v29]) fun v42 =>
 @AM.bind AV Ans (nilC v7) fun v43 =>
 @AM.bind AV Ans (faddr 0 v43) fun v44 =>
 @AM.bind AV Ans (ld v44) fun v45 =>
 @AM.bind AV Ans (C 24 [v45]) fun v46 =>
 @AM.bind AV Ans (extA v46 0) fun v47 =>
 @AM.bind AV Ans (extA v46 1) fun v48 =>
 @AM.bind AV Ans (un .not v48) fun v49 =>
 @AM.bind AV Ans (guardA v49 false (.ret v47)) fun v50 =>
 @AM.bind AV Ans (guardA v49 false (.ret v22)) fun v51 =>
 @AM.bind AV Ans (guardA v49 false (bn Tryz.prog .neq 3 false v50 v51)) fun v52 =>
 @AM.bind AV Ans (pickA v49 (.bool true) v52) fun v53 =>
 @AM.bind AV Ans (guardA v53 false (.ret v7)) fun v54 =>
 @AM.bind AV Ans (guardA v53 false (nilC v54)) fun v55 =>
 @AM.bind AV Ans (guardA v53 false (faddr 0 v55)) fun v56 =>
 @AM.bind AV Ans (guardA v53 false (ld v56)) fun v57 =>
 @AM.bind AV Ans (guardA v53 false (nilC v57)) fun v58 =>
 @AM.bind AV Ans (guardA v53 false (faddr 0 v58)) fun v59 =>
 @AM.bind AV Ans (guardA v53 false (ld v59)) fun v60 =>
 @AM.bind AV Ans (guardA v53 false (C 16 [v60])) fun v61 =>
 @AM.bind AV Ans (guardA v53 false (bn Tryz.prog .neq 3 true v61 (.int .i64 (.ofNat 0)))) fun v62 =>
 @AM.bind AV Ans (pickA v53 (.bool true) v62) fun v63 =>
 @bcond Ans v63 (
 @AM.ret Ans (1, [(.bool false), v29])) (
 @AM.bind AV Ans (bn Tryz.prog .add 3 true v29 (.int .i64 (.ofNat 1))) fun v64 =>
 @AM.ret Ans (0, [v28, v64]))) (.bad)) (
 @AM.ret Ans (2, [v28, v29]))) (g0 l27 0) (g0 l27 1)) [(.bool false), (.int .i64 (.ofNat 1))]) fun r65 =>
 cond (Nat.beq r65.1 2) (
 (fun (v66 v67 : AV) =>
 @AM.bind AV AV (nilC v7) fun v68 =>
 @AM.bind AV AV (faddr 0 v68) fun v69 =>
 @AM.bind AV AV (ld v69) fun v70 =>
 @AM.bind AV AV (C 23 [v70, v22]) fun v71 =>
 @AM.bind AV AV (nilC v7) fun v72 =>
 @AM.bind AV AV (faddr 0 v72) fun v73 =>
 @AM.bind AV AV (ld v73) fun v74 =>
 @AM.bind AV AV (C 25 [v74]) fun v75 =>
 @AM.bind AV AV (extA v75 0) fun v76 =>
 @AM.bind AV AV (extA v75 1) fun v77 =>
 @AM.bind AV AV (bn Tryz.prog .eql 3 true v76 (.int .i64 (.ofNat 3))) fun v78 =>
 @AM.bind AV AV (guardA v78 true (.ret v77)) fun v79 =>
 @AM.bind AV AV (guardA v78 true (.ret v22)) fun v80 =>
 @AM.bind AV AV (guardA v78 true (bn Tryz.prog .eql 3 false v79 v80)) fun v81 =>
 @AM.bind AV AV (pickA v78 v81 (.bool false)) fun v82 =>
 @AM.bind AV AV (guardA v82 true (.ret v7)) fun v83 =>
 @AM.bind AV AV (guardA v82 true (nilC v83)) fun v84 =>
 @AM.bind AV AV (guardA v82 true (faddr 0 v84)) fun v85 =>
 @AM.bind AV AV (guardA v82 true (ld v85)) fun v86 =>
 @AM.bind AV AV (guardA v82 true (nilC v86)) fun v87 =>
 @AM.bind AV AV (guardA v82 true (faddr 0 v87)) fun v88 =>
 @AM.bind AV AV (guardA v82 true (ld v88)) fun v89 =>
 @AM.bind AV AV (guardA v82 true (C 17 [v89, (.int .i64 (.ofNat 12))])) fun v90 =>
 @AM.bind AV AV (guardA v82 true (bsl [(.int .u8 (.ofNat 0)), (.int .u8 (.ofNat 0)), (.int .u8 (.ofNat 0)), (.int .u8 (.ofNat 0)), (.int .u8 (.ofNat 0)), (.int .u8 (.ofNat 0)), (.int .u8 (.ofNat 0)), (.int .u8 (.ofNat 0)), (.int .u8 (.ofNat 0)), (.int .u8 (.ofNat 0)), (.int .u8 (.ofNat 0)), (.int .u8 (.ofNat 0))] [(0, 1, (.int .u8 (.ofNat 72))), (1, 1, (.int .u8 (.ofNat 84))), (2, 1, (.int .u8 (.ofNat 84))), (3, 1, (.int .u8 (.ofNat 80))), (4, 1, (.int .u8 (.ofNat 47))), (5, 1, (.int .u8 (.ofNat 49))), (6, 1, (.int .u8 (.ofNat 46))), (7, 1, (.int .u8 (.ofNat 49))), (8, 1, (.int .u8 (.ofNat 32))), (9, 1, (.int .u8 (.ofNat 52))), (10, 1, (.int .u8 (.ofNat 48))), (11, 1, (.int .u8 (.ofNat 56)))] 12 1)) fun v91 =>
 @AM.bind AV AV (guardA v82 true (convA Tryz.prog 22 22 v91)) fun v92 =>
 @AM.bind AV AV (guardA v82 true (C 21 [v90, v92])) fun v93 =>
 @AM.bind AV AV (pickA v82 v93 (.bool false)) fun v94 =>
 @AM.bind AV AV (guardA v94 true (C 12 [])) fun v95 =>
 @AM.bind AV AV (pickA v94 v95 (.bool false)) fun v96 =>
 @AM.ret AV v96) (g0 r65.2 0) (g0 r65.2 1)) (cond (Nat.beq r65.1 1) (
 (fun (v97 v98 : AV) =>
 @AM.ret AV v97) (g0 r65.2 0) (g0 r65.2 1)) (.bad))) (g0 r20.2 0) (g0 r20.2 1)) (.bad)))
theorem late_is (b : Bool) (n : Int) : okT (callS Tryz.prog XX TT HH 100000 4 [.bool b, .int .i64 n] (initH (lG ++ []))) =
    okT (lateA (callS Tryz.prog XX TT HH 99999) (loopN 99999) (.bool b) (.int .i64 n) (.bool (decide (n < .ofNat 1))) (initH (lG ++ []))) := by kernel_rfl
theorem late_lo (b : Bool) (n : Int) : okT (lateA (callS Tryz.prog XX TT HH 99999) (loopN 99999) (.bool b) (.int .i64 n) (.bool true) (initH (lG ++ []))) = true := by kernel_rfl
theorem late_is2 (b : Bool) (n : Int) : okT (lateA (callS Tryz.prog XX TT HH 99999) (loopN 99999) (.bool b) (.int .i64 n) (.bool false) (initH (lG ++ []))) =
    okT (lateB (callS Tryz.prog XX TT HH 99999) (loopN 99999) (.bool b) (.int .i64 n) (.bool false) (.bool (decide (n > .ofNat 19))) (initH (lG ++ []))) := by kernel_rfl
theorem late_hi (b : Bool) (n : Int) : okT (lateB (callS Tryz.prog XX TT HH 99999) (loopN 99999) (.bool b) (.int .i64 n) (.bool false) (.bool true) (initH (lG ++ []))) = true := by kernel_rfl
theorem late_run (b : Bool) (n : Int) : okT (callS Tryz.prog XX TT HH 100000 4 [.bool b, .int .i64 n] (initH (lG ++ []))) = true := by
  by_cases h1 : n < 1
  · rw [late_is, show decide (n < .ofNat 1) = true from by simpa using h1]
    exact late_lo b n
  · by_cases h2 : n > 19
    · rw [late_is, show decide (n < .ofNat 1) = false from by simpa using h1, late_is2, show decide (n > .ofNat 19) = true from by simpa using h2]
      exact late_hi b n
    · have h3 : n = .ofNat n.toNat := by simp; omega
      have h4 : 1 ≤ n.toNat ∧ n.toNat ≤ 19 := by omega
      rw [h3]
      generalize n.toNat = k at h4
      obtain ⟨h5, h6⟩ := h4
      match k, h5, h6 with
      | 0, h, _ => omega
      | 1, _, _ => cases b; exact late_false_1; exact late_true_1
      | 2, _, _ => cases b; exact late_false_2; exact late_true_2
      | 3, _, _ => cases b; exact late_false_3; exact late_true_3
      | 4, _, _ => cases b; exact late_false_4; exact late_true_4
      | 5, _, _ => cases b; exact late_false_5; exact late_true_5
      | 6, _, _ => cases b; exact late_false_6; exact late_true_6
      | 7, _, _ => cases b; exact late_false_7; exact late_true_7
      | 8, _, _ => cases b; exact late_false_8; exact late_true_8
      | 9, _, _ => cases b; exact late_false_9; exact late_true_9
      | 10, _, _ => cases b; exact late_false_10; exact late_true_10
      | 11, _, _ => cases b; exact late_false_11; exact late_true_11
      | 12, _, _ => cases b; exact late_false_12; exact late_true_12
      | 13, _, _ => cases b; exact late_false_13; exact late_true_13
      | 14, _, _ => cases b; exact late_false_14; exact late_true_14
      | 15, _, _ => cases b; exact late_false_15; exact late_true_15
      | 16, _, _ => cases b; exact late_false_16; exact late_true_16
      | 17, _, _ => cases b; exact late_false_17; exact late_true_17
      | 18, _, _ => cases b; exact late_false_18; exact late_true_18
      | 19, _, _ => cases b; exact late_false_19; exact late_true_19
      | k + 20, _, h => omega
theorem walk4 {H : Type} {enc : TypeId × Value → H} {W : World} (hs : W.ShapedOpen Tryz.prog) (hL : laidMetH Tryz.prog Rows.connAllRow.laid W) {args : Array Value} {ds : List (DataW H)} {p : List MemPlace} {b0 : Nat}
    (hval : ∀ (j : Nat) t v, (#[4, 3] : Array TypeId)[j]? = some t → args[j]? = some v → Value.okWide Tryz.prog W .any b0 t v) (hA : DataW.TrodAll enc Tryz.prog W 0 (fun _ => true) true (#[4, 3] : Array TypeId).toList args.toList ds p) :
    Calls Tryz.prog 4 args W fun e w' => e = .returned (.bool true) ∧ Stays W w' := by
  obtain ⟨v0, v1, d0, d1, p0, p1, rfl, rfl, rfl, h0, h1⟩ := trodAll_two hA
  obtain ⟨b, rfl, _⟩ := open_bool Tryz.underlying4 (hval 0 4 v0 rfl rfl) h0
  obtain ⟨n, rfl, _⟩ := open_int Tryz.underlying3 (hval 1 3 v1 rfl rfl) h1
  exact run_law (xs := [.bool b, .int .i64 n]) (by decide) hs hL [] [] rfl (fun b x cs e => by simp at e) ⟨_, _, rfl, rfl, _, _, rfl, rfl, rfl⟩ (enters Tryz.func4 (by decide +kernel) (by decide +kernel) _ _) (late_run b n)
theorem fn_4 {H : Type} {enc : TypeId × Value → H} {W : World} {args : Array Value} {ds : List (DataW H)} {p : List MemPlace} (hA : DataW.TrodAll enc Tryz.prog W 0 (fun _ => true) true (#[4, 3] : Array TypeId).toList args.toList ds p) :
    Rows.connLateSpec.fn H (ds ++ []) = { results := [.lit (.bool true)], args := ds } := by
  obtain ⟨v0, v1, d0, d1, p0, p1, rfl, rfl, rfl, h0, h1⟩ := trodAll_two hA
  rfl
end Go.Am

namespace Go.Proofs.YtmgkfcdmpbcmkaaGreatDoor
open Go.Am Go.ChangeShapes Go.WideShapes Go.ChangeAt Go.RowKit
set_option maxRecDepth 1000000
theorem contract4 (H : Type) (enc : TypeId × Value → H) (W : World) (base : Nat) (args : Array Value) (ds gs : List (DataW H)) (before : List MemPlace)
    (hval : ∀ (j : Nat) t v, Tryz.f4.params[j]? = some t → args[j]? = some v → Value.okWide Tryz.prog W .any base t v)
    (hW : DataW.Whole enc Tryz.prog Tryz.f4.params.toList Rows.connLateSpec.vars false W args.toList ds gs before) (hL : laidMetH Tryz.prog Rows.connAllRow.laid W) (hs : W.ShapedOpen Tryz.prog) :
    Calls Tryz.prog 4 args W fun e W' => ∃ v, e = .returned v ∧ Rows.connLateSpec.post enc Tryz.prog Tryz.f4 false true false false W args v W' := by
  have hW' := hW
  obtain ⟨p, q, hA, hV, rfl, hfz, hnd⟩ := hW
  have hfn : Rows.connLateSpec.fn H (ds ++ gs) = { results := [.lit (.bool true)], args := ds } := by
    obtain ⟨rfl, rfl⟩ := trodVars_none hV
    rw [Tryz.params4] at hA
    exact fn_4 hA
  rw [Tryz.params4] at hA hval
  refine (walk4 hs hL hval hA).mono fun e W' ⟨he, hw⟩ => ?_
  subst he
  exact ⟨_, rfl, law_post laidOut hW' rfl (by kernel_rfl) Tryz.underlying4 (by decide +kernel) hfn hw⟩
theorem met4 (os : Os) : laidMet Tryz.prog Rows.connAllRow.laid ((laidWorld os).forCall (fun _ _ => 0) ⟨#[], #[.bool false, .int .i64 0], []⟩).memory :=
  laidMet_of_run' 8 (by kernel_rfl) (by kernel_rfl)
theorem reads4 (os : Os) {H : Type} (enc : TypeId × Value → H) : ∃ places, DataW.whole enc Tryz.prog ((laidWorld os).forCall (fun _ _ => 0) ⟨#[], #[.bool false, .int .i64 0], []⟩).memory Tryz.f4.params.toList Rows.connLateSpec.vars false (#[.bool false, .int .i64 0] : Array Value).toList 8 = some ([.lit (.bool false), .lit (.int .i64 0)], [], places) :=
  ⟨[], by kernel_rfl⟩
theorem wv4 (os : Os) : ((laidWorld os).forCall (fun _ _ => 0) ⟨#[], #[.bool false, .int .i64 0], []⟩).variablesRefB Tryz.prog = true := by kernel_rfl
theorem wr4 (os : Os) : (((laidWorld os).forCall (fun _ _ => 0) ⟨#[], #[.bool false, .int .i64 0], []⟩).heap.toList.drop Tryz.prog.globals.size).take ((begin Tryz.prog (fun _ _ => 0) default).world.heap.size - Tryz.prog.globals.size) =
      (begin Tryz.prog (fun _ _ => 0) default).world.heap.toList.drop Tryz.prog.globals.size := by kernel_rfl
theorem wo4 (os : Os) : Input.okWideB Tryz.prog ((laidWorld os).forCall (fun _ _ => 0) ⟨#[], #[.bool false, .int .i64 0], []⟩) 4 ⟨#[], #[.bool false, .int .i64 0], []⟩ = true := by kernel_rfl
theorem ws4 (os : Os) (H : Type) (enc : TypeId × Value → H) : (OpenSpec.ofChange Rows.connLateSpec).bare.sizedB enc Tryz.prog Tryz.f4 false ((laidWorld os).forCall (fun _ _ => 0) ⟨#[], #[.bool false, .int .i64 0], []⟩).memory #[.bool false, .int .i64 0] 8 = true := by kernel_rfl
theorem wh4 {W : World} (h : laidMet Tryz.prog Rows.connAllRow.laid W) : laidMetH Tryz.prog Rows.connLateRow.laid W := h
theorem wi4 : Tryz.checked.prog.inits.idxOf? 4 = none := by kernel_rfl
theorem wc4 (H : Type) : Rows.connLateRow.domain.all (PathCond.test Tryz.prog ⟨Tryz.f4.params.toList, [.lit (.bool false), .lit (.int .i64 0)], (OpenSpec.ofChange Rows.connLateSpec).bare.plain.varTypes Tryz.prog, ([] : List (DataW H))⟩) = true := by kernel_rfl
theorem lifted4 (os : Os) (started : os.Started) (H : Type) (enc : TypeId × Value → H) (F : Stop.Interp) :
    ReturnsInHanded {} Tryz.checked os 4 .any ((OpenSpec.ofChange Rows.connLateSpec).preRow enc Tryz.prog Tryz.f4 Rows.connLateRow.domain false Rows.connLateRow.laid) (((OpenSpec.ofChange Rows.connLateSpec).at F).post enc Tryz.prog Tryz.f4 false true false false) := by
  obtain ⟨places, hx⟩ := reads4 os enc
  refine returnsInHanded_of_row (C := Tryz.checked) (s := OpenSpec.ofChange Rows.connLateSpec) own started wi4 Tryz.func4
    (witness_row_atRef (enc := enc) (C := Tryz.checked) false (laidWorld os) #[.bool false, .int .i64 0] rfl (wv4 os) (wr4 os) (wo4 os)
      (OpenSpec.preRow_of_cond 8 hx (wc4 H) (fun k hk => by cases hk) (ws4 os H enc) (wh4 (met4 os)))) ?_
  intro W base args ds gs before hval hW _ _ _ hL hs _
  exact contract4 H enc W base args ds gs before hval hW hL hs
theorem ja4 : (Rows.connLateRow.inPlace == Tryz.pinned.checked.prog.inPlace 4) = true := by kernel_rfl
theorem jb4 : (Rows.connLateRow.unfollowed == Tryz.pinned.checked.prog.unfollowed 4) = true := by kernel_rfl
theorem jc4 : (Rows.connLateRow.recurses == Tryz.pinned.checked.prog.recurses 4) = true := by kernel_rfl
theorem jd4 : (Rows.connLateRow.named == Tryz.pinned.checked.prog.varsNamed 4) = true := by kernel_rfl
theorem joined4 : joinedFacts Tryz.pinned.checked.prog 4 Tryz.f4 (OpenSpec.ofChange Rows.connLateSpec).bare Rows.connLateRow = true := by
  unfold joinedFacts
  rw [ja4, jb4, jc4, jd4]
  kernel_rfl
theorem said4 : Rows.ConnLateSaid :=
  OpenClaim.holds_of_cond 4 Tryz.f4 rfl rfl rfl rfl rfl rfl rfl ⟨rfl, rfl, rfl, rfl, rfl⟩ rfl rfl rfl rfl rfl (by kernel_rfl) Tryz.func4 joined4
    (of_decide_eq_true (by kernel_rfl)) (by unfold Func.isWrapper; first | (rw [if_pos (by decide +kernel)]; kernel_rfl) | (rw [if_neg (by decide +kernel)]; exact ⟨rfl, rfl⟩))
    (fun os started H enc _ F => by rw [OpenClaim.pre_eq_preRow]; exact lifted4 os started H enc F)
theorem plain4 (f : FuncId) (fn : Func) (hf : Tryz.pinned.checked.prog.funcNamed "usher/usherlaw21.ConnLate" = some f) (hfn : Tryz.pinned.checked.prog.funcs[f]? = some fn) :
    true = Tryz.pinned.checked.prog.looks [] ∧ ∀ (j : Nat) t, fn.params[j]? = some t → Tryz.pinned.checked.prog.wantsStandIn t = false := by
  obtain rfl : f = 4 := Option.some.inj ((show Tryz.prog.funcNamed "usher/usherlaw21.ConnLate" = some 4 by kernel_rfl).symm.trans hf) |>.symm
  obtain rfl : fn = Tryz.f4 := (Option.some.inj (Tryz.func4.symm.trans hfn)).symm
  refine ⟨by kernel_rfl, fun j t ht => ?_⟩
  have key : (Tryz.f4.params.toList.all fun t => !Tryz.prog.wantsStandIn t) = true := by kernel_rfl
  have hm : t ∈ Tryz.f4.params.toList := by simpa using Array.mem_of_getElem? ht
  show Tryz.prog.wantsStandIn t = false
  simpa using List.all_eq_true.1 key t hm
theorem kw4 : Rows.connLateRow.wfByText (OpenSpec.ofChange Rows.connLateSpec) = true := by kernel_rfl
theorem km4 : Tryz.pinned.checked.prog.mainIs = some (Rows.connLateCard.stood.harness.1, Rows.connLateCard.stood.harness.2.toList) := by kernel_rfl
theorem kg4 : false = Rows.connLateRow.goesBy Tryz.pinned.checked.prog := by kernel_rfl
theorem connLate_holds : Rows.ConnLateCardSaid :=
  Claim7.holds_tied_plain_at .later [] _ _ _ _ said4 (fun _ h => by cases h) kw4 (fun _ h => by cases h) connLate_row_tie rfl ⟨rfl, rfl⟩ km4 rfl plain4 kg4
end Go.Proofs.YtmgkfcdmpbcmkaaGreatDoor
